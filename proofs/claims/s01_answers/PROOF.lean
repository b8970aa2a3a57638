import PyProof.Rows.All
import Wide.All
import OpenK.AllK
import Wide.FinOn
import Open.SpecLaws
import KE.OsGo
import KE.KSortTup
import HandS.ForSpec
import HandS.Comp
import HandS.Iter
import HandS.NoneIn
import HandS.ExcInit
import HandS.ExcSuper
import HandS.ExcField
import HandS.Nested
import HandS.EndTab
import HandS.TupLe
import KE.KLam
import HandS.SortOrd
import HandS.SortKw
import PySem.Challenge.RW_wrestlingmat_s01_answers
set_option Elab.async false
set_option linter.all false
set_option maxRecDepth 100000
set_option maxHeartbeats 4000000
/-! # Ground: short words for own defs, classes, constants; the heap's frames. -/
namespace Wm
open PySem PySem.Spec PyProof.Rows L2
/-! ### what the top has left -/
/-- the module's name x holds what v stands for -/
def GV (mg : Str → Option Value) (x : Str) (v : V) : Prop := ∃ u, mg x = some u ∧ RelV v u
/-- a def of the text at its name, with its promise -/
def Own (P : Program) (w : World) (K : PySem.W.Frag) (mg : Str → Option Value) (base : Heap) (CX : CXT) (k : Nat) (x : Str) (ps : List Str) (sp : Sp) : Prop :=
  ∃ (f : Addr) (fd : FuncData), FnOk P w K mg base CX k f fd ps sp ∧ mg x = some (.ref f) ∧ PySem.W.keepIn K (.ref f) = true ∧ Binds K fd ps []
/-- a class of the text at its name, with the promise of its __init__ -/
def OwnC (P : Program) (w : World) (K : PySem.W.Frag) (mg : Str → Option Value) (base : Heap) (C : Addr) (k : Nat) (x : Str) (ps : List Str) (sp : Sp) : Prop :=
  ∃ (f : Addr) (fd : FuncData), Mk K C f ∧ FnOk P w K mg base CX0 k f fd ps sp ∧ mg x = some (.ref C) ∧ Binds K fd ps []
section
variable {X : Cx} {k : Nat} {x : Str} {ps : List Str} {sp : Sp} {C : Addr} {p pos : Pos} {e : Expr} {es : List Expr} {t : TA} {v : V}
theorem pe_gl (h : GV X.mg x v) (hg : Gl X x := by rfl) (hd : (x == ("__debug__" : Str)) = false := by decide) : PE X (.Name x pos) (tC v) := by
  obtain ⟨u, h1, h2⟩ := h
  exact pe_glob hg h1 h2 hd
theorem pe_own (D : Own X.prog X.w X.K X.mg X.base CX0 k x ps sp) (hr : Room k X.A) (ha : PA X (e :: es) t) (hg : Gl X x := by rfl)
    (he : starEach (e :: es) X.env = (false, eval e X.env) :: starEach es X.env := by rfl) (hpl : (backTo pos (starEach es X.env)).any (·.1) = false := by rfl)
    (hd : (x == ("__debug__" : Str)) = false := by decide) :
    PE X (.Call (.Name x p) (e :: es) [] pos) (tCall sp [] E0 t) := by
  obtain ⟨f, fd, F, hm, hk, hb⟩ := D
  exact pe_call F hr hg hm hk hb .nil pass0 ha (hdb := hd) (he := he) (hpl := hpl)
theorem pe_ownX {W : WX} {E : XK} (D : Own X.prog X.w X.K X.mg X.base (L2.CX X.prog X.w) k x ps sp) (hr : Room k X.A) (tk : Takes X W) (hW : ∀ cls d σ H, E cls d H → W cls d σ H) (ha : PA X (e :: es) t) (hg : Gl X x := by rfl)
    (he : starEach (e :: es) X.env = (false, eval e X.env) :: starEach es X.env := by rfl) (hpl : (backTo pos (starEach es X.env)).any (·.1) = false := by rfl)
    (hd : (x == ("__debug__" : Str)) = false := by decide) :
    PE X (.Call (.Name x p) (e :: es) [] pos) (tCall sp [] E t) := by
  obtain ⟨f, fd, F, hm, hk, hb⟩ := D
  exact pe_call F hr hg hm hk hb .nil (passes_call tk hW) ha (hdb := hd) (he := he) (hpl := hpl)
theorem pe_new (D : OwnC X.prog X.w X.K X.mg X.base C k x ps sp) (hr : Room (k + 1) X.A) (ha : PA X (e :: es) t) (hg : Gl X x := by rfl)
    (he : starEach (e :: es) X.env = (false, eval e X.env) :: starEach es X.env := by rfl) (hpl : (backTo pos (starEach es X.env)).any (·.1) = false := by rfl)
    (hd : (x == ("__debug__" : Str)) = false := by decide) :
    PE X (.Call (.Name x p) (e :: es) [] pos) (tMake C sp [] E0 t) := by
  obtain ⟨f, fd, M, F, hm, hb⟩ := D
  exact pe_make M F hr hg hm hb .nil pass0 ha (hdb := hd) (he := he) (hpl := hpl)
theorem pe_new0 (D : OwnC X.prog X.w X.K X.mg X.base C k x ps sp) (hr : Room (k + 1) X.A) (hg : Gl X x := by rfl) (hd : (x == ("__debug__" : Str)) = false := by decide) :
    PE X (.Call (.Name x p) [] [] pos) (tMake C sp [] E0 tNil) := by
  obtain ⟨f, fd, M, F, hm, hb⟩ := D
  exact pe_make0 M F hr hg hm hb .nil pass0 (hdb := hd)
end
/-! ### an if whose test is known -/
theorem if_t {c : Bool} {A B : Prop} (hc : c = true) (h : A) : if c = true then A else B := by
  rw [if_pos hc]
  exact h
theorem if_f {c : Bool} {A B : Prop} (hc : c = false) (h : B) : if c = true then A else B := by
  rw [hc, if_neg Bool.false_ne_true]
  exact h
theorem if_d {c : Prop} [Decidable c] {A B : Prop} (h1 : c → A) (h2 : ¬ c → B) : if decide c = true then A else B := by
  by_cases h : c
  · rw [if_pos (decide_eq_true h)]
    exact h1 h
  · rw [if_neg (by simpa using h)]
    exact h2 h
theorem if_nd {c : Prop} [Decidable c] {A B : Prop} (h1 : ¬ c → A) (h2 : c → B) : if (!decide c) = true then A else B := by
  by_cases h : c
  · rw [if_neg (by simpa using h)]
    exact h2 h
  · rw [if_pos (by simpa using h)]
    exact h1 h
/-! ### frames -/
/-- all that was tracked outside D is as it was -/
def Keep (D : List Addr) (H H' : Hp) : Prop := ∀ q o, H q = some o → q ∉ D → H' q = some o
theorem Keep.of {D : List Addr} {H H' : Hp} (s : Same H H') : Keep D H H' := fun q o h _ => s q o h
theorem Keep.same {H H' : Hp} (s : Keep [] H H') : Same H H' := fun q o h => s q o h (by simp)
theorem Keep.trans {D : List Addr} {H H1 H2 : Hp} (a : Keep D H H1) (b : Keep D H1 H2) : Keep D H H2 := fun q o h n => b q o (a q o h n) n
theorem Keep.mono {D D' : List Addr} {H H' : Hp} (a : Keep D H H') (h : ∀ q ∈ D, q ∈ D') : Keep D' H H' := fun q o e n => a q o e fun z => n (h q z)
theorem same_new {H : Hp} {p : Addr} {o : HO} (h : H p = none) : Same H (upd H p o) := fun q u e => by
  rw [upd_ne (ne_of_none e h)]
  exact e
theorem same_set {H0 H : Hp} {p : Addr} {o : HO} (s : Same H0 H) (h : H0 p = none) : Same H0 (upd H p o) := fun q u e => by
  rw [upd_ne (ne_of_none e h)]
  exact s q u e
theorem Keep.set {D : List Addr} {H : Hp} {p : Addr} {o : HO} (h : p ∈ D) : Keep D H (upd H p o) := fun q u e n => by
  rw [upd_ne (fun z => n (by rw [z]; exact h))]
  exact e
/-- a new object: all goes on over any heap that has it and keeps the rest -/
theorem newly {H : Hp} {p : Addr} {o : HO} {G : Hp → Prop} (hp : H p = none) (h : ∀ H1, Same H H1 → H1 p = some o → G H1) : G (upd H p o) := h _ (same_new hp) upd_same
/-- lookups in a written list of attributes -/
theorem lk0 {k : Str} {v : V} {r : List (Str × V)} : List.lookup k ((k, v) :: r) = some v := by
  have e : (k == k) = true := beq_self_eq_true k
  simp only [List.lookup, e]
theorem lkS {k g : Str} {v : V} {r : List (Str × V)} (h : (k == g) = false) : List.lookup k ((g, v) :: r) = List.lookup k r := by
  simp only [List.lookup, h]
theorem put0 {f : Str} {v x : V} {r : List (Str × V)} : putF f v ((f, x) :: r) = (f, v) :: r := if_pos rfl
theorem putS {f g : Str} {v x : V} {r : List (Str × V)} (h : ¬ g = f) : putF f v ((g, x) :: r) = (g, x) :: putF f v r := if_neg h
end Wm
/-! # Two rules more: a list extended by a tuple; tuples of whole numbers by > -/
namespace Wm
open PySem PySem.Spec PyProof.Rows L2
/-- the greater of two rows of numbers, as many in each -/
def gtL : List Int → List Int → Bool
  | x :: xs, y :: ys => if x = y then gtL xs ys else decide (y < x)
  | _, _ => false
theorem lexAt_gtL : ∀ (ns ms : List Int) (i k : Nat), ns.length = k → ms.length = k → ∀ (NS MS : List Int), NS.drop i = ns → MS.drop i = ms →
    Ob.lexAt (fun j => decide (NS.getD j 0 = MS.getD j 0)) (fun j => decide (MS.getD j 0 < NS.getD j 0)) false i k = gtL ns ms
  | [], [], i, k, h1, h2, NS, MS, d1, d2 => by
    have e : k = 0 := by simpa using h1.symm
    subst e
    exact Ob.lexAt_zero
  | [], y :: ys, i, k, h1, h2, NS, MS, d1, d2 => by
    simp at h1 h2
    omega
  | x :: xs, [], i, k, h1, h2, NS, MS, d1, d2 => by
    simp at h1 h2
    omega
  | x :: xs, y :: ys, i, 0, h1, h2, NS, MS, d1, d2 => by
    simp at h1
  | x :: xs, y :: ys, i, k + 1, h1, h2, NS, MS, d1, d2 => by
    have ih := lexAt_gtL xs ys (i + 1) k (by simpa using h1) (by simpa using h2) NS MS (by rw [← List.drop_drop, d1]; rfl) (by rw [← List.drop_drop, d2]; rfl)
    have a1 : NS.getD i 0 = x := by
      have q : NS[i]? = some x := by
        have z := congrArg (fun l => l[0]?) d1
        simpa using z
      simp [List.getD, q]
    have a2 : MS.getD i 0 = y := by
      have q : MS[i]? = some y := by
        have z := congrArg (fun l => l[0]?) d2
        simpa using z
      simp [List.getD, q]
    rw [Ob.lexAt_succ, ih, a1, a2]
    show (if decide (x = y) = true then gtL xs ys else decide (y < x)) = if x = y then gtL xs ys else decide (y < x)
    by_cases h : x = y
    · rw [if_pos h, if_pos (decide_eq_true h)]
    · rw [if_neg h, if_neg (by simpa using h)]
/-- t > u, as many numbers in each -/
def rGtT (K : PySem.W.Frag) : R2 := fun x y H Q => ∃ (a b : Addr) (ns ms : List Int), x = .ref a ∧ y = .ref b ∧ SqT K H a (ns.map V.int) ∧ SqT K H b (ms.map V.int) ∧ ns.length = ms.length ∧ Q (.bl (gtL ns ms)) H
theorem op_gtT {X : Cx} (hu : X.A.units < cLine) : OpR X (compareOp .Gt) (rGtT X.K) := by
  intro pins s σ H x y v u Q I rx ry h
  obtain ⟨a, b, ns, ms, rfl, rfl, ha, hb, hl, q⟩ := h
  cases rx
  cases ry
  obtain ⟨iA, r1, p1, _⟩ := I.tuple ha
  obtain ⟨iB, r2, p2, _⟩ := I.tuple hb
  have i1 : IntsAre iA ns := Vals.ints r1
  have i2 : IntsAre iB ms := Vals.ints r2
  have e1 : iA.toArray.size = ns.length := (List.size_toArray ..).trans i1.length
  have e2 : iB.toArray.size = ms.length := (List.size_toArray ..).trans i2.length
  have g1 : ∀ j (hj : j < iA.toArray.size), ∃ t, iA.toArray[j] = .int (ns.getD j 0) t := fun j hj => PyProof.Rows.IntsAre.int_at i1 _ _ (by simp at hj; simp [hj])
  have g2 : ∀ j (hj : j < iB.toArray.size), ∃ t, iB.toArray[j] = .int (ms.getD j 0) t := fun j hj => PyProof.Rows.IntsAre.int_at i2 _ _ (by simp at hj; simp [hj])
  have eqz : ∀ c d : Int, (c == d) = decide (c = d) := fun c d => by
    by_cases q : c = d
    · rw [decide_eq_true q]
      exact beq_iff_eq.mpr q
    · rw [decide_eq_false q]
      exact beq_eq_false_iff_ne.mpr q
  have R := Ob.RcOp.tuples_gt (A := X.A) (s := s) (e := fun j => decide (ns.getD j 0 = ms.getD j 0)) (r := fun j => decide (ms.getD j 0 < ns.getD j 0)) p1 p2 hu (fun j ha hb => by
    obtain ⟨t, et⟩ := g1 j ha
    obtain ⟨t', et'⟩ := g2 j hb
    rw [et, et', ← eqz]
    exact SeqAt.EqAt.int_int _ _ _ _) (fun j ha hb _ => by
    obtain ⟨t, et⟩ := g1 j ha
    obtain ⟨t', et'⟩ := g2 j hb
    rw [et, et']
    exact Ob.RcOp.gt_int _ _ _ _)
  have ez : decide (iA.toArray.size > iB.toArray.size) = false := decide_eq_false (by omega)
  have em : min iA.toArray.size iB.toArray.size = ns.length := by omega
  rw [ez, em, lexAt_gtL ns ms 0 ns.length rfl hl.symm ns ms rfl rfl] at R
  have z : wpAny (model X.prog X.w) X.A (compareOp .Gt (.ref a) (.ref b)) (EP X pins σ Q) X.xe s := R X.prog X.w X.xe (EP X pins σ Q) ⟨.bl _, H, I, rfl, q⟩
  exact z
/-- the library's list.extend at a list and a tuple, whatever dict and slots the tuple bears -/
theorem extend_tuple (l : Addr) (items : Array Value) (n : Nat) (b : Addr) (items2 : Array Value) (n2 : Nat) (dd : Option Addr) (sl : Array (Option Value)) (hs0 : ¬(!items.isEmpty && Builtin.List.listTooLong (items.size + items2.size)) = true) (hs1 : items.size ≤ sizeLine)
    (hs2 : items.size + items2.size ≤ sizeLine) : Meets (Builtin.«list.extend» ⟨[.ref l, .ref b], []⟩) (fun _ R s => s.heap.get? l = some { cls := .type "list", data := .seq items n } ∧ s.heap.get? b = some { cls := .type "tuple", dict := dd, data := .seq items2 n2, slots := sl } ∧
      R (.ok (.ret Value.none)) { s with heap := s.heap.update l (Obj.mapSeq fun x => x ++ items2), toks := s.toks }) :=
  .of_wp fun prog w A R s h => by
    obtain ⟨hp, g, d, tk, os⟩ := s
    obtain ⟨hl, hb, h⟩ := h
    have f1 := AutoSeq1.idx_int
    have f2 := AutoSeq1.sub_tuple_tuple
    have f3 := AutoSeq1.sub_list_list
    have f4 := AutoSeq1.sub_tuple_list
    have f5 := AutoSeq1.sub_list_tuple
    have hz : (items ++ items2).size ≤ sizeLine + 1 := by
      rw [Array.size_append]
      omega
    wp_walk using (wpAny_updateSeq hl rfl (hz := hs1) (_hz' := hz)), AutoSeq1.wpAny_loadPart' hl, AutoSeq1.wpAny_loadPart' hb
    exact ⟨_, rfl, h⟩
/-- xs.extend(t), t a tuple -/
def rExtendT (K : PySem.W.Frag) : V → List V → Hp → VK → Prop := fun x vs H Q => ∃ (l b : Addr) (xs zs : List V), x = .ref l ∧ vs = [.ref b] ∧ H l = some (.lst xs) ∧ H b = some (.tup zs) ∧ xs.length + zs.length ≤ sizeLine ∧ Q .non (upd H l (.lst (xs ++ zs)))
theorem mt_extendT {X : Cx} : MtM X "list.extend" (rExtendT X.K) := by
  intro pins s σ H x vs v us Q I rx rv h
  obtain ⟨l, b, xs, zs, rfl, rfl, hH, hB, hz, q⟩ := h
  cases rx
  obtain ⟨u, rfl, ru⟩ := rv.one
  cases ru
  obtain ⟨z, iA, n, r, hl, e⟩ := I.lstM hH
  obtain ⟨iB, r2, p2, _⟩ := I.tuple (SqT.of (K := X.K) hB)
  obtain ⟨⟨cls2, dd2, data2, sl2⟩, ho2, hc2, n2, hd2⟩ := id p2
  simp only at hc2 hd2
  subst hc2 hd2
  have lB := r2.length
  have hsz : iA.toArray.size + iB.toArray.size ≤ sizeLine := by
    rw [List.size_toArray, List.size_toArray]
    omega
  have hlong : ¬ (!iA.toArray.isEmpty && Builtin.List.listTooLong (iA.toArray.size + iB.toArray.size)) = true := by
    rw [notLongL hsz, Bool.and_false]
    exact Bool.false_ne_true
  refine call_meets PySem.F.slot_list_extend ⟨_, e, rfl⟩ PySem.F.entry_list_extend (PySem.F.args_list_extend_2 _ _) (extend_tuple l iA.toArray n b iB.toArray n2 dd2 sl2 hlong (by omega) hsz) ⟨e, ho2, ?_⟩
  refine ⟨.non, _, I.lset (its' := iA ++ iB) hH e (by simp) (r.append r2) ?_, rfl, q⟩
  rw [List.length_append]
  omega
end Wm
/-! # An own error over Exception whose __init__ names Exception.__init__ and stores one attribute -/
namespace Wm
open PySem PySem.Spec PyProof.Rows L2
theorem typ_Ex : typeOf (.type "Exception") = pure (.type "type") := by kernel_rfl
theorem init_Ex (K : PySem.W.Frag) : PySem.W.findCls K (.type "Exception") (.type "type") "__init__" = some (.val (.builtin "Exception.__init__")) := by kernel_rfl
/-- what the written part says of the class -/
structure ExC (K : PySem.W.Frag) (C : Addr) : Prop where
  cls : ∃ nm q N bs sn sub ab col dd k0 k1 k2 k3 k5, K.lookup C = some (excClassObj nm q C N bs PySem.ESX.exTail true sn sub ab col dd k0 k1 k2 k3 k5 "Exception.__new__")
  sa : PySem.W.findIn K (.ref C) "__setattr__" = some (some (.builtin "object.__setattr__"))
  exC : PySem.W.subIn K (.ref C) (.type "BaseException") = some true
  tyC : PySem.W.typeIn K (.ref C) = some (.type "type")
  kC : PySem.W.keepIn K (.ref C) = true
section
variable {X : Cx} {pins : List (Addr × Obj)} {σ : L2.St} {H : Hp} {s : Shared} {a C dx : Addr} {f : Str} {y : V} {u : Value} {fs : List (Str × V)} {E : Value → Shared → Prop} {A : Around}
/-- self.f = y, the first one -/
theorem set_first {Q : Unit → Shared → Prop} (T : ExC X.K C) (I : L2.Inv X pins σ H s) (e : H a = some (exo a C none)) (hno : PySem.W.findIn X.K (.ref C) f = some none) (ry : RelV y u)
    (h : ∀ dx s', H dx = none → dx ≠ a → L2.Inv X pins σ (upd (upd H dx (exd dx [(f, y)])) a (exo a C (some dx))) s' → Q () s') : wpAny (model X.prog X.w) A (setAttr (.ref a) f u) Q E s := by
  obtain ⟨nm, q, N, bs, sn, sub, ab, col, dd, k0, k1, k2, k3, k5, hC⟩ := T.cls
  have hcl : PySem.W.clsIn X.K C = some { name := nm, bases := bs, mro := .ref C :: PySem.ESX.exTail, ns := N, qualname := q, hasDict := true, slotNames := sn, subclasses := sub, abstract := ab, collection := col, hasDel := false } := by
    unfold PySem.W.clsIn
    rw [hC] <;> rfl
  obtain ⟨t1, ho⟩ := exo_at I.hok e
  obtain ⟨hp, g, d, t, os⟩ := s
  refine PySem.W.set_plain I.kIn (ox := { cls := .ref C, dict := none, data := .fields #[.ref t1, .none, .none, .none, .bool false, .none] }) (od := none) ⟨ho, rfl, rfl, trivial⟩ T.sa ?_
  refine PySem.ESX.osa_new I.kIn ho hcl rfl rfl hno (fun h' tk' dx k dn dne hx hn => ?_)
  have hnd : H dx = none := I.hok.fresh dn
  have nd : ∀ {b : Addr} {o : Obj}, hp.get? b = some o → b ≠ dx := fun {b o} z => Nat.ne_of_lt (Nat.lt_of_lt_of_le (Heap.lt_size z) dn)
  have na : ∀ {b : Addr}, H b = none → b ≠ a := fun {b} n z => by
    rw [z, e] at n
    cases n
  have U : Un X.fs [] H (upd (upd H dx (exd dx [(f, y)])) a (exo a C (some dx))) hp h' := by
    refine { keep := fun b o z n _ _ => k b o (na n) z, slot := fun b o z n _ _ => ⟨o.slots, k b o (na n) z⟩, free := fun b o z n _ => ?_, there := fun b o z _ => ?_, tups := fun b xs z => ?_, frzs := fun b o v z => ?_, tbls := fun b ps z => ⟨#[], ?_⟩ }
    · rw [upd_ne (na n), upd_ne (nd z)]
      exact n
    · by_cases hb : b = a
      · exact ⟨_, by rw [hb]; exact hx⟩
      · exact ⟨o, k b o hb z⟩
    · rw [upd_ne (at_ne e z exo_tup), upd_ne (ne_of_none z hnd)]
      exact z
    · rw [upd_ne (at_ne e z exo_frz), upd_ne (ne_of_none z hnd)]
      exact z
    · rw [upd_ne (at_ne e z exo_tbl), upd_ne (ne_of_none z hnd), z]
      simp
  refine h dx _ hnd dne (I.un (t' := tk') U fun b o z => ?_)
  by_cases hb : b = a
  · subst hb
    rw [upd_same] at z
    cases z
    exact exo_ok hx
  rw [upd_ne hb] at z
  by_cases hd : b = dx
  · subst hd
    rw [upd_same] at z
    cases z
    exact exd_ok hn (relO_put (fs := []) ry fun g => True.intro)
  rw [upd_ne hd] at z
  refine (I.hok b o z).stay (fun c v hc w => k c v ?_ w) (fun c hc => ?_) fun c xs hc => ?_
  · rcases hc with hc | hc
    · rw [hc]
      exact hb
    · exact at_ne e hc exo_own
  · rw [upd_ne (at_ne e hc exo_own), upd_ne (ne_of_none hc hnd)]
    exact hc
  · rw [upd_ne (at_ne e hc exo_tup), upd_ne (ne_of_none hc hnd)]
    exact hc
/-- Exception.__init__(self, ..): nothing of it is told -/
theorem init_told {us : List Value} {Q : Value → Shared → Prop} (T : ExC X.K C) (I : L2.Inv X pins σ H s) (e : H a = some (exo a C none)) (hl : us.length ≤ sizeLine) (h : ∀ s', L2.Inv X pins σ H s' → Q .none s') :
    wpAny (model X.prog X.w) A (call (.builtin "Exception.__init__") (.ref a :: us)) Q E s := by
  obtain ⟨nm, q, N, bs, sn, sub, ab, col, dd, k0, k1, k2, k3, k5, hC⟩ := T.cls
  obtain ⟨t1, ho⟩ := exo_at I.hok e
  obtain ⟨hp, g, d, t, os⟩ := s
  refine wpAny_call (PySem.HandSPX.init_base PySem.F.excBase_Exception (fun Y => rfl) (I.kIn _ _ hC) ho hl fun h' t2 k hx => ?_)
  have J := I.write (t' := t) (x := a) (e := a) (o := exo a C none) (by rw [e]; exact True.intro) (.inl rfl) k ⟨_, hx⟩ (exo_ok hx)
  have eu : upd H a (exo a C none) = H := by
    funext b
    by_cases hb : b = a
    · rw [hb, upd_same, e]
    · rw [upd_ne hb]
  rw [eu] at J
  exact h _ J
end
/-- Exception.__init__(self, ..) -/
def tExI (K : PySem.W.Frag) (ta : TA) : TE := fun σ H Q => ta σ H fun vs H1 => ∃ (a C : Addr) (ws : List V), vs = .ref a :: ws ∧ ws.length ≤ 1000 ∧ ExC K C ∧ H1 a = some (exo a C none) ∧ Q .non H1
/-- self.f = e, the first attribute -/
def tSet1 (K : PySem.W.Frag) (f : Str) (to te : TE) : TS := fun D σ H => te σ H fun y H1 => to σ H1 fun x H2 => ∃ a C : Addr, x = .ref a ∧ ExC K C ∧ PySem.W.findIn K (.ref C) f = some none ∧
  H2 a = some (exo a C none) ∧ ∀ dx, H2 dx = none → dx ≠ a → D.nx σ (upd (upd H2 dx (exd dx [(f, y)])) a (exo a C (some dx)))
section
variable {X : Cx} {o e : Expr} {es : List Expr} {to te : TE} {ta : TA} {f : Str} {p p' p1 p2 pos : Pos}
theorem pe_exinit {pl : Sem Bool} (hm : X.mg "Exception" = none) (ha : PA X (e :: es) ta) (hg : Gl X "Exception" := by rfl)
    (hc : eval (.Call (.Attribute (.Name "Exception" p1) "__init__" p2) (e :: es) [] pos) X.env = (do
      let ov ← eval (.Name "Exception" p1) X.env
      standAt p2.atName
      let (f, first) ← holding [ov] (getMethod ov "__init__" pl)
      callWith pos f first (backTo pos (starEach (e :: es) X.env)) (backToKw pos (keywordEach [] X.env))) := by rfl)
    (he : starEach (e :: es) X.env = (false, eval e X.env) :: starEach es X.env := by rfl) (hpl : (backTo pos (starEach es X.env)).any (·.1) = false := by rfl) :
    PE X (.Call (.Attribute (.Name "Exception" p1) "__init__" p2) (e :: es) [] pos) (tExI X.K ta) := by
  refine ⟨fun pins s σ H Q I h => ?_⟩
  refine PySem.W.methodCall_KW (ld_blt I hg hm PyProof.Rows.Boot.«Exception» ?_ (by decide) (by decide)) hc
  obtain ⟨m, fr⟩ := I.fr
  refine PySem.W.method_type fr I.ok.mod.kin typ_Ex (by decide +kernel) (init_Ex X.K) (by decide +kernel) ?_
  show wpAny _ _ (callWith pos (Value.builtin "Exception.__init__") [] (backTo pos (starEach (e :: es) X.env)) []) _ _ _
  refine PyProof.Rows.callWith_method1 (thn (ha.run pos pins _ σ H _ (I.tok _) h) fun us s1 ⟨vs, H1, I1, r1, a, C, ws, ev, hl, T, ea, q⟩ => ?_) he hpl
  subst ev
  cases r1 with
  | @cons _ u0 _ ur ra rest =>
    obtain rfl : u0 = Value.ref a := ra
    have hlen : ur.length ≤ sizeLine := by
      rw [← Paired.length rest, sizeLine_eq]
      omega
    exact init_told T I1 ea hlen fun s' J => ⟨.non, H1, J, rfl, q⟩
theorem ps_set1 (ho : PE X o to) (he : PE X e te) (hs : swapsWith e (some (.Attribute o f p')) pos.line X.env = pure false := by rfl) : PS X (.Assign [.Attribute o f p'] e pos) (tSet1 X.K f to te) := by
  refine ⟨fun pins s σ H D I h => ?_⟩
  refine plainObj_wpAny_Assign_Attribute (thn (he.run pins s σ H _ I h) fun v s1 ⟨y, H1, I1, r1, q1⟩ => thn (ho.run pins s1 σ H1 _ I1 q1) fun u s2 ⟨x, H2, I2, r2, a, C, ex, T, hno, ea, q⟩ => ?_) hs
  subst ex
  obtain rfl : u = Value.ref a := r2
  exact set_first T I2 ea hno r1 fun dx s' n ne J => ⟨σ, _, J, q dx n ne⟩
/-- C(e, ..), its own __init__ keeping sp -/
theorem pmk_ex {CX : CXT} {x : Str} {C fI : Addr} {k : Nat} {fd : FuncData} {ps : List Str} {sp : Sp} (T : ExC X.K C) (iC : PySem.W.findIn X.K (.ref C) "__init__" = some (some (.ref fI))) (tI : PySem.W.typeIn X.K (.ref fI) = some (.type "function"))
    (F1 : FnOk X.prog X.w X.K X.mg X.base CX k fI fd ps sp) (hr : Room (k + 1) X.A) (hb : Binds X.K fd ps []) (hx : Passes CX X (fun _ _ _ => False)) (hm : X.mg x = some (.ref C)) (ha : PA X (e :: es) ta) (hg : Gl X x := by rfl)
    (hdb : (x == ("__debug__" : Str)) = false := by decide) (he : starEach (e :: es) X.env = (false, eval e X.env) :: starEach es X.env := by rfl) (hpl : (backTo pos (starEach es X.env)).any (·.1) = false := by rfl) :
    PMk X (.Call (.Name x p) (e :: es) [] pos) (tMkO C sp [] ta) := by
  intro pins s σ H Q I h
  obtain ⟨nm, q, N, bs, sn, sub, ab, col, dd, k0, k1, k2, k3, k5, hC⟩ := T.cls
  refine wpAny_Call_Name_kw (ld_glob I hg hm ?_ hdb)
  refine PySem.W.callWith_K (h₀ := X.base) I.ok.mod.kin T.kC (thn (ha.run pos pins s σ H _ I h) fun us s1 ⟨vs, H1, I1, r1, hz, q1⟩ => ⟨I1.kIn, ?_⟩) he hpl
  show wpAny _ _ (call (.ref C) us) _ _ _
  obtain ⟨hp, g, dr, tk, os⟩ := s1
  have hsz : hp.objs.size ≤ hp.objs.size + 1 := Nat.le_succ _
  have hn : H1 (hp.objs.size + 1) = none := I1.hok.fresh hsz
  have hq := q1 (hp.objs.size + 1) hn
  rw [List.append_nil] at hq
  have kk : ∀ b o, hp.get? b = some o → ((hp.push (PySem.W.kdv_tup us)).push (PySem.HandSPX.excO C hp.objs.size)).get? b = some o := fun b o z => Heap.get?_push_of_some _ (Heap.get?_push_of_some _ z)
  have hget : ((hp.push (PySem.W.kdv_tup us)).push (PySem.HandSPX.excO C hp.objs.size)).get? (hp.objs.size + 1) = some (PySem.HandSPX.excO C hp.objs.size) := by heap_get
  have I2 : L2.Inv X pins σ (upd H1 (hp.objs.size + 1) (exo (hp.objs.size + 1) C none)) ⟨(hp.push (PySem.W.kdv_tup us)).push (PySem.HandSPX.excO C hp.objs.size), g, dr, tk, os⟩ :=
    I1.laid (t' := tk) (a := hp.objs.size + 1) (o := exo (hp.objs.size + 1) C none) (h' := (hp.push (PySem.W.kdv_tup us)).push (PySem.HandSPX.excO C hp.objs.size)) kk hsz (exo_ok hget)
  have r2 : Vals (V.ref (hp.objs.size + 1) :: vs) (Value.ref (hp.objs.size + 1) :: us) := .cons rfl r1
  have hl : (Value.ref (hp.objs.size + 1) :: us ++ []).length = ps.length := by
    rw [List.append_nil]
    have z := r2.length
    rw [F1.len _ _ _ _ hq] at z
    exact z.symm
  have hus : us.length ≤ sizeLine := by
    rw [← Paired.length r1, sizeLine_eq]
    omega
  have bb := hb _ (Value.ref (hp.objs.size + 1) :: us) I2.kIn hl
  refine wpAny_call (PySem.HandSPX.call_own PySem.F.excBase_Exception (fun Y => rfl) (I1.kIn _ _ hC) (PySem.W.looks_findIn I1.kIn iC) (fun self => PySem.W.bind_fn I1.kIn self tI) hus
    (codeAny_mono (F1.run _ X.stack _ _ ⟨Value.ref (hp.objs.size + 1) :: us, []⟩ (Value.ref (hp.objs.size + 1) :: us ++ []) (V.ref (hp.objs.size + 1) :: vs) _ (fun _ _ _ => False) (hr.make C us []) (I2.env0.make C us []) bb (by rw [List.append_nil]; exact r2) hq) fun r s' hq' => ?_))
  cases r with
  | error er => exact hx pins σ _ _ er s' I2 hq'
  | ok fl =>
    cases fl with
    | ret u =>
      obtain ⟨v, H2, os2, bare2, un2, hok2, rv, ev, d, fs, ea, ed, hd1, q2⟩ := hq'
      subst ev
      obtain ⟨h2, g2, d2, t2, os'⟩ := s'
      exact ⟨rv, mk_end (raises_own T.exC T.tyC) I1 hsz kk un2 hok2 os2 bare2 ea ed hd1 q2⟩
    | next => exact False.elim hq'
    | brk => exact False.elim hq'
    | cont => exact False.elim hq'
end
end Wm
/-! # The end of a Spec row where one def makes a lambda: its code object's table is tracked -/
namespace Wm
open PySem PySem.Spec PyProof.Rows L2
open PySem.W (WData Codec OpenSpec Well WellAll ReadsW)
theorem same_tup {K : PySem.W.Frag} {H H' : Hp} {a : Addr} {xs : List V} (e : Same H H') (h : SqT K H a xs) : SqT K H' a xs := by
  rcases h with (h | ⟨o, h⟩) | h
  · exact .inl (.inl (e _ _ h))
  · exact .inl (.inr ⟨o, e _ _ h⟩)
  · exact .inr h
mutual
theorem dw_more {K : PySem.W.Frag} {H H2 : Hp} (s : Same H H2) : ∀ {v : V} {d : WData}, Dw K H v d → Dw K H2 v d
  | _, _, .non => .non
  | _, _, .bl b => .bl b
  | _, _, .int i => .int i
  | _, _, .str x => .str x
  | _, _, .byt b => .byt b
  | _, _, .lst h1 h2 => .lst (s.seq h1) (dw_mores s h2)
  | _, _, .tup h1 h2 => .tup (same_tup s h1) (dw_mores s h2)
theorem dw_mores {K : PySem.W.Frag} {H H2 : Hp} (s : Same H H2) : ∀ {vs : List V} {ds : List WData}, DwAll K H vs ds → DwAll K H2 vs ds
  | _, _, .nil => .nil
  | _, _, .cons h1 h2 => .cons (dw_more s h1) (dw_mores s h2)
end
/-- nothing but what is handed in (locked) and the table at P -/
def OnlyT (P : Addr) (H : Hp) : Prop := ∀ b, H b = none ∨ b = P ∨ ∃ o u, H b = some (.frz o u)
theorem call_tab {Pr : Program} {w : World} {K : PySem.W.Frag} {mg mb : Str → Option Value} {CX : CXT} {k : Nat} {fa c P : Addr} {fd : FuncData} {ps : List Str} {sp : Sp} {s1 : Shared} {vals : List Value} {ds : List WData} {R : PySem.W.WRecords} {cl : Str → Option Addr} {d0 : WData}
    (KX : K.In s1.heap) (hns : s1.heap.Ns mainGlobals mg) (hb : s1.heap.Ns builtinsNs mb) (hbb : ∀ x : Str, x ≠ "__name__" → mb x = bootBuiltins x) (hlim : s1.heap.NoLimit) (hg : s1.gens = #[])
    (hT : s1.heap.get? P = some { cls := .none, data := .fields #[] }) (nT : K.lookup P = none) (C : PySem.W.CodeHd s1.heap c P)
    (hbm : ∃ (bm : Addr) (ob : Obj), mg "__builtins__" = some (.ref bm) ∧ bm ≠ builtinsNs ∧ s1.heap.get? bm = some ob ∧ ob.cls = .type "module" ∧ ob.dict = some builtinsNs ∧ ob.data = .plain)
    (hwl : WellAll w.params s1.heap vals ds) (hpl : plWs ds = true) (hwt : ∀ d ∈ ds, d.weight ≤ 1048576) (hr : Room k callerA)
    (F : ∀ base : Heap, K.In base → base.Ns mainGlobals mg → LamX.TabB base mg c P → FnOk Pr w K mg base CX k fa fd ps sp) (hbind : ∀ (s : Shared) (us : List Value), us.length = ps.length → BindsTo s fd ⟨us, []⟩ (ps.zip us)) (hlen : ds.length = ps.length)
    (hsp : ∀ (H : Hp) (xs : List V), OnlyT P H → H P = some (.tbl #[]) → DwAll K H xs ds → sp xs H (fun v H' => Dw K H' v d0) fun _ _ _ => False)
    (hCX : ∀ H e s', CX [] H s1 (fun _ _ _ => False) e s' → False) :
    codeAny (model Pr w) callerA (.call (.ref fa) ⟨vals, []⟩) (fun r s' => ∃ u as, r = .ok (.ret u) ∧ ReadsW R cl s'.heap u d0 as ∧ OldK s1.heap s'.heap ∧ s'.os = s1.os ∧ AllBare s'.gens) s1 := by
  obtain ⟨A, ho, ar⟩ := area_all ds vals hwl hpl hwt
  have hS0 := dw_all KX ar ds vals hwl hpl ho
  have hV := vals_toV ho
  have nP : argH K s1.heap A P = none := by
    cases q : argH K s1.heap A P with
    | none => rfl
    | some u =>
      obtain ⟨_, vs, _, _, ⟨e2, _⟩ | ⟨e2, _⟩⟩ := argH_is ar q
      · rw [e2] at hT
        cases hT
      · rw [e2] at hT
        cases hT
  obtain ⟨H, eH⟩ : ∃ H : Hp, H = upd (argH K s1.heap A) P (.tbl #[]) := ⟨_, rfl⟩
  have sH : Same (argH K s1.heap A) H := by
    rw [eH]
    exact same_new nP
  have hP : H P = some (.tbl #[]) := by rw [eH, upd_same]
  have hne : ∀ b, b ≠ P → H b = argH K s1.heap A b := fun b n => by rw [eH, upd_ne n]
  have hS : DwAll K H (vals.map toV) ds := dw_mores sH hS0
  have hO : OnlyT P H := fun b => by
    by_cases hbP : b = P
    · exact .inr (.inl hbP)
    · rw [hne b hbP]
      rcases argH_only ar b with z | z
      · exact .inl z
      · exact .inr (.inr z)
  have hok : HOk Pr w H s1.heap := fun b u q => by
    by_cases hbP : b = P
    · subst hbP
      rw [hP] at q
      cases q
      exact hT
    · rw [hne b hbP] at q
      have z : ObjOk Pr w (argH K s1.heap A) s1.heap b u := argH_ok (P := Pr) (w := w) ar b u q
      refine z.stay (fun d v _ y => y) (fun d y => ?_) fun d xs y => ?_
      · exact sH _ _ y
      · exact sH _ _ y
  have base0 : ∀ {b : Addr} {o : Obj} {u : HO}, s1.heap.get? b = some o → H b = some u → b = P ∨ ∃ vs n, o.data = .seq vs n := fun {b o u} e q => by
    by_cases hbP : b = P
    · exact .inl hbP
    · rw [hne b hbP] at q
      obtain ⟨_, vs, _, _, ⟨e2, _⟩ | ⟨e2, _⟩⟩ := argH_is ar q
      · rw [e2] at e
        cases e
        exact .inr ⟨_, _, rfl⟩
      · rw [e2] at e
        cases e
        exact .inr ⟨_, _, rfl⟩
  have free_of : ∀ {b : Addr} {o : Obj}, s1.heap.get? b = some o → (∀ vs n, o.data ≠ .seq vs n) → o.data ≠ .fields #[] → H b = none := fun {b o} e h1 h2 => by
    cases q : H b with
    | none => rfl
    | some u =>
      rcases base0 e q with z | ⟨vs, n, z⟩
      · rw [z, hT] at e
        cases e
        exact absurd rfl h2
      · exact absurd z (h1 vs n)
  have base_of : ∀ {b : Addr} {o : Obj}, s1.heap.get? b = some o → H b = none → (hidT s1.heap H).get? b = some o := fun e n => hidT_get e n
  have nsK : ∀ {b : Addr} {m : Str → Option Value}, s1.heap.Ns b m → (hidT s1.heap H).Ns b m := fun {b m} ⟨o, es, ep, e, d, r⟩ => ⟨o, es, ep, base_of e (free_of e (fun vs n z => by rw [d] at z; cases z) fun z => by rw [d] at z; cases z), d, r⟩
  have nK : ∀ b o, K.lookup b = some o → H b = none := fun b o e => by
    by_cases hbP : b = P
    · rw [hbP, nT] at e
      cases e
    · rw [hne b hbP]
      cases q : argH K s1.heap A b with
      | none => rfl
      | some u =>
        rw [(argH_is ar q).1] at e
        cases e
  have hKb : K.In (hidT s1.heap H) := fun b o e => base_of (KX b o e) (nK b o e)
  have hM : L2.Mod K mg (hidT s1.heap H) := ⟨hKb, nsK hns, ⟨mb, nsK hb, hbb⟩, let ⟨mc, h1, h2⟩ := hlim; ⟨mc, nsK h1, h2⟩⟩
  have TB : LamX.TabB (hidT s1.heap H) mg c P := by
    refine ⟨?_, ?_, fun z => ?_⟩
    · obtain ⟨o, us, file, tf, flags, tg, inF, text, tt, e1, r1, r2, r3, r4, r5, r6, r7, r8, hne⟩ := C
      refine ⟨o, us, file, tf, flags, tg, inF, text, tt, base_of e1 (free_of e1 (fun vs n z => ?_) fun z => ?_), r1, r2, r3, r4, r5, r6, r7, r8, hne⟩
      · rw [r2] at z
        cases z
      · rw [r2] at z
        cases z
        simp at r3
    · obtain ⟨bm, ob, b1, b2, b3, b4, b5, b6⟩ := hbm
      have nG : bm ≠ mainGlobals := fun q => by
        obtain ⟨o, es, ep, e, hd, _⟩ := hns
        rw [q, e] at b3
        cases b3
        rw [hd] at b6
        cases b6
      have nPb : bm ≠ P := fun q => by
        rw [q, hT] at b3
        cases b3
        cases b6
      refine ⟨bm, ob, b1, b2, nG, nPb, base_of b3 (free_of b3 (fun vs n z => ?_) fun z => ?_), b4, b5, b6⟩
      · rw [b6] at z
        cases z
      · rw [b6] at z
        cases z
    · obtain ⟨o, es, ep, e, hd, _⟩ := hns
      rw [z, hT] at e
      cases e
      cases hd
  have e0 : Env0 Pr w K mg (hidT s1.heap H) callerA [] s1 H := ⟨rfl, hM, fun b o e => of_hidT e, Nat.le_of_eq (hidT_size _ _), trivial, fun b hb => absurd (show b ∈ ([] : List Addr) from hb) (by simp), hok, .of_eq hg⟩
  have hl : vals.length = ps.length := by
    rw [wellAll_len hwl]
    exact hlen
  refine codeAny_mono ((F _ hKb (nsK hns) TB).run callerA [] s1 H ⟨vals, []⟩ vals (vals.map toV) _ _ hr e0 (hbind s1 vals hl) hV (hsp H _ hO hP hS)) fun r s' x => ?_
  cases r with
  | error e => exact (hCX H e s' x).elim
  | ok fl =>
    cases fl with
    | next => exact False.elim x
    | brk => exact False.elim x
    | cont => exact False.elim x
    | ret u =>
      obtain ⟨v, H', os, bare, un, hok', r', q⟩ := x
      have kept : ∀ b o, b ≠ P → s1.heap.get? b = some o → s'.heap.get? b = some o := fun b o nb e => by
        cases q2 : H b with
        | none => exact un.keep b o e q2 (by intro z; exact absurd (show b ∈ ([] : List Addr) from z) (by simp)) (by simp)
        | some u2 =>
          rcases hO b with z | z | ⟨ob, u3, z⟩
          · rw [q2] at z
            cases z
          · exact absurd z nb
          · have z2 := un.frzs b ob _ z
            obtain ⟨e1, _⟩ := hok b _ z
            obtain ⟨e2, _⟩ := hok' b _ z2
            rw [e] at e1
            cases e1
            exact e2
      obtain ⟨more, hm⟩ : ∃ more : Array Value, s'.heap.get? P = some { cls := .none, data := .fields more } := by
        obtain ⟨more, z⟩ := un.tbls P #[] hP
        exact ⟨_, hok' P _ z⟩
      have KX' : K.In s'.heap := fun b o e => kept b o (fun z => by rw [z, nT] at e; cases e) (KX b o e)
      obtain ⟨as, hrd⟩ := Dw.reads (R := R) (cl := cl) hok' KX' d0 v u q r'
      refine ⟨u, as, rfl, hrd, ⟨fun b o e => ?_, fun b o e => ?_⟩, os, bare⟩
      · by_cases hbP : b = P
        · rw [hbP, hT] at e
          cases e
          rw [hbP]
          exact .inr (.inl ⟨(C.tab hT).isCodeTable, rfl, #[], more, rfl, by rw [Array.empty_append]; exact hm⟩)
        · exact .inl (kept b o hbP e)
      · by_cases hbP : b = P
        · rw [hbP]
          exact ⟨_, hm⟩
        · exact ⟨o, kept b o hbP e⟩
/-- a def's code object and its table, from the written part -/
theorem tab_mk {K : PySem.W.Frag} {x : Str} {f c P : Addr} {oc oc2 : Value} {od od2 : Option Addr} {fd : FuncData} {sl sl2 : Array (Option Value)} {vs : Array Value} (a : PySem.W.nsIn K mainGlobals x = some (some (.ref f))) (l : K.lookup f = some ⟨oc, od, .func fd, sl⟩) (e : fd.code = .ref c)
    (lc : K.lookup c = some ⟨oc2, od2, .fields vs, sl2⟩) (v : (vs[11]? : Option Value) = some (.ref P)) : PySem.W.tabIn K x = some (c, P) := by
  unfold PySem.W.tabIn
  rw [a]
  simp only [l, e, lc, v]
/-- the goal that the head leaves, from the promise of the row's def; the def named x makes a lambda -/
theorem walk_tab {r : OpenSpec} {k : Nat} {q : Program} {loose : List Str} {XP : (Str → Option Value) → Heap → Prop} {YP : World → Heap → Prop} {d : DefRec} {K : Params → PySem.W.Frag} {CX : World → CXT} {ps : List Str} {sp : PySem.W.Frag → Addr → Sp} {x : Str}
    (hwell : r.wellSaid = true) (hdf : d.params.defaults = []) (hlen : r.args.length = ps.length) (hr : Room k callerA) (hrec : ((recsOf q).find? (fun e => e.name == x)).isSome = true)
    (hY : ∀ (w : World) (h : Heap), YP w h → (K w.params).In h)
    (F : ∀ (w : World) (mg : Str → Option Value) (fa : Addr) (h : Heap), YP w h → (K w.params).In h → h.Ns mainGlobals mg → mg d.name = some (.ref fa) →
      ∃ (fd : FuncData) (c P : Addr), PySem.W.tabIn (K w.params) x = some (c, P) ∧ (K w.params).lookup P = none ∧ (∀ (s : Shared) (us : List Value), us.length = ps.length → BindsTo s fd ⟨us, []⟩ (ps.zip us)) ∧
        ∀ base : Heap, (K w.params).In base → base.Ns mainGlobals mg → LamX.TabB base mg c P → FnOk r.prog w (K w.params) mg base (CX w) k fa fd ps (sp (K w.params) P))
    (hsp : ∀ (K : PySem.W.Frag) (P : Addr) (H : Hp) (xs : List V) (a : Codec.denoteAll r.args), OnlyT P H → H P = some (.tbl #[]) → Codec.withinAll r.args a = true → Codec.app r.args r.asked a = true → DwAll K H xs (Codec.encAll r.args a) →
      sp K P xs H (fun v H' => Dw K H' v (r.ret.enc (Codec.app r.args r.f a))) fun _ _ _ => False)
    (hCX : ∀ (w : World) (H : Hp) (s : Shared) (e : Value) (s' : Shared), CX w [] H s (fun _ _ _ => False) e s' → False) :
    PySem.W.WalkOS q loose XP YP r d [] (fun f vs => PySem.call f vs) := by
  intro w s0 s1 mg mb G Y fa o pm cd doc dV kV ho hd hcd hD hmg hg args vals as hpre hlay hrd hwl hlo
  obtain ⟨a, e1, e2⟩ := PySem.W.os_pre_some hpre
  obtain ⟨e3, hwi⟩ := Codec.encAll_of_decAll r.args args a e1
  subst e3
  have KX := hY w _ Y
  obtain ⟨fd, c, P, ht, nP, hb, hF⟩ := F w mg fa _ Y KX G.T.g hmg
  obtain ⟨dl, hrec'⟩ := Option.isSome_iff_exists.mp hrec
  obtain ⟨hC, hT⟩ := PySem.W.tab_of G.T KX hrec' ht
  refine PySem.W.enter_call (codeAny_mono (call_tab (R := []) (cl := classAt s0.heap) (d0 := r.ret.enc (Codec.app r.args r.f a)) KX G.T.g G.T.b G.T.builtins G.T.nolimit hg hT nP hC G.T.bmain hwl (pl_encAll _ _) (layable_weight hlay) hr hF hb (by rw [encAll_len]; exact hlen)
    (fun H xs hO hP hS => hsp (K w.params) P H xs a hO hP hwi e2 hS) fun H e s' => hCX w H s1 e s') fun r' s' hq => ?_)
  obtain ⟨u, as', rfl, h1, h2, h3, h4⟩ := hq
  exact ⟨.inl ⟨u, _, as', rfl, fun _ => rfl, h1, (OpenSpec.post_iff hwell hwi _ _).mpr rfl, fun z => Bool.noConfusion (show false = true from z)⟩, h2, h3, h4⟩
end Wm
/-! # A lambda with one parameter and one captured name, made and handed on -/
namespace Wm
open PySem PySem.Spec PyProof.Rows L2
open NdefX (NF NScope CellsAt startF envF ncx Caps)
open LamX (CodeO TabS TabB ExtN)
/-- at f: the lambda -/
def LamO (f : Addr) (F : NF) (body : Expr) : HO := .ext fun h => ∃ (pm ctv : Value), h.get? f = some (PySem.W.kla_obj F.name F.qual F.params body F.scope F.cl pm F.c ctv)
theorem lamO_tbl {f : Addr} {F : NF} {body : Expr} (ps : Array Value) : LamO f F body ≠ .tbl ps := fun z => by
  have z' : HO.ext _ = HO.tbl ps := z
  cases z'
theorem lamO_at {Pr : Program} {w : World} {H : Hp} {h : Heap} {f : Addr} {F : NF} {body : Expr} (hok : HOk Pr w H h) (e : H f = some (LamO f F body)) : ∃ (pm ctv : Value), h.get? f = some (PySem.W.kla_obj F.name F.qual F.params body F.scope F.cl pm F.c ctv) := by
  have x : ObjOk Pr w H h f (.ext fun h => ∃ (pm ctv : Value), h.get? f = some (PySem.W.kla_obj F.name F.qual F.params body F.scope F.cl pm F.c ctv)) := hok f _ e
  exact x.1
section
variable {X : Cx} {pins : List (Addr × Obj)} {σ : L2.St} {H : Hp} {s : Shared}
theorem inv_lam {F : NF} {body : Expr} {o : Obj} {t' : Nat} {pm ctv : Value} (I : L2.Inv X pins σ H s) (ho : o = PySem.W.kla_obj F.name F.qual F.params body F.scope F.cl pm F.c ctv) :
    L2.Inv X pins σ (upd H s.heap.objs.size (LamO s.heap.objs.size F body)) { s with heap := s.heap.push o, toks := t' } := by
  subst ho
  refine I.laid (a := s.heap.objs.size) (fun b u e => Heap.get?_push_of_some _ e) (Nat.le_refl _) ?_
  have e : (s.heap.push (PySem.W.kla_obj F.name F.qual F.params body F.scope F.cl pm F.c ctv)).get? s.heap.objs.size = some (PySem.W.kla_obj F.name F.qual F.params body F.scope F.cl pm F.c ctv) := Heap.get?_push_size _ rfl
  exact ⟨⟨pm, ctv, e⟩, ⟨_, e⟩, fun h1 h2 ⟨p, t, z⟩ st => ⟨p, t, st _ z⟩⟩
/-- the lambda's object: its code object is new, or found in the table -/
theorem lam_made {c P : Addr} {params : Arguments} {body : Expr} {scope : Scope} {pos : Pos} {E : Value → Shared → Prop} {Q : Value → Shared → Prop} (I : L2.Inv X pins σ H s) (TB : TabB X.base X.mg c P) (hcode : X.env.code = .ref c)
    (hT : TabS H P (X.env.qual ++ "<lambda>")) (hdef : defaultsOf params X.env = ([], [])) (hfree : ∀ y ∈ scope.names, y.2 = .free → ∃ c, X.env.cells.lookup y.1 = some c)
    (h : ∀ (f c' : Addr) (H1 : Hp) (s' : Shared), L2.Inv X pins σ H1 s' → ExtN H H1 → (∀ b, H1 b = none → H b = none) → TabS H1 P (X.env.qual ++ "<lambda>") → H f = none →
      H1 f = some (LamO f ⟨"<lambda>", X.env.qual ++ "<lambda>", params, [], scope, cloFrom X.env.cells scope.names [], c'⟩ body) → H1 c' = some (CodeO c' (X.env.qual ++ "<lambda>")) → Q (.ref f) s') :
    wpAny (model X.prog X.w) X.A (eval (.Lambda params body scope pos) X.env) Q E s := by
  obtain ⟨ps, hP, ht, ha⟩ := hT
  refine PySem.W.kla_eval hdef ?_
  have bP : s.heap.BuiltinsAt X.mg P := TB.bm.keeps I.bk
  have hP' : s.heap.get? P = some { cls := .none, data := .fields ps } := I.hok P _ hP
  cases hc : codeAmong pos ps.toList with
  | none =>
    refine PySem.W.kla_makeFunction (mg := X.mg) (c := c) (P := P) (ps := ps) (closure_ok hfree) I.ok.glob (I.mod.glob.keeps I.bk) hcode (TB.code.keeps I.bk) hP' ht hc TB.gP bP fun c' ctv h' tk hx hge hlt hrec htb => ?_
    obtain ⟨c2, oc, vs, t, e2, hoc, hd, hv⟩ := hrec
    cases e2
    have nC : H c' = none := I.hok.fresh hge
    have I1 := LamX.inv_table (t' := tk) (more := #[rawInt pos.line, rawInt pos.col, .ref c']) (h' := h') I hP (fun b o hb e => hx b o hb e) htb hge ⟨oc, vs, t, hoc, hd, hv⟩
    have hE : ExtN H (upd (upd H P (.tbl (ps ++ #[rawInt pos.line, rawInt pos.col, .ref c']))) c' (CodeO c' (X.env.qual ++ "<lambda>"))) := fun b o e n => by
      rw [upd_ne (ne_of_none e nC), upd_ne (fun z => n ps (Option.some.inj (e.symm.trans (by rw [z]; exact hP))))]
      exact e
    have eL : (ps ++ #[rawInt pos.line, rawInt pos.col, .ref c']).toList = ps.toList ++ [rawInt pos.line, rawInt pos.col, .ref c'] := by simp
    have T1 : TabS (upd (upd H P (.tbl (ps ++ #[rawInt pos.line, rawInt pos.col, .ref c']))) c' (CodeO c' (X.env.qual ++ "<lambda>"))) P (X.env.qual ++ "<lambda>") := by
      refine ⟨_, by rw [upd_ne (ne_of_none hP nC), upd_same], by rw [eL]; exact PySem.TriplesOk_snoc _ _ _ _ ht, fun p' cv hcv => ?_⟩
      rw [eL] at hcv
      rcases LamX.among_app _ ht hcv with z | z
      · obtain ⟨c0, e1, e2⟩ := ha p' cv z
        exact ⟨c0, e1, hE _ _ e2 LamX.codeO_ne⟩
      · exact ⟨c', z, upd_same⟩
    have nF := I1.hok.fresh (Nat.le_refl _)
    have I2 := inv_lam (F := ⟨"<lambda>", X.env.qual ++ "<lambda>", params, [], scope, cloFrom X.env.cells scope.names [], c'⟩) (body := body) (t' := tk) (pm := (X.mg "__name__").getD .none) (ctv := ctv) I1 rfl
    refine h h'.objs.size c' _ _ I2 (fun b o e n => ?_) (fun b e => NdefX.upd_none (NdefX.upd_none (NdefX.upd_none e))) (T1.ext fun b o e => ?_) (I.hok.fresh (Nat.le_trans hge (Nat.le_of_lt hlt))) upd_same ?_
    · have e1 := hE b o e n
      exact (upd_ne (ne_of_none e1 nF)).trans e1
    · exact (upd_ne (ne_of_none e nF)).trans e
    · exact (upd_ne (Nat.ne_of_lt hlt)).trans upd_same
  | some cv =>
    obtain ⟨c', e, hco⟩ := ha pos cv hc
    subst e
    refine PySem.W.kla_makeFunctionHit (mg := X.mg) (c := c) (P := P) (ps := ps) (closure_ok hfree) I.ok.glob (I.mod.glob.keeps I.bk) hcode (TB.code.keeps I.bk) hP' ht hc bP fun ctv h' tk hx hsz => ?_
    have I1 : L2.Inv X pins σ H { s with heap := h', toks := tk } := I.kept hx
    have nF : H h'.objs.size = none := I1.hok.fresh (Nat.le_refl _)
    have I2 := inv_lam (F := ⟨"<lambda>", X.env.qual ++ "<lambda>", params, [], scope, cloFrom X.env.cells scope.names [], c'⟩) (body := body) (t' := tk) (pm := (X.mg "__name__").getD .none) (ctv := ctv) I1 rfl
    have T0 : TabS H P (X.env.qual ++ "<lambda>") := ⟨ps, hP, ht, ha⟩
    refine h h'.objs.size c' _ _ I2 (fun b o e n => ?_) (fun b e => NdefX.upd_none e) (T0.ext fun b o e => ?_) nF upd_same ?_
    · exact (upd_ne (ne_of_none e nF)).trans e
    · exact (upd_ne (ne_of_none e nF)).trans e
    · exact (upd_ne (ne_of_none hco nF)).trans hco
end
section
variable {Pr : Program} {w : World} {K : PySem.W.Frag} {mg : Str → Option Value} {base : Heap} {N ps fr : List Str} {F : NF} {f : Addr} {k : Nat} {body : Expr}
/-- its call, by its body -/
theorem lam_run (S : NScope N ps fr F.scope) (hb : ∀ (pm ctv : Value) (us : List Value), us.length = ps.length → bindArgs (PySem.W.kla_fn F.name F.qual F.params body F.scope F.cl pm (.ref F.c) ctv) ⟨us, []⟩ = pure (ps.zip us))
    {A : Around} {outer : List Env} {s : Shared} {H : Hp} {us : List Value} {vs : List V} {ws : List (Option V)} {Q : VK} (hr : Room (k + 1) A) (e0 : Env0 Pr w K mg base A outer s H) (hf : H f = some (LamO f F body)) (hc : H F.c = some (CodeO F.c F.qual))
    (C : CellsAt F.cl fr ws s.heap H) (r : Vals vs us) (hl : vs.length = ps.length)
    (hbody : Room k (A.deeper (envF F f s.heap.objs.size)) → ∃ t, PE (ncx CX0 Pr w K mg base N F f A outer s H E0) body t ∧ t (startF N vs ws) H Q) :
    codeAny (model Pr w) A (.call (.ref f) ⟨us, []⟩) (CR CX0 outer Pr w H s Q E0) s := by
  have lim : s.heap.NoLimit := e0.mod.nolimit.keeps fun b o e => (e0.bs b o e).1
  obtain ⟨pm, ctv, ho⟩ := lamO_at e0.hok hf
  refine PySem.W.kla_callFunE hr.depth ho rfl S.co S.gen rfl (NdefX.codeO_at e0.hok hc) ?_
  rw [hb pm ctv us (by rw [← r.length]; exact hl)]
  refine wpAny_pure (wpAny_newFunctionEnv S.nocell (fun ⟨n, _⟩ hy => S.par n (List.of_mem_zip hy).1) (fun h1 hns hsb => ⟨lim.fresh _ hsb, ?_⟩) S.kind)
  refine PySem.W.kla_codeExpr ?_
  have kp : ∀ b o, s.heap.get? b = some o → h1.get? b = some o := fun b o e => hsb.extBut b o (Nat.ne_of_lt (Heap.lt_size e)) (Heap.get?_push_of_some _ e)
  obtain ⟨t, ht, hq⟩ := hbody (hr.deeper _)
  have I : L2.Inv (ncx CX0 Pr w K mg base N F f A outer s H E0) [] (startF N vs ws) H { s with heap := h1, toks := s.toks + (ps.zip us).length } := NdefX.inv_startN S hr.hd e0 hl r C hns kp
  refine wpAny_mono (ht.run [] _ (startF N vs ws) H _ I hq) (fun u s' hs => ?_) fun e s' hs => hs
  obtain ⟨v, H', J, rv, q⟩ := hs
  exact ⟨v, H', J.os, J.bare, J.base, J.hok, rv, q⟩
end
end Wm
/-! # sorted(xs, key=f): xs whole numbers, f a lambda that hands back rows of as many whole numbers -/
namespace Wm
open PySem PySem.Spec PyProof.Rows L2
open SrtO (Swo Srtd Stb Cmp AllL)
/-! ### the order -/
theorem lexLt_asym : ∀ (a b : List Int), HT.lexLt a b = true → HT.lexLt b a = false
  | [], [], h => rfl
  | [], _ :: _, h => rfl
  | _ :: _, [], h => by cases h
  | x :: xs, y :: ys, h => by
    rw [HT.lexLt_cons] at h ⊢
    by_cases e : x = y
    · rw [if_pos e] at h
      rw [if_pos e.symm]
      exact lexLt_asym xs ys h
    · rw [if_neg e] at h
      rw [if_neg (fun z => e z.symm)]
      have h' : x < y := by simpa using h
      exact decide_eq_false (by omega)
theorem lexLt_tr : ∀ (x y z : List Int), HT.lexLt y x = false → HT.lexLt z y = false → HT.lexLt z x = false
  | [], [], z, h1, h2 => h2
  | [], y :: ys, [], h1, h2 => by
    rw [HT.lexLt_nil_nil]
  | [], y :: ys, z :: zs, h1, h2 => rfl
  | x :: xs, [], z, h1, h2 => by cases h1
  | x :: xs, y :: ys, [], h1, h2 => by cases h2
  | x :: xs, y :: ys, z :: zs, h1, h2 => by
    rw [HT.lexLt_cons] at h1 h2 ⊢
    by_cases e1 : y = x
    · rw [if_pos e1] at h1
      by_cases e2 : z = y
      · rw [if_pos e2] at h2
        rw [if_pos (e2.trans e1)]
        exact lexLt_tr xs ys zs h1 h2
      · rw [if_neg e2] at h2
        rw [if_neg (fun q => e2 (q.trans e1.symm)), ← e1]
        exact h2
    · rw [if_neg e1] at h1
      have g1 : ¬ y < x := by simpa using h1
      by_cases e2 : z = y
      · rw [if_neg (fun q => e1 (e2.symm.trans q)), e2]
        exact decide_eq_false g1
      · rw [if_neg e2] at h2
        have g2 : ¬ z < y := by simpa using h2
        rw [if_neg (fun q => by omega)]
        exact decide_eq_false (by omega)
/-- of keyed items, by what their keys stand for -/
def ltK (kf : Value → List Int) : Keyed → Keyed → Bool := fun p q => HT.lexLt (kf p.1) (kf q.1)
theorem swoK (kf : Value → List Int) : Swo (ltK kf) := ⟨fun x y h => lexLt_asym _ _ h, fun x y z h1 h2 => lexLt_tr _ _ _ h1 h2⟩
/-- v is a tuple of the numbers l, at least one -/
def IsRow (h : Heap) (v : Value) (l : List Int) : Prop := ∃ (a : Addr) (o : Obj) (its : List Value) (n : Nat), v = .ref a ∧ h.get? a = some o ∧ o.cls = .type "tuple" ∧ o.data = .seq its.toArray n ∧ IntsAre its l
theorem IsRow.keeps {h h' : Heap} {v : Value} {l : List Int} (r : IsRow h v l) (k : ∀ b o, h.get? b = some o → o.cls = .type "tuple" → h'.get? b = some o) : IsRow h' v l := by
  obtain ⟨a, o, its, n, e, ho, hc, hd, hi⟩ := r
  exact ⟨a, o, its, n, e, k a o ho hc, hc, hd, hi⟩
section
variable {prog : Program} {w : World} {A : Around} {s : Shared}
theorem lex_walk {Q : Bool → Shared → Prop} : ∀ {xs ys : List Value} {ns ms : List Int} {i : Nat}, IntsAre xs ns → IntsAre ys ms → ns.length = ms.length → Q (HT.lexLt ns ms) s → PySem.W.KatLex prog w A true false Q (xs.zip ys) i s
  | _, _, _, _, i, .nil, .nil, _, hq => PySem.W.kat_nil hq
  | _, _, _, _, i, .nil, .cons _ _ _, hl, _ => by simp at hl
  | _, _, _, _, i, .cons _ _ _, .nil, hl, _ => by simp at hl
  | _, _, _, _, i, .cons (ns := ns) x t r1, .cons (ns := ms) y u r2, hl, hq => by
    rw [HT.lexLt_cons] at hq
    refine PySem.W.kat_cons (SeqAt.EqAt.int_int x t y u prog w _ _ ?_)
    refine PySem.W.kat_go (fun e1 => ?_) (fun e1 => ?_)
    · have ex : x = y := by simpa using e1
      rw [if_pos ex] at hq
      exact PySem.W.kat_yes (lex_walk r1 r2 (by simpa using hl) hq)
    · have ex : ¬ x = y := by simpa using e1
      rw [if_neg ex] at hq
      cases i with
      | zero => exact PySem.W.kat_no (oneLt_int hq)
      | succ j => exact PySem.W.kat_no (PySem.W.kat_one _ _ (PyProof.Rows.lt_int hq))
theorem key_cmp {kf : Value → List Int} {ks : List Value} {L : Nat} (hp : ∀ v ∈ ks, IsRow s.heap v (kf v) ∧ (kf v).length = L) : Cmp prog w A s (tuples' true) (fun p => p.1 ∈ ks) (ltK kf) := by
  intro p q hm hm'
  obtain ⟨h1, l1⟩ := hp _ hm
  obtain ⟨h2, l2⟩ := hp _ hm'
  show wpAny (model prog w) A (keyLt' (tuples' true) p.1 q.1) (fun r s' => s' = s ∧ r = HT.lexLt (kf p.1) (kf q.1)) (fun _ _ => False) s
  generalize kf p.1 = x at h1 l1 ⊢
  generalize kf q.1 = y at h2 l2 ⊢
  obtain ⟨a, o, its, n, e, ho, hc, hd, hi⟩ := h1
  obtain ⟨a', o', its', n', e', ho', hc', hd', hi'⟩ := h2
  rw [e, e']
  refine PySem.W.kat_lt ho hd ho' hd' ?_
  have z : decide (its.toArray.size < its'.toArray.size) = false := decide_eq_false (by
    have a1 := hi.length
    have a2 := hi'.length
    rw [List.size_toArray, List.size_toArray]
    omega)
  rw [z]
  exact lex_walk hi hi' (l1.trans l2.symm) ⟨rfl, rfl⟩
theorem key_kind {M : Model} {E : Value → Shared → Prop} {kf : Value → List Int} {L : Nat} {ks : List Value} {Q : SortKind → Shared → Prop} (h0 : 0 < ks.length) (hL : 0 < L) (hp : ∀ v ∈ ks, IsRow s.heap v (kf v) ∧ (kf v).length = L) (hq : Q (tuples' true) s) :
    wpAny M A (keyKind' ks.toArray) Q E s := by
  have firsts : ∀ vs : List Value, (∀ v ∈ vs, v ∈ ks) → ∃ fs, PySem.W.KatTups s.heap vs fs ∧ fs.length = vs.length ∧ ∀ f ∈ fs, ∃ x t, f = Value.int x t := by
    intro vs
    induction vs with
    | nil => exact fun _ => ⟨[], PySem.W.KatTups.nil, rfl, fun f hf => nomatch hf⟩
    | cons v vs ih =>
      intro hm
      obtain ⟨fs, t1, t2, t3⟩ := ih fun u hu => hm u (List.mem_cons_of_mem _ hu)
      obtain ⟨⟨a, o, its, n, e, ho, hc, hd, hi⟩, hl⟩ := hp v (hm v List.mem_cons_self)
      subst e
      generalize kf (Value.ref a) = l at hi hl
      cases hi with
      | nil =>
        simp at hl
        omega
      | @cons x t us ms r =>
        refine ⟨.int x t :: fs, PySem.W.KatTups.cons ho hc hd (by simp) t1, by rw [List.length_cons, List.length_cons, t2], fun f hf => ?_⟩
        rcases List.mem_cons.mp hf with z | z
        · exact ⟨x, t, z⟩
        · exact t3 f z
  obtain ⟨fs, h1, h2, h3⟩ := firsts ks fun _ h => h
  refine PySem.W.kat_kind (T := .type "int") h1 (by omega) (fun f hm => ?_) (by rfl) ?_
  · obtain ⟨x, t, rfl⟩ := h3 f hm
    exact PySem.W.Looks.now
  · have e : (Value.type "int" != Value.type "tuple") = true := by decide +kernel
    rw [e]
    exact hq
end
/-! ### values that are whole numbers, addresses -/
def ival : Value → Int
  | .int i _ => i
  | _ => 0
theorem refs_of : ∀ {kn : List Addr} {its : List Value}, Vals (kn.map V.ref) its → its = kn.map Value.ref
  | [], _, .nil => rfl
  | t :: r, _, .cons h1 h2 => by
    have z : _ = Value.ref t := h1
    rw [z, refs_of (kn := r) h2]
    rfl
theorem ival_map : ∀ {vs : List Value} {ns : List Int}, IntsAre vs ns → vs.map ival = ns
  | _, _, .nil => rfl
  | _, _, .cons x t r => by
    rw [List.map_cons, ival_map r]
    rfl
theorem ival_mem : ∀ {vs : List Value} {ns : List Int}, IntsAre vs ns → ∀ v ∈ vs, ∃ x t, v = Value.int x t
  | _, _, .nil, v, h => nomatch h
  | _, _, .cons x t r, v, h => by
    rcases List.mem_cons.mp h with z | z
    · exact ⟨x, t, z⟩
    · exact ival_mem r v z
theorem ival_vals : ∀ {l : List Value}, (∀ v ∈ l, ∃ x t, v = Value.int x t) → Vals ((l.map ival).map V.int) l
  | [], _ => .nil
  | v :: r, h => by
    obtain ⟨x, t, e⟩ := h v List.mem_cons_self
    subst e
    exact .cons ⟨t, rfl⟩ (ival_vals fun u hu => h u (List.mem_cons_of_mem _ hu))
/-! ### the walk -/
section
variable {X : Cx} {pins : List (Addr × Obj)} {σ : L2.St} {A : Around}
/-- the emptied list at D, just so -/
def EmptyAt (D : Addr) (e1 : Nat) : HO := .ext fun h => h.get? D = some (seqObj "list" #[] e1)
theorem emptyAt_at {Pr : Program} {w : World} {H : Hp} {h : Heap} {D : Addr} {e1 : Nat} (hok : HOk Pr w H h) (e : H D = some (EmptyAt D e1)) : h.get? D = some (seqObj "list" #[] e1) := by
  have x : ObjOk Pr w H h D (.ext fun h => h.get? D = some (seqObj "list" #[] e1)) := hok D _ e
  exact x.1
/-- the keys so far: the tuples at kn of the numbers' keys -/
def Keyd (H : Hp) (key : Int → List Int) : List Addr → List Int → Prop := Paired fun t x => H t = some (.tup ((key x).map V.int))
theorem Keyd.same {H H' : Hp} {key : Int → List Int} (s : Same H H') : ∀ {kn : List Addr} {ns : List Int}, Keyd H key kn ns → Keyd H' key kn ns
  | _, _, .nil => .nil
  | _, _, .cons h r => .cons (s _ _ h) (Keyd.same s r)
theorem Keyd.tups {H H' : Hp} {key : Int → List Int} (s : ∀ b xs, H b = some (.tup xs) → H' b = some (.tup xs)) : ∀ {kn : List Addr} {ns : List Int}, Keyd H key kn ns → Keyd H' key kn ns
  | _, _, .nil => .nil
  | _, _, .cons h r => .cons (s _ _ h) (Keyd.tups s r)
theorem Keyd.more {H : Hp} {key : Int → List Int} {t : Addr} {x : Int} (h : H t = some (.tup ((key x).map V.int))) : ∀ {kn : List Addr} {ns : List Int}, Keyd H key kn ns → Keyd H key (kn ++ [t]) (ns ++ [x])
  | _, _, .nil => .cons h .nil
  | _, _, .cons h' r => .cons h' (Keyd.more h r)
/-- what stands between two turns -/
structure Mid (X : Cx) (pins : List (Addr × Obj)) (σ : L2.St) (H : Hp) (D kS : Addr) (e1 : Nat) (key : Int → List Int) (told : List Int) (s : Shared) : Prop where
  go : ∃ (H' : Hp) (kn : List Addr), L2.Inv X pins σ H' s ∧ Same H H' ∧ H' D = some (EmptyAt D e1) ∧ H' kS = some (.lst (kn.map V.ref)) ∧ Keyd H' key kn told
theorem turns_run {H : Hp} {D kS : Addr} {e1 : Nat} {key : Int → List Int} {f : Value} {E : Value → Shared → Prop} {body : Value → PUnit.{1} → Sem (ForInStep PUnit.{1})} {all : List Int} (hz : all.length ≤ 1000) (nK : H kS = none)
    (hcall : ∀ (H2 : Hp) (s2 : Shared) (x : Int) (t : Tok), x ∈ all → L2.Inv X pins σ H2 s2 → Same H H2 → wpAny (model X.prog X.w) A (call f [.int x t]) (fun u s3 => ∃ (H3 : Hp) (tt : Addr), L2.Inv X pins σ H3 s3 ∧ Same H2 H3 ∧ u = .ref tt ∧ H3 tt = some (.tup ((key x).map V.int))) (fun _ _ => False) s2)
    (hb : ∀ (x : Value) (s2 : Shared) (R : PUnit.{1} → Shared → Prop), wpAny (model X.prog X.w) A (call f [x]) (fun k s3 => ∃ (its : List Value) (n : Nat), s3.heap.get? kS = some (seqObj "list" its.toArray n) ∧ its.length ≤ 1000 ∧ R ⟨⟩ { s3 with heap := s3.heap.update kS (Obj.mapSeq (·.push k)) }) (fun _ _ => False) s2 →
      wpAny (model X.prog X.w) A (body x ⟨⟩) (fun r s' => r = .yield ⟨⟩ ∧ R ⟨⟩ s') E s2) :
    ∀ (r : List Value) (rn told : List Int) (s : Shared), IntsAre r rn → told ++ rn = all → Mid X pins σ H D kS e1 key told s →
      wpAny (model X.prog X.w) A (forIn r PUnit.unit.{1} body) (fun _ s' => Mid X pins σ H D kS e1 key all s') E s
  | _, _, told, s, .nil, ha, m => by
    rw [List.forIn_nil]
    rw [List.append_nil] at ha
    subst ha
    exact wpAny_pure m
  | _, _, told, s, .cons (vs := r) (ns := rn) x t ri, ha, m => by
    obtain ⟨H', kn, I, sm, hD, hK, kd⟩ := m.go
    rw [List.forIn_cons]
    have hx : x ∈ all := by
      rw [← ha]
      simp
    have hl : kn.length = told.length := Paired.length kd
    have hl2 : told.length < all.length := by
      rw [← ha]
      simp
    refine wpAny_bind (wpAny_mono (hb (.int x t) s (fun _ s' => Mid X pins σ H D kS e1 key (told ++ [x]) s') (wpAny_mono (hcall H' s x t hx I sm) (fun u s3 hu => ?_) fun _ _ z => z)) (fun q s' hq => ?_) fun _ _ z => z)
    · obtain ⟨H3, tt, I3, s3', eu, ht⟩ := hu
      subst eu
      have hK3 := s3' _ _ hK
      obtain ⟨hz', its, n, rv, e⟩ := I3.hok kS _ hK3
      have el : kn.length = its.length := by
        have z := rv.length
        rw [List.length_map] at z
        exact z
      refine ⟨its, n, e, by omega, ⟨upd H3 kS (.lst ((kn ++ [tt]).map V.ref)), kn ++ [tt], I3.lset (its' := its ++ [.ref tt]) hK3 e (by simp) ?_ ?_, ?_, ?_, upd_same, ?_⟩⟩
      · rw [List.map_append]
        exact rv.append (.cons rfl .nil)
      · rw [List.length_map, List.length_append]
        have z : (1000 : Nat) + 1 ≤ sizeLine := by decide
        simp
        omega
      · intro b o hb
        rw [upd_ne (ne_of_none hb nK)]
        exact s3' _ _ (sm b o hb)
      · have nD : D ≠ kS := ne_of (s3' _ _ hD) hK3 (fun z => by
          have z' : HO.ext _ = HO.lst _ := z
          cases z')
        rw [upd_ne nD]
        exact s3' _ _ hD
      · refine Keyd.tups (H := H3) (fun b xs q => ?_) ((kd.same s3').more ht)
        rw [upd_ne (ne_of q hK3 (fun z => by cases z))]
        exact q
    · obtain ⟨rfl, m2⟩ := hq
      exact turns_run hz nK hcall hb r rn (told ++ [x]) s' ri (by rw [List.append_assoc]; exact ha) m2
theorem rows_of {H : Hp} {s : Shared} {key : Int → List Int} (hok : HOk X.prog X.w H s.heap) : ∀ {kn : List Addr} {ns : List Int}, Keyd H key kn ns →
    ∃ kf : Value → List Int, ∀ (i : Nat) (t : Addr) (x : Int), kn[i]? = some t → ns[i]? = some x → kf (.ref t) = key x ∧ IsRow s.heap (.ref t) (key x) := by
  intro kn ns kd
  classical
  let toI : V → Int := fun v => match v with
    | .int i => i
    | _ => 0
  have inj : ∀ a : List Int, (a.map V.int).map toI = a := fun a => by
    rw [List.map_map]
    have z : (toI ∘ V.int) = id := rfl
    rw [z, List.map_id]
  refine ⟨fun v => match v with
    | .ref t => (match H t with
      | some (.tup xs) => xs.map toI
      | _ => [])
    | _ => [], fun i t x h1 h2 => ?_⟩
  have ht : H t = some (.tup ((key x).map V.int)) := by
    induction kd generalizing i with
    | nil => simp at h1
    | cons h r ih =>
      cases i with
      | zero =>
        simp at h1 h2
        subst h1 h2
        exact h
      | succ j => exact ih j (by simpa using h1) (by simpa using h2)
  constructor
  · show (match H t with
      | some (.tup xs) => xs.map toI
      | _ => []) = key x
    rw [ht]
    exact inj _
  · obtain ⟨hz, its, rv, o, ho, hc, n, hd⟩ := hok t _ ht
    exact ⟨t, o, its, n, rfl, ho, hc, hd, Vals.ints rv⟩
theorem tree_run {H : Hp} {s0 : Shared} {h : Heap} {D : Addr} {vs : List Value} {ns : List Int} {n L : Nat} {f : Value} {Pf : PySem.Fin → Shared → Prop} {E : Value → Shared → Prop} {key : Int → List Int}
    (I0 : L2.Inv X pins σ H s0) (kp : ∀ b o, s0.heap.get? b = some o → h.get? b = some o) (hD0 : s0.heap.objs.size ≤ D) (hD : h.get? D = some (seqObj "list" vs.toArray n)) (hi : IntsAre vs ns) (hz : ns.length ≤ 1000) (hL : ∀ x, (key x).length = L) (h0 : 0 < L)
    (hcall : ∀ (H2 : Hp) (s2 : Shared) (x : Int) (t : Tok), x ∈ ns → L2.Inv X pins σ H2 s2 → Same H H2 → wpAny (model X.prog X.w) A (call f [.int x t]) (fun u s3 => ∃ (H3 : Hp) (tt : Addr), L2.Inv X pins σ H3 s3 ∧ Same H2 H3 ∧ u = .ref tt ∧ H3 tt = some (.tup ((key x).map V.int))) (fun _ _ => False) s2)
    (hq : ∀ (ns' : List Int) (H4 : Hp) (s4 : Shared), L2.Inv X pins σ H4 s4 → ns'.Perm ns → ns'.Pairwise (fun a b => HT.lexLt (key b) (key a) = false) → Same H H4 → H4 D = some (.lst (ns'.map V.int)) → Pf (.done (.ret .none)) s4) :
    wpAny (model X.prog X.w) A (ksk_tree D f false) Pf E { s0 with heap := h } := by
  have lv := hi.length
  have big : (1000 : Nat) + 1 ≤ sizeLine := by decide
  have nD : H D = none := I0.hok.fresh hD0
  unfold ksk_tree
  refine wpAny_bind (listItems_at hD rfl ?_)
  refine wpAny_bind (listUpdate_at hD rfl ?_ (by rw [List.size_toArray]; omega) (Nat.zero_le _))
  obtain ⟨e1, ho1⟩ : ∃ e1, (h.update D (Obj.mapSeq fun _ => (#[] : Array Value))).get? D = some (seqObj "list" #[] e1) := ⟨_, get?_update_seq hD fun _ => #[]⟩
  refine wpAny_bind (seqEpoch_at ho1 rfl ?_)
  refine wpAny_bind (wpAny_newTuple ?_ (by simp; omega))
  refine wpAny_bind (wpAny_newList ?_ (Nat.zero_le _))
  refine wpAny_holding ?_
  obtain ⟨h5, e5⟩ : ∃ h5 : Heap, h5 = (h.update D (Obj.mapSeq fun _ => (#[] : Array Value))).push (seqObj "tuple" vs.toArray 0) := ⟨_, rfl⟩
  have g5 : h5.get? D = some (seqObj "list" #[] e1) := by
    rw [e5]
    exact Heap.get?_push_of_some _ ho1
  have k5 : ∀ b o, s0.heap.get? b = some o → h5.get? b = some o := fun b o q => by
    rw [e5]
    refine Heap.get?_push_of_some _ ((Heap.get?_update_ne _ _ _ _ ?_).trans (kp b o q))
    exact Nat.ne_of_lt (Nat.lt_of_lt_of_le (Heap.lt_size q) hD0)
  have I1 : L2.Inv X pins σ (upd H D (EmptyAt D e1)) { s0 with heap := h5 } := I0.laid (t' := s0.toks) k5 hD0 ⟨g5, ⟨_, g5⟩, fun h1 h2 z st => st _ z⟩
  have nK : upd H D (EmptyAt D e1) h5.objs.size = none := I1.hok.fresh (Nat.le_refl _)
  have I2 : L2.Inv X pins σ (upd (upd H D (EmptyAt D e1)) h5.objs.size (.lst [])) { s0 with heap := h5.push (seqObj "list" #[] 0) } :=
    I1.laid (t' := s0.toks) (a := h5.objs.size) (fun b o q => Heap.get?_push_of_some _ q) (Nat.le_refl _) ⟨Nat.zero_le _, [], 0, .nil, Heap.get?_push_size _ rfl⟩
  have nDK : D ≠ h5.objs.size := Nat.ne_of_lt (Heap.lt_size g5)
  have nHK : H h5.objs.size = none := NdefX.upd_none nK
  have es : ({ s0 with heap := ((h.update D (Obj.mapSeq fun _ => (#[] : Array Value))).push (seqObj "tuple" vs.toArray 0)).push (seqObj "list" #[] 0) } : Shared) = { s0 with heap := h5.push (seqObj "list" #[] 0) } := by rw [e5]
  show wpAny (model X.prog X.w) A (ksk_rest D f false vs.toArray e1 (.ref ((h.update D (Obj.mapSeq fun _ => (#[] : Array Value))).push (seqObj "tuple" vs.toArray 0)).objs.size)) Pf E { s0 with heap := ((h.update D (Obj.mapSeq fun _ => (#[] : Array Value))).push (seqObj "tuple" vs.toArray 0)).push (seqObj "list" #[] 0) }
  rw [es, ← e5]
  generalize h5.objs.size = kS at nK I2 nDK nHK
  unfold ksk_rest
  refine wpAny_bind (wpAny_rule ?_)
  rw [List.forIn_toArray]
  have M0 : Mid X pins σ H D kS e1 key [] { s0 with heap := h5.push (seqObj "list" #[] 0) } := by
    refine ⟨_, [], I2, fun b o q => ?_, ?_, upd_same, .nil⟩
    · rw [upd_ne (ne_of_none q nHK), upd_ne (ne_of_none q nD)]
      exact q
    · rw [upd_ne nDK, upd_same]
  refine wpAny_bind (wpAny_mono (turns_run (E := E) hz nHK hcall (fun x s2 R hx => ?_) vs ns [] _ hi rfl M0) (fun _ s3 m3 => ?_) fun _ _ z => z)
  · refine wpAny_bind (wpAny_attempt (wpAny_mono hx (fun k s3 hk => ?_) fun _ _ z => z.elim))
    obtain ⟨its, n3, g3, l3, r3⟩ := hk
    dsimp only
    refine wpAny_bind (listUpdate_at g3 rfl ?_ (by rw [List.size_toArray]; omega) (by rw [Array.size_push, List.size_toArray]; omega))
    exact wpAny_pure ⟨rfl, r3⟩
  obtain ⟨H3, kn, I3, sm, gD, gK, kd⟩ := m3.go
  obtain ⟨_, its, n3, rv, g3⟩ := I3.hok kS _ gK
  have eits : its = kn.map Value.ref := refs_of rv
  subst eits
  refine wpAny_bind (listItems_at g3 rfl ?_)
  have lk : kn.length = ns.length := Paired.length kd
  obtain ⟨kf, hkf⟩ := rows_of I3.hok kd
  have gD' := emptyAt_at I3.hok gD
  unfold ksk_end
  dsimp only
  simp only [Bool.false_eq_true, if_false]
  have lz : ((kn.map Value.ref).toArray.zip vs.toArray).toList = (kn.map Value.ref).zip vs := by simp
  -- what is known behind the sort
  have tail : ∀ st : SortSt, Srtd (ltK kf) (arrOf st).toList → Stb (ltK kf) (arrOf st).toList ((kn.map Value.ref).zip vs) → failedOf st = none → wpAny (model X.prog X.w) A (ksk_tail D false e1 (.ref kS) st) Pf E s3 := by
    intro st hs hb hf
    have hlen : (arrOf st).size = ns.length := by
      have z := hb.perm.length_eq
      rw [Array.length_toList, List.length_zip, List.length_map] at z
      omega
    unfold ksk_tail
    dsimp only
    refine wpAny_bind (listUpdate_at g3 rfl ?_ (by rw [List.size_toArray, List.length_map]; omega) (Nat.zero_le _))
    refine wpAny_bind (wpAny_letGo ?_)
    have I4 := I3.lset (t' := s3.toks) (its' := []) (f := fun _ => #[]) (ys := []) gK g3 rfl .nil (Nat.zero_le _)
    have gD4 : upd H3 kS (.lst []) D = some (EmptyAt D e1) := by rw [upd_ne nDK]; exact gD
    have gD4' := emptyAt_at I4.hok gD4
    refine wpAny_bind (seqEpoch_at gD4' rfl ?_)
    refine wpAny_bind (listUpdate_at gD4' rfl ?_ (Nat.zero_le _) (by simp; omega))
    rw [hf]
    simp only [bne_self_eq_false, Bool.false_eq_true, if_false]
    -- the items, as numbers
    have at_ : ∀ p ∈ (kn.map Value.ref).zip vs, kf p.1 = key (ival p.2) ∧ ∃ x t, p.2 = Value.int x t := fun p hp => by
      refine ⟨?_, ival_mem hi _ (List.of_mem_zip (a := p.1) (b := p.2) hp).2⟩
      obtain ⟨i, hi1⟩ := List.mem_iff_getElem?.mp hp
      obtain ⟨a1, a2⟩ := List.getElem?_zip_eq_some.mp hi1
      rw [List.getElem?_map] at a1
      have a3 : ns[i]? = some (ival p.2) := by
        rw [← ival_map hi, List.getElem?_map, a2]
        rfl
      cases ek : kn[i]? with
      | none =>
        rw [ek] at a1
        cases a1
      | some t =>
        rw [ek] at a1
        have z : Value.ref t = p.1 := Option.some.inj a1
        rw [← z]
        exact (hkf i t _ ek a3).1
    have at2 : ∀ p ∈ (arrOf st).toList, kf p.1 = key (ival p.2) ∧ ∃ x t, p.2 = Value.int x t := fun p hp => at_ p (hb.perm.mem_iff.mp hp)
    have eout : ((arrOf st).map (·.2)).toList = (arrOf st).toList.map (fun p : Keyed => p.2) := Array.toList_map
    have I5 := I4.write (t' := s3.toks) (x := D) (e := D) (o := .lst ((((arrOf st).toList.map (fun p : Keyed => p.2)).map ival).map V.int)) (h' := (s3.heap.update kS (Obj.mapSeq fun _ => (#[] : Array Value))).update D (Obj.mapSeq fun _ => (arrOf st).map (·.2))) (by rw [gD4]; exact trivial) (.inl rfl)
      (fun b o hb' q => (Heap.get?_update_ne _ _ _ _ hb').trans q) ⟨_, get?_update_seq gD4' fun _ => (arrOf st).map (·.2)⟩ ⟨by simp; omega, (arrOf st).toList.map (fun p : Keyed => p.2), _, ival_vals fun v hv => by
        obtain ⟨p, hp, e⟩ := List.mem_map.mp hv
        rw [← e]
        exact (at2 p hp).2, by
        have z := get?_update_seq gD4' fun _ => (arrOf st).map (·.2)
        rw [← eout, Array.toArray_toList]
        exact z⟩
    refine wpAny_pure (hq (((arrOf st).toList.map (fun p : Keyed => p.2)).map ival) _ _ I5 ?_ ?_ ?_ upd_same)
    · have z := (hb.perm.map (fun p : Keyed => p.2)).map ival
      rw [List.map_snd_zip (by rw [List.length_map]; omega), ival_map hi] at z
      exact z
    · rw [List.map_map, List.pairwise_map]
      refine List.Pairwise.imp_of_mem (fun {a b} ha hb2 r => ?_) hs
      have z : HT.lexLt (kf b.1) (kf a.1) = false := r
      rw [(at2 a ha).1, (at2 b hb2).1] at z
      exact z
    · intro b o q
      rw [upd_ne (ne_of_none q nD), upd_ne (ne_of_none q nHK)]
      exact sm b o q
  have hsz : vs.toArray.size = vs.length := by simp
  by_cases h2 : vs.toArray.size < 2
  · rw [if_pos h2, if_pos h2]
    refine wpAny_bind (wpAny_pure ?_)
    rw [StateT.run_pure]
    refine wpAny_bind (wpAny_pure ?_)
    refine tail (SortSt.mk' general' ((kn.map Value.ref).toArray.zip vs.toArray) #[] 7 none) ?_ (Stb.of_eq lz) rfl
    show Srtd (ltK kf) ((kn.map Value.ref).toArray.zip vs.toArray).toList
    rw [lz]
    have hl : ((kn.map Value.ref).zip vs).length < 2 := by
      rw [List.length_zip, List.length_map]
      omega
    generalize (kn.map Value.ref).zip vs = l at hl
    match l, hl with
    | [], _ => exact List.Pairwise.nil
    | [p], _ => exact List.pairwise_singleton _ _
    | _ :: _ :: _, z => exact absurd z (by simp)
  · rw [if_neg h2, if_neg h2]
    have rows : ∀ v ∈ kn.map Value.ref, IsRow s3.heap v (kf v) ∧ (kf v).length = L := fun v hv => by
      obtain ⟨t, ht, e⟩ := List.mem_map.mp hv
      obtain ⟨i, hi1⟩ := List.mem_iff_getElem?.mp ht
      have hlt : i < ns.length := by
        have z := (List.getElem?_eq_some_iff.mp hi1).1
        omega
      obtain ⟨e1, e2⟩ := hkf i t _ hi1 (List.getElem?_eq_getElem hlt)
      rw [← e, e1]
      exact ⟨e2, hL _⟩
    refine wpAny_bind (key_kind (by rw [List.length_map]; omega) h0 rows ?_)
    refine wpAny_bind (wpAny_mono (SrtO.wpS_sortO (st0 := SortSt.mk' (tuples' true) ((kn.map Value.ref).toArray.zip vs.toArray) #[] 7 none)
      (Q := fun _ st' => Srtd (ltK kf) (arrOf st').toList ∧ Stb (ltK kf) (arrOf st').toList ((kn.map Value.ref).zip vs) ∧ failedOf st' = none) (swoK kf) (key_cmp rows) rfl (fun p hp => ?_) rfl rfl fun st' a1 a2 a3 => ⟨a1, ?_, a3⟩) ?_ fun _ _ e => e)
    · have z : p ∈ ((kn.map Value.ref).toArray.zip vs.toArray).toList := hp
      rw [lz] at z
      exact (List.of_mem_zip (a := p.1) (b := p.2) z).1
    · have z : Stb (ltK kf) (arrOf st').toList ((kn.map Value.ref).toArray.zip vs.toArray).toList := a2
      rw [lz] at z
      exact z
    · rintro ⟨⟨⟩, st'⟩ s' ⟨rfl, hp1, hp2, hf⟩
      exact tail st' hp1 hp2 hf
end
section
variable {prog : Program} {w : World} {A : Around} {s : Shared}
theorem sorted_to_tree {l q : Addr} {vs : List Value} {Q : Value → Shared → Prop} {E : Value → Shared → Prop} (hl : s.heap.IsList l vs.toArray) (hz : vs.length ≤ 1000)
    (h : ∀ (h1 : Heap) (D : Addr) (n : Nat) (Pf : PySem.Fin → Shared → Prop) (E2 : Value → Shared → Prop), (∀ b o, s.heap.get? b = some o → h1.get? b = some o) → s.heap.objs.size ≤ D → h1.get? D = some (seqObj "list" vs.toArray n) → (∀ s4, Q (.ref D) s4 → Pf (.done (.ret .none)) s4) →
      wpAny (model prog w) A.in1.in1 (ksk_tree D (.ref q) false) Pf E2 { s with heap := h1 }) :
    wpAny (model prog w) A (call (.builtin "sorted") [.ref l] [(Str.ofString "key", .ref q)]) Q E s := by
  have big : (1000 : Nat) + 1 ≤ sizeLine := by decide
  refine call_function_entry_kw kind_sorted plain_sorted entry_sorted (ksk_s1 _ _) ?_
  unfold Builtin.«sorted»
  refine wpAny_bind (m := checkCount "sorted" 1 1 _) (wpAny_pure ?_)
  refine wpAny_bind (collect_list hl ?_ (by omega))
  refine wpAny_bind (wpAny_newList ?_ (by omega))
  have hsz : ((s.heap.push (seqObj "list" #[] 0)).update s.heap.objs.size (Obj.mapSeq (· ++ vs.toArray))).objs.size = s.heap.objs.size + 1 := by rw [Heap.size_update, size_push']
  obtain ⟨h1, e1⟩ : ∃ h1 : Heap, h1 = ((s.heap.push (seqObj "list" #[] 0)).update s.heap.objs.size (Obj.mapSeq (· ++ vs.toArray))).push (seqObj "list" vs.toArray 0) := ⟨_, rfl⟩
  have hoL : h1.get? (s.heap.objs.size + 1) = some (seqObj "list" vs.toArray 0) := by
    rw [e1, ← hsz]
    exact Heap.get?_push_size _ rfl
  have keep : ∀ b o, s.heap.get? b = some o → h1.get? b = some o := fun b o z => by
    have hlt : b < s.heap.objs.size := Heap.lt_size z
    rw [e1]
    refine Heap.get?_push_of_some _ ?_
    rw [Heap.get?_update_ne _ _ _ _ (Nat.ne_of_lt hlt)]
    exact Heap.get?_push_of_some _ z
  show wpAny _ _ _ _ _ { s with heap := ((s.heap.push (seqObj "list" #[] 0)).update s.heap.objs.size (Obj.mapSeq (· ++ vs.toArray))).push (seqObj "list" vs.toArray 0) }
  rw [hsz, ← e1]
  refine wpAny_bind (wpAny_holding (wpAny_call_entry_kw slot_list_sort ⟨_, hoL, rfl⟩ entry_list_sort ?_ (ksk_l1 _ _)))
  rw [ksk_t1]
  exact h h1 _ 0 _ _ keep (Nat.le_succ _) hoL fun s4 hq => ⟨_, rfl, wpAny_pure ⟨_, rfl, hq⟩⟩
end
end Wm
/-! # The rule: sorted(e, key=lambda y: body), body reads one captured name -/
namespace Wm
open PySem PySem.Spec PyProof.Rows L2
open NdefX (NF NScope CellsAt startF envF ncx Caps slotAt)
open LamX (CodeO TabS TabB ExtN)
/-- xs: whole numbers; key: what the lambda hands back of one; behind it a new list of the same numbers, in the keys' order -/
def tSortLam (K : PySem.W.Frag) (P : Addr) (q : Str) (N2 : List Str) (j : Nat) (te tb : TE) : TE := fun σ H Q => tCons te tNil σ H fun us H1 => ∃ (a : Addr) (ns : List Int) (key : Int → List Int) (L : Nat), us = [.ref a] ∧ SqL K H1 a (ns.map V.int) ∧ ns.length ≤ 1000 ∧ TabS H1 P q ∧
  (∀ x, (key x).length = L) ∧ 0 < L ∧
  (∀ x ∈ ns, ∀ H2, ExtN H1 H2 → tb (startF N2 [.int x] [slotAt σ j]) H2 fun v H3 => ∃ t, v = .ref t ∧ Same H2 H3 ∧ H3 t = some (.tup ((key x).map V.int))) ∧
  ∀ (ns' : List Int) (H4 : Hp) (D : Addr), ns'.Perm ns → ns'.Pairwise (fun a b => HT.lexLt (key b) (key a) = false) → ExtN H1 H4 → TabS H4 P q → H1 D = none → H4 D = some (.lst (ns'.map V.int)) → Q (.ref D) H4
section
variable {X : Cx}
theorem pe_sortLam {e : Expr} {te tb : L2.TE} {params : Arguments} {body : Expr} {scope : Scope} {lpos kpos p pos : Pos} {N2 : List Str} {c P : Addr} {k j : Nat} {y cap : Str}
    (hm : X.mg "sorted" = none) (TB : TabB X.base X.mg c P) (hcode : X.env.code = .ref c) (he : PE X e te) (hr : Room (k + 3) X.A)
    (hdef : defaultsOf params X.env = ([], [])) (hsc : ∀ y ∈ scope.names, y.2 = .free → X.env.scope.names.lookup y.1 = some .cell ∨ X.env.scope.names.lookup y.1 = some .free) (hfr : ∀ y ∈ [cap], (y, NameKind.free) ∈ scope.names)
    (hjs : [j].map (fun j => X.N[j]?) = [cap].map some) (S : NScope N2 [y] [cap] scope)
    (hb : ∀ (cl : List (Str × Addr)) (c' : Addr) (pm ctv : Value) (us : List Value), us.length = [y].length → bindArgs (PySem.W.kla_fn "<lambda>" (X.env.qual ++ "<lambda>") params body scope cl pm (.ref c') ctv) ⟨us, []⟩ = pure ([y].zip us))
    (hbody : ∀ (cl : List (Str × Addr)) (c' f : Addr) (A : Around) (outer : List Env) (s : Shared) (H : Hp), Room k (A.deeper (envF ⟨"<lambda>", X.env.qual ++ "<lambda>", params, [], scope, cl, c'⟩ f s.heap.objs.size)) →
      PE (ncx CX0 X.prog X.w X.K X.mg X.base N2 ⟨"<lambda>", X.env.qual ++ "<lambda>", params, [], scope, cl, c'⟩ f A outer s H E0) body tb)
    (hg : Gl X "sorted" := by rfl)
    (h1 : backTo pos (starEach [e] X.env) = (false, eval e X.env) :: backTo pos (starEach [] X.env) := by rfl) (h2 : (backTo pos (starEach [e] X.env)).any (·.1) = false := by rfl)
    (hst : starEach [e] X.env = (false, eval e X.env) :: starEach [] X.env := by rfl) :
    PE X (.Call (.Name "sorted" p) [e] [⟨some "key", .Lambda params body scope lpos, kpos⟩] pos) (tSortLam X.K P (X.env.qual ++ "<lambda>") N2 j te tb) := by
  refine ⟨fun pins s σ H Q I h => ?_⟩
  have ha : PA X [e] (tCons te tNil) := pa_cons he pa_nil hst
  refine wpAny_Call_Name_kw (ld_blt I hg hm (show bootBuiltins "sorted" = some (.builtin "sorted") by decide +kernel) ?_ (by decide) (by decide))
  refine PyProof.Rows.callWith_kw (kws := [⟨some "key", .Lambda params body scope lpos, kpos⟩]) (thn (ha.run pos pins s σ H _ I h) fun us s1 hh => ?_) h1 h2 rfl rfl
  obtain ⟨vs, H1, I1, r1, a, ns, key, L, ex, hS, hz, hT, hL, h0, hkey, hq⟩ := hh
  subst ex
  obtain ⟨u, rfl, ru⟩ := vals1 r1
  obtain rfl : u = Value.ref a := ru
  show wpAny _ _ (evalAll [do let v ← eval (.Lambda params body scope lpos) X.env; standAt pos; pure v]) _ _ s1
  have hfree : ∀ y ∈ scope.names, y.2 = .free → ∃ c, X.env.cells.lookup y.1 = some c := fun y hy ee => (hsc y hy ee).elim (fun z => I1.ok.has _ (.inl z)) fun z => I1.ok.has _ (.inr z)
  refine wpAny_evalAll_cons (wpAny_bind (lam_made I1 TB hcode hT hdef hfree fun f c' H2 s2 I2 eN back T2 nf hf hc => wpAny_bind (wpAny_standAt (wpAny_pure ?_))))
  refine wpAny_evalAll_nil ?_
  show wpAny (model X.prog X.w) X.A (call (.builtin "sorted") [.ref a] [(Str.ofString "key", .ref f)]) _ _ s2
  have hS2 : SqL X.K H2 a (ns.map V.int) := by
    rcases hS with (z | ⟨o, z⟩) | z
    · exact .inl (.inl (eN _ _ z fun ps q => by cases q))
    · exact .inl (.inr ⟨o, eN _ _ z fun ps q => by cases q⟩)
    · exact .inr z
  obtain ⟨its, rv, hl, _⟩ := I2.list hS2
  have hi := rv.ints
  refine sorted_to_tree hl.isList (by rw [hi.length]; exact hz) fun h1' D n Pf E2 kp hD0 hD hend => ?_
  have nD2 : H2 D = none := I2.hok.fresh hD0
  refine tree_run (A := X.A.in1.in1) I2 kp hD0 hD hi hz hL h0 (fun H3 s3 x t hx I3 sm => ?_) fun ns' H4 s4 I4 p1 p2 sm hD4 => hend s4 ⟨.ref D, H4, I4, rfl, hq ns' H4 D p1 p2 (fun b o z w => sm b o (eN b o z w)) (T2.ext sm) (back D nD2) hD4⟩
  have hr2 : Room (k + 1) X.A.in1.in1 := (hr.in1).in1
  have e0 : Env0 X.prog X.w X.K X.mg X.base X.A.in1.in1 X.stack s3 H3 := (I3.env0.in1).in1
  have cp : Caps X (cloFrom X.env.cells scope.names []) [cap] [j] := Caps.made I3.ok hsc hfr hjs
  have C := NdefX.cells_of I3 cp
  have hex : ExtN H1 H3 := fun b o z w => sm b o (eN b o z w)
  refine wpAny_call (codeAny_mono (lam_run (F := ⟨"<lambda>", X.env.qual ++ "<lambda>", params, [], scope, cloFrom X.env.cells scope.names [], c'⟩) (body := body) (N := N2) (ps := [y]) (fr := [cap]) (k := k) (vs := [V.int x])
    (Q := fun v H4 => ∃ t, v = .ref t ∧ Same H3 H4 ∧ H4 t = some (.tup ((key x).map V.int))) S (hb _ c') hr2 e0 (sm _ _ hf) (sm _ _ hc) C (.cons ⟨t, rfl⟩ .nil) rfl fun hrm => ⟨tb, hbody _ c' f _ _ _ _ hrm, hkey x hx H3 hex⟩) fun r s4 hres => ?_)
  cases r with
  | error er => exact hres.elim
  | ok fl =>
    cases fl with
    | ret u =>
      obtain ⟨v, H4, I4, rv4, tt, ev, sm4, ht⟩ := I3.after hres
      subst ev
      obtain rfl : u = Value.ref tt := rv4
      exact ⟨H4, tt, I4, sm4, rfl, ht⟩
    | next => exact False.elim hres
    | brk => exact False.elim hres
    | cont => exact False.elim hres
end
end Wm
/-! # The text's places (printed by texts.py) -/
namespace Wm
open PySem PySem.Spec PyProof.Rows L2
def top (i : Nat) : Stmt := PySem.Challenge.pw_wrestlingmat_s01_answers.main.body.getD i (.Pass ⟨0, 0, 0, 0⟩)
abbrev sBout_init : Stmt := inClass (top 11) 0
abbrev NBout_init : List Str := ["self", "first", "second"]
abbrev PBout_init : List Str := ["self", "first", "second"]
theorem scBout_init : FnScope NBout_init PBout_init (defScope sBout_init) := ⟨rfl, rfl, rfl, by decide +kernel, rfl, by decide +kernel, by decide +kernel⟩
abbrev sbegun_bout : Stmt := top 12
abbrev Nbegun_bout : List Str := ["first", "second", "bout"]
abbrev Pbegun_bout : List Str := ["first", "second"]
theorem scbegun_bout : FnScope Nbegun_bout Pbegun_bout (defScope sbegun_bout) := ⟨rfl, rfl, rfl, by decide +kernel, rfl, by decide +kernel, by decide +kernel⟩
abbrev swin : Stmt := top 13
abbrev Nwin : List Str := ["bout", "who", "how"]
abbrev Pwin : List Str := ["bout", "who", "how"]
theorem scwin : FnScope Nwin Pwin (defScope swin) := ⟨rfl, rfl, rfl, by decide +kernel, rfl, by decide +kernel, by decide +kernel⟩
abbrev spoints_of : Stmt := top 14
abbrev Npoints_of : List Str := ["bout", "who", "one", "worth"]
abbrev Ppoints_of : List Str := ["bout", "who"]
theorem scpoints_of : FnScope Npoints_of Ppoints_of (defScope spoints_of) := ⟨rfl, rfl, rfl, by decide +kernel, rfl, by decide +kernel, by decide +kernel⟩
abbrev scautions_of : Stmt := top 15
abbrev Ncautions_of : List Str := ["bout", "who", "one", "worth"]
abbrev Pcautions_of : List Str := ["bout", "who"]
theorem sccautions_of : FnScope Ncautions_of Pcautions_of (defScope scautions_of) := ⟨rfl, rfl, rfl, by decide +kernel, rfl, by decide +kernel, by decide +kernel⟩
abbrev sholds_of : Stmt := top 16
abbrev Nholds_of : List Str := ["bout", "who", "worth", "one", "told"]
abbrev Pholds_of : List Str := ["bout", "who", "worth"]
theorem scholds_of : FnScope Nholds_of Pholds_of (defScope sholds_of) := ⟨rfl, rfl, rfl, by decide +kernel, rfl, by decide +kernel, by decide +kernel⟩
abbrev slead_key : Stmt := top 17
abbrev Nlead_key : List Str := ["bout", "who", "one", "worth", "last"]
abbrev Plead_key : List Str := ["bout", "who"]
theorem sclead_key : FnScope Nlead_key Plead_key (defScope slead_key) := ⟨rfl, rfl, rfl, by decide +kernel, rfl, by decide +kernel, by decide +kernel⟩
abbrev sleader : Stmt := top 18
abbrev Nleader : List Str := ["bout"]
abbrev Pleader : List Str := ["bout"]
theorem scleader : FnScope Nleader Pleader (defScope sleader) := ⟨rfl, rfl, rfl, by decide +kernel, rfl, by decide +kernel, by decide +kernel⟩
abbrev sadd_act : Stmt := top 19
abbrev Nadd_act : List Str := ["bout", "who", "worth", "one", "ahead"]
abbrev Padd_act : List Str := ["bout", "who", "worth"]
theorem scadd_act : FnScope Nadd_act Padd_act (defScope sadd_act) := ⟨rfl, rfl, rfl, by decide +kernel, rfl, by decide +kernel, by decide +kernel⟩
abbrev sorder_count : Stmt := top 20
abbrev Norder_count : List Str := ["bout", "who"]
abbrev Porder_count : List Str := ["bout", "who"]
theorem scorder_count : FnScope Norder_count Porder_count (defScope sorder_count) := ⟨rfl, rfl, rfl, by decide +kernel, rfl, by decide +kernel, by decide +kernel⟩
abbrev sstands : Stmt := top 21
abbrev Nstands : List Str := ["bout", "points", "cautions"]
abbrev Pstands : List Str := ["bout"]
theorem scstands : FnScope Nstands Pstands (defScope sstands) := ⟨rfl, rfl, rfl, by decide +kernel, rfl, by decide +kernel, by decide +kernel⟩
abbrev swho_won : Stmt := top 22
abbrev Nwho_won : List Str := ["bout"]
abbrev Pwho_won : List Str := ["bout"]
theorem scwho_won : FnScope Nwho_won Pwho_won (defScope swho_won) := ⟨rfl, rfl, rfl, by decide +kernel, rfl, by decide +kernel, by decide +kernel⟩
abbrev swho_lost : Stmt := top 23
abbrev Nwho_lost : List Str := ["bout"]
abbrev Pwho_lost : List Str := ["bout"]
theorem scwho_lost : FnScope Nwho_lost Pwho_lost (defScope swho_lost) := ⟨rfl, rfl, rfl, by decide +kernel, rfl, by decide +kernel, by decide +kernel⟩
abbrev sRow_init : Stmt := inClass (top 25) 0
abbrev NRow_init : List Str := ["self", "beaten"]
abbrev PRow_init : List Str := ["self", "beaten"]
theorem scRow_init : FnScope NRow_init PRow_init (defScope sRow_init) := ⟨rfl, rfl, rfl, by decide +kernel, rfl, by decide +kernel, by decide +kernel⟩
abbrev sBracket_init : Stmt := inClass (top 26) 0
abbrev NBracket_init : List Str := ["self", "many"]
abbrev PBracket_init : List Str := ["self", "many"]
theorem scBracket_init : FnScope NBracket_init PBracket_init (defScope sBracket_init) := ⟨rfl, rfl, rfl, by decide +kernel, rfl, by decide +kernel, by decide +kernel⟩
abbrev sseats : Stmt := top 27
abbrev Nseats : List Str := ["many", "lots", "places", "wider", "x"]
abbrev Pseats : List Str := ["many"]
theorem scseats : FnScope Nseats Pseats (defScope sseats) := ⟨rfl, rfl, rfl, by decide +kernel, rfl, by decide +kernel, by decide +kernel⟩
abbrev sround_of : Stmt := top 28
abbrev Nround_of : List Str := ["wrestlers", "k"]
abbrev Pround_of : List Str := ["wrestlers"]
theorem scround_of : FnScope Nround_of Pround_of (defScope sround_of) := ⟨rfl, rfl, rfl, by decide +kernel, rfl, by decide +kernel, by decide +kernel⟩
abbrev snew_bracket : Stmt := top 29
abbrev Nnew_bracket : List Str := ["many", "bracket", "lot"]
abbrev Pnew_bracket : List Str := ["many"]
theorem scnew_bracket : FnScope Nnew_bracket Pnew_bracket (defScope snew_bracket) := ⟨rfl, rfl, rfl, by decide +kernel, rfl, by decide +kernel, by decide +kernel⟩
abbrev sall_won : Stmt := top 30
abbrev Nall_won : List Str := ["bouts", "bout"]
abbrev Pall_won : List Str := ["bouts"]
theorem scall_won : FnScope Nall_won Pall_won (defScope sall_won) := ⟨rfl, rfl, rfl, by decide +kernel, rfl, by decide +kernel, by decide +kernel⟩
abbrev sgo_on : Stmt := top 31
abbrev Ngo_on : List Str := ["bracket", "row", "who", "bout"]
abbrev Pgo_on : List Str := ["bracket"]
theorem scgo_on : FnScope Ngo_on Pgo_on (defScope sgo_on) := ⟨rfl, rfl, rfl, by decide +kernel, rfl, by decide +kernel, by decide +kernel⟩
abbrev srow_of : Stmt := top 32
abbrev Nrow_of : List Str := ["bracket", "who", "beaten", "bouts", "row", "bout"]
abbrev Prow_of : List Str := ["bracket", "who"]
theorem scrow_of : FnScope Nrow_of Prow_of (defScope srow_of) := ⟨rfl, rfl, rfl, by decide +kernel, rfl, by decide +kernel, by decide +kernel⟩
abbrev srow_goes_on : Stmt := top 33
abbrev Nrow_goes_on : List Str := ["row"]
abbrev Prow_goes_on : List Str := ["row"]
theorem scrow_goes_on : FnScope Nrow_goes_on Prow_goes_on (defScope srow_goes_on) := ⟨rfl, rfl, rfl, by decide +kernel, rfl, by decide +kernel, by decide +kernel⟩
abbrev sis_over : Stmt := top 34
abbrev Nis_over : List Str := ["bracket", "row"]
abbrev Pis_over : List Str := ["bracket"]
theorem scis_over : FnScope Nis_over Pis_over (defScope sis_over) := ⟨rfl, rfl, rfl, by decide +kernel, rfl, by decide +kernel, by decide +kernel⟩
abbrev sall_bouts : Stmt := top 35
abbrev Nall_bouts : List Str := ["bracket", "found", "bouts", "row"]
abbrev Pall_bouts : List Str := ["bracket"]
theorem scall_bouts : FnScope Nall_bouts Pall_bouts (defScope sall_bouts) := ⟨rfl, rfl, rfl, by decide +kernel, rfl, by decide +kernel, by decide +kernel⟩
abbrev ssums_of : Stmt := top 36
abbrev Nsums_of : List Str := ["bracket", "wrestler", "counts", "falls", "points", "bout", "who"]
abbrev Psums_of : List Str := ["bracket", "wrestler"]
theorem scsums_of : FnScope Nsums_of Psums_of (defScope ssums_of) := ⟨rfl, rfl, rfl, by decide +kernel, rfl, by decide +kernel, by decide +kernel⟩
abbrev splaced_first : Stmt := top 37
abbrev Nplaced_first : List Str := ["bracket", "final", "lasts", "found", "row", "bout"]
abbrev Pplaced_first : List Str := ["bracket"]
theorem scplaced_first : FnScope Nplaced_first Pplaced_first (defScope splaced_first) := ⟨rfl, rfl, rfl, by decide +kernel, rfl, by decide +kernel, by decide +kernel⟩
abbrev sorder_key : Stmt := top 38
abbrev Norder_key : List Str := ["bracket", "wrestler", "counts", "falls", "points"]
abbrev Porder_key : List Str := ["bracket", "wrestler"]
theorem scorder_key : FnScope Norder_key Porder_key (defScope sorder_key) := ⟨rfl, rfl, rfl, by decide +kernel, rfl, by decide +kernel, by decide +kernel⟩
abbrev splaces_of : Stmt := top 39
abbrev Nplaces_of : List Str := ["bracket", "found", "wrestler", "place", "placed", "others"]
abbrev Pplaces_of : List Str := ["bracket"]
theorem scplaces_of : FnScope Nplaces_of Pplaces_of (defScope splaces_of) := ⟨rfl, rfl, rfl, by decide +kernel, rfl, by decide +kernel, by decide +kernel⟩
abbrev sDenied_init : Stmt := inClass (top 46) 0
abbrev NDenied_init : List Str := ["self", "number"]
abbrev PDenied_init : List Str := ["self", "number"]
theorem scDenied_init : FnScope NDenied_init PDenied_init (defScope sDenied_init) := ⟨rfl, rfl, rfl, by decide +kernel, rfl, by decide +kernel, by decide +kernel⟩
abbrev sMat_init : Stmt := inClass (top 47) 0
abbrev NMat_init : List Str := ["self"]
abbrev PMat_init : List Str := ["self"]
theorem scMat_init : FnScope NMat_init PMat_init (defScope sMat_init) := ⟨rfl, rfl, rfl, by decide +kernel, rfl, by decide +kernel, by decide +kernel⟩
abbrev sneed : Stmt := top 48
abbrev Nneed : List Str := ["holds", "number"]
abbrev Pneed : List Str := ["holds", "number"]
theorem scneed : FnScope Nneed Pneed (defScope sneed) := ⟨rfl, rfl, rfl, by decide +kernel, rfl, by decide +kernel, by decide +kernel⟩
abbrev sbout_at : Stmt := top 49
abbrev Nbout_at : List Str := ["bracket", "where", "k"]
abbrev Pbout_at : List Str := ["bracket", "where", "k"]
theorem scbout_at : FnScope Nbout_at Pbout_at (defScope sbout_at) := ⟨rfl, rfl, rfl, by decide +kernel, rfl, by decide +kernel, by decide +kernel⟩
abbrev sneed_going : Stmt := top 50
abbrev Nneed_going : List Str := ["bout"]
abbrev Pneed_going : List Str := ["bout"]
theorem scneed_going : FnScope Nneed_going Pneed_going (defScope sneed_going) := ⟨rfl, rfl, rfl, by decide +kernel, rfl, by decide +kernel, by decide +kernel⟩
abbrev stold_bout : Stmt := top 51
abbrev Ntold_bout : List Str := ["bracket", "bout", "told"]
abbrev Ptold_bout : List Str := ["bracket", "bout"]
theorem sctold_bout : FnScope Ntold_bout Ptold_bout (defScope stold_bout) := ⟨rfl, rfl, rfl, by decide +kernel, rfl, by decide +kernel, by decide +kernel⟩
abbrev sdo_begin : Stmt := top 52
abbrev Ndo_begin : List Str := ["mat", "many"]
abbrev Pdo_begin : List Str := ["mat", "many"]
theorem scdo_begin : FnScope Ndo_begin Pdo_begin (defScope sdo_begin) := ⟨rfl, rfl, rfl, by decide +kernel, rfl, by decide +kernel, by decide +kernel⟩
abbrev sdo_act : Stmt := top 53
abbrev Ndo_act : List Str := ["bracket", "given", "where", "k", "who", "worth", "bout"]
abbrev Pdo_act : List Str := ["bracket", "given"]
theorem scdo_act : FnScope Ndo_act Pdo_act (defScope sdo_act) := ⟨rfl, rfl, rfl, by decide +kernel, rfl, by decide +kernel, by decide +kernel⟩
abbrev sdo_fall : Stmt := top 54
abbrev Ndo_fall : List Str := ["bracket", "given", "where", "k", "who", "bout"]
abbrev Pdo_fall : List Str := ["bracket", "given"]
theorem scdo_fall : FnScope Ndo_fall Pdo_fall (defScope sdo_fall) := ⟨rfl, rfl, rfl, by decide +kernel, rfl, by decide +kernel, by decide +kernel⟩
abbrev sdo_give : Stmt := top 55
abbrev Ndo_give : List Str := ["bracket", "given", "where", "k", "who", "bout"]
abbrev Pdo_give : List Str := ["bracket", "given"]
theorem scdo_give : FnScope Ndo_give Pdo_give (defScope sdo_give) := ⟨rfl, rfl, rfl, by decide +kernel, rfl, by decide +kernel, by decide +kernel⟩
abbrev sdo_time : Stmt := top 56
abbrev Ndo_time : List Str := ["bracket", "where", "k", "bout"]
abbrev Pdo_time : List Str := ["bracket", "where", "k"]
theorem scdo_time : FnScope Ndo_time Pdo_time (defScope sdo_time) := ⟨rfl, rfl, rfl, by decide +kernel, rfl, by decide +kernel, by decide +kernel⟩
abbrev sdo_bout : Stmt := top 57
abbrev Ndo_bout : List Str := ["bracket", "where", "k", "bout"]
abbrev Pdo_bout : List Str := ["bracket", "where", "k"]
theorem scdo_bout : FnScope Ndo_bout Pdo_bout (defScope sdo_bout) := ⟨rfl, rfl, rfl, by decide +kernel, rfl, by decide +kernel, by decide +kernel⟩
abbrev sdo_now : Stmt := top 58
abbrev Ndo_now : List Str := ["bracket", "last", "told", "bout", "row"]
abbrev Pdo_now : List Str := ["bracket"]
theorem scdo_now : FnScope Ndo_now Pdo_now (defScope sdo_now) := ⟨rfl, rfl, rfl, by decide +kernel, rfl, by decide +kernel, by decide +kernel⟩
abbrev sdo_sums : Stmt := top 59
abbrev Ndo_sums : List Str := ["bracket", "wrestler"]
abbrev Pdo_sums : List Str := ["bracket", "wrestler"]
theorem scdo_sums : FnScope Ndo_sums Pdo_sums (defScope sdo_sums) := ⟨rfl, rfl, rfl, by decide +kernel, rfl, by decide +kernel, by decide +kernel⟩
abbrev sdo_places : Stmt := top 60
abbrev Ndo_places : List Str := ["bracket", "told", "one"]
abbrev Pdo_places : List Str := ["bracket"]
theorem scdo_places : FnScope Ndo_places Pdo_places (defScope sdo_places) := ⟨rfl, rfl, rfl, by decide +kernel, rfl, by decide +kernel, by decide +kernel⟩
abbrev sanswer_call : Stmt := top 61
abbrev Nanswer_call : List Str := ["mat", "call", "given", "bracket"]
abbrev Panswer_call : List Str := ["mat", "call", "given"]
theorem scanswer_call : FnScope Nanswer_call Panswer_call (defScope sanswer_call) := ⟨rfl, rfl, rfl, by decide +kernel, rfl, by decide +kernel, by decide +kernel⟩
abbrev sanswers : Stmt := top 62
abbrev Nanswers : List Str := ["calls", "mat", "found", "at", "call", "given", "answer", "refusal"]
abbrev Panswers : List Str := ["calls"]
theorem scanswers : FnScope Nanswers Panswers (defScope sanswers) := ⟨rfl, rfl, rfl, by decide +kernel, rfl, by decide +kernel, by decide +kernel⟩
/-- what the top has left of classes, constants, built-in names -/
structure Ads where
  CB : Addr
  CR : Addr
  CK : Addr
  CM : Addr
  CD : Addr
  aW : Addr
  aC : Addr
  P : Addr
structure Txt (K : PySem.W.Frag) (mg : Str → Option Value) (A : Ads) : Prop where
  clCB : Cls K A.CB
  nCB_wrestlers : NoAttr K A.CB "wrestlers"
  nCB_acts : NoAttr K A.CB "acts"
  nCB_winner : NoAttr K A.CB "winner"
  nCB_how : NoAttr K A.CB "how"
  clCR : Cls K A.CR
  nCR_bouts : NoAttr K A.CR "bouts"
  nCR_waiting : NoAttr K A.CR "waiting"
  clCK : Cls K A.CK
  nCK_many : NoAttr K A.CK "many"
  nCK_rounds : NoAttr K A.CK "rounds"
  nCK_rows : NoAttr K A.CK "rows"
  clCM : Cls K A.CM
  nCM_bracket : NoAttr K A.CM "bracket"
  gNOBODY : GV mg "NOBODY" (.int (-1))
  gPOINTS : GV mg "POINTS" (.int 0)
  gSUPERIORITY : GV mg "SUPERIORITY" (.int 1)
  gFALL : GV mg "FALL" (.int 2)
  gCAUTIONS : GV mg "CAUTIONS" (.int 3)
  gGIVEN_UP : GV mg "GIVEN_UP" (.int 4)
  gUNFOUGHT : GV mg "UNFOUGHT" (.int 5)
  gCAUTION : GV mg "CAUTION" (.int 0)
  gMOST_CAUTIONS : GV mg "MOST_CAUTIONS" (.int 3)
  gMOST_AHEAD : GV mg "MOST_AHEAD" (.int 10)
  gFEWEST : GV mg "FEWEST" (.int 2)
  gMOST : GV mg "MOST" (.int 32)
  gMOST_ACTS : GV mg "MOST_ACTS" (.int 100)
  gWORTHS : GV mg "WORTHS" (.ref A.aW)
  tWORTHS : ∀ H : Hp, SqT K H A.aW ([0, 1, 2, 4, 5].map V.int)
  gCOUNTS : GV mg "COUNTS" (.ref A.aC)
  tCOUNTS : ∀ H : Hp, SqT K H A.aC ([0, 1, 4, 3, 3, 2, 2, 0, 1, 0].map V.int)
  len : mg "len" = none
  sum : mg "sum" = none
  all : mg "all" = none
  abs : mg "abs" = none
  list : mg "list" = none
  range : mg "range" = none
  sort : mg "sorted" = none
  exc : mg "Exception" = none
end Wm
/-! # How a class of wrestlers lies in the heap -/
namespace Wm
open PySem PySem.Spec PyProof.Rows L2
/-- a bout: its object, that one's dict, the pair of wrestlers, the list of acts, the acts; what it is -/
structure BL where
  a : Addr
  d : Addr
  t : Addr
  l : Addr
  ts : List Addr
  b : Kg66.Bout
def wonI (b : Kg66.Bout) : Int := Kg66.opt (b.won.map (·.1))
def howI (b : Kg66.Bout) : Int := Kg66.opt (b.won.map (·.2))
def bF (t l : Addr) (w h : Int) : List (Str × V) := [("wrestlers", .ref t), ("acts", .ref l), ("winner", .int w), ("how", .int h)]
abbrev ActsAt (H : Hp) : List Addr → List Kg66.Act → Prop := Paired fun t x => H t = some (.tup [.int (x.who : Nat), .int (x.worth : Nat)])
structure BoutIs (CB : Addr) (H : Hp) (x : BL) : Prop where
  obj : H x.a = some (.ins CB x.d (bF x.t x.l (wonI x.b) (howI x.b)))
  wr : H x.t = some (.tup [.int (Kg66.opt x.b.a), .int (Kg66.opt x.b.b)])
  ac : H x.l = some (.lst (x.ts.map V.ref))
  at_ : ActsAt H x.ts x.b.acts
def BL.foot (x : BL) : List Addr := x.a :: x.t :: x.l :: x.ts
/-- what is well of a bout -/
structure WfB (b : Kg66.Bout) : Prop where
  who : ∀ x ∈ b.acts, x.who ≤ 1
  len : b.acts.length ≤ 100
  won : ∀ w h, b.won = some (w, h) → w ≤ 1
  one : b.a.isSome = true
/-- a round -/
structure RL where
  p : Addr
  bs : List BL
structure RoundIs (CB : Addr) (H : Hp) (r : RL) : Prop where
  l : H r.p = some (.lst (r.bs.map fun x => V.ref x.a))
  at_ : ∀ x ∈ r.bs, BoutIs CB H x
def RL.foot (r : RL) : List Addr := r.p :: r.bs.flatMap BL.foot
def RL.abs (r : RL) : List Kg66.Bout := r.bs.map BL.b
/-- a row of repechage -/
structure WL where
  a : Addr
  d : Addr
  pb : Addr
  pw : Addr
  bs : List BL
  ws : List Nat
def rF (pb pw : Addr) : List (Str × V) := [("bouts", .ref pb), ("waiting", .ref pw)]
structure RowIs (CB CR : Addr) (H : Hp) (r : WL) : Prop where
  obj : H r.a = some (.ins CR r.d (rF r.pb r.pw))
  l : H r.pb = some (.lst (r.bs.map fun x => V.ref x.a))
  w : H r.pw = some (.lst (r.ws.map fun n => V.int (n : Nat)))
  at_ : ∀ x ∈ r.bs, BoutIs CB H x
def WL.foot (r : WL) : List Addr := r.a :: r.pb :: r.pw :: r.bs.flatMap BL.foot
def WL.abs (r : WL) : Kg66.Row := ⟨r.bs.map BL.b, r.ws⟩
/-- a class -/
structure SL where
  a : Addr
  d : Addr
  pr : Addr
  pw : Addr
  n : Nat
  rounds : List RL
  rows : List WL
def sF (n : Nat) (pr pw : Addr) : List (Str × V) := [("many", .int (n : Nat)), ("rounds", .ref pr), ("rows", .ref pw)]
structure StIs (CB CR CK : Addr) (H : Hp) (s : SL) : Prop where
  obj : H s.a = some (.ins CK s.d (sF s.n s.pr s.pw))
  l : H s.pr = some (.lst (s.rounds.map fun r => V.ref r.p))
  w : H s.pw = some (.lst (s.rows.map fun r => V.ref r.a))
  rd : ∀ r ∈ s.rounds, RoundIs CB H r
  rw_ : ∀ r ∈ s.rows, RowIs CB CR H r
def SL.foot (s : SL) : List Addr := s.a :: s.pr :: s.pw :: (s.rounds.flatMap RL.foot ++ s.rows.flatMap WL.foot)
def SL.abs (s : SL) : Kg66.State := ⟨s.n, s.rounds.map RL.abs, s.rows.map WL.abs⟩
/-! ### what stays -/
theorem ActsAt.keep {D : List Addr} {H H' : Hp} (k : Keep D H H') : ∀ {ts : List Addr} {xs : List Kg66.Act}, ActsAt H ts xs → (∀ q ∈ ts, q ∉ D) → ActsAt H' ts xs
  | _, _, .nil, _ => .nil
  | _, _, .cons h r, n => .cons (k _ _ h (n _ List.mem_cons_self)) (ActsAt.keep k r fun q hq => n q (List.mem_cons_of_mem _ hq))
theorem ActsAt.len {H : Hp} {ts : List Addr} {xs : List Kg66.Act} (h : ActsAt H ts xs) : ts.length = xs.length := Paired.length h
theorem BoutIs.keep {CB : Addr} {D : List Addr} {H H' : Hp} {x : BL} (h : BoutIs CB H x) (k : Keep D H H') (n : ∀ q ∈ x.foot, q ∉ D) : BoutIs CB H' x :=
  ⟨k _ _ h.obj (n _ (by simp [BL.foot])), k _ _ h.wr (n _ (by simp [BL.foot])), k _ _ h.ac (n _ (by simp [BL.foot])), h.at_.keep k fun q hq => n q (by simp [BL.foot, hq])⟩
theorem RoundIs.keep {CB : Addr} {D : List Addr} {H H' : Hp} {r : RL} (h : RoundIs CB H r) (k : Keep D H H') (n : ∀ q ∈ r.foot, q ∉ D) : RoundIs CB H' r :=
  ⟨k _ _ h.l (n _ (by simp [RL.foot])), fun x hx => (h.at_ x hx).keep k fun q hq => n q (List.mem_cons_of_mem _ (List.mem_flatMap.mpr ⟨x, hx, hq⟩))⟩
theorem RowIs.keep {CB CR : Addr} {D : List Addr} {H H' : Hp} {r : WL} (h : RowIs CB CR H r) (k : Keep D H H') (n : ∀ q ∈ r.foot, q ∉ D) : RowIs CB CR H' r :=
  ⟨k _ _ h.obj (n _ (by simp [WL.foot])), k _ _ h.l (n _ (by simp [WL.foot])), k _ _ h.w (n _ (by simp [WL.foot])), fun x hx => (h.at_ x hx).keep k fun q hq => n q (by
    simp only [WL.foot, List.mem_cons, List.mem_flatMap]
    exact .inr (.inr (.inr ⟨x, hx, hq⟩)))⟩
theorem StIs.keep {CB CR CK : Addr} {D : List Addr} {H H' : Hp} {s : SL} (h : StIs CB CR CK H s) (k : Keep D H H') (n : ∀ q ∈ s.foot, q ∉ D) : StIs CB CR CK H' s :=
  ⟨k _ _ h.obj (n _ (by simp [SL.foot])), k _ _ h.l (n _ (by simp [SL.foot])), k _ _ h.w (n _ (by simp [SL.foot])),
    fun r hr => (h.rd r hr).keep k fun q hq => n q (by
      simp only [SL.foot, List.mem_cons, List.mem_append, List.mem_flatMap]
      exact .inr (.inr (.inr (.inl ⟨r, hr, hq⟩)))),
    fun r hr => (h.rw_ r hr).keep k fun q hq => n q (by
      simp only [SL.foot, List.mem_cons, List.mem_append, List.mem_flatMap]
      exact .inr (.inr (.inr (.inr ⟨r, hr, hq⟩))))⟩
theorem BoutIs.same {CB : Addr} {H H' : Hp} {x : BL} (h : BoutIs CB H x) (s : Same H H') : BoutIs CB H' x := h.keep (D := []) (Keep.of s) (by simp)
theorem RoundIs.same {CB : Addr} {H H' : Hp} {r : RL} (h : RoundIs CB H r) (s : Same H H') : RoundIs CB H' r := h.keep (D := []) (Keep.of s) (by simp)
theorem RowIs.same {CB CR : Addr} {H H' : Hp} {r : WL} (h : RowIs CB CR H r) (s : Same H H') : RowIs CB CR H' r := h.keep (D := []) (Keep.of s) (by simp)
theorem StIs.same {CB CR CK : Addr} {H H' : Hp} {x : SL} (h : StIs CB CR CK H x) (s : Same H H') : StIs CB CR CK H' x := h.keep (D := []) (Keep.of s) (by simp)
/-! ### what stands at the addresses: instances, lists, tuples -/
def Plain : HO → Prop
  | .lst _ => True
  | .tup _ => True
  | .ins _ _ _ => True
  | _ => False
theorem ActsAt.plain {H : Hp} : ∀ {ts : List Addr} {xs : List Kg66.Act}, ActsAt H ts xs → ∀ q ∈ ts, ∃ o, H q = some o ∧ Plain o
  | _, _, .nil, q, h => nomatch h
  | _, _, .cons h r, q, hq => by
    rcases List.mem_cons.mp hq with z | z
    · rw [z]
      exact ⟨_, h, trivial⟩
    · exact ActsAt.plain r q z
theorem BoutIs.plain {CB : Addr} {H : Hp} {x : BL} (h : BoutIs CB H x) : ∀ q ∈ x.foot, ∃ o, H q = some o ∧ Plain o := fun q hq => by
  rcases List.mem_cons.mp hq with rfl | hq
  · exact ⟨_, h.obj, trivial⟩
  rcases List.mem_cons.mp hq with rfl | hq
  · exact ⟨_, h.wr, trivial⟩
  rcases List.mem_cons.mp hq with rfl | hq
  · exact ⟨_, h.ac, trivial⟩
  exact h.at_.plain q hq
theorem RoundIs.plain {CB : Addr} {H : Hp} {r : RL} (h : RoundIs CB H r) : ∀ q ∈ r.foot, ∃ o, H q = some o ∧ Plain o := fun q hq => by
  rcases List.mem_cons.mp hq with rfl | hq
  · exact ⟨_, h.l, trivial⟩
  obtain ⟨x, hx, hq⟩ := List.mem_flatMap.mp hq
  exact (h.at_ x hx).plain q hq
theorem RowIs.plain {CB CR : Addr} {H : Hp} {r : WL} (h : RowIs CB CR H r) : ∀ q ∈ r.foot, ∃ o, H q = some o ∧ Plain o := fun q hq => by
  rcases List.mem_cons.mp hq with rfl | hq
  · exact ⟨_, h.obj, trivial⟩
  rcases List.mem_cons.mp hq with rfl | hq
  · exact ⟨_, h.l, trivial⟩
  rcases List.mem_cons.mp hq with rfl | hq
  · exact ⟨_, h.w, trivial⟩
  obtain ⟨x, hx, hq⟩ := List.mem_flatMap.mp hq
  exact (h.at_ x hx).plain q hq
theorem StIs.plain {CB CR CK : Addr} {H : Hp} {s : SL} (h : StIs CB CR CK H s) : ∀ q ∈ s.foot, ∃ o, H q = some o ∧ Plain o := fun q hq => by
  rcases List.mem_cons.mp hq with rfl | hq
  · exact ⟨_, h.obj, trivial⟩
  rcases List.mem_cons.mp hq with rfl | hq
  · exact ⟨_, h.l, trivial⟩
  rcases List.mem_cons.mp hq with rfl | hq
  · exact ⟨_, h.w, trivial⟩
  rcases List.mem_append.mp hq with hq | hq
  · obtain ⟨x, hx, hq⟩ := List.mem_flatMap.mp hq
    exact (h.rd x hx).plain q hq
  · obtain ⟨x, hx, hq⟩ := List.mem_flatMap.mp hq
    exact (h.rw_ x hx).plain q hq
/-- fresh addresses are none of those that stand -/
theorem not_in {H : Hp} {l : List Addr} {p : Addr} (h : ∀ q ∈ l, ∃ o, H q = some o ∧ Plain o) (n : H p = none) : p ∉ l := fun z => by
  obtain ⟨o, e, _⟩ := h p z
  rw [n] at e
  cases e
/-! ### fields -/
theorem bF_wr {t l : Addr} {w h : Int} : (bF t l w h).lookup ("wrestlers" : Str) = some (.ref t) := lk0
theorem bF_ac {t l : Addr} {w h : Int} : (bF t l w h).lookup ("acts" : Str) = some (.ref l) := (lkS (by decide +kernel)).trans lk0
theorem bF_wi {t l : Addr} {w h : Int} : (bF t l w h).lookup ("winner" : Str) = some (.int w) := (lkS (by decide +kernel)).trans ((lkS (by decide +kernel)).trans lk0)
theorem bF_ho {t l : Addr} {w h : Int} : (bF t l w h).lookup ("how" : Str) = some (.int h) := (lkS (by decide +kernel)).trans ((lkS (by decide +kernel)).trans ((lkS (by decide +kernel)).trans lk0))
theorem bF_pw {t l : Addr} {w h w' : Int} : putF "winner" (.int w') (bF t l w h) = bF t l w' h := (putS (by decide +kernel)).trans (congrArg _ ((putS (by decide +kernel)).trans (congrArg _ put0)))
theorem bF_ph {t l : Addr} {w h h' : Int} : putF "how" (.int h') (bF t l w h) = bF t l w h' := (putS (by decide +kernel)).trans (congrArg _ ((putS (by decide +kernel)).trans (congrArg _ ((putS (by decide +kernel)).trans (congrArg _ put0)))))
theorem bF_new {t l : Addr} {w h : Int} : putF "how" (.int h) (putF "winner" (.int w) (putF "acts" (.ref l) (putF "wrestlers" (.ref t) []))) = bF t l w h := rfl
theorem rF_b {pb pw : Addr} : (rF pb pw).lookup ("bouts" : Str) = some (.ref pb) := lk0
theorem rF_w {pb pw : Addr} : (rF pb pw).lookup ("waiting" : Str) = some (.ref pw) := (lkS (by decide +kernel)).trans lk0
theorem rF_pw {pb pw pw' : Addr} : putF "waiting" (.ref pw') (rF pb pw) = rF pb pw' := (putS (by decide +kernel)).trans (congrArg _ put0)
theorem sF_n {n : Nat} {pr pw : Addr} : (sF n pr pw).lookup ("many" : Str) = some (.int n) := lk0
theorem sF_r {n : Nat} {pr pw : Addr} : (sF n pr pw).lookup ("rounds" : Str) = some (.ref pr) := (lkS (by decide +kernel)).trans lk0
theorem sF_w {n : Nat} {pr pw : Addr} : (sF n pr pw).lookup ("rows" : Str) = some (.ref pw) := (lkS (by decide +kernel)).trans ((lkS (by decide +kernel)).trans lk0)
theorem sF_pw {n : Nat} {pr pw pw' : Addr} : putF "rows" (.ref pw') (sF n pr pw) = sF n pr pw' := (putS (by decide +kernel)).trans (congrArg _ ((putS (by decide +kernel)).trans (congrArg _ put0)))
/-! ### comprehensions whose parts change nothing -/
abbrev rLen (K : PySem.W.Frag) : List V → Hp → VK → Prop := fun xs H Q => ∃ p ys, xs = [V.ref p] ∧ (SqL K H p ys ∨ SqT K H p ys) ∧ Q (V.int (ys.length : Nat)) H
theorem lc_fun {al : Type} {K : PySem.W.Frag} {a D : Addr} {xs : List V} {as : List al} {g : TG} {tt : TT} {te : L2.TE} {vs : List Nat} {σ : L2.St} {H1 : Hp} {Qd : Hp → Prop} (p : al → Bool) (f : al → V) (hD : H1 D = none) (hl : SqL K H1 a xs) (hn : xs.length = as.length) (hz : as.length ≤ 1000)
    (turn : ∀ (i : Nat) (x : V) (y : al) (H : Hp), xs[i]? = some x → as[i]? = some y → y ∈ as → Same H1 H → ∀ (Y : V → Hp → Prop) (Z : Hp → Prop), (p y = true → ∀ H', Same H H' → Y (f y) H') → (p y = false → ∀ H', Same H H' → Z H') →
      g x (wipe σ vs) H fun σ2 H2 => wipe σ2 vs = wipe σ vs ∧ tt σ2 H2 fun b H3 => if b = true then te σ2 H3 Y else Z H3)
    (hd : ∀ H, Same H1 H → H D = some (.lst ((as.filter p).map f)) → Qd H) :
    ∃ W : Nat → Nat → Hp → Prop, (∃ m, W 0 m (upd H1 D (.lst []))) ∧ ∀ i m H, W i m H →
      ((Itl K a).stop i H ∧ Qd H) ∨ ((Itl K a).go i H ∧ ∃ Nx : Hp → Prop, (∀ H', Nx H' → ∃ m', m' < m ∧ W (i + 1) m' H') ∧ ∀ x H', (Itl K a).yld i H x H' → g x (wipe σ vs) H' fun σ2 H2 => wipe σ2 vs = wipe σ vs ∧ tt σ2 H2 fun b H3 =>
        if b = true then te σ2 H3 fun y H4 => ∃ acc, H4 D = some (.lst acc) ∧ acc.length < sizeLine ∧ Nx (upd H4 D (.lst (acc ++ [y]))) else Nx H3) := by
  have big : (1000 : Nat) < sizeLine := by decide
  refine lc_list (K := K) (a := a) (xs := xs) (fun i H => Same H1 H ∧ H D = some (.lst (((as.take i).filter p).map f))) ⟨same_new hD, upd_same⟩ (fun i H _ h => h.1.seq hl) (fun i x H hx h => ?_) fun H h => hd H h.1 (by
    have e := h.2
    rw [hn, List.take_length] at e
    exact e)
  obtain ⟨s1, e1⟩ := h
  have hi : i < as.length := by
    rw [← hn]
    exact (List.getElem?_eq_some_iff.mp hx).1
  have hy : as[i]? = some as[i] := List.getElem?_eq_getElem hi
  have ht : as.take (i + 1) = as.take i ++ [as[i]] := by simp
  refine turn i x as[i] H hx hy (List.getElem_mem hi) s1 _ _ (fun hp H' s2 => ?_) fun hp H' s2 => ?_
  · refine ⟨_, s2 _ _ e1, ?_, same_set (s1.trans s2) hD, ?_⟩
    · rw [List.length_map]
      have z := List.length_filter_le p (as.take i)
      rw [List.length_take] at z
      omega
    · rw [upd_same, ht, List.filter_append, List.map_append]
      simp [hp]
  · refine ⟨s1.trans s2, ?_⟩
    rw [ht, List.filter_append, List.map_append]
    simp [hp]
    exact s2 _ _ e1
theorem lc_map {al : Type} {K : PySem.W.Frag} {a D : Addr} {xs : List V} {as : List al} {g : TG} {te : L2.TE} {vs : List Nat} {σ : L2.St} {H1 : Hp} {Qd : Hp → Prop} (f : al → V) (hD : H1 D = none) (hl : SqL K H1 a xs) (hn : xs.length = as.length) (hz : as.length ≤ 1000)
    (turn : ∀ (i : Nat) (x : V) (y : al) (H : Hp), xs[i]? = some x → as[i]? = some y → y ∈ as → Same H1 H → ∀ (Y : V → Hp → Prop), (∀ H', Same H H' → Y (f y) H') → g x (wipe σ vs) H fun σ2 H2 => wipe σ2 vs = wipe σ vs ∧ te σ2 H2 Y)
    (mono : ∀ x σ H (Q Q' : L2.St → Hp → Prop), (∀ σ2 H2, Q σ2 H2 → Q' σ2 H2) → g x σ H Q → g x σ H Q')
    (hd : ∀ H, Same H1 H → H D = some (.lst (as.map f)) → Qd H) :
    ∃ W : Nat → Nat → Hp → Prop, (∃ m, W 0 m (upd H1 D (.lst []))) ∧ ∀ i m H, W i m H →
      ((Itl K a).stop i H ∧ Qd H) ∨ ((Itl K a).go i H ∧ ∃ Nx : Hp → Prop, (∀ H', Nx H' → ∃ m', m' < m ∧ W (i + 1) m' H') ∧ ∀ x H', (Itl K a).yld i H x H' → g x (wipe σ vs) H' fun σ2 H2 => wipe σ2 vs = wipe σ vs ∧ tYes σ2 H2 fun b H3 =>
        if b = true then te σ2 H3 fun y H4 => ∃ acc, H4 D = some (.lst acc) ∧ acc.length < sizeLine ∧ Nx (upd H4 D (.lst (acc ++ [y]))) else Nx H3) := by
  refine lc_fun (fun _ => true) f hD hl hn hz (fun i x y H h1 h2 h3 h4 Y Z hY _ => ?_) fun H s e => hd H s (by
    rw [show as.filter (fun _ => true) = as from List.filter_eq_self.mpr fun _ _ => rfl] at e
    exact e)
  refine mono _ _ _ _ _ (fun σ2 H2 q => ⟨q.1, ?_⟩) (turn i x y H h1 h2 h3 h4 Y (hY rfl))
  have z : if true = true then te σ2 H2 Y else Z H2 := iteT q.2
  exact z
theorem gName_mono {i : Nat} : ∀ (x : V) (σ : L2.St) (H : Hp) (Q Q' : L2.St → Hp → Prop), (∀ σ2 H2, Q σ2 H2 → Q' σ2 H2) → gName i x σ H Q → gName i x σ H Q' := fun _ _ _ _ _ h q => h _ _ q
end Wm
/-! # A bout's defs -/
namespace Wm
open PySem PySem.Spec PyProof.Rows L2
section
variable {P : Program} {w : World} {K : PySem.W.Frag} {mg : Str → Option Value} {base : Heap} {A : Ads}
/-! ### __init__, win, begun_bout -/
def sp_Bout_init (K : PySem.W.Frag) (A : Ads) : Sp := fun vs H Q _ => ∃ (p d : Addr) (x y : Int), vs = [.ref p, .int x, .int y] ∧ H p = some (.ins A.CB d []) ∧
  ∀ (H' : Hp) (t l : Addr), H' p = some (.ins A.CB d (bF t l (-1) (-1))) → H' t = some (.tup [.int x, .int y]) → H' l = some (.lst []) → H t = none → H l = none → Keep [p] H H' → Q .non H'
theorem ok_Bout_init (T : Txt K mg A)  {f : Addr} {fd : FuncData} (F : Fun K "__init__" "Bout.__init__" sBout_init f fd) : FnOk P w K mg base CX0 1 f fd PBout_init (sp_Bout_init K A) := by
  refine F.ok scBout_init (fun vs H Q E h => ?_) (fun cdv Ar outer s H vs Q E hr h => ⟨_, (pss_cons (ps_fld (pv 0) (pe_tup (by exact (pa_cons (pv 1) (pa_cons (pv 2) pa_nil)))) rfl)
      (pss_cons (ps_fld (pv 0) (pe_lst pa_nil) rfl)
      (pss_cons (ps_fld (pv 0) (pe_gl T.gNOBODY) rfl)
      (pss_one (ps_fld (pv 0) (pe_gl T.gNOBODY) rfl))))), ?_⟩)
  · obtain ⟨_, _, _, _, rfl, _⟩ := h
    rfl
  obtain ⟨p, d, x, y, rfl, hp, k⟩ := h
  refine ⟨_, rfl, _, rfl, (by show 2 ≤ sizeLine; decide), fun t ht => ?_⟩
  generalize e1 : upd H t _ = H1
  have s1 : Same H H1 := e1 ▸ same_new ht
  have f1 : H1 t = some (.tup [.int x, .int y]) := e1 ▸ upd_same
  refine ⟨_, rfl, p, A.CB, d, [], rfl, s1 _ _ hp, T.clCB, T.nCB_wrestlers, (by decide), ?_⟩
  refine ⟨Nat.zero_le _, fun l hl => ?_⟩
  have npl : p ≠ l := ne_of_none upd_same hl
  have nlt : t ≠ p := ne_of f1 (s1 _ _ hp) (fun z => by cases z)
  have hl' : H1 l = none := by rw [← hl, upd_ne (Ne.symm npl)]
  refine ⟨_, rfl, p, A.CB, d, _, rfl, (upd_ne npl).trans upd_same, T.clCB, T.nCB_acts, (by show 1 < 1000; decide), ?_⟩
  refine ⟨_, rfl, p, A.CB, d, _, rfl, upd_same, T.clCB, T.nCB_winner, (by show 2 < 1000; decide), ?_⟩
  refine ⟨_, rfl, p, A.CB, d, _, rfl, upd_same, T.clCB, T.nCB_how, (by show 3 < 1000; decide), ?_⟩
  refine k _ t l (upd_same.trans (congrArg (fun q => some (HO.ins A.CB d q)) bF_new)) ?_ ?_ ht (s1.free hl') ?_
  · rw [upd_ne nlt, upd_ne nlt, upd_ne nlt, upd_ne (ne_of_none f1 hl'), upd_ne nlt]
    exact f1
  · rw [upd_ne (Ne.symm npl), upd_ne (Ne.symm npl), upd_ne (Ne.symm npl), upd_same]
  · intro b o hb nb
    have nbp : b ≠ p := fun z => nb (by simp [z])
    rw [upd_ne nbp, upd_ne nbp, upd_ne nbp, upd_ne (ne_of_none (s1 _ _ hb) hl'), upd_ne nbp]
    exact s1 _ _ hb
def sp_win (K : PySem.W.Frag) (A : Ads) : Sp := fun vs H Q _ => ∃ (x : BL) (u h : Nat), vs = [.ref x.a, .int u, .int h] ∧ BoutIs A.CB H x ∧
  ∀ H' : Hp, BoutIs A.CB H' { x with b := { x.b with won := some (u, h) } } → Keep [x.a] H H' → Q .non H'
theorem ActsAt.tups {H : Hp} : ∀ {ts : List Addr} {xs : List Kg66.Act}, ActsAt H ts xs → ∀ q ∈ ts, ∃ ys, H q = some (.tup ys)
  | _, _, .nil, q, h => nomatch h
  | _, _, .cons h r, q, hq => by
    rcases List.mem_cons.mp hq with z | z
    · rw [z]
      exact ⟨_, h⟩
    · exact ActsAt.tups r q z
/-- tuples and lists are no instance -/
theorem BoutIs.apart {CB : Addr} {H : Hp} {x : BL} (h : BoutIs CB H x) : x.t ≠ x.a ∧ x.l ≠ x.a ∧ x.a ∉ x.ts ∧ x.t ≠ x.l ∧ x.l ∉ x.ts := by
  refine ⟨ne_of h.wr h.obj (fun z => by cases z), ne_of h.ac h.obj (fun z => by cases z), fun hq => ?_, ne_of h.wr h.ac (fun z => by cases z), fun hq => ?_⟩
  · obtain ⟨ys, e⟩ := h.at_.tups _ hq
    rw [h.obj] at e
    cases e
  · obtain ⟨ys, e⟩ := h.at_.tups _ hq
    rw [h.ac] at e
    cases e
theorem ok_win (T : Txt K mg A)  {f : Addr} {fd : FuncData} (F : Fun K "win" "win" swin f fd) : FnOk P w K mg base CX0 1 f fd Pwin (sp_win K A) := by
  refine F.ok scwin (fun vs H Q E h => ?_) (fun cdv Ar outer s H vs Q E hr h => ⟨_, (pss_cons (ps_fld (pv 0) (pv 1) rfl)
      (pss_one (ps_fld (pv 0) (pv 2) rfl))), ?_⟩)
  · obtain ⟨_, _, _, rfl, _⟩ := h
    rfl
  obtain ⟨x, u, hw, rfl, hb, k⟩ := h
  obtain ⟨n1, n2, n3, n4, n5⟩ := hb.apart
  refine ⟨_, rfl, _, rfl, x.a, A.CB, x.d, _, rfl, hb.obj, T.clCB, T.nCB_winner, (by show 4 < 1000; decide), ?_⟩
  refine ⟨_, rfl, _, rfl, x.a, A.CB, x.d, _, rfl, upd_same, T.clCB, T.nCB_how, (by show 4 < 1000; decide), ?_⟩
  have e : upd (upd H x.a (.ins A.CB x.d (putF "winner" (.int u) (bF x.t x.l (wonI x.b) (howI x.b))))) x.a (.ins A.CB x.d (putF "how" (.int hw) (putF "winner" (.int u) (bF x.t x.l (wonI x.b) (howI x.b))))) = upd H x.a (.ins A.CB x.d (bF x.t x.l u hw)) := by
    rw [upd_upd, bF_pw, bF_ph]
  show Q .non _
  rw [e]
  have kp : Keep [x.a] H (upd H x.a (.ins A.CB x.d (bF x.t x.l u hw))) := Keep.set (by simp)
  refine k _ ⟨upd_same, (upd_ne n1).trans hb.wr, (upd_ne n2).trans hb.ac, hb.at_.keep kp fun q hq z => n3 ?_⟩ kp
  rw [← List.mem_singleton.mp z]
  exact hq
/-! ### counts of acts -/
theorem ActsAt.get {H : Hp} : ∀ {ts : List Addr} {xs : List Kg66.Act} {i : Nat} {v : V} {y : Kg66.Act}, ActsAt H ts xs → (ts.map V.ref)[i]? = some v → xs[i]? = some y → ∃ t, v = .ref t ∧ H t = some (.tup [.int (y.who : Nat), .int (y.worth : Nat)])
  | _, _, i, _, _, .nil, h, _ => by simp at h
  | _, _, 0, _, _, .cons (a := t) h r, h1, h2 => by
    simp at h1 h2
    subst h1 h2
    exact ⟨t, rfl, h⟩
  | _, _, i + 1, _, _, .cons h r, h1, h2 => ActsAt.get r (i := i) (by simpa using h1) (by simpa using h2)
def sp_cautions_of (K : PySem.W.Frag) (A : Ads) : Sp := fun vs H Q _ => ∃ (x : BL) (i : Nat), vs = [.ref x.a, .int i] ∧ BoutIs A.CB H x ∧ WfB x.b ∧ ∀ H' : Hp, Same H H' → Q (.int (x.b.cautions i : Nat)) H'
theorem ok_cautions_of (T : Txt K mg A)  {f : Addr} {fd : FuncData} (F : Fun K "cautions_of" "cautions_of" scautions_of f fd) : FnOk P w K mg base CX0 1 f fd Pcautions_of (sp_cautions_of K A) := by
  refine F.ok sccautions_of (fun vs H Q E h => ?_) (fun cdv Ar outer s H vs Q E hr h => ⟨_, (pss_one (ps_ret (pe_callB call_len_seq rfl T.len (by decide +kernel) (by exact (pa_cons (pe_lc (own := [("one", 2), ("worth", 3)]) (g := gTup K 2 (gCons (gName 2) (gCons (gName 3) gNil))) (tt := (tAnd (tTest (tOp rEq (tVar 2) (tVar 1))) (tTest (tOp rEq (tVar 3) (tC (.int 0)))))) (te := (tC (.int 1))) rfl sccautions_of.nd (pi_list (pe_fld (pv 0) rfl)) (blkOk_by (own := [("one", 2), ("worth", 3)]) (N := Ncautions_of) (sc := defScope scautions_of) (by decide +kernel)) (fun _ _ _ _ _ => by exact ((pg_tup rfl (pgs_cons (pg_name (i := 2) sccautions_of.nd rfl (Or.inl rfl)) (pgs_cons (pg_name (i := 3) sccautions_of.nd rfl (Or.inl rfl)) pgs_nil))))) (fun _ _ _ _ _ => by exact (pts_one (PW.pt (pw_and (pt_cmpR op_eq (pv 2) (pv 1) (nomark _)) (pw_and1 (pt_cmpR op_eq (pv 3) (pe_gl T.gCAUTION) (nomark _))))))) (fun _ _ _ _ _ => by exact (pe_int))) pa_nil))))), ?_⟩)
  · obtain ⟨_, _, rfl, _⟩ := h
    rfl
  obtain ⟨x, i, rfl, hb, wf, k⟩ := h
  refine ⟨_, rfl, x.a, A.CB, x.d, _, _, rfl, hb.obj, T.clCB, T.nCB_acts, bF_ac, x.l, rfl, ⟨_, SqL.of hb.ac⟩, fun D hD => ?_⟩
  refine lc_fun (K := K) (a := x.l) (as := x.b.acts) (fun y => y.who == i && y.worth == 0) (fun _ => .int 1) hD (SqL.of hb.ac) (by rw [List.length_map]; exact hb.at_.len) (by have := wf.len; omega) (fun j v y H1 hv hy hm s1 Y Z hY hZ => ?_) fun H1 s1 e1 => ?_
  · obtain ⟨t, rfl, ht⟩ := (hb.at_.keep (Keep.of (D := []) s1) (by simp)).get hv hy
    refine ⟨t, _, rfl, SqT.of ht, rfl, _, _, rfl, _, _, rfl, rfl, rfl, ?_⟩
    refine ⟨_, rfl, _, rfl, rfl, _, rfl, if_d (fun h1 => ?_) (fun h1 => ?_)⟩
    · have h1' : y.who = i := by have z := V.int.inj h1; omega
      refine ⟨_, rfl, rfl, _, rfl, if_d (fun h2 => ?_) (fun h2 => ?_)⟩
      · have h2' : y.worth = 0 := by have z := V.int.inj h2; omega
        exact hY (by simp [h1', h2']) H1 (Same.refl _)
      · have h2' : ¬ y.worth = 0 := fun z => h2 (by simp [z])
        exact hZ (by simp [h2']) H1 (Same.refl _)
    · have h1' : ¬ y.who = i := fun z => h1 (by simp [z])
      exact hZ (by simp [h1']) H1 (Same.refl _)
  · refine ⟨D, _, rfl, .inl (SqL.of e1), ?_⟩
    show Q (.int ((List.map _ _).length : Nat)) H1
    rw [List.length_map]
    exact k H1 s1
def sp_holds_of (K : PySem.W.Frag) (A : Ads) : Sp := fun vs H Q _ => ∃ (x : BL) (i n : Nat), vs = [.ref x.a, .int i, .int n] ∧ BoutIs A.CB H x ∧ WfB x.b ∧ ∀ H' : Hp, Same H H' → Q (.int (x.b.holds i n : Nat)) H'
theorem ok_holds_of (T : Txt K mg A)  {f : Addr} {fd : FuncData} (F : Fun K "holds_of" "holds_of" sholds_of f fd) : FnOk P w K mg base CX0 1 f fd Pholds_of (sp_holds_of K A) := by
  refine F.ok scholds_of (fun vs H Q E h => ?_) (fun cdv Ar outer s H vs Q E hr h => ⟨_, (pss_one (ps_ret (pe_callB call_len_seq rfl T.len (by decide +kernel) (by exact (pa_cons (pe_lc (own := [("one", 3), ("told", 4)]) (g := gTup K 2 (gCons (gName 3) (gCons (gName 4) gNil))) (tt := (tAnd (tTest (tOp rEq (tVar 3) (tVar 1))) (tTest (tOp rEq (tVar 4) (tVar 2))))) (te := (tC (.int 1))) rfl scholds_of.nd (pi_list (pe_fld (pv 0) rfl)) (blkOk_by (own := [("one", 3), ("told", 4)]) (N := Nholds_of) (sc := defScope sholds_of) (by decide +kernel)) (fun _ _ _ _ _ => by exact ((pg_tup rfl (pgs_cons (pg_name (i := 3) scholds_of.nd rfl (Or.inl rfl)) (pgs_cons (pg_name (i := 4) scholds_of.nd rfl (Or.inl rfl)) pgs_nil))))) (fun _ _ _ _ _ => by exact (pts_one (PW.pt (pw_and (pt_cmpR op_eq (pv 3) (pv 1) (nomark _)) (pw_and1 (pt_cmpR op_eq (pv 4) (pv 2) (nomark _))))))) (fun _ _ _ _ _ => by exact (pe_int))) pa_nil))))), ?_⟩)
  · obtain ⟨_, _, _, rfl, _⟩ := h
    rfl
  obtain ⟨x, i, n, rfl, hb, wf, k⟩ := h
  refine ⟨_, rfl, x.a, A.CB, x.d, _, _, rfl, hb.obj, T.clCB, T.nCB_acts, bF_ac, x.l, rfl, ⟨_, SqL.of hb.ac⟩, fun D hD => ?_⟩
  refine lc_fun (K := K) (a := x.l) (as := x.b.acts) (fun y => y.who == i && y.worth == n) (fun _ => .int 1) hD (SqL.of hb.ac) (by rw [List.length_map]; exact hb.at_.len) (by have := wf.len; omega) (fun j v y H1 hv hy hm s1 Y Z hY hZ => ?_) fun H1 s1 e1 => ?_
  · obtain ⟨t, rfl, ht⟩ := (hb.at_.keep (Keep.of (D := []) s1) (by simp)).get hv hy
    refine ⟨t, _, rfl, SqT.of ht, rfl, _, _, rfl, _, _, rfl, rfl, rfl, ?_⟩
    refine ⟨_, rfl, _, rfl, rfl, _, rfl, if_d (fun h1 => ?_) (fun h1 => ?_)⟩
    · have h1' : y.who = i := by have z := V.int.inj h1; omega
      refine ⟨_, rfl, _, rfl, rfl, _, rfl, if_d (fun h2 => ?_) (fun h2 => ?_)⟩
      · have h2' : y.worth = n := by have z := V.int.inj h2; omega
        exact hY (by simp [h1', h2']) H1 (Same.refl _)
      · have h2' : ¬ y.worth = n := fun z => h2 (by simp [z])
        exact hZ (by simp [h2']) H1 (Same.refl _)
    · have h1' : ¬ y.who = i := fun z => h1 (by simp [z])
      exact hZ (by simp [h1']) H1 (Same.refl _)
  · refine ⟨D, _, rfl, .inl (SqL.of e1), ?_⟩
    show Q (.int ((List.map _ _).length : Nat)) H1
    rw [List.length_map]
    exact k H1 s1
/-! ### points -/
theorem pts_sum : ∀ (l : List Kg66.Act) (i : Nat), i ≤ 1 → (∀ x ∈ l, x.who ≤ 1) →
    (((l.filter fun y => y.who == i).map fun y => (y.worth : Int)).sum : Int) + ((l.filter fun y => y.who == 1 - i && y.worth == 0).length : Nat) = ((l.map fun x => if x.worth = 0 then (if x.who = i then 0 else 1) else if x.who = i then x.worth else 0).sum : Nat)
  | [], i, _, _ => rfl
  | x :: r, i, hi, hw => by
    have ih := pts_sum r i hi fun y hy => hw y (List.mem_cons_of_mem _ hy)
    have hx := hw x List.mem_cons_self
    rw [List.map_cons, List.sum_cons, List.filter_cons, List.filter_cons]
    by_cases h1 : x.who = i
    · have h2 : ¬ x.who = 1 - i := by omega
      have b1 : (x.who == i) = true := by simp [h1]
      have b2 : (x.who == 1 - i && x.worth == 0) = false := by simp [h2]
      rw [if_pos b1, b2, if_neg Bool.false_ne_true, List.map_cons, List.sum_cons, if_pos h1, if_pos h1]
      by_cases h3 : x.worth = 0
      · rw [if_pos h3, h3]
        omega
      · rw [if_neg h3]
        omega
    · have h2 : x.who = 1 - i := by omega
      have b1 : (x.who == i) = false := by simp [h1]
      rw [b1, if_neg Bool.false_ne_true, if_neg h1, if_neg h1]
      by_cases h3 : x.worth = 0
      · have b2 : (x.who == 1 - i && x.worth == 0) = true := by simp [h2, h3]
        rw [if_pos b2, if_pos h3, List.length_cons]
        omega
      · have b2 : (x.who == 1 - i && x.worth == 0) = false := by simp [h3]
        rw [b2, if_neg Bool.false_ne_true, if_neg h3]
        omega
def sp_points_of (K : PySem.W.Frag) (A : Ads) : Sp := fun vs H Q _ => ∃ (x : BL) (i : Nat), vs = [.ref x.a, .int i] ∧ i ≤ 1 ∧ BoutIs A.CB H x ∧ WfB x.b ∧ ∀ H' : Hp, Same H H' → Q (.int (x.b.points i : Nat)) H'
theorem ok_points_of (T : Txt K mg A) (D_cautions_of : Own P w K mg base CX0 1 "cautions_of" Pcautions_of (sp_cautions_of K A)) {f : Addr} {fd : FuncData} (F : Fun K "points_of" "points_of" spoints_of f fd) : FnOk P w K mg base CX0 2 f fd Ppoints_of (sp_points_of K A) := by
  refine F.ok scpoints_of (fun vs H Q E h => ?_) (fun cdv Ar outer s H vs Q E hr h => ⟨_, (pss_one (ps_ret (pe_op op_add (pe_callB (cr_sum rfl) rfl T.sum (by decide +kernel) (by exact (pa_cons (pe_lc (own := [("one", 2), ("worth", 3)]) (g := gTup K 2 (gCons (gName 2) (gCons (gName 3) gNil))) (tt := (tTest (tOp rEq (tVar 2) (tVar 1)))) (te := (tVar 3)) rfl scpoints_of.nd (pi_list (pe_fld (pv 0) rfl)) (blkOk_by (own := [("one", 2), ("worth", 3)]) (N := Npoints_of) (sc := defScope spoints_of) (by decide +kernel)) (fun _ _ _ _ _ => by exact ((pg_tup rfl (pgs_cons (pg_name (i := 2) scpoints_of.nd rfl (Or.inl rfl)) (pgs_cons (pg_name (i := 3) scpoints_of.nd rfl (Or.inl rfl)) pgs_nil))))) (fun _ _ _ _ _ => by exact (pts_one (pt_cmpR op_eq (pv 2) (pv 1) (nomark _)))) (fun _ _ _ _ _ => by exact ((pv 3)))) pa_nil))) (pe_own D_cautions_of (hr.mono (by decide)) (by exact (pa_cons (pv 0) (pa_cons (pe_op op_sub pe_int (pv 1)) pa_nil))))))), ?_⟩)
  · obtain ⟨_, _, rfl, _⟩ := h
    rfl
  obtain ⟨x, i, rfl, hi, hb, wf, k⟩ := h
  refine ⟨_, rfl, x.a, A.CB, x.d, _, _, rfl, hb.obj, T.clCB, T.nCB_acts, bF_ac, x.l, rfl, ⟨_, SqL.of hb.ac⟩, fun D hD => ?_⟩
  refine lc_fun (K := K) (a := x.l) (as := x.b.acts) (fun y => y.who == i) (fun y => .int (y.worth : Nat)) hD (SqL.of hb.ac) (by rw [List.length_map]; exact hb.at_.len) (by have := wf.len; omega) (fun j v y H1 hv hy hm s1 Y Z hY hZ => ?_) fun H1 s1 e1 => ?_
  · obtain ⟨t, rfl, ht⟩ := (hb.at_.keep (Keep.of (D := []) s1) (by simp)).get hv hy
    refine ⟨t, _, rfl, SqT.of ht, rfl, _, _, rfl, _, _, rfl, rfl, rfl, ?_⟩
    refine ⟨_, rfl, _, rfl, rfl, _, rfl, if_d (fun h1 => ?_) (fun h1 => ?_)⟩
    · have h1' : y.who = i := by have z := V.int.inj h1; omega
      exact ⟨_, rfl, hY (by simp [h1']) H1 (Same.refl _)⟩
    · have h1' : ¬ y.who = i := fun z => h1 (by simp [z])
      exact hZ (by simp [h1']) H1 (Same.refl _)
  · refine ⟨D, (x.b.acts.filter fun y => y.who == i).map fun y => (y.worth : Int), rfl, SqL.of (by rw [e1, List.map_map] <;> rfl), ?_⟩
    refine ⟨_, rfl, _, rfl, _, _, rfl, rfl, x, 1 - i, congrArg (fun z => [V.ref x.a, V.int z]) (by omega), hb.same s1, wf, fun H2 s2 => ⟨_, _, rfl, rfl, ?_⟩⟩
    have e := pts_sum x.b.acts i hi wf.who
    have g := k H2 (s1.trans s2)
    show Q (.int _) H2
    rw [show (((x.b.acts.filter fun y => y.who == i).map fun y => (y.worth : Int)).sum + (x.b.cautions (1 - i) : Nat) : Int) = (x.b.points i : Nat) from e]
    exact g
/-! ### who leads -/
theorem ActsAt.last {H : Hp} : ∀ {ts : List Addr} {xs : List Kg66.Act}, ActsAt H ts xs → xs ≠ [] → ∃ ts' t xs' y, ts = ts' ++ [t] ∧ xs = xs' ++ [y] ∧ H t = some (.tup [.int (y.who : Nat), .int (y.worth : Nat)])
  | _, _, .nil, n => absurd rfl n
  | _, _, .cons (a := t) (b := y) h .nil, _ => ⟨[], t, [], y, rfl, rfl, h⟩
  | _, _, .cons (a := t) (b := y) h (.cons h2 r), _ => by
    obtain ⟨ts', t', xs', y', e1, e2, h'⟩ := ActsAt.last (.cons h2 r) (by simp)
    exact ⟨t :: ts', t', y :: xs', y', by rw [e1]; rfl, by rw [e2]; rfl, h'⟩
def lastI (b : Kg66.Bout) (i : Nat) : Int := if b.last = i then 1 else 0
def leadKey (b : Kg66.Bout) (i : Nat) : List Int := [(b.points i : Nat), (b.holds i 5 : Nat), (b.holds i 4 : Nat), (b.holds i 2 : Nat), -((b.cautions i : Nat) : Int), lastI b i]
def sp_lead_key (K : PySem.W.Frag) (A : Ads) : Sp := fun vs H Q _ => ∃ (x : BL) (i : Nat), vs = [.ref x.a, .int i] ∧ i ≤ 1 ∧ BoutIs A.CB H x ∧ WfB x.b ∧ x.b.acts ≠ [] ∧
  ∀ (H' : Hp) (t : Addr), Same H H' → H' t = some (.tup ((leadKey x.b i).map V.int)) → Q (.ref t) H'
theorem ok_lead_key (T : Txt K mg A) (D_cautions_of : Own P w K mg base CX0 1 "cautions_of" Pcautions_of (sp_cautions_of K A)) (D_holds_of : Own P w K mg base CX0 1 "holds_of" Pholds_of (sp_holds_of K A)) (D_points_of : Own P w K mg base CX0 2 "points_of" Ppoints_of (sp_points_of K A)) {f : Addr} {fd : FuncData} (F : Fun K "lead_key" "lead_key" slead_key f fd) : FnOk P w K mg base CX0 3 f fd Plead_key (sp_lead_key K A) := by
  refine F.ok sclead_key (fun vs H Q E h => ?_) (fun cdv Ar outer s H vs Q E hr h => ⟨_, (pss_cons (ps_asg (pe_ix ix_list (pe_fld (pv 0) rfl) (pe_un un_neg pe_int) (fun _ _ => rfl)) (pg_tup rfl (pgs_cons (pg_name (i := 2) sclead_key.nd rfl (Or.inl rfl)) (pgs_cons (pg_name (i := 3) sclead_key.nd rfl (Or.inl rfl)) pgs_nil))))
      (pss_cons (ps_set (i := 4) sclead_key.nd rfl (Or.inl rfl) (pe_ifExp (pt_cmpR op_eq (pe_cmpR op_eq (pv 2) (pv 1) (nomark _)) (pe_cmpR op_ne (pv 3) (pe_gl T.gCAUTION) (nomark _)) (nomark _)) pe_int pe_int))
      (pss_one (ps_ret (pe_tup (by exact (pa_cons (pe_own D_points_of (hr.mono (by decide)) (by exact (pa_cons (pv 0) (pa_cons (pv 1) pa_nil)))) (pa_cons (pe_own D_holds_of (hr.mono (by decide)) (by exact (pa_cons (pv 0) (pa_cons (pv 1) (pa_cons pe_int pa_nil))))) (pa_cons (pe_own D_holds_of (hr.mono (by decide)) (by exact (pa_cons (pv 0) (pa_cons (pv 1) (pa_cons pe_int pa_nil))))) (pa_cons (pe_own D_holds_of (hr.mono (by decide)) (by exact (pa_cons (pv 0) (pa_cons (pv 1) (pa_cons pe_int pa_nil))))) (pa_cons (pe_un un_neg (pe_own D_cautions_of (hr.mono (by decide)) (by exact (pa_cons (pv 0) (pa_cons (pv 1) pa_nil))))) (pa_cons (pv 4) pa_nil)))))))))))), ?_⟩)
  · obtain ⟨_, _, rfl, _⟩ := h
    rfl
  obtain ⟨x, i, rfl, hi, hb, wf, ne, k⟩ := h
  refine ⟨_, rfl, x.a, A.CB, x.d, _, _, rfl, hb.obj, T.clCB, T.nCB_acts, bF_ac, ?_⟩
  obtain ⟨ts', t, xs', y, et, ey, ht⟩ := hb.at_.last ne
  have ac := hb.ac
  rw [et, List.map_append] at ac
  have hw := wf.who y (by rw [ey]; simp)
  have hl : lastI x.b i = if V.bl (decide (V.int y.who = V.int i)) = V.bl (!decide (V.int y.worth = V.int 0)) then 1 else 0 := by
    have e : x.b.last = if y.worth = 0 then 1 - y.who else y.who := by
      unfold Kg66.Bout.last
      rw [ey]
      simp
    have a1 : decide (V.int y.who = V.int i) = decide (y.who = i) := by
      rw [decide_eq_decide]
      exact ⟨fun z => by have q := V.int.inj z; omega, fun z => by rw [z]⟩
    have a2 : decide (V.int y.worth = V.int 0) = decide (y.worth = 0) := by
      rw [decide_eq_decide]
      exact ⟨fun z => by have q := V.int.inj z; omega, fun z => by rw [z]; rfl⟩
    unfold lastI
    rw [e, a1, a2]
    by_cases q : y.worth = 0
    · rw [if_pos q, decide_eq_true q]
      by_cases r : y.who = i
      · rw [decide_eq_true r, if_neg (by omega), if_neg (by simp)]
      · rw [decide_eq_false r, if_pos (by omega), if_pos (by simp)]
    · rw [if_neg q, decide_eq_false q]
      by_cases r : y.who = i
      · rw [decide_eq_true r, if_pos r, if_pos (by simp)]
      · rw [decide_eq_false r, if_neg r, if_neg (by simp)]
  refine ⟨1, rfl, x.l, _, -1, _, rfl, rfl, SqL.of ac, atI_last _ _, ?_⟩
  refine ⟨t, _, rfl, SqT.of ht, rfl, _, _, rfl, _, _, rfl, rfl, ?_⟩
  refine ⟨_, rfl, _, rfl, rfl, _, rfl, rfl, rfl, _, rfl, if_d (fun h1 => ?_) (fun h1 => ?_)⟩
  all_goals (first | rw [if_pos h1] at hl | rw [if_neg h1] at hl)
  all_goals
    refine ⟨_, rfl, _, rfl, x, i, rfl, hi, hb, wf, fun H1 s1 => ?_⟩
    refine ⟨_, rfl, _, rfl, x, i, 5, rfl, hb.same s1, wf, fun H2 s2 => ?_⟩
    refine ⟨_, rfl, _, rfl, x, i, 4, rfl, (hb.same s1).same s2, wf, fun H3 s3 => ?_⟩
    refine ⟨_, rfl, _, rfl, x, i, 2, rfl, ((hb.same s1).same s2).same s3, wf, fun H4 s4 => ?_⟩
    refine ⟨_, rfl, _, rfl, x, i, rfl, (((hb.same s1).same s2).same s3).same s4, wf, fun H5 s5 => ⟨_, rfl, ?_⟩⟩
    refine ⟨_, rfl, (by show 6 ≤ sizeLine; decide), fun p hp => ?_⟩
    refine k _ p ((((s1.trans s2).trans s3).trans s4).trans (s5.trans (same_new hp))) ?_
    rw [upd_same]
    unfold leadKey
    rw [hl]
    rfl
theorem gt_lead {b : Kg66.Bout} (wf : WfB b) (ne : b.acts ≠ []) : b.leads = some (if gtL (leadKey b 0) (leadKey b 1) = true then 0 else 1) := by
  have e : b.last = 0 ∨ b.last = 1 := by
    obtain ⟨xs, y, ey⟩ : ∃ xs y, b.acts = xs ++ [y] := ⟨b.acts.dropLast, b.acts.getLast ne, (List.dropLast_concat_getLast ne).symm⟩
    have hw := wf.who y (by rw [ey]; simp)
    unfold Kg66.Bout.last
    rw [ey]
    simp
    split <;> omega
  have cut : ∀ (x y : Nat) (k : Option Nat) (r : Bool), k = some (if r = true then 0 else 1) → Kg66.cmp x y k = some (if (if (x : Int) = (y : Int) then r else decide ((y : Int) < (x : Int))) = true then 0 else 1) := fun x y k r h => by
    unfold Kg66.cmp
    by_cases h1 : y < x
    · rw [if_pos h1, if_neg (show ¬ (x : Int) = (y : Int) by omega), if_pos (by simpa using h1)]
    · rw [if_neg h1]
      by_cases h2 : x < y
      · rw [if_pos h2, if_neg (show ¬ (x : Int) = (y : Int) by omega), if_neg (by simp; omega)]
      · rw [if_neg h2, if_pos (show (x : Int) = (y : Int) by omega), h]
  have cut5 : ∀ (x y : Nat) (k : Option Nat) (r : Bool), k = some (if r = true then 0 else 1) → Kg66.cmp y x k = some (if (if (-(x : Int)) = (-(y : Int)) then r else decide ((-(y : Int)) < (-(x : Int)))) = true then 0 else 1) := fun x y k r h => by
    unfold Kg66.cmp
    by_cases h1 : x < y
    · rw [if_pos h1, if_neg (show ¬ (-(x : Int)) = (-(y : Int)) by omega), if_pos (by simp; omega)]
    · rw [if_neg h1]
      by_cases h2 : y < x
      · rw [if_pos h2, if_neg (show ¬ (-(x : Int)) = (-(y : Int)) by omega), if_neg (by simp; omega)]
      · rw [if_neg h2, if_pos (show (-(x : Int)) = (-(y : Int)) by omega), h]
  unfold Kg66.Bout.leads
  rw [if_neg ne]
  refine (cut _ _ _ _ (cut _ _ _ _ (cut _ _ _ _ (cut _ _ _ _ (cut5 _ _ _ (gtL [lastI b 0] [lastI b 1]) ?_))))).trans rfl
  unfold lastI gtL gtL
  rcases e with e | e
  · rw [e]
    rfl
  · rw [e]
    rfl
def sp_leader (K : PySem.W.Frag) (A : Ads) : Sp := fun vs H Q _ => ∃ (x : BL), vs = [.ref x.a] ∧ BoutIs A.CB H x ∧ WfB x.b ∧ ∀ H' : Hp, Same H H' → Q (.int (Kg66.opt x.b.leads)) H'
theorem ok_leader (T : Txt K mg A) (D_lead_key : Own P w K mg base CX0 3 "lead_key" Plead_key (sp_lead_key K A)) {f : Addr} {fd : FuncData} (F : Fun K "leader" "leader" sleader f fd) : FnOk P w K mg base CX0 4 f fd Pleader (sp_leader K A) := by
  refine F.ok scleader (fun vs H Q E h => ?_) (fun cdv Ar outer s H vs Q E hr h => ⟨_, (pss_cons (ps_if (pt_cmpR op_eq (pe_callB call_len_seq rfl T.len (by decide +kernel) (by exact (pa_cons (pe_fld (pv 0) rfl) pa_nil))) pe_int (nomark _)) (pss_one (ps_ret (pe_gl T.gNOBODY))) pss_nil)
      (pss_one (ps_ret (pe_ifExp (pt_cmpR (op_gtT hr.units0) (pe_own D_lead_key (hr.mono (by decide)) (by exact (pa_cons (pv 0) (pa_cons pe_int pa_nil)))) (pe_own D_lead_key (hr.mono (by decide)) (by exact (pa_cons (pv 0) (pa_cons pe_int pa_nil)))) (nomark _)) pe_int pe_int)))), ?_⟩)
  · obtain ⟨_, rfl, _⟩ := h
    rfl
  obtain ⟨x, rfl, hb, wf, k⟩ := h
  refine ⟨_, rfl, x.a, A.CB, x.d, _, _, rfl, hb.obj, T.clCB, T.nCB_acts, bF_ac, ?_⟩
  refine ⟨x.l, _, rfl, .inl (SqL.of hb.ac), rfl, _, rfl, if_d (fun h1 => ?_) (fun h1 => ?_)⟩
  · have e0 : x.b.acts = [] := by
      have z := V.int.inj h1
      rw [List.length_map, hb.at_.len] at z
      exact List.eq_nil_of_length_eq_zero (by omega)
    have g := k H (Same.refl _)
    unfold Kg66.Bout.leads at g
    rw [if_pos e0] at g
    exact g
  · have ne : x.b.acts ≠ [] := fun z => h1 (by
      rw [List.length_map, hb.at_.len, z]
      rfl)
    refine ⟨_, rfl, x, 0, rfl, by omega, hb, wf, ne, fun H1 t1 s1 e1 => ?_⟩
    refine ⟨_, rfl, x, 1, rfl, Nat.le_refl _, hb.same s1, wf, ne, fun H2 t2 s2 e2 => ?_⟩
    refine ⟨t1, t2, leadKey x.b 0, leadKey x.b 1, rfl, rfl, SqT.of (s2 _ _ e1), SqT.of e2, rfl, _, rfl, ?_⟩
    have g := k H2 (s1.trans s2)
    rw [gt_lead wf ne] at g
    by_cases hc : gtL (leadKey x.b 0) (leadKey x.b 1) = true
    · rw [if_pos hc] at g
      exact if_t hc g
    · rw [if_neg hc] at g
      exact if_f (by simpa using hc) g
/-! ### an act -/
def sp_add_act (K : PySem.W.Frag) (A : Ads) : Sp := fun vs H Q _ => ∃ (x : BL) (i n : Nat), vs = [.ref x.a, .int i, .int n] ∧ i ≤ 1 ∧ BoutIs A.CB H x ∧ WfB x.b ∧ x.b.acts.length < 100 ∧ x.foot.Nodup ∧
  ∀ (H' : Hp) (x' : BL), BoutIs A.CB H' x' → x'.a = x.a → x'.b = ({ x.b with acts := x.b.acts ++ [⟨i, n⟩] } : Kg66.Bout).settle → Keep x.foot H H' → (∀ q ∈ x'.foot, q ∈ x.foot ∨ H q = none) → x'.foot.Nodup → Q .non H'
theorem ActsAt.more {H : Hp} {t : Addr} {y : Kg66.Act} (h : H t = some (.tup [.int (y.who : Nat), .int (y.worth : Nat)])) : ∀ {ts : List Addr} {xs : List Kg66.Act}, ActsAt H ts xs → ActsAt H (ts ++ [t]) (xs ++ [y])
  | _, _, .nil => .cons h .nil
  | _, _, .cons h' r => .cons h' (ActsAt.more h r)
theorem ok_add_act (T : Txt K mg A) (D_cautions_of : Own P w K mg base CX0 1 "cautions_of" Pcautions_of (sp_cautions_of K A)) (D_points_of : Own P w K mg base CX0 2 "points_of" Ppoints_of (sp_points_of K A)) (D_win : Own P w K mg base CX0 1 "win" Pwin (sp_win K A)) {f : Addr} {fd : FuncData} (F : Fun K "add_act" "add_act" sadd_act f fd) : FnOk P w K mg base CX0 3 f fd Padd_act (sp_add_act K A) := by
  refine F.ok scadd_act (fun vs H Q E h => ?_) (fun cdv Ar outer s H vs Q E hr h => ⟨_, (pss_cons (ps_expr (pe_bm PySem.F.plainAttrs_list PySem.F.slot_list_append PySem.F.type_list_append mt_append (pe_fld (pv 0) rfl) (by exact (pa_cons (pe_tup (by exact (pa_cons (pv 1) (pa_cons (pv 2) pa_nil)))) pa_nil))))
      (pss_cons (ps_for PassesOwn.never rfl (pi_tup (pe_tup (by exact (pa_cons pe_int (pa_cons pe_int pa_nil))))) (pg_name (i := 3) scadd_act.nd rfl (Or.inl rfl)) (pss_one (ps_if (pt_cmpR op_ge (pe_own D_cautions_of (hr.mono (by decide)) (by exact (pa_cons (pv 0) (pa_cons (pv 3) pa_nil)))) (pe_gl T.gMOST_CAUTIONS) (nomark _)) (pss_cons (ps_expr (pe_own D_win (hr.mono (by decide)) (by exact (pa_cons (pv 0) (pa_cons (pe_op op_sub pe_int (pv 3)) (pa_cons (pe_gl T.gCAUTIONS) pa_nil))))))
      (pss_one ps_retN)) pss_nil)))
      (pss_cons (ps_set (i := 4) scadd_act.nd rfl (Or.inl rfl) (pe_op op_sub (pe_own D_points_of (hr.mono (by decide)) (by exact (pa_cons (pv 0) (pa_cons pe_int pa_nil)))) (pe_own D_points_of (hr.mono (by decide)) (by exact (pa_cons (pv 0) (pa_cons pe_int pa_nil))))))
      (pss_one (ps_if (pt_cmpR op_ge (pe_callB call_abs rfl T.abs (by decide +kernel) (by exact (pa_cons (pv 4) pa_nil))) (pe_gl T.gMOST_AHEAD) (nomark _)) (pss_one (ps_expr (pe_own D_win (hr.mono (by decide)) (by exact (pa_cons (pv 0) (pa_cons (pe_ifExp (pt_cmpR op_gt (pv 4) pe_int (nomark _)) pe_int pe_int) (pa_cons (pe_gl T.gSUPERIORITY) pa_nil))))))) pss_nil))))), ?_⟩)
  · obtain ⟨_, _, _, rfl, _⟩ := h
    rfl
  obtain ⟨x, i, n, rfl, hi, hb, wf, hlen, nd, k⟩ := h
  obtain ⟨n1, n2, n3, n4, n5⟩ := hb.apart
  refine ⟨_, rfl, x.a, A.CB, x.d, _, _, rfl, hb.obj, T.clCB, T.nCB_acts, bF_ac, .inl ⟨rfl, _, SqL.of hb.ac⟩, _, rfl, _, rfl, (by show 2 ≤ sizeLine; decide), fun t ht => ?_⟩
  generalize e1 : upd H t _ = H1
  have s1 : Same H H1 := e1 ▸ same_new ht
  have f1 : H1 t = some (.tup [.int i, .int n]) := e1 ▸ upd_same
  have hb1 := hb.same s1
  refine ⟨x.l, _, .ref t, rfl, rfl, hb1.ac, (by rw [List.length_map, hb.at_.len]; have : (1000 : Nat) < sizeLine := by decide
                                                omega), ?_⟩
  generalize e2 : upd H1 x.l _ = H2
  have kp2 : Keep [x.l] H1 H2 := e2 ▸ Keep.set (by simp)
  have f2 : H2 x.l = some (.lst ((x.ts ++ [t]).map V.ref)) := by rw [← e2, upd_same, List.map_append]; rfl
  have ntl : t ≠ x.l := ne_of f1 hb1.ac (fun z => by cases z)
  have hk : Keep x.foot H H2 := fun q o hq nq => kp2 q o (s1 q o hq) (fun z => nq (by rw [List.mem_singleton.mp z]; simp [BL.foot]))
  let b1 : Kg66.Bout := { x.b with acts := x.b.acts ++ [⟨i, n⟩] }
  have hb2 : BoutIs A.CB H2 { x with ts := x.ts ++ [t], b := b1 } := by
    refine ⟨kp2 _ _ hb1.obj (fun z => n2 (List.mem_singleton.mp z).symm), kp2 _ _ hb1.wr (fun z => n4 (List.mem_singleton.mp z)), f2, ?_⟩
    refine ActsAt.more (kp2 _ _ f1 (fun z => ntl (List.mem_singleton.mp z))) (hb1.at_.keep kp2 fun q hq z => n5 ?_)
    rw [← List.mem_singleton.mp z]
    exact hq
  have wf1 : WfB b1 := ⟨fun y hy => by
    rcases List.mem_append.mp hy with z | z
    · exact wf.who y z
    · rw [List.mem_singleton.mp z]
      exact hi, by
    show (x.b.acts ++ [(⟨i, n⟩ : Kg66.Act)]).length ≤ 100
    rw [List.length_append]
    simp
    omega, wf.won, wf.one⟩
  have fin : ∀ (H' : Hp) (b' : Kg66.Bout), BoutIs A.CB H' { x with ts := x.ts ++ [t], b := b' } → b' = b1.settle → Keep [x.a] H2 H' → Q .non H' := fun H' b' h1 h2 h3 => by
    refine k H' _ h1 rfl h2 (hk.trans (h3.mono fun q hq => by rw [List.mem_singleton.mp hq]; simp [BL.foot])) (fun q hq => ?_) ?_
    · simp only [BL.foot, List.mem_cons, List.mem_append, List.not_mem_nil, or_false] at hq ⊢
      rcases hq with z | z | z | z | z
      · exact .inl (.inl z)
      · exact .inl (.inr (.inl z))
      · exact .inl (.inr (.inr (.inl z)))
      · exact .inl (.inr (.inr (.inr z)))
      · rw [z]
        exact .inr ht
    · have e : BL.foot { x with ts := x.ts ++ [t], b := b' } = x.foot ++ [t] := by simp [BL.foot]
      rw [e]
      refine List.nodup_append.mpr ⟨nd, by simp, fun a ha b hb' z => ?_⟩
      rw [List.mem_singleton.mp hb'] at z
      rw [z] at ha
      exact not_in hb.plain ht ha
  refine ⟨(by show 2 ≤ sizeLine; decide), fun p hp => ?_⟩
  generalize e3 : upd H2 p _ = H3
  have s3 : Same H2 H3 := e3 ▸ same_new hp
  have f3 : H3 p = some (.tup [.int 0, .int 1]) := e3 ▸ upd_same
  refine ⟨p, rfl, ⟨_, SqT.of f3⟩, for_tup (K := K) (a := p) (xs := [.int 0, .int 1]) (fun j σ H' => ∃ v : Option V, σ = [some (.ref x.a), some (.int i), some (.int n), v, none] ∧ Same H3 H' ∧ ∀ m, m < j → b1.cautions m < 3)
    ⟨none, rfl, Same.refl _, fun m hm => absurd hm (Nat.not_lt_zero _)⟩ (fun j σ H' _ ⟨_, _, s4, _⟩ => SqT.of (s4 _ _ f3)) ?_ ?_⟩
  · rintro j y σ H' hj ⟨v, rfl, s4, hc⟩
    obtain ⟨hj2, rfl⟩ : j ≤ 1 ∧ y = .int (j : Nat) := by
      match j, hj with
      | 0, h => exact ⟨by omega, by simpa using h.symm⟩
      | 1, h => exact ⟨by omega, by simpa using h.symm⟩
      | j + 2, h => simp at h
    refine ⟨_, rfl, _, rfl, { x with ts := x.ts ++ [t], b := b1 }, j, rfl, (hb2.same s3).same s4, wf1, fun H5 s5 => ?_⟩
    refine ⟨_, _, rfl, rfl, _, rfl, if_d (fun h1 => ?_) (fun h1 => ?_)⟩
    · have h1' : (3 : Int) ≤ (b1.cautions j : Nat) := h1
      have h3 : 3 ≤ b1.cautions j := by omega
      refine ⟨_, rfl, _, rfl, _, _, rfl, rfl, { x with ts := x.ts ++ [t], b := b1 }, 1 - j, 3, congrArg (fun z => [V.ref x.a, V.int z, V.int 3]) (by omega), ((hb2.same s3).same s4).same s5, fun H6 hb6 k6 => ?_⟩
      refine fin H6 _ hb6 ?_ ((Keep.of (s3.trans (s4.trans s5))).trans k6)
      unfold Kg66.Bout.settle
      match j, hj2, hc, h3 with
      | 0, _, _, h3 => rw [if_pos h3]
      | 1, _, hc, h3 => rw [if_neg (by have := hc 0 (by omega); omega), if_pos h3]
    · refine ⟨_, rfl, s4.trans s5, fun m hm => ?_⟩
      rcases Nat.lt_succ_iff_lt_or_eq.mp hm with z | z
      · exact hc m z
      · have h1' : ¬ (3 : Int) ≤ (b1.cautions j : Nat) := h1
        rw [z]
        omega
  · rintro σ H' ⟨v, rfl, s4, hc⟩
    have hc0 := hc 0 (by show 0 < 2; omega)
    have hc1 := hc 1 (by show 1 < 2; omega)
    have hb4 := (hb2.same s3).same s4
    refine ⟨_, rfl, { x with ts := x.ts ++ [t], b := b1 }, 0, rfl, by omega, hb4, wf1, fun H5 s5 => ?_⟩
    refine ⟨_, rfl, { x with ts := x.ts ++ [t], b := b1 }, 1, rfl, Nat.le_refl _, hb4.same s5, wf1, fun H6 s6 => ?_⟩
    refine ⟨_, _, rfl, rfl, ?_⟩
    have hb6 := (hb4.same s5).same s6
    have kk : Keep [x.a] H2 H6 := Keep.of (s3.trans (s4.trans (s5.trans s6)))
    have es : b1.settle = if b1.points 1 + 10 ≤ b1.points 0 then { b1 with won := some (0, 1) } else if b1.points 0 + 10 ≤ b1.points 1 then { b1 with won := some (1, 1) } else b1 := by
      unfold Kg66.Bout.settle
      rw [if_neg (by omega), if_neg (by omega)]
      rfl
    refine ⟨_, rfl, _, rfl, _, _, rfl, rfl, _, rfl, if_d (fun h1 => ?_) (fun h1 => ?_)⟩
    · have h1' : (10 : Int) ≤ if ((b1.points 0 : Nat) : Int) - (b1.points 1 : Nat) < 0 then -(((b1.points 0 : Nat) : Int) - (b1.points 1 : Nat)) else ((b1.points 0 : Nat) : Int) - (b1.points 1 : Nat) := h1
      refine ⟨_, rfl, _, rfl, _, _, rfl, rfl, _, rfl, if_d (fun h2 => ?_) (fun h2 => ?_)⟩
      · have h2' : (0 : Int) < ((b1.points 0 : Nat) : Int) - (b1.points 1 : Nat) := h2
        rw [if_neg (by omega)] at h1'
        refine ⟨{ x with ts := x.ts ++ [t], b := b1 }, 0, 1, rfl, hb6, fun H7 hb7 k7 => fin H7 _ hb7 ?_ (kk.trans k7)⟩
        rw [es, if_pos (by omega)]
      · have h2' : ¬ (0 : Int) < ((b1.points 0 : Nat) : Int) - (b1.points 1 : Nat) := h2
        have h3 : b1.points 0 + 10 ≤ b1.points 1 := by
          by_cases q : ((b1.points 0 : Nat) : Int) - (b1.points 1 : Nat) < 0
          · rw [if_pos q] at h1'
            omega
          · rw [if_neg q] at h1'
            omega
        refine ⟨{ x with ts := x.ts ++ [t], b := b1 }, 1, 1, rfl, hb6, fun H7 hb7 k7 => fin H7 _ hb7 ?_ (kk.trans k7)⟩
        rw [es, if_neg (by omega), if_pos h3]
    · have h1' : ¬ (10 : Int) ≤ if ((b1.points 0 : Nat) : Int) - (b1.points 1 : Nat) < 0 then -(((b1.points 0 : Nat) : Int) - (b1.points 1 : Nat)) else ((b1.points 0 : Nat) : Int) - (b1.points 1 : Nat) := h1
      refine fin H6 b1 hb6 ?_ kk
      by_cases q : ((b1.points 0 : Nat) : Int) - (b1.points 1 : Nat) < 0
      · rw [if_pos q] at h1'
        rw [es, if_neg (by omega), if_neg (by omega)]
      · rw [if_neg q] at h1'
        rw [es, if_neg (by omega), if_neg (by omega)]
end
end Wm
/-! # A bout's defs, further; the rows' and the class's __init__ -/
namespace Wm
open PySem PySem.Spec PyProof.Rows L2
section
variable {P : Program} {w : World} {K : PySem.W.Frag} {mg : Str → Option Value} {base : Heap} {A : Ads}
theorem wonI_none {b : Kg66.Bout} (h : b.won = none) : wonI b = -1 := by
  unfold wonI
  rw [h]
  rfl
theorem wonI_some {b : Kg66.Bout} {u h : Nat} (e : b.won = some (u, h)) : wonI b = (u : Nat) := by
  unfold wonI
  rw [e]
  rfl
theorem howI_none {b : Kg66.Bout} (h : b.won = none) : howI b = -1 := by
  unfold howI
  rw [h]
  rfl
theorem howI_some {b : Kg66.Bout} {u h : Nat} (e : b.won = some (u, h)) : howI b = (h : Nat) := by
  unfold howI
  rw [e]
  rfl
theorem won_cases (b : Kg66.Bout) : b.won = none ∨ ∃ u h, b.won = some (u, h) := by
  cases e : b.won with
  | none => exact .inl rfl
  | some p => exact .inr ⟨p.1, p.2, rfl⟩
theorem wonI_iff {b : Kg66.Bout} : V.int (wonI b) = V.int (-1) ↔ b.won = none := by
  rcases won_cases b with e | ⟨u, h, e⟩
  · rw [wonI_none e]
    simp [e]
  · rw [wonI_some e]
    constructor
    · intro z
      have q := V.int.inj z
      omega
    · intro z
      rw [e] at z
      cases z
/-! ### what it counts -/
def sp_order_count (K : PySem.W.Frag) (A : Ads) : Sp := fun vs H Q _ => ∃ (x : BL) (i : Nat), vs = [.ref x.a, .int i] ∧ i ≤ 1 ∧ BoutIs A.CB H x ∧ WfB x.b ∧ ∀ H' : Hp, Same H H' → Q (.int (x.b.classed i : Nat)) H'
theorem ok_order_count (T : Txt K mg A) (D_points_of : Own P w K mg base CX0 2 "points_of" Ppoints_of (sp_points_of K A)) {f : Addr} {fd : FuncData} (F : Fun K "order_count" "order_count" sorder_count f fd) : FnOk P w K mg base CX0 3 f fd Porder_count (sp_order_count K A) := by
  refine F.ok scorder_count (fun vs H Q E h => ?_) (fun cdv Ar outer s H vs Q E hr h => ⟨_, (pss_cons (ps_if (PW.pt (pw_or (pt_cmpR op_eq (pe_fld (pv 0) rfl) (pe_gl T.gNOBODY) (nomark _)) (pw_or1 (pt_cmpR op_eq (pe_fld (pv 0) rfl) (pe_gl T.gUNFOUGHT) (nomark _))))) (pss_one (ps_ret pe_int)) pss_nil)
      (pss_cons (ps_if (pt_cmpR op_eq (pe_fld (pv 0) rfl) (pv 1) (nomark _)) (pss_one (ps_ret (pe_ifExp (pt_cmpR op_eq (pe_fld (pv 0) rfl) (pe_gl T.gPOINTS) (nomark _)) pe_int (pe_ifExp (pt_cmpR op_eq (pe_fld (pv 0) rfl) (pe_gl T.gSUPERIORITY) (nomark _)) pe_int pe_int)))) pss_nil)
      (pss_one (ps_ret (pe_ifExp (PW.pt (pw_and (pt_cmpR op_le (pe_fld (pv 0) rfl) (pe_gl T.gSUPERIORITY) (nomark _)) (pw_and1 (pt_cmpR op_gt (pe_own D_points_of (hr.mono (by decide)) (by exact (pa_cons (pv 0) (pa_cons (pv 1) pa_nil)))) pe_int (nomark _))))) pe_int pe_int))))), ?_⟩)
  · obtain ⟨_, _, rfl, _⟩ := h
    rfl
  obtain ⟨x, i, rfl, hi, hb, wf, k⟩ := h
  refine ⟨_, rfl, x.a, A.CB, x.d, _, _, rfl, hb.obj, T.clCB, T.nCB_winner, bF_wi, rfl, _, rfl, if_d (fun h1 => ?_) (fun h1 => ?_)⟩
  · have e := wonI_iff.mp h1
    have g := k H (Same.refl _)
    unfold Kg66.Bout.classed at g
    rw [e] at g
    exact g
  · obtain ⟨u, h, e⟩ := (won_cases x.b).resolve_left fun z => h1 (wonI_iff.mpr z)
    have g : ∀ H' : Hp, Same H H' → Q (.int ((if h = 5 then 0 else if u = i then (if 2 ≤ h then 5 else if h = 1 then 4 else 3) else if 2 ≤ h then 0 else if 0 < x.b.points i then 1 else 0 : Nat) : Nat)) H' := fun H' s' => by
      have g := k H' s'
      unfold Kg66.Bout.classed at g
      rw [e] at g
      exact g
    refine ⟨_, rfl, x.a, A.CB, x.d, _, _, rfl, hb.obj, T.clCB, T.nCB_how, bF_ho, rfl, _, rfl, if_d (fun h2 => ?_) (fun h2 => ?_)⟩
    · rw [howI_some e] at h2
      have z := V.int.inj h2
      have g0 := g H (Same.refl _)
      rw [if_pos (by omega)] at g0
      exact g0
    · rw [howI_some e] at h2
      have n5 : ¬ h = 5 := fun z => h2 (by rw [z]; rfl)
      refine ⟨_, rfl, x.a, A.CB, x.d, _, _, rfl, hb.obj, T.clCB, T.nCB_winner, bF_wi, _, rfl, rfl, _, rfl, if_d (fun h3 => ?_) (fun h3 => ?_)⟩
      · rw [wonI_some e] at h3
        have hu : u = i := by have z := V.int.inj h3; omega
        have g0 := g H (Same.refl _)
        rw [if_neg n5, if_pos hu] at g0
        refine ⟨_, rfl, x.a, A.CB, x.d, _, _, rfl, hb.obj, T.clCB, T.nCB_how, bF_ho, rfl, _, rfl, if_d (fun h4 => ?_) (fun h4 => ?_)⟩
        · rw [howI_some e] at h4
          have z := V.int.inj h4
          rw [if_neg (by omega), if_neg (by omega)] at g0
          exact g0
        · rw [howI_some e] at h4
          have n0 : ¬ h = 0 := fun z => h4 (by rw [z]; rfl)
          refine ⟨_, rfl, x.a, A.CB, x.d, _, _, rfl, hb.obj, T.clCB, T.nCB_how, bF_ho, rfl, _, rfl, if_d (fun h5 => ?_) (fun h5 => ?_)⟩
          · rw [howI_some e] at h5
            have z := V.int.inj h5
            rw [if_neg (by omega), if_pos (by omega)] at g0
            exact g0
          · rw [howI_some e] at h5
            have n1 : ¬ h = 1 := fun z => h5 (by rw [z]; rfl)
            rw [if_pos (by omega)] at g0
            exact g0
      · rw [wonI_some e] at h3
        have hu : ¬ u = i := fun z => h3 (by rw [z])
        refine ⟨_, rfl, x.a, A.CB, x.d, _, _, rfl, hb.obj, T.clCB, T.nCB_how, bF_ho, _, _, rfl, rfl, _, rfl, if_d (fun h4 => ?_) (fun h4 => ?_)⟩
        · rw [howI_some e] at h4
          refine ⟨_, rfl, _, rfl, x, i, rfl, hi, hb, wf, fun H1 s1 => ?_⟩
          have g0 := g H1 s1
          rw [if_neg n5, if_neg hu, if_neg (by omega)] at g0
          refine ⟨_, _, rfl, rfl, _, rfl, if_d (fun h5 => ?_) (fun h5 => ?_)⟩
          · rw [if_pos (by omega)] at g0
            exact g0
          · rw [if_neg (by omega)] at g0
            exact g0
        · rw [howI_some e] at h4
          have g0 := g H (Same.refl _)
          rw [if_neg n5, if_neg hu, if_pos (by omega)] at g0
          exact g0
/-! ### how it stands -/
def sp_stands (K : PySem.W.Frag) (A : Ads) : Sp := fun vs H Q _ => ∃ (x : BL), vs = [.ref x.a] ∧ BoutIs A.CB H x ∧ WfB x.b ∧ ∀ (H' : Hp) (p : Addr), Same H H' → H p = none → H' p = some (.lst ((Kg66.showBout x.b).map V.int)) → Q (.ref p) H'
theorem ok_stands (T : Txt K mg A) (D_cautions_of : Own P w K mg base CX0 1 "cautions_of" Pcautions_of (sp_cautions_of K A)) (D_leader : Own P w K mg base CX0 4 "leader" Pleader (sp_leader K A)) (D_points_of : Own P w K mg base CX0 2 "points_of" Ppoints_of (sp_points_of K A)) {f : Addr} {fd : FuncData} (F : Fun K "stands" "stands" sstands f fd) : FnOk P w K mg base CX0 5 f fd Pstands (sp_stands K A) := by
  refine F.ok scstands (fun vs H Q E h => ?_) (fun cdv Ar outer s H vs Q E hr h => ⟨_, (pss_cons (ps_set (i := 1) scstands.nd rfl (Or.inl rfl) (pe_lst (by exact (pa_cons (pe_own D_points_of (hr.mono (by decide)) (by exact (pa_cons (pv 0) (pa_cons pe_int pa_nil)))) (pa_cons (pe_own D_points_of (hr.mono (by decide)) (by exact (pa_cons (pv 0) (pa_cons pe_int pa_nil)))) pa_nil)))))
      (pss_cons (ps_set (i := 2) scstands.nd rfl (Or.inl rfl) (pe_lst (by exact (pa_cons (pe_own D_cautions_of (hr.mono (by decide)) (by exact (pa_cons (pv 0) (pa_cons pe_int pa_nil)))) (pa_cons (pe_own D_cautions_of (hr.mono (by decide)) (by exact (pa_cons (pv 0) (pa_cons pe_int pa_nil)))) pa_nil)))))
      (pss_one (ps_ret (pe_op op_cat (pe_op op_cat (pe_op op_cat (pe_callTy call_list_of rfl T.list (by decide +kernel) (by exact (pa_cons (pe_fld (pv 0) rfl) pa_nil))) (pv 1)) (pv 2)) (pe_lst (by exact (pa_cons (pe_own D_leader (hr.mono (by decide)) (by exact (pa_cons (pv 0) pa_nil))) (pa_cons (pe_fld (pv 0) rfl) (pa_cons (pe_fld (pv 0) rfl) pa_nil)))))))))), ?_⟩)
  · obtain ⟨_, rfl, _⟩ := h
    rfl
  obtain ⟨x, rfl, hb, wf, k⟩ := h
  refine ⟨_, rfl, x, 0, rfl, by omega, hb, wf, fun H1 s1 => ?_⟩
  refine ⟨_, rfl, x, 1, rfl, by omega, hb.same s1, wf, fun H2 s2 => ?_⟩
  refine ⟨(by show 2 ≤ sizeLine; decide), fun p2 hp2 => ?_⟩
  generalize e3 : upd H2 p2 _ = H3
  have s3 : Same H2 H3 := e3 ▸ same_new hp2
  have f3 : H3 p2 = some (.lst [.int (x.b.points 0 : Nat), .int (x.b.points 1 : Nat)]) := e3 ▸ upd_same
  have hb3 := ((hb.same s1).same s2).same s3
  refine ⟨_, rfl, x, 0, rfl, hb3, wf, fun H4 s4 => ?_⟩
  refine ⟨_, rfl, x, 1, rfl, hb3.same s4, wf, fun H5 s5 => ?_⟩
  refine ⟨(by show 2 ≤ sizeLine; decide), fun p6 hp6 => ?_⟩
  generalize e6 : upd H5 p6 _ = H6
  have s6 : Same H5 H6 := e6 ▸ same_new hp6
  have f6 : H6 p6 = some (.lst [.int (x.b.cautions 0 : Nat), .int (x.b.cautions 1 : Nat)]) := e6 ▸ upd_same
  have hb6 := ((hb3.same s4).same s5).same s6
  refine ⟨_, rfl, x.a, A.CB, x.d, _, _, rfl, hb6.obj, T.clCB, T.nCB_wrestlers, bF_wr, x.t, _, rfl, .inr (SqT.of hb6.wr), fun p7 hp7 => ?_⟩
  generalize e7 : upd H6 p7 _ = H7
  have s7 : Same H6 H7 := e7 ▸ same_new hp7
  have f7 : H7 p7 = some (.lst [.int (Kg66.opt x.b.a), .int (Kg66.opt x.b.b)]) := e7 ▸ upd_same
  refine ⟨_, rfl, p7, p2, _, _, rfl, rfl, f7, s7 _ _ (s6 _ _ (s5 _ _ (s4 _ _ f3))), (by show 4 ≤ sizeLine; decide), fun p8 hp8 => ?_⟩
  generalize e8 : upd H7 p8 _ = H8
  have s8 : Same H7 H8 := e8 ▸ same_new hp8
  have f8 : H8 p8 = some (.lst [.int (Kg66.opt x.b.a), .int (Kg66.opt x.b.b), .int (x.b.points 0 : Nat), .int (x.b.points 1 : Nat)]) := e8 ▸ upd_same
  refine ⟨_, rfl, p8, p6, _, _, rfl, rfl, f8, s8 _ _ (s7 _ _ f6), (by show 6 ≤ sizeLine; decide), fun p9 hp9 => ?_⟩
  generalize e9 : upd H8 p9 _ = H9
  have s9 : Same H8 H9 := e9 ▸ same_new hp9
  have f9 : H9 p9 = some (.lst [.int (Kg66.opt x.b.a), .int (Kg66.opt x.b.b), .int (x.b.points 0 : Nat), .int (x.b.points 1 : Nat), .int (x.b.cautions 0 : Nat), .int (x.b.cautions 1 : Nat)]) := e9 ▸ upd_same
  have hb9 := ((hb6.same s7).same s8).same s9
  refine ⟨_, rfl, x, rfl, hb9, wf, fun Ha sa => ?_⟩
  have hba := hb9.same sa
  refine ⟨_, rfl, x.a, A.CB, x.d, _, _, rfl, hba.obj, T.clCB, T.nCB_winner, bF_wi, ?_⟩
  refine ⟨_, rfl, x.a, A.CB, x.d, _, _, rfl, hba.obj, T.clCB, T.nCB_how, bF_ho, ?_⟩
  refine ⟨(by show 3 ≤ sizeLine; decide), fun pb hpb => ?_⟩
  generalize eb : upd Ha pb _ = Hb
  have sb : Same Ha Hb := eb ▸ same_new hpb
  have fb : Hb pb = some (.lst [.int (Kg66.opt x.b.leads), .int (wonI x.b), .int (howI x.b)]) := eb ▸ upd_same
  refine ⟨p9, pb, _, _, rfl, rfl, sb _ _ (sa _ _ f9), fb, (by show 9 ≤ sizeLine; decide), fun pc hpc => ?_⟩
  have sAll : Same H Hb := s1.trans (s2.trans (s3.trans (s4.trans (s5.trans (s6.trans (s7.trans (s8.trans (s9.trans (sa.trans sb)))))))))
  exact k _ pc (sAll.trans (same_new hpc)) (sAll.free hpc) (by rw [upd_same] <;> rfl)
/-! ### who won, who lost -/
def sp_who_won (K : PySem.W.Frag) (A : Ads) : Sp := fun vs H Q _ => ∃ (x : BL), vs = [.ref x.a] ∧ BoutIs A.CB H x ∧ WfB x.b ∧ Q (.int (Kg66.opt x.b.winner)) H
theorem opt_at {a b : Option Nat} {u : Nat} (h : u ≤ 1) : [V.int (Kg66.opt a), V.int (Kg66.opt b)][u]? = some (.int (Kg66.opt (if u = 0 then a else b))) := by
  match u, h with
  | 0, _ => rfl
  | 1, _ => rfl
theorem winner_eq {b : Kg66.Bout} {u h : Nat} (e : b.won = some (u, h)) : b.winner = if u = 0 then b.a else b.b := by
  unfold Kg66.Bout.winner
  rw [e]
  match u with
  | 0 => rfl
  | u + 1 => rfl
theorem loser_eq {b : Kg66.Bout} {u h : Nat} (e : b.won = some (u, h)) : b.loser = if u = 0 then b.b else b.a := by
  unfold Kg66.Bout.loser
  rw [e]
  match u with
  | 0 => rfl
  | u + 1 => rfl
theorem winner_none {b : Kg66.Bout} (e : b.won = none) : b.winner = none := by
  unfold Kg66.Bout.winner
  rw [e]
theorem loser_none {b : Kg66.Bout} (e : b.won = none) : b.loser = none := by
  unfold Kg66.Bout.loser
  rw [e]
theorem ok_who_won (T : Txt K mg A)  {f : Addr} {fd : FuncData} (F : Fun K "who_won" "who_won" swho_won f fd) : FnOk P w K mg base CX0 1 f fd Pwho_won (sp_who_won K A) := by
  refine F.ok scwho_won (fun vs H Q E h => ?_) (fun cdv Ar outer s H vs Q E hr h => ⟨_, (pss_one (ps_ret (pe_ifExp (pt_cmpR op_eq (pe_fld (pv 0) rfl) (pe_gl T.gNOBODY) (nomark _)) (pe_gl T.gNOBODY) (pe_ix ix_tup (pe_fld (pv 0) rfl) (pe_fld (pv 0) rfl) (fun _ _ => rfl))))), ?_⟩)
  · obtain ⟨_, rfl, _⟩ := h
    rfl
  obtain ⟨x, rfl, hb, wf, k⟩ := h
  refine ⟨_, rfl, x.a, A.CB, x.d, _, _, rfl, hb.obj, T.clCB, T.nCB_winner, bF_wi, rfl, _, rfl, if_d (fun h1 => ?_) (fun h1 => ?_)⟩
  · rw [winner_none (wonI_iff.mp h1)] at k
    exact k
  · obtain ⟨u, h, e⟩ := (won_cases x.b).resolve_left fun z => h1 (wonI_iff.mpr z)
    refine ⟨_, rfl, x.a, A.CB, x.d, _, _, rfl, hb.obj, T.clCB, T.nCB_wrestlers, bF_wr, _, rfl, x.a, A.CB, x.d, _, _, rfl, hb.obj, T.clCB, T.nCB_winner, bF_wi, x.t, _, _, _, rfl, rfl, SqT.of hb.wr, ?_, k⟩
    rw [wonI_some e, winner_eq e]
    exact atI_nat (opt_at (wf.won u h e))
def sp_who_lost (K : PySem.W.Frag) (A : Ads) : Sp := fun vs H Q _ => ∃ (x : BL), vs = [.ref x.a] ∧ BoutIs A.CB H x ∧ WfB x.b ∧ Q (.int (Kg66.opt x.b.loser)) H
theorem ok_who_lost (T : Txt K mg A)  {f : Addr} {fd : FuncData} (F : Fun K "who_lost" "who_lost" swho_lost f fd) : FnOk P w K mg base CX0 1 f fd Pwho_lost (sp_who_lost K A) := by
  refine F.ok scwho_lost (fun vs H Q E h => ?_) (fun cdv Ar outer s H vs Q E hr h => ⟨_, (pss_one (ps_ret (pe_ifExp (pt_cmpR op_eq (pe_fld (pv 0) rfl) (pe_gl T.gNOBODY) (nomark _)) (pe_gl T.gNOBODY) (pe_ix ix_tup (pe_fld (pv 0) rfl) (pe_op op_sub pe_int (pe_fld (pv 0) rfl)) (fun _ _ => rfl))))), ?_⟩)
  · obtain ⟨_, rfl, _⟩ := h
    rfl
  obtain ⟨x, rfl, hb, wf, k⟩ := h
  refine ⟨_, rfl, x.a, A.CB, x.d, _, _, rfl, hb.obj, T.clCB, T.nCB_winner, bF_wi, rfl, _, rfl, if_d (fun h1 => ?_) (fun h1 => ?_)⟩
  · rw [loser_none (wonI_iff.mp h1)] at k
    exact k
  · obtain ⟨u, h, e⟩ := (won_cases x.b).resolve_left fun z => h1 (wonI_iff.mpr z)
    refine ⟨_, rfl, x.a, A.CB, x.d, _, _, rfl, hb.obj, T.clCB, T.nCB_wrestlers, bF_wr, _, rfl, x.a, A.CB, x.d, _, _, rfl, hb.obj, T.clCB, T.nCB_winner, bF_wi, _, _, rfl, rfl, x.t, _, _, _, rfl, rfl, SqT.of hb.wr, ?_, k⟩
    have hu := wf.won u h e
    rw [wonI_some e, loser_eq e]
    have e2 : (1 : Int) - (u : Nat) = ((1 - u : Nat) : Int) := by omega
    rw [e2]
    refine (atI_nat (opt_at (by omega))).trans ?_
    match u, hu with
    | 0, _ => rfl
    | 1, _ => rfl
/-! ### a bout that begins -/
def sp_begun_bout (K : PySem.W.Frag) (A : Ads) : Sp := fun vs H Q _ => ∃ (a : Nat) (ob : Option Nat), vs = [.int (a : Nat), .int (Kg66.opt ob)] ∧
  ∀ (H' : Hp) (x : BL), BoutIs A.CB H' x → x.b = Kg66.fresh (some a) ob → Same H H' → (∀ q ∈ x.foot, H q = none) → x.foot.Nodup → Q (.ref x.a) H'
theorem ok_begun_bout (T : Txt K mg A) (D_Bout : OwnC P w K mg base A.CB 1 "Bout" PBout_init (sp_Bout_init K A)) (D_win : Own P w K mg base CX0 1 "win" Pwin (sp_win K A)) {f : Addr} {fd : FuncData} (F : Fun K "begun_bout" "begun_bout" sbegun_bout f fd) : FnOk P w K mg base CX0 3 f fd Pbegun_bout (sp_begun_bout K A) := by
  refine F.ok scbegun_bout (fun vs H Q E h => ?_) (fun cdv Ar outer s H vs Q E hr h => ⟨_, (pss_cons (ps_set (i := 2) scbegun_bout.nd rfl (Or.inl rfl) (pe_new D_Bout (hr.mono (by decide)) (by exact (pa_cons (pv 0) (pa_cons (pv 1) pa_nil)))))
      (pss_cons (ps_if (pt_cmpR op_eq (pv 1) (pe_gl T.gNOBODY) (nomark _)) (pss_one (ps_expr (pe_own D_win (hr.mono (by decide)) (by exact (pa_cons (pv 2) (pa_cons pe_int (pa_cons (pe_gl T.gUNFOUGHT) pa_nil))))))) pss_nil)
      (pss_one (ps_ret (pv 2))))), ?_⟩)
  · obtain ⟨_, _, rfl, _⟩ := h
    rfl
  obtain ⟨a, ob, rfl, k⟩ := h
  refine ⟨_, rfl, _, rfl, fun p d hp hd ne => ?_⟩
  refine ⟨p, d, a, Kg66.opt ob, rfl, upd_same, fun H1 t l o1 o2 o3 ht hl kp => ⟨rfl, ?_⟩⟩
  have s1 : Same H H1 := fun q o hq => kp q o (by rw [upd_ne (ne_of_none hq hp), upd_ne (ne_of_none hq hd)]; exact hq) (fun z => by rw [List.mem_singleton.mp z, hp] at hq; cases hq)
  have ht0 : H t = none := NdefX.upd_none (NdefX.upd_none ht)
  have hl0 : H l = none := NdefX.upd_none (NdefX.upd_none hl)
  have nd : (BL.foot ⟨p, d, t, l, [], ⟨some a, ob, [], none⟩⟩).Nodup := by
    have a1 : p ≠ t := ne_of o1 o2 (fun z => by cases z)
    have a2 : p ≠ l := ne_of o1 o3 (fun z => by cases z)
    have a3 : t ≠ l := ne_of o2 o3 (fun z => by cases z)
    simp [BL.foot, a1, a2, a3]
  have hb1 : BoutIs A.CB H1 ⟨p, d, t, l, [], ⟨some a, ob, [], none⟩⟩ := ⟨o1, o2, o3, .nil⟩
  have fr : ∀ q ∈ BL.foot ⟨p, d, t, l, [], ⟨some a, ob, [], none⟩⟩, H q = none := fun q hq => by
    simp only [BL.foot, List.mem_cons, List.not_mem_nil, or_false] at hq
    rcases hq with z | z | z <;> rw [z] <;> assumption
  refine ⟨_, rfl, rfl, _, rfl, if_d (fun h1 => ?_) (fun h1 => ?_)⟩
  · have eo : ob = none := by
      cases ob with
      | none => rfl
      | some n =>
        have z : ((n : Nat) : Int) = -1 := V.int.inj h1
        omega
    refine ⟨_, rfl, ⟨p, d, t, l, [], ⟨some a, ob, [], none⟩⟩, 0, 5, rfl, hb1, fun H2 hb2 k2 => ?_⟩
    refine ⟨_, rfl, k H2 ⟨p, d, t, l, [], ⟨some a, ob, [], some (0, 5)⟩⟩ hb2 ?_ (fun q o hq => k2 q o (s1 q o hq) (fun z => ?_)) fr nd⟩
    · rw [eo]
      rfl
    · rw [List.mem_singleton.mp z] at hq
      rw [show (BL.mk p d t l [] ⟨some a, ob, [], none⟩).a = p from rfl, hp] at hq
      cases hq
  · refine ⟨_, rfl, k H1 ⟨p, d, t, l, [], ⟨some a, ob, [], none⟩⟩ hb1 ?_ s1 fr nd⟩
    cases ob with
    | none => exact absurd rfl h1
    | some n => rfl
/-! ### whether all are won -/
def sp_all_won (K : PySem.W.Frag) (A : Ads) : Sp := fun vs H Q _ => ∃ (l : Addr) (bs : List BL), vs = [.ref l] ∧ H l = some (.lst (bs.map fun x => V.ref x.a)) ∧ bs.length ≤ 1000 ∧ (∀ x ∈ bs, BoutIs A.CB H x) ∧ ∀ H' : Hp, Same H H' → Q (.bl (bs.all fun x => x.b.won.isSome)) H'
theorem ok_all_won (T : Txt K mg A)  {f : Addr} {fd : FuncData} (F : Fun K "all_won" "all_won" sall_won f fd) : FnOk P w K mg base CX0 1 f fd Pall_won (sp_all_won K A) := by
  refine F.ok scall_won (fun vs H Q E h => ?_) (fun cdv Ar outer s H vs Q E hr h => ⟨_, (pss_one (ps_ret (pe_callB (cr_all rfl) rfl T.all (by decide +kernel) (by exact (pa_cons (pe_lc (own := [("bout", 1)]) (g := gName 1) (tt := tYes) (te := (tOp rNe (tFld K (tVar 1) "winner") (tC (.int (-1))))) rfl scall_won.nd (pi_list (pv 0)) (blkOk_by (own := [("bout", 1)]) (N := Nall_won) (sc := defScope sall_won) (by decide +kernel)) (fun _ _ _ _ _ => by exact ((pg_name (i := 1) scall_won.nd rfl (Or.inl rfl)))) (fun _ _ _ _ _ => by exact (pts_nil)) (fun _ _ _ _ _ => by exact ((pe_cmpR op_ne (pe_fld (pv 1) rfl) (pe_gl T.gNOBODY) (nomark _))))) pa_nil))))), ?_⟩)
  · obtain ⟨_, _, rfl, _⟩ := h
    rfl
  obtain ⟨l, bs, rfl, hl, hz, hb, k⟩ := h
  refine ⟨_, rfl, l, rfl, ⟨_, SqL.of hl⟩, fun D hD => ?_⟩
  refine lc_map (K := K) (a := l) (as := bs) (fun x => .bl x.b.won.isSome) hD (SqL.of hl) (by rw [List.length_map]) hz (fun j v y H1 hv hy hm s1 Y hY => ?_) gName_mono fun H1 s1 e1 => ?_
  · have ev : v = .ref y.a := by
      rw [List.getElem?_map, hy] at hv
      exact (Option.some.inj hv).symm
    subst ev
    have hb1 := (hb y hm).same s1
    refine ⟨rfl, ?_⟩
    refine ⟨_, rfl, y.a, A.CB, y.d, _, _, rfl, hb1.obj, T.clCB, T.nCB_winner, bF_wi, rfl, ?_⟩
    have e : (!decide (V.int (wonI y.b) = V.int (-1))) = y.b.won.isSome := by
      rcases won_cases y.b with z | ⟨u, h, z⟩
      · rw [decide_eq_true (wonI_iff.mpr z), z]
        rfl
      · rw [decide_eq_false (fun q => by rw [wonI_iff.mp q] at z; cases z), z]
        rfl
    have g := hY H1 (Same.refl _)
    rw [← e] at g
    exact g
  · refine ⟨D, bs.map (fun x => x.b.won.isSome), rfl, SqL.of (by rw [e1, List.map_map] <;> rfl), ?_⟩
    have g := k H1 s1
    have e : (bs.map fun x => x.b.won.isSome).all id = bs.all fun x => x.b.won.isSome := by simp [List.all_map, Function.comp_def]
    rw [← e] at g
    exact g
end
end Wm
/-! # A row's and a class's __init__; the seats; a round -/
namespace Wm
open PySem PySem.Spec PyProof.Rows L2
section
variable {P : Program} {w : World} {K : PySem.W.Frag} {mg : Str → Option Value} {base : Heap} {A : Ads}
def sp_Row_init (K : PySem.W.Frag) (A : Ads) : Sp := fun vs H Q _ => ∃ (p d lb : Addr) (xs : List V), vs = [.ref p, .ref lb] ∧ H p = some (.ins A.CR d []) ∧ H lb = some (.lst xs) ∧
  ∀ (H' : Hp) (pb pw : Addr), H' p = some (.ins A.CR d (rF pb pw)) → H' pb = some (.lst []) → H' pw = some (.lst xs) → H pb = none → H pw = none → pb ≠ pw → Keep [p] H H' → Q .non H'
theorem ok_Row_init (T : Txt K mg A)  {f : Addr} {fd : FuncData} (F : Fun K "__init__" "Row.__init__" sRow_init f fd) : FnOk P w K mg base CX0 1 f fd PRow_init (sp_Row_init K A) := by
  refine F.ok scRow_init (fun vs H Q E h => ?_) (fun cdv Ar outer s H vs Q E hr h => ⟨_, (pss_cons (ps_fld (pv 0) (pe_lst pa_nil) rfl)
      (pss_one (ps_fld (pv 0) (pe_callTy call_list_of rfl T.list (by decide +kernel) (by exact (pa_cons (pv 1) pa_nil))) rfl))), ?_⟩)
  · obtain ⟨_, _, _, _, rfl, _⟩ := h
    rfl
  obtain ⟨p, d, lb, xs, rfl, hp, hl, k⟩ := h
  refine ⟨Nat.zero_le _, fun pb hpb => ?_⟩
  generalize e1 : upd H pb _ = H1
  have s1 : Same H H1 := e1 ▸ same_new hpb
  have f1 : H1 pb = some (.lst []) := e1 ▸ upd_same
  have n1 : pb ≠ p := ne_of f1 (s1 _ _ hp) (fun z => by cases z)
  have n2 : lb ≠ p := ne_of hl hp (fun z => by cases z)
  refine ⟨_, rfl, p, A.CR, d, [], rfl, s1 _ _ hp, T.clCR, T.nCR_bouts, (by decide), ?_⟩
  generalize e2 : upd H1 p _ = H2
  have k2 : Keep [p] H1 H2 := e2 ▸ Keep.set (by simp)
  have f2 : H2 p = some (.ins A.CR d [("bouts", .ref pb)]) := e2 ▸ upd_same
  have g2 : H2 pb = some (.lst []) := k2 _ _ f1 (by simp [n1])
  refine ⟨_, rfl, lb, _, rfl, .inl (SqL.of (k2 _ _ (s1 _ _ hl) (by simp [n2]))), fun pw hpw => ?_⟩
  generalize e3 : upd H2 pw _ = H3
  have s3 : Same H2 H3 := e3 ▸ same_new hpw
  have f3 : H3 pw = some (.lst xs) := e3 ▸ upd_same
  have n3 : pw ≠ p := ne_of f3 (s3 _ _ f2) (fun z => by cases z)
  refine ⟨_, rfl, p, A.CR, d, _, rfl, s3 _ _ f2, T.clCR, T.nCR_waiting, (by show 1 < 1000; decide), ?_⟩
  have n4 : pb ≠ pw := ne_of_none g2 hpw
  refine k _ pb pw upd_same ((upd_ne n1).trans (s3 _ _ g2)) ((upd_ne n3).trans f3) hpb ?_ n4 ?_
  · refine s1.free ?_
    have z : H2 pw = none := hpw
    rw [← e2, upd_ne n3] at z
    exact z
  · intro q o hq nq
    have nqp : q ≠ p := fun z => nq (by simp [z])
    rw [upd_ne nqp]
    exact s3 _ _ (k2 _ _ (s1 _ _ hq) nq)
def sp_Bracket_init (K : PySem.W.Frag) (A : Ads) : Sp := fun vs H Q _ => ∃ (p d : Addr) (n : Nat), vs = [.ref p, .int n] ∧ H p = some (.ins A.CK d []) ∧
  ∀ (H' : Hp) (pr pw : Addr), H' p = some (.ins A.CK d (sF n pr pw)) → H' pr = some (.lst []) → H' pw = some (.lst []) → H pr = none → H pw = none → pr ≠ pw → Keep [p] H H' → Q .non H'
theorem ok_Bracket_init (T : Txt K mg A)  {f : Addr} {fd : FuncData} (F : Fun K "__init__" "Bracket.__init__" sBracket_init f fd) : FnOk P w K mg base CX0 1 f fd PBracket_init (sp_Bracket_init K A) := by
  refine F.ok scBracket_init (fun vs H Q E h => ?_) (fun cdv Ar outer s H vs Q E hr h => ⟨_, (pss_cons (ps_fld (pv 0) (pv 1) rfl)
      (pss_cons (ps_fld (pv 0) (pe_lst pa_nil) rfl)
      (pss_one (ps_fld (pv 0) (pe_lst pa_nil) rfl)))), ?_⟩)
  · obtain ⟨_, _, _, rfl, _⟩ := h
    rfl
  obtain ⟨p, d, n, rfl, hp, k⟩ := h
  refine ⟨_, rfl, _, rfl, p, A.CK, d, [], rfl, hp, T.clCK, T.nCK_many, (by decide), ?_⟩
  generalize e0 : upd H p _ = H0
  have k0 : Keep [p] H H0 := e0 ▸ Keep.set (by simp)
  have f0 : H0 p = some (.ins A.CK d [("many", .int n)]) := e0 ▸ upd_same
  refine ⟨Nat.zero_le _, fun pb hpb => ?_⟩
  generalize e1 : upd H0 pb _ = H1
  have s1 : Same H0 H1 := e1 ▸ same_new hpb
  have f1 : H1 pb = some (.lst []) := e1 ▸ upd_same
  have n1 : pb ≠ p := ne_of f1 (s1 _ _ f0) (fun z => by cases z)
  refine ⟨_, rfl, p, A.CK, d, _, rfl, s1 _ _ f0, T.clCK, T.nCK_rounds, (by show 1 < 1000; decide), ?_⟩
  generalize e2 : upd H1 p _ = H2
  have k2 : Keep [p] H1 H2 := e2 ▸ Keep.set (by simp)
  have f2 : H2 p = some (.ins A.CK d [("many", .int n), ("rounds", .ref pb)]) := e2 ▸ upd_same
  have g2 : H2 pb = some (.lst []) := k2 _ _ f1 (by simp [n1])
  refine ⟨Nat.zero_le _, fun pw hpw => ?_⟩
  generalize e3 : upd H2 pw _ = H3
  have s3 : Same H2 H3 := e3 ▸ same_new hpw
  have f3 : H3 pw = some (.lst []) := e3 ▸ upd_same
  have n3 : pw ≠ p := ne_of f3 (s3 _ _ f2) (fun z => by cases z)
  refine ⟨_, rfl, p, A.CK, d, _, rfl, s3 _ _ f2, T.clCK, T.nCK_rows, (by show 2 < 1000; decide), ?_⟩
  have n4 : pb ≠ pw := ne_of_none g2 hpw
  refine k _ pb pw upd_same ((upd_ne n1).trans (s3 _ _ g2)) ((upd_ne n3).trans f3) ?_ ?_ n4 ?_
  · have z : H0 pb = none := hpb
    rw [← e0, upd_ne n1] at z
    exact z
  · have z : H2 pw = none := hpw
    rw [← e2, upd_ne n3] at z
    have z2 := s1.free z
    rw [← e0, upd_ne n3] at z2
    exact z2
  · intro q o hq nq
    have nqp : q ≠ p := fun z => nq (by simp [z])
    rw [upd_ne nqp]
    exact s3 _ _ (k2 _ _ (s1 _ _ (k0 _ _ hq nq)) nq)
def sp_Mat_init (K : PySem.W.Frag) (A : Ads) : Sp := fun vs H Q _ => ∃ (p d : Addr), vs = [.ref p] ∧ H p = some (.ins A.CM d []) ∧
  ∀ H' : Hp, H' p = some (.ins A.CM d [("bracket", .non)]) → Keep [p] H H' → Q .non H'
theorem ok_Mat_init (T : Txt K mg A)  {f : Addr} {fd : FuncData} (F : Fun K "__init__" "Mat.__init__" sMat_init f fd) : FnOk P w K mg base CX0 1 f fd PMat_init (sp_Mat_init K A) := by
  refine F.ok scMat_init (fun vs H Q E h => ?_) (fun cdv Ar outer s H vs Q E hr h => ⟨_, (pss_one (ps_fld (pv 0) pe_non rfl)), ?_⟩)
  · obtain ⟨_, _, rfl, _⟩ := h
    rfl
  obtain ⟨p, d, rfl, hp, k⟩ := h
  refine ⟨_, rfl, p, A.CM, d, [], rfl, hp, T.clCM, T.nCM_bracket, (by decide), ?_⟩
  exact k _ upd_same (Keep.set (by simp))
/-! ### seats -/
theorem seats_len : ∀ k, (Kg66.seats k).length = 2 ^ k
  | 0 => rfl
  | k + 1 => by
    have g : ∀ (l : List Nat) (f : Nat → Nat), (l.flatMap fun x => [x, f x]).length = 2 * l.length := fun l f => by
      induction l with
      | nil => rfl
      | cons a r ih =>
        rw [List.flatMap_cons, List.length_append, ih]
        simp
        omega
    unfold Kg66.seats
    rw [g, seats_len k, Nat.pow_succ]
    omega
theorem seats_le : ∀ k, ∀ x ∈ Kg66.seats k, 1 ≤ x ∧ x ≤ 2 ^ k
  | 0, x, h => by
    simp [Kg66.seats] at h
    omega
  | k + 1, x, h => by
    unfold Kg66.seats at h
    obtain ⟨y, hy, hx⟩ := List.mem_flatMap.mp h
    have g := seats_le k y hy
    have e : 2 ^ (k + 1) = 2 * 2 ^ k := by rw [Nat.pow_succ]; omega
    simp at hx
    rcases hx with z | z <;> omega
theorem size_eq {n k : Nat} (hk : k < 7) (h1 : n ≤ 2 ^ k) (h2 : ∀ j, j < k → ¬ n ≤ 2 ^ j) : Kg66.size n = k := by
  unfold Kg66.size
  have e : (List.range 7).find? (fun k => decide (n ≤ 2 ^ k)) = some k := by
    rw [List.find?_eq_some_iff_append]
    refine ⟨by simpa using h1, List.range k, (List.range 7).drop (k + 1), ?_, ?_⟩
    · have : k = 0 ∨ k = 1 ∨ k = 2 ∨ k = 3 ∨ k = 4 ∨ k = 5 ∨ k = 6 := by omega
      rcases this with z | z | z | z | z | z | z <;> subst z <;> rfl
    · intro j hj
      simpa using h2 j (List.mem_range.mp hj)
  rw [e]
  rfl
def sp_seats (K : PySem.W.Frag) (A : Ads) : Sp := fun vs H Q _ => ∃ n : Nat, vs = [.int n] ∧ n ≤ 32 ∧ ∀ (H' : Hp) (p : Addr), Same H H' → H p = none → H' p = some (.lst ((Kg66.seats (Kg66.size n)).map fun x => V.int (x : Nat))) → Q (.ref p) H'
theorem ok_seats (T : Txt K mg A)  {f : Addr} {fd : FuncData} (F : Fun K "seats" "seats" sseats f fd) : FnOk P w K mg base CX0 1 f fd Pseats (sp_seats K A) := by
  refine F.ok scseats (fun vs H Q E h => ?_) (fun cdv Ar outer s H vs Q E hr h => ⟨_, (pss_cons (ps_set (i := 1) scseats.nd rfl (Or.inl rfl) (pe_lst (by exact (pa_cons pe_int pa_nil))))
      (pss_cons (ps_while PassesOwn.never (pt_cmpR op_lt (pe_callB call_len_seq rfl T.len (by decide +kernel) (by exact (pa_cons (pv 1) pa_nil))) (pv 0) (nomark _)) (pss_cons (ps_set (i := 2) scseats.nd rfl (Or.inl rfl) (pe_op op_mul pe_int (pe_callB call_len_seq rfl T.len (by decide +kernel) (by exact (pa_cons (pv 1) pa_nil)))))
      (pss_cons (ps_set (i := 3) scseats.nd rfl (Or.inl rfl) (pe_lst pa_nil))
      (pss_cons (ps_for PassesOwn.never rfl (pi_list (pv 1)) (pg_name (i := 4) scseats.nd rfl (Or.inl rfl)) (pss_one (ps_expr (pe_bm PySem.F.plainAttrs_list PySem.F.slot_list_extend PySem.F.type_list_extend mt_extend (pv 3) (by exact (pa_cons (pe_lst (by exact (pa_cons (pv 4) (pa_cons (pe_op op_sub (pe_op op_add (pv 2) pe_int) (pv 4)) pa_nil)))) pa_nil))))))
      (pss_one (ps_set (i := 1) scseats.nd rfl (Or.inl rfl) (pv 3)))))))
      (pss_one (ps_ret (pv 1))))), ?_⟩)
  · obtain ⟨_, rfl, _⟩ := h
    rfl
  obtain ⟨n, rfl, hn, k⟩ := h
  refine ⟨(by show 1 ≤ sizeLine; decide), fun p0 hp0 => ?_⟩
  generalize e1 : upd H p0 _ = H1
  have s1 : Same H H1 := e1 ▸ same_new hp0
  have f1 : H1 p0 = some (.lst [.int 1]) := e1 ▸ upd_same
  refine ⟨fun m σ H' => ∃ (j : Nat) (p : Addr) (v1 v2 v3 : Option V), m = 6 - j ∧ j ≤ 6 ∧ σ = [some (.int n), some (.ref p), v1, v2, v3] ∧ Same H H' ∧ H p = none ∧ H' p = some (.lst ((Kg66.seats j).map fun x => V.int (x : Nat))) ∧ ∀ i, i < j → ¬ n ≤ 2 ^ i,
    ⟨6, 0, p0, none, none, none, rfl, by omega, rfl, s1, hp0, f1, fun i hi => absurd hi (by omega)⟩, ?_⟩
  rintro m σ H' ⟨j, p, v1, v2, v3, rfl, hj, rfl, s2, np, f2, hlt⟩
  have el : ((Kg66.seats j).map fun x => V.int (x : Nat)).length = 2 ^ j := by rw [List.length_map, seats_len]
  refine ⟨_, rfl, p, _, rfl, .inl (SqL.of f2), _, rfl, _, _, rfl, rfl, _, rfl, if_d (fun h1 => ?_) (fun h1 => ?_)⟩
  · rw [el] at h1
    have hj5 : j < 6 := by
      rcases Nat.lt_or_ge j 6 with z | z
      · exact z
      · have e : j = 6 := by omega
        subst e
        have : (2 : Nat) ^ 6 = 64 := by decide
        omega
    refine ⟨fun σ' H2 => ∃ (q : Addr) (u1 u2 u3 : Option V), σ' = [some (.int n), some (.ref q), u1, u2, u3] ∧ Same H H2 ∧ H q = none ∧ H2 q = some (.lst ((Kg66.seats (j + 1)).map fun x => V.int (x : Nat))), fun σ' H2 hN => ?_, ?_⟩
    · obtain ⟨q, u1, u2, u3, e, sN, nq, fq⟩ := hN
      refine ⟨6 - (j + 1), by omega, j + 1, q, u1, u2, u3, rfl, hj5, e, sN, nq, fq, fun i hi => ?_⟩
      rcases Nat.lt_succ_iff_lt_or_eq.mp hi with z | z
      · exact hlt i z
      · rw [z]
        omega
    refine ⟨_, rfl, p, _, rfl, .inl (SqL.of f2), _, _, rfl, rfl, .inl ⟨by decide, by decide⟩, ?_⟩
    refine ⟨Nat.zero_le _, fun p3 hp3 => ?_⟩
    generalize e3 : upd H' p3 _ = H3
    have s3 : Same H' H3 := e3 ▸ same_new hp3
    have f3 : H3 p3 = some (.lst []) := e3 ▸ upd_same
    have np3 : H p3 = none := s2.free hp3
    refine ⟨_, rfl, p, rfl, ⟨_, SqL.of (s3 _ _ f2)⟩, for_list (K := K) (a := p) (xs := (Kg66.seats j).map fun x => V.int (x : Nat)) (fun i σ H4 => ∃ v : Option V, σ = [some (.int n), some (.ref p), some (.int (2 * ((List.map (fun x => V.int (x : Nat)) (Kg66.seats j)).length : Nat))), some (.ref p3), v] ∧ Same H' H4 ∧
      H4 p3 = some (.lst ((((Kg66.seats j).take i).flatMap fun x => [x, 2 ^ (j + 1) + 1 - x]).map fun x => V.int (x : Nat)))) ⟨v3, rfl, s3, f3⟩ (fun i σ H4 _ ⟨_, _, s4, _⟩ => SqL.of (s4 _ _ f2)) ?_ ?_⟩
    · rintro i y σ H4 hy ⟨v, rfl, s4, f4⟩
      rw [List.getElem?_map] at hy
      obtain ⟨x, hx, rfl⟩ : ∃ x, (Kg66.seats j)[i]? = some x ∧ y = V.int (x : Nat) := by
        cases ex : (Kg66.seats j)[i]? with
        | none =>
          rw [ex] at hy
          cases hy
        | some x =>
          rw [ex] at hy
          exact ⟨x, rfl, (Option.some.inj hy).symm⟩
      have hxm := List.mem_of_getElem? hx
      obtain ⟨lo, hi⟩ := seats_le j x hxm
      have hil := (List.getElem?_eq_some_iff.mp hx).1
      have hxe := (List.getElem?_eq_some_iff.mp hx).2
      have e2 : (2 : Nat) ^ (j + 1) = 2 * 2 ^ j := by rw [Nat.pow_succ]; omega
      refine ⟨_, rfl, .inl ⟨rfl, _, SqL.of f4⟩, _, rfl, _, rfl, _, _, rfl, rfl, _, rfl, _, _, rfl, rfl, (by show 2 ≤ sizeLine; decide), fun p5 hp5 => ?_⟩
      generalize e5 : upd H4 p5 _ = H5
      have s5 : Same H4 H5 := e5 ▸ same_new hp5
      have f5 : H5 p5 = some (.lst [.int (x : Nat), .int ((2 ^ (j + 1) + 1 - x : Nat) : Nat)]) := by
        rw [← e5, upd_same, el]
        refine congrArg (fun z => some (HO.lst [V.int (x : Nat), V.int z])) ?_
        omega
      refine ⟨p3, p5, _, _, rfl, rfl, s5 _ _ f4, f5, ?_, ?_⟩
      · have big : (1000 : Nat) ≤ sizeLine := by decide
        have g : ∀ (l : List Nat) (f : Nat → Nat), (l.flatMap fun x => [x, f x]).length = 2 * l.length := fun l f => by
          induction l with
          | nil => rfl
          | cons a r ih =>
            rw [List.flatMap_cons, List.length_append, ih]
            simp
            omega
        have q5 : (2 : Nat) ^ j ≤ 2 ^ 5 := Nat.pow_le_pow_right (by decide) (by omega)
        have hl := seats_len j
        rw [List.length_map, g, List.length_take]
        simp
        omega
      · refine ⟨_, rfl, ?_, ?_⟩
        · exact same_set (s4.trans s5) hp3
        · rw [upd_same, List.take_succ_eq_append_getElem hil, hxe, List.flatMap_append, List.map_append]
          rfl
    · rintro σ H4 ⟨v, rfl, s4, f4⟩
      refine ⟨_, rfl, p3, _, _, _, rfl, s2.trans s4, np3, ?_⟩
      rw [List.length_map, List.take_length] at f4
      exact f4
  · rw [el] at h1
    have hs : Kg66.size n = j := size_eq (by omega) (by omega) hlt
    have g := k H' p s2 np
    rw [hs] at g
    exact ⟨_, rfl, g f2⟩
/-! ### a round -/
theorem lc_rangeC {lo c : Int} {n : Nat} {g : TG} {tt : TT} {te : L2.TE} {vs : List Nat} {σ : L2.St} {H1 : Hp} {D : Addr} {Qd : Hp → Prop} (Pv : Nat → Hp → Prop) (h0 : Pv 0 (upd H1 D (.lst [])))
    (hs : ∀ i H, i < n → Pv i H → g (.int (lo + (i : Nat) * c)) (wipe σ vs) H fun σ2 H2 => wipe σ2 vs = wipe σ vs ∧ tt σ2 H2 fun b H3 =>
      if b = true then te σ2 H3 fun y H4 => ∃ acc, H4 D = some (.lst acc) ∧ acc.length < sizeLine ∧ Pv (i + 1) (upd H4 D (.lst (acc ++ [y]))) else Pv (i + 1) H3) (hd : ∀ H, Pv n H → Qd H) :
    ∃ W : Nat → Nat → Hp → Prop, (∃ m, W 0 m (upd H1 D (.lst []))) ∧ ∀ i m H, W i m H →
      ((Itc lo c n).stop i H ∧ Qd H) ∨ ((Itc lo c n).go i H ∧ ∃ Nx : Hp → Prop, (∀ H', Nx H' → ∃ m', m' < m ∧ W (i + 1) m' H') ∧ ∀ x H', (Itc lo c n).yld i H x H' → g x (wipe σ vs) H' fun σ2 H2 => wipe σ2 vs = wipe σ vs ∧ tt σ2 H2 fun b H3 =>
        if b = true then te σ2 H3 fun y H4 => ∃ acc, H4 D = some (.lst acc) ∧ acc.length < sizeLine ∧ Nx (upd H4 D (.lst (acc ++ [y]))) else Nx H3) := by
  refine ⟨fun i m H => m = n - i ∧ i ≤ n ∧ Pv i H, ⟨n, rfl, Nat.zero_le _, h0⟩, fun i m H ⟨em, hi, p⟩ => ?_⟩
  subst em
  rcases Nat.lt_or_ge i n with hlt | hge
  · refine .inr ⟨hlt, Pv (i + 1), fun H' p' => ⟨n - (i + 1), by omega, rfl, hlt, p'⟩, fun x H' y => ?_⟩
    obtain ⟨e1, e2⟩ := y
    subst e1 e2
    exact hs i _ hlt p
  · have e : i = n := Nat.le_antisymm hi hge
    subst e
    exact .inl ⟨Nat.le_refl _, hd H p⟩
/-- the same: no test, a name for a target -/
theorem lc_rangeN {lo c : Int} {n m : Nat} {te : L2.TE} {vs : List Nat} {σ : L2.St} {H1 : Hp} {D : Addr} {Qd : Hp → Prop} (Pv : Nat → Hp → Prop) (h0 : Pv 0 (upd H1 D (.lst [])))
    (hs : ∀ i H, i < n → Pv i H → wipe ((wipe σ vs).set m (some (.int (lo + (i : Nat) * c)))) vs = wipe σ vs ∧ te ((wipe σ vs).set m (some (.int (lo + (i : Nat) * c)))) H fun y H4 => ∃ acc, H4 D = some (.lst acc) ∧ acc.length < sizeLine ∧ Pv (i + 1) (upd H4 D (.lst (acc ++ [y])))) (hd : ∀ H, Pv n H → Qd H) :
    ∃ W : Nat → Nat → Hp → Prop, (∃ m, W 0 m (upd H1 D (.lst []))) ∧ ∀ i k H, W i k H →
      ((Itc lo c n).stop i H ∧ Qd H) ∨ ((Itc lo c n).go i H ∧ ∃ Nx : Hp → Prop, (∀ H', Nx H' → ∃ m', m' < k ∧ W (i + 1) m' H') ∧ ∀ x H', (Itc lo c n).yld i H x H' → gName m x (wipe σ vs) H' fun σ2 H2 => wipe σ2 vs = wipe σ vs ∧ tYes σ2 H2 fun b H3 =>
        if b = true then te σ2 H3 fun y H4 => ∃ acc, H4 D = some (.lst acc) ∧ acc.length < sizeLine ∧ Nx (upd H4 D (.lst (acc ++ [y]))) else Nx H3) := by
  refine lc_rangeC Pv h0 (fun i H hi p => ?_) hd
  obtain ⟨e, q⟩ := hs i H hi p
  refine ⟨e, ?_⟩
  have z : if true = true then te ((wipe σ vs).set m (some (.int (lo + (i : Nat) * c)))) H (fun y H4 => ∃ acc, H4 D = some (.lst acc) ∧ acc.length < sizeLine ∧ Pv (i + 1) (upd H4 D (.lst (acc ++ [y])))) else Pv (i + 1) H := iteT q
  exact z
theorem rg_two (r : Nat) (h : r ≤ 100) : RgC 0 ((2 * r : Nat) : Int) 2 r := by
  have e : Builtin.Range.rangeSize 0 ((2 * r : Nat) : Int) 2 = r := by
    unfold Builtin.Range.rangeSize
    rw [if_pos (by decide)]
    by_cases z : (0 : Int) < ((2 * r : Nat) : Int)
    · rw [if_pos z]
      omega
    · rw [if_neg z]
      omega
  have fit : ∀ x : Int, -1000 ≤ x → x ≤ 1000 → Builtin.Range.rangeFitsLong x = true := fun x h1 h2 => by
    unfold Builtin.Range.rangeFitsLong
    rw [Bool.and_eq_true]
    exact ⟨decide_eq_true (Int.le_trans (by decide) h1), decide_eq_true (Int.lt_of_le_of_lt h2 (by decide))⟩
  refine ⟨by decide, by decide, ?_, e⟩
  unfold Builtin.Range.small
  rw [e, fit 0 (by decide) (by decide), fit _ (by omega) (by omega : ((2 * r : Nat) : Int) ≤ 1000), fit 2 (by decide) (by decide), fit (r : Int) (by omega) (by omega), if_pos (by decide), fit _ (by omega) (by omega : ((2 * r : Nat) : Int) + (2 - 1) ≤ 1000), Bool.or_true]
  rfl
theorem paired_snoc : ∀ (l : List (Option Nat)) (a b : Option Nat), l.length % 2 = 0 → Kg66.paired (l ++ [a, b]) = Kg66.paired l ++ [Kg66.fresh a b]
  | [], a, b, _ => rfl
  | [x], a, b, h => by simp at h
  | x :: y :: l, a, b, h => by
    have ih := paired_snoc l a b (by simp at h; omega)
    show Kg66.fresh x y :: Kg66.paired (l ++ [a, b]) = _
    rw [ih]
    rfl
def sp_round_of (K : PySem.W.Frag) (A : Ads) : Sp := fun vs H Q _ => ∃ (lw : Addr) (ws : List (Option Nat)) (r : Nat), vs = [.ref lw] ∧ H lw = some (.lst (ws.map fun o => V.int (Kg66.opt o))) ∧ ws.length = 2 * r ∧ r ≤ 32 ∧ (∀ i, i < r → ∃ n, ws[2 * i]? = some (some n)) ∧
  ∀ (H' : Hp) (x : RL), RoundIs A.CB H' x → x.abs = Kg66.paired ws → Same H H' → (∀ q ∈ x.foot, H q = none) → x.foot.Nodup → Q (.ref x.p) H'
theorem ok_round_of (T : Txt K mg A) (D_begun_bout : Own P w K mg base CX0 3 "begun_bout" Pbegun_bout (sp_begun_bout K A)) {f : Addr} {fd : FuncData} (F : Fun K "round_of" "round_of" sround_of f fd) : FnOk P w K mg base CX0 4 f fd Pround_of (sp_round_of K A) := by
  refine F.ok scround_of (fun vs H Q E h => ?_) (fun cdv Ar outer s H vs Q E hr h => ⟨_, (pss_one (ps_ret (pe_lc (own := [("k", 1)]) (g := gName 1) (tt := tYes) (te := (tCall (sp_begun_bout K A) [] E0 (tCons (tOp (rIxL K) (tVar 0) (tVar 1)) (tCons (tOp (rIxL K) (tVar 0) (tOp (rI0 fun i j => V.int (i + j)) (tVar 1) (tC (.int 1)))) tNil)))) rfl scround_of.nd (pi_range3 rfl T.range (by exact (pa_cons pe_int (pa_cons (pe_callB call_len_seq rfl T.len (by decide +kernel) (by exact (pa_cons (pv 0) pa_nil))) (pa_cons pe_int pa_nil))))) (blkOk_by (own := [("k", 1)]) (N := Nround_of) (sc := defScope sround_of) (by decide +kernel)) (fun _ _ _ _ _ => by exact ((pg_name (i := 1) scround_of.nd rfl (Or.inl rfl)))) (fun _ _ _ _ _ => by exact (pts_nil)) (fun _ _ _ _ _ => by exact ((pe_own D_begun_bout (hr.mono (by decide)) (by exact (pa_cons (pe_ix ix_list (pv 0) (pv 1) (fun _ _ => rfl)) (pa_cons (pe_ix ix_list (pv 0) (pe_op op_add (pv 1) pe_int) (fun _ _ => rfl)) pa_nil))))))))), ?_⟩)
  · obtain ⟨_, _, _, rfl, _⟩ := h
    rfl
  obtain ⟨lw, ws, r, rfl, hl, hn, hr32, hone, k⟩ := h
  refine ⟨_, rfl, lw, _, rfl, .inl (SqL.of hl), 0, _, 2, r, rfl, ?_, fun D hD => ?_⟩
  · rw [List.length_map, hn]
    exact rg_two r (by omega)
  refine lc_rangeN (fun i H' => ∃ bs : List BL, Same H H' ∧ H' D = some (.lst (bs.map fun x => V.ref x.a)) ∧ (∀ x ∈ bs, BoutIs A.CB H' x) ∧ bs.map BL.b = Kg66.paired (ws.take (2 * i)) ∧ bs.length = i ∧ (∀ q ∈ bs.flatMap BL.foot, H q = none ∧ q ≠ D) ∧ (bs.flatMap BL.foot).Nodup)
    ⟨[], same_new hD, upd_same, by simp, by rfl, rfl, by simp, by simp⟩ ?_ ?_
  · rintro i H1 hi ⟨bs, s1, f1, hb, eb, elen, fr, nd⟩
    refine ⟨rfl, ?_⟩
    obtain ⟨n, hx⟩ := hone i hi
    obtain ⟨ob, hy⟩ : ∃ ob, ws[2 * i + 1]? = some ob := ⟨_, List.getElem?_eq_getElem (by omega)⟩
    have v1 : (ws.map fun o => V.int (Kg66.opt o))[2 * i]? = some (.int (n : Nat)) := by
      rw [List.getElem?_map, hx]
      rfl
    have v2 : (ws.map fun o => V.int (Kg66.opt o))[2 * i + 1]? = some (.int (Kg66.opt ob)) := by
      rw [List.getElem?_map, hy]
      rfl
    have z1 : (0 : Int) + (i : Nat) * 2 = ((2 * i : Nat) : Int) := by omega
    have z2 : (0 : Int) + (i : Nat) * 2 + 1 = ((2 * i + 1 : Nat) : Int) := by omega
    refine ⟨_, rfl, _, rfl, lw, _, _, _, rfl, rfl, SqL.of (s1 _ _ hl), (by rw [z1]; exact atI_nat v1), ?_⟩
    refine ⟨_, rfl, _, rfl, _, _, rfl, rfl, lw, _, _, _, rfl, rfl, SqL.of (s1 _ _ hl), (by rw [z2]; exact atI_nat v2), ?_⟩
    refine ⟨n, ob, rfl, fun H2 x hbx ex s2 frx ndx => ?_⟩
    have fx : ∀ q ∈ x.foot, q ≠ D := fun q hq z => by
      have y := frx q hq
      rw [z, f1] at y
      cases y
    have kD : Keep [D] H2 (upd H2 D (.lst ((bs.map fun x => V.ref x.a) ++ [.ref x.a]))) := Keep.set (by simp)
    have big : (1000 : Nat) < sizeLine := by decide
    refine ⟨_, s2 _ _ f1, (by rw [List.length_map]; omega), bs ++ [x], same_set (s1.trans s2) hD, ?_, ?_, ?_, ?_, ?_, ?_⟩
    · rw [upd_same, List.map_append]
      rfl
    · intro y hy'
      rcases List.mem_append.mp hy' with z | z
      · exact ((hb y z).same s2).keep kD fun q hq w => (fr q (List.mem_flatMap.mpr ⟨y, z, hq⟩)).2 (List.mem_singleton.mp w)
      · rw [List.mem_singleton.mp z]
        exact hbx.keep kD fun q hq w => fx q hq (List.mem_singleton.mp w)
    · have et : ws.take (2 * (i + 1)) = ws.take (2 * i) ++ [some n, ob] := by
        rw [show 2 * (i + 1) = 2 * i + 1 + 1 by omega, List.take_succ, List.take_succ, hx, hy]
        simp
      rw [et, paired_snoc _ _ _ (by rw [List.length_take]; omega), List.map_append, eb]
      simp [ex]
    · simp [elen]
    · intro q hq
      rw [List.flatMap_append] at hq
      rcases List.mem_append.mp hq with z | z
      · exact fr q z
      · have z' : q ∈ x.foot := by simpa using z
        exact ⟨s1.free (frx q z'), fx q z'⟩
    · rw [List.flatMap_append]
      refine List.nodup_append.mpr ⟨nd, by simpa using ndx, fun a ha b hb' e => ?_⟩
      have z' : b ∈ x.foot := by simpa using hb'
      obtain ⟨y, hy1, hy2⟩ := List.mem_flatMap.mp ha
      obtain ⟨o, ho, _⟩ := (hb y hy1).plain a hy2
      rw [e, frx b z'] at ho
      cases ho
  · rintro H1 ⟨bs, s1, f1, hb, eb, elen, fr, nd⟩
    rw [← hn, List.take_length] at eb
    refine k H1 ⟨D, bs⟩ ⟨f1, hb⟩ eb s1 (fun q hq => ?_) ?_
    · rcases List.mem_cons.mp hq with z | z
      · rw [z]
        exact hD
      · exact (fr q z).1
    · exact List.nodup_cons.mpr ⟨fun z => (fr _ z).2 rfl, nd⟩
end
end Wm
/-! # A part of a class's objects changes, the others stand -/
namespace Wm
open PySem PySem.Spec PyProof.Rows L2
theorem swap_nd {al : Type} {X f f' Y : List al} (h : (X ++ (f ++ Y)).Nodup) (h' : f'.Nodup) (n : ∀ q ∈ f', q ∈ f ∨ (q ∉ X ∧ q ∉ Y)) : (X ++ (f' ++ Y)).Nodup := by
  rw [List.nodup_append] at h ⊢
  obtain ⟨h1, h2, h3⟩ := h
  rw [List.nodup_append] at h2 ⊢
  obtain ⟨h4, h5, h6⟩ := h2
  refine ⟨h1, ⟨h', h5, fun a ha b hb e => ?_⟩, fun a ha b hb e => ?_⟩
  · rcases n a ha with z | ⟨_, z⟩
    · exact h6 a z b hb e
    · rw [e] at z
      exact z hb
  · rcases List.mem_append.mp hb with hb | hb
    · rcases n b hb with z | ⟨z, _⟩
      · exact h3 a ha b (List.mem_append_left _ z) e
      · rw [← e] at z
        exact z ha
    · exact h3 a ha b (List.mem_append_right _ hb) e
theorem apart_nd {al : Type} {X f Y : List al} (h : (X ++ (f ++ Y)).Nodup) : (∀ q ∈ X, q ∉ f) ∧ (∀ q ∈ Y, q ∉ f) := by
  rw [List.nodup_append] at h
  obtain ⟨_, h2, h3⟩ := h
  rw [List.nodup_append] at h2
  obtain ⟨_, _, h6⟩ := h2
  exact ⟨fun q hq z => h3 q hq q (List.mem_append_left _ z) rfl, fun q hq z => h6 q z q hq rfl⟩
/-- from one state to the next: what it asks of the heaps -/
structure Goes (D D' : List Addr) (H H' : Hp) : Prop where
  keep : Keep D H H'
  new : ∀ q ∈ D', q ∈ D ∨ H q = none
  nd : D'.Nodup
theorem Goes.refl {D : List Addr} {H : Hp} (h : D.Nodup) : Goes D D H H := ⟨Keep.of (Same.refl _), fun q hq => .inl hq, h⟩
theorem Goes.of_same {D : List Addr} {H H' : Hp} (h : D.Nodup) (s : Same H H') : Goes D D H H' := ⟨Keep.of s, fun q hq => .inl hq, h⟩
/-- two in a row; what stood outside the first's stands outside the second's -/
theorem Goes.trans {D D1 D2 : List Addr} {H H1 H2 : Hp} (a : Goes D D1 H H1) (b : Goes D1 D2 H1 H2) (back : ∀ q, H1 q = none → H q = none ∨ q ∈ D) : Goes D D2 H H2 := by
  refine ⟨fun q o hq n => ?_, fun q hq => ?_, b.nd⟩
  · refine b.keep q o (a.keep q o hq n) fun z => ?_
    rcases a.new q z with y | y
    · exact n y
    · rw [hq] at y
      cases y
  · rcases b.new q hq with z | z
    · exact a.new q z
    · rcases back q z with y | y
      · exact .inr y
      · exact .inl y
theorem Keep.back {D : List Addr} {H H' : Hp} (k : Keep D H H') : ∀ q, H' q = none → H q = none ∨ q ∈ D := fun q hq => by
  by_cases hd : q ∈ D
  · exact .inr hd
  · refine .inl ?_
    cases e : H q with
    | none => rfl
    | some o =>
      rw [k q o e hd] at hq
      cases hq
theorem Goes.tr {D D1 D2 : List Addr} {H H1 H2 : Hp} (a : Goes D D1 H H1) (b : Goes D1 D2 H1 H2) : Goes D D2 H H2 := a.trans b a.keep.back
section
variable {CB CR CK : Addr} {H H' : Hp} {s : SL}
theorem SL.foot_rows {L M : List WL} {r : WL} (e : s.rows = L ++ r :: M) : s.foot = (s.a :: s.pr :: s.pw :: (s.rounds.flatMap RL.foot ++ L.flatMap WL.foot)) ++ (r.foot ++ M.flatMap WL.foot) := by
  unfold SL.foot
  rw [e]
  simp [List.flatMap_append, List.append_assoc]
/-- one row changes -/
theorem st_row {L M : List WL} {r r' : WL} (h : StIs CB CR CK H s) (nd : s.foot.Nodup) (e : s.rows = L ++ r :: M) (h' : RowIs CB CR H' r') (ea : r'.a = r.a) (g : Goes r.foot r'.foot H H') :
    StIs CB CR CK H' { s with rows := L ++ r' :: M } ∧ Goes s.foot (SL.foot { s with rows := L ++ r' :: M }) H H' := by
  have ef := SL.foot_rows e
  have ef' : SL.foot { s with rows := L ++ r' :: M } = (s.a :: s.pr :: s.pw :: (s.rounds.flatMap RL.foot ++ L.flatMap WL.foot)) ++ (r'.foot ++ M.flatMap WL.foot) := SL.foot_rows (s := { s with rows := L ++ r' :: M }) rfl
  rw [ef] at nd
  obtain ⟨a1, a2⟩ := apart_nd nd
  have hp := h.plain
  have mX : ∀ q ∈ (s.a :: s.pr :: s.pw :: (s.rounds.flatMap RL.foot ++ L.flatMap WL.foot)), q ∈ s.foot := fun q hq => by rw [ef]; exact List.mem_append_left _ hq
  have mY : ∀ q ∈ M.flatMap WL.foot, q ∈ s.foot := fun q hq => by rw [ef]; exact List.mem_append_right _ (List.mem_append_right _ hq)
  have mR : ∀ q ∈ r.foot, q ∈ s.foot := fun q hq => by rw [ef]; exact List.mem_append_right _ (List.mem_append_left _ hq)
  refine ⟨⟨?_, ?_, ?_, fun x hx => ?_, fun x hx => ?_⟩, ⟨g.keep.mono mR, fun q hq => ?_, ?_⟩⟩
  · exact g.keep _ _ h.obj (a1 _ (by simp))
  · exact g.keep _ _ h.l (a1 _ (by simp))
  · have z := g.keep _ _ h.w (a1 _ (by simp))
    rw [e] at z
    show H' s.pw = _
    rw [z]
    simp [ea]
  · exact (h.rd x hx).keep g.keep fun q hq => a1 q (by
      simp only [List.mem_cons, List.mem_append, List.mem_flatMap]
      exact .inr (.inr (.inr (.inl ⟨x, hx, hq⟩))))
  · have hx' : x ∈ L ++ r' :: M := hx
    rcases List.mem_append.mp hx' with z | z
    · exact (h.rw_ x (by rw [e]; exact List.mem_append_left _ z)).keep g.keep fun q hq => a1 q (by
        simp only [List.mem_cons, List.mem_append, List.mem_flatMap]
        exact .inr (.inr (.inr (.inr ⟨x, z, hq⟩))))
    · rcases List.mem_cons.mp z with z | z
      · rw [z]
        exact h'
      · exact (h.rw_ x (by rw [e]; exact List.mem_append_right _ (List.mem_cons_of_mem _ z))).keep g.keep fun q hq => a2 q (List.mem_flatMap.mpr ⟨x, z, hq⟩)
  · rw [ef'] at hq
    rcases List.mem_append.mp hq with z | z
    · exact .inl (mX q z)
    · rcases List.mem_append.mp z with z | z
      · rcases g.new q z with y | y
        · exact .inl (mR q y)
        · exact .inr y
      · exact .inl (mY q z)
  · rw [ef']
    refine swap_nd nd g.nd fun q hq => ?_
    rcases g.new q hq with y | y
    · exact .inl y
    · exact .inr ⟨fun z => not_in hp y (mX q z), fun z => not_in hp y (mY q z)⟩
theorem RL.foot_at {L M : List BL} {x : BL} {p : Addr} : RL.foot ⟨p, L ++ x :: M⟩ = (p :: L.flatMap BL.foot) ++ (x.foot ++ M.flatMap BL.foot) := by
  simp [RL.foot, List.flatMap_append]
/-- a bout of the last round changes -/
theorem st_bout {R : List RL} {p : Addr} {L M : List BL} {x x' : BL} (h : StIs CB CR CK H s) (nd : s.foot.Nodup) (e : s.rounds = R ++ [⟨p, L ++ x :: M⟩]) (h' : BoutIs CB H' x') (ea : x'.a = x.a) (g : Goes x.foot x'.foot H H') :
    StIs CB CR CK H' { s with rounds := R ++ [⟨p, L ++ x' :: M⟩] } ∧ Goes s.foot (SL.foot { s with rounds := R ++ [⟨p, L ++ x' :: M⟩] }) H H' := by
  have ef : s.foot = (s.a :: s.pr :: s.pw :: (R.flatMap RL.foot ++ p :: L.flatMap BL.foot)) ++ (x.foot ++ (M.flatMap BL.foot ++ s.rows.flatMap WL.foot)) := by
    unfold SL.foot
    rw [e]
    simp [List.flatMap_append, List.append_assoc, RL.foot]
  have ef' : SL.foot { s with rounds := R ++ [⟨p, L ++ x' :: M⟩] } = (s.a :: s.pr :: s.pw :: (R.flatMap RL.foot ++ p :: L.flatMap BL.foot)) ++ (x'.foot ++ (M.flatMap BL.foot ++ s.rows.flatMap WL.foot)) := by
    unfold SL.foot
    simp [List.flatMap_append, List.append_assoc, RL.foot]
  rw [ef] at nd
  obtain ⟨a1, a2⟩ := apart_nd nd
  have hp := h.plain
  have mX : ∀ q ∈ (s.a :: s.pr :: s.pw :: (R.flatMap RL.foot ++ p :: L.flatMap BL.foot)), q ∈ s.foot := fun q hq => by rw [ef]; exact List.mem_append_left _ hq
  have mY : ∀ q ∈ M.flatMap BL.foot ++ s.rows.flatMap WL.foot, q ∈ s.foot := fun q hq => by rw [ef]; exact List.mem_append_right _ (List.mem_append_right _ hq)
  have mR : ∀ q ∈ x.foot, q ∈ s.foot := fun q hq => by rw [ef]; exact List.mem_append_right _ (List.mem_append_left _ hq)
  have hlast := h.rd ⟨p, L ++ x :: M⟩ (by rw [e]; simp)
  refine ⟨⟨?_, ?_, ?_, fun y hy => ?_, fun y hy => ?_⟩, ⟨g.keep.mono mR, fun q hq => ?_, ?_⟩⟩
  · exact g.keep _ _ h.obj (a1 _ (by simp))
  · have z := g.keep _ _ h.l (a1 _ (by simp))
    rw [e] at z
    show H' s.pr = _
    rw [z]
    simp
  · exact g.keep _ _ h.w (a1 _ (by simp))
  · have hy' : y ∈ R ++ [⟨p, L ++ x' :: M⟩] := hy
    rcases List.mem_append.mp hy' with z | z
    · exact (h.rd y (by rw [e]; exact List.mem_append_left _ z)).keep g.keep fun q hq => a1 q (by
        simp only [List.mem_cons, List.mem_append, List.mem_flatMap]
        exact .inr (.inr (.inr (.inl ⟨y, z, hq⟩))))
    · rw [List.mem_singleton.mp z]
      refine ⟨?_, fun u hu => ?_⟩
      · have w := g.keep _ _ hlast.l (a1 _ (by simp))
        show H' p = _
        rw [w]
        simp [ea]
      · have hu' : u ∈ L ++ x' :: M := hu
        rcases List.mem_append.mp hu' with w | w
        · exact (hlast.at_ u (List.mem_append_left _ w)).keep g.keep fun q hq => a1 q (by
            simp only [List.mem_cons, List.mem_append, List.mem_flatMap]
            exact .inr (.inr (.inr (.inr (.inr ⟨u, w, hq⟩)))))
        · rcases List.mem_cons.mp w with w | w
          · rw [w]
            exact h'
          · exact (hlast.at_ u (List.mem_append_right _ (List.mem_cons_of_mem _ w))).keep g.keep fun q hq => a2 q (List.mem_append_left _ (List.mem_flatMap.mpr ⟨u, w, hq⟩))
  · exact (h.rw_ y hy).keep g.keep fun q hq => a2 q (List.mem_append_right _ (List.mem_flatMap.mpr ⟨y, hy, hq⟩))
  · rw [ef'] at hq
    rcases List.mem_append.mp hq with z | z
    · exact .inl (mX q z)
    · rcases List.mem_append.mp z with z | z
      · rcases g.new q z with y | y
        · exact .inl (mR q y)
        · exact .inr y
      · exact .inl (mY q z)
  · rw [ef']
    refine swap_nd nd g.nd fun q hq => ?_
    rcases g.new q hq with y | y
    · exact .inl y
    · exact .inr ⟨fun z => not_in hp y (mX q z), fun z => not_in hp y (mY q z)⟩
/-- the last bout of a row changes -/
theorem row_bout {r : WL} {L : List BL} {x x' : BL} (h : RowIs CB CR H r) (nd : r.foot.Nodup) (e : r.bs = L ++ [x]) (h' : BoutIs CB H' x') (ea : x'.a = x.a) (g : Goes x.foot x'.foot H H') :
    RowIs CB CR H' { r with bs := L ++ [x'] } ∧ Goes r.foot (WL.foot { r with bs := L ++ [x'] }) H H' := by
  have ef : r.foot = (r.a :: r.pb :: r.pw :: L.flatMap BL.foot) ++ (x.foot ++ []) := by
    unfold WL.foot
    rw [e]
    simp [List.flatMap_append]
  have ef' : WL.foot { r with bs := L ++ [x'] } = (r.a :: r.pb :: r.pw :: L.flatMap BL.foot) ++ (x'.foot ++ []) := by
    unfold WL.foot
    simp [List.flatMap_append]
  rw [ef] at nd
  obtain ⟨a1, _⟩ := apart_nd nd
  have hp := h.plain
  have mX : ∀ q ∈ (r.a :: r.pb :: r.pw :: L.flatMap BL.foot), q ∈ r.foot := fun q hq => by rw [ef]; exact List.mem_append_left _ hq
  have mR : ∀ q ∈ x.foot, q ∈ r.foot := fun q hq => by rw [ef]; exact List.mem_append_right _ (List.mem_append_left _ hq)
  refine ⟨⟨g.keep _ _ h.obj (a1 _ (by simp)), ?_, g.keep _ _ h.w (a1 _ (by simp)), fun y hy => ?_⟩, ⟨g.keep.mono mR, fun q hq => ?_, ?_⟩⟩
  · have w := g.keep _ _ h.l (a1 _ (by simp))
    rw [e] at w
    show H' r.pb = _
    rw [w]
    simp [ea]
  · have hy' : y ∈ L ++ [x'] := hy
    rcases List.mem_append.mp hy' with z | z
    · exact (h.at_ y (by rw [e]; exact List.mem_append_left _ z)).keep g.keep fun q hq => a1 q (by
        simp only [List.mem_cons, List.mem_flatMap]
        exact .inr (.inr (.inr ⟨y, z, hq⟩)))
    · rw [List.mem_singleton.mp z]
      exact h'
  · rw [ef'] at hq
    rcases List.mem_append.mp hq with z | z
    · exact .inl (mX q z)
    · rw [List.append_nil] at z
      rcases g.new q z with y | y
      · exact .inl (mR q y)
      · exact .inr y
  · rw [ef']
    refine swap_nd nd g.nd fun q hq => ?_
    rcases g.new q hq with y | y
    · exact .inl y
    · exact .inr ⟨fun z => not_in hp y (mX q z), by simp⟩
/-- a new round behind the others; k: the list of rounds alone is written -/
theorem st_round {x : RL} {H1 : Hp} (h : StIs CB CR CK H s) (nd : s.foot.Nodup) (hx : RoundIs CB H1 x) (s1 : Same H H1) (fr : ∀ q ∈ x.foot, H q = none) (ndx : x.foot.Nodup) (k : Keep [s.pr] H1 H') (e : H' s.pr = some (.lst ((s.rounds ++ [x]).map fun r => V.ref r.p))) :
    StIs CB CR CK H' { s with rounds := s.rounds ++ [x] } ∧ Goes s.foot (SL.foot { s with rounds := s.rounds ++ [x] }) H H' := by
  have hp := h.plain
  have nf : ∀ q ∈ x.foot, q ∉ s.foot := fun q hq => not_in hp (fr q hq)
  have ef : s.foot = s.a :: s.pr :: s.pw :: (s.rounds.flatMap RL.foot ++ s.rows.flatMap WL.foot) := rfl
  have nd' := nd
  rw [ef] at nd'
  have ndp : ∀ q ∈ s.a :: s.pw :: (s.rounds.flatMap RL.foot ++ s.rows.flatMap WL.foot), q ≠ s.pr := fun q hq z => by
    simp only [List.nodup_cons, List.mem_cons, not_or] at nd'
    rcases List.mem_cons.mp hq with y | y
    · exact nd'.1.1 (y.symm.trans z)
    · rcases List.mem_cons.mp y with y | y
      · exact nd'.2.1.1 (z.symm.trans y)
      · rw [z] at y
        exact nd'.2.1.2 y
  have h1 := h.same s1
  refine ⟨⟨?_, e, ?_, fun y hy => ?_, fun y hy => ?_⟩, ⟨fun q o hq n => ?_, fun q hq => ?_, ?_⟩⟩
  · exact k _ _ h1.obj fun z => ndp _ (by simp) (List.mem_singleton.mp z)
  · exact k _ _ h1.w fun z => ndp _ (by simp) (List.mem_singleton.mp z)
  · have hy' : y ∈ s.rounds ++ [x] := hy
    rcases List.mem_append.mp hy' with z | z
    · exact (h1.rd y z).keep k fun q hq w => ndp q (by
        simp only [List.mem_cons, List.mem_append, List.mem_flatMap]
        exact .inr (.inr (.inl ⟨y, z, hq⟩))) (List.mem_singleton.mp w)
    · rw [List.mem_singleton.mp z]
      exact hx.keep k fun q hq w => nf q hq (by rw [List.mem_singleton.mp w, ef]; simp)
  · exact (h1.rw_ y hy).keep k fun q hq w => ndp q (by
      simp only [List.mem_cons, List.mem_append, List.mem_flatMap]
      exact .inr (.inr (.inr ⟨y, hy, hq⟩))) (List.mem_singleton.mp w)
  · exact k q o (s1 q o hq) fun z => n (by rw [List.mem_singleton.mp z, ef]; simp)
  · unfold SL.foot at hq
    simp only [List.flatMap_append, List.mem_cons, List.mem_append, List.flatMap_cons, List.flatMap_nil, List.append_nil] at hq
    rw [ef]
    simp only [List.mem_cons, List.mem_append]
    rcases hq with z | z | z | (z | z) | z
    · exact .inl (.inl z)
    · exact .inl (.inr (.inl z))
    · exact .inl (.inr (.inr (.inl z)))
    · exact .inl (.inr (.inr (.inr (.inl z))))
    · exact .inr (fr q z)
    · exact .inl (.inr (.inr (.inr (.inr z))))
  · have e1 : SL.foot { s with rounds := s.rounds ++ [x] } = (s.a :: s.pr :: s.pw :: s.rounds.flatMap RL.foot) ++ (x.foot ++ s.rows.flatMap WL.foot) := by
      unfold SL.foot
      simp [List.flatMap_append]
    have e2 : s.foot = (s.a :: s.pr :: s.pw :: s.rounds.flatMap RL.foot) ++ ([] ++ s.rows.flatMap WL.foot) := by
      rw [ef]
      simp
    rw [e1]
    rw [e2] at nd
    refine swap_nd nd ndx fun q hq => .inr ⟨fun z => nf q hq ?_, fun z => nf q hq ?_⟩
    · rw [e2]
      exact List.mem_append_left _ z
    · rw [e2]
      simp [z]
/-- the rows stand (there was none): their list is new, the class's object bears it -/
theorem st_rows {ws : List WL} {H1 : Hp} {pw : Addr} (h : StIs CB CR CK H s) (nd : s.foot.Nodup) (e0 : s.rows = []) (hw : ∀ x ∈ ws, RowIs CB CR H1 x) (s1 : Same H H1) (fr : ∀ q ∈ pw :: ws.flatMap WL.foot, H q = none) (ndx : (pw :: ws.flatMap WL.foot).Nodup)
    (f1 : H1 pw = some (.lst (ws.map fun r => V.ref r.a))) (k : Keep [s.a] H1 H') (e : H' s.a = some (.ins CK s.d (sF s.n s.pr pw))) :
    StIs CB CR CK H' { s with pw := pw, rows := ws } ∧ Goes s.foot (SL.foot { s with pw := pw, rows := ws }) H H' := by
  have hp := h.plain
  have nf : ∀ q ∈ pw :: ws.flatMap WL.foot, q ∉ s.foot := fun q hq => not_in hp (fr q hq)
  have ef : s.foot = s.a :: s.pr :: s.pw :: (s.rounds.flatMap RL.foot ++ s.rows.flatMap WL.foot) := rfl
  have nd' := nd
  rw [ef, e0] at nd'
  have nda : ∀ q ∈ s.pr :: s.rounds.flatMap RL.foot, q ≠ s.a := fun q hq z => by
    simp only [List.nodup_cons, List.mem_cons, not_or, List.flatMap_nil, List.append_nil] at nd'
    rcases List.mem_cons.mp hq with y | y
    · exact nd'.1.1 (z.symm.trans y)
    · rw [z] at y
      exact nd'.1.2.2 y
  have nna : ∀ q ∈ pw :: ws.flatMap WL.foot, q ≠ s.a := fun q hq z => nf q hq (by rw [z, ef]; simp)
  have h1 := h.same s1
  refine ⟨⟨e, ?_, ?_, fun y hy => ?_, fun y hy => ?_⟩, ⟨fun q o hq n => ?_, fun q hq => ?_, ?_⟩⟩
  · exact k _ _ h1.l fun z => nda _ (by simp) (List.mem_singleton.mp z)
  · exact k _ _ f1 fun z => nna _ (by simp) (List.mem_singleton.mp z)
  · exact (h1.rd y hy).keep k fun q hq w => nda q (by
      simp only [List.mem_cons, List.mem_flatMap]
      exact .inr ⟨y, hy, hq⟩) (List.mem_singleton.mp w)
  · exact (hw y hy).keep k fun q hq w => nna q (by
      simp only [List.mem_cons, List.mem_flatMap]
      exact .inr ⟨y, hy, hq⟩) (List.mem_singleton.mp w)
  · exact k q o (s1 q o hq) fun z => n (by rw [List.mem_singleton.mp z, ef]; simp)
  · unfold SL.foot at hq
    simp only [List.mem_cons, List.mem_append] at hq
    rw [ef]
    simp only [List.mem_cons, List.mem_append]
    rcases hq with z | z | z | z | z
    · exact .inl (.inl z)
    · exact .inl (.inr (.inl z))
    · exact .inr (fr q (by simp [z]))
    · exact .inl (.inr (.inr (.inr (.inl z))))
    · exact .inr (fr q (List.mem_cons_of_mem _ z))
  · unfold SL.foot
    rw [List.nodup_cons] at ndx
    simp only [List.nodup_cons, List.mem_cons, not_or, List.flatMap_nil, List.append_nil] at nd'
    simp only [List.nodup_cons, List.mem_cons, not_or, List.mem_append, List.nodup_append]
    have a0 := nna pw (by simp)
    have m1 : ∀ q ∈ ws.flatMap WL.foot, q ∈ pw :: ws.flatMap WL.foot := fun q hq => List.mem_cons_of_mem _ hq
    have p2 : pw ∉ s.foot := nf pw (by simp)
    have fm : ∀ q ∈ s.rounds.flatMap RL.foot, q ∈ s.foot := fun q hq => by rw [ef]; simp [hq]
    refine ⟨⟨nd'.1.1, fun z => a0 z.symm, nd'.1.2.2, fun z => nna _ (m1 _ z) rfl⟩, ⟨fun z => p2 (by rw [ef]; simp [← z]), nd'.2.1.2, fun z => nf _ (m1 _ z) (by rw [ef]; simp)⟩, ⟨fun z => p2 (fm _ z), ndx.1⟩, nd'.2.2.2, ndx.2, fun a ha b hb z => nf b (m1 _ hb) (fm _ (by rw [← z]; exact ha))⟩
end
end Wm
/-! # A row goes on; a row begins -/
namespace Wm
open PySem PySem.Spec PyProof.Rows L2
/-! ### slices -/
theorem cut_from (xs : List V) (k : Nat) : cutV xs (some (k : Int)) none = xs.drop k := by
  unfold cutV
  rw [HT.sIx_nat, HT.sIx_none]
  rcases Nat.le_total k xs.length with h | h
  · rw [Nat.min_eq_left h]
    exact List.take_of_length_le (by rw [List.length_drop]; omega)
  · rw [Nat.min_eq_right h]
    simp [h]
theorem cut_init (xs : List V) : cutV xs none (some (-1)) = xs.dropLast := by
  unfold cutV
  rw [HT.sIx_none]
  have e : HT.sIx xs.length xs.length (some (-1)) = xs.length - 1 := by
    show (if (-1 : Int) < 0 then ((-1 : Int) + (xs.length : Int)).toNat else min (-1 : Int).toNat xs.length) = _
    rw [if_pos (by decide)]
    omega
  rw [e, List.drop_zero, Nat.sub_zero, List.dropLast_eq_take]
/-! ### what is well of a bout, of a row -/
structure WfX (b : Kg66.Bout) : Prop where
  wf : WfB b
  two : b.won = none → b.b.isSome = true
  win : ∀ u h, b.won = some (u, h) → b.winner.isSome = true
  lose : ∀ u h, b.won = some (u, h) → (h = 5 ↔ b.loser = none)
theorem wfX_fresh (a : Nat) (ob : Option Nat) : WfX (Kg66.fresh (some a) ob) := by
  cases ob with
  | none =>
    refine ⟨⟨(fun x hx => nomatch hx), (by show 0 ≤ 100; omega), ?_, rfl⟩, ?_, ?_, ?_⟩
    · intro u h e
      have z : (0, 5) = (u, h) := Option.some.inj e
      cases z
      omega
    · intro e
      cases e
    · intro u h e
      rfl
    · intro u h e
      have z : (0, 5) = (u, h) := Option.some.inj e
      cases z
      exact ⟨fun _ => rfl, fun _ => rfl⟩
  | some n =>
    refine ⟨⟨(fun x hx => nomatch hx), (by show 0 ≤ 100; omega), ?_, rfl⟩, (fun _ => rfl), ?_, ?_⟩
    all_goals
      intro u h e
      cases e
structure WfR (r : Kg66.Row) : Prop where
  bt : ∀ b ∈ r.bouts, WfX b
  ne : r.waits ≠ [] → r.bouts ≠ []
  sz : r.bouts.length + r.waits.length ≤ 200
theorem snoc_of {al : Type} {l : List al} (h : l ≠ []) : ∃ L x, l = L ++ [x] := ⟨l.dropLast, l.getLast h, (List.dropLast_concat_getLast h).symm⟩
theorem rowNext_eq {B : List Kg66.Bout} {b : Kg66.Bout} {u w : Nat} {l : List Nat} (h : b.winner = some u) : (Kg66.Row.mk (B ++ [b]) (w :: l)).next = ⟨B ++ [b] ++ [Kg66.fresh (some u) (some w)], l⟩ := by
  unfold Kg66.Row.next
  simp [h]
theorem rowNext_id {r : Kg66.Row} (h : r.waits = [] ∨ ∃ B b, r.bouts = B ++ [b] ∧ b.winner = none) : r.next = r := by
  rcases h with h | ⟨B, b, h, e⟩
  · unfold Kg66.Row.next
    rw [h]
    cases r.bouts.getLast? <;> rfl
  · unfold Kg66.Row.next
    rw [h]
    cases r.waits with
    | nil => simp
    | cons w l => simp [e]
section
variable {P : Program} {w : World} {K : PySem.W.Frag} {mg : Str → Option Value} {base : Heap} {A : Ads}
theorem WL.apart {CB CR : Addr} {H : Hp} {r : WL} (h : RowIs CB CR H r) (nd : r.foot.Nodup) : r.a ≠ r.pb ∧ r.a ≠ r.pw ∧ r.pb ≠ r.pw ∧ (∀ q ∈ r.bs.flatMap BL.foot, q ≠ r.a ∧ q ≠ r.pb ∧ q ≠ r.pw) := by
  unfold WL.foot at nd
  simp only [List.nodup_cons, List.mem_cons, not_or] at nd
  exact ⟨nd.1.1, nd.1.2.1, nd.2.1.1, fun q hq => ⟨fun z => nd.1.2.2 (z ▸ hq), fun z => nd.2.1.2 (z ▸ hq), fun z => nd.2.2.1 (z ▸ hq)⟩⟩
def sp_row_goes_on (K : PySem.W.Frag) (A : Ads) : Sp := fun vs H Q _ => ∃ (r : WL), vs = [.ref r.a] ∧ RowIs A.CB A.CR H r ∧ WfR r.abs ∧ r.foot.Nodup ∧
  ∀ (H' : Hp) (r' : WL), RowIs A.CB A.CR H' r' → r'.a = r.a → r'.abs = r.abs.next → Goes r.foot r'.foot H H' → Q .non H'
theorem ok_row_goes_on (T : Txt K mg A) (D_begun_bout : Own P w K mg base CX0 3 "begun_bout" Pbegun_bout (sp_begun_bout K A)) (D_who_won : Own P w K mg base CX0 1 "who_won" Pwho_won (sp_who_won K A)) {f : Addr} {fd : FuncData} (F : Fun K "row_goes_on" "row_goes_on" srow_goes_on f fd) : FnOk P w K mg base CX0 4 f fd Prow_goes_on (sp_row_goes_on K A) := by
  refine F.ok scrow_goes_on (fun vs H Q E h => ?_) (fun cdv Ar outer s H vs Q E hr h => ⟨_, (pss_one (ps_if (PW.pt (pw_and (pt_cmpR op_gt (pe_callB call_len_seq rfl T.len (by decide +kernel) (by exact (pa_cons (pe_fld (pv 0) rfl) pa_nil))) pe_int (nomark _)) (pw_and1 (pt_cmpR op_ne (pe_fld (pe_ix ix_list (pe_fld (pv 0) rfl) (pe_un un_neg pe_int) (fun _ _ => rfl)) rfl) (pe_gl T.gNOBODY) (nomark _))))) (pss_cons (ps_expr (pe_bm PySem.F.plainAttrs_list PySem.F.slot_list_append PySem.F.type_list_append mt_append (pe_fld (pv 0) rfl) (by exact (pa_cons (pe_own D_begun_bout (hr.mono (by decide)) (by exact (pa_cons (pe_own D_who_won (hr.mono (by decide)) (by exact (pa_cons (pe_ix ix_list (pe_fld (pv 0) rfl) (pe_un un_neg pe_int) (fun _ _ => rfl)) pa_nil))) (pa_cons (pe_ix ix_list (pe_fld (pv 0) rfl) pe_int (fun _ _ => rfl)) pa_nil)))) pa_nil))))
      (pss_one (ps_fld (pv 0) (pe_slice sl_list (pe_fld (pv 0) rfl) (po_some pe_int) po_none) rfl))) pss_nil)), ?_⟩)
  · obtain ⟨_, rfl, _⟩ := h
    rfl
  obtain ⟨r, rfl, hr', wf, nd, k⟩ := h
  refine ⟨_, rfl, r.a, A.CR, r.d, _, _, rfl, hr'.obj, T.clCR, T.nCR_waiting, rF_w, ?_⟩
  refine ⟨r.pw, _, rfl, .inl (SqL.of hr'.w), _, _, rfl, rfl, _, rfl, if_d (fun h1 => ?_) (fun h1 => ?_)⟩
  · have hne : r.ws ≠ [] := fun z => by
      rw [List.length_map, z] at h1
      exact absurd h1 (by decide)
    obtain ⟨wn, wl, ews⟩ : ∃ wn wl, r.ws = wn :: wl := by
      cases e : r.ws with
      | nil => exact absurd e hne
      | cons a l => exact ⟨a, l, rfl⟩
    have hbne : r.bs ≠ [] := fun z => by
      have q := wf.ne (by show r.ws ≠ []; exact hne)
      refine q ?_
      show r.bs.map BL.b = []
      rw [z]
      rfl
    obtain ⟨L, x, ebs⟩ := snoc_of hbne
    have hl := hr'.l
    rw [ebs, List.map_append] at hl
    have hw' := hr'.w
    rw [ews, List.map_cons] at hw'
    have hx : x ∈ r.bs := by rw [ebs]; simp
    have hbx := hr'.at_ x hx
    have wfx : WfX x.b := wf.bt x.b (List.mem_map.mpr ⟨x, hx, rfl⟩)
    refine ⟨_, rfl, r.a, A.CR, r.d, _, _, rfl, hr'.obj, T.clCR, T.nCR_bouts, rF_b, 1, rfl, r.pb, _, -1, _, rfl, rfl, SqL.of hl, atI_last _ _, ?_⟩
    refine ⟨x.a, A.CB, x.d, _, _, rfl, hbx.obj, T.clCB, T.nCB_winner, bF_wi, rfl, _, rfl, if_nd (fun h2 => ?_) (fun h2 => ?_)⟩
    · obtain ⟨u, hw2, e⟩ := (won_cases x.b).resolve_left fun z => h2 (wonI_iff.mpr z)
      obtain ⟨un, eu⟩ := Option.isSome_iff_exists.mp (wfx.win u hw2 e)
      refine ⟨_, rfl, r.a, A.CR, r.d, _, _, rfl, hr'.obj, T.clCR, T.nCR_bouts, rF_b, .inl ⟨rfl, _, SqL.of hl⟩, ?_⟩
      refine ⟨_, rfl, r.a, A.CR, r.d, _, _, rfl, hr'.obj, T.clCR, T.nCR_bouts, rF_b, 1, rfl, r.pb, _, -1, _, rfl, rfl, SqL.of hl, atI_last _ _, x, rfl, hbx, wfx.wf, ?_⟩
      rw [eu]
      refine ⟨_, rfl, r.a, A.CR, r.d, _, _, rfl, hr'.obj, T.clCR, T.nCR_waiting, rF_w, r.pw, _, 0, _, rfl, rfl, SqL.of hw', atI_nat (j := 0) rfl, ?_⟩
      refine ⟨un, some wn, rfl, fun H1 y hby ey s1 fr ndy => ?_⟩
      have hr1 := hr'.same s1
      have big : (1000 : Nat) < sizeLine := by decide
      refine ⟨r.pb, _, _, rfl, rfl, s1 _ _ hl, ?_, ?_⟩
      · have z := wf.sz
        have e1 : r.abs.bouts.length = L.length + 1 := by
          show (r.bs.map BL.b).length = _
          rw [ebs]
          simp
        simp only [List.length_append, List.length_map, List.length_singleton, List.length_cons, List.length_nil]
        omega
      generalize e2 : upd H1 r.pb _ = H2
      have k2 : Keep [r.pb] H1 H2 := e2 ▸ Keep.set (by simp)
      have f2 : H2 r.pb = some (.lst ((r.bs ++ [y]).map fun x => V.ref x.a)) := by
        rw [← e2, upd_same, ebs]
        simp
      obtain ⟨a1, a2, a3, a4⟩ := WL.apart hr' nd
      have o2 := k2 _ _ hr1.obj (by simpa using a1)
      have w2 := k2 _ _ (s1 _ _ hw') (by simpa using fun z => a3 z.symm)
      refine ⟨_, rfl, r.a, A.CR, r.d, _, _, rfl, o2, T.clCR, T.nCR_waiting, rF_w, 1, rfl, r.pw, _, rfl, SqL.of w2, fun pn hpn => ?_⟩
      generalize e3 : upd H2 pn _ = H3
      have s3 : Same H2 H3 := e3 ▸ same_new hpn
      have f3 : H3 pn = some (.lst (wl.map fun n => V.int (n : Nat))) := by
        rw [← e3, upd_same]
        exact congrArg (fun z => some (HO.lst z)) (cut_from _ 1)
      refine ⟨_, rfl, r.a, A.CR, r.d, _, rfl, s3 _ _ o2, T.clCR, T.nCR_waiting, (by show 2 < 1000; decide), ?_⟩
      rw [rF_pw]
      generalize e4 : upd H3 r.a _ = H4
      have k4 : Keep [r.a] H3 H4 := e4 ▸ Keep.set (by simp)
      have f4 : H4 r.a = some (.ins A.CR r.d (rF r.pb pn)) := e4 ▸ upd_same
      have np : r.pb ≠ pn := ne_of_none f2 hpn
      have hpn1 : H1 pn = none := by
        rw [← hpn, ← e2, upd_ne (fun z => np z.symm)]
      have hpn0 : H pn = none := s1.free hpn1
      have frn : pn ∉ r.foot := not_in hr'.plain hpn0
      have frf : ∀ q ∈ y.foot, q ∉ r.foot := fun q hq => not_in hr'.plain (fr q hq)
      have npy : ∀ q ∈ y.foot, q ≠ pn := fun q hq z => by
        obtain ⟨o, ho, _⟩ := hby.plain q hq
        rw [z, hpn1] at ho
        cases ho
      have mem : ∀ q ∈ r.bs.flatMap BL.foot, q ∈ r.foot := fun q hq => by
        unfold WL.foot
        simp only [List.mem_cons]
        exact .inr (.inr (.inr hq))
      have mpb : r.pb ∈ r.foot := by simp [WL.foot]
      have ma : r.a ∈ r.foot := by simp [WL.foot]
      have npa : pn ≠ r.a := fun z => frn (z ▸ ma)
      refine k H4 ⟨r.a, r.d, r.pb, pn, r.bs ++ [y], wl⟩ ⟨f4, ?_, ?_, fun z hz => ?_⟩ rfl ?_ ⟨fun q o hq hn => ?_, fun q hq => ?_, ?_⟩
      · exact k4 _ _ (s3 _ _ f2) (by simpa using fun z => a1 z.symm)
      · exact k4 _ _ f3 (by simpa using npa)
      · rcases List.mem_append.mp hz with z' | z'
        · have fm : ∀ q ∈ z.foot, q ∈ r.bs.flatMap BL.foot := fun q hq => List.mem_flatMap.mpr ⟨z, z', hq⟩
          exact ((((hr1.at_ z z').keep k2 fun q hq t => (a4 q (fm q hq)).2.1 (List.mem_singleton.mp t)).same s3).keep k4 fun q hq t => (a4 q (fm q hq)).1 (List.mem_singleton.mp t))
        · rw [List.mem_singleton.mp z']
          exact (((hby.keep k2 fun q hq t => frf q hq (List.mem_singleton.mp t ▸ mpb)).same s3).keep k4 fun q hq t => frf q hq (List.mem_singleton.mp t ▸ ma))
      · unfold WL.abs
        rw [ews, ebs]
        simp only [List.map_append]
        refine Eq.symm ((rowNext_eq (B := L.map BL.b) (b := x.b) eu).trans ?_)
        simp [ey]
      · exact k4 _ _ (s3 _ _ (k2 _ _ (s1 _ _ hq) fun t => hn (List.mem_singleton.mp t ▸ mpb))) fun t => hn (List.mem_singleton.mp t ▸ ma)
      · unfold WL.foot at hq
        simp only [List.mem_cons, List.flatMap_append, List.mem_append, List.flatMap_cons, List.flatMap_nil, List.append_nil] at hq
        rcases hq with z | z | z | z | z
        · exact .inl (z ▸ ma)
        · exact .inl (z ▸ mpb)
        · exact .inr (z ▸ hpn0)
        · exact .inl (mem q z)
        · exact .inr (fr q z)
      · unfold WL.foot
        rw [List.flatMap_append]
        have nd' := nd
        unfold WL.foot at nd'
        simp only [List.nodup_cons, List.mem_cons, not_or] at nd'
        simp only [List.nodup_cons, List.mem_cons, not_or, List.mem_append, List.nodup_append, List.flatMap_cons, List.flatMap_nil, List.append_nil]
        refine ⟨⟨nd'.1.1, fun z => npa z.symm, nd'.1.2.2, fun z => frf _ z ma⟩, ⟨np, nd'.2.1.2, fun z => frf _ z mpb⟩, ⟨fun z => frn (mem _ z), fun z => npy _ z rfl⟩, nd'.2.2.2, ndy, fun a ha b hb z => frf b hb (mem _ (z ▸ ha))⟩
    · have e0 := wonI_iff.mp h2
      refine k H r hr' rfl ?_ (Goes.refl nd)
      refine (rowNext_id (.inr ⟨L.map BL.b, x.b, ?_, winner_none e0⟩)).symm
      unfold WL.abs
      rw [ebs, List.map_append]
      rfl
  · have e0 : r.ws = [] := by
      cases e : r.ws with
      | nil => rfl
      | cons a l =>
        refine absurd ?_ h1
        rw [e, List.length_map, List.length_cons]
        omega
    exact k H r hr' rfl (rowNext_id (.inl e0)).symm (Goes.refl nd)
/-! ### a row begins -/
def beatenL (rs : List (List Kg66.Bout)) (f : Nat) : List Nat := rs.flatMap fun r => r.filterMap fun b => if b.winner = some f then b.loser else none
def pBeat (f : Nat) (y : BL) : Bool := decide (y.b.winner = some f) && y.b.loser.isSome
theorem beaten_one (f : Nat) : ∀ (bs : List BL), ((bs.filter (pBeat f)).map fun y => V.int (Kg66.opt y.b.loser)) = ((bs.map BL.b).filterMap fun b => if b.winner = some f then b.loser else none).map fun n => V.int (n : Nat)
  | [] => rfl
  | y :: r => by
    have ih := beaten_one f r
    rw [List.map_cons, List.filter_cons, List.filterMap_cons]
    by_cases h : y.b.winner = some f
    · rw [if_pos h]
      cases e : y.b.loser with
      | none =>
        have z : pBeat f y = false := by simp [pBeat, e]
        rw [z, if_neg Bool.false_ne_true]
        exact ih
      | some n =>
        have z : pBeat f y = true := by simp [pBeat, e, h]
        rw [if_pos z, List.map_cons, ih, e]
        rfl
    · have z : pBeat f y = false := by simp [pBeat, h]
      rw [if_neg h, z, if_neg Bool.false_ne_true]
      exact ih
theorem filterMap_le {al be : Type} (g : al → Option be) (l : List al) : (l.filterMap g).length ≤ l.length := by
  induction l with
  | nil => exact Nat.le_refl _
  | cons a r ih =>
    rw [List.filterMap_cons, List.length_cons]
    cases g a with
    | none => exact Nat.le_succ_of_le ih
    | some b => simpa using ih
theorem beatenL_le {f c : Nat} : ∀ (rs : List (List Kg66.Bout)), (∀ r ∈ rs, r.length ≤ c) → (beatenL rs f).length ≤ rs.length * c
  | [], _ => Nat.zero_le _
  | r :: rs, h => by
    have ih := beatenL_le (f := f) rs fun x hx => h x (List.mem_cons_of_mem _ hx)
    have h1 := h r List.mem_cons_self
    have h2 := filterMap_le (fun b : Kg66.Bout => if b.winner = some f then b.loser else none) r
    unfold beatenL at *
    rw [List.flatMap_cons, List.length_append, List.length_cons, Nat.succ_mul]
    omega
theorem beatenL_snoc (rs : List (List Kg66.Bout)) (r : List Kg66.Bout) (f : Nat) : beatenL (rs ++ [r]) f = beatenL rs f ++ r.filterMap fun b => if b.winner = some f then b.loser else none := by
  unfold beatenL
  rw [List.flatMap_append]
  simp
def sp_row_of (K : PySem.W.Frag) (A : Ads) : Sp := fun vs H Q _ => ∃ (s : SL) (f : Nat), vs = [.ref s.a, .int (f : Nat)] ∧ StIs A.CB A.CR A.CK H s ∧ (∀ r ∈ s.rounds, ∀ x ∈ r.bs, WfX x.b) ∧ s.rounds.length ≤ 6 ∧ (∀ r ∈ s.rounds, r.bs.length ≤ 16) ∧
  ∀ (H' : Hp) (r' : WL), RowIs A.CB A.CR H' r' → r'.abs = Kg66.rowOf (beatenL (s.rounds.dropLast.map RL.abs) f) → Same H H' → (∀ q ∈ r'.foot, H q = none) → r'.foot.Nodup → Q (.ref r'.a) H'
theorem ok_row_of (T : Txt K mg A) (D_Row : OwnC P w K mg base A.CR 1 "Row" PRow_init (sp_Row_init K A)) (D_begun_bout : Own P w K mg base CX0 3 "begun_bout" Pbegun_bout (sp_begun_bout K A)) (D_who_lost : Own P w K mg base CX0 1 "who_lost" Pwho_lost (sp_who_lost K A)) (D_who_won : Own P w K mg base CX0 1 "who_won" Pwho_won (sp_who_won K A)) {f : Addr} {fd : FuncData} (F : Fun K "row_of" "row_of" srow_of f fd) : FnOk P w K mg base CX0 4 f fd Prow_of (sp_row_of K A) := by
  refine F.ok scrow_of (fun vs H Q E h => ?_) (fun cdv Ar outer s H vs Q E hr h => ⟨_, (pss_cons (ps_set (i := 2) scrow_of.nd rfl (Or.inl rfl) (pe_lst pa_nil))
      (pss_cons (ps_for PassesOwn.never rfl (pi_list (pe_slice sl_list (pe_fld (pv 0) rfl) po_none (po_some (pe_un un_neg pe_int)))) (pg_name (i := 3) scrow_of.nd rfl (Or.inl rfl)) (pss_one (ps_expr (pe_bm PySem.F.plainAttrs_list PySem.F.slot_list_extend PySem.F.type_list_extend mt_extend (pv 2) (by exact (pa_cons (pe_lc (own := [("bout", 5)]) (g := gName 5) (tt := (tAnd (tTest (tOp rEq (tCall (sp_who_won K A) [] E0 (tCons (tVar 5) tNil)) (tVar 1))) (tTest (tOp rNe (tFld K (tVar 5) "how") (tC (.int 5)))))) (te := (tCall (sp_who_lost K A) [] E0 (tCons (tVar 5) tNil))) rfl scrow_of.nd (pi_list (pv 3)) (blkOk_by (own := [("bout", 5)]) (N := Nrow_of) (sc := defScope srow_of) (by decide +kernel)) (fun _ _ _ _ _ => by exact ((pg_name (i := 5) scrow_of.nd rfl (Or.inl rfl)))) (fun _ _ _ _ _ => by exact (pts_one (PW.pt (pw_and (pt_cmpR op_eq (pe_own D_who_won (hr.mono (by decide)) (by exact (pa_cons (pv 5) pa_nil))) (pv 1) (nomark _)) (pw_and1 (pt_cmpR op_ne (pe_fld (pv 5) rfl) (pe_gl T.gUNFOUGHT) (nomark _))))))) (fun _ _ _ _ _ => by exact ((pe_own D_who_lost (hr.mono (by decide)) (by exact (pa_cons (pv 5) pa_nil)))))) pa_nil))))))
      (pss_cons (ps_set (i := 4) scrow_of.nd rfl (Or.inl rfl) (pe_new D_Row (hr.mono (by decide)) (by exact (pa_cons (pv 2) pa_nil))))
      (pss_cons (ps_if (pt_cmpR op_gt (pe_callB call_len_seq rfl T.len (by decide +kernel) (by exact (pa_cons (pv 2) pa_nil))) pe_int (nomark _)) (pss_cons (ps_expr (pe_bm PySem.F.plainAttrs_list PySem.F.slot_list_append PySem.F.type_list_append mt_append (pe_fld (pv 4) rfl) (by exact (pa_cons (pe_own D_begun_bout (hr.mono (by decide)) (by exact (pa_cons (pe_ix ix_list (pv 2) pe_int (fun _ _ => rfl)) (pa_cons (pe_ifExp (pt_cmpR op_gt (pe_callB call_len_seq rfl T.len (by decide +kernel) (by exact (pa_cons (pv 2) pa_nil))) pe_int (nomark _)) (pe_ix ix_list (pv 2) pe_int (fun _ _ => rfl)) (pe_gl T.gNOBODY)) pa_nil)))) pa_nil))))
      (pss_one (ps_fld (pv 4) (pe_slice sl_list (pv 2) (po_some pe_int) po_none) rfl))) pss_nil)
      (pss_one (ps_ret (pv 4))))))), ?_⟩)
  · obtain ⟨_, _, rfl, _⟩ := h
    rfl
  obtain ⟨s, f, rfl, hs, wf, h6, h16, k⟩ := h
  have big : (1000 : Nat) < sizeLine := by decide
  refine ⟨Nat.zero_le _, fun pb hpb => ?_⟩
  generalize e1 : upd H pb _ = H1
  have s1 : Same H H1 := e1 ▸ same_new hpb
  have f1 : H1 pb = some (.lst []) := e1 ▸ upd_same
  refine ⟨_, rfl, s.a, A.CK, s.d, _, _, rfl, s1 _ _ hs.obj, T.clCK, T.nCK_rounds, sF_r, 1, rfl, -1, rfl, s.pr, _, rfl, SqL.of (s1 _ _ hs.l), fun pl hpl => ?_⟩
  generalize e2 : upd H1 pl _ = H2
  have s2 : Same H1 H2 := e2 ▸ same_new hpl
  have f2 : H2 pl = some (.lst (s.rounds.dropLast.map fun r => V.ref r.p)) := by
    rw [← e2, upd_same, cut_init, List.map_dropLast]
  have g2 := s2 _ _ f1
  have s02 := s1.trans s2
  have npl : pl ≠ pb := (ne_of_none f1 hpl).symm
  refine ⟨pl, rfl, ⟨_, SqL.of f2⟩, for_list (K := K) (a := pl) (xs := s.rounds.dropLast.map fun r => V.ref r.p) (fun i σ H' => ∃ v : Option V, σ = [some (.ref s.a), some (.int (f : Nat)), some (.ref pb), v, none, none] ∧ Same H H' ∧ H' pl = some (.lst (s.rounds.dropLast.map fun r => V.ref r.p)) ∧
    H' pb = some (.lst ((beatenL ((s.rounds.dropLast.take i).map RL.abs) f).map fun n => V.int (n : Nat)))) ⟨none, rfl, s02, f2, g2⟩ (fun i σ H' _ ⟨_, _, _, q, _⟩ => SqL.of q) ?_ ?_⟩
  · rintro i y σ H3 hy ⟨v, rfl, s3, p3, f3⟩
    rw [List.getElem?_map] at hy
    obtain ⟨r, hr', rfl⟩ : ∃ r, s.rounds.dropLast[i]? = some r ∧ y = V.ref r.p := by
      cases ex : s.rounds.dropLast[i]? with
      | none =>
        rw [ex] at hy
        cases hy
      | some x =>
        rw [ex] at hy
        exact ⟨x, rfl, (Option.some.inj hy).symm⟩
    have hrm : r ∈ s.rounds := List.dropLast_subset _ (List.mem_of_getElem? hr')
    have hil := (List.getElem?_eq_some_iff.mp hr').1
    have hri := (List.getElem?_eq_some_iff.mp hr').2
    have hr3 := (hs.rd r hrm).same s3
    refine ⟨_, rfl, .inl ⟨rfl, _, SqL.of f3⟩, ?_⟩
    refine ⟨_, rfl, r.p, rfl, ⟨_, SqL.of hr3.l⟩, fun D hD => ?_⟩
    refine lc_fun (K := K) (a := r.p) (as := r.bs) (pBeat f) (fun y => .int (Kg66.opt y.b.loser)) hD (SqL.of hr3.l) (by rw [List.length_map]) (by have := h16 r hrm; omega) (fun j v y H4 hv hy hm s4 Y Z hY hZ => ?_) fun H4 s4 e4 => ?_
    · have ev : v = .ref y.a := by
        rw [List.getElem?_map, hy] at hv
        exact (Option.some.inj hv).symm
      subst ev
      have hb4 := (hr3.at_ y hm).same s4
      have wfy := wf r hrm y hm
      refine ⟨rfl, ?_⟩
      refine ⟨_, rfl, y, rfl, hb4, wfy.wf, _, rfl, rfl, _, rfl, if_d (fun h1 => ?_) (fun h1 => ?_)⟩
      · have ew : y.b.winner = some f := by
          have z := V.int.inj h1
          cases e : y.b.winner with
          | none =>
            rw [e] at z
            have z' : (-1 : Int) = (f : Nat) := z
            omega
          | some m =>
            rw [e] at z
            have z' : ((m : Nat) : Int) = (f : Nat) := z
            exact congrArg some (by omega)
        obtain ⟨u, hw, e⟩ := (won_cases y.b).resolve_left fun z => by rw [winner_none z] at ew; cases ew
        refine ⟨_, rfl, y.a, A.CB, y.d, _, _, rfl, hb4.obj, T.clCB, T.nCB_how, bF_ho, rfl, _, rfl, if_nd (fun h2 => ?_) (fun h2 => ?_)⟩
        · rw [howI_some e] at h2
          have n5 : ¬ hw = 5 := fun z => h2 (by rw [z]; rfl)
          have el : y.b.loser ≠ none := fun z => n5 ((wfy.lose u hw e).mpr z)
          refine ⟨_, rfl, y, rfl, hb4, wfy.wf, hY ?_ H4 (Same.refl _)⟩
          simp [pBeat, ew, Option.isSome_iff_ne_none, el]
        · rw [howI_some e] at h2
          have n5 : hw = 5 := by have z := V.int.inj h2; omega
          have el := (wfy.lose u hw e).mp n5
          exact hZ (by simp [pBeat, el]) H4 (Same.refl _)
      · have ew : ¬ y.b.winner = some f := fun z => h1 (by rw [z]; rfl)
        exact hZ (by simp [pBeat, ew]) H4 (Same.refl _)
    · rw [beaten_one] at e4
      have f4 := s4 _ _ f3
      have lim : ∀ i, (beatenL ((s.rounds.dropLast.take i).map RL.abs) f).length ≤ 96 := fun i => by
        refine Nat.le_trans (beatenL_le (c := 16) _ fun r hr => ?_) ?_
        · obtain ⟨r0, h0, rfl⟩ := List.mem_map.mp hr
          show (r0.bs.map BL.b).length ≤ 16
          rw [List.length_map]
          exact h16 r0 (List.dropLast_subset _ (List.mem_of_mem_take h0))
        · simp only [List.length_map, List.length_take, List.length_dropLast]
          omega
      have et : beatenL ((s.rounds.dropLast.take (i + 1)).map RL.abs) f = beatenL ((s.rounds.dropLast.take i).map RL.abs) f ++ (r.bs.map BL.b).filterMap fun b => if b.winner = some f then b.loser else none := by
        rw [List.take_succ_eq_append_getElem hil, hri, List.map_append]
        exact beatenL_snoc _ _ _
      have nDb : D ≠ pb := (ne_of_none f3 hD).symm
      refine ⟨pb, D, _, _, rfl, rfl, f4, e4, ?_, ?_⟩
      · have l1 := lim (i + 1)
        rw [et, List.length_append] at l1
        rw [List.length_map, List.length_map]
        omega
      · refine ⟨_, rfl, same_set (s3.trans s4) hpb, (upd_ne npl).trans (s4 _ _ p3), ?_⟩
        rw [upd_same, et, List.map_append]
  · rintro σ H3 ⟨v, rfl, s3, p3, f3⟩
    rw [List.length_map, List.take_length] at f3
    generalize eB : beatenL (s.rounds.dropLast.map RL.abs) f = B at f3 k
    have lB : B.length ≤ 96 := by
      rw [← eB]
      refine Nat.le_trans (beatenL_le (c := 16) _ fun r hr => ?_) ?_
      · obtain ⟨r0, h0, rfl⟩ := List.mem_map.mp hr
        show (r0.bs.map BL.b).length ≤ 16
        rw [List.length_map]
        exact h16 r0 (List.dropLast_subset _ h0)
      · simp only [List.length_map, List.length_dropLast]
        omega
    refine ⟨_, rfl, fun p d hp hd ne => ?_⟩
    have fb : upd (upd H3 d (.own p)) p (.ins A.CR d []) pb = some (.lst (B.map fun n => V.int (n : Nat))) := by
      rw [upd_ne (ne_of_none f3 hp), upd_ne (ne_of_none f3 hd)]
      exact f3
    refine ⟨p, d, pb, _, rfl, upd_same, fb, fun H4 qb qw o1 o2 o3 hqb hqw nqq kp => ⟨rfl, ?_⟩⟩
    have s4 : Same H3 H4 := fun q o hq => kp q o (by rw [upd_ne (ne_of_none hq hp), upd_ne (ne_of_none hq hd)]; exact hq) (fun z => by rw [List.mem_singleton.mp z, hp] at hq; cases hq)
    have hqb0 : H3 qb = none := NdefX.upd_none (NdefX.upd_none hqb)
    have hqw0 : H3 qw = none := NdefX.upd_none (NdefX.upd_none hqw)
    have f4 := s4 _ _ f3
    have s04 := s3.trans s4
    have p0 : H p = none := s3.free hp
    have qb0 : H qb = none := s3.free hqb0
    have qw0 : H qw = none := s3.free hqw0
    have npb : p ≠ qb := ne_of o1 o2 (fun z => by cases z)
    have npw : p ≠ qw := ne_of o1 o3 (fun z => by cases z)
    refine ⟨_, rfl, pb, _, rfl, .inl (SqL.of f4), _, _, rfl, rfl, _, rfl, if_d (fun h1 => ?_) (fun h1 => ?_)⟩
    · obtain ⟨b0, bl, rfl⟩ : ∃ b0 bl, B = b0 :: bl := by
        cases e : B with
        | nil =>
          rw [e] at h1
          exact absurd h1 (by decide)
        | cons a l => exact ⟨a, l, rfl⟩
      refine ⟨_, rfl, p, A.CR, d, _, _, rfl, o1, T.clCR, T.nCR_bouts, rF_b, .inl ⟨rfl, _, SqL.of o2⟩, ?_⟩
      refine ⟨_, rfl, pb, _, 0, _, rfl, rfl, SqL.of f4, atI_nat (j := 0) rfl, ?_⟩
      refine ⟨_, rfl, pb, _, rfl, .inl (SqL.of f4), _, _, rfl, rfl, _, rfl, if_d (fun h2 => ?_) (fun h2 => ?_)⟩
      · obtain ⟨b1, br, rfl⟩ : ∃ b1 br, bl = b1 :: br := by
          cases e : bl with
          | nil =>
            rw [e] at h2
            exact absurd h2 (by simp)
          | cons a l => exact ⟨a, l, rfl⟩
        refine ⟨_, rfl, pb, _, 1, _, rfl, rfl, SqL.of f4, atI_nat (j := 1) rfl, ?_⟩
        refine ⟨b0, some b1, rfl, fun H5 y hby ey s5 fry ndy => ?_⟩
        have er : Kg66.rowOf (b0 :: b1 :: br) = ⟨[y.b], (b0 :: b1 :: br).drop 2⟩ := by
          rw [ey]
          rfl
        refine ⟨qb, _, _, rfl, rfl, s5 _ _ o2, (by show 0 < sizeLine; decide), ?_⟩
        generalize e6 : upd H5 qb _ = H6
        have k6 : Keep [qb] H5 H6 := e6 ▸ Keep.set (by simp)
        have f6 : H6 qb = some (.lst ([y].map fun x => V.ref x.a)) := e6 ▸ upd_same
        have nqbp : pb ≠ qb := ne_of_none f3 hqb0
        have g6 := k6 _ _ (s5 _ _ f4) (by simpa using nqbp)
        have o6 := k6 _ _ (s5 _ _ o1) (by simpa using npb)
        have w6 := k6 _ _ (s5 _ _ o3) (by simpa using fun z => nqq z.symm)
        refine ⟨_, rfl, 2, rfl, pb, _, rfl, SqL.of g6, fun pn hpn => ?_⟩
        rw [show ((2 : Int)) = ((2 : Nat) : Int) from rfl, cut_from, ← List.map_drop]
        generalize e7 : upd H6 pn _ = H7
        have s7 : Same H6 H7 := e7 ▸ same_new hpn
        have f7 : H7 pn = some (.lst (_)) := e7 ▸ upd_same
        refine ⟨_, rfl, p, A.CR, d, _, rfl, s7 _ _ o6, T.clCR, T.nCR_waiting, (by show 2 < 1000; decide), ?_⟩
        rw [rF_pw]
        generalize e8 : upd H7 p _ = H8
        have k8 : Keep [p] H7 H8 := e8 ▸ Keep.set (by simp)
        have f8 : H8 p = some (.ins A.CR d (rF qb pn)) := e8 ▸ upd_same
        have npn : pn ≠ qb := (ne_of_none f6 hpn).symm
        have npp : pn ≠ p := (ne_of_none o6 hpn).symm
        have pn5 : H5 pn = none := by rw [← hpn, ← e6, upd_ne npn]
        have pn0 : H pn = none := s04.free (s5.free pn5)
        have fy : ∀ q ∈ y.foot, H4 q = none := fry
        have ypn : ∀ q ∈ y.foot, q ≠ pn := fun q hq z => by
          obtain ⟨o, ho, _⟩ := hby.plain q hq
          rw [z, pn5] at ho
          cases ho
        have yqb : ∀ q ∈ y.foot, q ≠ qb := fun q hq z => by
          have t := fry q hq
          rw [z, o2] at t
          cases t
        have yp : ∀ q ∈ y.foot, q ≠ p := fun q hq z => by
          have t := fry q hq
          rw [z, o1] at t
          cases t
        refine ⟨_, rfl, k H8 ⟨p, d, qb, pn, [y], _⟩ ⟨f8, k8 _ _ (s7 _ _ f6) (by simpa using fun z => npb z.symm), k8 _ _ f7 (by simpa using npp), fun z hz => ?_⟩ er.symm (fun q o hq => ?_) (fun q hq => ?_) ?_⟩
        · rw [List.mem_singleton.mp hz]
          exact ((hby.keep k6 fun q hq t => yqb q hq (List.mem_singleton.mp t)).same s7).keep k8 fun q hq t => yp q hq (List.mem_singleton.mp t)
        · exact k8 _ _ (s7 _ _ (k6 _ _ (s5 _ _ (s04 _ _ hq)) fun t => by rw [List.mem_singleton.mp t, qb0] at hq; cases hq)) fun t => by rw [List.mem_singleton.mp t, p0] at hq; cases hq
        · simp only [WL.foot, List.mem_cons, List.flatMap_cons, List.flatMap_nil, List.append_nil] at hq
          rcases hq with z | z | z | z
          · exact z ▸ p0
          · exact z ▸ qb0
          · exact z ▸ pn0
          · exact s04.free (fry q z)
        · simp only [WL.foot, List.flatMap_cons, List.flatMap_nil, List.append_nil, List.nodup_cons, List.mem_cons, not_or]
          exact ⟨⟨npb, fun z => npp z.symm, fun z => yp _ z rfl⟩, ⟨fun z => npn z.symm, fun z => yqb _ z rfl⟩, fun z => ypn _ z rfl, ndy⟩
      · have ebl : bl = [] := by
          cases e : bl with
          | nil => rfl
          | cons a l =>
            refine absurd ?_ h2
            rw [e, List.length_map, List.length_cons, List.length_cons]
            omega
        subst ebl
        refine ⟨b0, none, rfl, fun H5 y hby ey s5 fry ndy => ?_⟩
        have er : Kg66.rowOf [b0] = ⟨[y.b], [b0].drop 2⟩ := by
          rw [ey]
          rfl
        refine ⟨qb, _, _, rfl, rfl, s5 _ _ o2, (by show 0 < sizeLine; decide), ?_⟩
        generalize e6 : upd H5 qb _ = H6
        have k6 : Keep [qb] H5 H6 := e6 ▸ Keep.set (by simp)
        have f6 : H6 qb = some (.lst ([y].map fun x => V.ref x.a)) := e6 ▸ upd_same
        have nqbp : pb ≠ qb := ne_of_none f3 hqb0
        have g6 := k6 _ _ (s5 _ _ f4) (by simpa using nqbp)
        have o6 := k6 _ _ (s5 _ _ o1) (by simpa using npb)
        have w6 := k6 _ _ (s5 _ _ o3) (by simpa using fun z => nqq z.symm)
        refine ⟨_, rfl, 2, rfl, pb, _, rfl, SqL.of g6, fun pn hpn => ?_⟩
        rw [show ((2 : Int)) = ((2 : Nat) : Int) from rfl, cut_from, ← List.map_drop]
        generalize e7 : upd H6 pn _ = H7
        have s7 : Same H6 H7 := e7 ▸ same_new hpn
        have f7 : H7 pn = some (.lst (_)) := e7 ▸ upd_same
        refine ⟨_, rfl, p, A.CR, d, _, rfl, s7 _ _ o6, T.clCR, T.nCR_waiting, (by show 2 < 1000; decide), ?_⟩
        rw [rF_pw]
        generalize e8 : upd H7 p _ = H8
        have k8 : Keep [p] H7 H8 := e8 ▸ Keep.set (by simp)
        have f8 : H8 p = some (.ins A.CR d (rF qb pn)) := e8 ▸ upd_same
        have npn : pn ≠ qb := (ne_of_none f6 hpn).symm
        have npp : pn ≠ p := (ne_of_none o6 hpn).symm
        have pn5 : H5 pn = none := by rw [← hpn, ← e6, upd_ne npn]
        have pn0 : H pn = none := s04.free (s5.free pn5)
        have fy : ∀ q ∈ y.foot, H4 q = none := fry
        have ypn : ∀ q ∈ y.foot, q ≠ pn := fun q hq z => by
          obtain ⟨o, ho, _⟩ := hby.plain q hq
          rw [z, pn5] at ho
          cases ho
        have yqb : ∀ q ∈ y.foot, q ≠ qb := fun q hq z => by
          have t := fry q hq
          rw [z, o2] at t
          cases t
        have yp : ∀ q ∈ y.foot, q ≠ p := fun q hq z => by
          have t := fry q hq
          rw [z, o1] at t
          cases t
        refine ⟨_, rfl, k H8 ⟨p, d, qb, pn, [y], _⟩ ⟨f8, k8 _ _ (s7 _ _ f6) (by simpa using fun z => npb z.symm), k8 _ _ f7 (by simpa using npp), fun z hz => ?_⟩ er.symm (fun q o hq => ?_) (fun q hq => ?_) ?_⟩
        · rw [List.mem_singleton.mp hz]
          exact ((hby.keep k6 fun q hq t => yqb q hq (List.mem_singleton.mp t)).same s7).keep k8 fun q hq t => yp q hq (List.mem_singleton.mp t)
        · exact k8 _ _ (s7 _ _ (k6 _ _ (s5 _ _ (s04 _ _ hq)) fun t => by rw [List.mem_singleton.mp t, qb0] at hq; cases hq)) fun t => by rw [List.mem_singleton.mp t, p0] at hq; cases hq
        · simp only [WL.foot, List.mem_cons, List.flatMap_cons, List.flatMap_nil, List.append_nil] at hq
          rcases hq with z | z | z | z
          · exact z ▸ p0
          · exact z ▸ qb0
          · exact z ▸ pn0
          · exact s04.free (fry q z)
        · simp only [WL.foot, List.flatMap_cons, List.flatMap_nil, List.append_nil, List.nodup_cons, List.mem_cons, not_or]
          exact ⟨⟨npb, fun z => npp z.symm, fun z => yp _ z rfl⟩, ⟨fun z => npn z.symm, fun z => yqb _ z rfl⟩, fun z => ypn _ z rfl, ndy⟩
    · have eB0 : B = [] := by
        cases e : B with
        | nil => rfl
        | cons a l =>
          refine absurd ?_ h1
          rw [e, List.length_map, List.length_cons]
          omega
      refine ⟨_, rfl, k H4 ⟨p, d, qb, qw, [], []⟩ ⟨o1, o2, ?_, by simp⟩ ?_ s04 ?_ ?_⟩
      · rw [o3, eB0]
      · rw [eB0]
        rfl
      · intro q hq
        simp only [WL.foot, List.mem_cons, List.flatMap_nil, List.not_mem_nil, or_false] at hq
        rcases hq with z | z | z <;> rw [z] <;> assumption
      · simp [WL.foot, npb, npw, nqq]
end
end Wm
/-! # A class goes on -/
namespace Wm
open PySem PySem.Spec PyProof.Rows L2
theorem now_snoc (n : Nat) (R : List (List Kg66.Bout)) (r : List Kg66.Bout) (W : List Kg66.Row) : (Kg66.State.mk n (R ++ [r]) W).now = r := by
  unfold Kg66.State.now
  show (R ++ [r]).getLastD [] = r
  rw [List.getLastD_eq_getLast?, List.getLast?_concat]
  rfl
abbrev allW (l : List Kg66.Bout) : Bool := l.all fun b => b.won.isSome
structure WfG (t : Kg66.State) : Prop where
  rd : ∀ r ∈ t.rounds, ∀ b ∈ r, WfX b
  pow : ∃ k, t.now.length = 2 ^ k ∧ k + t.rounds.length ≤ 6
  lens : ∀ r ∈ t.rounds, r.length ≤ 16
  fin : t.now.length = 1 → ∀ f ∈ t.now, f.b.isSome = true
  rows : ∀ r ∈ t.rows, WfR r
  rl : t.rows.length ≤ 2
  rn : t.rows ≠ [] → t.now.length = 1
  cn : t.count ≤ 32
def stepR (t : Kg66.State) : Kg66.State := { t with rounds := t.rounds ++ [Kg66.paired (t.now.map Kg66.Bout.winner)] }
def goR (t : Kg66.State) : Kg66.State := if 1 < t.now.length ∧ allW t.now = true then stepR t else t
def madeRows (t : Kg66.State) : List Kg66.Row := match t.now with
  | [f] => [f.a, f.b].map fun x => match x with
    | some y => Kg66.rowOf (beatenL t.rounds.dropLast y)
    | none => ⟨[], []⟩
  | _ => []
def stepW (t : Kg66.State) : Kg66.State := if t.now.length = 1 ∧ t.rows = [] then { t with rows := madeRows t } else t
def nextAll (t : Kg66.State) : Kg66.State := { t with rows := t.rows.map Kg66.Row.next }
def goOn (t : Kg66.State) : Kg66.State := nextAll (stepW (goR t))
theorem paired_all : ∀ (l : List (Option Nat)), (∀ o ∈ l, o.isSome = true) → ∀ b ∈ Kg66.paired l, ∃ x y, b = Kg66.fresh (some x) (some y)
  | [], _, b, h => nomatch h
  | [_], _, b, h => nomatch h
  | x :: y :: l, hs, b, h => by
    have h' : b ∈ Kg66.fresh x y :: Kg66.paired l := h
    rcases List.mem_cons.mp h' with z | z
    · obtain ⟨u, eu⟩ := Option.isSome_iff_exists.mp (hs x (by simp))
      obtain ⟨v, ev⟩ := Option.isSome_iff_exists.mp (hs y (by simp))
      rw [z, eu, ev]
      exact ⟨u, v, rfl⟩
    · exact paired_all l (fun o ho => hs o (by simp [ho])) b z
theorem paired_len : ∀ (m : Nat) (l : List (Option Nat)), l.length = 2 * m → (Kg66.paired l).length = m
  | 0, l, h => by
    have e : l = [] := List.eq_nil_of_length_eq_zero (by omega)
    rw [e]
    rfl
  | m + 1, [], h => by simp at h
  | m + 1, [x], h => by
    simp at h
    omega
  | m + 1, x :: y :: l, h => by
    have ih := paired_len m l (by simp at h; omega)
    show (Kg66.fresh x y :: Kg66.paired l).length = _
    rw [List.length_cons, ih]
theorem WfG.ne {t : Kg66.State} (h : WfG t) : t.rounds ≠ [] := fun z => by
  obtain ⟨k, e, _⟩ := h.pow
  unfold Kg66.State.now at e
  rw [z] at e
  have : 0 < 2 ^ k := Nat.pow_pos (by decide)
  simp at e
  omega
theorem WfG.snoc {t : Kg66.State} (h : WfG t) : ∃ R r, t.rounds = R ++ [r] ∧ t.now = r := by
  obtain ⟨R, r, e⟩ := snoc_of h.ne
  refine ⟨R, r, e, ?_⟩
  have z := now_snoc t.count R r t.rows
  rw [← e] at z
  exact z
theorem winners_some {l : List Kg66.Bout} (h : ∀ b ∈ l, WfX b) (hw : allW l = true) : ∀ o ∈ l.map Kg66.Bout.winner, o.isSome = true := fun o ho => by
  obtain ⟨b, hb, rfl⟩ := List.mem_map.mp ho
  have z := List.all_eq_true.mp hw b hb
  obtain ⟨u, hh, e⟩ := (won_cases b).resolve_left fun q => by rw [q] at z; cases z
  exact (h b hb).win u hh e
theorem stepR_wf {t : Kg66.State} (h : WfG t) (h1 : 1 < t.now.length) (h2 : allW t.now = true) : WfG (stepR t) ∧ allW (stepR t).now = false ∧ t.rows = [] ∧ ∃ m, t.now.length = 2 * m ∧ m ≤ 16 := by
  obtain ⟨R, r, e, en⟩ := h.snoc
  obtain ⟨k, ek, hk⟩ := h.pow
  have hrows : t.rows = [] := by
    cases e : t.rows with
    | nil => rfl
    | cons a l =>
      have z := h.rn (by rw [e]; simp)
      omega
  have hk0 : k ≠ 0 := fun z => by
    rw [z] at ek
    simp at ek
    omega
  obtain ⟨j, rfl⟩ : ∃ j, k = j + 1 := ⟨k - 1, by omega⟩
  have hrl : 1 ≤ t.rounds.length := by
    rw [e]
    simp
  have hj : j ≤ 4 := by omega
  have e2 : (2 : Nat) ^ (j + 1) = 2 * 2 ^ j := by rw [Nat.pow_succ]; omega
  have l16 : (2 : Nat) ^ j ≤ 2 ^ 4 := Nat.pow_le_pow_right (by decide) hj
  have hnow : ∀ b ∈ t.now, WfX b := fun b hb => h.rd r (by rw [e]; simp) b (en ▸ hb)
  have hs := winners_some hnow h2
  have el : (Kg66.paired (t.now.map Kg66.Bout.winner)).length = 2 ^ j := paired_len _ _ (by rw [List.length_map, ek, e2])
  have eN : (stepR t).now = Kg66.paired (t.now.map Kg66.Bout.winner) := now_snoc _ _ _ _
  have hp := paired_all _ hs
  refine ⟨⟨?_, ⟨j, eN ▸ el, ?_⟩, ?_, fun _ f hf => ?_, h.rows, h.rl, fun z => absurd hrows z, h.cn⟩, ?_, hrows, 2 ^ j, ek.trans e2, l16⟩
  · intro x hx b hb
    have hx' : x ∈ t.rounds ++ [Kg66.paired (t.now.map Kg66.Bout.winner)] := hx
    rcases List.mem_append.mp hx' with z | z
    · exact h.rd x z b hb
    · rw [List.mem_singleton.mp z] at hb
      obtain ⟨x, y, rfl⟩ := hp b hb
      exact wfX_fresh x (some y)
  · show j + (t.rounds ++ [Kg66.paired (t.now.map Kg66.Bout.winner)]).length ≤ 6
    rw [List.length_append]
    simp
    omega
  · intro x hx
    have hx' : x ∈ t.rounds ++ [Kg66.paired (t.now.map Kg66.Bout.winner)] := hx
    rcases List.mem_append.mp hx' with z | z
    · exact h.lens x z
    · rw [List.mem_singleton.mp z, el]
      exact l16
  · rw [eN] at hf
    obtain ⟨x, y, rfl⟩ := hp f hf
    rfl
  · rw [eN]
    cases e3 : Kg66.paired (t.now.map Kg66.Bout.winner) with
    | nil =>
      rw [e3] at el
      have : 0 < 2 ^ j := Nat.pow_pos (by decide)
      simp at el
      omega
    | cons b l =>
      obtain ⟨x, y, rfl⟩ := hp b (by rw [e3]; simp)
      rfl
theorem goR_wf {t : Kg66.State} (h : WfG t) : WfG (goR t) := by
  unfold goR
  by_cases z : 1 < t.now.length ∧ allW t.now = true
  · rw [if_pos z]
    exact (stepR_wf h z.1 z.2).1
  · rw [if_neg z]
    exact h
theorem rowOf_wf (l : List Nat) (h : l.length ≤ 96) : WfR (Kg66.rowOf l) := by
  match l, h with
  | [], h => exact ⟨(fun b hb => nomatch hb), (fun z => absurd rfl z), by show 0 + 0 ≤ 200; omega⟩
  | [a], h =>
    refine ⟨fun b hb => ?_, (fun z => absurd rfl z), by show 1 + 0 ≤ 200; omega⟩
    rw [List.mem_singleton.mp hb]
    exact wfX_fresh a none
  | a :: b :: r, h =>
    refine ⟨fun x hb => ?_, (fun z => by simp [Kg66.rowOf]), ?_⟩
    · rw [List.mem_singleton.mp hb]
      exact wfX_fresh a (some b)
    · show 1 + r.length ≤ 200
      simp at h
      omega
/-- no name but one, no test, a tuple -/
theorem lc_tupN {K : PySem.W.Frag} {a : Addr} {xs : List V} {m : Nat} {te : L2.TE} {vs : List Nat} {σ : L2.St} {H1 : Hp} {D : Addr} {Qd : Hp → Prop} (Pv : Nat → Hp → Prop) (h0 : Pv 0 (upd H1 D (.lst []))) (hl : ∀ i H, i ≤ xs.length → Pv i H → SqT K H a xs)
    (hs : ∀ i x H, xs[i]? = some x → Pv i H → wipe ((wipe σ vs).set m (some x)) vs = wipe σ vs ∧ te ((wipe σ vs).set m (some x)) H fun y H4 => ∃ acc, H4 D = some (.lst acc) ∧ acc.length < sizeLine ∧ Pv (i + 1) (upd H4 D (.lst (acc ++ [y])))) (hd : ∀ H, Pv xs.length H → Qd H) :
    ∃ W : Nat → Nat → Hp → Prop, (∃ m, W 0 m (upd H1 D (.lst []))) ∧ ∀ i k H, W i k H →
      ((Itt K a).stop i H ∧ Qd H) ∨ ((Itt K a).go i H ∧ ∃ Nx : Hp → Prop, (∀ H', Nx H' → ∃ m', m' < k ∧ W (i + 1) m' H') ∧ ∀ x H', (Itt K a).yld i H x H' → gName m x (wipe σ vs) H' fun σ2 H2 => wipe σ2 vs = wipe σ vs ∧ tYes σ2 H2 fun b H3 =>
        if b = true then te σ2 H3 fun y H4 => ∃ acc, H4 D = some (.lst acc) ∧ acc.length < sizeLine ∧ Nx (upd H4 D (.lst (acc ++ [y]))) else Nx H3) := by
  refine lc_tup Pv h0 hl (fun i x H hx p => ?_) hd
  obtain ⟨e, q⟩ := hs i x H hx p
  refine ⟨e, ?_⟩
  have z : if true = true then te ((wipe σ vs).set m (some x)) H (fun y H4 => ∃ acc, H4 D = some (.lst acc) ∧ acc.length < sizeLine ∧ Pv (i + 1) (upd H4 D (.lst (acc ++ [y])))) else Pv (i + 1) H := iteT q
  exact z
/-- the same of a list -/
theorem lc_listN {K : PySem.W.Frag} {a : Addr} {xs : List V} {m : Nat} {te : L2.TE} {vs : List Nat} {σ : L2.St} {H1 : Hp} {D : Addr} {Qd : Hp → Prop} (Pv : Nat → Hp → Prop) (h0 : Pv 0 (upd H1 D (.lst []))) (hl : ∀ i H, i ≤ xs.length → Pv i H → SqL K H a xs)
    (hs : ∀ i x H, xs[i]? = some x → Pv i H → wipe ((wipe σ vs).set m (some x)) vs = wipe σ vs ∧ te ((wipe σ vs).set m (some x)) H fun y H4 => ∃ acc, H4 D = some (.lst acc) ∧ acc.length < sizeLine ∧ Pv (i + 1) (upd H4 D (.lst (acc ++ [y])))) (hd : ∀ H, Pv xs.length H → Qd H) :
    ∃ W : Nat → Nat → Hp → Prop, (∃ m, W 0 m (upd H1 D (.lst []))) ∧ ∀ i k H, W i k H →
      ((Itl K a).stop i H ∧ Qd H) ∨ ((Itl K a).go i H ∧ ∃ Nx : Hp → Prop, (∀ H', Nx H' → ∃ m', m' < k ∧ W (i + 1) m' H') ∧ ∀ x H', (Itl K a).yld i H x H' → gName m x (wipe σ vs) H' fun σ2 H2 => wipe σ2 vs = wipe σ vs ∧ tYes σ2 H2 fun b H3 =>
        if b = true then te σ2 H3 fun y H4 => ∃ acc, H4 D = some (.lst acc) ∧ acc.length < sizeLine ∧ Nx (upd H4 D (.lst (acc ++ [y]))) else Nx H3) := by
  refine lc_list Pv h0 hl (fun i x H hx p => ?_) hd
  obtain ⟨e, q⟩ := hs i x H hx p
  refine ⟨e, ?_⟩
  have z : if true = true then te ((wipe σ vs).set m (some x)) H (fun y H4 => ∃ acc, H4 D = some (.lst acc) ∧ acc.length < sizeLine ∧ Pv (i + 1) (upd H4 D (.lst (acc ++ [y])))) else Pv (i + 1) H := iteT q
  exact z
theorem abs_snoc {s : SL} {R : List RL} {r : RL} (e : s.rounds = R ++ [r]) : s.abs.now = r.abs := by
  unfold SL.abs
  rw [e, List.map_append]
  exact now_snoc _ _ _ _
theorem SL.snoc {s : SL} (h : WfG s.abs) : ∃ R r, s.rounds = R ++ [r] ∧ s.abs.now = r.abs := by
  have ne : s.rounds ≠ [] := fun z => h.ne (by show s.rounds.map RL.abs = []; rw [z]; rfl)
  obtain ⟨R, r, e⟩ := snoc_of ne
  exact ⟨R, r, e, abs_snoc e⟩
theorem rd_bl {s : SL} (h : WfG s.abs) : ∀ r ∈ s.rounds, ∀ x ∈ r.bs, WfX x.b := fun r hr x hx => h.rd r.abs (List.mem_map.mpr ⟨r, hr, rfl⟩) x.b (List.mem_map.mpr ⟨x, hx, rfl⟩)
theorem all_abs (bs : List BL) : (bs.all fun x => x.b.won.isSome) = allW (bs.map BL.b) := by simp [allW, List.all_map, Function.comp_def]
/-! ### statements behind which all goes on alike -/
theorem while_inv {c : TT} {tb u : TS} {D : Ends} {σ : L2.St} {H : Hp} (W : Nat → L2.St → Hp → Prop) (C : L2.St → Hp → Prop) (h0 : ∃ m, W m σ H)
    (turn : ∀ (Z : L2.St → Hp → Prop), (∀ σ H, C σ H → Z σ H) → ∀ m σ H, W m σ H → c σ H fun b H1 => if b = true then ∃ N : L2.St → Hp → Prop, (∀ σ' H', N σ' H' → ∃ m', m' < m ∧ W m' σ' H') ∧ tb { D with nx := N, ct := N, bk := Z } σ H1 else Z σ H1)
    (done : ∀ σ H, C σ H → u D σ H) : tSeq (tWhile c tb) u D σ H := ⟨W, h0, turn (u D) done⟩
theorem seq_cut {t u : TS} {D : Ends} {σ : L2.St} {H : Hp} (C : L2.St → Hp → Prop) (h : ∀ Z : L2.St → Hp → Prop, (∀ σ H, C σ H → Z σ H) → t { D with nx := Z } σ H) (done : ∀ σ H, C σ H → u D σ H) : tSeq t u D σ H := h (u D) done
theorem ite_d {b : Bool} {A B : Prop} (h1 : b = true → A) (h2 : b = false → B) : if b = true then A else B := by
  cases b with
  | true => exact if_t rfl (h1 rfl)
  | false => exact if_f rfl (h2 rfl)
theorem map_at {al : Type} {l : List al} {f : al → V} {i : Nat} {y : V} (h : (l.map f)[i]? = some y) : ∃ x, l[i]? = some x ∧ y = f x := by
  rw [List.getElem?_map] at h
  cases ex : l[i]? with
  | none =>
    rw [ex] at h
    cases h
  | some x =>
    rw [ex] at h
    exact ⟨x, rfl, (Option.some.inj h).symm⟩
section
variable {P : Program} {w : World} {K : PySem.W.Frag} {mg : Str → Option Value} {base : Heap} {A : Ads}
def sp_go_on (K : PySem.W.Frag) (A : Ads) : Sp := fun vs H Q _ => ∃ (s : SL), vs = [.ref s.a] ∧ StIs A.CB A.CR A.CK H s ∧ WfG s.abs ∧ s.foot.Nodup ∧
  ∀ (H' : Hp) (s' : SL), StIs A.CB A.CR A.CK H' s' → s'.a = s.a → s'.abs = goOn s.abs → Goes s.foot s'.foot H H' → Q .non H'
theorem ok_go_on (T : Txt K mg A) (D_all_won : Own P w K mg base CX0 1 "all_won" Pall_won (sp_all_won K A)) (D_round_of : Own P w K mg base CX0 4 "round_of" Pround_of (sp_round_of K A)) (D_row_goes_on : Own P w K mg base CX0 4 "row_goes_on" Prow_goes_on (sp_row_goes_on K A)) (D_row_of : Own P w K mg base CX0 4 "row_of" Prow_of (sp_row_of K A)) (D_who_won : Own P w K mg base CX0 1 "who_won" Pwho_won (sp_who_won K A)) {f : Addr} {fd : FuncData} (F : Fun K "go_on" "go_on" sgo_on f fd) : FnOk P w K mg base CX0 5 f fd Pgo_on (sp_go_on K A) := by
  refine F.ok scgo_on (fun vs H Q E h => ?_) (fun cdv Ar outer s H vs Q E hr h => ⟨_, (pss_cons (ps_while PassesOwn.never (PW.pt (pw_and (pt_cmpR op_gt (pe_callB call_len_seq rfl T.len (by decide +kernel) (by exact (pa_cons (pe_ix ix_list (pe_fld (pv 0) rfl) (pe_un un_neg pe_int) (fun _ _ => rfl)) pa_nil))) pe_int (nomark _)) (pw_and1 (pt_val (pe_own D_all_won (hr.mono (by decide)) (by exact (pa_cons (pe_ix ix_list (pe_fld (pv 0) rfl) (pe_un un_neg pe_int) (fun _ _ => rfl)) pa_nil))))))) (pss_one (ps_expr (pe_bm PySem.F.plainAttrs_list PySem.F.slot_list_append PySem.F.type_list_append mt_append (pe_fld (pv 0) rfl) (by exact (pa_cons (pe_own D_round_of (hr.mono (by decide)) (by exact (pa_cons (pe_lc (own := [("bout", 3)]) (g := gName 3) (tt := tYes) (te := (tCall (sp_who_won K A) [] E0 (tCons (tVar 3) tNil))) rfl scgo_on.nd (pi_list (pe_ix ix_list (pe_fld (pv 0) rfl) (pe_un un_neg pe_int) (fun _ _ => rfl))) (blkOk_by (own := [("bout", 3)]) (N := Ngo_on) (sc := defScope sgo_on) (by decide +kernel)) (fun _ _ _ _ _ => by exact ((pg_name (i := 3) scgo_on.nd rfl (Or.inl rfl)))) (fun _ _ _ _ _ => by exact (pts_nil)) (fun _ _ _ _ _ => by exact ((pe_own D_who_won (hr.mono (by decide)) (by exact (pa_cons (pv 3) pa_nil)))))) pa_nil))) pa_nil))))))
      (pss_cons (ps_if (PW.pt (pw_and (pt_cmpR op_eq (pe_callB call_len_seq rfl T.len (by decide +kernel) (by exact (pa_cons (pe_ix ix_list (pe_fld (pv 0) rfl) (pe_un un_neg pe_int) (fun _ _ => rfl)) pa_nil))) pe_int (nomark _)) (pw_and1 (pt_cmpR op_eq (pe_callB call_len_seq rfl T.len (by decide +kernel) (by exact (pa_cons (pe_fld (pv 0) rfl) pa_nil))) pe_int (nomark _))))) (pss_one (ps_fld (pv 0) (pe_lc (own := [("who", 2)]) (g := gName 2) (tt := tYes) (te := (tCall (sp_row_of K A) [] E0 (tCons (tVar 0) (tCons (tVar 2) tNil)))) rfl scgo_on.nd (pi_tup (pe_fld (pe_ix ix_list (pe_ix ix_list (pe_fld (pv 0) rfl) (pe_un un_neg pe_int) (fun _ _ => rfl)) pe_int (fun _ _ => rfl)) rfl)) (blkOk_by (own := [("who", 2)]) (N := Ngo_on) (sc := defScope sgo_on) (by decide +kernel)) (fun _ _ _ _ _ => by exact ((pg_name (i := 2) scgo_on.nd rfl (Or.inl rfl)))) (fun _ _ _ _ _ => by exact (pts_nil)) (fun _ _ _ _ _ => by exact ((pe_own D_row_of (hr.mono (by decide)) (by exact (pa_cons (pv 0) (pa_cons (pv 2) pa_nil))))))) rfl)) pss_nil)
      (pss_one (ps_for PassesOwn.never rfl (pi_list (pe_fld (pv 0) rfl)) (pg_name (i := 1) scgo_on.nd rfl (Or.inl rfl)) (pss_one (ps_expr (pe_own D_row_goes_on (hr.mono (by decide)) (by exact (pa_cons (pv 1) pa_nil))))))))), ?_⟩)
  · obtain ⟨_, rfl, _⟩ := h
    rfl
  obtain ⟨s, rfl, hs, wf, nd, k⟩ := h
  have big : (1000 : Nat) < sizeLine := by decide
  refine while_inv (fun m σ H' => ∃ s' : SL, σ = [some (.ref s.a), none, none, none] ∧ StIs A.CB A.CR A.CK H' s' ∧ s'.a = s.a ∧ WfG s'.abs ∧ Goes s.foot s'.foot H H' ∧ ((m = 1 ∧ s'.abs = s.abs) ∨ (m = 0 ∧ s'.abs = goR s.abs ∧ allW s'.abs.now = false)))
    (fun σ H' => ∃ s' : SL, σ = [some (.ref s.a), none, none, none] ∧ StIs A.CB A.CR A.CK H' s' ∧ s'.a = s.a ∧ WfG s'.abs ∧ Goes s.foot s'.foot H H' ∧ s'.abs = goR s.abs)
    ⟨1, s, rfl, hs, rfl, wf, Goes.refl nd, .inl ⟨rfl, rfl⟩⟩ (fun Z hZ => ?_) ?_
  · rintro m σ H1 ⟨s1, rfl, hs1, ea, wf1, g1, hm⟩
    obtain ⟨R, r, eR, eN⟩ := SL.snoc wf1
    have hl := hs1.l
    rw [eR, List.map_append] at hl
    have hr1 := hs1.rd r (by rw [eR]; simp)
    have obj1 : H1 s.a = some (.ins A.CK s1.d (sF s1.n s1.pr s1.pw)) := ea ▸ hs1.obj
    have rlen : r.bs.length ≤ 16 := by
      have z := wf1.lens r.abs (List.mem_map.mpr ⟨r, by rw [eR]; simp, rfl⟩)
      unfold RL.abs at z
      rwa [List.length_map] at z
    have rnow : s1.abs.now.length = r.bs.length := by
      rw [eN]
      show (r.bs.map BL.b).length = _
      rw [List.length_map]
    have eall : (r.bs.all fun x => x.b.won.isSome) = allW s1.abs.now := by
      rw [eN]
      exact all_abs _
    refine ⟨_, rfl, s.a, A.CK, s1.d, _, _, rfl, obj1, T.clCK, T.nCK_rounds, sF_r, 1, rfl, s1.pr, _, -1, _, rfl, rfl, SqL.of hl, atI_last _ _, ?_⟩
    refine ⟨r.p, _, rfl, .inl (SqL.of hr1.l), _, _, rfl, rfl, _, rfl, if_d (fun h1 => ?_) (fun h1 => ?_)⟩
    · rw [List.length_map] at h1
      have h1' : 1 < s1.abs.now.length := by omega
      refine ⟨_, rfl, s.a, A.CK, s1.d, _, _, rfl, obj1, T.clCK, T.nCK_rounds, sF_r, 1, rfl, s1.pr, _, -1, _, rfl, rfl, SqL.of hl, atI_last _ _, ?_⟩
      refine ⟨r.p, r.bs, rfl, hr1.l, (by omega), hr1.at_, fun H2 s2 => ⟨_, rfl, ite_d (fun h2 => ?_) (fun h2 => ?_)⟩⟩
      · rw [eall] at h2
        have hm1 : m = 1 ∧ s1.abs = s.abs := hm.resolve_right fun z => by rw [z.2.2] at h2; cases h2
        obtain ⟨wf3, all3, er, mm, emm, hmm⟩ := stepR_wf wf1 h1' h2
        have ego : stepR s1.abs = goR s.abs := by
          rw [← hm1.2]
          unfold goR
          rw [if_pos ⟨h1', h2⟩]
        refine ⟨fun σ' H3 => ∃ s3 : SL, σ' = [some (.ref s.a), none, none, none] ∧ StIs A.CB A.CR A.CK H3 s3 ∧ s3.a = s.a ∧ WfG s3.abs ∧ Goes s.foot s3.foot H H3 ∧ s3.abs = goR s.abs ∧ allW s3.abs.now = false, fun σ' H3 ⟨s3, e1, e2, e3, e4, e5, e6, e7⟩ => ⟨0, by omega, s3, e1, e2, e3, e4, e5, .inr ⟨rfl, e6, e7⟩⟩, ?_⟩
        have hs2 := hs1.same s2
        have hr2 := hr1.same s2
        have obj2 := s2 _ _ obj1
        have hl2 := s2 _ _ hl
        refine ⟨_, rfl, s.a, A.CK, s1.d, _, _, rfl, obj2, T.clCK, T.nCK_rounds, sF_r, .inl ⟨rfl, _, SqL.of hl2⟩, ?_⟩
        refine ⟨_, rfl, s.a, A.CK, s1.d, _, _, rfl, obj2, T.clCK, T.nCK_rounds, sF_r, 1, rfl, s1.pr, _, -1, _, rfl, rfl, SqL.of hl2, atI_last _ _, r.p, rfl, ⟨_, SqL.of hr2.l⟩, fun D hD => ?_⟩
        refine lc_map (K := K) (a := r.p) (as := r.bs) (fun y => .int (Kg66.opt y.b.winner)) hD (SqL.of hr2.l) (by rw [List.length_map]) (by omega) (fun j v y H4 hv hy hmm s4 Y hY => ?_) gName_mono fun H4 s4 e4 => ?_
        · have ev : v = .ref y.a := by
            rw [List.getElem?_map, hy] at hv
            exact (Option.some.inj hv).symm
          subst ev
          exact ⟨rfl, _, rfl, y, rfl, (hr2.at_ y hmm).same s4, (rd_bl wf1 r (by rw [eR]; simp) y hmm).wf, hY H4 (Same.refl _)⟩
        · have ews : s1.abs.now.map Kg66.Bout.winner = r.bs.map fun y => y.b.winner := by
            rw [eN]
            unfold RL.abs
            rw [List.map_map]
            rfl
          have hws := winners_some (fun b hb => wf1.rd r.abs (List.mem_map.mpr ⟨r, by rw [eR]; simp, rfl⟩) b (eN ▸ hb)) h2
          rw [ews] at hws
          have elen : (r.bs.map fun y => y.b.winner).length = 2 * mm := by
            rw [List.length_map, ← rnow]
            exact emm
          refine ⟨D, r.bs.map (fun y => y.b.winner), mm, rfl, (by rw [e4, List.map_map]; rfl), elen, (by omega), fun i hi => ?_, fun H5 x hx ex s5 fr ndx => ?_⟩
          · have hi2 : 2 * i < (r.bs.map fun y => y.b.winner).length := by omega
            obtain ⟨n, en⟩ := Option.isSome_iff_exists.mp (hws _ (List.getElem_mem hi2))
            exact ⟨n, by rw [List.getElem?_eq_getElem hi2, en]⟩
          · have s15 := s2.trans (s4.trans s5)
            have lrd : s1.rounds.length ≤ 6 := by
              obtain ⟨k0, _, z⟩ := wf1.pow
              have e : s1.abs.rounds.length = s1.rounds.length := by
                show (s1.rounds.map RL.abs).length = _
                rw [List.length_map]
              omega
            have f5 : H5 s1.pr = some (.lst (s1.rounds.map fun r => V.ref r.p)) := s15 _ _ hs1.l
            refine ⟨s1.pr, _, _, rfl, rfl, f5, (by rw [List.length_map]; omega), ?_⟩
            have kk : Keep [s1.pr] H5 (upd H5 s1.pr (.lst ((s1.rounds.map fun r => V.ref r.p) ++ [.ref x.p]))) := Keep.set (by simp)
            obtain ⟨q1, q2⟩ := st_round (x := x) hs1 g1.nd hx s15 (fun q hq => (s2.trans s4).free (fr q hq)) ndx kk (by rw [upd_same, List.map_append]; rfl)
            have eabs : SL.abs { s1 with rounds := s1.rounds ++ [x] } = stepR s1.abs := by
              unfold SL.abs stepR
              have en2 : Kg66.State.now ⟨s1.n, s1.rounds.map RL.abs, s1.rows.map WL.abs⟩ = r.abs := eN
              rw [en2]
              show Kg66.State.mk s1.n ((s1.rounds ++ [x]).map RL.abs) (s1.rows.map WL.abs) = _
              rw [List.map_append, List.map_singleton, ex]
              unfold RL.abs
              rw [List.map_map]
              rfl
            exact ⟨{ s1 with rounds := s1.rounds ++ [x] }, rfl, q1, ea, eabs ▸ wf3, g1.tr q2, eabs.trans ego, eabs ▸ all3⟩
      · rw [eall] at h2
        refine hZ _ _ ⟨s1, rfl, hs1.same s2, ea, wf1, g1.tr (Goes.of_same g1.nd s2), ?_⟩
        rcases hm with ⟨_, e⟩ | ⟨_, e, _⟩
        · rw [e]
          unfold goR
          rw [← e, if_neg (fun z => by rw [z.2] at h2; cases h2)]
        · exact e
    · rw [List.length_map] at h1
      refine hZ _ _ ⟨s1, rfl, hs1, ea, wf1, g1, ?_⟩
      rcases hm with ⟨_, e⟩ | ⟨_, e, _⟩
      · rw [e]
        unfold goR
        rw [← e, if_neg (fun z => by have := z.1; omega)]
      · exact e
  · rintro σ H1 ⟨s1, rfl, hs1, ea, wf1, g1, e1⟩
    obtain ⟨R, r, eR, eN⟩ := SL.snoc wf1
    have hl := hs1.l
    rw [eR, List.map_append] at hl
    have hr1 := hs1.rd r (by rw [eR]; simp)
    have obj1 : H1 s.a = some (.ins A.CK s1.d (sF s1.n s1.pr s1.pw)) := ea ▸ hs1.obj
    have rnow : s1.abs.now.length = r.bs.length := by
      rw [eN]
      show (r.bs.map BL.b).length = _
      rw [List.length_map]
    have wlen : s1.abs.rows.length = s1.rows.length := by
      show (s1.rows.map WL.abs).length = _
      rw [List.length_map]
    refine seq_cut (fun σ H' => ∃ s' : SL, σ = [some (.ref s.a), none, none, none] ∧ StIs A.CB A.CR A.CK H' s' ∧ s'.a = s.a ∧ (∀ r ∈ s'.abs.rows, WfR r) ∧ s'.rows.length ≤ 2 ∧ Goes s.foot s'.foot H H' ∧ s'.abs = stepW (goR s.abs)) (fun Z hZ => ?_) ?_
    · refine ⟨_, rfl, s.a, A.CK, s1.d, _, _, rfl, obj1, T.clCK, T.nCK_rounds, sF_r, 1, rfl, s1.pr, _, -1, _, rfl, rfl, SqL.of hl, atI_last _ _, ?_⟩
      refine ⟨r.p, _, rfl, .inl (SqL.of hr1.l), rfl, _, rfl, if_d (fun h1 => ?_) (fun h1 => ?_)⟩
      · rw [List.length_map] at h1
        have h1' : r.bs.length = 1 := by have z := V.int.inj h1; omega
        refine ⟨_, rfl, s.a, A.CK, s1.d, _, _, rfl, obj1, T.clCK, T.nCK_rows, sF_w, s1.pw, _, rfl, .inl (SqL.of hs1.w), rfl, _, rfl, if_d (fun h2 => ?_) (fun h2 => ?_)⟩
        · rw [List.length_map] at h2
          have h2' : s1.rows = [] := List.eq_nil_of_length_eq_zero (by have z := V.int.inj h2; omega)
          obtain ⟨x, ex⟩ : ∃ x, r.bs = [x] := List.length_eq_one_iff.mp h1'
          have hbx := hr1.at_ x (by rw [ex]; simp)
          have wfx := rd_bl wf1 r (by rw [eR]; simp) x (by rw [ex]; simp)
          have en1 : s1.abs.now = [x.b] := by
            rw [eN]
            unfold RL.abs
            rw [ex]
            rfl
          obtain ⟨f0, ef0⟩ := Option.isSome_iff_exists.mp wfx.wf.one
          obtain ⟨f1, ef1⟩ := Option.isSome_iff_exists.mp (wf1.fin (by omega) x.b (by rw [en1]; simp))
          have hwr : H1 x.t = some (.tup ([f0, f1].map fun n => V.int (n : Nat))) := by
            rw [hbx.wr, ef0, ef1]
            rfl
          have l6 : s1.rounds.length ≤ 6 := by
            obtain ⟨k0, _, z⟩ := wf1.pow
            have e : s1.abs.rounds.length = s1.rounds.length := by
              show (s1.rounds.map RL.abs).length = _
              rw [List.length_map]
            omega
          have l16 : ∀ r ∈ s1.rounds, r.bs.length ≤ 16 := fun r hr => by
            have z := wf1.lens r.abs (List.mem_map.mpr ⟨r, hr, rfl⟩)
            unfold RL.abs at z
            rwa [List.length_map] at z
          have hrl := hr1.l
          rw [ex] at hrl
          refine ⟨_, rfl, s.a, A.CK, s1.d, _, _, rfl, obj1, T.clCK, T.nCK_rounds, sF_r, 1, rfl, s1.pr, _, -1, _, rfl, rfl, SqL.of hl, atI_last _ _, r.p, _, 0, _, rfl, rfl, SqL.of hrl, atI_nat (j := 0) rfl, ?_⟩
          refine ⟨x.a, A.CB, x.d, _, _, rfl, hbx.obj, T.clCB, T.nCB_wrestlers, bF_wr, x.t, rfl, ⟨_, SqT.of hwr⟩, fun D hD => ?_⟩
          refine lc_tupN (K := K) (a := x.t) (xs := [f0, f1].map fun n => V.int (n : Nat)) (fun i H' => ∃ ws : List WL, Same H1 H' ∧ H' D = some (.lst (ws.map fun y => V.ref y.a)) ∧ (∀ y ∈ ws, RowIs A.CB A.CR H' y) ∧ ws.map WL.abs = ([f0, f1].take i).map (fun f => Kg66.rowOf (beatenL (s1.rounds.dropLast.map RL.abs) f)) ∧ ws.length = i ∧ (∀ q ∈ ws.flatMap WL.foot, H1 q = none ∧ q ≠ D) ∧ (ws.flatMap WL.foot).Nodup)
            ⟨[], same_new hD, upd_same, by simp, by rfl, rfl, by simp, by simp⟩ (fun i H' _ ⟨_, q, _⟩ => SqT.of (q _ _ hwr)) ?_ ?_
          · rintro i v H2 hv ⟨ws, s2, p2, hw2, ew, elen, fr, ndw⟩
            obtain ⟨f, hf, rfl⟩ := map_at hv
            have hil := (List.getElem?_eq_some_iff.mp hf).1
            have hfe := (List.getElem?_eq_some_iff.mp hf).2
            have hil2 : i < 2 := hil
            refine ⟨rfl, _, rfl, _, rfl, s1, f, (by rw [ea]; rfl), hs1.same s2, rd_bl wf1, l6, l16, fun H3 y hy ey s3 fry ndy => ?_⟩
            have fy : ∀ q ∈ y.foot, q ≠ D := fun q hq z => by
              have t := fry q hq
              rw [z, p2] at t
              cases t
            have kD : Keep [D] H3 (upd H3 D (.lst ((ws.map fun y => V.ref y.a) ++ [.ref y.a]))) := Keep.set (by simp)
            refine ⟨_, s3 _ _ p2, (by rw [List.length_map]; omega), ws ++ [y], same_set (s2.trans s3) hD, ?_, ?_, ?_, ?_, ?_, ?_⟩
            · rw [upd_same, List.map_append]
              rfl
            · intro u hu
              rcases List.mem_append.mp hu with z | z
              · exact ((hw2 u z).same s3).keep kD fun q hq t => (fr q (List.mem_flatMap.mpr ⟨u, z, hq⟩)).2 (List.mem_singleton.mp t)
              · rw [List.mem_singleton.mp z]
                exact hy.keep kD fun q hq t => fy q hq (List.mem_singleton.mp t)
            · rw [List.take_succ_eq_append_getElem hil, hfe, List.map_append, List.map_append, ew]
              simp [ey]
            · simp [elen]
            · intro q hq
              rw [List.flatMap_append] at hq
              rcases List.mem_append.mp hq with z | z
              · exact fr q z
              · have z' : q ∈ y.foot := by simpa using z
                exact ⟨s2.free (fry q z'), fy q z'⟩
            · rw [List.flatMap_append]
              refine List.nodup_append.mpr ⟨ndw, by simpa using ndy, fun a ha b hb' e => ?_⟩
              have z' : b ∈ y.foot := by simpa using hb'
              obtain ⟨u, hu1, hu2⟩ := List.mem_flatMap.mp ha
              obtain ⟨o, ho, _⟩ := (hw2 u hu1).plain a hu2
              rw [e, fry b z'] at ho
              cases ho
          · rintro H2 ⟨ws, s2, p2, hw2, ew, elen, fr, ndw⟩
            refine ⟨_, rfl, s.a, A.CK, s1.d, _, rfl, s2 _ _ obj1, T.clCK, T.nCK_rows, (by show 3 < 1000; decide), ?_⟩
            rw [sF_pw]
            have kk : Keep [s1.a] H2 (upd H2 s.a (.ins A.CK s1.d (sF s1.n s1.pr D))) := Keep.set (by simp [ea])
            obtain ⟨q1, q2⟩ := st_rows (ws := ws) (pw := D) hs1 g1.nd h2' hw2 s2 (fun q hq => by
              rcases List.mem_cons.mp hq with z | z
              · rw [z]
                exact hD
              · exact (fr q z).1) (List.nodup_cons.mpr ⟨fun z => (fr _ z).2 rfl, ndw⟩) p2 kk (by rw [ea]; exact upd_same)
            have ew2 : ws.map WL.abs = madeRows s1.abs := by
              rw [ew]
              unfold madeRows
              rw [en1]
              show _ = [x.b.a, x.b.b].map fun x => match x with
                | some y => Kg66.rowOf (beatenL s1.abs.rounds.dropLast y)
                | none => ⟨[], []⟩
              rw [ef0, ef1]
              have ed : s1.abs.rounds.dropLast = s1.rounds.dropLast.map RL.abs := by
                show (s1.rounds.map RL.abs).dropLast = _
                rw [List.map_dropLast]
              rw [ed]
              rfl
            have e3 : SL.abs { s1 with pw := D, rows := ws } = stepW (goR s.abs) := by
              rw [← e1]
              unfold stepW
              rw [if_pos ⟨by omega, by show s1.rows.map WL.abs = []; rw [h2']; rfl⟩, ← ew2]
              rfl
            refine hZ _ _ ⟨{ s1 with pw := D, rows := ws }, rfl, q1, ea, ?_, ?_, g1.tr q2, e3⟩
            · intro y hy
              have hy' : y ∈ ws.map WL.abs := hy
              rw [ew] at hy'
              obtain ⟨f, _, rfl⟩ := List.mem_map.mp hy'
              refine rowOf_wf _ ?_
              refine Nat.le_trans (beatenL_le (c := 16) _ fun r hr => ?_) ?_
              · obtain ⟨r0, h0, rfl⟩ := List.mem_map.mp hr
                show (r0.bs.map BL.b).length ≤ 16
                rw [List.length_map]
                exact l16 r0 (List.dropLast_subset _ h0)
              · simp only [List.length_map, List.length_dropLast]
                omega
            · show ws.length ≤ 2
              rw [elen]
              exact Nat.le_refl _
        · rw [List.length_map] at h2
          refine hZ _ _ ⟨s1, rfl, hs1, ea, wf1.rows, wlen ▸ wf1.rl, g1, ?_⟩
          rw [← e1]
          unfold stepW
          rw [if_neg fun z => h2 ?_]
          have t := congrArg List.length z.2
          rw [wlen] at t
          rw [t]
          rfl
      · rw [List.length_map] at h1
        refine hZ _ _ ⟨s1, rfl, hs1, ea, wf1.rows, wlen ▸ wf1.rl, g1, ?_⟩
        rw [← e1]
        unfold stepW
        rw [if_neg fun z => h1 ?_]
        rw [← rnow, z.1]
        rfl
    · clear hl hr1 obj1 rnow wlen eR eN
      rintro σ H2 ⟨s2, rfl, hs2, ea2, wf2, l2, g2, e2⟩
      have obj2 : H2 s.a = some (.ins A.CK s2.d (sF s2.n s2.pr s2.pw)) := ea2 ▸ hs2.obj
      refine ⟨_, rfl, s.a, A.CK, s2.d, _, _, rfl, obj2, T.clCK, T.nCK_rows, sF_w, s2.pw, rfl, ⟨_, SqL.of hs2.w⟩, ?_⟩
      refine for_list (K := K) (a := s2.pw) (xs := s2.rows.map fun r => V.ref r.a) (fun i σ H' => ∃ (v : Option V) (L : List WL), σ = [some (.ref s.a), v, none, none] ∧ StIs A.CB A.CR A.CK H' { s2 with rows := L ++ s2.rows.drop i } ∧ L.length = i ∧ L.map WL.abs = (s2.rows.take i).map (fun r => r.abs.next) ∧ L.map WL.a = (s2.rows.take i).map WL.a ∧ Goes s2.foot (SL.foot { s2 with rows := L ++ s2.rows.drop i }) H2 H')
        ⟨none, [], rfl, hs2, rfl, rfl, rfl, Goes.refl g2.nd⟩ ?_ ?_ ?_
      · rintro i σ H3 hi ⟨v, L, rfl, h3, el, eb, ec, g3⟩
        have z := h3.w
        have e : (L ++ s2.rows.drop i).map (fun r => V.ref r.a) = s2.rows.map fun r => V.ref r.a := by
          have e0 : ∀ l : List WL, l.map (fun r => V.ref r.a) = (l.map WL.a).map V.ref := fun l => by
            rw [List.map_map]
            rfl
          rw [e0, e0, List.map_append, ec, ← List.map_append, List.take_append_drop]
        exact SqL.of (e ▸ z)
      · rintro i y σ H3 hy ⟨v, L, rfl, h3, el, eb, ec, g3⟩
        obtain ⟨r, hr, rfl⟩ := map_at hy
        have hil := (List.getElem?_eq_some_iff.mp hr).1
        have hre := (List.getElem?_eq_some_iff.mp hr).2
        have ed : s2.rows.drop i = r :: s2.rows.drop (i + 1) := by
          rw [List.drop_eq_getElem_cons hil, hre]
        have hrow := h3.rw_ r (by rw [ed]; simp)
        have erows : ({ s2 with rows := L ++ s2.rows.drop i } : SL).rows = L ++ r :: s2.rows.drop (i + 1) := congrArg (L ++ ·) ed
        have ndr : r.foot.Nodup := by
          have z := g3.nd
          rw [SL.foot_rows erows] at z
          exact ((List.nodup_append.mp ((List.nodup_append.mp z).2.1)).1)
        have hrm : r ∈ s2.rows := List.mem_of_getElem? hr
        refine ⟨_, rfl, r, rfl, hrow, wf2 r.abs (List.mem_map.mpr ⟨r, hrm, rfl⟩), ndr, fun H4 r' hr4 ea4 eb4 g4 => ?_⟩
        obtain ⟨q1, q2⟩ := st_row (s := { s2 with rows := L ++ s2.rows.drop i }) h3 g3.nd erows hr4 ea4 g4
        have e5 : L ++ r' :: s2.rows.drop (i + 1) = (L ++ [r']) ++ s2.rows.drop (i + 1) := by simp
        rw [e5] at q1 q2
        refine ⟨_, L ++ [r'], rfl, q1, ?_, ?_, ?_, g3.tr q2⟩
        · simp [el]
        · rw [List.take_succ_eq_append_getElem hil, hre, List.map_append, List.map_append, eb]
          simp [eb4]
        · rw [List.take_succ_eq_append_getElem hil, hre, List.map_append, List.map_append, ec]
          simp [ea4]
      · rintro σ H3 ⟨v, L, rfl, h3, el, eb, ec, g3⟩
        rw [List.length_map] at h3 el eb ec g3
        rw [List.drop_length, List.append_nil] at h3 g3
        rw [List.take_length] at eb
        refine k H3 _ h3 ea2 ?_ (g2.tr g3)
        show Kg66.State.mk s2.n (s2.rounds.map RL.abs) (L.map WL.abs) = _
        rw [eb]
        unfold goOn nextAll
        rw [← e2]
        show _ = Kg66.State.mk s2.n (s2.rounds.map RL.abs) ((s2.rows.map WL.abs).map Kg66.Row.next)
        rw [List.map_map]
        rfl
end
end Wm
/-! # A new class; whether it is over; sums -/
namespace Wm
open PySem PySem.Spec PyProof.Rows L2
/-! ### a class as it begins -/
def begun (n : Nat) : Kg66.State := ⟨n, [Kg66.paired (Kg66.drawn n)], []⟩
def newS (n : Nat) : Kg66.State := goOn (begun n)
def evens : List (Option Nat) → Bool
  | a :: _ :: l => a.isSome && evens l
  | [] => true
  | _ => false
def chkN (n : Nat) : Bool := evens (Kg66.drawn n) && ((Kg66.paired (Kg66.drawn n)).length == 2 ^ (Kg66.size n - 1)) && decide (Kg66.size n ≤ 5) && ((Kg66.paired (Kg66.drawn n)).length != 1 || (Kg66.paired (Kg66.drawn n)).all fun b => b.b.isSome)
theorem chk_all : ∀ n, n < 33 → 2 ≤ n → chkN n = true := by decide +kernel
theorem evens_at : ∀ (l : List (Option Nat)), evens l = true → ∃ r, l.length = 2 * r ∧ ∀ i, i < r → ∃ n, l[2 * i]? = some (some n)
  | [], _ => ⟨0, rfl, fun i h => absurd h (by omega)⟩
  | [x], h => by cases h
  | a :: b :: l, h => by
    unfold evens at h
    rw [Bool.and_eq_true] at h
    obtain ⟨r, e, g⟩ := evens_at l h.2
    refine ⟨r + 1, by simp; omega, fun i hi => ?_⟩
    match i, hi with
    | 0, _ =>
      obtain ⟨n, en⟩ := Option.isSome_iff_exists.mp h.1
      exact ⟨n, by simp [en]⟩
    | i + 1, hi =>
      obtain ⟨n, en⟩ := g i (by omega)
      exact ⟨n, by rw [← en, show 2 * (i + 1) = 2 * i + 1 + 1 by omega]; simp⟩
theorem evens_fresh : ∀ (l : List (Option Nat)), evens l = true → ∀ b ∈ Kg66.paired l, ∃ x ob, b = Kg66.fresh (some x) ob
  | [], _, b, hb => nomatch hb
  | [x], h, _, _ => by cases h
  | x :: y :: l, h, b, hb => by
    unfold evens at h
    rw [Bool.and_eq_true] at h
    have hb' : b ∈ Kg66.fresh x y :: Kg66.paired l := hb
    rcases List.mem_cons.mp hb' with z | z
    · obtain ⟨n, en⟩ := Option.isSome_iff_exists.mp h.1
      exact ⟨n, y, by rw [z, en]⟩
    · exact evens_fresh l h.2 b z
theorem begun_wf {n : Nat} (h2 : 2 ≤ n) (h32 : n ≤ 32) : WfG (begun n) ∧ ∃ r, (Kg66.drawn n).length = 2 * r ∧ r ≤ 16 ∧ ∀ i, i < r → ∃ m, (Kg66.drawn n)[2 * i]? = some (some m) := by
  have c := chk_all n (by omega) h2
  unfold chkN at c
  rw [Bool.and_eq_true, Bool.and_eq_true, Bool.and_eq_true] at c
  obtain ⟨⟨⟨c1, c2⟩, c3⟩, c4⟩ := c
  have c2' := beq_iff_eq.mp c2
  have c3' := of_decide_eq_true c3
  have en : (begun n).now = Kg66.paired (Kg66.drawn n) := rfl
  have l16 : 2 ^ (Kg66.size n - 1) ≤ 2 ^ 4 := Nat.pow_le_pow_right (by decide) (by omega)
  have hf := evens_fresh _ c1
  obtain ⟨r, er, hr⟩ := evens_at _ c1
  refine ⟨⟨fun x hx b hb => ?_, ⟨Kg66.size n - 1, c2', by show _ + 1 ≤ 6; omega⟩, fun x hx => ?_, fun h1 f hf => ?_, fun x hx => (nomatch hx), Nat.zero_le _, fun z => absurd rfl z, h32⟩, r, er, ?_, hr⟩
  · rw [List.mem_singleton.mp hx] at hb
    obtain ⟨x, ob, rfl⟩ := hf b hb
    exact wfX_fresh x ob
  · rw [List.mem_singleton.mp hx, c2']
    exact l16
  · rw [en] at h1 hf
    rw [Bool.or_eq_true] at c4
    rcases c4 with z | z
    · rw [h1] at z
      cases z
    · exact List.all_eq_true.mp z f hf
  · have e := paired_len r _ er
    omega
section
variable {P : Program} {w : World} {K : PySem.W.Frag} {mg : Str → Option Value} {base : Heap} {A : Ads}
def sp_new_bracket (K : PySem.W.Frag) (A : Ads) : Sp := fun vs H Q _ => ∃ (n : Nat), vs = [.int (n : Nat)] ∧ 2 ≤ n ∧ n ≤ 32 ∧
  ∀ (H' : Hp) (s : SL), StIs A.CB A.CR A.CK H' s → s.abs = newS n → Same H H' → (∀ q ∈ s.foot, H q = none) → s.foot.Nodup → Q (.ref s.a) H'
theorem ok_new_bracket (T : Txt K mg A) (D_Bracket : OwnC P w K mg base A.CK 1 "Bracket" PBracket_init (sp_Bracket_init K A)) (D_go_on : Own P w K mg base CX0 5 "go_on" Pgo_on (sp_go_on K A)) (D_round_of : Own P w K mg base CX0 4 "round_of" Pround_of (sp_round_of K A)) (D_seats : Own P w K mg base CX0 1 "seats" Pseats (sp_seats K A)) {f : Addr} {fd : FuncData} (F : Fun K "new_bracket" "new_bracket" snew_bracket f fd) : FnOk P w K mg base CX0 6 f fd Pnew_bracket (sp_new_bracket K A) := by
  refine F.ok scnew_bracket (fun vs H Q E h => ?_) (fun cdv Ar outer s H vs Q E hr h => ⟨_, (pss_cons (ps_set (i := 1) scnew_bracket.nd rfl (Or.inl rfl) (pe_new D_Bracket (hr.mono (by decide)) (by exact (pa_cons (pv 0) pa_nil))))
      (pss_cons (ps_expr (pe_bm PySem.F.plainAttrs_list PySem.F.slot_list_append PySem.F.type_list_append mt_append (pe_fld (pv 1) rfl) (by exact (pa_cons (pe_own D_round_of (hr.mono (by decide)) (by exact (pa_cons (pe_lc (own := [("lot", 2)]) (g := gName 2) (tt := tYes) (te := (tIf (tTest (tOp (rI0 fun i j => V.bl (decide (i ≤ j))) (tVar 2) (tVar 0))) (tOp (rI0 fun i j => V.int (i - j)) (tVar 2) (tC (.int 1))) (tC (.int (-1))))) rfl scnew_bracket.nd (pi_list (pe_own D_seats (hr.mono (by decide)) (by exact (pa_cons (pv 0) pa_nil)))) (blkOk_by (own := [("lot", 2)]) (N := Nnew_bracket) (sc := defScope snew_bracket) (by decide +kernel)) (fun _ _ _ _ _ => by exact ((pg_name (i := 2) scnew_bracket.nd rfl (Or.inl rfl)))) (fun _ _ _ _ _ => by exact (pts_nil)) (fun _ _ _ _ _ => by exact ((pe_ifExp (pt_cmpR op_le (pv 2) (pv 0) (nomark _)) (pe_op op_sub (pv 2) pe_int) (pe_gl T.gNOBODY))))) pa_nil))) pa_nil))))
      (pss_cons (ps_expr (pe_own D_go_on (hr.mono (by decide)) (by exact (pa_cons (pv 1) pa_nil))))
      (pss_one (ps_ret (pv 1)))))), ?_⟩)
  · obtain ⟨_, rfl, _⟩ := h
    rfl
  obtain ⟨n, rfl, h2, h32, k⟩ := h
  have big : (1000 : Nat) < sizeLine := by decide
  obtain ⟨wf, r, er, hr16, hr⟩ := begun_wf h2 h32
  refine ⟨_, rfl, fun p d hp hd ne => ?_⟩
  refine ⟨p, d, n, rfl, upd_same, fun H1 pr pw o1 o2 o3 hpr hpw npp kp => ⟨rfl, ?_⟩⟩
  have s1 : Same H H1 := fun q o hq => kp q o (by rw [upd_ne (ne_of_none hq hp), upd_ne (ne_of_none hq hd)]; exact hq) (fun z => by rw [List.mem_singleton.mp z, hp] at hq; cases hq)
  have pr0 : H pr = none := NdefX.upd_none (NdefX.upd_none hpr)
  have pw0 : H pw = none := NdefX.upd_none (NdefX.upd_none hpw)
  have n1 : p ≠ pr := ne_of o1 o2 (fun z => by cases z)
  have n2 : p ≠ pw := ne_of o1 o3 (fun z => by cases z)
  refine ⟨_, rfl, p, A.CK, d, _, _, rfl, o1, T.clCK, T.nCK_rounds, sF_r, .inl ⟨rfl, _, SqL.of o2⟩, ?_⟩
  refine ⟨_, rfl, n, rfl, h32, fun H2 ps s2 nps fps => ?_⟩
  refine ⟨ps, rfl, ⟨_, SqL.of fps⟩, fun D hD => ?_⟩
  refine lc_map (K := K) (a := ps) (as := Kg66.seats (Kg66.size n)) (fun x => .int (Kg66.opt (if x ≤ n then some (x - 1) else none))) hD (SqL.of fps) (by rw [List.length_map]) ?_ (fun j v y H3 hv hy hm s3 Y hY => ?_) gName_mono fun H3 s3 e3 => ?_
  · have e : (Kg66.drawn n).length = (Kg66.seats (Kg66.size n)).length := by
      unfold Kg66.drawn
      rw [List.length_map]
    omega
  · have ev : v = .int (y : Nat) := by
      rw [List.getElem?_map, hy] at hv
      exact (Option.some.inj hv).symm
    subst ev
    have y1 := seats_le _ y hm
    refine ⟨rfl, _, rfl, _, rfl, _, _, rfl, rfl, _, rfl, if_d (fun h1 => ?_) (fun h1 => ?_)⟩
    · have g := hY H3 (Same.refl _)
      rw [if_pos (by omega)] at g
      refine ⟨_, rfl, _, _, rfl, rfl, ?_⟩
      have e : (y : Int) - 1 = ((y - 1 : Nat) : Int) := by omega
      show Y (V.int ((y : Int) - 1)) H3
      rw [e]
      exact g
    · have g := hY H3 (Same.refl _)
      rw [if_neg (by omega)] at g
      exact g
  · refine ⟨D, Kg66.drawn n, r, rfl, (by rw [e3]; unfold Kg66.drawn; rw [List.map_map]; rfl), er, by omega, hr, fun H4 x hx ex s4 fr ndx => ?_⟩
    have s14 := s2.trans (s3.trans s4)
    refine ⟨pr, _, _, rfl, rfl, s14 _ _ o2, (by show 0 < sizeLine; decide), ?_⟩
    have h0 : StIs A.CB A.CR A.CK H1 ⟨p, d, pr, pw, n, [], []⟩ := ⟨o1, o2, o3, by simp, by simp⟩
    have nd0 : (SL.foot ⟨p, d, pr, pw, n, [], []⟩).Nodup := by simp [SL.foot, n1, n2, npp]
    have kk : Keep [pr] H4 (upd H4 pr (.lst ([] ++ [V.ref x.p]))) := Keep.set (by simp)
    obtain ⟨q1, q2⟩ := st_round (x := x) h0 nd0 hx s14 (fun q hq => (s2.trans s3).free (fr q hq)) ndx kk (by rw [upd_same]; rfl)
    have eabs : SL.abs { (⟨p, d, pr, pw, n, [], []⟩ : SL) with rounds := [] ++ [x] } = begun n := by
      show Kg66.State.mk n [x.abs] [] = _
      rw [ex]
      rfl
    refine ⟨_, rfl, _, rfl, q1, eabs ▸ wf, q2.nd, fun H6 s' h6 ea6 eb6 g6 => ⟨_, rfl, ?_⟩⟩
    rw [eabs] at eb6
    have gg := q2.tr g6
    have fresh0 : ∀ q ∈ SL.foot ⟨p, d, pr, pw, n, [], []⟩, H q = none := fun q hq => by
      simp only [SL.foot, List.flatMap_nil, List.append_nil, List.mem_cons, List.not_mem_nil, or_false] at hq
      rcases hq with z | z | z <;> rw [z] <;> assumption
    have ea' : s'.a = p := ea6
    rw [← ea']
    refine k H6 s' h6 eb6 (fun q o hq => gg.keep q o (s1 _ _ hq) fun z => by rw [fresh0 q z] at hq; cases hq) (fun q hq => ?_) gg.nd
    rcases gg.new q hq with z | z
    · exact fresh0 q z
    · exact s1.free z
/-! ### whether it is over -/
structure WfT (t : Kg66.State) : Prop where
  g : WfG t
  st1 : 1 < t.now.length → allW t.now = false
  rw2 : t.now.length = 1 → t.rows.length = 2
  st2 : ∀ r ∈ t.rows, r.next = r
def sp_is_over (K : PySem.W.Frag) (A : Ads) : Sp := fun vs H Q _ => ∃ (s : SL), vs = [.ref s.a] ∧ StIs A.CB A.CR A.CK H s ∧ WfT s.abs ∧ ∀ H' : Hp, Same H H' → Q (.bl s.abs.done) H'
theorem done_eq {t : Kg66.State} (h : WfT t) : t.done = (!(t.rows.length == 0) && (allW t.now && t.rows.all Kg66.Row.done)) := by
  unfold Kg66.State.done
  cases e : t.now with
  | nil =>
    obtain ⟨k, z, _⟩ := h.g.pow
    rw [e] at z
    have : 0 < 2 ^ k := Nat.pow_pos (by decide)
    simp at z
    omega
  | cons f l =>
    cases l with
    | nil =>
      have z := h.rw2 (by rw [e]; rfl)
      simp [z]
    | cons f' l =>
      have hr : t.rows = [] := by
        cases er : t.rows with
        | nil => rfl
        | cons a b =>
          have z := h.g.rn (by rw [er]; simp)
          rw [e] at z
          simp at z
      rw [hr]
      rfl
theorem ok_is_over (T : Txt K mg A) (D_all_won : Own P w K mg base CX0 1 "all_won" Pall_won (sp_all_won K A)) {f : Addr} {fd : FuncData} (F : Fun K "is_over" "is_over" sis_over f fd) : FnOk P w K mg base CX0 2 f fd Pis_over (sp_is_over K A) := by
  refine F.ok scis_over (fun vs H Q E h => ?_) (fun cdv Ar outer s H vs Q E hr h => ⟨_, (pss_cons (ps_if (PW.pt (pw_or (pt_cmpR op_eq (pe_callB call_len_seq rfl T.len (by decide +kernel) (by exact (pa_cons (pe_fld (pv 0) rfl) pa_nil))) pe_int (nomark _)) (pw_or1 (pt_not (pt_val (pe_own D_all_won (hr.mono (by decide)) (by exact (pa_cons (pe_ix ix_list (pe_fld (pv 0) rfl) (pe_un un_neg pe_int) (fun _ _ => rfl)) pa_nil)))))))) (pss_one (ps_ret pe_bl)) pss_nil)
      (pss_one (ps_ret (pe_callB (cr_all rfl) rfl T.all (by decide +kernel) (by exact (pa_cons (pe_lc (own := [("row", 1)]) (g := gName 1) (tt := tYes) (te := (tAndV (tOp rEq (tCB (rLen K) (tCons (tFld K (tVar 1) "waiting") tNil)) (tC (.int 0))) (tCall (sp_all_won K A) [] E0 (tCons (tFld K (tVar 1) "bouts") tNil)))) rfl scis_over.nd (pi_list (pe_fld (pv 0) rfl)) (blkOk_by (own := [("row", 1)]) (N := Nis_over) (sc := defScope sis_over) (by decide +kernel)) (fun _ _ _ _ _ => by exact ((pg_name (i := 1) scis_over.nd rfl (Or.inl rfl)))) (fun _ _ _ _ _ => by exact (pts_nil)) (fun _ _ _ _ _ => by exact ((pe_and (pe_cmpR op_eq (pe_callB call_len_seq rfl T.len (by decide +kernel) (by exact (pa_cons (pe_fld (pv 1) rfl) pa_nil))) pe_int (nomark _)) (pe_one (pe_own D_all_won (hr.mono (by decide)) (by exact (pa_cons (pe_fld (pv 1) rfl) pa_nil)))))))) pa_nil)))))), ?_⟩)
  · obtain ⟨_, rfl, _⟩ := h
    rfl
  obtain ⟨s, rfl, hs, wf, k⟩ := h
  obtain ⟨R, r, eR, eN⟩ := SL.snoc wf.g
  have hl := hs.l
  rw [eR, List.map_append] at hl
  have hr1 := hs.rd r (by rw [eR]; simp)
  have rlen : r.bs.length ≤ 16 := by
    have z := wf.g.lens r.abs (List.mem_map.mpr ⟨r, by rw [eR]; simp, rfl⟩)
    unfold RL.abs at z
    rwa [List.length_map] at z
  have wlen : s.abs.rows.length = s.rows.length := by
    show (s.rows.map WL.abs).length = _
    rw [List.length_map]
  have eall : (r.bs.all fun x => x.b.won.isSome) = allW s.abs.now := by
    rw [eN]
    exact all_abs _
  rw [done_eq wf] at k
  refine ⟨_, rfl, s.a, A.CK, s.d, _, _, rfl, hs.obj, T.clCK, T.nCK_rows, sF_w, s.pw, _, rfl, .inl (SqL.of hs.w), rfl, _, rfl, if_d (fun h1 => ?_) (fun h1 => ?_)⟩
  · rw [List.length_map] at h1
    have e0 : s.abs.rows.length = 0 := by have z := V.int.inj h1; omega
    have g := k H (Same.refl _)
    rw [e0] at g
    exact g
  · rw [List.length_map] at h1
    have e0 : (s.abs.rows.length == 0) = false := beq_eq_false_iff_ne.mpr fun z => h1 (by rw [← wlen, z]; rfl)
    rw [e0] at k
    refine ⟨_, rfl, s.a, A.CK, s.d, _, _, rfl, hs.obj, T.clCK, T.nCK_rounds, sF_r, 1, rfl, s.pr, _, -1, _, rfl, rfl, SqL.of hl, atI_last _ _, ?_⟩
    refine ⟨r.p, r.bs, rfl, hr1.l, (by omega), hr1.at_, fun H1 s1 => ⟨_, rfl, ite_d (fun h2 => ?_) (fun h2 => ?_)⟩⟩
    · rw [eall] at h2
      have h2' : allW s.abs.now = false := by
        cases e : allW s.abs.now with
        | false => rfl
        | true =>
          rw [e] at h2
          cases h2
      rw [h2'] at k
      exact k H1 s1
    · rw [eall] at h2
      have h2' : allW s.abs.now = true := by
        cases e : allW s.abs.now with
        | true => rfl
        | false =>
          rw [e] at h2
          cases h2
      rw [h2'] at k
      have hs1 := hs.same s1
      refine ⟨_, rfl, s.a, A.CK, s.d, _, _, rfl, hs1.obj, T.clCK, T.nCK_rows, sF_w, s.pw, rfl, ⟨_, SqL.of hs1.w⟩, fun D hD => ?_⟩
      refine lc_map (K := K) (a := s.pw) (as := s.rows) (fun y => .bl y.abs.done) hD (SqL.of hs1.w) (by rw [List.length_map]) (by have := wf.g.rl; omega) (fun j v y H2 hv hy hm s2 Y hY => ?_) gName_mono fun H2 s2 e2 => ?_
      · have ev : v = .ref y.a := by
          rw [List.getElem?_map, hy] at hv
          exact (Option.some.inj hv).symm
        subst ev
        have h2 := (hs1.rw_ y hm).same s2
        have wfy := wf.g.rows y.abs (List.mem_map.mpr ⟨y, hm, rfl⟩)
        refine ⟨rfl, ?_⟩
        refine ⟨_, rfl, y.a, A.CR, y.d, _, _, rfl, h2.obj, T.clCR, T.nCR_waiting, rF_w, y.pw, _, rfl, .inl (SqL.of h2.w), rfl, _, rfl, if_d (fun h3 => ?_) (fun h3 => ?_)⟩
        · rw [List.length_map] at h3
          have e3 : y.ws = [] := List.eq_nil_of_length_eq_zero (by have z := V.int.inj h3; omega)
          refine ⟨_, rfl, y.a, A.CR, y.d, _, _, rfl, h2.obj, T.clCR, T.nCR_bouts, rF_b, ?_⟩
          have sz := wfy.sz
          have e4 : y.abs.bouts.length = y.bs.length := by
            show (y.bs.map BL.b).length = _
            rw [List.length_map]
          refine ⟨y.pb, y.bs, rfl, h2.l, (by omega), h2.at_, fun H3 s3 => ?_⟩
          have g := hY H3 s3
          have ed : y.abs.done = y.bs.all fun x => x.b.won.isSome := by
            unfold Kg66.Row.done
            have e5 : y.abs.waits = [] := e3
            rw [e5, all_abs]
            rfl
          rw [ed] at g
          exact g
        · rw [List.length_map] at h3
          have e3 : y.ws ≠ [] := fun z => h3 (by rw [z]; rfl)
          have ed : y.abs.done = false := by
            unfold Kg66.Row.done
            have e5 : y.abs.waits.isEmpty = false := by
              show y.ws.isEmpty = false
              cases ey : y.ws with
              | nil => exact absurd ey e3
              | cons a l => rfl
            rw [e5]
            rfl
          have g := hY H2 (Same.refl _)
          rw [ed] at g
          exact g
      · refine ⟨D, s.rows.map (fun y => y.abs.done), rfl, SqL.of (by rw [e2, List.map_map] <;> rfl), ?_⟩
        have g := k H2 (s1.trans s2)
        have e : (s.rows.map fun y => y.abs.done).all id = s.abs.rows.all Kg66.Row.done := by
          show _ = (s.rows.map WL.abs).all Kg66.Row.done
          simp [List.all_map, Function.comp_def]
        rw [← e] at g
        exact g
end
end Wm
/-! # All bouts; sums; a key -/
namespace Wm
open PySem PySem.Spec PyProof.Rows L2
def blsOf (s : SL) : List BL := s.rounds.flatMap RL.bs ++ s.rows.flatMap WL.bs
theorem flatMap_map' {al be ga : Type} (f : al → List be) (g : be → ga) : ∀ l : List al, (l.flatMap f).map g = l.flatMap fun x => (f x).map g
  | [] => rfl
  | a :: l => by rw [List.flatMap_cons, List.map_append, flatMap_map' f g l, List.flatMap_cons]
theorem bls_abs (s : SL) : (blsOf s).map BL.b = s.abs.bouts := by
  unfold blsOf Kg66.State.bouts
  rw [List.map_append, flatMap_map', flatMap_map']
  have e1 : ∀ l : List RL, (l.flatMap fun x => (RL.bs x).map BL.b) = (l.map RL.abs).flatten := fun l => by
    induction l with
    | nil => rfl
    | cons r l ih => rw [List.flatMap_cons, List.map_cons, List.flatten_cons, ih]; rfl
  have e2 : ∀ l : List WL, (l.flatMap fun x => (WL.bs x).map BL.b) = (l.map WL.abs).flatMap Kg66.Row.bouts := fun l => by
    induction l with
    | nil => rfl
    | cons r l ih => rw [List.flatMap_cons, List.map_cons, List.flatMap_cons, ih]; rfl
  rw [e1, e2]
  rfl
theorem bls_is {CB CR CK : Addr} {H : Hp} {s : SL} (h : StIs CB CR CK H s) : ∀ x ∈ blsOf s, BoutIs CB H x := fun x hx => by
  unfold blsOf at hx
  rcases List.mem_append.mp hx with z | z
  · obtain ⟨r, hr, hx⟩ := List.mem_flatMap.mp z
    exact (h.rd r hr).at_ x hx
  · obtain ⟨r, hr, hx⟩ := List.mem_flatMap.mp z
    exact (h.rw_ r hr).at_ x hx
theorem bls_wf {s : SL} (h : WfG s.abs) : ∀ x ∈ blsOf s, WfX x.b := fun x hx => by
  unfold blsOf at hx
  rcases List.mem_append.mp hx with z | z
  · obtain ⟨r, hr, hx⟩ := List.mem_flatMap.mp z
    exact rd_bl h r hr x hx
  · obtain ⟨r, hr, hx⟩ := List.mem_flatMap.mp z
    exact (h.rows r.abs (List.mem_map.mpr ⟨r, hr, rfl⟩)).bt x.b (List.mem_map.mpr ⟨x, hx, rfl⟩)
theorem flatMap_le {al be : Type} (f : al → List be) (c : Nat) : ∀ l : List al, (∀ x ∈ l, (f x).length ≤ c) → (l.flatMap f).length ≤ l.length * c
  | [], _ => Nat.zero_le _
  | a :: l, h => by
    have h1 := h a List.mem_cons_self
    have h2 := flatMap_le f c l fun x hx => h x (List.mem_cons_of_mem _ hx)
    rw [List.flatMap_cons, List.length_append, List.length_cons, Nat.succ_mul]
    omega
theorem rd_len {s : SL} (h : WfG s.abs) : s.rounds.length ≤ 6 ∧ (∀ r ∈ s.rounds, r.bs.length ≤ 16) ∧ s.rows.length ≤ 2 ∧ ∀ r ∈ s.rows, r.bs.length ≤ 200 := by
  refine ⟨?_, fun r hr => ?_, ?_, fun r hr => ?_⟩
  · obtain ⟨k0, _, z⟩ := h.pow
    have e : s.abs.rounds.length = s.rounds.length := by
      show (s.rounds.map RL.abs).length = _
      rw [List.length_map]
    omega
  · have z := h.lens r.abs (List.mem_map.mpr ⟨r, hr, rfl⟩)
    unfold RL.abs at z
    rwa [List.length_map] at z
  · have z := h.rl
    have e : s.abs.rows.length = s.rows.length := by
      show (s.rows.map WL.abs).length = _
      rw [List.length_map]
    omega
  · have z := (h.rows r.abs (List.mem_map.mpr ⟨r, hr, rfl⟩)).sz
    have e : r.abs.bouts.length = r.bs.length := by
      show (r.bs.map BL.b).length = _
      rw [List.length_map]
    omega
section
variable {P : Program} {w : World} {K : PySem.W.Frag} {mg : Str → Option Value} {base : Heap} {A : Ads}
def sp_all_bouts (K : PySem.W.Frag) (A : Ads) : Sp := fun vs H Q _ => ∃ (s : SL), vs = [.ref s.a] ∧ StIs A.CB A.CR A.CK H s ∧ WfG s.abs ∧
  ∀ (H' : Hp) (p : Addr), Same H H' → H p = none → H' p = some (.lst ((blsOf s).map fun x => V.ref x.a)) → Q (.ref p) H'
theorem ok_all_bouts (T : Txt K mg A)  {f : Addr} {fd : FuncData} (F : Fun K "all_bouts" "all_bouts" sall_bouts f fd) : FnOk P w K mg base CX0 1 f fd Pall_bouts (sp_all_bouts K A) := by
  refine F.ok scall_bouts (fun vs H Q E h => ?_) (fun cdv Ar outer s H vs Q E hr h => ⟨_, (pss_cons (ps_set (i := 1) scall_bouts.nd rfl (Or.inl rfl) (pe_lst pa_nil))
      (pss_cons (ps_for PassesOwn.never rfl (pi_list (pe_fld (pv 0) rfl)) (pg_name (i := 2) scall_bouts.nd rfl (Or.inl rfl)) (pss_one (ps_expr (pe_bm PySem.F.plainAttrs_list PySem.F.slot_list_extend PySem.F.type_list_extend mt_extend (pv 1) (by exact (pa_cons (pv 2) pa_nil))))))
      (pss_cons (ps_for PassesOwn.never rfl (pi_list (pe_fld (pv 0) rfl)) (pg_name (i := 3) scall_bouts.nd rfl (Or.inl rfl)) (pss_one (ps_expr (pe_bm PySem.F.plainAttrs_list PySem.F.slot_list_extend PySem.F.type_list_extend mt_extend (pv 1) (by exact (pa_cons (pe_fld (pv 3) rfl) pa_nil))))))
      (pss_one (ps_ret (pv 1)))))), ?_⟩)
  · obtain ⟨_, rfl, _⟩ := h
    rfl
  obtain ⟨s, rfl, hs, wf, k⟩ := h
  obtain ⟨w1, w2, w3, w4⟩ := rd_len wf
  have big : (1000 : Nat) < sizeLine := by decide
  have t1 : ∀ i, ((s.rounds.take i).flatMap RL.bs).length ≤ 96 := fun i => by
    refine Nat.le_trans (flatMap_le _ 16 _ fun x hx => w2 x (List.mem_of_mem_take hx)) ?_
    rw [List.length_take]
    omega
  have t2 : ∀ i, ((s.rows.take i).flatMap WL.bs).length ≤ 400 := fun i => by
    refine Nat.le_trans (flatMap_le _ 200 _ fun x hx => w4 x (List.mem_of_mem_take hx)) ?_
    rw [List.length_take]
    omega
  refine ⟨Nat.zero_le _, fun p hp => ?_⟩
  generalize e1 : upd H p _ = H1
  have s1 : Same H H1 := e1 ▸ same_new hp
  have f1 : H1 p = some (.lst []) := e1 ▸ upd_same
  refine ⟨_, rfl, s.a, A.CK, s.d, _, _, rfl, s1 _ _ hs.obj, T.clCK, T.nCK_rounds, sF_r, s.pr, rfl, ⟨_, SqL.of (s1 _ _ hs.l)⟩, ?_⟩
  refine for_list (K := K) (a := s.pr) (xs := s.rounds.map fun r => V.ref r.p) (fun i σ H' => ∃ v : Option V, σ = [some (.ref s.a), some (.ref p), v, none] ∧ Same H H' ∧ H' p = some (.lst (((s.rounds.take i).flatMap RL.bs).map fun x => V.ref x.a)))
    ⟨none, rfl, s1, f1⟩ (fun i σ H' _ ⟨_, _, q, _⟩ => SqL.of (q _ _ hs.l)) ?_ ?_
  · rintro i y σ H2 hy ⟨v, rfl, s2, f2⟩
    obtain ⟨r, hr, rfl⟩ := map_at hy
    have hil := (List.getElem?_eq_some_iff.mp hr).1
    have hre := (List.getElem?_eq_some_iff.mp hr).2
    have hrm := List.mem_of_getElem? hr
    have et : (s.rounds.take (i + 1)).flatMap RL.bs = (s.rounds.take i).flatMap RL.bs ++ r.bs := by
      rw [List.take_succ_eq_append_getElem hil, hre, List.flatMap_append]
      simp
    refine ⟨_, rfl, .inl ⟨rfl, _, SqL.of f2⟩, _, rfl, p, r.p, _, _, rfl, rfl, f2, s2 _ _ (hs.rd r hrm).l, ?_, ?_⟩
    · rw [List.length_map, List.length_map]
      have := t1 i
      have := w2 r hrm
      omega
    · refine ⟨_, rfl, same_set s2 hp, ?_⟩
      rw [upd_same, et, List.map_append]
  · rintro σ H2 ⟨v, rfl, s2, f2⟩
    rw [List.length_map, List.take_length] at f2
    have g1 : (s.rounds.flatMap RL.bs).length ≤ 96 := by
      have z := t1 s.rounds.length
      rwa [List.take_length] at z
    refine ⟨_, rfl, s.a, A.CK, s.d, _, _, rfl, s2 _ _ hs.obj, T.clCK, T.nCK_rows, sF_w, s.pw, rfl, ⟨_, SqL.of (s2 _ _ hs.w)⟩, ?_⟩
    refine for_list (K := K) (a := s.pw) (xs := s.rows.map fun r => V.ref r.a) (fun i σ H' => ∃ v v' : Option V, σ = [some (.ref s.a), some (.ref p), v, v'] ∧ Same H H' ∧ H' p = some (.lst ((s.rounds.flatMap RL.bs ++ (s.rows.take i).flatMap WL.bs).map fun x => V.ref x.a)))
      ⟨v, none, rfl, s2, by rw [f2]; simp⟩ (fun i σ H' _ ⟨_, _, _, q, _⟩ => SqL.of (q _ _ hs.w)) ?_ ?_
    · rintro i y σ H3 hy ⟨v, v', rfl, s3, f3⟩
      obtain ⟨r, hr, rfl⟩ := map_at hy
      have hil := (List.getElem?_eq_some_iff.mp hr).1
      have hre := (List.getElem?_eq_some_iff.mp hr).2
      have hrm := List.mem_of_getElem? hr
      have hrow := hs.rw_ r hrm
      have et : (s.rows.take (i + 1)).flatMap WL.bs = (s.rows.take i).flatMap WL.bs ++ r.bs := by
        rw [List.take_succ_eq_append_getElem hil, hre, List.flatMap_append]
        simp
      refine ⟨_, rfl, .inl ⟨rfl, _, SqL.of f3⟩, _, rfl, r.a, A.CR, r.d, _, _, rfl, s3 _ _ hrow.obj, T.clCR, T.nCR_bouts, rF_b, p, r.pb, _, _, rfl, rfl, f3, s3 _ _ hrow.l, ?_, ?_⟩
      · rw [List.length_map, List.length_map, List.length_append]
        have := t2 i
        have := w4 r hrm
        omega
      · refine ⟨_, _, rfl, same_set s3 hp, ?_⟩
        rw [upd_same, et, ← List.map_append, List.append_assoc]
    · rintro σ H3 ⟨v, v', rfl, s3, f3⟩
      rw [List.length_map, List.take_length] at f3
      exact ⟨_, rfl, k H3 p s3 hp f3⟩
/-! ### sums -/
def ctr (g : Kg66.Bout → Nat → Nat) (f : Nat) (b : Kg66.Bout) (j : Nat) : Nat := (if 0 < j ∧ b.a = some f then g b 0 else 0) + (if 1 < j ∧ b.b = some f then g b 1 else 0)
def part (g : Kg66.Bout → Nat → Nat) (f : Nat) (l : List BL) : Nat := (l.map fun x => ctr g f x.b 2).sum
theorem ctr_zero (g : Kg66.Bout → Nat → Nat) (f : Nat) (b : Kg66.Bout) : ctr g f b 0 = 0 := by simp [ctr]
theorem ctr_succ (g : Kg66.Bout → Nat → Nat) (f : Nat) (b : Kg66.Bout) (j : Nat) (h : j < 2) : ctr g f b (j + 1) = ctr g f b j + (if (if j = 0 then b.a else b.b) = some f then g b j else 0) := by
  have hj : j = 0 ∨ j = 1 := by omega
  rcases hj with z | z <;> subst z <;> simp [ctr]
theorem part_snoc (g : Kg66.Bout → Nat → Nat) (f : Nat) (l : List BL) (x : BL) : part g f (l ++ [x]) = part g f l + ctr g f x.b 2 := by
  simp [part]
def gFalls (b : Kg66.Bout) (k : Nat) : Nat := if b.won = some (k, 2) then 1 else 0
theorem part_sum (g : Kg66.Bout → Nat → Nat) (f : Nat) (s : SL) : part g f (blsOf s) = Kg66.sumOver s.abs f g := by
  unfold part Kg66.sumOver
  rw [← bls_abs, List.map_map]
  refine congrArg List.sum (congrFun (congrArg List.map (funext fun x => ?_)) _)
  simp [ctr]
def sums3 (t : Kg66.State) (f : Nat) : List Int := [(Kg66.sumOver t f Kg66.Bout.classed : Nat), (Kg66.sumOver t f gFalls : Nat), (Kg66.sumOver t f Kg66.Bout.points : Nat)]
def sp_sums_of (K : PySem.W.Frag) (A : Ads) : Sp := fun vs H Q _ => ∃ (s : SL) (f : Nat), vs = [.ref s.a, .int (f : Nat)] ∧ StIs A.CB A.CR A.CK H s ∧ WfG s.abs ∧
  ∀ (H' : Hp) (p : Addr), Same H H' → H p = none → H' p = some (.lst ((sums3 s.abs f).map V.int)) → Q (.ref p) H'
theorem ok_sums_of (T : Txt K mg A) (D_all_bouts : Own P w K mg base CX0 1 "all_bouts" Pall_bouts (sp_all_bouts K A)) (D_order_count : Own P w K mg base CX0 3 "order_count" Porder_count (sp_order_count K A)) (D_points_of : Own P w K mg base CX0 2 "points_of" Ppoints_of (sp_points_of K A)) {f : Addr} {fd : FuncData} (F : Fun K "sums_of" "sums_of" ssums_of f fd) : FnOk P w K mg base CX0 4 f fd Psums_of (sp_sums_of K A) := by
  refine F.ok scsums_of (fun vs H Q E h => ?_) (fun cdv Ar outer s H vs Q E hr h => ⟨_, (pss_cons (ps_set (i := 2) scsums_of.nd rfl (Or.inl rfl) pe_int)
      (pss_cons (ps_set (i := 3) scsums_of.nd rfl (Or.inl rfl) pe_int)
      (pss_cons (ps_set (i := 4) scsums_of.nd rfl (Or.inl rfl) pe_int)
      (pss_cons (ps_for PassesOwn.never rfl (pi_list (pe_own D_all_bouts (hr.mono (by decide)) (by exact (pa_cons (pv 0) pa_nil)))) (pg_name (i := 5) scsums_of.nd rfl (Or.inl rfl)) (pss_one (ps_for PassesOwn.never rfl (pi_tup (pe_tup (by exact (pa_cons pe_int (pa_cons pe_int pa_nil))))) (pg_name (i := 6) scsums_of.nd rfl (Or.inl rfl)) (pss_one (ps_if (pt_cmpR op_eq (pe_ix ix_tup (pe_fld (pv 5) rfl) (pv 6) (fun _ _ => rfl)) (pv 1) (nomark _)) (pss_cons (ps_aug (i := 2) scsums_of.nd rfl (Or.inl rfl) (pe_own D_order_count (hr.mono (by decide)) (by exact (pa_cons (pv 5) (pa_cons (pv 6) pa_nil)))) ip_add)
      (pss_cons (ps_aug (i := 4) scsums_of.nd rfl (Or.inl rfl) (pe_own D_points_of (hr.mono (by decide)) (by exact (pa_cons (pv 5) (pa_cons (pv 6) pa_nil)))) ip_add)
      (pss_one (ps_if (PW.pt (pw_and (pt_cmpR op_eq (pe_fld (pv 5) rfl) (pv 6) (nomark _)) (pw_and1 (pt_cmpR op_eq (pe_fld (pv 5) rfl) (pe_gl T.gFALL) (nomark _))))) (pss_one (ps_aug (i := 3) scsums_of.nd rfl (Or.inl rfl) pe_int ip_add)) pss_nil)))) pss_nil)))))
      (pss_one (ps_ret (pe_lst (by exact (pa_cons (pv 2) (pa_cons (pv 3) (pa_cons (pv 4) pa_nil))))))))))), ?_⟩)
  · obtain ⟨_, _, rfl, _⟩ := h
    rfl
  obtain ⟨s, f, rfl, hs, wf, k⟩ := h
  refine ⟨_, rfl, s, rfl, hs, wf, fun H1 pb s1 npb f1 => ?_⟩
  refine ⟨pb, rfl, ⟨_, SqL.of f1⟩, ?_⟩
  refine for_list (K := K) (a := pb) (xs := (blsOf s).map fun x => V.ref x.a) (fun i σ H' => ∃ v v' : Option V, σ = [some (.ref s.a), some (.int (f : Nat)), some (.int (part Kg66.Bout.classed f ((blsOf s).take i) : Nat)), some (.int (part gFalls f ((blsOf s).take i) : Nat)), some (.int (part Kg66.Bout.points f ((blsOf s).take i) : Nat)), v, v'] ∧ Same H1 H')
    ⟨none, none, rfl, Same.refl _⟩ (fun i σ H' _ ⟨_, _, _, q⟩ => SqL.of (q _ _ f1)) ?_ ?_
  · rintro i y σ H2 hy ⟨v, v', rfl, s2⟩
    obtain ⟨x, hx, rfl⟩ := map_at hy
    have hil := (List.getElem?_eq_some_iff.mp hx).1
    have hxe := (List.getElem?_eq_some_iff.mp hx).2
    have hxm := List.mem_of_getElem? hx
    have hb := (bls_is hs x hxm).same (s1.trans s2)
    have wfx := bls_wf wf x hxm
    have et : (blsOf s).take (i + 1) = (blsOf s).take i ++ [x] := by
      rw [List.take_succ_eq_append_getElem hil, hxe]
    refine ⟨(by show 2 ≤ sizeLine; decide), fun p2 hp2 => ?_⟩
    generalize e3 : upd H2 p2 _ = H3
    have s3 : Same H2 H3 := e3 ▸ same_new hp2
    have f3 : H3 p2 = some (.tup ([0, 1].map fun n => V.int (n : Nat))) := e3 ▸ upd_same
    refine ⟨p2, rfl, ⟨_, SqT.of f3⟩, ?_⟩
    refine for_tup (K := K) (a := p2) (xs := [0, 1].map fun n => V.int (n : Nat)) (fun j σ H' => ∃ v' : Option V, σ = [some (.ref s.a), some (.int (f : Nat)), some (.int (part Kg66.Bout.classed f ((blsOf s).take i) + ctr Kg66.Bout.classed f x.b j : Nat)), some (.int (part gFalls f ((blsOf s).take i) + ctr gFalls f x.b j : Nat)), some (.int (part Kg66.Bout.points f ((blsOf s).take i) + ctr Kg66.Bout.points f x.b j : Nat)), some (.ref x.a), v'] ∧ Same H3 H')
      ⟨v', ?_, Same.refl _⟩ (fun i σ H' _ ⟨_, _, q⟩ => SqT.of (q _ _ f3)) ?_ ?_
    · rw [ctr_zero, ctr_zero, ctr_zero]
      rfl
    · rintro j y σ H4 hy ⟨v', rfl, s4⟩
      obtain ⟨jn, hj, rfl⟩ := map_at hy
      have hjl : j < 2 := (List.getElem?_eq_some_iff.mp hj).1
      have ej : jn = j := by
        have hj2 : j = 0 ∨ j = 1 := by omega
        rcases hj2 with z | z <;> subst z <;> simp at hj <;> exact hj.symm
      subst ej
      have hb4 := (hb.same s3).same s4
      have oeq : V.int (Kg66.opt (if jn = 0 then x.b.a else x.b.b)) = V.int (f : Nat) ↔ (if jn = 0 then x.b.a else x.b.b) = some f := by
        constructor
        · intro z
          have z := V.int.inj z
          cases e : (if jn = 0 then x.b.a else x.b.b) with
          | none =>
            rw [e] at z
            have z' : (-1 : Int) = (f : Nat) := z
            omega
          | some m =>
            rw [e] at z
            have z' : ((m : Nat) : Int) = (f : Nat) := z
            exact congrArg some (by omega)
        · intro z
          rw [z]
          rfl
      refine ⟨_, rfl, x.a, A.CB, x.d, _, _, rfl, hb4.obj, T.clCB, T.nCB_wrestlers, bF_wr, _, rfl, x.t, _, _, _, rfl, rfl, SqT.of hb4.wr, atI_nat (opt_at (by omega)), _, rfl, rfl, _, rfl, if_d (fun h1 => ?_) (fun h1 => ?_)⟩
      · have h1' := oeq.mp h1
        refine ⟨_, rfl, _, rfl, _, rfl, x, jn, rfl, (by omega), hb4, wfx.wf, fun H5 s5 => ?_⟩
        refine ⟨_, _, rfl, rfl, _, rfl, _, rfl, _, rfl, x, jn, rfl, (by omega), hb4.same s5, wfx.wf, fun H6 s6 => ?_⟩
        have hb6 := (hb4.same s5).same s6
        have ec : ∀ g : Kg66.Bout → Nat → Nat, ctr g f x.b (jn + 1) = ctr g f x.b jn + g x.b jn := fun g => by
          rw [ctr_succ g f x.b jn hjl, if_pos h1']
        have fin : ∀ z : Int, z = ((part gFalls f ((blsOf s).take i) + ctr gFalls f x.b jn + gFalls x.b jn : Nat) : Int) → ∃ v' : Option V, [some (V.ref s.a), some (.int (f : Nat)), some (.int ((part Kg66.Bout.classed f ((blsOf s).take i) + ctr Kg66.Bout.classed f x.b jn : Nat) + (x.b.classed jn : Nat))), some (.int z), some (.int ((part Kg66.Bout.points f ((blsOf s).take i) + ctr Kg66.Bout.points f x.b jn : Nat) + (x.b.points jn : Nat))), some (.ref x.a), some (.int (jn : Nat))]
            = [some (.ref s.a), some (.int (f : Nat)), some (.int (part Kg66.Bout.classed f ((blsOf s).take i) + ctr Kg66.Bout.classed f x.b (jn + 1) : Nat)), some (.int (part gFalls f ((blsOf s).take i) + ctr gFalls f x.b (jn + 1) : Nat)), some (.int (part Kg66.Bout.points f ((blsOf s).take i) + ctr Kg66.Bout.points f x.b (jn + 1) : Nat)), some (.ref x.a), v'] ∧ Same H3 H6 := fun z ez => by
          refine ⟨some (.int (jn : Nat)), ?_, s4.trans (s5.trans s6)⟩
          rw [ec, ec, ec, ez]
          simp only [Int.natCast_add, Int.add_assoc]
        refine ⟨_, _, rfl, rfl, ?_⟩
        refine ⟨_, rfl, x.a, A.CB, x.d, _, _, rfl, hb6.obj, T.clCB, T.nCB_winner, bF_wi, _, rfl, rfl, _, rfl, if_d (fun h2 => ?_) (fun h2 => ?_)⟩
        · have ne : x.b.won ≠ none := fun z => by
            rw [wonI_none z] at h2
            have t := V.int.inj h2
            omega
          obtain ⟨u, hh, ew⟩ := (won_cases x.b).resolve_left ne
          rw [wonI_some ew] at h2
          have hu : u = jn := by have t := V.int.inj h2; omega
          refine ⟨_, rfl, x.a, A.CB, x.d, _, _, rfl, hb6.obj, T.clCB, T.nCB_how, bF_ho, rfl, _, rfl, if_d (fun h3 => ?_) (fun h3 => ?_)⟩
          · rw [howI_some ew] at h3
            have hh2 : hh = 2 := by have t := V.int.inj h3; omega
            refine ⟨_, rfl, _, _, rfl, rfl, fin _ ?_⟩
            have eg : gFalls x.b jn = 1 := by
              unfold gFalls
              rw [ew, hu, hh2, if_pos rfl]
            rw [eg]
            rfl
          · rw [howI_some ew] at h3
            have hh2 : ¬ hh = 2 := fun z => h3 (by rw [z]; rfl)
            refine fin _ ?_
            have eg : gFalls x.b jn = 0 := by
              unfold gFalls
              rw [ew, if_neg fun z => hh2 (congrArg Prod.snd (Option.some.inj z))]
            rw [eg]
            rfl
        · refine fin _ ?_
          have eg : gFalls x.b jn = 0 := by
            unfold gFalls
            rw [if_neg fun z => h2 (by rw [wonI_some z])]
          rw [eg]
          rfl
      · have h1' : ¬ (if jn = 0 then x.b.a else x.b.b) = some f := fun z => h1 (oeq.mpr z)
        have ec : ∀ g : Kg66.Bout → Nat → Nat, ctr g f x.b (jn + 1) = ctr g f x.b jn := fun g => by
          rw [ctr_succ g f x.b jn hjl, if_neg h1', Nat.add_zero]
        refine ⟨some (.int (jn : Nat)), ?_, s4⟩
        rw [ec, ec, ec]
        rfl
    · rintro σ H4 ⟨v', rfl, s4⟩
      refine ⟨some (.ref x.a), v', ?_, s2.trans (s3.trans s4)⟩
      rw [et, part_snoc, part_snoc, part_snoc]
      rfl
  · rintro σ H2 ⟨v, v', rfl, s2⟩
    rw [List.length_map, List.take_length, part_sum, part_sum, part_sum]
    refine ⟨_, rfl, _, rfl, _, rfl, (by show 3 ≤ sizeLine; decide), fun p hp => ?_⟩
    exact k _ p ((s1.trans s2).trans (same_new hp)) ((s1.trans s2).free hp) upd_same
/-! ### by what those behind are put in order -/
def sp_order_key (K : PySem.W.Frag) (A : Ads) : Sp := fun vs H Q _ => ∃ (s : SL) (f : Nat), vs = [.ref s.a, .int (f : Nat)] ∧ StIs A.CB A.CR A.CK H s ∧ WfG s.abs ∧
  ∀ (H' : Hp) (t : Addr), Same H H' → H' t = some (.tup ((s.abs.key f).map V.int)) → Q (.ref t) H'
theorem ok_order_key (T : Txt K mg A) (D_sums_of : Own P w K mg base CX0 4 "sums_of" Psums_of (sp_sums_of K A)) {f : Addr} {fd : FuncData} (F : Fun K "order_key" "order_key" sorder_key f fd) : FnOk P w K mg base CX0 5 f fd Porder_key (sp_order_key K A) := by
  refine F.ok scorder_key (fun vs H Q E h => ?_) (fun cdv Ar outer s H vs Q E hr h => ⟨_, (pss_cons (ps_asg (pe_own D_sums_of (hr.mono (by decide)) (by exact (pa_cons (pv 0) (pa_cons (pv 1) pa_nil)))) (pg_unl rfl (pgs_cons (pg_name (i := 2) scorder_key.nd rfl (Or.inl rfl)) (pgs_cons (pg_name (i := 3) scorder_key.nd rfl (Or.inl rfl)) (pgs_cons (pg_name (i := 4) scorder_key.nd rfl (Or.inl rfl)) pgs_nil)))))
      (pss_one (ps_ret (pe_tup (by exact (pa_cons (pe_un un_neg (pv 2)) (pa_cons (pe_un un_neg (pv 3)) (pa_cons (pe_un un_neg (pv 4)) (pa_cons (pv 1) pa_nil))))))))), ?_⟩)
  · obtain ⟨_, _, rfl, _⟩ := h
    rfl
  obtain ⟨s, f, rfl, hs, wf, k⟩ := h
  refine ⟨_, rfl, _, rfl, s, f, rfl, hs, wf, fun H1 p s1 np f1 => ?_⟩
  refine ⟨p, _, rfl, SqL.of f1, rfl, _, _, rfl, _, _, rfl, _, _, rfl, rfl, ?_⟩
  refine ⟨_, rfl, _, rfl, _, rfl, _, rfl, _, rfl, _, rfl, _, rfl, (by show 4 ≤ sizeLine; decide), fun t ht => ?_⟩
  refine k _ t (s1.trans (same_new ht)) ?_
  rw [upd_same]
  rfl
end
end Wm
/-! # Who has a place by the final or by a row -/
namespace Wm
open PySem PySem.Spec PyProof.Rows L2
open LamX (TabS TabB ExtN)
/-! ### all but the table stays -/
theorem plain_tbl {o : HO} (h : Plain o) (ps : Array Value) : o ≠ .tbl ps := fun z => by
  rw [z] at h
  exact h
theorem ActsAt.ext {H H' : Hp} (e : ExtN H H') : ∀ {ts : List Addr} {xs : List Kg66.Act}, ActsAt H ts xs → ActsAt H' ts xs
  | _, _, .nil => .nil
  | _, _, .cons h r => .cons (e _ _ h (plain_tbl trivial)) (ActsAt.ext e r)
theorem BoutIs.ext {CB : Addr} {H H' : Hp} {x : BL} (h : BoutIs CB H x) (e : ExtN H H') : BoutIs CB H' x :=
  ⟨e _ _ h.obj (plain_tbl trivial), e _ _ h.wr (plain_tbl trivial), e _ _ h.ac (plain_tbl trivial), h.at_.ext e⟩
theorem StIs.ext {CB CR CK : Addr} {H H' : Hp} {s : SL} (h : StIs CB CR CK H s) (e : ExtN H H') : StIs CB CR CK H' s :=
  ⟨e _ _ h.obj (plain_tbl trivial), e _ _ h.l (plain_tbl trivial), e _ _ h.w (plain_tbl trivial),
    fun r hr => ⟨e _ _ (h.rd r hr).l (plain_tbl trivial), fun x hx => ((h.rd r hr).at_ x hx).ext e⟩,
    fun r hr => ⟨e _ _ (h.rw_ r hr).obj (plain_tbl trivial), e _ _ (h.rw_ r hr).l (plain_tbl trivial), e _ _ (h.rw_ r hr).w (plain_tbl trivial), fun x hx => ((h.rw_ r hr).at_ x hx).ext e⟩⟩
abbrev TupsAt (H : Hp) : List Addr → List (Nat × Nat) → Prop := Paired fun t x => H t = some (.tup [.int (x.1 : Nat), .int (x.2 : Nat)])
theorem TupsAt.ext {H H' : Hp} (e : ExtN H H') : ∀ {ts : List Addr} {xs : List (Nat × Nat)}, TupsAt H ts xs → TupsAt H' ts xs
  | _, _, .nil => .nil
  | _, _, .cons h r => .cons (e _ _ h (plain_tbl trivial)) (TupsAt.ext e r)
theorem TupsAt.same {H H' : Hp} (e : Same H H') : ∀ {ts : List Addr} {xs : List (Nat × Nat)}, TupsAt H ts xs → TupsAt H' ts xs := fun h => h.ext (ExtN.of e)
theorem TupsAt.set {H : Hp} {D : Addr} {l : List V} {o : HO} (e : H D = some (.lst l)) : ∀ {ts : List Addr} {xs : List (Nat × Nat)}, TupsAt H ts xs → TupsAt (upd H D o) ts xs
  | _, _, .nil => .nil
  | _, _, .cons h r => .cons ((upd_ne (ne_of h e fun z => by cases z)).trans h) (TupsAt.set e r)
theorem TupsAt.app {H : Hp} : ∀ {ts us : List Addr} {xs ys : List (Nat × Nat)}, TupsAt H ts xs → TupsAt H us ys → TupsAt H (ts ++ us) (xs ++ ys)
  | _, _, _, _, .nil, h => h
  | _, _, _, _, .cons a r, h => .cons a (TupsAt.app r h)
theorem TupsAt.len {H : Hp} {ts : List Addr} {xs : List (Nat × Nat)} (h : TupsAt H ts xs) : ts.length = xs.length := Paired.length h
/-- a comprehension whose items are new pairs -/
theorem lc_tups {al : Type} {K : PySem.W.Frag} {a D : Addr} {xs : List V} {as : List al} {g : TG} {tt : TT} {te : L2.TE} {vs : List Nat} {σ : L2.St} {H1 : Hp} {Qd : Hp → Prop} (p : al → Bool) (f : al → Nat × Nat) (hD : H1 D = none) (hl : SqL K H1 a xs) (hn : xs.length = as.length) (hz : as.length ≤ 1000)
    (turn : ∀ (i : Nat) (x : V) (y : al) (H : Hp), xs[i]? = some x → as[i]? = some y → y ∈ as → Same H1 H → ∀ (Y : V → Hp → Prop) (Z : Hp → Prop), (p y = true → ∀ H' t, Same H H' → H t = none → H' t = some (.tup [.int ((f y).1 : Nat), .int ((f y).2 : Nat)]) → Y (.ref t) H') → (p y = false → ∀ H', Same H H' → Z H') →
      g x (wipe σ vs) H fun σ2 H2 => wipe σ2 vs = wipe σ vs ∧ tt σ2 H2 fun b H3 => if b = true then te σ2 H3 Y else Z H3)
    (hd : ∀ H ts, Same H1 H → H D = some (.lst (ts.map V.ref)) → TupsAt H ts ((as.filter p).map f) → Qd H) :
    ∃ W : Nat → Nat → Hp → Prop, (∃ m, W 0 m (upd H1 D (.lst []))) ∧ ∀ i m H, W i m H →
      ((Itl K a).stop i H ∧ Qd H) ∨ ((Itl K a).go i H ∧ ∃ Nx : Hp → Prop, (∀ H', Nx H' → ∃ m', m' < m ∧ W (i + 1) m' H') ∧ ∀ x H', (Itl K a).yld i H x H' → g x (wipe σ vs) H' fun σ2 H2 => wipe σ2 vs = wipe σ vs ∧ tt σ2 H2 fun b H3 =>
        if b = true then te σ2 H3 fun y H4 => ∃ acc, H4 D = some (.lst acc) ∧ acc.length < sizeLine ∧ Nx (upd H4 D (.lst (acc ++ [y]))) else Nx H3) := by
  have big : (1000 : Nat) < sizeLine := by decide
  refine lc_list (K := K) (a := a) (xs := xs) (fun i H => ∃ ts : List Addr, Same H1 H ∧ H D = some (.lst (ts.map V.ref)) ∧ TupsAt H ts (((as.take i).filter p).map f)) ⟨[], same_new hD, upd_same, .nil⟩ (fun i H _ ⟨_, h, _⟩ => h.seq hl) (fun i x H hx h => ?_) fun H h => ?_
  · obtain ⟨ts, s1, e1, t1⟩ := h
    have hi : i < as.length := by
      rw [← hn]
      exact (List.getElem?_eq_some_iff.mp hx).1
    have hy : as[i]? = some as[i] := List.getElem?_eq_getElem hi
    have ht : as.take (i + 1) = as.take i ++ [as[i]] := by simp
    refine turn i x as[i] H hx hy (List.getElem_mem hi) s1 _ _ (fun hp H' t s2 nt et => ?_) fun hp H' s2 => ?_
    · refine ⟨_, s2 _ _ e1, ?_, ts ++ [t], same_set (s1.trans s2) hD, ?_, ?_⟩
      · rw [List.length_map, t1.len, List.length_map]
        have z := List.length_filter_le p (as.take i)
        rw [List.length_take] at z
        omega
      · rw [upd_same, List.map_append]
        rfl
      · rw [ht, List.filter_append, List.map_append]
        have e3 : ([as[i]].filter p).map f = [f as[i]] := by simp [hp]
        rw [e3]
        exact ((t1.same s2).app (.cons et .nil)).set (s2 _ _ e1)
    · refine ⟨ts, s1.trans s2, s2 _ _ e1, ?_⟩
      rw [ht, List.filter_append, List.map_append]
      have e3 : ([as[i]].filter p).map f = [] := by simp [hp]
      rw [e3, List.append_nil]
      exact t1.same s2
  · obtain ⟨ts, s1, e1, t1⟩ := h
    rw [hn, List.take_length] at t1
    exact hd H ts s1 e1 t1
def thirdsOf (t : Kg66.State) : List Nat := t.rows.filterMap fun r => (r.bouts.getLast?).bind Kg66.Bout.winner
def fifthsOf (t : Kg66.State) : List Nat := t.rows.filterMap fun r => (r.bouts.getLast?).bind Kg66.Bout.loser
def topOf (t : Kg66.State) : List Nat := (t.now.flatMap fun b => b.winner.toList ++ b.loser.toList) ++ (thirdsOf t ++ fifthsOf t)
def firstL (t : Kg66.State) : List (Nat × Nat) := ((t.now.flatMap fun b => b.winner.toList ++ b.loser.toList).zipIdx.map fun x => (x.1, x.2 + 1)) ++ ((thirdsOf t).map (fun x => (x, 3)) ++ (fifthsOf t).map fun x => (x, 5))
/-- the last bouts of the rows -/
def lastsOf (s : SL) : List BL := s.rows.filterMap fun r => r.bs.getLast?
def lastV (r : WL) : V := match r.bs.getLast? with
  | some x => V.ref x.a
  | none => .non
theorem lasts_map : ∀ (l : List WL), ((l.filter fun r => !r.bs.isEmpty).map lastV) = (l.filterMap fun r => r.bs.getLast?).map fun x => V.ref x.a
  | [] => rfl
  | r :: l => by
    have ih := lasts_map l
    rw [List.filter_cons, List.filterMap_cons]
    cases e : r.bs with
    | nil =>
      rw [show (!([] : List BL).isEmpty) = false from rfl, if_neg Bool.false_ne_true]
      exact ih
    | cons a m =>
      rw [show (!(a :: m).isEmpty) = true from rfl, if_pos rfl, List.map_cons, ih]
      unfold lastV
      rw [e]
      cases e2 : (a :: m).getLast? with
      | none => simp at e2
      | some x => rfl
def lastWon (bs : List BL) : List (Nat × Nat) := (bs.filter fun _ => true).map fun x => (x.b.winner.getD 0, 3)
def lastLost (bs : List BL) : List (Nat × Nat) := (bs.filter fun x => x.b.loser.isSome).map fun x => (x.b.loser.getD 0, 5)
theorem lastWon_eq : ∀ (l : List WL), (∀ x ∈ (l.filterMap fun r => r.bs.getLast?), x.b.winner.isSome = true) → lastWon (l.filterMap fun r => r.bs.getLast?) = ((l.map WL.abs).filterMap fun r => (r.bouts.getLast?).bind Kg66.Bout.winner).map fun x => (x, 3)
  | [], _ => rfl
  | r :: l, h => by
    rw [List.filterMap_cons] at h ⊢
    rw [List.map_cons, List.filterMap_cons]
    have e0 : r.abs.bouts.getLast? = (r.bs.getLast?).map BL.b := by
      show (r.bs.map BL.b).getLast? = _
      rw [List.getLast?_map]
    rw [e0]
    cases e : r.bs.getLast? with
    | none =>
      rw [e] at h
      exact lastWon_eq l h
    | some x =>
      rw [e] at h
      have ih := lastWon_eq l fun y hy => h y (List.mem_cons_of_mem _ hy)
      obtain ⟨n, en⟩ := Option.isSome_iff_exists.mp (h x List.mem_cons_self)
      show lastWon (x :: _) = _
      have e2 : lastWon (x :: l.filterMap fun r => r.bs.getLast?) = (x.b.winner.getD 0, 3) :: lastWon (l.filterMap fun r => r.bs.getLast?) := by
        unfold lastWon
        rw [List.filter_cons, if_pos rfl, List.map_cons]
      rw [e2, ih]
      simp [en]
theorem lastLost_eq : ∀ (l : List WL), lastLost (l.filterMap fun r => r.bs.getLast?) = ((l.map WL.abs).filterMap fun r => (r.bouts.getLast?).bind Kg66.Bout.loser).map fun x => (x, 5)
  | [] => rfl
  | r :: l => by
    have ih := lastLost_eq l
    rw [List.filterMap_cons, List.map_cons, List.filterMap_cons]
    have e0 : r.abs.bouts.getLast? = (r.bs.getLast?).map BL.b := by
      show (r.bs.map BL.b).getLast? = _
      rw [List.getLast?_map]
    rw [e0]
    cases e : r.bs.getLast? with
    | none => exact ih
    | some x =>
      cases el : x.b.loser with
      | none =>
        have e2 : lastLost (x :: l.filterMap fun r => r.bs.getLast?) = lastLost (l.filterMap fun r => r.bs.getLast?) := by
          unfold lastLost
          rw [List.filter_cons, if_neg (by simp [el])]
        show lastLost (x :: _) = _
        rw [e2, ih]
        simp [el]
      | some n =>
        have e2 : lastLost (x :: l.filterMap fun r => r.bs.getLast?) = (x.b.loser.getD 0, 5) :: lastLost (l.filterMap fun r => r.bs.getLast?) := by
          unfold lastLost
          rw [List.filter_cons, if_pos (by simp [el]), List.map_cons]
        show lastLost (x :: _) = _
        rw [e2, ih]
        simp [el]
end Wm
/-! # Places -/
namespace Wm
open PySem PySem.Spec PyProof.Rows L2
open LamX (TabS TabB ExtN)
section
variable {P : Program} {w : World} {K : PySem.W.Frag} {mg : Str → Option Value} {base : Heap} {A : Ads}
def sp_placed_first (K : PySem.W.Frag) (A : Ads) : Sp := fun vs H Q _ => ∃ (s : SL), vs = [.ref s.a] ∧ StIs A.CB A.CR A.CK H s ∧ WfT s.abs ∧ s.abs.done = true ∧
  ∀ (H' : Hp) (p : Addr) (ts : List Addr), Same H H' → H p = none → H' p = some (.lst (ts.map V.ref)) → TupsAt H' ts (firstL s.abs) → Q (.ref p) H'
theorem winner_some {b : Kg66.Bout} {u h : Nat} (e : b.won = some (u, h)) (ha : b.a.isSome = true) (hb : b.b.isSome = true) : b.winner.isSome = true ∧ b.loser.isSome = true := by
  rw [winner_eq e, loser_eq e]
  constructor
  · split <;> assumption
  · split <;> assumption
theorem ok_placed_first (T : Txt K mg A) (D_who_lost : Own P w K mg base CX0 1 "who_lost" Pwho_lost (sp_who_lost K A)) (D_who_won : Own P w K mg base CX0 1 "who_won" Pwho_won (sp_who_won K A)) {f : Addr} {fd : FuncData} (F : Fun K "placed_first" "placed_first" splaced_first f fd) : FnOk P w K mg base CX0 2 f fd Pplaced_first (sp_placed_first K A) := by
  refine F.ok scplaced_first (fun vs H Q E h => ?_) (fun cdv Ar outer s H vs Q E hr h => ⟨_, (pss_cons (ps_set (i := 1) scplaced_first.nd rfl (Or.inl rfl) (pe_ix ix_list (pe_ix ix_list (pe_fld (pv 0) rfl) (pe_un un_neg pe_int) (fun _ _ => rfl)) pe_int (fun _ _ => rfl)))
      (pss_cons (ps_setLc (i := 2) (own := [("row", 4)]) (g := gName 4) (tt := (tTest (tOp (rI0 fun i j => V.bl (decide (j < i))) (tCB (rLen K) (tCons (tFld K (tVar 4) "bouts") tNil)) (tC (.int 0))))) (te := (tOp (rIxL K) (tFld K (tVar 4) "bouts") (tUn (rU fun i => V.int (-i)) (tC (.int 1))))) rfl scplaced_first.nd rfl rfl (sw_true rfl rfl rfl (by decide +kernel)) (pi_list (pe_fld (pv 0) rfl)) (blkOk_by (own := [("row", 4)]) (N := Nplaced_first) (sc := defScope splaced_first) (by decide +kernel)) (fun _ _ _ _ _ => by exact ((pg_name (i := 4) scplaced_first.nd rfl (Or.inl rfl)))) (fun _ _ _ _ _ => by exact (pts_one (pt_cmpR op_gt (pe_callB call_len_seq rfl T.len (by decide +kernel) (by exact (pa_cons (pe_fld (pv 4) rfl) pa_nil))) pe_int (nomark _)))) (fun _ _ _ _ _ => by exact ((pe_ix ix_list (pe_fld (pv 4) rfl) (pe_un un_neg pe_int) (fun _ _ => rfl)))))
      (pss_cons (ps_set (i := 3) scplaced_first.nd rfl (Or.inl rfl) (pe_lst (by exact (pa_cons (pe_tup (by exact (pa_cons (pe_own D_who_won (hr.mono (by decide)) (by exact (pa_cons (pv 1) pa_nil))) (pa_cons pe_int pa_nil)))) (pa_cons (pe_tup (by exact (pa_cons (pe_own D_who_lost (hr.mono (by decide)) (by exact (pa_cons (pv 1) pa_nil))) (pa_cons pe_int pa_nil)))) pa_nil)))))
      (pss_cons (ps_expr (pe_bm PySem.F.plainAttrs_list PySem.F.slot_list_extend PySem.F.type_list_extend mt_extend (pv 3) (by exact (pa_cons (pe_lc (own := [("bout", 5)]) (g := gName 5) (tt := tYes) (te := (tTup (tCons (tCall (sp_who_won K A) [] E0 (tCons (tVar 5) tNil)) (tCons (tC (.int 3)) tNil)))) rfl scplaced_first.nd (pi_list (pv 2)) (blkOk_by (own := [("bout", 5)]) (N := Nplaced_first) (sc := defScope splaced_first) (by decide +kernel)) (fun _ _ _ _ _ => by exact ((pg_name (i := 5) scplaced_first.nd rfl (Or.inl rfl)))) (fun _ _ _ _ _ => by exact (pts_nil)) (fun _ _ _ _ _ => by exact ((pe_tup (by exact (pa_cons (pe_own D_who_won (hr.mono (by decide)) (by exact (pa_cons (pv 5) pa_nil))) (pa_cons pe_int pa_nil))))))) pa_nil))))
      (pss_cons (ps_expr (pe_bm PySem.F.plainAttrs_list PySem.F.slot_list_extend PySem.F.type_list_extend mt_extend (pv 3) (by exact (pa_cons (pe_lc (own := [("bout", 5)]) (g := gName 5) (tt := (tTest (tOp rNe (tFld K (tVar 5) "how") (tC (.int 5))))) (te := (tTup (tCons (tCall (sp_who_lost K A) [] E0 (tCons (tVar 5) tNil)) (tCons (tC (.int 5)) tNil)))) rfl scplaced_first.nd (pi_list (pv 2)) (blkOk_by (own := [("bout", 5)]) (N := Nplaced_first) (sc := defScope splaced_first) (by decide +kernel)) (fun _ _ _ _ _ => by exact ((pg_name (i := 5) scplaced_first.nd rfl (Or.inl rfl)))) (fun _ _ _ _ _ => by exact (pts_one (pt_cmpR op_ne (pe_fld (pv 5) rfl) (pe_gl T.gUNFOUGHT) (nomark _)))) (fun _ _ _ _ _ => by exact ((pe_tup (by exact (pa_cons (pe_own D_who_lost (hr.mono (by decide)) (by exact (pa_cons (pv 5) pa_nil))) (pa_cons pe_int pa_nil))))))) pa_nil))))
      (pss_one (ps_ret (pv 3)))))))), ?_⟩)
  · obtain ⟨_, rfl, _⟩ := h
    rfl
  obtain ⟨s, rfl, hs, wf, hdone, k⟩ := h
  have big : (1000 : Nat) < sizeLine := by decide
  obtain ⟨R, r, eR, eN⟩ := SL.snoc wf.g
  obtain ⟨w1, w2, w3, w4⟩ := rd_len wf.g
  have hl := hs.l
  rw [eR, List.map_append] at hl
  have hr1 := hs.rd r (by rw [eR]; simp)
  have hd := hdone
  rw [done_eq wf, Bool.and_eq_true, Bool.and_eq_true] at hd
  obtain ⟨d1, d2, d3⟩ := hd
  have hrows : s.abs.rows ≠ [] := fun z => by
    rw [z] at d1
    cases d1
  have hnow1 := wf.g.rn hrows
  have rlen : r.bs.length = 1 := by
    rw [eN] at hnow1
    have z : (r.bs.map BL.b).length = 1 := hnow1
    rwa [List.length_map] at z
  obtain ⟨x, ex⟩ : ∃ x, r.bs = [x] := List.length_eq_one_iff.mp rlen
  have en1 : s.abs.now = [x.b] := by
    rw [eN]
    unfold RL.abs
    rw [ex]
    rfl
  have hrl := hr1.l
  rw [ex] at hrl
  have hbx := hr1.at_ x (by rw [ex]; simp)
  have wfx := rd_bl wf.g r (by rw [eR]; simp) x (by rw [ex]; simp)
  have hwon : x.b.won.isSome = true := by
    rw [en1] at d2
    simpa using d2
  obtain ⟨u, hh, ew⟩ := (won_cases x.b).resolve_left fun z => by rw [z] at hwon; cases hwon
  obtain ⟨iw, il⟩ := winner_some ew wfx.wf.one (wf.g.fin hnow1 x.b (by rw [en1]; simp))
  obtain ⟨nw, enw⟩ := Option.isSome_iff_exists.mp iw
  obtain ⟨nl, enl⟩ := Option.isSome_iff_exists.mp il
  have lastW : ∀ y ∈ lastsOf s, WfX y.b ∧ y.b.won.isSome = true := fun y hy => by
    obtain ⟨r0, hr0, hy0⟩ := List.mem_filterMap.mp hy
    have hm : y ∈ r0.bs := List.mem_of_getLast? hy0
    refine ⟨(wf.g.rows r0.abs (List.mem_map.mpr ⟨r0, hr0, rfl⟩)).bt y.b (List.mem_map.mpr ⟨y, hm, rfl⟩), ?_⟩
    have z := List.all_eq_true.mp d3 r0.abs (List.mem_map.mpr ⟨r0, hr0, rfl⟩)
    unfold Kg66.Row.done at z
    rw [Bool.and_eq_true] at z
    exact List.all_eq_true.mp z.2 y.b (List.mem_map.mpr ⟨y, hm, rfl⟩)
  have lastB : ∀ y ∈ lastsOf s, BoutIs A.CB H y := fun y hy => by
    obtain ⟨r0, hr0, hy0⟩ := List.mem_filterMap.mp hy
    exact (hs.rw_ r0 hr0).at_ y (List.mem_of_getLast? hy0)
  have lastN : ∀ y ∈ lastsOf s, y.b.winner.isSome = true := fun y hy => by
    obtain ⟨wy, z⟩ := lastW y hy
    obtain ⟨u, hh, e⟩ := (won_cases y.b).resolve_left fun q => by rw [q] at z; cases z
    exact wy.win u hh e
  have lastLen : (lastsOf s).length ≤ 2 := Nat.le_trans (filterMap_le _ _) w3
  refine ⟨_, rfl, s.a, A.CK, s.d, _, _, rfl, hs.obj, T.clCK, T.nCK_rounds, sF_r, 1, rfl, s.pr, _, -1, _, rfl, rfl, SqL.of hl, atI_last _ _, r.p, _, 0, _, rfl, rfl, SqL.of hrl, atI_nat (j := 0) rfl, ?_⟩
  refine ⟨_, rfl, s.a, A.CK, s.d, _, _, rfl, hs.obj, T.clCK, T.nCK_rows, sF_w, s.pw, rfl, ⟨_, SqL.of hs.w⟩, fun D hD => ?_⟩
  refine lc_fun (K := K) (a := s.pw) (as := s.rows) (fun r => !r.bs.isEmpty) lastV hD (SqL.of hs.w) (by rw [List.length_map]) (by omega) (fun j v y H1 hv hy hm s1 Y Z hY hZ => ?_) fun H1 s1 e1 => ?_
  · have ev : v = .ref y.a := by
      rw [List.getElem?_map, hy] at hv
      exact (Option.some.inj hv).symm
    subst ev
    have h1 := (hs.rw_ y hm).same s1
    refine ⟨rfl, ?_⟩
    refine ⟨_, rfl, y.a, A.CR, y.d, _, _, rfl, h1.obj, T.clCR, T.nCR_bouts, rF_b, y.pb, _, rfl, .inl (SqL.of h1.l), _, _, rfl, rfl, _, rfl, if_d (fun h2 => ?_) (fun h2 => ?_)⟩
    · rw [List.length_map] at h2
      have hne : y.bs ≠ [] := fun z => by
        rw [z] at h2
        exact absurd h2 (by decide)
      obtain ⟨L, x', ex'⟩ := snoc_of hne
      have hl' := h1.l
      rw [ex', List.map_append] at hl'
      refine ⟨_, rfl, y.a, A.CR, y.d, _, _, rfl, h1.obj, T.clCR, T.nCR_bouts, rF_b, 1, rfl, y.pb, _, -1, _, rfl, rfl, SqL.of hl', atI_last _ _, ?_⟩
      have g := hY (by rw [ex']; simp) H1 (Same.refl _)
      unfold lastV at g
      rw [ex', List.getLast?_concat] at g
      exact g
    · rw [List.length_map] at h2
      have hne : y.bs = [] := List.eq_nil_of_length_eq_zero (by omega)
      exact hZ (by rw [hne]; rfl) H1 (Same.refl _)
  · rw [lasts_map] at e1
    have l1 : H1 D = some (.lst ((lastsOf s).map fun x => V.ref x.a)) := e1
    refine ⟨_, rfl, x, rfl, hbx.same s1, wfx.wf, (by show 2 ≤ sizeLine; decide), fun t1 ht1 => ?_⟩
    generalize e2 : upd H1 t1 _ = H2
    have s2 : Same H1 H2 := e2 ▸ same_new ht1
    have f2 : H2 t1 = some (.tup [.int (nw : Nat), .int (1 : Nat)]) := by
      rw [← e2, upd_same, enw]
      rfl
    refine ⟨_, rfl, x, rfl, (hbx.same s1).same s2, wfx.wf, (by show 2 ≤ sizeLine; decide), fun t2 ht2 => ?_⟩
    generalize e3 : upd H2 t2 _ = H3
    have s3 : Same H2 H3 := e3 ▸ same_new ht2
    have f3 : H3 t2 = some (.tup [.int (nl : Nat), .int (2 : Nat)]) := by
      rw [← e3, upd_same, enl]
      rfl
    refine ⟨(by show 2 ≤ sizeLine; decide), fun p hp => ?_⟩
    generalize e4 : upd H3 p _ = H4
    have s4 : Same H3 H4 := e4 ▸ same_new hp
    have f4 : H4 p = some (.lst ([t1, t2].map V.ref)) := e4 ▸ upd_same
    have s14 := s2.trans (s3.trans s4)
    have l4 := s14 _ _ l1
    have s04 := s1.trans s14
    have p0 : H p = none := (s1.trans (s2.trans s3)).free hp
    have T4 : TupsAt H4 [t1, t2] [(nw, 1), (nl, 2)] := .cons (s4 _ _ (s3 _ _ f2)) (.cons (s4 _ _ f3) .nil)
    refine ⟨_, rfl, .inl ⟨rfl, _, SqL.of f4⟩, _, rfl, D, rfl, ⟨_, SqL.of l4⟩, fun D2 hD2 => ?_⟩
    refine lc_tups (K := K) (a := D) (as := lastsOf s) (fun _ => true) (fun y => (y.b.winner.getD 0, 3)) hD2 (SqL.of l4) (by rw [List.length_map]) (by omega) (fun j v y H5 hv hy hm s5 Y Z hY hZ => ?_) fun H5 ts5 s5 e5 T5 => ?_
    · have ev : v = .ref y.a := by
        rw [List.getElem?_map, hy] at hv
        exact (Option.some.inj hv).symm
      subst ev
      refine ⟨rfl, ?_⟩
      refine iteT (B := Z H5) ?_
      obtain ⟨n, en⟩ := Option.isSome_iff_exists.mp (lastN y hm)
      refine ⟨_, rfl, y, rfl, (lastB y hm).same (s04.trans s5), (lastW y hm).1.wf, (by show 2 ≤ sizeLine; decide), fun t ht => ?_⟩
      refine hY rfl _ t (same_new ht) ht ?_
      rw [upd_same, en]
      rfl
    · have eT5 : (((lastsOf s).filter fun _ => true).map fun y => (y.b.winner.getD 0, 3)) = (thirdsOf s.abs).map fun x => (x, 3) := lastWon_eq s.rows lastN
      rw [eT5] at T5
      have f5 := s5 _ _ f4
      have l5 := s5 _ _ l4
      have tl : ts5.length ≤ 2 := by
        rw [T5.len, List.length_map]
        exact Nat.le_trans (filterMap_le _ _) (by show (s.rows.map WL.abs).length ≤ 2; rw [List.length_map]; exact w3)
      refine ⟨p, D2, _, _, rfl, rfl, f5, e5, (by rw [List.length_map, List.length_map]; show 2 + _ ≤ _; omega), ?_⟩
      generalize e6 : upd H5 p _ = H6
      have k6 : Keep [p] H5 H6 := e6 ▸ Keep.set (by simp)
      have f6 : H6 p = some (.lst (([t1, t2] ++ ts5).map V.ref)) := by
        rw [← e6, upd_same, List.map_append]
      have T6 : TupsAt H6 ([t1, t2] ++ ts5) ([(nw, 1), (nl, 2)] ++ (thirdsOf s.abs).map fun x => (x, 3)) := e6 ▸ ((T4.same s5).app T5).set f5
      have nDp : D ≠ p := (ne_of_none (s14 _ _ l1 |> fun _ => (s2.trans s3) _ _ l1) hp)
      have l6 := k6 _ _ l5 (by simpa using nDp)
      have sm6 : Same H H6 := e6 ▸ same_set (s04.trans s5) p0
      refine ⟨_, rfl, .inl ⟨rfl, _, SqL.of f6⟩, _, rfl, D, rfl, ⟨_, SqL.of l6⟩, fun D3 hD3 => ?_⟩
      refine lc_tups (K := K) (a := D) (as := lastsOf s) (fun y => y.b.loser.isSome) (fun y => (y.b.loser.getD 0, 5)) hD3 (SqL.of l6) (by rw [List.length_map]) (by omega) (fun j v y H7 hv hy hm s7 Y Z hY hZ => ?_) fun H7 ts7 s7 e7 T7 => ?_
      · have ev : v = .ref y.a := by
          rw [List.getElem?_map, hy] at hv
          exact (Option.some.inj hv).symm
        subst ev
        obtain ⟨wy, wo⟩ := lastW y hm
        obtain ⟨u', h', e'⟩ := (won_cases y.b).resolve_left fun q => by rw [q] at wo; cases wo
        have hb7 := (lastB y hm).same (sm6.trans s7)
        refine ⟨rfl, ?_⟩
        refine ⟨_, rfl, y.a, A.CB, y.d, _, _, rfl, hb7.obj, T.clCB, T.nCB_how, bF_ho, rfl, _, rfl, if_nd (fun h2 => ?_) (fun h2 => ?_)⟩
        · rw [howI_some e'] at h2
          have n5 : ¬ h' = 5 := fun z => h2 (by rw [z]; rfl)
          have el : y.b.loser ≠ none := fun z => n5 ((wy.lose u' h' e').mpr z)
          obtain ⟨n, en⟩ := Option.isSome_iff_exists.mp (Option.isSome_iff_ne_none.mpr el)
          refine ⟨_, rfl, y, rfl, hb7, wy.wf, (by show 2 ≤ sizeLine; decide), fun t ht => ?_⟩
          refine hY (by rw [en]; rfl) _ t (same_new ht) ht ?_
          rw [upd_same, en]
          rfl
        · rw [howI_some e'] at h2
          have n5 : h' = 5 := by have z := V.int.inj h2; omega
          exact hZ (by rw [(wy.lose u' h' e').mp n5]; rfl) H7 (Same.refl _)
      · have eT7 : (((lastsOf s).filter fun y => y.b.loser.isSome).map fun y => (y.b.loser.getD 0, 5)) = (fifthsOf s.abs).map fun x => (x, 5) := lastLost_eq s.rows
        rw [eT7] at T7
        have f7 := s7 _ _ f6
        have tl7 : ts7.length ≤ 2 := by
          rw [T7.len, List.length_map]
          exact Nat.le_trans (filterMap_le _ _) (by show (s.rows.map WL.abs).length ≤ 2; rw [List.length_map]; exact w3)
        refine ⟨p, D3, _, _, rfl, rfl, f7, e7, (by rw [List.length_map, List.length_map, List.length_append]; show 2 + _ + _ ≤ _; omega), ?_⟩
        generalize e8 : upd H7 p _ = H8
        have f8 : H8 p = some (.lst ((([t1, t2] ++ ts5) ++ ts7).map V.ref)) := by
          rw [← e8, upd_same, ← List.map_append]
        have T8 : TupsAt H8 (([t1, t2] ++ ts5) ++ ts7) (([(nw, 1), (nl, 2)] ++ (thirdsOf s.abs).map fun x => (x, 3)) ++ (fifthsOf s.abs).map fun x => (x, 5)) := e8 ▸ ((T6.same s7).app T7).set f7
        refine ⟨_, rfl, k H8 p _ (e8 ▸ same_set (sm6.trans s7) p0) p0 f8 ?_⟩
        have eF : firstL s.abs = ([(nw, 1), (nl, 2)] ++ (thirdsOf s.abs).map fun x => (x, 3)) ++ (fifthsOf s.abs).map fun x => (x, 5) := by
          unfold firstL
          rw [en1, List.append_assoc]
          have e9 : ([x.b].flatMap fun b => b.winner.toList ++ b.loser.toList) = [nw, nl] := by
            simp [enw, enl]
          rw [e9]
          rfl
        rw [eF]
        exact T8
end
end Wm
/-! # The order of those behind, in plain Lean -/
namespace Wm
open PySem PySem.Spec PyProof.Rows L2
theorem less_iff (a b c d e f g h : Int) : Kg66.less [a, b, c, d] [e, f, g, h] = true ↔ (a < e ∨ (a = e ∧ (b < f ∨ (b = f ∧ (c < g ∨ (c = g ∧ d < h)))))) := by
  simp [Kg66.less]
theorem lex_iff (a b c d e f g h : Int) : HT.lexLt [a, b, c, d] [e, f, g, h] = true ↔ (a < e ∨ (a = e ∧ (b < f ∨ (b = f ∧ (c < g ∨ (c = g ∧ d < h)))))) := by
  rw [HT.lexLt_cons]
  by_cases h1 : a = e
  · rw [if_pos h1, HT.lexLt_cons]
    by_cases h2 : b = f
    · rw [if_pos h2, HT.lexLt_cons]
      by_cases h3 : c = g
      · rw [if_pos h3, HT.lexLt_cons]
        by_cases h4 : d = h
        · rw [if_pos h4, HT.lexLt_nil_nil]
          simp
          omega
        · rw [if_neg h4]
          simp
          omega
      · rw [if_neg h3]
        simp
        omega
    · rw [if_neg h2]
      simp
      omega
  · rw [if_neg h1]
    simp
    omega
theorem less_lex (t : Kg66.State) (x y : Nat) : Kg66.less (t.key x) (t.key y) = HT.lexLt (t.key x) (t.key y) := by
  rw [Bool.eq_iff_iff]
  unfold Kg66.State.key
  rw [less_iff, lex_iff]
/-- not behind -/
def leK (t : Kg66.State) (x y : Nat) : Prop := Kg66.less (t.key y) (t.key x) = false
theorem leK_of {t : Kg66.State} {x y : Nat} (h : Kg66.less (t.key x) (t.key y) = true) : leK t x y := by
  unfold leK
  rw [Bool.eq_false_iff]
  intro z
  unfold Kg66.State.key at h z
  rw [less_iff] at h z
  omega
theorem leK_trans {t : Kg66.State} {x y z : Nat} (h1 : leK t x y) (h2 : leK t y z) : leK t x z := by
  unfold leK at *
  rw [Bool.eq_false_iff] at *
  intro q
  unfold Kg66.State.key at h1 h2 q
  rw [ne_eq, less_iff] at h1 h2
  rw [less_iff] at q
  omega
theorem leK_anti {t : Kg66.State} {x y : Nat} (h1 : leK t x y) (h2 : leK t y x) : x = y := by
  unfold leK at *
  rw [Bool.eq_false_iff, ne_eq] at *
  unfold Kg66.State.key at h1 h2
  rw [less_iff] at h1 h2
  omega
theorem put_perm (key : Nat → List Int) (x : Nat) : ∀ l : List Nat, (Kg66.put key x l).Perm (x :: l)
  | [] => List.Perm.refl _
  | y :: l => by
    unfold Kg66.put
    by_cases h : Kg66.less (key x) (key y) = true
    · rw [if_pos h]
    · rw [if_neg h]
      exact ((put_perm key x l).cons y).trans (List.Perm.swap x y l)
theorem put_sorted (t : Kg66.State) (x : Nat) : ∀ l : List Nat, l.Pairwise (leK t) → (Kg66.put t.key x l).Pairwise (leK t)
  | [], _ => by
    unfold Kg66.put
    exact List.pairwise_singleton _ _
  | y :: l, h => by
    unfold Kg66.put
    rw [List.pairwise_cons] at h
    by_cases c : Kg66.less (t.key x) (t.key y) = true
    · rw [if_pos c]
      refine List.pairwise_cons.mpr ⟨fun z hz => ?_, List.pairwise_cons.mpr h⟩
      rcases List.mem_cons.mp hz with e | e
      · rw [e]
        exact leK_of c
      · exact leK_trans (leK_of c) (h.1 z e)
    · rw [if_neg c]
      refine List.pairwise_cons.mpr ⟨fun z hz => ?_, put_sorted t x l h.2⟩
      rcases List.mem_cons.mp ((put_perm t.key x l).mem_iff.mp hz) with e | e
      · rw [e]
        exact Bool.eq_false_iff.mpr c
      · exact h.1 z e
theorem fold_put (t : Kg66.State) : ∀ (l acc : List Nat), acc.Pairwise (leK t) → (l.foldl (fun l i => Kg66.put t.key i l) acc).Pairwise (leK t) ∧ (l.foldl (fun l i => Kg66.put t.key i l) acc).Perm (acc ++ l)
  | [], acc, h => ⟨h, by simp⟩
  | x :: l, acc, h => by
    obtain ⟨h1, h2⟩ := fold_put t l (Kg66.put t.key x acc) (put_sorted t x acc h)
    refine ⟨h1, h2.trans ?_⟩
    exact ((put_perm t.key x acc).append_right l).trans List.perm_middle.symm
def othersOf (t : Kg66.State) : List Nat := (List.range t.count).filter fun i => !(topOf t).contains i
def restOf (t : Kg66.State) : List Nat := (othersOf t).foldl (fun l i => Kg66.put t.key i l) []
theorem places_eq (t : Kg66.State) : t.places = firstL t ++ (restOf t).zipIdx.map fun x => (x.1, (topOf t).length + 1 + x.2) := by
  show _ ++ (_ ++ (_ ++ _)) = (_ ++ (_ ++ _)) ++ _
  rw [List.append_assoc, List.append_assoc]
  rfl
theorem first_fst (t : Kg66.State) : (firstL t).map (·.1) = topOf t := by
  unfold firstL topOf
  rw [List.map_append, List.map_append, List.map_map, List.map_map, List.map_map]
  have e1 : ∀ l : List Nat, l.zipIdx.map ((fun x => x.1) ∘ fun x => (x.1, x.2 + 1)) = l := fun l => by
    show l.zipIdx.map (fun x => x.1) = l
    exact List.zipIdx_map_fst 0 l
  have e2 : ∀ (l : List Nat) (c : Nat), l.map ((fun x => x.1) ∘ fun x => (x, c)) = l := fun l c => by
    show l.map (fun x => x) = l
    exact List.map_id' l
  rw [e1, e2, e2]
theorem first_len (t : Kg66.State) : (firstL t).length = (topOf t).length := by
  rw [← first_fst, List.length_map]
/-- what the sort hands back is what the document tells -/
theorem sorted_rest {t : Kg66.State} {ns' : List Int} (hp : ns'.Perm ((othersOf t).map fun n : Nat => (n : Int))) (hs : ns'.Pairwise (fun a b => HT.lexLt (t.key b.toNat) (t.key a.toNat) = false)) : ns' = (restOf t).map fun n : Nat => (n : Int) := by
  obtain ⟨h1, h2⟩ := fold_put t (othersOf t) [] List.Pairwise.nil
  have h2' : (restOf t).Perm (othersOf t) := by
    rw [List.nil_append] at h2
    exact h2
  refine List.Perm.eq_of_pairwise (le := fun a b : Int => HT.lexLt (t.key b.toNat) (t.key a.toNat) = false) (fun a b ha hb l1 l2 => ?_) hs ?_ (hp.trans (h2'.map _).symm)
  · obtain ⟨n, _, rfl⟩ := List.mem_map.mp (hp.mem_iff.mp ha)
    obtain ⟨m, _, rfl⟩ := List.mem_map.mp hb
    have e : n = m := by
      refine leK_anti (t := t) ?_ ?_
      · unfold leK
        rw [less_lex]
        exact l1
      · unfold leK
        rw [less_lex]
        exact l2
    rw [e]
  · rw [List.pairwise_map]
    refine h1.imp fun {a b} hab => ?_
    have z : Kg66.less (t.key b) (t.key a) = false := hab
    rw [less_lex] at z
    exact z
end Wm
/-! # All places -/
namespace Wm
open PySem PySem.Spec PyProof.Rows L2
open LamX (TabS TabB ExtN)
/-- a def of the text whose code object is told -/
structure FunC (K : PySem.W.Frag) (x qual : Str) (st : Stmt) (f : Addr) (fd : FuncData) (c : Addr) : Prop where
  ex : ∃ (oc : Value) (od : Option Addr) (kV doc pm : Value) (an : Option Addr) (ct : Value) (osl : Array (Option Value)),
    fd = PySem.W.fnOf x qual (defArgs st) (defBody st) (defScope st) .none kV doc pm an (.ref c) ct ∧ K.lookup f = some ⟨oc, od, .func fd, osl⟩ ∧ PySem.W.codeIn K (.ref c) qual = true
  kp : PySem.W.keepIn K (.ref f) = true
theorem free_by {sc S : Scope} (h : sc.names.all (fun y => !decide (y.2 = .free) || decide (S.names.lookup y.1 = some .cell)) = true) : ∀ y ∈ sc.names, y.2 = .free → S.names.lookup y.1 = some .cell ∨ S.names.lookup y.1 = some .free := fun y hy e => by
  have z := List.all_eq_true.mp h y hy
  rw [e] at z
  exact .inl (by simpa using z)
abbrev qLam : Str := "places_of.<locals>.<lambda>"
section
variable {P : Program} {w : World} {K : PySem.W.Frag} {mg : Str → Option Value} {base : Heap} {A : Ads}
theorem FunC.ok {x qual : Str} {st : Stmt} {f : Addr} {fd : FuncData} {c : Addr} {N ps : List Str} {k : Nat} {sp : Sp} (F : FunC K x qual st f fd c) (S : FnScope N ps (defScope st)) (len : ∀ vs H Q E, sp vs H Q E → vs.length = ps.length)
    (hbody : ∀ (Ar : Around) (outer : List Env) (s : Shared) (H : Hp) (vs : List V) (Q : VK) (E : XK), Room k (Ar.deeper (envOfC qual (defScope st) s.heap.objs.size f (.ref c))) → sp vs H Q E →
      ∃ t, PSs (cxOf CX0 P w K mg base N qual (defScope st) f (.ref c) Ar outer s H E).nox (defBody st) t ∧ t { nx := fun _ H' => Q .non H', rt := Q } (L2.start N vs) H) : FnOk P w K mg base CX0 (k + 1) f fd ps sp := by
  obtain ⟨oc, od, kV, doc, pm, an, ct, osl, rfl, lk, hcd⟩ := F.ex
  refine fn_of lk hcd S len fun Ar outer s H vs Q E hr hsp => ?_
  obtain ⟨t, h, q⟩ := hbody Ar outer s H vs Q E hr hsp
  exact ⟨t, h.nox, q⟩
/-- a comprehension over a range, with a test; one name -/
theorem lc_rangeF {n m : Nat} {tt : TT} {te : L2.TE} {vs : List Nat} {σ : L2.St} {H1 : Hp} {D : Addr} {Qd : Hp → Prop} (p : Nat → Bool) (hn : n ≤ 1000) (hD : H1 D = none)
    (turn : ∀ (i : Nat) (H : Hp), i < n → Same H1 H → ∀ (Y : V → Hp → Prop) (Z : Hp → Prop), (p i = true → Y (.int (i : Nat)) H) → (p i = false → Z H) →
      wipe ((wipe σ vs).set m (some (.int (0 + (i : Nat))))) vs = wipe σ vs ∧ tt ((wipe σ vs).set m (some (.int (0 + (i : Nat))))) H fun b H3 => if b = true then te ((wipe σ vs).set m (some (.int (0 + (i : Nat))))) H3 Y else Z H3)
    (hd : ∀ H, Same H1 H → H D = some (.lst (((List.range n).filter p).map fun k => V.int (k : Nat))) → Qd H) :
    ∃ W : Nat → Nat → Hp → Prop, (∃ m, W 0 m (upd H1 D (.lst []))) ∧ ∀ i k H, W i k H →
      ((Itr 0 n).stop i H ∧ Qd H) ∨ ((Itr 0 n).go i H ∧ ∃ Nx : Hp → Prop, (∀ H', Nx H' → ∃ m', m' < k ∧ W (i + 1) m' H') ∧ ∀ x H', (Itr 0 n).yld i H x H' → gName m x (wipe σ vs) H' fun σ2 H2 => wipe σ2 vs = wipe σ vs ∧ tt σ2 H2 fun b H3 =>
        if b = true then te σ2 H3 fun y H4 => ∃ acc, H4 D = some (.lst acc) ∧ acc.length < sizeLine ∧ Nx (upd H4 D (.lst (acc ++ [y]))) else Nx H3) := by
  have big : (1000 : Nat) < sizeLine := by decide
  refine lc_range (lo := 0) (n := n) (fun i H => Same H1 H ∧ H D = some (.lst (((List.range i).filter p).map fun k => V.int (k : Nat)))) ⟨same_new hD, upd_same⟩ (fun i H hi h => ?_) fun H h => hd H h.1 h.2
  obtain ⟨s1, e1⟩ := h
  refine turn i H hi s1 _ _ (fun hp => ?_) fun hp => ?_
  · refine ⟨_, e1, ?_, same_set s1 hD, ?_⟩
    · rw [List.length_map]
      have z := List.length_filter_le p (List.range i)
      rw [List.length_range] at z
      omega
    · rw [upd_same, List.range_succ, List.filter_append, List.map_append]
      simp [hp]
  · refine ⟨s1, ?_⟩
    rw [List.range_succ, List.filter_append, List.map_append]
    simp [hp]
    exact e1
def sp_places_of (K : PySem.W.Frag) (A : Ads) : Sp := fun vs H Q _ => ∃ (s : SL), vs = [.ref s.a] ∧ StIs A.CB A.CR A.CK H s ∧ WfT s.abs ∧ s.abs.done = true ∧ TabS H A.P qLam ∧
  ∀ (H' : Hp) (p : Addr) (ts : List Addr), ExtN H H' → TabS H' A.P qLam → H p = none → H' p = some (.lst (ts.map V.ref)) → TupsAt H' ts s.abs.places → Q (.ref p) H'
theorem TupsAt.get {H : Hp} : ∀ {ts : List Addr} {xs : List (Nat × Nat)} {i : Nat} {v : V} {y : Nat × Nat}, TupsAt H ts xs → (ts.map V.ref)[i]? = some v → xs[i]? = some y → ∃ t, v = .ref t ∧ H t = some (.tup [.int (y.1 : Nat), .int (y.2 : Nat)])
  | _, _, i, _, _, .nil, h, _ => by simp at h
  | _, _, 0, _, _, .cons (a := t) h r, h1, h2 => by
    simp at h1 h2
    subst h1 h2
    exact ⟨t, rfl, h⟩
  | _, _, i + 1, _, _, .cons h r, h1, h2 => TupsAt.get r (i := i) (by simpa using h1) (by simpa using h2)
theorem top_len {t : Kg66.State} (h : WfG t) : (topOf t).length ≤ 36 := by
  obtain ⟨R, r, e, en⟩ := h.snoc
  have h1 := h.lens r (by rw [e]; simp)
  have h2 := flatMap_le (fun b : Kg66.Bout => b.winner.toList ++ b.loser.toList) 2 t.now fun b _ => by
    rw [List.length_append]
    have g : ∀ o : Option Nat, o.toList.length ≤ 1 := fun o => by cases o <;> simp
    have := g b.winner
    have := g b.loser
    omega
  have h3 : (thirdsOf t).length ≤ t.rows.length := filterMap_le _ _
  have h4 : (fifthsOf t).length ≤ t.rows.length := filterMap_le _ _
  have h5 := h.rl
  unfold topOf
  rw [List.length_append, List.length_append]
  rw [en] at h2 ⊢
  omega

theorem ins_contains (n : Nat) : ∀ (l : List Nat), inV (.int (n : Nat)) (l.map fun k => V.int (k : Nat)) = l.contains n
  | [] => rfl
  | a :: l => by
    have ih := ins_contains n l
    unfold inV at *
    rw [List.map_cons, List.any_cons, ih, List.contains_cons]
    refine congrArg (· || l.contains n) ?_
    show ((a : Int) == (n : Int)) = (n == a)
    rw [Bool.eq_iff_iff]
    simp
    omega
theorem all_flat : ∀ (l : List Nat), (l.map fun k => V.int (k : Nat)).all flatV = true
  | [] => rfl
  | a :: l => by
    rw [List.map_cons, List.all_cons, all_flat l]
    rfl
theorem others_len (t : Kg66.State) : (othersOf t).length ≤ t.count := by
  unfold othersOf
  have z := List.length_filter_le (fun i => !(topOf t).contains i) (List.range t.count)
  rwa [List.length_range] at z
theorem ok_places_of (T : Txt K mg A) (D_order_key : Own P w K mg base CX0 5 "order_key" Porder_key (sp_order_key K A)) (D_placed_first : Own P w K mg base CX0 2 "placed_first" Pplaced_first (sp_placed_first K A)) {c : Addr} (TB : LamX.TabB base mg c A.P) {f : Addr} {fd : FuncData} (F : FunC K "places_of" "places_of" splaces_of f fd c) : FnOk P w K mg base CX0 9 f fd Pplaces_of (sp_places_of K A) := by
  refine F.ok scplaces_of (fun vs H Q E h => ?_) (fun Ar outer s H vs Q E hr h => ⟨_, (pss_cons (ps_set (i := 1) scplaces_of.nd rfl (Or.inl rfl) (pe_own D_placed_first (hr.mono (by decide)) (by exact (pa_cons (pv 0) pa_nil))))
      (pss_cons (ps_set (i := 4) scplaces_of.nd rfl (Or.inr rfl) (pe_lc (own := [("wrestler", 2), ("place", 3)]) (g := gTup K 2 (gCons (gName 2) (gCons (gName 3) gNil))) (tt := tYes) (te := (tVar 2)) rfl scplaces_of.nd (pi_list (pv 1)) (blkOk_by (own := [("wrestler", 2), ("place", 3)]) (N := Nplaces_of) (sc := defScope splaces_of) (by decide +kernel)) (fun _ _ _ _ _ => by exact ((pg_tup rfl (pgs_cons (pg_name (i := 2) scplaces_of.nd rfl (Or.inl rfl)) (pgs_cons (pg_name (i := 3) scplaces_of.nd rfl (Or.inl rfl)) pgs_nil))))) (fun _ _ _ _ _ => by exact (pts_nil)) (fun _ _ _ _ _ => by exact ((pv 2)))))
      (pss_cons (ps_setLc (i := 5) (own := [("wrestler", 2)]) (g := gName 2) (tt := (tTest (tOp (rIn K true) (tVar 2) (tVar 4)))) (te := (tVar 2)) rfl scplaces_of.nd rfl rfl (sw_true rfl rfl rfl (by decide +kernel)) (pi_range1 rfl T.range (by exact (pa_cons (pe_fld (pv 0) rfl) pa_nil))) (blkOk_by (own := [("wrestler", 2)]) (N := Nplaces_of) (sc := defScope splaces_of) (by decide +kernel)) (fun _ _ _ _ _ => by exact ((pg_name (i := 2) scplaces_of.nd rfl (Or.inl rfl)))) (fun _ _ _ _ _ => by exact (pts_one (pt_cmpR op_notIn_seq (pv 2) (pv 4) rfl))) (fun _ _ _ _ _ => by exact ((pv 2))))
      (pss_cons (ps_set (i := 3) scplaces_of.nd rfl (Or.inl rfl) (pe_callB call_len_seq rfl T.len (by decide +kernel) (by exact (pa_cons (pv 1) pa_nil))))
      (pss_cons (ps_for PassesOwn.never rfl (pi_list (pe_sortLam (k := 5) (j := 0) (N2 := ["one", "bracket"]) (y := "one") (cap := "bracket") T.sort TB rfl (pv 5) (hr.mono (by decide)) rfl (free_by (S := defScope splaces_of) (by decide +kernel)) (by decide +kernel) rfl (NdefX.nscope_by (by decide +kernel)) (fun _ _ _ _ us hl => by match us, hl with | [u], _ => rfl) (fun _ _ _ _ _ _ _ hrm => by exact (pe_own D_order_key (hrm.mono (by decide)) (by exact (pa_cons (pv 1) (pa_cons (pv 0) pa_nil))))))) (pg_name (i := 2) scplaces_of.nd rfl (Or.inl rfl)) (pss_cons (ps_aug (i := 3) scplaces_of.nd rfl (Or.inl rfl) pe_int ip_add)
      (pss_one (ps_expr (pe_bm PySem.F.plainAttrs_list PySem.F.slot_list_append PySem.F.type_list_append mt_append (pv 1) (by exact (pa_cons (pe_tup (by exact (pa_cons (pv 2) (pa_cons (pv 3) pa_nil)))) pa_nil)))))))
      (pss_one (ps_ret (pv 1)))))))), ?_⟩)
  · obtain ⟨_, rfl, _⟩ := h
    rfl
  obtain ⟨s, rfl, hs, wf, hdone, hT, k⟩ := h
  have big : (1000 : Nat) < sizeLine := by decide
  have l36 := top_len wf.g
  have cn : s.n ≤ 32 := wf.g.cn
  refine ⟨_, rfl, s, rfl, hs, wf, hdone, fun H1 p ts s1 np f1 T1 => ?_⟩
  have lt : ts.length ≤ 36 := by rw [T1.len, first_len]; exact l36
  refine ⟨_, rfl, p, rfl, ⟨_, SqL.of f1⟩, fun D hD => ?_⟩
  refine lc_fun (K := K) (a := p) (as := firstL s.abs) (fun _ => true) (fun x => .int (x.1 : Nat)) hD (SqL.of f1) (by rw [List.length_map]; exact T1.len) (by rw [← T1.len]; omega) (fun j v y H2 hv hy hm s2 Y Z hY hZ => ?_) fun H2 s2 e2 => ?_
  · obtain ⟨t, rfl, ht⟩ := (T1.same s2).get hv hy
    refine ⟨t, _, rfl, SqT.of ht, rfl, _, _, rfl, _, _, rfl, rfl, rfl, ?_⟩
    refine iteT (B := Z H2) ?_
    exact ⟨_, rfl, hY rfl H2 (Same.refl _)⟩
  · have f2 : H2 D = some (.lst ((topOf s.abs).map fun k => V.int (k : Nat))) := by
      rw [e2, ← first_fst, List.map_map]
      refine congrArg (fun z => some (HO.lst z)) ?_
      rw [show (firstL s.abs).filter (fun _ => true) = firstL s.abs from List.filter_eq_self.mpr fun _ _ => rfl]
      rfl
    have s02 := s1.trans s2
    refine ⟨_, rfl, s.a, A.CK, s.d, _, _, rfl, s02 _ _ hs.obj, T.clCK, T.nCK_many, sF_n, ?_⟩
    refine ⟨_, rfl, (by omega), (by omega), fun D2 hD2 => ?_⟩
    refine lc_rangeF (n := s.n) (fun i => !(topOf s.abs).contains i) (by omega) hD2 (fun i H3 hi s3 Y Z hY hZ => ?_) fun H3 s3 e3 => ?_
    · rw [Int.zero_add]
      refine ⟨rfl, _, rfl, _, rfl, D, _, rfl, .inl (SqL.of (s3 _ _ f2)), rfl, all_flat _, _, rfl, ?_⟩
      have eb : (if true = true then !inV (.int (i : Nat)) ((topOf s.abs).map fun k => V.int (k : Nat)) else inV (.int (i : Nat)) ((topOf s.abs).map fun k => V.int (k : Nat))) = !(topOf s.abs).contains i := by
        rw [if_pos rfl, ins_contains]
      refine ite_d (fun hb => ?_) (fun hb => ?_)
      · exact ⟨_, rfl, hY (eb.symm.trans hb)⟩
      · exact hZ (eb.symm.trans hb)
    · have f3 : H3 D2 = some (.lst (((othersOf s.abs).map fun n : Nat => (n : Int)).map V.int)) := by
        rw [e3, List.map_map]
        rfl
      have s13 := s2.trans s3
      have s03 := s1.trans s13
      refine ⟨_, rfl, p, _, rfl, .inl (SqL.of (s13 _ _ f1)), ?_⟩
      refine ⟨_, rfl, D2, _, (fun x => s.abs.key x.toNat), 4, rfl, SqL.of f3, ?_, hT.ext s03, (fun x => rfl), by decide, (fun x hx H4 ex => ?_), fun ns' H4 D4 hperm hpair ex4 T4 nD4 f4 => ?_⟩
      · rw [List.length_map]
        exact Nat.le_trans (others_len _) (by show s.n ≤ 1000; omega)
      · obtain ⟨n, _, rfl⟩ := List.mem_map.mp hx
        exact ⟨_, rfl, _, rfl, s, n, rfl, (hs.same s03).ext ex, wf.g, fun H5 t s5 ht => ⟨t, rfl, s5, ht⟩⟩
      · have er := sorted_rest hperm hpair
        rw [er, List.map_map] at f4
        have f4' : H4 D4 = some (.lst ((restOf s.abs).map fun n => V.int (n : Nat))) := f4
        have rl : (restOf s.abs).length ≤ 32 := by
          have z := hperm.length_eq
          rw [er, List.length_map, List.length_map] at z
          have := others_len s.abs
          have e : s.abs.count = s.n := rfl
          omega
        have p4 := ex4 _ _ (s13 _ _ f1) (plain_tbl trivial)
        have TT4 := (T1.same s13).ext ex4
        have ex04 : ExtN H H4 := (ExtN.of s03).trans ex4
        refine ⟨D4, rfl, ⟨_, SqL.of f4'⟩, ?_⟩
        refine for_list (K := K) (a := D4) (xs := (restOf s.abs).map fun n => V.int (n : Nat)) (fun i σ H' => ∃ (v : Option V) (us : List Addr), σ = [some (.ref s.a), some (.ref p), v, some (.int ((ts.length + i : Nat) : Int)), some (.ref D), some (.ref D2)] ∧ ExtN H H' ∧ TabS H' A.P qLam ∧ H' D4 = some (.lst ((restOf s.abs).map fun n => V.int (n : Nat))) ∧ H' p = some (.lst ((ts ++ us).map V.ref)) ∧
          TupsAt H' (ts ++ us) (firstL s.abs ++ ((restOf s.abs).take i).zipIdx.map fun x => (x.1, (topOf s.abs).length + 1 + x.2)))
          ⟨none, [], ?_, ex04, T4, f4', by rw [List.append_nil]; exact p4, by rw [List.append_nil]; show TupsAt H4 ts (firstL s.abs ++ []); rw [List.append_nil]; exact TT4⟩ (fun i σ H' _ ⟨_, _, _, _, _, q, _⟩ => SqL.of q) ?_ ?_
        · rw [List.length_map]
          rfl
        · rintro i y σ H5 hy ⟨v, us, rfl, ex5, T5, g5, p5, TT5⟩
          obtain ⟨n, hn, rfl⟩ := map_at hy
          have hil := (List.getElem?_eq_some_iff.mp hn).1
          have hne := (List.getElem?_eq_some_iff.mp hn).2
          have hlen : ts.length + us.length = (topOf s.abs).length + i := by
            have z := TT5.len
            rw [List.length_append, List.length_append, first_len, List.length_map, List.length_zipIdx, List.length_take] at z
            omega
          have htl : ts.length = (topOf s.abs).length := by rw [T1.len, first_len]
          refine ⟨_, rfl, _, _, rfl, rfl, ?_⟩
          refine ⟨_, rfl, .inl ⟨rfl, _, SqL.of p5⟩, _, rfl, _, rfl, (by show 2 ≤ sizeLine; decide), fun t ht => ?_⟩
          generalize e6 : upd H5 t _ = H6
          have s6 : Same H5 H6 := e6 ▸ same_new ht
          have f6 : H6 t = some (.tup [.int (n : Nat), .int (((topOf s.abs).length + 1 + i : Nat) : Int)]) := by
            rw [← e6, upd_same]
            refine congrArg (fun z => some (HO.tup [V.int (n : Nat), V.int z])) ?_
            show ((ts.length + i : Nat) : Int) + 1 = _
            omega
          refine ⟨p, _, _, rfl, rfl, s6 _ _ p5, (by rw [List.length_map, List.length_append]; omega), ?_⟩
          have p0 : H p = none := np
          have nPp : ∀ ps, H5 p ≠ some (.tbl ps) := fun ps z => by rw [p5] at z; cases z
          have ex7 : ∀ (l : List V), ExtN H (upd H6 p (.lst l)) := fun l b o hb hno => by
            rw [upd_ne (ne_of_none hb p0)]
            exact s6 _ _ (ex5 b o hb hno)
          obtain ⟨tb, hP, ht1, ht2⟩ := T5.ext s6
          have nPA : A.P ≠ p := ne_of hP (s6 _ _ p5) (fun z => by cases z)
          refine ⟨some (.int (n : Nat)), us ++ [t], ?_, ex7 _, ⟨tb, (upd_ne nPA).trans hP, ht1, fun pos cv hc => ?_⟩, ?_, ?_, ?_⟩
          · show [some (V.ref s.a), some (.ref p), some (.int (n : Nat)), some (.int (((ts.length + i : Nat) : Int) + 1)), some (.ref D), some (.ref D2)] = _
            rw [show ((ts.length + i : Nat) : Int) + 1 = ((ts.length + (i + 1) : Nat) : Int) by omega]
          · obtain ⟨c0, e1, e2⟩ := ht2 pos cv hc
            refine ⟨c0, e1, (upd_ne (ne_of e2 (s6 _ _ p5) fun z => ?_)).trans e2⟩
            cases z
          · exact (upd_ne (ne_of_none (s13 _ _ f1) nD4).symm).trans (s6 _ _ g5)
          · rw [upd_same]
            simp
          · refine TupsAt.set (s6 _ _ p5) ?_
            rw [← List.append_assoc, List.take_succ_eq_append_getElem hil, hne, List.zipIdx_append, List.map_append, ← List.append_assoc (firstL s.abs), Nat.zero_add]
            refine (TT5.same s6).app ?_
            have el : ((restOf s.abs).take i).length = i := by rw [List.length_take]; omega
            rw [el]
            exact .cons f6 .nil
        · rintro σ H5 ⟨v, us, rfl, ex5, T5, g5, p5, TT5⟩
          rw [List.length_map, List.take_length, ← places_eq] at TT5
          exact ⟨_, rfl, k H5 p _ ex5 T5 np p5 TT5⟩
end
end Wm
/-! # The calls: refusals, a bout by its place -/
namespace Wm
open PySem PySem.Spec PyProof.Rows L2
open LamX (TabS TabB ExtN)
/-- what the top has left of the error's class -/
structure TxtE (K : PySem.W.Frag) (mg : Str → Option Value) (A : Ads) : Prop where
  ex : ExC K A.CD
  nn : PySem.W.findIn K (.ref A.CD) "number" = some none
  xf : XfC K A.CD
  mD : mg "Denied" = some (.ref A.CD)
  ot : PySem.W.exmOne K (.ref A.CD) (.ref A.CD) = some true
def sp_Denied_init (K : PySem.W.Frag) (A : Ads) : Sp := fun vs H Q _ => ∃ (a : Addr) (n : Int), vs = [.ref a, .int n] ∧ H a = some (exo a A.CD none) ∧ ∀ dx, H dx = none → dx ≠ a → Q .non (upd (upd H dx (exd dx [("number", .int n)])) a (exo a A.CD (some dx)))
/-- the error's class with the promise of its __init__ -/
def OwnD (P : Program) (w : World) (K : PySem.W.Frag) (mg : Str → Option Value) (base : Heap) (A : Ads) : Prop :=
  ∃ (fI : Addr) (fd : FuncData), PySem.W.findIn K (.ref A.CD) "__init__" = some (some (.ref fI)) ∧ PySem.W.typeIn K (.ref fI) = some (.type "function") ∧ FnOk P w K mg base CX0 1 fI fd PDenied_init (sp_Denied_init K A) ∧ Binds K fd PDenied_init []
/-- raise Denied(e, ..) -/
theorem ps_denied {X : Cx} {W : WX} {A : Ads} {e : Expr} {es : List Expr} {ta : TA} {p pos pos' : Pos} (D : OwnD X.prog X.w X.K X.mg X.base A) (T : TxtE X.K X.mg A) (hc : X.calm = true) (hr : Room 2 X.A) (tk : Takes X W) (ha : PA X (e :: es) ta) (hg : Gl X "Denied" := by rfl)
    (he : starEach (e :: es) X.env = (false, eval e X.env) :: starEach es X.env := by rfl) (hpl : (backTo pos (starEach es X.env)).any (·.1) = false := by rfl) :
    PS X (.Raise (some (.Call (.Name "Denied" p) (e :: es) [] pos)) none pos') (fun _ σ H => (tMkO A.CD (sp_Denied_init X.K A) [] ta) σ H fun cls d H' => W cls d σ H') := by
  obtain ⟨fI, fd, h1, h2, F, hb⟩ := D
  exact ps_raise hc tk (pmk_ex T.ex h1 h2 F hr hb pass0 T.mD ha hg (by decide) he hpl)
/-- a refusal with the number n -/
def Refuse (A : Ads) (H : Hp) (n : Int) (E : XK) : Prop := ∀ (H' : Hp) (d : Addr), Same H H' → H' d = some (.xd [("number", .int n)]) → E (.ref A.CD) (some d) H'
theorem Refuse.same {A : Ads} {H H1 : Hp} {n : Int} {E : XK} (h : Refuse A H n E) (s : Same H H1) : Refuse A H1 n E := fun H' d s' e => h H' d (s.trans s') e
section
variable {P : Program} {w : World} {K : PySem.W.Frag} {mg : Str → Option Value} {base : Heap} {A : Ads}
theorem ok_Denied_init (T : Txt K mg A) (TE : TxtE K mg A) {f : Addr} {fd : FuncData} (F : Fun K "__init__" "Denied.__init__" sDenied_init f fd) : FnOk P w K mg base CX0 1 f fd PDenied_init (sp_Denied_init K A) := by
  refine F.ok scDenied_init (fun vs H Q E h => ?_) (fun cdv Ar outer s H vs Q E hr h => ⟨_, (pss_cons (ps_expr (pe_exinit T.exc (by exact (pa_cons (pv 0) (pa_cons (pv 1) pa_nil))))) (pss_one (ps_set1 (pv 0) (pv 1) rfl))), ?_⟩)
  · obtain ⟨_, _, rfl, _⟩ := h
    rfl
  obtain ⟨a, n, rfl, ha, k⟩ := h
  refine ⟨_, rfl, _, rfl, a, A.CD, [.int n], rfl, (by show 1 ≤ 1000; decide), TE.ex, ha, ?_⟩
  exact ⟨_, rfl, _, rfl, a, A.CD, rfl, TE.ex, TE.nn, ha, fun dx hdx hne => k dx hdx hne⟩
def sp_need (K : PySem.W.Frag) (A : Ads) : Sp := fun vs H Q E => ∃ (b : Bool) (n : Int), vs = [.bl b, .int n] ∧ (b = true → Q .non H) ∧ (b = false → Refuse A H n E)
theorem ok_need (T : Txt K mg A) (TE : TxtE K mg A) (D_Denied : OwnD P w K mg base A) {f : Addr} {fd : FuncData} (F : Fun K "need" "need" sneed f fd) : FnOk P w K mg base (L2.CX P w) 3 f fd Pneed (sp_need K A) := by
  refine F.okX scneed (fun vs H Q E h => ?_) (fun cdv Ar outer s H vs Q E hr h => ⟨_, (pss_one (ps_if (pt_not (pt_val (pv 0))) (pss_one (ps_denied D_Denied TE rfl (hr.mono (by decide)) (takes_of rfl rfl rfl rfl) (by exact (pa_cons (pv 1) pa_nil)))) pss_nil)), ?_⟩)
  · obtain ⟨_, _, rfl, _⟩ := h
    rfl
  obtain ⟨b, n, rfl, k1, k2⟩ := h
  refine ⟨_, rfl, b, rfl, ite_d (fun hb => ?_) (fun hb => ?_)⟩
  · have hb' : b = false := by simpa using hb
    refine ⟨_, rfl, (by show 1 ≤ 1000; decide), fun a ha => ?_⟩
    refine ⟨a, n, rfl, upd_same, fun dx hdx hne => ⟨rfl, dx, [("number", .int n)], upd_same, ?_, ?_, ?_⟩⟩
    · rw [upd_ne hne, upd_same]
    · rwa [upd_ne hne] at hdx
    · have hdx0 : H dx = none := by rwa [upd_ne hne] at hdx
      refine k2 hb' _ dx (fun q o hq => ?_) upd_same
      have n1 : q ≠ dx := ne_of_none hq hdx0
      have n2 : q ≠ a := ne_of_none hq ha
      rw [upd_ne n1]
      unfold del
      rw [if_neg n2, upd_ne n2, upd_ne n1, upd_ne n2]
      exact hq
  · have hb' : b = true := by simpa using hb
    exact k1 hb'
end
end Wm
/-! # A bout by its place -/
namespace Wm
open PySem PySem.Spec PyProof.Rows L2
open LamX (TabS TabB ExtN)
def vB (o : Option SL) : V := match o with
  | some s => .ref s.a
  | none => .non
def absO (o : Option SL) : Kg66.State := match o with
  | some s => s.abs
  | none => Kg66.init
def Loc (s : SL) (w k : Int) (x : BL) : Prop := (w = 0 ∧ ∃ R p L M, s.rounds = R ++ [⟨p, L ++ x :: M⟩] ∧ k = (L.length : Nat)) ∨ (∃ L r M B, s.rows = L ++ r :: M ∧ w = (L.length : Nat) + 1 ∧ k = 0 ∧ r.bs = B ++ [x])
theorem split_at {al : Type} {l : List al} {i : Nat} {x : al} (h : l[i]? = some x) : ∃ L M, l = L ++ x :: M ∧ L.length = i := by
  obtain ⟨hi, e⟩ := List.getElem?_eq_some_iff.mp h
  refine ⟨l.take i, l.drop (i + 1), ?_, by rw [List.length_take]; omega⟩
  rw [← e, ← List.drop_eq_getElem_cons hi, List.take_append_drop]
theorem find_zero (t : Kg66.State) (k : Int) : t.find 0 k = if k < 0 then none else t.now[k.toNat]? := by
  unfold Kg66.State.find
  rw [if_pos rfl]
theorem find_row {t : Kg66.State} {i : Nat} (h : i < t.rows.length) (h2 : t.rows.length ≤ 2) : t.find ((i : Nat) + 1) 0 = (t.rows[i]?).bind fun r => r.bouts.getLast? := by
  unfold Kg66.State.find
  rw [if_neg (by omega), if_pos (by omega), if_pos rfl]
  have e : ((i : Int) + 1).toNat - 1 = i := by omega
  rw [e]
theorem find_none {t : Kg66.State} {w k : Int} (h2 : t.rows.length ≤ 2) (h0 : ¬ w = 0) (h : ¬ (1 ≤ w ∧ w ≤ t.rows.length ∧ k = 0)) : t.find w k = none := by
  unfold Kg66.State.find
  rw [if_neg h0]
  by_cases hw : w = 1 ∨ w = 2
  · rw [if_pos hw]
    by_cases hk : k = 0
    · rw [if_pos hk]
      have e : t.rows[w.toNat - 1]? = none := List.getElem?_eq_none (by omega)
      rw [e]
      rfl
    · rw [if_neg hk]
  · rw [if_neg hw]
section
variable {P : Program} {w : World} {K : PySem.W.Frag} {mg : Str → Option Value} {base : Heap} {A : Ads}
def sp_bout_at (K : PySem.W.Frag) (A : Ads) : Sp := fun vs H Q E => ∃ (o : Option SL) (w k : Int), vs = [vB o, .int w, .int k] ∧ (∀ s, o = some s → StIs A.CB A.CR A.CK H s ∧ WfG s.abs) ∧ (o = none → Refuse A H (-2) E) ∧
  (∀ s, o = some s → s.abs.find w k = none → Refuse A H (-1) E) ∧ ∀ s x, o = some s → s.abs.find w k = some x.b → Loc s w k x → BoutIs A.CB H x → WfX x.b → Q (.ref x.a) H
theorem ok_bout_at (T : Txt K mg A) (D_need : Own P w K mg base (L2.CX P w) 3 "need" Pneed (sp_need K A)) {f : Addr} {fd : FuncData} (F : Fun K "bout_at" "bout_at" sbout_at f fd) : FnOk P w K mg base (L2.CX P w) 4 f fd Pbout_at (sp_bout_at K A) := by
  refine F.okX scbout_at (fun vs H Q E h => ?_) (fun cdv Ar outer s H vs Q E hr h => ⟨_, (pss_cons (ps_expr (pe_ownX D_need (hr.mono (by decide)) (takes_of rfl rfl rfl rfl) (fun _ _ _ _ h => h) (by exact (pa_cons (pe_cmpR op_notN (pv 0) pe_non (nomark _)) (pa_cons (pe_un un_neg pe_int) pa_nil)))))
      (pss_cons (ps_if (pt_cmpR op_eq (pv 1) pe_int (nomark _)) (pss_cons (ps_expr (pe_ownX D_need (hr.mono (by decide)) (takes_of rfl rfl rfl rfl) (fun _ _ _ _ h => h) (by exact (pa_cons (pe_chain op_le op_lt pe_int (pv 2) (pe_callB call_len_seq rfl T.len (by decide +kernel) (by exact (pa_cons (pe_ix ix_list (pe_fld (pv 0) rfl) (pe_un un_neg pe_int) (fun _ _ => rfl)) pa_nil)))) (pa_cons (pe_un un_neg pe_int) pa_nil)))))
      (pss_one (ps_ret (pe_ix ix_list (pe_ix ix_list (pe_fld (pv 0) rfl) (pe_un un_neg pe_int) (fun _ _ => rfl)) (pv 2) (fun _ _ => rfl))))) pss_nil)
      (pss_cons (ps_expr (pe_ownX D_need (hr.mono (by decide)) (takes_of rfl rfl rfl rfl) (fun _ _ _ _ h => h) (by exact (pa_cons (pe_and (pe_chain op_le op_le pe_int (pv 1) (pe_callB call_len_seq rfl T.len (by decide +kernel) (by exact (pa_cons (pe_fld (pv 0) rfl) pa_nil)))) (pe_one (pe_cmpR op_eq (pv 2) pe_int (nomark _)))) (pa_cons (pe_un un_neg pe_int) pa_nil)))))
      (pss_cons (ps_expr (pe_ownX D_need (hr.mono (by decide)) (takes_of rfl rfl rfl rfl) (fun _ _ _ _ h => h) (by exact (pa_cons (pe_cmpR op_gt (pe_callB call_len_seq rfl T.len (by decide +kernel) (by exact (pa_cons (pe_fld (pe_ix ix_list (pe_fld (pv 0) rfl) (pe_op op_sub (pv 1) pe_int) (fun _ _ => rfl)) rfl) pa_nil))) pe_int (nomark _)) (pa_cons (pe_un un_neg pe_int) pa_nil)))))
      (pss_one (ps_ret (pe_ix ix_list (pe_fld (pe_ix ix_list (pe_fld (pv 0) rfl) (pe_op op_sub (pv 1) pe_int) (fun _ _ => rfl)) rfl) (pe_un un_neg pe_int) (fun _ _ => rfl)))))))), ?_⟩)
  · obtain ⟨_, _, _, rfl, _⟩ := h
    rfl
  obtain ⟨o, w, k, rfl, hwf, k1, k2, k3⟩ := h
  cases o with
  | none => exact ⟨_, rfl, rfl, 2, rfl, _, -2, rfl, (fun hb => nomatch hb), fun _ => k1 rfl⟩
  | some s =>
    obtain ⟨hs, wf⟩ := hwf s rfl
    obtain ⟨w1, w2, w3, w4⟩ := rd_len wf
    have wlen : s.abs.rows.length = s.rows.length := by
      show (s.rows.map WL.abs).length = _
      rw [List.length_map]
    refine ⟨_, rfl, rfl, 2, rfl, _, -2, rfl, (fun _ => ?_), fun hb => nomatch hb⟩
    refine ⟨_, rfl, rfl, _, rfl, if_d (fun h0 => ?_) (fun h0 => ?_)⟩
    · obtain rfl := V.int.inj h0
      obtain ⟨R, r, eR, eN⟩ := SL.snoc wf
      have hl := hs.l
      rw [eR, List.map_append] at hl
      have hr1 := hs.rd r (by rw [eR]; simp)
      have hf := find_zero s.abs k
      rw [eN] at hf
      have k2' := k2 s rfl
      rw [hf] at k2'
      refine ⟨_, rfl, _, _, rfl, rfl, _, rfl, if_d (fun h1 => ?_) (fun h1 => ?_)⟩
      · rw [if_neg (by omega)] at hf k2'
        refine ⟨_, rfl, s.a, A.CK, s.d, _, _, rfl, hs.obj, T.clCK, T.nCK_rounds, sF_r, 1, rfl, s.pr, _, -1, _, rfl, rfl, SqL.of hl, atI_last _ _, r.p, _, rfl, .inl (SqL.of hr1.l), _, _, rfl, rfl, 1, rfl, _, -1, rfl, (fun hb => ?_), fun hb => ?_⟩
        · have h2 := of_decide_eq_true hb
          rw [List.length_map] at h2
          obtain ⟨j, rfl⟩ : ∃ j : Nat, k = (j : Nat) := ⟨k.toNat, by omega⟩
          have hj : j < r.bs.length := by omega
          have hx : r.bs[j]? = some r.bs[j] := List.getElem?_eq_getElem hj
          have hv : (r.bs.map fun x => V.ref x.a)[j]? = some (.ref (r.bs[j]).a) := by
            rw [List.getElem?_map, hx]
            rfl
          refine ⟨_, rfl, s.a, A.CK, s.d, _, _, rfl, hs.obj, T.clCK, T.nCK_rounds, sF_r, 1, rfl, s.pr, _, -1, _, rfl, rfl, SqL.of hl, atI_last _ _, _, rfl, r.p, _, _, _, rfl, rfl, SqL.of hr1.l, atI_nat hv, ?_⟩
          have hm := List.mem_of_getElem? hx
          obtain ⟨L, M, e1, e2⟩ := split_at hx
          refine k3 s _ rfl ?_ (.inl ⟨rfl, R, r.p, L, M, by rw [eR, ← e1], by rw [e2]⟩) (hr1.at_ _ hm) (rd_bl wf r (by rw [eR]; simp) _ hm)
          rw [hf]
          have e3 : ((j : Nat) : Int).toNat = j := Int.toNat_natCast j
          rw [e3]
          unfold RL.abs
          rw [List.getElem?_map, hx]
          rfl
        · refine k2' ?_
          have h2 := of_decide_eq_false hb
          rw [List.length_map] at h2
          refine List.getElem?_eq_none ?_
          unfold RL.abs
          rw [List.length_map]
          omega
      · rw [if_pos (by omega)] at k2'
        exact ⟨1, rfl, _, -1, rfl, (fun hb => nomatch hb), fun _ => k2' rfl⟩
    · have hw0 : ¬ w = 0 := fun z => h0 (by rw [z])
      have ref : ¬ (1 ≤ w ∧ w ≤ s.abs.rows.length ∧ k = 0) → Refuse A H (-1) E := fun z => k2 s rfl (find_none (by omega) hw0 z)
      refine ⟨_, rfl, _, _, rfl, rfl, _, rfl, if_d (fun h1 => ?_) (fun h1 => ?_)⟩
      · refine ⟨_, rfl, s.a, A.CK, s.d, _, _, rfl, hs.obj, T.clCK, T.nCK_rows, sF_w, s.pw, _, rfl, .inl (SqL.of hs.w), _, _, rfl, rfl, _, rfl, if_d (fun h2 => ?_) (fun h2 => ?_)⟩
        · rw [List.length_map] at h2
          refine ⟨_, rfl, rfl, 1, rfl, _, -1, rfl, (fun hb => ?_), fun hb => ?_⟩
          · obtain rfl := V.int.inj (of_decide_eq_true hb)
            obtain ⟨i, rfl⟩ : ∃ i : Nat, w = (i : Nat) + 1 := ⟨(w - 1).toNat, by omega⟩
            have hi : i < s.rows.length := by omega
            have hx : s.rows[i]? = some s.rows[i] := List.getElem?_eq_getElem hi
            generalize s.rows[i] = r at hx
            have hm := List.mem_of_getElem? hx
            have hrow := hs.rw_ r hm
            have wfr := wf.rows r.abs (List.mem_map.mpr ⟨r, hm, rfl⟩)
            have e1 : ((i : Nat) : Int) + 1 - 1 = (i : Nat) := by omega
            have hv : atI (s.rows.map fun r => V.ref r.a) (((i : Nat) : Int) + 1 - 1) = some (.ref r.a) := by
              rw [e1]
              refine atI_nat ?_
              rw [List.getElem?_map, hx]
              rfl
            have hf := find_row (t := s.abs) (i := i) (by omega) (by omega)
            have hx2 : s.abs.rows[i]? = some r.abs := by
              show (s.rows.map WL.abs)[i]? = _
              rw [List.getElem?_map, hx]
              rfl
            rw [hx2] at hf
            have hf' : s.abs.find ((i : Nat) + 1) 0 = (r.bs.map BL.b).getLast? := hf
            refine ⟨_, rfl, s.a, A.CK, s.d, _, _, rfl, hs.obj, T.clCK, T.nCK_rows, sF_w, _, rfl, _, _, rfl, rfl, s.pw, _, _, _, rfl, rfl, SqL.of hs.w, hv, r.a, A.CR, r.d, _, _, rfl, hrow.obj, T.clCR, T.nCR_bouts, rF_b, r.pb, _, rfl, .inl (SqL.of hrow.l), _, _, rfl, rfl, 1, rfl, _, -1, rfl, (fun hb2 => ?_), fun hb2 => ?_⟩
            · have h3 := of_decide_eq_true hb2
              rw [List.length_map] at h3
              obtain ⟨B, x, ex⟩ := snoc_of (l := r.bs) fun z => by
                rw [z] at h3
                exact absurd h3 (by decide)
              have hl' := hrow.l
              rw [ex, List.map_append] at hl'
              have hxm : x ∈ r.bs := by rw [ex]; simp
              refine ⟨_, rfl, s.a, A.CK, s.d, _, _, rfl, hs.obj, T.clCK, T.nCK_rows, sF_w, _, rfl, _, _, rfl, rfl, s.pw, _, _, _, rfl, rfl, SqL.of hs.w, hv, r.a, A.CR, r.d, _, _, rfl, hrow.obj, T.clCR, T.nCR_bouts, rF_b, 1, rfl, r.pb, _, -1, _, rfl, rfl, SqL.of hl', atI_last _ _, ?_⟩
              obtain ⟨L, M, e3, e4⟩ := split_at hx
              refine k3 s x rfl ?_ (.inr ⟨L, r, M, B, e3, by rw [e4], rfl, ex⟩) (hrow.at_ x hxm) (wfr.bt x.b (List.mem_map.mpr ⟨x, hxm, rfl⟩))
              rw [hf', ex, List.map_append]
              simp
            · have h3 := of_decide_eq_false hb2
              rw [List.length_map] at h3
              refine k2 s rfl ?_
              rw [hf', List.eq_nil_of_length_eq_zero (l := r.bs) (by omega)]
              rfl
          · have h3 := of_decide_eq_false hb
            exact ref fun z => h3 (by rw [z.2.2])
        · rw [List.length_map] at h2
          exact ⟨1, rfl, _, -1, rfl, (fun hb => nomatch hb), fun _ => ref fun z => h2 (by omega)⟩
      · refine ⟨_, rfl, if_f rfl ?_⟩
        exact ⟨1, rfl, _, -1, rfl, (fun hb => nomatch hb), fun _ => ref fun z => h1 (by omega)⟩
def sp_need_going (K : PySem.W.Frag) (A : Ads) : Sp := fun vs H Q E => ∃ (x : BL), vs = [.ref x.a] ∧ BoutIs A.CB H x ∧ (x.b.won = none → Q .non H) ∧ (x.b.won ≠ none → Refuse A H (-4) E)
theorem ok_need_going (T : Txt K mg A) (D_need : Own P w K mg base (L2.CX P w) 3 "need" Pneed (sp_need K A)) {f : Addr} {fd : FuncData} (F : Fun K "need_going" "need_going" sneed_going f fd) : FnOk P w K mg base (L2.CX P w) 4 f fd Pneed_going (sp_need_going K A) := by
  refine F.okX scneed_going (fun vs H Q E h => ?_) (fun cdv Ar outer s H vs Q E hr h => ⟨_, (pss_one (ps_expr (pe_ownX D_need (hr.mono (by decide)) (takes_of rfl rfl rfl rfl) (fun _ _ _ _ h => h) (by exact (pa_cons (pe_cmpR op_eq (pe_fld (pv 0) rfl) (pe_gl T.gNOBODY) (nomark _)) (pa_cons (pe_un un_neg pe_int) pa_nil)))))), ?_⟩)
  · obtain ⟨_, rfl, _⟩ := h
    rfl
  obtain ⟨x, rfl, hb, k1, k2⟩ := h
  refine ⟨_, rfl, x.a, A.CB, x.d, _, _, rfl, hb.obj, T.clCB, T.nCB_winner, bF_wi, rfl, 4, rfl, _, -4, rfl, (fun hb => ?_), fun hb => ?_⟩
  · exact k1 (wonI_iff.mp (of_decide_eq_true hb))
  · exact k2 fun z => (of_decide_eq_false hb) (wonI_iff.mpr z)
/-- 1 if it is won, then how it stands -/
def toldB (b : Kg66.Bout) : List Int := (if b.won.isSome = true then 1 else 0) :: Kg66.showBout b
def sp_told_bout (K : PySem.W.Frag) (A : Ads) : Sp := fun vs H Q E => ∃ (s : SL) (x : BL), vs = [.ref s.a, .ref x.a] ∧ StIs A.CB A.CR A.CK H s ∧ WfG s.abs ∧ s.foot.Nodup ∧ BoutIs A.CB H x ∧ WfX x.b ∧
  ∀ (H' : Hp) (s' : SL) (p : Addr), StIs A.CB A.CR A.CK H' s' → s'.a = s.a → s'.abs = goOn s.abs → Goes s.foot s'.foot H H' → H p = none → H' p = some (.lst ((toldB x.b).map V.int)) → Q (.ref p) H'
theorem ok_told_bout (T : Txt K mg A) (D_go_on : Own P w K mg base CX0 5 "go_on" Pgo_on (sp_go_on K A)) (D_stands : Own P w K mg base CX0 5 "stands" Pstands (sp_stands K A)) {f : Addr} {fd : FuncData} (F : Fun K "told_bout" "told_bout" stold_bout f fd) : FnOk P w K mg base CX0 6 f fd Ptold_bout (sp_told_bout K A) := by
  refine F.ok sctold_bout (fun vs H Q E h => ?_) (fun cdv Ar outer s H vs Q E hr h => ⟨_, (pss_cons (ps_set (i := 2) sctold_bout.nd rfl (Or.inl rfl) (pe_op op_cat (pe_lst (by exact (pa_cons (pe_ifExp (pt_cmpR op_eq (pe_fld (pv 1) rfl) (pe_gl T.gNOBODY) (nomark _)) pe_int pe_int) pa_nil))) (pe_own D_stands (hr.mono (by decide)) (by exact (pa_cons (pv 1) pa_nil)))))
      (pss_cons (ps_expr (pe_own D_go_on (hr.mono (by decide)) (by exact (pa_cons (pv 0) pa_nil))))
      (pss_one (ps_ret (pv 2))))), ?_⟩)
  · obtain ⟨_, _, rfl, _⟩ := h
    rfl
  obtain ⟨s, x, rfl, hs, wf, nd, hb, wfx, k⟩ := h
  have go : ∀ z : Int, z = (if x.b.won.isSome = true then 1 else 0) → ∀ (Y : V → Hp → Prop), (∀ (H' : Hp) (p : Addr), Same H H' → H p = none → H' p = some (.lst ((toldB x.b).map V.int)) → Y (.ref p) H') → True := fun _ _ _ _ => trivial
  refine ⟨_, rfl, x.a, A.CB, x.d, _, _, rfl, hb.obj, T.clCB, T.nCB_winner, bF_wi, rfl, _, rfl, if_d (fun h1 => ?_) (fun h1 => ?_)⟩
  all_goals
    refine ⟨(by show 1 ≤ sizeLine; decide), fun p1 hp1 => ?_⟩
    generalize e1 : upd H p1 _ = H1
    have s1 : Same H H1 := e1 ▸ same_new hp1
    have f1 : H1 p1 = some (.lst [.int (if x.b.won.isSome = true then 1 else 0)]) := by
      rw [← e1, upd_same]
      first
        | rw [wonI_iff.mp h1]
          rfl
        | (obtain ⟨u, hh, e⟩ := (won_cases x.b).resolve_left fun z => h1 (wonI_iff.mpr z)
           rw [e]
           rfl)
    refine ⟨_, rfl, x, rfl, hb.same s1, wfx.wf, fun H2 p2 s2 np2 f2 => ?_⟩
    refine ⟨p1, p2, _, _, rfl, rfl, s2 _ _ f1, f2, (by rw [List.length_map]; show 1 + 9 ≤ sizeLine; decide), fun p3 hp3 => ?_⟩
    generalize e3 : upd H2 p3 _ = H3
    have s3 : Same H2 H3 := e3 ▸ same_new hp3
    have f3 : H3 p3 = some (.lst ((toldB x.b).map V.int)) := e3 ▸ upd_same
    have s03 := s1.trans (s2.trans s3)
    have n3 : H p3 = none := (s1.trans s2).free hp3
    have hs3 := hs.same s03
    refine ⟨_, rfl, s, rfl, hs3, wf, nd, fun H4 s' h4 ea eb g4 => ?_⟩
    have np : p3 ∉ s.foot := not_in hs.plain n3
    refine ⟨_, rfl, k H4 s' p3 h4 ea eb ⟨fun q o hq hn => g4.keep q o (s03 _ _ hq) hn, fun q hq => ?_, g4.nd⟩ n3 (g4.keep _ _ f3 np)⟩
    rcases g4.new q hq with z | z
    · exact .inl z
    · exact .inr (s03.free z)
end
end Wm
/-! # What comes of a bout, in plain Lean: the code's go_on and the document's step agree -/
namespace Wm
theorem wfX_won {b : Kg66.Bout} {u h : Nat} (hw : ∀ x ∈ b.acts, x.who ≤ 1) (hl : b.acts.length ≤ 100) (ha : b.a.isSome = true) (hb : b.b.isSome = true) (hu : u ≤ 1) (h5 : h ≠ 5) (e : b.won = some (u, h)) : WfX b := by
  obtain ⟨i1, i2⟩ : b.winner.isSome = true ∧ b.loser.isSome = true := by
    rw [winner_eq e, loser_eq e]
    constructor
    · split <;> assumption
    · split <;> assumption
  refine ⟨⟨hw, hl, fun w' h' e' => ?_, ha⟩, fun e' => (by rw [e] at e'; cases e'), fun _ _ _ => i1, fun w' h' e' => ?_⟩
  · rw [e] at e'
    cases e'
    exact hu
  · rw [e] at e'
    cases e'
    exact ⟨fun z => absurd z h5, fun z => by rw [z] at i2; cases i2⟩
theorem wfX_open {b : Kg66.Bout} (hw : ∀ x ∈ b.acts, x.who ≤ 1) (hl : b.acts.length ≤ 100) (ha : b.a.isSome = true) (hb : b.b.isSome = true) (e : b.won = none) : WfX b :=
  ⟨⟨hw, hl, fun w' h' e' => (by rw [e] at e'; cases e'), ha⟩, fun _ => hb, fun _ _ e' => (by rw [e] at e'; cases e'), fun _ _ e' => (by rw [e] at e'; cases e')⟩
/-- a bout that is on, behind an act -/
theorem wfX_settle {b : Kg66.Bout} {i n : Nat} (h : WfX b) (ho : b.won = none) (hi : i ≤ 1) (hl : b.acts.length < 100) : WfX ({ b with acts := b.acts ++ [⟨i, n⟩] } : Kg66.Bout).settle := by
  have hw : ∀ x ∈ ({ b with acts := b.acts ++ [⟨i, n⟩] } : Kg66.Bout).acts, x.who ≤ 1 := fun x hx => by
    rcases List.mem_append.mp hx with z | z
    · exact h.wf.who x z
    · rw [List.mem_singleton.mp z]
      exact hi
  have hl' : ({ b with acts := b.acts ++ [⟨i, n⟩] } : Kg66.Bout).acts.length ≤ 100 := by
    show (b.acts ++ [(⟨i, n⟩ : Kg66.Act)]).length ≤ 100
    rw [List.length_append]
    simp
    omega
  unfold Kg66.Bout.settle
  split
  · exact wfX_won hw hl' h.wf.one (h.two ho) (Nat.le_refl _) (by decide) rfl
  split
  · exact wfX_won hw hl' h.wf.one (h.two ho) (by decide) (by decide) rfl
  split
  · exact wfX_won hw hl' h.wf.one (h.two ho) (by decide) (by decide) rfl
  split
  · exact wfX_won hw hl' h.wf.one (h.two ho) (Nat.le_refl _) (by decide) rfl
  · exact wfX_open hw hl' h.wf.one (h.two ho) ho
theorem settle_ab (b : Kg66.Bout) : b.settle.a = b.a ∧ b.settle.b = b.b := by
  unfold Kg66.Bout.settle
  split
  · exact ⟨rfl, rfl⟩
  split
  · exact ⟨rfl, rfl⟩
  split
  · exact ⟨rfl, rfl⟩
  split <;> exact ⟨rfl, rfl⟩
/-! ### a bout in its place -/
theorem now_eq {t : Kg66.State} {R : List (List Kg66.Bout)} {r : List Kg66.Bout} (e : t.rounds = R ++ [r]) : t.now = r := by
  have z := now_snoc t.count R r t.rows
  rw [← e] at z
  exact z
theorem repl0_wf {t : Kg66.State} {R : List (List Kg66.Bout)} {L M : List Kg66.Bout} {b b' : Kg66.Bout} (h : WfG t) (e : t.rounds = R ++ [L ++ b :: M]) (hb : WfX b') (eb : b'.b = b.b) : WfG { t with rounds := R ++ [L ++ b' :: M] } := by
  have en := now_eq e
  have en' : Kg66.State.now { t with rounds := R ++ [L ++ b' :: M] } = L ++ b' :: M := now_snoc _ _ _ _
  have el : (L ++ b' :: M).length = (L ++ b :: M).length := by simp
  refine ⟨fun r hr x hx => ?_, ?_, fun r hr => ?_, fun h1 f hf => ?_, h.rows, h.rl, fun z => ?_, h.cn⟩
  · rcases List.mem_append.mp hr with z | z
    · exact h.rd r (by rw [e]; exact List.mem_append_left _ z) x hx
    · rw [List.mem_singleton.mp z] at hx
      have g : ∀ y ∈ L ++ b :: M, WfX y := h.rd _ (by rw [e]; simp)
      rcases List.mem_append.mp hx with y | y
      · exact g x (List.mem_append_left _ y)
      · rcases List.mem_cons.mp y with y | y
        · rw [y]
          exact hb
        · exact g x (List.mem_append_right _ (List.mem_cons_of_mem _ y))
  · obtain ⟨k, k1, k2⟩ := h.pow
    refine ⟨k, by rw [en', el, ← en]; exact k1, ?_⟩
    rw [e] at k2
    simpa using k2
  · rcases List.mem_append.mp hr with z | z
    · exact h.lens r (by rw [e]; exact List.mem_append_left _ z)
    · rw [List.mem_singleton.mp z, el]
      exact h.lens _ (by rw [e]; simp)
  · rw [en'] at h1 hf
    have h1' : t.now.length = 1 := by rw [en, ← el]; exact h1
    have hL : L = [] := List.eq_nil_of_length_eq_zero (by simp at h1; omega)
    have hM : M = [] := List.eq_nil_of_length_eq_zero (by simp at h1; omega)
    subst hL hM
    have ef : f = b' := by simpa using hf
    rw [ef, eb]
    exact h.fin h1' b (by rw [en]; simp)
  · rw [en', el, ← en]
    exact h.rn z
theorem repl1_wf {t : Kg66.State} {L M : List Kg66.Row} {r : Kg66.Row} {B : List Kg66.Bout} {b b' : Kg66.Bout} (h : WfG t) (e : t.rows = L ++ r :: M) (er : r.bouts = B ++ [b]) (hb : WfX b') : WfG { t with rows := L ++ ⟨B ++ [b'], r.waits⟩ :: M } := by
  have hr := h.rows r (by rw [e]; simp)
  refine ⟨h.rd, h.pow, h.lens, h.fin, fun x hx => ?_, ?_, fun _ => h.rn (by rw [e]; simp), h.cn⟩
  · rcases List.mem_append.mp hx with z | z
    · exact h.rows x (by rw [e]; exact List.mem_append_left _ z)
    · rcases List.mem_cons.mp z with z | z
      · rw [z]
        refine ⟨fun y hy => ?_, (fun _ => by simp), ?_⟩
        · rcases List.mem_append.mp hy with q | q
          · exact hr.bt y (by rw [er]; exact List.mem_append_left _ q)
          · rw [List.mem_singleton.mp q]
            exact hb
        · have s := hr.sz
          rw [er] at s
          simpa using s
      · exact h.rows x (by rw [e]; exact List.mem_append_right _ (List.mem_cons_of_mem _ z))
  · have s := h.rl
    rw [e] at s
    simpa using s
theorem put_zero {t : Kg66.State} {R : List (List Kg66.Bout)} {L M : List Kg66.Bout} {b b' : Kg66.Bout} (e : t.rounds = R ++ [L ++ b :: M]) : t.put_ 0 (L.length : Nat) b' = Kg66.State.settle { t with rounds := R ++ [L ++ b' :: M] } := by
  unfold Kg66.State.put_
  rw [if_pos rfl, now_eq e, e, List.dropLast_concat, Int.toNat_natCast]
  have es : (L ++ b :: M).set L.length b' = L ++ b' :: M := by simp
  rw [es]
theorem put_row {t : Kg66.State} {L M : List Kg66.Row} {r : Kg66.Row} {B : List Kg66.Bout} {b b' : Kg66.Bout} (e : t.rows = L ++ r :: M) (er : r.bouts = B ++ [b]) : t.put_ ((L.length : Nat) + 1) 0 b' = { t with rows := L ++ (Kg66.Row.mk (B ++ [b']) r.waits).next :: M } := by
  unfold Kg66.State.put_
  rw [if_neg (by omega)]
  have en : ((L.length : Int) + 1).toNat = L.length + 1 := by omega
  rw [en, e, List.zipIdx_append, List.map_append, List.zipIdx_cons, List.map_cons]
  have g1 : ∀ (l : List Kg66.Row) (j : Nat), j + l.length ≤ L.length → (l.zipIdx j).map (fun x => if x.2 + 1 = L.length + 1 then ({ x.1 with bouts := x.1.bouts.dropLast ++ [b'] } : Kg66.Row).next else x.1) = l := fun l => by
    induction l with
    | nil => intro j _; rfl
    | cons a l ih =>
      intro j hj
      simp only [List.length_cons] at hj
      rw [List.zipIdx_cons, List.map_cons, ih (j + 1) (by omega)]
      show (if j + 1 = L.length + 1 then _ else a) :: l = _
      rw [if_neg (by omega)]
  have g2 : ∀ (l : List Kg66.Row) (j : Nat), L.length < j → (l.zipIdx j).map (fun x => if x.2 + 1 = L.length + 1 then ({ x.1 with bouts := x.1.bouts.dropLast ++ [b'] } : Kg66.Row).next else x.1) = l := fun l => by
    induction l with
    | nil => intro j _; rfl
    | cons a l ih =>
      intro j hj
      rw [List.zipIdx_cons, List.map_cons, ih (j + 1) (by omega)]
      show (if j + 1 = L.length + 1 then _ else a) :: l = _
      rw [if_neg (by omega)]
  rw [g1 L 0 (by omega), g2 M (0 + L.length + 1) (by omega)]
  show Kg66.State.mk _ _ (L ++ (if 0 + L.length + 1 = L.length + 1 then _ else r) :: M) = _
  rw [if_pos (by omega), er, List.dropLast_concat]
/-! ### go_on and settle -/
theorem rowOf_next (l : List Nat) : (Kg66.rowOf l).next = Kg66.rowOf l := by
  match l with
  | [] => exact rowNext_id (.inl rfl)
  | [a] => exact rowNext_id (.inl rfl)
  | a :: b :: r => exact rowNext_id (.inr ⟨[], _, rfl, rfl⟩)
theorem next_wf {r : Kg66.Row} (h : WfR r) : WfR r.next ∧ r.next.next = r.next := by
  cases ew : r.waits with
  | nil =>
    have e := rowNext_id (.inl ew : r.waits = [] ∨ _)
    rw [e]
    exact ⟨h, e⟩
  | cons w l =>
    obtain ⟨B, b, eb⟩ := snoc_of (h.ne (by rw [ew]; simp))
    cases e : b.winner with
    | none =>
      have e := rowNext_id (.inr ⟨B, b, eb, e⟩ : r.waits = [] ∨ _)
      rw [e]
      exact ⟨h, e⟩
    | some u =>
      have er : r = ⟨B ++ [b], w :: l⟩ := by
        cases r
        simp at ew eb
        rw [ew, eb]
      have e2 : r.next = ⟨B ++ [b] ++ [Kg66.fresh (some u) (some w)], l⟩ := by
        rw [er]
        exact rowNext_eq e
      rw [e2]
      refine ⟨⟨fun y hy => ?_, (fun _ => by simp), ?_⟩, rowNext_id (.inr ⟨_, _, rfl, rfl⟩)⟩
      · rcases List.mem_append.mp hy with q | q
        · exact h.bt y (by rw [eb]; exact q)
        · rw [List.mem_singleton.mp q]
          exact wfX_fresh u (some w)
      · have s := h.sz
        rw [eb, ew] at s
        simp at s ⊢
        omega
theorem stepW_rows {u : Kg66.State} (h : WfG u) (h2 : u.rows ≠ [] → u.rows.length = 2) : (∀ r ∈ (stepW u).rows, WfR r) ∧ ((stepW u).now.length = 1 → (stepW u).rows.length = 2) ∧ ((stepW u).rows ≠ [] → u.now.length = 1) := by
  unfold stepW
  by_cases c : u.now.length = 1 ∧ u.rows = []
  · rw [if_pos c]
    obtain ⟨f, ef⟩ : ∃ f, u.now = [f] := List.length_eq_one_iff.mp c.1
    have em : madeRows u = [f.a, f.b].map fun x => match x with
        | some y => Kg66.rowOf (beatenL u.rounds.dropLast y)
        | none => ⟨[], []⟩ := by
      unfold madeRows
      rw [ef] <;> rfl
    refine ⟨fun r hr => ?_, fun _ => ?_, fun _ => c.1⟩
    · have hr' : r ∈ madeRows u := hr
      rw [em] at hr'
      obtain ⟨x, _, rfl⟩ := List.mem_map.mp hr'
      cases x with
      | none => exact rowOf_wf [] (by decide)
      | some y =>
        refine rowOf_wf _ (Nat.le_trans (beatenL_le (c := 16) _ fun q hq => h.lens q (List.dropLast_subset _ hq)) ?_)
        obtain ⟨k, _, hk⟩ := h.pow
        rw [List.length_dropLast]
        omega
    · show (madeRows u).length = 2
      rw [em]
      rfl
  · rw [if_neg c]
    refine ⟨h.rows, fun h1 => h2 fun z => c ⟨h1, z⟩, h.rn⟩
theorem stepW_now (u : Kg66.State) : (stepW u).now = u.now ∧ (stepW u).rounds = u.rounds ∧ (stepW u).count = u.count := by
  unfold stepW
  split <;> exact ⟨rfl, rfl, rfl⟩
theorem goR_rows (t : Kg66.State) : (goR t).rows = t.rows ∧ (goR t).count = t.count := by
  unfold goR
  split <;> exact ⟨rfl, rfl⟩
theorem goOn_wfT {t : Kg66.State} (h : WfG t) (h2 : t.rows ≠ [] → t.rows.length = 2) : WfT (goOn t) := by
  have hu := goR_wf h
  obtain ⟨er, ec⟩ := goR_rows t
  have st : 1 < (goR t).now.length → allW (goR t).now = false := fun q => by
    unfold goR at q ⊢
    by_cases c : 1 < t.now.length ∧ allW t.now = true
    · rw [if_pos c]
      exact (stepR_wf h c.1 c.2).2.1
    · rw [if_neg c] at q ⊢
      exact Bool.eq_false_iff.mpr fun z => c ⟨q, z⟩
  obtain ⟨w1, w2, w3⟩ := stepW_rows hu (fun z => by rw [er] at z ⊢; exact h2 z)
  obtain ⟨n1, n2, n3⟩ := stepW_now (goR t)
  have en : (goOn t).now = (goR t).now := n1
  have erd : (goOn t).rounds = (goR t).rounds := n2
  have erw : (goOn t).rows = (stepW (goR t)).rows.map Kg66.Row.next := rfl
  have elen : (goOn t).rows.length = (stepW (goR t)).rows.length := by rw [erw, List.length_map]
  have hne : (goOn t).rows ≠ [] → (goR t).now.length = 1 := fun z => w3 fun q => z (by rw [erw, q]; rfl)
  refine ⟨⟨?_, ?_, ?_, ?_, ?_, ?_, ?_, ?_⟩, ?_, ?_, ?_⟩
  · rw [erd]; exact hu.rd
  · rw [en, erd]; exact hu.pow
  · rw [erd]; exact hu.lens
  · rw [en]; exact hu.fin
  · intro r hr
    rw [erw] at hr
    obtain ⟨x, hx, rfl⟩ := List.mem_map.mp hr
    exact (next_wf (w1 x hx)).1
  · rw [elen]
    by_cases z : (stepW (goR t)).rows = []
    · rw [z]
      exact Nat.zero_le _
    · rw [w2 (by rw [n1]; exact w3 z)]
      exact Nat.le_refl _
  · rw [en]; exact hne
  · show (stepW (goR t)).count ≤ 32
    rw [n3]
    exact hu.cn
  · rw [en]; exact st
  · rw [en, elen]
    intro z
    exact w2 (by rw [n1]; exact z)
  · intro r hr
    rw [erw] at hr
    obtain ⟨x, hx, rfl⟩ := List.mem_map.mp hr
    exact (next_wf (w1 x hx)).2
theorem map_next_id : ∀ (l : List Kg66.Row), (∀ r ∈ l, r.next = r) → l.map Kg66.Row.next = l
  | [], _ => rfl
  | a :: l, h => by rw [List.map_cons, h a List.mem_cons_self, map_next_id l fun r hr => h r (List.mem_cons_of_mem _ hr)]
theorem goOn_still {t : Kg66.State} (h1 : ¬ (1 < t.now.length ∧ allW t.now = true)) (h2 : ¬ (t.now.length = 1 ∧ t.rows = [])) : goOn t = nextAll t := by
  unfold goOn goR
  rw [if_neg h1]
  unfold stepW
  rw [if_neg h2]
/-- the last round's bout -/
theorem goOn_settle {t : Kg66.State} {R : List (List Kg66.Bout)} {r r' : List Kg66.Bout} (h : WfT t) (e : t.rounds = R ++ [r]) (el : r'.length = r.length) (hw : ∀ b ∈ r', WfX b) : goOn { t with rounds := R ++ [r'] } = Kg66.State.settle { t with rounds := R ++ [r'] } := by
  have en := now_eq e
  have en' : Kg66.State.now { t with rounds := R ++ [r'] } = r' := now_snoc _ _ _ _
  unfold Kg66.State.settle
  rw [en']
  by_cases c : 1 < r'.length
  · have hr : t.rows = [] := by
      cases er : t.rows with
      | nil => rfl
      | cons a l =>
        have z := h.g.rn (by rw [er]; simp)
        rw [en, ← el] at z
        omega
    by_cases cw : allW r' = true
    · have c1 : ¬ (r'.length < 2 ∨ (r'.all fun b => b.won.isSome) = false) := fun z => by
        rcases z with z | z
        · omega
        · rw [show (r'.all fun b => b.won.isSome) = allW r' from rfl, cw] at z
          cases z
      show _ = if _ then _ else _
      rw [if_neg c1]
      have ego : goR { t with rounds := R ++ [r'] } = { t with rounds := R ++ [r'] ++ [Kg66.paired (r'.map Kg66.Bout.winner)] } := by
        unfold goR
        rw [if_pos ⟨by rw [en']; exact c, by rw [en']; exact cw⟩]
        unfold stepR
        rw [en']
      unfold goOn
      rw [ego]
      have en2 : Kg66.State.now { t with rounds := R ++ [r'] ++ [Kg66.paired (r'.map Kg66.Bout.winner)] } = Kg66.paired (r'.map Kg66.Bout.winner) := now_snoc _ _ _ _
      generalize Kg66.paired (r'.map Kg66.Bout.winner) = N at en2 ⊢
      unfold stepW
      rw [en2]
      match N, en2 with
      | [], en2 =>
        rw [if_neg (fun z => by cases z.1)]
        unfold nextAll
        show Kg66.State.mk _ _ (t.rows.map _) = _
        rw [hr]
        rfl
      | [f], en2 =>
        rw [if_pos ⟨rfl, hr⟩]
        unfold nextAll madeRows
        rw [en2]
        show Kg66.State.mk _ _ (List.map _ (List.map _ _)) = Kg66.State.mk _ _ _
        refine congrArg (Kg66.State.mk _ _) ?_
        rw [List.map_map]
        refine congrFun (congrArg List.map (funext fun x => ?_)) _
        show Kg66.Row.next (match x with
          | some y => Kg66.rowOf (beatenL (R ++ [r'] ++ [[f]]).dropLast y)
          | none => ⟨[], []⟩) = _
        rw [List.dropLast_concat]
        cases x with
        | none => exact rowNext_id (.inl rfl)
        | some y => exact rowOf_next _
      | f :: g :: l, en2 =>
        rw [if_neg (fun z => by simp at z)]
        unfold nextAll
        show Kg66.State.mk _ _ (t.rows.map _) = _
        rw [hr]
        rfl
    · have cw' : allW r' = false := Bool.eq_false_iff.mpr cw
      show _ = if _ then _ else _
      rw [if_pos (Or.inr cw'), goOn_still (fun z => cw (by rw [← en']; exact z.2)) (fun z => by have q := z.1; rw [en'] at q; omega)]
      unfold nextAll
      show Kg66.State.mk _ _ (t.rows.map _) = Kg66.State.mk _ _ t.rows
      rw [hr]
      rfl
  · show _ = if _ then _ else _
    rw [if_pos (Or.inl (by omega)), goOn_still (fun z => c (by rw [← en']; exact z.1)) (fun z => ?_)]
    · unfold nextAll
      show Kg66.State.mk _ _ (t.rows.map _) = Kg66.State.mk _ _ t.rows
      rw [map_next_id _ h.st2]
    · have q1 := z.1
      rw [en'] at q1
      have q := h.rw2 (by rw [en, ← el]; exact q1)
      have q2 : t.rows = [] := z.2
      rw [q2] at q
      cases q
/-- a row's bout -/
theorem goOn_row {t : Kg66.State} {L M : List Kg66.Row} {r : Kg66.Row} {r' : Kg66.Row} (h : WfT t) (e : t.rows = L ++ r :: M) : goOn { t with rows := L ++ r' :: M } = { t with rows := L ++ r'.next :: M } := by
  have n1 := h.g.rn (by rw [e]; simp)
  have n1' : Kg66.State.now { t with rows := L ++ r' :: M } = t.now := rfl
  rw [goOn_still (fun z => by have q := z.1; rw [n1', n1] at q; omega) (fun z => by have q := z.2; simp at q)]
  unfold nextAll
  show Kg66.State.mk _ _ ((L ++ r' :: M).map Kg66.Row.next) = _
  rw [List.map_append, List.map_cons, map_next_id L fun x hx => h.st2 x (by rw [e]; exact List.mem_append_left _ hx), map_next_id M fun x hx => h.st2 x (by rw [e]; exact List.mem_append_right _ (List.mem_cons_of_mem _ hx))]
end Wm
/-! # Nobody has two places -/
namespace Wm
def partsB (b : Kg66.Bout) : List Nat := b.a.toList ++ b.b.toList
def rowP (r : Kg66.Row) : List Nat := ((r.bouts.getLast?.map partsB).getD []) ++ r.waits
def lostL (rs : List (List Kg66.Bout)) : List Nat := rs.flatMap fun r => r.filterMap Kg66.Bout.loser
def P1l (t : Kg66.State) : List Nat := lostL t.rounds.dropLast ++ t.now.flatMap partsB
def P2l (t : Kg66.State) : List Nat := t.now.flatMap partsB ++ t.rows.flatMap rowP
structure WfP (t : Kg66.State) : Prop where
  n1 : (P1l t).Nodup
  b1 : ∀ x ∈ P1l t, x < t.count
  n2 : t.rows ≠ [] → (P2l t).Nodup
  b2 : t.rows ≠ [] → ∀ x ∈ P2l t, x < t.count
/-! ### lists -/
theorem flatMap_perm {al be : Type} (f g : al → List be) : ∀ (l : List al), (∀ x ∈ l, (f x).Perm (g x)) → (l.flatMap f).Perm (l.flatMap g)
  | [], _ => List.Perm.refl _
  | a :: l, h => by
    rw [List.flatMap_cons, List.flatMap_cons]
    exact (h a List.mem_cons_self).append (flatMap_perm f g l fun x hx => h x (List.mem_cons_of_mem _ hx))
theorem flatMap_sub {al be : Type} (f g : al → List be) : ∀ (l : List al), (∀ x ∈ l, (f x).Sublist (g x)) → (l.flatMap f).Sublist (l.flatMap g)
  | [], _ => List.Sublist.refl _
  | a :: l, h => by
    rw [List.flatMap_cons, List.flatMap_cons]
    exact (h a List.mem_cons_self).append (flatMap_sub f g l fun x hx => h x (List.mem_cons_of_mem _ hx))
theorem fm_split {al be : Type} (f g : al → Option be) : ∀ (l : List al), (l.flatMap fun x => (f x).toList ++ (g x).toList).Perm (l.filterMap f ++ l.filterMap g)
  | [] => List.Perm.refl _
  | a :: l => by
    rw [List.flatMap_cons, List.filterMap_cons, List.filterMap_cons]
    have ih := fm_split f g l
    cases f a with
    | none =>
      cases g a with
      | none => simpa using ih
      | some y =>
        simp only [Option.toList_none, Option.toList_some, List.nil_append, List.singleton_append]
        exact (ih.cons y).trans List.perm_middle.symm
    | some x =>
      cases g a with
      | none =>
        simp only [Option.toList_none, Option.toList_some, List.append_nil, List.singleton_append, List.cons_append]
        exact ih.cons x
      | some y =>
        simp only [Option.toList_some, List.singleton_append, List.cons_append]
        exact ((ih.cons y).trans List.perm_middle.symm).cons x
theorem fm_toList {al be : Type} (f : al → Option be) : ∀ (l : List al), (l.map f).flatMap Option.toList = l.filterMap f
  | [] => rfl
  | a :: l => by
    rw [List.map_cons, List.flatMap_cons, List.filterMap_cons, fm_toList f l]
    cases f a <;> rfl
theorem parts_won {b : Kg66.Bout} (h : b.won.isSome = true) : (partsB b).Perm (b.winner.toList ++ b.loser.toList) := by
  obtain ⟨u, hh, e⟩ := (won_cases b).resolve_left fun q => by rw [q] at h; cases h
  unfold partsB
  match u, e with
  | 0, e =>
    have e1 : b.winner = b.a := by
      unfold Kg66.Bout.winner
      rw [e]
      rfl
    have e2 : b.loser = b.b := by
      unfold Kg66.Bout.loser
      rw [e]
      rfl
    rw [e1, e2]
  | u + 1, e =>
    have e1 : b.winner = b.b := by
      unfold Kg66.Bout.winner
      rw [e]
      rfl
    have e2 : b.loser = b.a := by
      unfold Kg66.Bout.loser
      rw [e]
      rfl
    rw [e1, e2]
    exact List.perm_append_comm
theorem fresh_parts (a b : Option Nat) : partsB (Kg66.fresh a b) = a.toList ++ b.toList := rfl
theorem paired_parts : ∀ (m : Nat) (l : List (Option Nat)), l.length = 2 * m → (Kg66.paired l).flatMap partsB = l.flatMap Option.toList
  | 0, l, h => by
    rw [List.eq_nil_of_length_eq_zero (l := l) (by omega)]
    rfl
  | m + 1, [], h => by simp at h
  | m + 1, [x], h => by
    simp at h
    omega
  | m + 1, x :: y :: l, h => by
    have ih := paired_parts m l (by simp at h; omega)
    show (Kg66.fresh x y :: Kg66.paired l).flatMap partsB = _
    rw [List.flatMap_cons, ih, fresh_parts, List.flatMap_cons, List.flatMap_cons, List.append_assoc]
theorem rowOf_parts (l : List Nat) : rowP (Kg66.rowOf l) = l := by
  match l with
  | [] => rfl
  | [a] => rfl
  | a :: b :: r => rfl
theorem next_parts {r : Kg66.Row} (h : WfR r) : (rowP r.next).Sublist (rowP r) := by
  cases ew : r.waits with
  | nil =>
    rw [rowNext_id (.inl ew)]
    exact List.Sublist.refl _
  | cons w l =>
    obtain ⟨B, b, eb⟩ := snoc_of (h.ne (by rw [ew]; simp))
    cases e : b.winner with
    | none =>
      rw [rowNext_id (.inr ⟨B, b, eb, e⟩)]
      exact List.Sublist.refl _
    | some u =>
      have er : r = ⟨B ++ [b], w :: l⟩ := by
        cases r
        simp at ew eb
        rw [ew, eb]
      rw [er, rowNext_eq e]
      have hu : [u].Sublist (partsB b) := by
        have hw : b.won ≠ none := fun z => by rw [winner_none z] at e; cases e
        have m : u ∈ partsB b := by
          refine (parts_won (Option.isSome_iff_ne_none.mpr hw)).mem_iff.mpr ?_
          rw [e]
          simp
        exact List.singleton_sublist.mpr m
      unfold rowP
      simp only [List.getLast?_concat, Option.map_some, Option.getD_some]
      rw [fresh_parts]
      show ([u] ++ [w] ++ l).Sublist (partsB b ++ w :: l)
      rw [List.append_assoc]
      exact hu.append (List.Sublist.refl _)
/-! ### who was beaten by one and by the other -/
theorem beat_two {fa fb x : Nat} : ∀ (l : List Kg66.Bout), (l.filterMap Kg66.Bout.loser).Nodup → x ∈ l.filterMap (fun b => if b.winner = some fa then b.loser else none) → x ∈ l.filterMap (fun b => if b.winner = some fb then b.loser else none) → fa = fb
  | [], _, h, _ => nomatch h
  | b :: l, nd, h1, h2 => by
    rw [List.filterMap_cons] at nd h1 h2
    have sub : ∀ f : Nat, ∀ y ∈ l.filterMap (fun b => if b.winner = some f then b.loser else none), y ∈ l.filterMap Kg66.Bout.loser := fun f y hy => by
      obtain ⟨c, hc, e⟩ := List.mem_filterMap.mp hy
      refine List.mem_filterMap.mpr ⟨c, hc, ?_⟩
      by_cases z : c.winner = some f
      · rw [if_pos z] at e
        exact e
      · rw [if_neg z] at e
        cases e
    cases el : b.loser with
    | none =>
      have g : ∀ f : Nat, (if b.winner = some f then b.loser else none) = none := fun f => by
        rw [el]
        split <;> rfl
      rw [el] at nd
      rw [g] at h1 h2
      exact beat_two l nd h1 h2
    | some z =>
      rw [el] at nd
      have nd' := List.nodup_cons.mp nd
      have g1 : (b.winner = some fa ∧ x = z) ∨ x ∈ l.filterMap (fun b => if b.winner = some fa then b.loser else none) := by
        by_cases c : b.winner = some fa
        · rw [if_pos c, el] at h1
          rcases List.mem_cons.mp h1 with q | q
          · exact .inl ⟨c, q⟩
          · exact .inr q
        · rw [if_neg c] at h1
          exact .inr h1
      have g2 : (b.winner = some fb ∧ x = z) ∨ x ∈ l.filterMap (fun b => if b.winner = some fb then b.loser else none) := by
        by_cases c : b.winner = some fb
        · rw [if_pos c, el] at h2
          rcases List.mem_cons.mp h2 with q | q
          · exact .inl ⟨c, q⟩
          · exact .inr q
        · rw [if_neg c] at h2
          exact .inr h2
      rcases g1 with ⟨c1, q1⟩ | q1
      · rcases g2 with ⟨c2, q2⟩ | q2
        · rw [c1] at c2
          exact Option.some.inj c2
        · exact absurd (q1 ▸ sub _ _ q2) nd'.1
      · rcases g2 with ⟨c2, q2⟩ | q2
        · exact absurd (q2 ▸ sub _ _ q1) nd'.1
        · exact beat_two l nd'.2 q1 q2
theorem beatenL_flat (rs : List (List Kg66.Bout)) (f : Nat) : beatenL rs f = rs.flatten.filterMap fun b => if b.winner = some f then b.loser else none := by
  unfold beatenL
  induction rs with
  | nil => rfl
  | cons a l ih => rw [List.flatMap_cons, ih, List.flatten_cons, List.filterMap_append]
theorem lostL_flat (rs : List (List Kg66.Bout)) : lostL rs = rs.flatten.filterMap Kg66.Bout.loser := by
  unfold lostL
  induction rs with
  | nil => rfl
  | cons a l ih => rw [List.flatMap_cons, ih, List.flatten_cons, List.filterMap_append]
theorem beat_sub (f : Nat) : ∀ (l : List Kg66.Bout), (l.filterMap fun b => if b.winner = some f then b.loser else none).Sublist (l.filterMap Kg66.Bout.loser)
  | [] => List.Sublist.refl _
  | b :: l => by
    have ih := beat_sub f l
    rw [List.filterMap_cons, List.filterMap_cons]
    by_cases c : b.winner = some f
    · rw [if_pos c]
      cases b.loser with
      | none => exact ih
      | some z => exact ih.cons_cons z
    · rw [if_neg c]
      cases b.loser with
      | none => exact ih
      | some z => exact ih.cons z
/-! ### what keeps it -/
theorem P1_stepR {t : Kg66.State} (h : WfG t) (h1 : 1 < t.now.length) (h2 : allW t.now = true) : (P1l (stepR t)).Perm (P1l t) := by
  obtain ⟨_, _, _, m, em, _⟩ := stepR_wf h h1 h2
  obtain ⟨R, r, e, en⟩ := h.snoc
  have e1 : (stepR t).rounds.dropLast = R ++ [t.now] := by
    show (t.rounds ++ [_]).dropLast = _
    rw [List.dropLast_concat, e, en]
  have e2 : (stepR t).now = Kg66.paired (t.now.map Kg66.Bout.winner) := now_snoc _ _ _ _
  have e3 : t.rounds.dropLast = R := by rw [e, List.dropLast_concat]
  unfold P1l
  rw [e1, e2, e3, paired_parts m _ (by rw [List.length_map]; exact em), fm_toList]
  have e4 : lostL (R ++ [t.now]) = lostL R ++ t.now.filterMap Kg66.Bout.loser := by
    unfold lostL
    rw [List.flatMap_append]
    simp
  rw [e4, List.append_assoc]
  refine List.Perm.append_left _ ?_
  refine List.perm_append_comm.trans ?_
  refine (fm_split Kg66.Bout.winner Kg66.Bout.loser t.now).symm.trans ?_
  exact (flatMap_perm _ _ _ fun b hb => parts_won (List.all_eq_true.mp h2 b hb)).symm
theorem goR_wfP {t : Kg66.State} (h : WfG t) (p : WfP t) : WfP (goR t) := by
  unfold goR
  by_cases c : 1 < t.now.length ∧ allW t.now = true
  · rw [if_pos c]
    have q := P1_stepR h c.1 c.2
    have hr := (stepR_wf h c.1 c.2).2.2.1
    exact ⟨q.nodup_iff.mpr p.n1, fun x hx => p.b1 x (q.mem_iff.mp hx), fun z => absurd hr z, fun z => absurd hr z⟩
  · rw [if_neg c]
    exact p
theorem stepW_wfP {t : Kg66.State} (h : WfG t) (p : WfP t) : WfP (stepW t) := by
  unfold stepW
  by_cases c : t.now.length = 1 ∧ t.rows = []
  · rw [if_pos c]
    obtain ⟨f, ef⟩ : ∃ f, t.now = [f] := List.length_eq_one_iff.mp c.1
    obtain ⟨R, r, e, en⟩ := h.snoc
    have wx : WfX f := h.rd r (by rw [e]; simp) f (by rw [← en, ef]; simp)
    obtain ⟨fa, efa⟩ := Option.isSome_iff_exists.mp wx.wf.one
    obtain ⟨fb, efb⟩ := Option.isSome_iff_exists.mp (h.fin c.1 f (by rw [ef]; simp))
    have epf : partsB f = [fa, fb] := by
      unfold partsB
      rw [efa, efb]
      rfl
    have em : madeRows t = [Kg66.rowOf (beatenL t.rounds.dropLast fa), Kg66.rowOf (beatenL t.rounds.dropLast fb)] := by
      unfold madeRows
      rw [ef]
      show [f.a, f.b].map _ = _
      rw [efa, efb]
      rfl
    have e2 : P2l { t with rows := madeRows t } = [fa, fb] ++ (beatenL t.rounds.dropLast fa ++ beatenL t.rounds.dropLast fb) := by
      unfold P2l
      show t.now.flatMap partsB ++ (madeRows t).flatMap rowP = _
      rw [em, ef]
      simp [rowOf_parts, epf]
    have n1 := p.n1
    have b1 := p.b1
    have e1 : P1l t = lostL t.rounds.dropLast ++ [fa, fb] := by
      unfold P1l
      rw [ef]
      simp [epf]
    rw [e1] at n1 b1
    obtain ⟨m1, m2, m3⟩ := List.nodup_append.mp n1
    have hab : fa ≠ fb := by simpa using m2
    have s1 : ∀ f, (beatenL t.rounds.dropLast f).Sublist (lostL t.rounds.dropLast) := fun f => by
      rw [beatenL_flat, lostL_flat]
      exact beat_sub f _
    refine ⟨p.n1, p.b1, fun _ => ?_, fun _ x hx => ?_⟩
    · rw [e2]
      refine List.nodup_append.mpr ⟨m2, List.nodup_append.mpr ⟨(s1 fa).nodup m1, (s1 fb).nodup m1, fun x hx y hy z => ?_⟩, fun x hx y hy z => ?_⟩
      · rw [← z] at hy
        rw [lostL_flat] at m1
        rw [beatenL_flat] at hx hy
        exact hab (beat_two _ m1 hx hy)
      · rcases List.mem_append.mp hy with q | q
        · exact m3 y ((s1 fa).subset q) x hx z.symm
        · exact m3 y ((s1 fb).subset q) x hx z.symm
    · rw [e2] at hx
      refine b1 x ?_
      rcases List.mem_append.mp hx with q | q
      · exact List.mem_append_right _ q
      · rcases List.mem_append.mp q with q | q
        · exact List.mem_append_left _ ((s1 fa).subset q)
        · exact List.mem_append_left _ ((s1 fb).subset q)
  · rw [if_neg c]
    exact p
theorem nextAll_wfP {t : Kg66.State} (h : ∀ r ∈ t.rows, WfR r) (p : WfP t) : WfP (nextAll t) := by
  have s : (P2l (nextAll t)).Sublist (P2l t) := by
    unfold P2l
    refine (List.Sublist.refl _).append ?_
    show ((t.rows.map Kg66.Row.next).flatMap rowP).Sublist _
    rw [List.flatMap_map]
    exact flatMap_sub _ _ _ fun r hr => next_parts (h r hr)
  have ne : (nextAll t).rows ≠ [] → t.rows ≠ [] := fun z q => z (by show t.rows.map _ = []; rw [q]; rfl)
  exact ⟨p.n1, p.b1, fun z => s.nodup (p.n2 (ne z)), fun z x hx => p.b2 (ne z) x (s.subset hx)⟩
theorem goOn_wfP {t : Kg66.State} (h : WfG t) (h2 : t.rows ≠ [] → t.rows.length = 2) (p : WfP t) : WfP (goOn t) := by
  have hu := goR_wf h
  exact nextAll_wfP (stepW_rows hu (fun z => by rw [(goR_rows t).1] at z ⊢; exact h2 z)).1 (stepW_wfP hu (goR_wfP h p))
/-- the last round's bout changes, its two stay -/
theorem repl0_wfP {t : Kg66.State} {R : List (List Kg66.Bout)} {L M : List Kg66.Bout} {b b' : Kg66.Bout} (e : t.rounds = R ++ [L ++ b :: M]) (ea : b'.a = b.a) (eb : b'.b = b.b) (p : WfP t) : WfP { t with rounds := R ++ [L ++ b' :: M] } := by
  have en := now_eq e
  have en' : Kg66.State.now { t with rounds := R ++ [L ++ b' :: M] } = L ++ b' :: M := now_snoc _ _ _ _
  have ep : partsB b' = partsB b := by
    unfold partsB
    rw [ea, eb]
  have e1 : (L ++ b' :: M).flatMap partsB = t.now.flatMap partsB := by
    rw [en, List.flatMap_append, List.flatMap_append, List.flatMap_cons, List.flatMap_cons, ep]
  have e2 : P1l { t with rounds := R ++ [L ++ b' :: M] } = P1l t := by
    unfold P1l
    rw [en', e1, e]
    show lostL (R ++ [_]).dropLast ++ _ = _
    rw [List.dropLast_concat, List.dropLast_concat]
  have e3 : P2l { t with rounds := R ++ [L ++ b' :: M] } = P2l t := by
    unfold P2l
    rw [en', e1]
  exact ⟨e2 ▸ p.n1, e2 ▸ p.b1, fun z => e3 ▸ p.n2 z, fun z => e3 ▸ p.b2 z⟩
theorem repl1_wfP {t : Kg66.State} {L M : List Kg66.Row} {r : Kg66.Row} {B : List Kg66.Bout} {b b' : Kg66.Bout} (e : t.rows = L ++ r :: M) (er : r.bouts = B ++ [b]) (ea : b'.a = b.a) (eb : b'.b = b.b) (p : WfP t) : WfP { t with rows := L ++ ⟨B ++ [b'], r.waits⟩ :: M } := by
  have ep : partsB b' = partsB b := by
    unfold partsB
    rw [ea, eb]
  have e0 : rowP ⟨B ++ [b'], r.waits⟩ = rowP r := by
    unfold rowP
    rw [er]
    simp [ep]
  have e3 : P2l { t with rows := L ++ ⟨B ++ [b'], r.waits⟩ :: M } = P2l t := by
    unfold P2l
    show _ ++ (L ++ _ :: M).flatMap rowP = _
    rw [e, List.flatMap_append, List.flatMap_append, List.flatMap_cons, List.flatMap_cons, e0]
    rfl
  have ne : t.rows ≠ [] := by rw [e]; simp
  exact ⟨p.n1, p.b1, fun _ => e3 ▸ p.n2 ne, fun _ => e3 ▸ p.b2 ne⟩
/-! ### as it begins -/
def chkP (n : Nat) : Bool := decide ((Kg66.paired (Kg66.drawn n)).flatMap partsB).Nodup && ((Kg66.paired (Kg66.drawn n)).flatMap partsB).all fun x => decide (x < n)
theorem chkP_all : ∀ n, n < 33 → 2 ≤ n → chkP n = true := by decide +kernel
theorem begun_wfP {n : Nat} (h2 : 2 ≤ n) (h32 : n ≤ 32) : WfP (begun n) := by
  have c := chkP_all n (by omega) h2
  unfold chkP at c
  rw [Bool.and_eq_true] at c
  have e : P1l (begun n) = (Kg66.paired (Kg66.drawn n)).flatMap partsB := rfl
  refine ⟨e ▸ of_decide_eq_true c.1, fun x hx => ?_, fun z => absurd rfl z, fun z => absurd rfl z⟩
  rw [e] at hx
  exact of_decide_eq_true (List.all_eq_true.mp c.2 x hx)
/-! ### places -/
theorem top_perm {t : Kg66.State} (h : WfT t) (hd : t.done = true) : (topOf t).Perm (P2l t) ∧ t.rows ≠ [] := by
  rw [done_eq h, Bool.and_eq_true, Bool.and_eq_true] at hd
  obtain ⟨d1, d2, d3⟩ := hd
  refine ⟨?_, fun z => by rw [z] at d1; cases d1⟩
  unfold topOf P2l thirdsOf fifthsOf
  refine List.Perm.append ?_ ?_
  · exact (flatMap_perm _ _ _ fun b hb => parts_won (List.all_eq_true.mp d2 b hb)).symm
  · refine (fm_split _ _ _).symm.trans (flatMap_perm _ _ _ fun r hr => ?_)
    have z := List.all_eq_true.mp d3 r hr
    unfold Kg66.Row.done at z
    rw [Bool.and_eq_true] at z
    have ew : r.waits = [] := List.isEmpty_iff.mp z.1
    unfold rowP
    rw [ew, List.append_nil]
    cases e : r.bouts.getLast? with
    | none => exact List.Perm.refl _
    | some b => exact (parts_won (List.all_eq_true.mp z.2 b (List.mem_of_getLast? e))).symm
theorem out_len {n : Nat} {l : List Nat} (nd : l.Nodup) (hb : ∀ x ∈ l, x < n) : l.length + ((List.range n).filter fun i => !l.contains i).length = n := by
  have p1 := List.filter_append_perm (fun i => l.contains i) (List.range n)
  have z := p1.length_eq
  rw [List.length_append, List.length_range] at z
  have p2 : ((List.range n).filter fun i => l.contains i).Perm l := by
    refine (List.perm_ext_iff_of_nodup (List.nodup_range.sublist List.filter_sublist) nd).mpr fun a => ?_
    rw [List.mem_filter, List.mem_range, List.contains_iff_mem]
    exact ⟨fun q => q.2, fun q => ⟨hb a q, q⟩⟩
  rw [p2.length_eq] at z
  exact z
theorem places_len {t : Kg66.State} (h : WfT t) (p : WfP t) (hd : t.done = true) : t.places.length = t.count := by
  obtain ⟨q, ne⟩ := top_perm h hd
  have n := q.nodup_iff.mpr (p.n2 ne)
  have b : ∀ x ∈ topOf t, x < t.count := fun x hx => p.b2 ne x (q.mem_iff.mp hx)
  rw [places_eq, List.length_append, first_len, List.length_map, List.length_zipIdx]
  have r := (fold_put t (othersOf t) [] List.Pairwise.nil).2.length_eq
  rw [List.nil_append] at r
  have r' : (restOf t).length = (othersOf t).length := r
  rw [r']
  exact out_len n b
end Wm
/-! # The calls that change a bout -/
namespace Wm
open PySem PySem.Spec PyProof.Rows L2
open LamX (TabS TabB ExtN)
structure WfA (t : Kg66.State) : Prop where
  wt : WfT t
  p : WfP t
  c : 2 ≤ t.count
theorem WfT.r2 {t : Kg66.State} (h : WfT t) : t.rows ≠ [] → t.rows.length = 2 := fun z => h.rw2 (h.g.rn z)
/-- from one state to the next, a table apart -/
structure Pass (A : Ads) (D D' : List Addr) (H H' : Hp) : Prop where
  keep : ∀ q o, H q = some o → q ∉ D → (∀ ps, o ≠ .tbl ps) → H' q = some o
  new : ∀ q ∈ D', q ∈ D ∨ H q = none
  nd : D'.Nodup
  tab : TabS H A.P qLam → TabS H' A.P qLam
theorem Pass.of_goes {A : Ads} {D D' : List Addr} {H H' : Hp} (hp : ∀ q ∈ D, ∃ o, H q = some o ∧ Plain o) (g : Goes D D' H H') : Pass A D D' H H' := by
  refine ⟨fun q o h n _ => g.keep q o h n, g.new, g.nd, fun t => ?_⟩
  obtain ⟨ps, h1, h2, h3⟩ := t
  refine ⟨ps, g.keep _ _ h1 fun z => ?_, h2, fun pos cv hc => ?_⟩
  · obtain ⟨o, e, pl⟩ := hp _ z
    rw [h1] at e
    cases e
    exact pl
  · obtain ⟨c, e1, e2⟩ := h3 pos cv hc
    refine ⟨c, e1, g.keep _ _ e2 fun z => ?_⟩
    obtain ⟨o, e, pl⟩ := hp _ z
    rw [e2] at e
    cases e
    exact pl
def Pre (A : Ads) (o : Option SL) (H : Hp) : Prop := ∀ s, o = some s → StIs A.CB A.CR A.CK H s ∧ s.foot.Nodup ∧ WfA s.abs
/-- what a call's def promises -/
def Ans (A : Ads) (o : Option SL) (H : Hp) (c : Kg66.Call) (Q : VK) (E : XK) : Prop :=
  (∀ n : Int, Kg66.spec (absO o) c = (absO o, Kg66.num n) → Refuse A H n E) ∧
  ∀ (H' : Hp) (s s' : SL) (p : Addr), o = some s → StIs A.CB A.CR A.CK H' s' → s'.a = s.a → s'.abs = (Kg66.spec (absO o) c).1 → WfA s'.abs → Pass A s.foot s'.foot H H' → (H p = none ∨ p ∈ s.foot) →
    H' p = some (.lst (((Kg66.spec (absO o) c).2.value :: (Kg66.spec (absO o) c).2.out).map V.int)) → Q (.ref p) H'
theorem loc_nd {s : SL} {w k : Int} {x : BL} (nd : s.foot.Nodup) (l : Loc s w k x) : x.foot.Nodup := by
  rcases l with ⟨_, R, p, L, M, e, _⟩ | ⟨L, r, M, B, e, _, _, eb⟩
  · have ef : s.foot = (s.a :: s.pr :: s.pw :: (R.flatMap RL.foot ++ p :: L.flatMap BL.foot)) ++ (x.foot ++ (M.flatMap BL.foot ++ s.rows.flatMap WL.foot)) := by
      unfold SL.foot
      rw [e]
      simp [List.flatMap_append, List.append_assoc, RL.foot]
    rw [ef] at nd
    exact (List.nodup_append.mp (List.nodup_append.mp nd).2.1).1
  · rw [SL.foot_rows e] at nd
    have z := (List.nodup_append.mp (List.nodup_append.mp nd).2.1).1
    have ef : r.foot = (r.a :: r.pb :: r.pw :: B.flatMap BL.foot) ++ x.foot := by
      unfold WL.foot
      rw [eb]
      simp [List.flatMap_append]
    rw [ef] at z
    exact (List.nodup_append.mp z).2.1
/-- a bout in its place has changed -/
theorem loc_step {CB CR CK : Addr} {H H' : Hp} {s : SL} {w k : Int} {x x' : BL} (h : StIs CB CR CK H s) (nd : s.foot.Nodup) (wf : WfA s.abs) (l : Loc s w k x) (hx : BoutIs CB H' x') (ea : x'.a = x.a) (wx : WfX x'.b) (e1 : x'.b.a = x.b.a) (e2 : x'.b.b = x.b.b) (g : Goes x.foot x'.foot H H') :
    ∃ s1, StIs CB CR CK H' s1 ∧ s1.a = s.a ∧ WfG s1.abs ∧ goOn s1.abs = s.abs.put_ w k x'.b ∧ Goes s.foot s1.foot H H' ∧ WfA (s.abs.put_ w k x'.b) := by
  rcases l with ⟨rfl, R, p, L, M, e, rfl⟩ | ⟨L, r, M, B, e, rfl, rfl, eb⟩
  · obtain ⟨q1, q2⟩ := st_bout h nd e hx ea g
    have er : s.abs.rounds = R.map RL.abs ++ [L.map BL.b ++ x.b :: M.map BL.b] := by
      show s.rounds.map RL.abs = _
      rw [e]
      simp [RL.abs]
    have es : SL.abs { s with rounds := R ++ [⟨p, L ++ x' :: M⟩] } = { s.abs with rounds := R.map RL.abs ++ [L.map BL.b ++ x'.b :: M.map BL.b] } := by
      show Kg66.State.mk _ ((R ++ [(⟨p, L ++ x' :: M⟩ : RL)]).map RL.abs) _ = _
      simp [RL.abs]
      exact ⟨rfl, rfl⟩
    have wg := repl0_wf wf.wt.g er wx e2
    have ep := put_zero (b' := x'.b) er
    rw [List.length_map] at ep
    have eg : goOn (SL.abs { s with rounds := R ++ [⟨p, L ++ x' :: M⟩] }) = s.abs.put_ 0 (L.length : Nat) x'.b := by
      rw [es, ep]
      exact goOn_settle wf.wt er (by simp) (wg.rd _ (by simp))
    have wr : ({ s.abs with rounds := R.map RL.abs ++ [L.map BL.b ++ x'.b :: M.map BL.b] } : Kg66.State).rows ≠ [] → ({ s.abs with rounds := R.map RL.abs ++ [L.map BL.b ++ x'.b :: M.map BL.b] } : Kg66.State).rows.length = 2 := wf.wt.r2
    refine ⟨_, q1, rfl, es ▸ wg, eg, q2, ?_⟩
    rw [← eg, es]
    refine ⟨goOn_wfT wg wr, goOn_wfP wg wr (repl0_wfP er e1 e2 wf.p), ?_⟩
    show 2 ≤ (stepW (goR _)).count
    rw [(stepW_now _).2.2, (goR_rows _).2]
    exact wf.c
  · have hrow := h.rw_ r (by rw [e]; simp)
    have ndr : r.foot.Nodup := by
      rw [SL.foot_rows e] at nd
      exact (List.nodup_append.mp (List.nodup_append.mp nd).2.1).1
    obtain ⟨r1, r2⟩ := row_bout hrow ndr eb hx ea g
    obtain ⟨q1, q2⟩ := st_row h nd e r1 rfl r2
    have er : s.abs.rows = L.map WL.abs ++ r.abs :: M.map WL.abs := by
      show s.rows.map WL.abs = _
      rw [e]
      simp
    have erb : r.abs.bouts = B.map BL.b ++ [x.b] := by
      show r.bs.map BL.b = _
      rw [eb]
      simp
    have es : SL.abs { s with rows := L ++ { r with bs := B ++ [x'] } :: M } = { s.abs with rows := L.map WL.abs ++ ⟨B.map BL.b ++ [x'.b], r.abs.waits⟩ :: M.map WL.abs } := by
      show Kg66.State.mk _ _ ((L ++ { r with bs := B ++ [x'] } :: M).map WL.abs) = _
      simp [WL.abs]
      exact ⟨rfl, rfl⟩
    have wg := repl1_wf wf.wt.g er erb wx
    have ep := put_row (b' := x'.b) er erb
    rw [List.length_map] at ep
    have eg : goOn (SL.abs { s with rows := L ++ { r with bs := B ++ [x'] } :: M }) = s.abs.put_ ((L.length : Nat) + 1) 0 x'.b := by
      rw [es, ep]
      exact goOn_row wf.wt er
    have wr : ({ s.abs with rows := L.map WL.abs ++ ⟨B.map BL.b ++ [x'.b], r.abs.waits⟩ :: M.map WL.abs } : Kg66.State).rows ≠ [] → ({ s.abs with rows := L.map WL.abs ++ ⟨B.map BL.b ++ [x'.b], r.abs.waits⟩ :: M.map WL.abs } : Kg66.State).rows.length = 2 := fun _ => by
      have z := wf.wt.r2 (by rw [er]; simp)
      rw [er] at z
      simpa using z
    refine ⟨_, q1, rfl, es ▸ wg, eg, q2, ?_⟩
    rw [← eg, es]
    refine ⟨goOn_wfT wg wr, goOn_wfP wg wr (repl1_wfP er erb e1 e2 wf.p), ?_⟩
    show 2 ≤ (stepW (goR _)).count
    rw [(stepW_now _).2.2, (goR_rows _).2]
    exact wf.c
/-! ### the document's answers, path by path -/
theorem count_pos {t : Kg66.State} (h : WfA t) : ¬ t.count = 0 := by
  have := h.c
  omega
theorem onB_none {o : Option SL} (h : o = none) (w k : Int) (f : Kg66.Bout → Kg66.State × Kg66.Ans) : Kg66.onBout (absO o) w k f = (absO o, Kg66.num (-2)) := by
  subst h
  unfold Kg66.onBout
  rw [if_pos (show (absO none).count = 0 from rfl)]
theorem onB_miss {t : Kg66.State} (h : WfA t) {w k : Int} (hf : t.find w k = none) (f : Kg66.Bout → Kg66.State × Kg66.Ans) : Kg66.onBout t w k f = (t, Kg66.num (-1)) := by
  unfold Kg66.onBout
  rw [if_neg (count_pos h), hf]
theorem onB_won {t : Kg66.State} (h : WfA t) {w k : Int} {b : Kg66.Bout} (hf : t.find w k = some b) (hw : b.won ≠ none) (f : Kg66.Bout → Kg66.State × Kg66.Ans) : Kg66.onBout t w k f = (t, Kg66.num (-4)) := by
  unfold Kg66.onBout
  rw [if_neg (count_pos h), hf]
  show (if b.won.isSome = true then _ else _) = _
  rw [if_pos (Option.isSome_iff_ne_none.mpr hw)]
theorem onB_at {t : Kg66.State} (h : WfA t) {w k : Int} {b : Kg66.Bout} (hf : t.find w k = some b) (hw : b.won = none) (f : Kg66.Bout → Kg66.State × Kg66.Ans) : Kg66.onBout t w k f = f b := by
  unfold Kg66.onBout
  rw [if_neg (count_pos h), hf]
  show (if b.won.isSome = true then _ else _) = _
  rw [hw, if_neg (by decide)]
theorem ended_eq (t : Kg66.State) (w k : Int) (b : Kg66.Bout) : (Kg66.ended t w k b).1 = t.put_ w k b ∧ (Kg66.ended t w k b).2.value :: (Kg66.ended t w k b).2.out = toldB b := ⟨rfl, rfl⟩
theorem in01 (i : Int) : inV (.int i) [.int 0, .int 1] = Kg66.within i 0 1 := by
  show ((0 : Int) == i || ((1 : Int) == i || false)) = (decide (0 ≤ i) && decide (i ≤ 1))
  rw [Bool.eq_iff_iff]
  simp
  omega
theorem inW (n : Int) : inV (.int n) ([0, 1, 2, 4, 5].map V.int) = [0, 1, 2, 4, 5].any fun x => n == x := by
  show ((0 : Int) == n || ((1 : Int) == n || ((2 : Int) == n || ((4 : Int) == n || ((5 : Int) == n || false))))) = (n == 0 || (n == 1 || (n == 2 || (n == 4 || (n == 5 || false)))))
  rw [Bool.eq_iff_iff]
  simp
  omega
section
variable {P : Program} {w : World} {K : PySem.W.Frag} {mg : Str → Option Value} {base : Heap} {A : Ads}
/-- behind the bout's change: what the call hands back -/
theorem ans_end {o : Option SL} {s s1 s3 : SL} {x' : BL} {w k : Int} {c : Kg66.Call} {H H1 H2 H3 : Hp} {p : Addr} {Q : VK} {E : XK} (kA : Ans A o H c Q E) (eo : o = some s) (hs : StIs A.CB A.CR A.CK H s) (nd : s.foot.Nodup) (sm : Same H H1) (es : Kg66.spec s.abs c = Kg66.ended s.abs w k x'.b) (g1 : Goes s.foot s1.foot H1 H2) (ea1 : s1.a = s.a)
    (eg : goOn s1.abs = s.abs.put_ w k x'.b) (wA : WfA (s.abs.put_ w k x'.b)) (h3 : StIs A.CB A.CR A.CK H3 s3) (ea3 : s3.a = s1.a) (eb3 : s3.abs = goOn s1.abs) (g3 : Goes s1.foot s3.foot H2 H3) (np : H2 p = none) (fp : H3 p = some (.lst ((toldB x'.b).map V.int))) : Q (.ref p) H3 := by
  subst eo
  have gg := (Goes.of_same nd sm).tr (g1.tr g3)
  have g12 := (Goes.of_same nd sm).tr g1
  obtain ⟨e1, e2⟩ := ended_eq s.abs w k x'.b
  have es' : Kg66.spec (absO (some s)) c = Kg66.ended s.abs w k x'.b := es
  refine kA.2 H3 s s3 p rfl h3 (ea3.trans ea1) ?_ ?_ (Pass.of_goes hs.plain gg) (g12.keep.back p np) ?_
  · rw [es', eb3, eg]
    exact e1.symm
  · rw [eb3, eg]
    exact wA
  · rw [es', e2]
    exact fp
def sp_do_act (K : PySem.W.Frag) (A : Ads) : Sp := fun vs H Q E => ∃ (o : Option SL) (g : Addr) (w k i n : Int), vs = [vB o, .ref g] ∧ H g = some (.lst ([w, k, i, n].map V.int)) ∧ Pre A o H ∧ Ans A o H (.act w k i n) Q E
theorem ok_do_act (T : Txt K mg A) (D_add_act : Own P w K mg base CX0 3 "add_act" Padd_act (sp_add_act K A)) (D_bout_at : Own P w K mg base (L2.CX P w) 4 "bout_at" Pbout_at (sp_bout_at K A)) (D_need : Own P w K mg base (L2.CX P w) 3 "need" Pneed (sp_need K A)) (D_need_going : Own P w K mg base (L2.CX P w) 4 "need_going" Pneed_going (sp_need_going K A)) (D_told_bout : Own P w K mg base CX0 6 "told_bout" Ptold_bout (sp_told_bout K A)) {f : Addr} {fd : FuncData} (F : Fun K "do_act" "do_act" sdo_act f fd) : FnOk P w K mg base (L2.CX P w) 7 f fd Pdo_act (sp_do_act K A) := by
  refine F.okX scdo_act (fun vs H Q E h => ?_) (fun cdv Ar outer s H vs Q E hr h => ⟨_, (pss_cons (ps_asg (pv 1) (pg_unl rfl (pgs_cons (pg_name (i := 2) scdo_act.nd rfl (Or.inl rfl)) (pgs_cons (pg_name (i := 3) scdo_act.nd rfl (Or.inl rfl)) (pgs_cons (pg_name (i := 4) scdo_act.nd rfl (Or.inl rfl)) (pgs_cons (pg_name (i := 5) scdo_act.nd rfl (Or.inl rfl)) pgs_nil))))))
      (pss_cons (ps_expr (pe_ownX D_need (hr.mono (by decide)) (takes_of rfl rfl rfl rfl) (fun _ _ _ _ h => h) (by exact (pa_cons (pe_and (pe_cmpR op_in_seq (pv 4) (pe_tup (by exact (pa_cons pe_int (pa_cons pe_int pa_nil)))) rfl) (pe_one (pe_cmpR op_in_seq (pv 5) (pe_gl T.gWORTHS) rfl))) (pa_cons (pe_un un_neg pe_int) pa_nil)))))
      (pss_cons (ps_set (i := 6) scdo_act.nd rfl (Or.inl rfl) (pe_ownX D_bout_at (hr.mono (by decide)) (takes_of rfl rfl rfl rfl) (fun _ _ _ _ h => h) (by exact (pa_cons (pv 0) (pa_cons (pv 2) (pa_cons (pv 3) pa_nil))))))
      (pss_cons (ps_expr (pe_ownX D_need_going (hr.mono (by decide)) (takes_of rfl rfl rfl rfl) (fun _ _ _ _ h => h) (by exact (pa_cons (pv 6) pa_nil))))
      (pss_cons (ps_expr (pe_ownX D_need (hr.mono (by decide)) (takes_of rfl rfl rfl rfl) (fun _ _ _ _ h => h) (by exact (pa_cons (pe_cmpR op_lt (pe_callB call_len_seq rfl T.len (by decide +kernel) (by exact (pa_cons (pe_fld (pv 6) rfl) pa_nil))) (pe_gl T.gMOST_ACTS) (nomark _)) (pa_cons (pe_un un_neg pe_int) pa_nil)))))
      (pss_cons (ps_expr (pe_own D_add_act (hr.mono (by decide)) (by exact (pa_cons (pv 6) (pa_cons (pv 4) (pa_cons (pv 5) pa_nil))))))
      (pss_one (ps_ret (pe_own D_told_bout (hr.mono (by decide)) (by exact (pa_cons (pv 0) (pa_cons (pv 6) pa_nil)))))))))))), ?_⟩)
  · obtain ⟨_, _, _, _, _, _, rfl, _⟩ := h
    rfl
  obtain ⟨o, g, w, k, i, n, rfl, hg, pre, kA⟩ := h
  have kR := kA.1
  refine ⟨_, rfl, g, _, rfl, SqL.of hg, rfl, _, _, rfl, _, _, rfl, _, _, rfl, _, _, rfl, rfl, ?_⟩
  have bad : (Kg66.within i 0 1 && ([0, 1, 2, 4, 5].any fun x => n == x)) = false → Refuse A H (-1) E := fun z => kR (-1) (by
    show (if _ then _ else _) = _
    rw [if_pos z])
  refine ⟨_, rfl, (by show 2 ≤ sizeLine; decide), fun t ht => ?_⟩
  generalize e1 : upd H t _ = H1
  have s1 : Same H H1 := e1 ▸ same_new ht
  have f1 : H1 t = some (.tup [.int 0, .int 1]) := e1 ▸ upd_same
  refine ⟨t, _, rfl, .inr (SqT.of f1), rfl, rfl, _, rfl, ite_d (fun h1 => ?_) (fun h1 => ?_)⟩
  · have h1' : Kg66.within i 0 1 = true := (in01 i).symm.trans h1
    refine ⟨_, rfl, A.aW, _, rfl, .inr (T.tWORTHS H1), rfl, rfl, 1, rfl, _, -1, rfl, (fun h2 => ?_), fun h2 => ?_⟩
    · have h2' : ([0, 1, 2, 4, 5].any fun x => n == x) = true := (inW n).symm.trans h2
      have es : ∀ t : Kg66.State, Kg66.spec t (.act w k i n) = Kg66.onBout t w k fun b => if 100 ≤ b.acts.length then (t, Kg66.num (-5)) else Kg66.ended t w k ({ b with acts := b.acts ++ [⟨i.toNat, n.toNat⟩] } : Kg66.Bout).settle := fun t => by
        show (if _ then _ else _) = _
        rw [if_neg (by rw [h1', h2']; decide)]
      refine ⟨_, rfl, _, rfl, _, rfl, o, w, k, rfl, (fun s e => ⟨(pre s e).1.same s1, (pre s e).2.2.wt.g⟩), (fun e => (kR (-2) ((es _).trans (onB_none e w k _))).same s1), (fun s e hf => ?_), fun s x e hf loc hb wfx => ?_⟩
      · subst e
        exact (kR (-1) ((es _).trans (onB_miss (pre s rfl).2.2 hf _))).same s1
      · subst e
        obtain ⟨hs, nd, wA⟩ := pre s rfl
        refine ⟨_, rfl, x, rfl, hb, (fun ho => ?_), fun hn => (kR (-4) ((es _).trans (onB_won wA hf hn _))).same s1⟩
        have es2 := (es s.abs).trans (onB_at wA hf ho _)
        refine ⟨_, rfl, x.a, A.CB, x.d, _, _, rfl, hb.obj, T.clCB, T.nCB_acts, bF_ac, x.l, _, rfl, .inl (SqL.of hb.ac), _, _, rfl, rfl, 5, rfl, _, -5, rfl, (fun h5 => ?_), fun h5 => ?_⟩
        · have hl : x.b.acts.length < 100 := by
            have z := of_decide_eq_true h5
            rw [List.length_map, hb.at_.len] at z
            omega
          rw [if_neg (by omega)] at es2
          obtain ⟨iN, hi1, rfl⟩ : ∃ iN : Nat, iN ≤ 1 ∧ i = (iN : Nat) := by
            unfold Kg66.within at h1'
            rw [Bool.and_eq_true] at h1'
            have z1 := of_decide_eq_true h1'.1
            have z2 := of_decide_eq_true h1'.2
            exact ⟨i.toNat, by omega, by omega⟩
          obtain ⟨nN, rfl⟩ : ∃ nN : Nat, n = (nN : Nat) := by
            simp at h2'
            exact ⟨n.toNat, by omega⟩
          rw [Int.toNat_natCast, Int.toNat_natCast] at es2
          refine ⟨_, rfl, _, rfl, _, rfl, x, iN, nN, rfl, hi1, hb, wfx.wf, hl, loc_nd nd loc, fun H2 x' hx' ea eb kp nw nd' => ?_⟩
          have wx' : WfX x'.b := by
            rw [eb]
            exact wfX_settle wfx ho hi1 hl
          obtain ⟨ab1, ab2⟩ := settle_ab ({ x.b with acts := x.b.acts ++ [⟨iN, nN⟩] } : Kg66.Bout)
          obtain ⟨s2, hs2, ea2, wg2, eg2, g2, wA2⟩ := loc_step (hs.same s1) nd wA loc hx' ea wx' (by rw [eb]; exact ab1) (by rw [eb]; exact ab2) ⟨kp, nw, nd'⟩
          refine ⟨_, rfl, _, rfl, s2, x', (by rw [ea2, ea]; rfl), hs2, wg2, g2.nd, hx', wx', fun H3 s3 p h3 ea3 eb3 g3 np fp => ?_⟩
          exact ans_end kA rfl hs nd s1 (by rw [es2, eb]) g2 ea2 eg2 wA2 h3 ea3 eb3 g3 np fp
        · have hl : ¬ x.b.acts.length < 100 := by
            have z := of_decide_eq_false h5
            rw [List.length_map, hb.at_.len] at z
            omega
          rw [if_pos (by omega)] at es2
          exact (kR (-5) es2).same s1
    · have h2' : ([0, 1, 2, 4, 5].any fun x => n == x) = false := (inW n).symm.trans h2
      exact (bad (by rw [h2', Bool.and_false])).same s1
  · have h1' : Kg66.within i 0 1 = false := (in01 i).symm.trans h1
    exact ⟨1, rfl, _, -1, rfl, (fun hb => nomatch hb), fun _ => (bad (by rw [h1', Bool.false_and])).same s1⟩
def sp_do_fall (K : PySem.W.Frag) (A : Ads) : Sp := fun vs H Q E => ∃ (o : Option SL) (g : Addr) (w k i : Int), vs = [vB o, .ref g] ∧ H g = some (.lst ([w, k, i].map V.int)) ∧ Pre A o H ∧ Ans A o H (.fall w k i) Q E
theorem ok_do_fall (T : Txt K mg A) (D_bout_at : Own P w K mg base (L2.CX P w) 4 "bout_at" Pbout_at (sp_bout_at K A)) (D_need : Own P w K mg base (L2.CX P w) 3 "need" Pneed (sp_need K A)) (D_need_going : Own P w K mg base (L2.CX P w) 4 "need_going" Pneed_going (sp_need_going K A)) (D_told_bout : Own P w K mg base CX0 6 "told_bout" Ptold_bout (sp_told_bout K A)) (D_win : Own P w K mg base CX0 1 "win" Pwin (sp_win K A)) {f : Addr} {fd : FuncData} (F : Fun K "do_fall" "do_fall" sdo_fall f fd) : FnOk P w K mg base (L2.CX P w) 7 f fd Pdo_fall (sp_do_fall K A) := by
  refine F.okX scdo_fall (fun vs H Q E h => ?_) (fun cdv Ar outer s H vs Q E hr h => ⟨_, (pss_cons (ps_asg (pv 1) (pg_unl rfl (pgs_cons (pg_name (i := 2) scdo_fall.nd rfl (Or.inl rfl)) (pgs_cons (pg_name (i := 3) scdo_fall.nd rfl (Or.inl rfl)) (pgs_cons (pg_name (i := 4) scdo_fall.nd rfl (Or.inl rfl)) pgs_nil)))))
      (pss_cons (ps_expr (pe_ownX D_need (hr.mono (by decide)) (takes_of rfl rfl rfl rfl) (fun _ _ _ _ h => h) (by exact (pa_cons (pe_cmpR op_in_seq (pv 4) (pe_tup (by exact (pa_cons pe_int (pa_cons pe_int pa_nil)))) rfl) (pa_cons (pe_un un_neg pe_int) pa_nil)))))
      (pss_cons (ps_set (i := 5) scdo_fall.nd rfl (Or.inl rfl) (pe_ownX D_bout_at (hr.mono (by decide)) (takes_of rfl rfl rfl rfl) (fun _ _ _ _ h => h) (by exact (pa_cons (pv 0) (pa_cons (pv 2) (pa_cons (pv 3) pa_nil))))))
      (pss_cons (ps_expr (pe_ownX D_need_going (hr.mono (by decide)) (takes_of rfl rfl rfl rfl) (fun _ _ _ _ h => h) (by exact (pa_cons (pv 5) pa_nil))))
      (pss_cons (ps_expr (pe_own D_win (hr.mono (by decide)) (by exact (pa_cons (pv 5) (pa_cons (pv 4) (pa_cons (pe_gl T.gFALL) pa_nil))))))
      (pss_one (ps_ret (pe_own D_told_bout (hr.mono (by decide)) (by exact (pa_cons (pv 0) (pa_cons (pv 5) pa_nil))))))))))), ?_⟩)
  · obtain ⟨_, _, _, _, _, rfl, _⟩ := h
    rfl
  obtain ⟨o, g, w, k, i, rfl, hg, pre, kA⟩ := h
  have kR := kA.1
  refine ⟨_, rfl, g, _, rfl, SqL.of hg, rfl, _, _, rfl, _, _, rfl, _, _, rfl, rfl, ?_⟩
  refine ⟨_, rfl, (by show 2 ≤ sizeLine; decide), fun t ht => ?_⟩
  generalize e1 : upd H t _ = H1
  have s1 : Same H H1 := e1 ▸ same_new ht
  have f1 : H1 t = some (.tup [.int 0, .int 1]) := e1 ▸ upd_same
  refine ⟨t, _, rfl, .inr (SqT.of f1), rfl, rfl, 1, rfl, _, -1, rfl, (fun h1 => ?_), fun h1 => ?_⟩
  · have h1' : Kg66.within i 0 1 = true := (in01 i).symm.trans h1
    obtain ⟨iN, hi1, rfl⟩ : ∃ iN : Nat, iN ≤ 1 ∧ i = (iN : Nat) := by
      unfold Kg66.within at h1'
      rw [Bool.and_eq_true] at h1'
      have z1 := of_decide_eq_true h1'.1
      have z2 := of_decide_eq_true h1'.2
      exact ⟨i.toNat, by omega, by omega⟩
    have es : ∀ t : Kg66.State, Kg66.spec t (.fall w k (iN : Nat)) = Kg66.onBout t w k fun b => Kg66.ended t w k { b with won := some (iN, 2) } := fun t => by
      show (if _ then _ else _) = _
      rw [if_neg (by rw [h1']; decide)]
      rfl
    refine ⟨_, rfl, _, rfl, _, rfl, o, w, k, rfl, (fun s e => ⟨(pre s e).1.same s1, (pre s e).2.2.wt.g⟩), (fun e => (kR (-2) ((es _).trans (onB_none e w k _))).same s1), (fun s e hf => ?_), fun s x e hf loc hb wfx => ?_⟩
    · subst e
      exact (kR (-1) ((es _).trans (onB_miss (pre s rfl).2.2 hf _))).same s1
    · subst e
      obtain ⟨hs, nd, wA⟩ := pre s rfl
      refine ⟨_, rfl, x, rfl, hb, (fun ho => ?_), fun hn => (kR (-4) ((es _).trans (onB_won wA hf hn _))).same s1⟩
      have es2 := (es s.abs).trans (onB_at wA hf ho _)
      refine ⟨_, rfl, _, rfl, x, iN, 2, rfl, hb, fun H2 hx' kp => ?_⟩
      have wx' : WfX { x.b with won := some (iN, 2) } := wfX_won wfx.wf.who wfx.wf.len wfx.wf.one (wfx.two ho) (by omega) (by decide) rfl
      obtain ⟨s2, hs2, ea2, wg2, eg2, g2, wA2⟩ := loc_step (x' := { x with b := { x.b with won := some (iN, 2) } }) (hs.same s1) nd wA loc hx' rfl wx' rfl rfl ⟨kp.mono fun q hq => by rw [List.mem_singleton.mp hq]; simp [BL.foot], fun q hq => .inl hq, (show x.foot.Nodup from loc_nd nd loc)⟩
      refine ⟨_, rfl, _, rfl, s2, _, (by rw [ea2]; rfl), hs2, wg2, g2.nd, hx', wx', fun H3 s3 p h3 ea3 eb3 g3 np fp => ?_⟩
      exact ans_end kA rfl hs nd s1 es2 g2 ea2 eg2 wA2 h3 ea3 eb3 g3 np fp
  · have h1' : Kg66.within i 0 1 = false := (in01 i).symm.trans h1
    exact (kR (-1) (by
      show (if _ then _ else _) = _
      rw [if_pos h1'])).same s1
def sp_do_give (K : PySem.W.Frag) (A : Ads) : Sp := fun vs H Q E => ∃ (o : Option SL) (g : Addr) (w k i : Int), vs = [vB o, .ref g] ∧ H g = some (.lst ([w, k, i].map V.int)) ∧ Pre A o H ∧ Ans A o H (.give w k i) Q E
theorem ok_do_give (T : Txt K mg A) (D_bout_at : Own P w K mg base (L2.CX P w) 4 "bout_at" Pbout_at (sp_bout_at K A)) (D_need : Own P w K mg base (L2.CX P w) 3 "need" Pneed (sp_need K A)) (D_need_going : Own P w K mg base (L2.CX P w) 4 "need_going" Pneed_going (sp_need_going K A)) (D_told_bout : Own P w K mg base CX0 6 "told_bout" Ptold_bout (sp_told_bout K A)) (D_win : Own P w K mg base CX0 1 "win" Pwin (sp_win K A)) {f : Addr} {fd : FuncData} (F : Fun K "do_give" "do_give" sdo_give f fd) : FnOk P w K mg base (L2.CX P w) 7 f fd Pdo_give (sp_do_give K A) := by
  refine F.okX scdo_give (fun vs H Q E h => ?_) (fun cdv Ar outer s H vs Q E hr h => ⟨_, (pss_cons (ps_asg (pv 1) (pg_unl rfl (pgs_cons (pg_name (i := 2) scdo_give.nd rfl (Or.inl rfl)) (pgs_cons (pg_name (i := 3) scdo_give.nd rfl (Or.inl rfl)) (pgs_cons (pg_name (i := 4) scdo_give.nd rfl (Or.inl rfl)) pgs_nil)))))
      (pss_cons (ps_expr (pe_ownX D_need (hr.mono (by decide)) (takes_of rfl rfl rfl rfl) (fun _ _ _ _ h => h) (by exact (pa_cons (pe_cmpR op_in_seq (pv 4) (pe_tup (by exact (pa_cons pe_int (pa_cons pe_int pa_nil)))) rfl) (pa_cons (pe_un un_neg pe_int) pa_nil)))))
      (pss_cons (ps_set (i := 5) scdo_give.nd rfl (Or.inl rfl) (pe_ownX D_bout_at (hr.mono (by decide)) (takes_of rfl rfl rfl rfl) (fun _ _ _ _ h => h) (by exact (pa_cons (pv 0) (pa_cons (pv 2) (pa_cons (pv 3) pa_nil))))))
      (pss_cons (ps_expr (pe_ownX D_need_going (hr.mono (by decide)) (takes_of rfl rfl rfl rfl) (fun _ _ _ _ h => h) (by exact (pa_cons (pv 5) pa_nil))))
      (pss_cons (ps_expr (pe_own D_win (hr.mono (by decide)) (by exact (pa_cons (pv 5) (pa_cons (pe_op op_sub pe_int (pv 4)) (pa_cons (pe_gl T.gGIVEN_UP) pa_nil))))))
      (pss_one (ps_ret (pe_own D_told_bout (hr.mono (by decide)) (by exact (pa_cons (pv 0) (pa_cons (pv 5) pa_nil))))))))))), ?_⟩)
  · obtain ⟨_, _, _, _, _, rfl, _⟩ := h
    rfl
  obtain ⟨o, g, w, k, i, rfl, hg, pre, kA⟩ := h
  have kR := kA.1
  refine ⟨_, rfl, g, _, rfl, SqL.of hg, rfl, _, _, rfl, _, _, rfl, _, _, rfl, rfl, ?_⟩
  refine ⟨_, rfl, (by show 2 ≤ sizeLine; decide), fun t ht => ?_⟩
  generalize e1 : upd H t _ = H1
  have s1 : Same H H1 := e1 ▸ same_new ht
  have f1 : H1 t = some (.tup [.int 0, .int 1]) := e1 ▸ upd_same
  refine ⟨t, _, rfl, .inr (SqT.of f1), rfl, rfl, 1, rfl, _, -1, rfl, (fun h1 => ?_), fun h1 => ?_⟩
  · have h1' : Kg66.within i 0 1 = true := (in01 i).symm.trans h1
    obtain ⟨iN, hi1, rfl⟩ : ∃ iN : Nat, iN ≤ 1 ∧ i = (iN : Nat) := by
      unfold Kg66.within at h1'
      rw [Bool.and_eq_true] at h1'
      have z1 := of_decide_eq_true h1'.1
      have z2 := of_decide_eq_true h1'.2
      exact ⟨i.toNat, by omega, by omega⟩
    have es : ∀ t : Kg66.State, Kg66.spec t (.give w k (iN : Nat)) = Kg66.onBout t w k fun b => Kg66.ended t w k { b with won := some ((1 - iN), 4) } := fun t => by
      show (if _ then _ else _) = _
      rw [if_neg (by rw [h1']; decide)]
      rfl
    refine ⟨_, rfl, _, rfl, _, rfl, o, w, k, rfl, (fun s e => ⟨(pre s e).1.same s1, (pre s e).2.2.wt.g⟩), (fun e => (kR (-2) ((es _).trans (onB_none e w k _))).same s1), (fun s e hf => ?_), fun s x e hf loc hb wfx => ?_⟩
    · subst e
      exact (kR (-1) ((es _).trans (onB_miss (pre s rfl).2.2 hf _))).same s1
    · subst e
      obtain ⟨hs, nd, wA⟩ := pre s rfl
      refine ⟨_, rfl, x, rfl, hb, (fun ho => ?_), fun hn => (kR (-4) ((es _).trans (onB_won wA hf hn _))).same s1⟩
      have es2 := (es s.abs).trans (onB_at wA hf ho _)
      refine ⟨_, rfl, _, rfl, _, _, rfl, rfl, x, (1 - iN), 4, (by
        show [V.ref x.a, V.int ((1 : Int) - (iN : Nat)), V.int 4] = _
        rw [show (1 : Int) - (iN : Nat) = ((1 - iN : Nat) : Int) by omega]
        rfl), hb, fun H2 hx' kp => ?_⟩
      have wx' : WfX { x.b with won := some ((1 - iN), 4) } := wfX_won wfx.wf.who wfx.wf.len wfx.wf.one (wfx.two ho) (by omega) (by decide) rfl
      obtain ⟨s2, hs2, ea2, wg2, eg2, g2, wA2⟩ := loc_step (x' := { x with b := { x.b with won := some ((1 - iN), 4) } }) (hs.same s1) nd wA loc hx' rfl wx' rfl rfl ⟨kp.mono fun q hq => by rw [List.mem_singleton.mp hq]; simp [BL.foot], fun q hq => .inl hq, (show x.foot.Nodup from loc_nd nd loc)⟩
      refine ⟨_, rfl, _, rfl, s2, _, (by rw [ea2]; rfl), hs2, wg2, g2.nd, hx', wx', fun H3 s3 p h3 ea3 eb3 g3 np fp => ?_⟩
      exact ans_end kA rfl hs nd s1 es2 g2 ea2 eg2 wA2 h3 ea3 eb3 g3 np fp
  · have h1' : Kg66.within i 0 1 = false := (in01 i).symm.trans h1
    exact (kR (-1) (by
      show (if _ then _ else _) = _
      rw [if_pos h1'])).same s1
def sp_do_time (K : PySem.W.Frag) (A : Ads) : Sp := fun vs H Q E => ∃ (o : Option SL) (w k : Int), vs = [vB o, .int w, .int k] ∧ Pre A o H ∧ Ans A o H (.time w k) Q E
theorem ok_do_time (T : Txt K mg A) (D_bout_at : Own P w K mg base (L2.CX P w) 4 "bout_at" Pbout_at (sp_bout_at K A)) (D_leader : Own P w K mg base CX0 4 "leader" Pleader (sp_leader K A)) (D_need : Own P w K mg base (L2.CX P w) 3 "need" Pneed (sp_need K A)) (D_need_going : Own P w K mg base (L2.CX P w) 4 "need_going" Pneed_going (sp_need_going K A)) (D_told_bout : Own P w K mg base CX0 6 "told_bout" Ptold_bout (sp_told_bout K A)) (D_win : Own P w K mg base CX0 1 "win" Pwin (sp_win K A)) {f : Addr} {fd : FuncData} (F : Fun K "do_time" "do_time" sdo_time f fd) : FnOk P w K mg base (L2.CX P w) 7 f fd Pdo_time (sp_do_time K A) := by
  refine F.okX scdo_time (fun vs H Q E h => ?_) (fun cdv Ar outer s H vs Q E hr h => ⟨_, (pss_cons (ps_set (i := 3) scdo_time.nd rfl (Or.inl rfl) (pe_ownX D_bout_at (hr.mono (by decide)) (takes_of rfl rfl rfl rfl) (fun _ _ _ _ h => h) (by exact (pa_cons (pv 0) (pa_cons (pv 1) (pa_cons (pv 2) pa_nil))))))
      (pss_cons (ps_expr (pe_ownX D_need_going (hr.mono (by decide)) (takes_of rfl rfl rfl rfl) (fun _ _ _ _ h => h) (by exact (pa_cons (pv 3) pa_nil))))
      (pss_cons (ps_expr (pe_ownX D_need (hr.mono (by decide)) (takes_of rfl rfl rfl rfl) (fun _ _ _ _ h => h) (by exact (pa_cons (pe_cmpR op_ne (pe_own D_leader (hr.mono (by decide)) (by exact (pa_cons (pv 3) pa_nil))) (pe_gl T.gNOBODY) (nomark _)) (pa_cons (pe_un un_neg pe_int) pa_nil)))))
      (pss_cons (ps_expr (pe_own D_win (hr.mono (by decide)) (by exact (pa_cons (pv 3) (pa_cons (pe_own D_leader (hr.mono (by decide)) (by exact (pa_cons (pv 3) pa_nil))) (pa_cons (pe_gl T.gPOINTS) pa_nil))))))
      (pss_one (ps_ret (pe_own D_told_bout (hr.mono (by decide)) (by exact (pa_cons (pv 0) (pa_cons (pv 3) pa_nil)))))))))), ?_⟩)
  · obtain ⟨_, _, _, rfl, _⟩ := h
    rfl
  obtain ⟨o, w, k, rfl, pre, kA⟩ := h
  have kR := kA.1
  have es : ∀ t : Kg66.State, Kg66.spec t (.time w k) = Kg66.onBout t w k fun b => match b.leads with
    | none => (t, Kg66.num (-5))
    | some x => Kg66.ended t w k { b with won := some (x, 0) } := fun t => rfl
  refine ⟨_, rfl, _, rfl, _, rfl, o, w, k, rfl, (fun s e => ⟨(pre s e).1, (pre s e).2.2.wt.g⟩), (fun e => kR (-2) ((es _).trans (onB_none e w k _))), (fun s e hf => ?_), fun s x e hf loc hb wfx => ?_⟩
  · subst e
    exact kR (-1) ((es _).trans (onB_miss (pre s rfl).2.2 hf _))
  · subst e
    obtain ⟨hs, nd, wA⟩ := pre s rfl
    refine ⟨_, rfl, x, rfl, hb, (fun ho => ?_), fun hn => kR (-4) ((es _).trans (onB_won wA hf hn _))⟩
    have es2 := (es s.abs).trans (onB_at wA hf ho _)
    refine ⟨_, rfl, x, rfl, hb, wfx.wf, fun H1 s1 => ?_⟩
    refine ⟨rfl, 5, rfl, _, -5, rfl, (fun h5 => ?_), fun h5 => ?_⟩
    · have ne : x.b.leads ≠ none := fun z => by
        rw [z] at h5
        exact absurd h5 (by decide)
      have na : x.b.acts ≠ [] := fun z => ne (by unfold Kg66.Bout.leads; rw [if_pos z])
      obtain ⟨y, ey, hy⟩ : ∃ y, x.b.leads = some y ∧ y ≤ 1 := ⟨_, gt_lead wfx.wf na, by split <;> omega⟩
      rw [ey] at es2
      have es3 : Kg66.spec s.abs (.time w k) = Kg66.ended s.abs w k { x.b with won := some (y, 0) } := es2
      refine ⟨_, rfl, _, rfl, x, rfl, hb.same s1, wfx.wf, fun H2 s2 => ?_⟩
      have s12 := s1.trans s2
      refine ⟨x, y, 0, (by rw [ey]; rfl), (hb.same s1).same s2, fun H3 hx' kp => ?_⟩
      have wx' : WfX { x.b with won := some (y, 0) } := wfX_won wfx.wf.who wfx.wf.len wfx.wf.one (wfx.two ho) hy (by decide) rfl
      obtain ⟨s2', hs2, ea2, wg2, eg2, g2, wA2⟩ := loc_step (x' := { x with b := { x.b with won := some (y, 0) } }) (hs.same s12) nd wA loc hx' rfl wx' rfl rfl ⟨kp.mono fun q hq => by rw [List.mem_singleton.mp hq]; simp [BL.foot], fun q hq => .inl hq, (show x.foot.Nodup from loc_nd nd loc)⟩
      refine ⟨_, rfl, _, rfl, s2', _, (by rw [ea2]; rfl), hs2, wg2, g2.nd, hx', wx', fun H4 s3 p h3 ea3 eb3 g3 np fp => ?_⟩
      exact ans_end kA rfl hs nd s12 es3 g2 ea2 eg2 wA2 h3 ea3 eb3 g3 np fp
    · have e0 : x.b.leads = none := by
        cases e : x.b.leads with
        | none => rfl
        | some m =>
          rw [e] at h5
          have z : (!decide (V.int ((m : Nat) : Int) = V.int (-1))) = false := h5
          have z2 : V.int ((m : Nat) : Int) = V.int (-1) := by simpa using z
          have z3 := V.int.inj z2
          omega
      rw [e0] at es2
      exact (kR (-5) es2).same s1
end
end Wm
/-! # begin, bout, now, sums, places -/
namespace Wm
open PySem PySem.Spec PyProof.Rows L2
open LamX (TabS TabB ExtN)
def begunS (n : Nat) : Kg66.State := ⟨n, [Kg66.paired (Kg66.drawn n)], match Kg66.paired (Kg66.drawn n) with
  | [_] => [⟨[], []⟩, ⟨[], []⟩]
  | _ => []⟩
def chkB (n : Nat) : Bool := decide ((newS n).rounds = (begunS n).rounds) && (decide ((newS n).rows = (begunS n).rows) && decide ((newS n).count = (begunS n).count))
theorem chkB_all : ∀ n, n < 33 → 2 ≤ n → chkB n = true := by decide +kernel
theorem newS_eq {n : Nat} (h2 : 2 ≤ n) (h32 : n ≤ 32) : newS n = begunS n := by
  have c := chkB_all n (by omega) h2
  unfold chkB at c
  rw [Bool.and_eq_true, Bool.and_eq_true] at c
  have e1 := of_decide_eq_true c.1
  have e2 := of_decide_eq_true c.2.1
  have e3 := of_decide_eq_true c.2.2
  generalize newS n = a at e1 e2 e3
  generalize begunS n = b at e1 e2 e3
  cases a
  cases b
  simp at e1 e2 e3
  rw [e1, e2, e3]
theorem newS_wfA {n : Nat} (h2 : 2 ≤ n) (h32 : n ≤ 32) : WfA (newS n) := by
  have wg := (begun_wf h2 h32).1
  refine ⟨goOn_wfT wg (fun z => absurd rfl z), goOn_wfP wg (fun z => absurd rfl z) (begun_wfP h2 h32), ?_⟩
  rw [newS_eq h2 h32]
  exact h2
section
variable {P : Program} {w : World} {K : PySem.W.Frag} {mg : Str → Option Value} {base : Heap} {A : Ads}
def sp_do_begin (K : PySem.W.Frag) (A : Ads) : Sp := fun vs H Q E => ∃ (m dm : Addr) (v : V) (n : Int), vs = [.ref m, .int n] ∧ H m = some (.ins A.CM dm [("bracket", v)]) ∧ (¬ (2 ≤ n ∧ n ≤ 32) → Refuse A H (-1) E) ∧
  ∀ (H' : Hp) (s : SL) (p : Addr), 2 ≤ n → n ≤ 32 → StIs A.CB A.CR A.CK H' s → s.abs = newS n.toNat → H' m = some (.ins A.CM dm [("bracket", .ref s.a)]) → Keep [m] H H' → (∀ q ∈ s.foot, H q = none) → s.foot.Nodup → H p = none →
    H' p = some (.lst [.int ((begunS n.toNat).now.length : Nat)]) → Q (.ref p) H'
theorem ok_do_begin (T : Txt K mg A) (D_need : Own P w K mg base (L2.CX P w) 3 "need" Pneed (sp_need K A)) (D_new_bracket : Own P w K mg base CX0 6 "new_bracket" Pnew_bracket (sp_new_bracket K A)) {f : Addr} {fd : FuncData} (F : Fun K "do_begin" "do_begin" sdo_begin f fd) : FnOk P w K mg base (L2.CX P w) 7 f fd Pdo_begin (sp_do_begin K A) := by
  refine F.okX scdo_begin (fun vs H Q E h => ?_) (fun cdv Ar outer s H vs Q E hr h => ⟨_, (pss_cons (ps_expr (pe_ownX D_need (hr.mono (by decide)) (takes_of rfl rfl rfl rfl) (fun _ _ _ _ h => h) (by exact (pa_cons (pe_chain op_le op_le (pe_gl T.gFEWEST) (pv 1) (pe_gl T.gMOST)) (pa_cons (pe_un un_neg pe_int) pa_nil)))))
      (pss_cons (ps_fld (pv 0) (pe_own D_new_bracket (hr.mono (by decide)) (by exact (pa_cons (pv 1) pa_nil))) rfl)
      (pss_one (ps_ret (pe_lst (by exact (pa_cons (pe_callB call_len_seq rfl T.len (by decide +kernel) (by exact (pa_cons (pe_ix ix_list (pe_fld (pe_fld (pv 0) rfl) rfl) pe_int (fun _ _ => rfl)) pa_nil))) pa_nil))))))), ?_⟩)
  · obtain ⟨_, _, _, _, rfl, _⟩ := h
    rfl
  obtain ⟨m, dm, v, n, rfl, hm, k1, k2⟩ := h
  refine ⟨_, rfl, _, _, rfl, rfl, _, rfl, if_d (fun h1 => ?_) (fun h1 => ?_)⟩
  · refine ⟨_, _, rfl, rfl, 1, rfl, _, -1, rfl, (fun hb => ?_), fun hb => ?_⟩
    · have h2 := of_decide_eq_true hb
      obtain ⟨nN, rfl⟩ : ∃ nN : Nat, n = (nN : Nat) := ⟨n.toNat, by omega⟩
      refine ⟨_, rfl, nN, rfl, (by omega), (by omega), fun H1 s hs es sm fr nd => ?_⟩
      have hm1 := sm _ _ hm
      refine ⟨_, rfl, m, A.CM, dm, _, rfl, hm1, T.clCM, T.nCM_bracket, (by show 1 < 1000; decide), ?_⟩
      generalize e2 : upd H1 m _ = H2
      have k12 : Keep [m] H1 H2 := e2 ▸ Keep.set (by simp)
      have hm2 : H2 m = some (.ins A.CM dm [("bracket", .ref s.a)]) := e2 ▸ upd_same
      have nm : m ∉ s.foot := fun z => by rw [fr m z] at hm; cases hm
      have hs2 := hs.keep k12 fun q hq z => nm (List.mem_singleton.mp z ▸ hq)
      have en := newS_eq (n := nN) (by omega) (by omega)
      have er : s.rounds.map RL.abs = [Kg66.paired (Kg66.drawn nN)] := by
        have z : s.abs.rounds = (newS nN).rounds := by rw [es]
        rw [en] at z
        exact z
      obtain ⟨r, hr, her⟩ : ∃ r, s.rounds = [r] ∧ r.abs = Kg66.paired (Kg66.drawn nN) := by
        cases e : s.rounds with
        | nil =>
          rw [e] at er
          cases er
        | cons a l =>
          rw [e] at er
          cases l with
          | nil => exact ⟨a, rfl, by simpa using er⟩
          | cons b l => simp at er
      have hl := hs2.l
      rw [hr] at hl
      have hr2 := hs2.rd r (by rw [hr]; simp)
      refine ⟨_, rfl, m, A.CM, dm, _, _, rfl, hm2, T.clCM, T.nCM_bracket, lk0, s.a, A.CK, s.d, _, _, rfl, hs2.obj, T.clCK, T.nCK_rounds, sF_r, s.pr, _, 0, _, rfl, rfl, SqL.of hl, atI_nat (j := 0) rfl, r.p, _, rfl, .inl (SqL.of hr2.l), (by show 1 ≤ sizeLine; decide), fun p hp => ?_⟩
      generalize e3 : upd H2 p _ = H3
      have s3 : Same H2 H3 := e3 ▸ same_new hp
      have f3 : H3 p = some (.lst [.int ((begunS nN).now.length : Nat)]) := by
        rw [← e3, upd_same]
        have z : (r.bs.map fun x => V.ref x.a).length = (begunS nN).now.length := by
          show _ = (Kg66.paired (Kg66.drawn nN)).length
          rw [← her, List.length_map]
          unfold RL.abs
          rw [List.length_map]
        rw [z]
      have kk : Keep [m] H H3 := fun q o hq hn => s3 _ _ (k12 _ _ (sm _ _ hq) hn)
      have p0 : H p = none := by
        rcases k12.back p hp with z | z
        · exact sm.free z
        · rw [List.mem_singleton.mp z] at hp
          rw [hm2] at hp
          cases hp
      exact k2 H3 s p h1 h2 (hs2.same s3) (by rw [Int.toNat_natCast]; exact es) (s3 _ _ hm2) kk fr nd p0 (by rw [Int.toNat_natCast]; exact f3)
    · have h2 := of_decide_eq_false hb
      exact k1 fun z => h2 z.2
  · exact ⟨1, rfl, _, -1, rfl, (fun hb => nomatch hb), fun _ => k1 fun z => h1 z.1⟩
/-- nothing has changed -/
theorem ans_same {o : Option SL} {s : SL} {c : Kg66.Call} {a : Kg66.Ans} {H H' : Hp} {p : Addr} {Q : VK} {E : XK} (kA : Ans A o H c Q E) (eo : o = some s) (pre : Pre A o H) (sm : Same H H') (np : H p = none) (es : Kg66.spec s.abs c = (s.abs, a)) (fp : H' p = some (.lst ((a.value :: a.out).map V.int))) : Q (.ref p) H' := by
  subst eo
  obtain ⟨hs, nd, wA⟩ := pre s rfl
  have es' : Kg66.spec (absO (some s)) c = (s.abs, a) := es
  refine kA.2 H' s s p rfl (hs.same sm) rfl (by rw [es']) wA (Pass.of_goes hs.plain (Goes.of_same nd sm)) (.inl np) ?_
  rw [es']
  exact fp
def sp_do_bout (K : PySem.W.Frag) (A : Ads) : Sp := fun vs H Q E => ∃ (o : Option SL) (w k : Int), vs = [vB o, .int w, .int k] ∧ Pre A o H ∧ Ans A o H (.bout w k) Q E
theorem ok_do_bout (T : Txt K mg A) (D_bout_at : Own P w K mg base (L2.CX P w) 4 "bout_at" Pbout_at (sp_bout_at K A)) (D_stands : Own P w K mg base CX0 5 "stands" Pstands (sp_stands K A)) {f : Addr} {fd : FuncData} (F : Fun K "do_bout" "do_bout" sdo_bout f fd) : FnOk P w K mg base (L2.CX P w) 6 f fd Pdo_bout (sp_do_bout K A) := by
  refine F.okX scdo_bout (fun vs H Q E h => ?_) (fun cdv Ar outer s H vs Q E hr h => ⟨_, (pss_cons (ps_set (i := 3) scdo_bout.nd rfl (Or.inl rfl) (pe_ownX D_bout_at (hr.mono (by decide)) (takes_of rfl rfl rfl rfl) (fun _ _ _ _ h => h) (by exact (pa_cons (pv 0) (pa_cons (pv 1) (pa_cons (pv 2) pa_nil))))))
      (pss_one (ps_ret (pe_op op_cat (pe_lst (by exact (pa_cons (pe_callB call_len_seq rfl T.len (by decide +kernel) (by exact (pa_cons (pe_fld (pv 3) rfl) pa_nil))) pa_nil))) (pe_own D_stands (hr.mono (by decide)) (by exact (pa_cons (pv 3) pa_nil))))))), ?_⟩)
  · obtain ⟨_, _, _, rfl, _⟩ := h
    rfl
  obtain ⟨o, w, k, rfl, pre, kA⟩ := h
  have kR := kA.1
  have es : ∀ t : Kg66.State, Kg66.spec t (.bout w k) = if t.count = 0 then (t, Kg66.num (-2)) else match t.find w k with
    | none => (t, Kg66.num (-1))
    | some b => (t, ⟨b.acts.length, Kg66.showBout b⟩) := fun t => rfl
  refine ⟨_, rfl, _, rfl, _, rfl, o, w, k, rfl, (fun s e => ⟨(pre s e).1, (pre s e).2.2.wt.g⟩), (fun e => kR (-2) ?_), (fun s e hf => kR (-1) ?_), fun s x e hf loc hb wfx => ?_⟩
  · subst e
    rw [es]
    rfl
  · subst e
    show Kg66.spec s.abs _ = _
    rw [es, if_neg (count_pos (pre s rfl).2.2), hf]
    rfl
  · have es2 : Kg66.spec s.abs (.bout w k) = (s.abs, ⟨x.b.acts.length, Kg66.showBout x.b⟩) := by
      rw [es, if_neg (count_pos (pre s e).2.2), hf]
    refine ⟨_, rfl, x.a, A.CB, x.d, _, _, rfl, hb.obj, T.clCB, T.nCB_acts, bF_ac, x.l, _, rfl, .inl (SqL.of hb.ac), (by show 1 ≤ sizeLine; decide), fun p1 hp1 => ?_⟩
    generalize e1 : upd H p1 _ = H1
    have s1 : Same H H1 := e1 ▸ same_new hp1
    have f1 : H1 p1 = some (.lst [.int (x.b.acts.length : Nat)]) := by
      rw [← e1, upd_same, List.length_map, hb.at_.len]
    refine ⟨_, rfl, x, rfl, hb.same s1, wfx.wf, fun H2 p2 s2 np2 f2 => ?_⟩
    refine ⟨p1, p2, _, _, rfl, rfl, s2 _ _ f1, f2, (by rw [List.length_map]; show 1 + 9 ≤ sizeLine; decide), fun p3 hp3 => ?_⟩
    exact ans_same kA e pre (s1.trans (s2.trans (same_new hp3))) ((s1.trans s2).free hp3) es2 upd_same
def sp_do_sums (K : PySem.W.Frag) (A : Ads) : Sp := fun vs H Q E => ∃ (o : Option SL) (f : Int), vs = [vB o, .int f] ∧ Pre A o H ∧ Ans A o H (.sums f) Q E
theorem ok_do_sums (T : Txt K mg A) (D_need : Own P w K mg base (L2.CX P w) 3 "need" Pneed (sp_need K A)) (D_sums_of : Own P w K mg base CX0 4 "sums_of" Psums_of (sp_sums_of K A)) {f : Addr} {fd : FuncData} (F : Fun K "do_sums" "do_sums" sdo_sums f fd) : FnOk P w K mg base (L2.CX P w) 5 f fd Pdo_sums (sp_do_sums K A) := by
  refine F.okX scdo_sums (fun vs H Q E h => ?_) (fun cdv Ar outer s H vs Q E hr h => ⟨_, (pss_cons (ps_expr (pe_ownX D_need (hr.mono (by decide)) (takes_of rfl rfl rfl rfl) (fun _ _ _ _ h => h) (by exact (pa_cons (pe_cmpR op_notN (pv 0) pe_non (nomark _)) (pa_cons (pe_un un_neg pe_int) pa_nil)))))
      (pss_cons (ps_expr (pe_ownX D_need (hr.mono (by decide)) (takes_of rfl rfl rfl rfl) (fun _ _ _ _ h => h) (by exact (pa_cons (pe_chain op_le op_lt pe_int (pv 1) (pe_fld (pv 0) rfl)) (pa_cons (pe_un un_neg pe_int) pa_nil)))))
      (pss_one (ps_ret (pe_own D_sums_of (hr.mono (by decide)) (by exact (pa_cons (pv 0) (pa_cons (pv 1) pa_nil)))))))), ?_⟩)
  · obtain ⟨_, _, rfl, _⟩ := h
    rfl
  obtain ⟨o, f, rfl, pre, kA⟩ := h
  have kR := kA.1
  have es : ∀ t : Kg66.State, Kg66.spec t (.sums f) = if t.count = 0 then (t, Kg66.num (-2)) else if (decide (0 ≤ f) && decide (f < (t.count : Int))) = false then (t, Kg66.num (-1)) else
      (t, ⟨Kg66.sumOver t f.toNat Kg66.Bout.classed, [(Kg66.sumOver t f.toNat gFalls : Int), (Kg66.sumOver t f.toNat Kg66.Bout.points : Int)]⟩) := fun t => rfl
  cases o with
  | none => exact ⟨_, rfl, rfl, 2, rfl, _, -2, rfl, (fun hb => nomatch hb), fun _ => kR (-2) rfl⟩
  | some s =>
    obtain ⟨hs, nd, wA⟩ := pre s rfl
    have bad : ¬ (0 ≤ f ∧ f < (s.n : Int)) → Refuse A H (-1) E := fun z => kR (-1) (by
      show Kg66.spec s.abs _ = _
      rw [es, if_neg (count_pos wA), if_pos]
      · rfl
      · rw [Bool.eq_false_iff]
        intro q
        rw [Bool.and_eq_true] at q
        exact z ⟨of_decide_eq_true q.1, of_decide_eq_true q.2⟩)
    refine ⟨_, rfl, rfl, 2, rfl, _, -2, rfl, (fun _ => ?_), fun hb => nomatch hb⟩
    refine ⟨_, rfl, _, _, rfl, rfl, _, rfl, if_d (fun h1 => ?_) (fun h1 => ?_)⟩
    · refine ⟨_, rfl, s.a, A.CK, s.d, _, _, rfl, hs.obj, T.clCK, T.nCK_many, sF_n, _, _, rfl, rfl, 1, rfl, _, -1, rfl, (fun hb => ?_), fun hb => ?_⟩
      · have h2 := of_decide_eq_true hb
        obtain ⟨fN, rfl⟩ : ∃ fN : Nat, f = (fN : Nat) := ⟨f.toNat, by omega⟩
        refine ⟨_, rfl, _, rfl, s, fN, rfl, hs, wA.wt.g, fun H1 p s1 np f1 => ?_⟩
        refine ans_same kA rfl pre s1 np (a := ⟨Kg66.sumOver s.abs fN Kg66.Bout.classed, [(Kg66.sumOver s.abs fN gFalls : Int), (Kg66.sumOver s.abs fN Kg66.Bout.points : Int)]⟩) ?_ f1
        rw [es, if_neg (count_pos wA), if_neg, Int.toNat_natCast]
        rw [Bool.not_eq_false, Bool.and_eq_true]
        exact ⟨decide_eq_true h1, decide_eq_true h2⟩
      · exact bad fun z => (of_decide_eq_false hb) z.2
    · exact ⟨1, rfl, _, -1, rfl, (fun hb => nomatch hb), fun _ => bad fun z => h1 z.1⟩
end
end Wm
/-! # now, places -/
namespace Wm
open PySem PySem.Spec PyProof.Rows L2
open LamX (TabS TabB ExtN)
def nowB (b : Kg66.Bout) : List Int := [Kg66.opt b.a, Kg66.opt b.b, Kg66.opt b.winner]
def nowR (r : Kg66.Row) : List Int := [(r.bouts.length : Int), (r.waits.length : Int)]
def nowH (t : Kg66.State) : List Int := [(t.rounds.length : Int), (t.now.length : Int), if t.done = true then 1 else 0]
theorem spec_now {t : Kg66.State} (h : ¬ t.count = 0) : Kg66.spec t .now = (t, ⟨t.rounds.length, [(t.now.length : Int), if t.done = true then 1 else 0] ++ (t.now.flatMap nowB ++ t.rows.flatMap nowR)⟩) := by
  show (t, if t.count = 0 then _ else _) = _
  rw [if_neg h]
  rfl
section
variable {P : Program} {w : World} {K : PySem.W.Frag} {mg : Str → Option Value} {base : Heap} {A : Ads}
def sp_do_now (K : PySem.W.Frag) (A : Ads) : Sp := fun vs H Q E => ∃ (o : Option SL), vs = [vB o] ∧ Pre A o H ∧ Ans A o H .now Q E
theorem ok_do_now (T : Txt K mg A) (D_is_over : Own P w K mg base CX0 2 "is_over" Pis_over (sp_is_over K A)) (D_need : Own P w K mg base (L2.CX P w) 3 "need" Pneed (sp_need K A)) (D_who_won : Own P w K mg base CX0 1 "who_won" Pwho_won (sp_who_won K A)) {f : Addr} {fd : FuncData} (F : Fun K "do_now" "do_now" sdo_now f fd) : FnOk P w K mg base (L2.CX P w) 4 f fd Pdo_now (sp_do_now K A) := by
  refine F.okX scdo_now (fun vs H Q E h => ?_) (fun cdv Ar outer s H vs Q E hr h => ⟨_, (pss_cons (ps_expr (pe_ownX D_need (hr.mono (by decide)) (takes_of rfl rfl rfl rfl) (fun _ _ _ _ h => h) (by exact (pa_cons (pe_cmpR op_notN (pv 0) pe_non (nomark _)) (pa_cons (pe_un un_neg pe_int) pa_nil)))))
      (pss_cons (ps_set (i := 1) scdo_now.nd rfl (Or.inl rfl) (pe_ix ix_list (pe_fld (pv 0) rfl) (pe_un un_neg pe_int) (fun _ _ => rfl)))
      (pss_cons (ps_set (i := 2) scdo_now.nd rfl (Or.inl rfl) (pe_lst (by exact (pa_cons (pe_callB call_len_seq rfl T.len (by decide +kernel) (by exact (pa_cons (pe_fld (pv 0) rfl) pa_nil))) (pa_cons (pe_callB call_len_seq rfl T.len (by decide +kernel) (by exact (pa_cons (pv 1) pa_nil))) (pa_cons (pe_ifExp (pt_val (pe_own D_is_over (hr.mono (by decide)) (by exact (pa_cons (pv 0) pa_nil)))) pe_int pe_int) pa_nil))))))
      (pss_cons (ps_for (passes_of rfl) rfl (pi_list (pv 1)) (pg_name (i := 3) scdo_now.nd rfl (Or.inl rfl)) (pss_one (ps_expr (pe_bm PySem.F.plainAttrs_list PySem.F.slot_list_extend PySem.F.type_list_extend mt_extend (pv 2) (by exact (pa_cons (pe_op op_cat (pe_callTy call_list_of rfl T.list (by decide +kernel) (by exact (pa_cons (pe_fld (pv 3) rfl) pa_nil))) (pe_lst (by exact (pa_cons (pe_own D_who_won (hr.mono (by decide)) (by exact (pa_cons (pv 3) pa_nil))) pa_nil)))) pa_nil))))))
      (pss_cons (ps_for (passes_of rfl) rfl (pi_list (pe_fld (pv 0) rfl)) (pg_name (i := 4) scdo_now.nd rfl (Or.inl rfl)) (pss_one (ps_expr (pe_bm PySem.F.plainAttrs_list PySem.F.slot_list_extend PySem.F.type_list_extend mt_extend (pv 2) (by exact (pa_cons (pe_lst (by exact (pa_cons (pe_callB call_len_seq rfl T.len (by decide +kernel) (by exact (pa_cons (pe_fld (pv 4) rfl) pa_nil))) (pa_cons (pe_callB call_len_seq rfl T.len (by decide +kernel) (by exact (pa_cons (pe_fld (pv 4) rfl) pa_nil))) pa_nil)))) pa_nil))))))
      (pss_one (ps_ret (pv 2)))))))), ?_⟩)
  · obtain ⟨_, rfl, _⟩ := h
    rfl
  obtain ⟨o, rfl, pre, kA⟩ := h
  have kR := kA.1
  cases o with
  | none => exact ⟨_, rfl, rfl, 2, rfl, _, -2, rfl, (fun hb => nomatch hb), fun _ => kR (-2) rfl⟩
  | some s =>
    obtain ⟨hs, nd, wA⟩ := pre s rfl
    obtain ⟨R, r, eR, eN⟩ := SL.snoc wA.wt.g
    obtain ⟨w1, w2, w3, w4⟩ := rd_len wA.wt.g
    have hl := hs.l
    rw [eR, List.map_append] at hl
    have hrm : r ∈ s.rounds := by rw [eR]; simp
    have hr1 := hs.rd r hrm
    have r16 := w2 r hrm
    have es := spec_now (count_pos wA)
    have big : (1000 : Nat) < sizeLine := by decide
    have erl : s.abs.rounds.length = s.rounds.length := by
      show (s.rounds.map RL.abs).length = _
      rw [List.length_map]
    have enl : s.abs.now.length = r.bs.length := by
      rw [eN]
      show (r.bs.map BL.b).length = _
      rw [List.length_map]
    have t1 : ∀ i, ((r.bs.take i).flatMap fun x => nowB x.b).length ≤ 48 := fun i => by
      refine Nat.le_trans (flatMap_le _ 3 _ fun x _ => Nat.le_refl _) ?_
      rw [List.length_take]
      omega
    have t2 : ∀ i, ((s.rows.take i).flatMap fun x => nowR x.abs).length ≤ 4 := fun i => by
      refine Nat.le_trans (flatMap_le _ 2 _ fun x _ => Nat.le_refl _) ?_
      rw [List.length_take]
      omega
    refine ⟨_, rfl, rfl, 2, rfl, _, -2, rfl, (fun _ => ?_), fun hb => nomatch hb⟩
    refine ⟨_, rfl, s.a, A.CK, s.d, _, _, rfl, hs.obj, T.clCK, T.nCK_rounds, sF_r, 1, rfl, s.pr, _, -1, _, rfl, rfl, SqL.of hl, atI_last _ _, ?_⟩
    refine ⟨_, rfl, s.a, A.CK, s.d, _, _, rfl, hs.obj, T.clCK, T.nCK_rounds, sF_r, s.pr, _, rfl, .inl (SqL.of hs.l), ?_⟩
    refine ⟨_, rfl, r.p, _, rfl, .inl (SqL.of hr1.l), ?_⟩
    refine ⟨_, rfl, s, rfl, hs, wA.wt, fun H1 s1 => ⟨_, rfl, ite_d (fun hd => ?_) (fun hd => ?_)⟩⟩
    all_goals
      refine ⟨(by show 3 ≤ sizeLine; decide), fun p hp => ?_⟩
      generalize e2 : upd H1 p _ = H2
      have s2 : Same H1 H2 := e2 ▸ same_new hp
      have f2 : H2 p = some (.lst ((nowH s.abs).map V.int)) := by
        rw [← e2, upd_same]
        unfold nowH
        rw [hd, erl, enl, List.length_map, List.length_map]
        rfl
      have s02 := s1.trans s2
      have p0 : H p = none := s1.free hp
      refine ⟨_, rfl, r.p, rfl, ⟨_, SqL.of (s02 _ _ hr1.l)⟩, ?_⟩
      refine for_list (K := K) (a := r.p) (xs := r.bs.map fun x => V.ref x.a) (fun i σ H' => ∃ v v' : Option V, σ = [some (.ref s.a), some (.ref r.p), some (.ref p), v, v'] ∧ Same H H' ∧ H' p = some (.lst ((nowH s.abs ++ (r.bs.take i).flatMap fun x => nowB x.b).map V.int)))
        ⟨none, none, rfl, s02, by rw [f2]; simp⟩ (fun i σ H' _ ⟨_, _, _, q, _⟩ => SqL.of (q _ _ hr1.l)) ?_ ?_
      · rintro i y σ H3 hy ⟨v, v', rfl, s3, f3⟩
        obtain ⟨x, hx, rfl⟩ := map_at hy
        have hil := (List.getElem?_eq_some_iff.mp hx).1
        have hxe := (List.getElem?_eq_some_iff.mp hx).2
        have hxm := List.mem_of_getElem? hx
        have hb3 := (hr1.at_ x hxm).same s3
        have wfx := rd_bl wA.wt.g r hrm x hxm
        refine ⟨_, rfl, .inl ⟨rfl, _, SqL.of f3⟩, _, rfl, x.a, A.CB, x.d, _, _, rfl, hb3.obj, T.clCB, T.nCB_wrestlers, bF_wr, x.t, _, rfl, .inr (SqT.of hb3.wr), fun p4 hp4 => ?_⟩
        generalize e4 : upd H3 p4 _ = H4
        have s4 : Same H3 H4 := e4 ▸ same_new hp4
        have f4 : H4 p4 = some (.lst [.int (Kg66.opt x.b.a), .int (Kg66.opt x.b.b)]) := e4 ▸ upd_same
        refine ⟨_, rfl, x, rfl, hb3.same s4, wfx.wf, (by show 1 ≤ sizeLine; decide), fun p5 hp5 => ?_⟩
        generalize e5 : upd H4 p5 _ = H5
        have s5 : Same H4 H5 := e5 ▸ same_new hp5
        have f5 : H5 p5 = some (.lst [.int (Kg66.opt x.b.winner)]) := e5 ▸ upd_same
        refine ⟨p4, p5, _, _, rfl, rfl, s5 _ _ f4, f5, (by show 2 + 1 ≤ sizeLine; decide), fun p6 hp6 => ?_⟩
        generalize e6 : upd H5 p6 _ = H6
        have s6 : Same H5 H6 := e6 ▸ same_new hp6
        have f6 : H6 p6 = some (.lst ((nowB x.b).map V.int)) := e6 ▸ upd_same
        have s36 := s4.trans (s5.trans s6)
        refine ⟨p, p6, _, _, rfl, rfl, s36 _ _ f3, f6, ?_, ?_⟩
        · rw [List.length_map, List.length_map, List.length_append]
          have := t1 i
          show 3 + _ + 3 ≤ sizeLine
          omega
        · refine ⟨_, _, rfl, same_set (s3.trans s36) p0, ?_⟩
          rw [upd_same, List.take_succ_eq_append_getElem hil, hxe, List.flatMap_append, ← List.map_append, List.append_assoc]
          simp
      · rintro σ H3 ⟨v, v', rfl, s3, f3⟩
        rw [List.length_map, List.take_length] at f3
        have t1' : (r.bs.flatMap fun x => nowB x.b).length ≤ 48 := by
          have z := t1 r.bs.length
          rwa [List.take_length] at z
        refine ⟨_, rfl, s.a, A.CK, s.d, _, _, rfl, s3 _ _ hs.obj, T.clCK, T.nCK_rows, sF_w, s.pw, rfl, ⟨_, SqL.of (s3 _ _ hs.w)⟩, ?_⟩
        refine for_list (K := K) (a := s.pw) (xs := s.rows.map fun r => V.ref r.a) (fun i σ H' => ∃ v v' : Option V, σ = [some (.ref s.a), some (.ref r.p), some (.ref p), v, v'] ∧ Same H H' ∧ H' p = some (.lst ((nowH s.abs ++ ((r.bs.flatMap fun x => nowB x.b) ++ (s.rows.take i).flatMap fun x => nowR x.abs)).map V.int)))
          ⟨v, v', rfl, s3, by rw [f3]; simp⟩ (fun i σ H' _ ⟨_, _, _, q, _⟩ => SqL.of (q _ _ hs.w)) ?_ ?_
        · rintro i y σ H4 hy ⟨v, v', rfl, s4, f4⟩
          obtain ⟨x, hx, rfl⟩ := map_at hy
          have hil := (List.getElem?_eq_some_iff.mp hx).1
          have hxe := (List.getElem?_eq_some_iff.mp hx).2
          have hxm := List.mem_of_getElem? hx
          have hb4 := (hs.rw_ x hxm).same s4
          refine ⟨_, rfl, .inl ⟨rfl, _, SqL.of f4⟩, _, rfl, x.a, A.CR, x.d, _, _, rfl, hb4.obj, T.clCR, T.nCR_bouts, rF_b, x.pb, _, rfl, .inl (SqL.of hb4.l), _, rfl, x.a, A.CR, x.d, _, _, rfl, hb4.obj, T.clCR, T.nCR_waiting, rF_w, x.pw, _, rfl, .inl (SqL.of hb4.w), (by show 2 ≤ sizeLine; decide), fun p5 hp5 => ?_⟩
          generalize e5 : upd H4 p5 _ = H5
          have s5 : Same H4 H5 := e5 ▸ same_new hp5
          have f5 : H5 p5 = some (.lst ((nowR x.abs).map V.int)) := by
            rw [← e5, upd_same, List.length_map, List.length_map]
            have z : x.abs.bouts.length = x.bs.length := by
              show (x.bs.map BL.b).length = _
              rw [List.length_map]
            unfold nowR
            rw [z]
            rfl
          refine ⟨p, p5, _, _, rfl, rfl, s5 _ _ f4, f5, ?_, ?_⟩
          · rw [List.length_map, List.length_map, List.length_append, List.length_append]
            have := t2 i
            show 3 + (_ + _) + 2 ≤ sizeLine
            omega
          · refine ⟨_, _, rfl, same_set (s4.trans s5) p0, ?_⟩
            rw [upd_same, List.take_succ_eq_append_getElem hil, hxe, List.flatMap_append, ← List.map_append, List.append_assoc, List.append_assoc]
            simp
        · rintro σ H4 ⟨v, v', rfl, s4, f4⟩
          rw [List.length_map, List.take_length] at f4
          refine ⟨_, rfl, ans_same kA rfl pre s4 p0 es ?_⟩
          rw [f4]
          have e1 : s.abs.now.flatMap nowB = r.bs.flatMap fun x => nowB x.b := by
            rw [eN]
            show (r.bs.map BL.b).flatMap nowB = _
            rw [List.flatMap_map]
          have e2 : s.abs.rows.flatMap nowR = s.rows.flatMap fun x => nowR x.abs := by
            show (s.rows.map WL.abs).flatMap nowR = _
            rw [List.flatMap_map]
          rw [e1, e2]
          rfl
def sp_do_places (K : PySem.W.Frag) (A : Ads) : Sp := fun vs H Q E => ∃ (o : Option SL), vs = [vB o] ∧ Pre A o H ∧ TabS H A.P qLam ∧ Ans A o H .places Q E
theorem ok_do_places (T : Txt K mg A) (D_is_over : Own P w K mg base CX0 2 "is_over" Pis_over (sp_is_over K A)) (D_need : Own P w K mg base (L2.CX P w) 3 "need" Pneed (sp_need K A)) (D_places_of : Own P w K mg base CX0 9 "places_of" Pplaces_of (sp_places_of K A)) {f : Addr} {fd : FuncData} (F : Fun K "do_places" "do_places" sdo_places f fd) : FnOk P w K mg base (L2.CX P w) 10 f fd Pdo_places (sp_do_places K A) := by
  refine F.okX scdo_places (fun vs H Q E h => ?_) (fun cdv Ar outer s H vs Q E hr h => ⟨_, (pss_cons (ps_expr (pe_ownX D_need (hr.mono (by decide)) (takes_of rfl rfl rfl rfl) (fun _ _ _ _ h => h) (by exact (pa_cons (pe_cmpR op_notN (pv 0) pe_non (nomark _)) (pa_cons (pe_un un_neg pe_int) pa_nil)))))
      (pss_cons (ps_expr (pe_ownX D_need (hr.mono (by decide)) (takes_of rfl rfl rfl rfl) (fun _ _ _ _ h => h) (by exact (pa_cons (pe_own D_is_over (hr.mono (by decide)) (by exact (pa_cons (pv 0) pa_nil))) (pa_cons (pe_un un_neg pe_int) pa_nil)))))
      (pss_cons (ps_set (i := 1) scdo_places.nd rfl (Or.inl rfl) (pe_lst (by exact (pa_cons (pe_fld (pv 0) rfl) pa_nil))))
      (pss_cons (ps_for (passes_of rfl) rfl (pi_list (pe_own D_places_of (hr.mono (by decide)) (by exact (pa_cons (pv 0) pa_nil)))) (pg_name (i := 2) scdo_places.nd rfl (Or.inl rfl)) (pss_one (ps_expr (pe_bm PySem.F.plainAttrs_list PySem.F.slot_list_extend PySem.F.type_list_extend mt_extendT (pv 1) (by exact (pa_cons (pv 2) pa_nil))))))
      (pss_one (ps_ret (pv 1))))))), ?_⟩)
  · obtain ⟨_, rfl, _⟩ := h
    rfl
  obtain ⟨o, rfl, pre, hT, kA⟩ := h
  have kR := kA.1
  cases o with
  | none => exact ⟨_, rfl, rfl, 2, rfl, _, -2, rfl, (fun hb => nomatch hb), fun _ => kR (-2) rfl⟩
  | some s =>
    obtain ⟨hs, nd, wA⟩ := pre s rfl
    have big : (1000 : Nat) < sizeLine := by decide
    have es : Kg66.spec s.abs .places = (s.abs, if s.abs.done = false then Kg66.num (-4) else ⟨s.abs.places.length, s.abs.places.flatMap fun x => [(x.1 : Int), (x.2 : Int)]⟩) := by
      show (s.abs, if s.abs.count = 0 then _ else _) = _
      rw [if_neg (count_pos wA)]
    refine ⟨_, rfl, rfl, 2, rfl, _, -2, rfl, (fun _ => ?_), fun hb => nomatch hb⟩
    refine ⟨_, rfl, s, rfl, hs, wA.wt, fun H1 s1 => ⟨4, rfl, _, -4, rfl, (fun hd => ?_), fun hd => ?_⟩⟩
    · rw [if_neg (by rw [hd]; decide)] at es
      have elen := places_len wA.wt wA.p hd
      refine ⟨_, rfl, s.a, A.CK, s.d, _, _, rfl, s1 _ _ hs.obj, T.clCK, T.nCK_many, sF_n, (by show 1 ≤ sizeLine; decide), fun p hp => ?_⟩
      generalize e2 : upd H1 p _ = H2
      have s2 : Same H1 H2 := e2 ▸ same_new hp
      have f2 : H2 p = some (.lst [.int (s.n : Nat)]) := e2 ▸ upd_same
      have s02 := s1.trans s2
      have p0 : H p = none := s1.free hp
      refine ⟨_, rfl, s, rfl, hs.same s02, wA.wt, hd, hT.ext s02, fun H3 q ts ex3 tab3 nq fq TT => ?_⟩
      have npq : p ≠ q := ne_of_none f2 nq
      have lts : ts.length ≤ 32 := by
        rw [TT.len, elen]
        exact wA.wt.g.cn
      have lp : ∀ i, ((s.abs.places.take i).flatMap fun x => [(x.1 : Int), (x.2 : Int)]).length ≤ 64 := fun i => by
        refine Nat.le_trans (flatMap_le _ 2 _ fun x _ => Nat.le_refl _) ?_
        rw [List.length_take]
        have z := TT.len
        omega
      refine ⟨q, rfl, ⟨_, SqL.of fq⟩, ?_⟩
      refine for_list (K := K) (a := q) (xs := ts.map V.ref) (fun i σ H' => ∃ v : Option V, σ = [some (.ref s.a), some (.ref p), v] ∧ ExtN H H' ∧ TabS H' A.P qLam ∧ H' q = some (.lst (ts.map V.ref)) ∧ TupsAt H' ts s.abs.places ∧ H' p = some (.lst (((s.n : Int) :: (s.abs.places.take i).flatMap fun x => [(x.1 : Int), (x.2 : Int)]).map V.int)))
        ⟨none, rfl, (ExtN.of s02).trans ex3, tab3, fq, TT, ex3 _ _ f2 (plain_tbl trivial)⟩ (fun i σ H' _ ⟨_, _, _, _, z, _⟩ => SqL.of z) ?_ ?_
      · rintro i y σ H4 hy ⟨v, rfl, ex4, tab4, fq4, TT4, fp4⟩
        obtain ⟨t, ht, rfl⟩ := map_at hy
        have hil0 := (List.getElem?_eq_some_iff.mp ht).1
        have hil : i < s.abs.places.length := by
          have z := TT.len
          omega
        obtain ⟨t', et', ft⟩ := TT4.get hy (List.getElem?_eq_getElem hil)
        cases et'
        have ntp : t ≠ p := ne_of ft fp4 (fun z => by cases z)
        obtain ⟨tb, hP, ht1, ht2⟩ := tab4
        have nPA : A.P ≠ p := ne_of hP fp4 (fun z => by cases z)
        refine ⟨_, rfl, .inl ⟨rfl, _, SqL.of fp4⟩, _, rfl, p, t, _, _, rfl, rfl, fp4, ft, ?_, ?_⟩
        · rw [List.length_map, List.length_cons]
          have := lp i
          show _ + 1 + 2 ≤ sizeLine
          omega
        · refine ⟨_, rfl, fun b o hb hno => ?_, ⟨tb, (upd_ne nPA).trans hP, ht1, fun pos cv hc => ?_⟩, (upd_ne npq.symm).trans fq4, TT4.set fp4, ?_⟩
          · rw [upd_ne (ne_of_none hb p0)]
            exact ex4 b o hb hno
          · obtain ⟨c0, e1, e2⟩ := ht2 pos cv hc
            refine ⟨c0, e1, (upd_ne (ne_of e2 fp4 fun z => by cases z)).trans e2⟩
          · rw [upd_same, List.take_succ_eq_append_getElem hil, List.flatMap_append]
            simp
      · rintro σ H4 ⟨v, rfl, ex4, tab4, fq4, TT4, fp4⟩
        have z := TT.len
        rw [List.length_map, z, List.take_length] at fp4
        refine ⟨_, rfl, kA.2 H4 s s p rfl (hs.ext ex4) rfl (by show _ = (Kg66.spec s.abs .places).1; rw [es]) wA ⟨fun q o h _ hno => ex4 q o h hno, fun q hq => .inl hq, nd, fun _ => tab4⟩ (.inl p0) ?_⟩
        show H4 p = some (.lst (((Kg66.spec s.abs .places).2.value :: (Kg66.spec s.abs .places).2.out).map V.int))
        rw [es, fp4, elen]
        rfl
    · refine (kR (-4) ?_).same s1
      show Kg66.spec s.abs .places = _
      rw [es, if_pos hd]
      rfl
end
end Wm
/-! # A call of any kind -/
namespace Wm
open PySem PySem.Spec PyProof.Rows L2
open LamX (TabS TabB ExtN)
def footO (o : Option SL) : List Addr := match o with
  | some s => s.foot
  | none => []
/-- the mat and the class, if there is one -/
structure MatIs (A : Ads) (m dm : Addr) (o : Option SL) (H : Hp) : Prop where
  obj : H m = some (.ins A.CM dm [("bracket", vB o)])
  out : m ∉ footO o
  pre : Pre A o H
  tab : TabS H A.P qLam
/-- all stands but the mat's objects and the table -/
def KeepM (m : Addr) (o : Option SL) (H H' : Hp) : Prop := ∀ q ob, H q = some ob → q ∉ m :: footO o → (∀ ps, ob ≠ .tbl ps) → H' q = some ob
def AnsM (A : Ads) (m dm : Addr) (o : Option SL) (H : Hp) (c : Kg66.Call) (Q : VK) (E : XK) : Prop :=
  (∀ n : Int, Kg66.spec (absO o) c = (absO o, Kg66.num n) → Refuse A H n E) ∧
  ∀ (H' : Hp) (o' : Option SL) (p : Addr), MatIs A m dm o' H' → absO o' = (Kg66.spec (absO o) c).1 → KeepM m o H H' → (∀ q ∈ footO o', q ∈ footO o ∨ H q = none) → (H p = none ∨ p ∈ footO o) →
    H' p = some (.lst (((Kg66.spec (absO o) c).2.value :: (Kg66.spec (absO o) c).2.out).map V.int)) → Q (.ref p) H'
theorem call1 {gs : List Int} {k : Kg66.Call} (h : Kg66Neutral.callOf [1 :: gs] = some k) : ∃ n, gs = [n] ∧ k = .begin_ n := by
  unfold Kg66Neutral.callOf at h
  split at h <;> simp_all
theorem call2 {gs : List Int} {k : Kg66.Call} (h : Kg66Neutral.callOf [2 :: gs] = some k) : ∃ w x i p, gs = [w, x, i, p] ∧ k = .act w x i p := by
  unfold Kg66Neutral.callOf at h
  split at h <;> simp_all
  exact ⟨_, _, _, _, ⟨rfl, rfl, rfl, rfl⟩, h.symm⟩
theorem call3 {gs : List Int} {k : Kg66.Call} (h : Kg66Neutral.callOf [3 :: gs] = some k) : ∃ w x i, gs = [w, x, i] ∧ k = .fall w x i := by
  unfold Kg66Neutral.callOf at h
  split at h <;> simp_all
  exact ⟨_, _, _, ⟨rfl, rfl, rfl⟩, h.symm⟩
theorem call4 {gs : List Int} {k : Kg66.Call} (h : Kg66Neutral.callOf [4 :: gs] = some k) : ∃ w x i, gs = [w, x, i] ∧ k = .give w x i := by
  unfold Kg66Neutral.callOf at h
  split at h <;> simp_all
  exact ⟨_, _, _, ⟨rfl, rfl, rfl⟩, h.symm⟩
theorem call5 {gs : List Int} {k : Kg66.Call} (h : Kg66Neutral.callOf [5 :: gs] = some k) : ∃ w x, gs = [w, x] ∧ k = .time w x := by
  unfold Kg66Neutral.callOf at h
  split at h <;> simp_all
  exact ⟨_, _, ⟨rfl, rfl⟩, h.symm⟩
theorem call6 {gs : List Int} {k : Kg66.Call} (h : Kg66Neutral.callOf [6 :: gs] = some k) : ∃ w x, gs = [w, x] ∧ k = .bout w x := by
  unfold Kg66Neutral.callOf at h
  split at h <;> simp_all
  exact ⟨_, _, ⟨rfl, rfl⟩, h.symm⟩
theorem call7 {gs : List Int} {k : Kg66.Call} (h : Kg66Neutral.callOf [7 :: gs] = some k) : gs = [] ∧ k = .now := by
  unfold Kg66Neutral.callOf at h
  split at h <;> simp_all
theorem call8 {gs : List Int} {k : Kg66.Call} (h : Kg66Neutral.callOf [8 :: gs] = some k) : ∃ f, gs = [f] ∧ k = .sums f := by
  unfold Kg66Neutral.callOf at h
  split at h <;> simp_all
theorem call9 {c : Int} {gs : List Int} {k : Kg66.Call} (h : Kg66Neutral.callOf [c :: gs] = some k) (n1 : c ≠ 1) (n2 : c ≠ 2) (n3 : c ≠ 3) (n4 : c ≠ 4) (n5 : c ≠ 5) (n6 : c ≠ 6) (n7 : c ≠ 7) (n8 : c ≠ 8) : gs = [] ∧ k = .places := by
  unfold Kg66Neutral.callOf at h
  split at h <;> simp_all
section
variable {P : Program} {w : World} {K : PySem.W.Frag} {mg : Str → Option Value} {base : Heap} {A : Ads}
/-- from the mat's promise to the class's -/
theorem AnsM.ans {m dm : Addr} {o : Option SL} {H : Hp} {c : Kg66.Call} {Q : VK} {E : XK} (h : AnsM A m dm o H c Q E) (M : MatIs A m dm o H) : Ans A o H c Q E := by
  refine ⟨h.1, fun H' s s' p eo hs' ea eb wA ps np fp => ?_⟩
  subst eo
  have nm : m ∉ s.foot := M.out
  refine h.2 H' (some s') p ⟨?_, fun z => ?_, fun u eu => ?_, ps.tab M.tab⟩ eb (fun q ob hq nq hno => ps.keep q ob hq (fun z => nq (List.mem_cons_of_mem _ z)) hno) ps.new np fp
  · have z := ps.keep _ _ M.obj nm (fun ps q => by cases q)
    rw [z]
    show some (HO.ins A.CM dm [("bracket", V.ref s.a)]) = some (HO.ins A.CM dm [("bracket", V.ref s'.a)])
    rw [ea]
  · rcases ps.new m z with y | y
    · exact nm y
    · rw [M.obj] at y
      cases y
  · cases eu
    exact ⟨hs', ps.nd, wA⟩
def sp_answer_call (K : PySem.W.Frag) (A : Ads) : Sp := fun vs H Q E => ∃ (m dm : Addr) (o : Option SL) (c : Int) (g : Addr) (gs : List Int) (k : Kg66.Call), vs = [.ref m, .int c, .ref g] ∧ MatIs A m dm o H ∧ H g = some (.lst (gs.map V.int)) ∧ Kg66Neutral.callOf [c :: gs] = some k ∧ AnsM A m dm o H k Q E
theorem ok_answer_call (T : Txt K mg A) (D_do_act : Own P w K mg base (L2.CX P w) 7 "do_act" Pdo_act (sp_do_act K A)) (D_do_begin : Own P w K mg base (L2.CX P w) 7 "do_begin" Pdo_begin (sp_do_begin K A)) (D_do_bout : Own P w K mg base (L2.CX P w) 6 "do_bout" Pdo_bout (sp_do_bout K A)) (D_do_fall : Own P w K mg base (L2.CX P w) 7 "do_fall" Pdo_fall (sp_do_fall K A)) (D_do_give : Own P w K mg base (L2.CX P w) 7 "do_give" Pdo_give (sp_do_give K A)) (D_do_now : Own P w K mg base (L2.CX P w) 4 "do_now" Pdo_now (sp_do_now K A)) (D_do_places : Own P w K mg base (L2.CX P w) 10 "do_places" Pdo_places (sp_do_places K A)) (D_do_sums : Own P w K mg base (L2.CX P w) 5 "do_sums" Pdo_sums (sp_do_sums K A)) (D_do_time : Own P w K mg base (L2.CX P w) 7 "do_time" Pdo_time (sp_do_time K A)) {f : Addr} {fd : FuncData} (F : Fun K "answer_call" "answer_call" sanswer_call f fd) : FnOk P w K mg base (L2.CX P w) 11 f fd Panswer_call (sp_answer_call K A) := by
  refine F.okX scanswer_call (fun vs H Q E h => ?_) (fun cdv Ar outer s H vs Q E hr h => ⟨_, (pss_cons (ps_if (pt_cmpR op_eq (pv 1) pe_int (nomark _)) (pss_one (ps_ret (pe_ownX D_do_begin (hr.mono (by decide)) (takes_of rfl rfl rfl rfl) (fun _ _ _ _ h => h) (by exact (pa_cons (pv 0) (pa_cons (pe_ix ix_list (pv 2) pe_int (fun _ _ => rfl)) pa_nil)))))) pss_nil)
      (pss_cons (ps_set (i := 3) scanswer_call.nd rfl (Or.inl rfl) (pe_fld (pv 0) rfl))
      (pss_cons (ps_if (pt_cmpR op_eq (pv 1) pe_int (nomark _)) (pss_one (ps_ret (pe_ownX D_do_act (hr.mono (by decide)) (takes_of rfl rfl rfl rfl) (fun _ _ _ _ h => h) (by exact (pa_cons (pv 3) (pa_cons (pv 2) pa_nil)))))) pss_nil)
      (pss_cons (ps_if (pt_cmpR op_eq (pv 1) pe_int (nomark _)) (pss_one (ps_ret (pe_ownX D_do_fall (hr.mono (by decide)) (takes_of rfl rfl rfl rfl) (fun _ _ _ _ h => h) (by exact (pa_cons (pv 3) (pa_cons (pv 2) pa_nil)))))) pss_nil)
      (pss_cons (ps_if (pt_cmpR op_eq (pv 1) pe_int (nomark _)) (pss_one (ps_ret (pe_ownX D_do_give (hr.mono (by decide)) (takes_of rfl rfl rfl rfl) (fun _ _ _ _ h => h) (by exact (pa_cons (pv 3) (pa_cons (pv 2) pa_nil)))))) pss_nil)
      (pss_cons (ps_if (pt_cmpR op_eq (pv 1) pe_int (nomark _)) (pss_one (ps_ret (pe_ownX D_do_time (hr.mono (by decide)) (takes_of rfl rfl rfl rfl) (fun _ _ _ _ h => h) (by exact (pa_cons (pv 3) (pa_cons (pe_ix ix_list (pv 2) pe_int (fun _ _ => rfl)) (pa_cons (pe_ix ix_list (pv 2) pe_int (fun _ _ => rfl)) pa_nil))))))) pss_nil)
      (pss_cons (ps_if (pt_cmpR op_eq (pv 1) pe_int (nomark _)) (pss_one (ps_ret (pe_ownX D_do_bout (hr.mono (by decide)) (takes_of rfl rfl rfl rfl) (fun _ _ _ _ h => h) (by exact (pa_cons (pv 3) (pa_cons (pe_ix ix_list (pv 2) pe_int (fun _ _ => rfl)) (pa_cons (pe_ix ix_list (pv 2) pe_int (fun _ _ => rfl)) pa_nil))))))) pss_nil)
      (pss_cons (ps_if (pt_cmpR op_eq (pv 1) pe_int (nomark _)) (pss_one (ps_ret (pe_ownX D_do_now (hr.mono (by decide)) (takes_of rfl rfl rfl rfl) (fun _ _ _ _ h => h) (by exact (pa_cons (pv 3) pa_nil))))) pss_nil)
      (pss_one (ps_ret (pe_ifExp (pt_cmpR op_eq (pv 1) pe_int (nomark _)) (pe_ownX D_do_sums (hr.mono (by decide)) (takes_of rfl rfl rfl rfl) (fun _ _ _ _ h => h) (by exact (pa_cons (pv 3) (pa_cons (pe_ix ix_list (pv 2) pe_int (fun _ _ => rfl)) pa_nil)))) (pe_ownX D_do_places (hr.mono (by decide)) (takes_of rfl rfl rfl rfl) (fun _ _ _ _ h => h) (by exact (pa_cons (pv 3) pa_nil)))))))))))))), ?_⟩)
  · obtain ⟨_, _, _, _, _, _, _, rfl, _⟩ := h
    rfl
  obtain ⟨m, dm, o, c, g, gs, k, rfl, M, hg, hc, hA⟩ := h
  refine ⟨_, rfl, rfl, _, rfl, if_d (fun h1 => ?_) (fun h1 => ?_)⟩
  · obtain rfl := V.int.inj h1
    obtain ⟨n, rfl, rfl⟩ := call1 hc
    refine ⟨_, rfl, _, rfl, g, _, 0, _, rfl, rfl, SqL.of hg, atI_nat (j := 0) rfl, ?_⟩
    refine ⟨m, dm, vB o, n, rfl, M.obj, fun z => hA.1 (-1) ?_, fun H' s p h2 h32 hs es hm kp fr nd np fp => ?_⟩
    · show (if _ then _ else _) = _
      rw [if_pos]
      rw [Bool.eq_false_iff]
      intro q
      unfold Kg66.within at q
      rw [Bool.and_eq_true] at q
      exact z ⟨of_decide_eq_true q.1, of_decide_eq_true q.2⟩
    · have sp : Kg66.spec (absO o) (.begin_ n) = (begunS n.toNat, Kg66.num (begunS n.toNat).now.length) := by
        show (if _ then _ else _) = _
        rw [if_neg]
        · rfl
        · rw [Bool.not_eq_false]
          unfold Kg66.within
          rw [Bool.and_eq_true]
          exact ⟨decide_eq_true h2, decide_eq_true h32⟩
      refine hA.2 H' (some s) p ⟨hm, fun z => ?_, fun u eu => ?_, ?_⟩ ?_ (fun q ob hq nq hno => kp q ob hq fun z => nq (List.mem_singleton.mp z ▸ List.mem_cons_self)) (fun q hq => .inr (fr q hq)) (.inl np) ?_
      · have z2 := fr m z
        rw [M.obj] at z2
        cases z2
      · cases eu
        exact ⟨hs, nd, by rw [es]; exact newS_wfA (by omega) (by omega)⟩
      · obtain ⟨ps, h1, h2, h3⟩ := M.tab
        refine ⟨ps, kp _ _ h1 fun z => ?_, h2, fun pos cv hcv => ?_⟩
        · rw [List.mem_singleton.mp z, M.obj] at h1
          cases h1
        · obtain ⟨c0, e1, e2⟩ := h3 pos cv hcv
          refine ⟨c0, e1, kp _ _ e2 fun z => ?_⟩
          rw [List.mem_singleton.mp z, M.obj] at e2
          cases e2
      · rw [sp]
        show s.abs = _
        rw [es, newS_eq (by omega) (by omega)]
      · rw [sp]
        exact fp
  · refine ⟨_, rfl, m, A.CM, dm, _, _, rfl, M.obj, T.clCM, T.nCM_bracket, lk0, ?_⟩
    have n1 : c ≠ 1 := fun z => h1 (by rw [z])
    refine ⟨_, rfl, rfl, _, rfl, if_d (fun h2 => ?_) (fun h2 => ?_)⟩
    · obtain rfl := V.int.inj h2
      obtain ⟨w', x, i, p, rfl, rfl⟩ := call2 hc
      exact ⟨_, rfl, _, rfl, o, g, w', x, i, p, rfl, hg, M.pre, hA.ans M⟩
    have n2 : c ≠ 2 := fun z => h2 (by rw [z])
    refine ⟨_, rfl, rfl, _, rfl, if_d (fun h3 => ?_) (fun h3 => ?_)⟩
    · obtain rfl := V.int.inj h3
      obtain ⟨w', x, i, rfl, rfl⟩ := call3 hc
      exact ⟨_, rfl, _, rfl, o, g, w', x, i, rfl, hg, M.pre, hA.ans M⟩
    have n3 : c ≠ 3 := fun z => h3 (by rw [z])
    refine ⟨_, rfl, rfl, _, rfl, if_d (fun h4 => ?_) (fun h4 => ?_)⟩
    · obtain rfl := V.int.inj h4
      obtain ⟨w', x, i, rfl, rfl⟩ := call4 hc
      exact ⟨_, rfl, _, rfl, o, g, w', x, i, rfl, hg, M.pre, hA.ans M⟩
    have n4 : c ≠ 4 := fun z => h4 (by rw [z])
    refine ⟨_, rfl, rfl, _, rfl, if_d (fun h5 => ?_) (fun h5 => ?_)⟩
    · obtain rfl := V.int.inj h5
      obtain ⟨w', x, rfl, rfl⟩ := call5 hc
      exact ⟨_, rfl, _, rfl, g, _, 0, _, rfl, rfl, SqL.of hg, atI_nat (j := 0) rfl, _, rfl, g, _, 1, _, rfl, rfl, SqL.of hg, atI_nat (j := 1) rfl, o, w', x, rfl, M.pre, hA.ans M⟩
    have n5 : c ≠ 5 := fun z => h5 (by rw [z])
    refine ⟨_, rfl, rfl, _, rfl, if_d (fun h6 => ?_) (fun h6 => ?_)⟩
    · obtain rfl := V.int.inj h6
      obtain ⟨w', x, rfl, rfl⟩ := call6 hc
      exact ⟨_, rfl, _, rfl, g, _, 0, _, rfl, rfl, SqL.of hg, atI_nat (j := 0) rfl, _, rfl, g, _, 1, _, rfl, rfl, SqL.of hg, atI_nat (j := 1) rfl, o, w', x, rfl, M.pre, hA.ans M⟩
    have n6 : c ≠ 6 := fun z => h6 (by rw [z])
    refine ⟨_, rfl, rfl, _, rfl, if_d (fun h7 => ?_) (fun h7 => ?_)⟩
    · obtain rfl := V.int.inj h7
      obtain ⟨rfl, rfl⟩ := call7 hc
      exact ⟨_, rfl, o, rfl, M.pre, hA.ans M⟩
    have n7 : c ≠ 7 := fun z => h7 (by rw [z])
    refine ⟨_, rfl, rfl, _, rfl, if_d (fun h8 => ?_) (fun h8 => ?_)⟩
    · obtain rfl := V.int.inj h8
      obtain ⟨f, rfl, rfl⟩ := call8 hc
      exact ⟨_, rfl, _, rfl, g, _, 0, _, rfl, rfl, SqL.of hg, atI_nat (j := 0) rfl, o, f, rfl, M.pre, hA.ans M⟩
    have n8 : c ≠ 8 := fun z => h8 (by rw [z])
    obtain ⟨rfl, rfl⟩ := call9 hc n1 n2 n3 n4 n5 n6 n7 n8
    exact ⟨_, rfl, o, rfl, M.pre, M.tab, hA.ans M⟩
end
end Wm
/-! # All calls -/
namespace Wm
open PySem PySem.Spec PyProof.Rows L2
open LamX (TabS TabB ExtN)
/-! ### the calls, told off one list -/
theorem whole_id (c : List (List Int)) : PyKg66.whole c = c := by
  unfold PyKg66.whole
  split <;> rfl
theorem shape_at {p : Int} {cnt z : Nat} (h : PyKg66.shape p = some (cnt, z)) : z = 0 ∧ ∃ j : Nat, p = (j : Nat) ∧ ([0, 1, 4, 3, 3, 2, 2, 0, 1, 0] : List Nat)[j]? = some cnt ∧ ∀ gs : List Int, gs.length = cnt → ∃ k, Kg66Neutral.callOf [p :: gs] = some k := by
  unfold PyKg66.shape at h
  by_cases h1 : p = 1
  · rw [if_pos h1] at h
    cases h
    subst h1
    exact ⟨rfl, 1, rfl, rfl, fun gs hl => match gs, hl with | [_], _ => ⟨_, rfl⟩⟩
  rw [if_neg h1] at h
  by_cases h2 : p = 2
  · rw [if_pos h2] at h
    cases h
    subst h2
    exact ⟨rfl, 2, rfl, rfl, fun gs hl => match gs, hl with | [_, _, _, _], _ => ⟨_, rfl⟩⟩
  rw [if_neg h2] at h
  by_cases h3 : p = 3
  · rw [if_pos h3] at h
    cases h
    subst h3
    exact ⟨rfl, 3, rfl, rfl, fun gs hl => match gs, hl with | [_, _, _], _ => ⟨_, rfl⟩⟩
  rw [if_neg h3] at h
  by_cases h4 : p = 4
  · rw [if_pos h4] at h
    cases h
    subst h4
    exact ⟨rfl, 4, rfl, rfl, fun gs hl => match gs, hl with | [_, _, _], _ => ⟨_, rfl⟩⟩
  rw [if_neg h4] at h
  by_cases h5 : p = 5
  · rw [if_pos h5] at h
    cases h
    subst h5
    exact ⟨rfl, 5, rfl, rfl, fun gs hl => match gs, hl with | [_, _], _ => ⟨_, rfl⟩⟩
  rw [if_neg h5] at h
  by_cases h6 : p = 6
  · rw [if_pos h6] at h
    cases h
    subst h6
    exact ⟨rfl, 6, rfl, rfl, fun gs hl => match gs, hl with | [_, _], _ => ⟨_, rfl⟩⟩
  rw [if_neg h6] at h
  by_cases h7 : p = 7
  · rw [if_pos h7] at h
    cases h
    subst h7
    exact ⟨rfl, 7, rfl, rfl, fun gs hl => match gs, hl with | [], _ => ⟨_, rfl⟩⟩
  rw [if_neg h7] at h
  by_cases h8 : p = 8
  · rw [if_pos h8] at h
    cases h
    subst h8
    exact ⟨rfl, 8, rfl, rfl, fun gs hl => match gs, hl with | [_], _ => ⟨_, rfl⟩⟩
  rw [if_neg h8] at h
  by_cases h9 : p = 9
  · rw [if_pos h9] at h
    cases h
    subst h9
    exact ⟨rfl, 9, rfl, rfl, fun gs hl => match gs, hl with | [], _ => ⟨_, rfl⟩⟩
  rw [if_neg h9] at h
  cases h
theorem call_eq {p : Int} {r : List Int} {cnt : Nat} (es : PyKg66.shape p = some (cnt, 0)) : PyFlat.call PyKg66.shape (p :: r) = if r.length < cnt then none else some ([p :: r.take cnt], r.drop cnt) := by
  show (match PyKg66.shape p with
    | none => none
    | some (n, k) => if r.length < n then none else match PyFlat.rows k (r.drop n) with
      | none => none
      | some (xs, t) => some ((p :: r.take n) :: xs, t)) = _
  rw [es]
  rfl
theorem calls_eq (f : Nat) (p : Int) (r : List Int) : PyFlat.calls PyKg66.shape (f + 1) (p :: r) = match PyFlat.call PyKg66.shape (p :: r) with
  | none => none
  | some (c, t) => match PyFlat.calls PyKg66.shape f t with
    | none => none
    | some cs => some (c :: cs) := rfl
theorem calls_step {f : Nat} {p : Int} {r : List Int} {cs : List (List (List Int))} (h : PyFlat.calls PyKg66.shape f (p :: r) = some cs) : ∃ (f' cnt j : Nat) (cs' : List (List (List Int))) (k : Kg66.Call),
    p = (j : Nat) ∧ ([0, 1, 4, 3, 3, 2, 2, 0, 1, 0] : List Nat)[j]? = some cnt ∧ cnt ≤ r.length ∧ cs = [p :: r.take cnt] :: cs' ∧ PyFlat.calls PyKg66.shape f' (r.drop cnt) = some cs' ∧ Kg66Neutral.callOf [p :: r.take cnt] = some k := by
  cases f with
  | zero => cases h
  | succ f =>
    rw [calls_eq] at h
    cases es : PyKg66.shape p with
    | none =>
      have e : PyFlat.call PyKg66.shape (p :: r) = none := by
        show (match PyKg66.shape p with
          | none => none
          | some (n, k) => if r.length < n then none else match PyFlat.rows k (r.drop n) with
            | none => none
            | some (xs, t) => some ((p :: r.take n) :: xs, t)) = _
        rw [es]
      rw [e] at h
      cases h
    | some x =>
      obtain ⟨cnt, z⟩ := x
      obtain ⟨rfl, j, ej, hc, hk⟩ := shape_at es
      rw [call_eq es] at h
      by_cases hl : r.length < cnt
      · rw [if_pos hl] at h
        cases h
      · rw [if_neg hl] at h
        have h2 : (match PyFlat.calls PyKg66.shape f (r.drop cnt) with
          | none => none
          | some cs => some ([p :: r.take cnt] :: cs)) = some cs := h
        cases e2 : PyFlat.calls PyKg66.shape f (r.drop cnt) with
        | none =>
          rw [e2] at h2
          cases h2
        | some cs' =>
          rw [e2] at h2
          obtain ⟨k, ek⟩ := hk (r.take cnt) (by rw [List.length_take]; omega)
          exact ⟨f, cnt, j, cs', k, ej, hc, by omega, (Option.some.inj h2).symm, e2, ek⟩
theorem told_step (t : Kg66.State) {c : List (List Int)} {cs : List (List (List Int))} {k : Kg66.Call} (h : Kg66Neutral.callOf c = some k) :
    PyFlat.told (PyFlat.played Kg66Neutral.step t (c :: cs)) = (((((Kg66.spec t k).2.value :: (Kg66.spec t k).2.out).length : Nat) : Int) :: ((Kg66.spec t k).2.value :: (Kg66.spec t k).2.out)) ++ PyFlat.told (PyFlat.played Kg66Neutral.step (Kg66.spec t k).1 cs) := by
  have e : Kg66Neutral.step t c = ((Kg66.spec t k).1, (Kg66.spec t k).2.value :: (Kg66.spec t k).2.out) := by
    unfold Kg66Neutral.step
    rw [h]
  show PyFlat.told ((Kg66Neutral.step t c).2 :: PyFlat.played Kg66Neutral.step (Kg66Neutral.step t c).1 cs) = _
  rw [e]
  unfold PyFlat.told
  rw [List.flatMap_cons]
theorem answers_told {l : List Int} {cs : List (List (List Int))} (h : PyFlat.calls PyKg66.shape l.length l = some cs) : PyKg66.answers l = PyFlat.told (PyFlat.played Kg66Neutral.step Kg66.init cs) := by
  unfold PyKg66.answers PyKg66.calls
  rw [h]
  show PyFlat.told (PyFlat.played _ _ (cs.map PyKg66.whole)) = _
  have e : cs.map PyKg66.whole = cs := by
    rw [show PyKg66.whole = id from funext whole_id, List.map_id]
  rw [e]
  rfl
theorem cut_mid (xs : List V) (i c : Nat) (h : i + c ≤ xs.length) : cutV xs (some (i : Int)) (some ((i + c : Nat) : Int)) = (xs.drop i).take c := by
  unfold cutV
  rw [HT.sIx_nat, HT.sIx_nat, Nat.min_eq_left (show i ≤ xs.length by omega), Nat.min_eq_left h]
  congr 1
  omega
/-! ### what is handed in -/
def CallsAt (K : PySem.W.Frag) (H : Hp) (a : Addr) (l : List Int) : Prop := (∃ ob, H a = some (.frz ob (.lst (l.map V.int)))) ∨ SqL K (fun _ => none) a (l.map V.int)
theorem CallsAt.sq {K : PySem.W.Frag} {H : Hp} {a : Addr} {l : List Int} (h : CallsAt K H a l) : SqL K H a (l.map V.int) := by
  rcases h with ⟨ob, h⟩ | h
  · exact .inl (.inr ⟨ob, h⟩)
  · rcases h with (h | ⟨ob, h⟩) | h
    · cases h
    · cases h
    · exact .inr h
theorem CallsAt.keep {K : PySem.W.Frag} {H H' : Hp} {a : Addr} {l : List Int} (h : CallsAt K H a l) (k : ∀ ob u, H a = some (.frz ob u) → H' a = some (.frz ob u)) : CallsAt K H' a l := by
  rcases h with ⟨ob, h⟩ | h
  · exact .inl ⟨ob, k _ _ h⟩
  · exact .inr h
section
variable {P : Program} {w : World} {K : PySem.W.Frag} {mg : Str → Option Value} {base : Heap} {A : Ads}
theorem MatIs.plain {m dm : Addr} {o : Option SL} {H : Hp} (M : MatIs A m dm o H) : ∀ q ∈ m :: footO o, ∃ ob, H q = some ob ∧ Plain ob := fun q hq => by
  rcases List.mem_cons.mp hq with z | z
  · rw [z]
    exact ⟨_, M.obj, trivial⟩
  · cases o with
    | none => exact nomatch z
    | some s => exact (M.pre s rfl).1.plain q z
theorem tab_keep {H H' : Hp} {D : List Addr} {P : Addr} {q : Str} (hp : ∀ q ∈ D, ∃ o, H q = some o ∧ Plain o) (k : Keep D H H') (t : TabS H P q) : TabS H' P q := by
  obtain ⟨ps, h1, h2, h3⟩ := t
  refine ⟨ps, k _ _ h1 fun z => ?_, h2, fun pos cv hc => ?_⟩
  · obtain ⟨o, e, pl⟩ := hp _ z
    rw [h1] at e
    cases e
    exact pl
  · obtain ⟨c, e1, e2⟩ := h3 pos cv hc
    refine ⟨c, e1, k _ _ e2 fun z => ?_⟩
    obtain ⟨o, e, pl⟩ := hp _ z
    rw [e2] at e
    cases e
    exact pl
/-- a list outside changes -/
theorem MatIs.keep {m dm pf : Addr} {o : Option SL} {H H' : Hp} {xs : List V} (M : MatIs A m dm o H) (k : Keep [pf] H H') (hpf : H pf = some (.lst xs)) (n : pf ∉ m :: footO o) : MatIs A m dm o H' := by
  have n1 : m ≠ pf := fun z => n (z ▸ List.mem_cons_self)
  have n2 : pf ∉ footO o := fun z => n (List.mem_cons_of_mem _ z)
  refine ⟨k _ _ M.obj (fun z => n1 (List.mem_singleton.mp z)), M.out, fun s e => ?_, tab_keep (fun q hq => (by have e := List.mem_singleton.mp hq; subst e; exact ⟨_, hpf, trivial⟩)) k M.tab⟩
  subst e
  obtain ⟨h1, h2, h3⟩ := M.pre s rfl
  exact ⟨h1.keep k fun q hq z => n2 (List.mem_singleton.mp z ▸ hq), h2, h3⟩
theorem MatIs.same {m dm : Addr} {o : Option SL} {H H' : Hp} (M : MatIs A m dm o H) (s : Same H H') : MatIs A m dm o H' :=
  ⟨s _ _ M.obj, M.out, fun u e => ⟨(M.pre u e).1.same s, (M.pre u e).2⟩, M.tab.ext s⟩
/-- an own def that may raise, called in a try -/
theorem pe_ownS {X : Cx} {W : WX} {k : Nat} {x : Str} {ps : List Str} {sp : Sp} {e : Expr} {es : List Expr} {t : TA} {p pos : Pos} (D : Own X.prog X.w X.K X.mg X.base (L2.CX X.prog X.w) k x ps sp) (hr : Room k X.A) (tk : Takes X W) (ha : PA X (e :: es) t) (hg : Gl X x := by rfl)
    (hd : (x == ("__debug__" : Str)) = false := by decide) (he : starEach (e :: es) X.env = (false, eval e X.env) :: starEach es X.env := by rfl) (hpl : (backTo pos (starEach es X.env)).any (·.1) = false := by rfl) :
    PE X (.Call (.Name x p) (e :: es) [] pos) (tCallS sp (WE W) t) := by
  obtain ⟨f, fd, F, hm, hk, hb⟩ := D
  exact pe_callS F hr hg hm hk hb (fun σ => passAt tk σ) ha (hdb := hd) (he := he) (hpl := hpl)
theorem nx_cut {t u : TS} {D : Ends} {a : VK} {b c : L2.St → Hp → Prop} {σ : L2.St} {H : Hp} (C : L2.St → Hp → Prop) (h : ∀ Z : L2.St → Hp → Prop, (∀ σ H, C σ H → Z σ H) → t { D with nx := Z } σ H) (done : ∀ σ H, C σ H → u D σ H) : ({ nx := tSeq t u D, rt := a, bk := b, ct := c } : Ends).nx σ H := h (u D) done
def sp_answers (K : PySem.W.Frag) (A : Ads) : Sp := fun vs H Q _ => ∃ (a : Addr) (l : List Int) (cs : List (List (List Int))), vs = [.ref a] ∧ CallsAt K H a l ∧ TabS H A.P qLam ∧ PyFlat.calls PyKg66.shape l.length l = some cs ∧ (PyKg66.answers l).length ≤ 10000000 ∧
  ∀ (H' : Hp) (p : Addr), H' p = some (.lst ((PyKg66.answers l).map V.int)) → Q (.ref p) H'
theorem ok_answers (T : Txt K mg A) (D_Mat : OwnC P w K mg base A.CM 1 "Mat" PMat_init (sp_Mat_init K A)) (D_answer_call : Own P w K mg base (L2.CX P w) 11 "answer_call" Panswer_call (sp_answer_call K A)) (TE : TxtE K mg A) {f : Addr} {fd : FuncData} (F : Fun K "answers" "answers" sanswers f fd) : FnOk P w K mg base CX0 12 f fd Panswers (sp_answers K A) := by
  refine F.ok scanswers (fun vs H Q E h => ?_) (fun cdv Ar outer s H vs Q E hr h => ⟨_, (pss_cons (ps_set (i := 1) scanswers.nd rfl (Or.inl rfl) (pe_new0 D_Mat (hr.mono (by decide))))
      (pss_cons (ps_set (i := 2) scanswers.nd rfl (Or.inl rfl) (pe_lst pa_nil))
      (pss_cons (ps_set (i := 3) scanswers.nd rfl (Or.inl rfl) pe_int)
      (pss_cons (ps_while PassesOwn.never (pt_cmpR op_lt (pv 3) (pe_callB call_len_seq rfl T.len (by decide +kernel) (by exact (pa_cons (pv 0) pa_nil))) (nomark _)) (pss_cons (ps_set (i := 4) scanswers.nd rfl (Or.inl rfl) (pe_ix ix_list (pv 0) (pv 3) (fun _ _ => rfl)))
      (pss_cons (ps_set (i := 5) scanswers.nd rfl (Or.inl rfl) (pe_slice sl_list (pv 0) (po_some (pe_op op_add (pv 3) pe_int)) (po_some (pe_op op_add (pe_op op_add (pv 3) pe_int) (pe_ix ix_tup (pe_gl T.gCOUNTS) (pv 4) (fun _ _ => rfl))))))
      (pss_cons (ps_aug (i := 3) scanswers.nd rfl (Or.inl rfl) (pe_op op_add pe_int (pe_ix ix_tup (pe_gl T.gCOUNTS) (pv 4) (fun _ _ => rfl))) ip_add)
      (pss_cons (ps_try_as (i := 7) (tb := fun W => tAsg (tCallS (sp_answer_call K A) (WE W) (tCons (tVar 1) (tCons (tVar 4) (tCons (tVar 5) tNil)))) (gName 6)) (ts := fun a cls d => tAsg (tLst (tCons (tXf a cls d A.CD "number" (tVar 7)) tNil)) (gName 6)) (Wout := fun _ _ _ _ => False) rfl rfl scanswers.nd rfl rfl ⟨rfl, by decide, Or.inl TE.mD⟩ takes0
        (fun W pn xe tk _ => pss_one (ps_set (i := 6) scanswers.nd rfl (Or.inl rfl) (by exact (pe_ownS D_answer_call (hr.mono (by decide)) tk (by exact (pa_cons (pv 1) (pa_cons (pv 4) (pa_cons (pv 5) pa_nil))))))))
        (fun a oe cls d pn hz hf => pss_one (ps_set (i := 6) scanswers.nd rfl (Or.inl rfl) (pe_lst (by exact (pa_cons (pe_xf TE.xf TE.nn hz hf (pv 7)) pa_nil))))))
      (pss_cons (ps_expr (pe_bm PySem.F.plainAttrs_list PySem.F.slot_list_append PySem.F.type_list_append mt_append (pv 2) (by exact (pa_cons (pe_callB call_len_seq rfl T.len (by decide +kernel) (by exact (pa_cons (pv 6) pa_nil))) pa_nil))))
      (pss_one (ps_expr (pe_bm PySem.F.plainAttrs_list PySem.F.slot_list_extend PySem.F.type_list_extend mt_extend (pv 2) (by exact (pa_cons (pv 6) pa_nil)))))))))))
      (pss_one (ps_ret (pv 2))))))), ?_⟩)
  · obtain ⟨_, _, _, rfl, _⟩ := h
    rfl
  obtain ⟨a, l, cs, rfl, hC, hT, hcs, hlen, k⟩ := h
  have e0 := answers_told hcs
  have sz : (10000000 : Nat) < sizeLine := by decide
  refine fun m dm hm hdm hne => ⟨m, dm, rfl, upd_same, fun H1 o1 kp => ⟨rfl, ?_⟩⟩
  have s1 : Same H H1 := fun q o hq => kp q o (by rw [upd_ne (ne_of_none hq hm), upd_ne (ne_of_none hq hdm)]; exact hq) (fun z => by rw [List.mem_singleton.mp z, hm] at hq; cases hq)
  refine ⟨Nat.zero_le _, fun pf hpf => ?_⟩
  generalize e2 : upd H1 pf _ = H2
  have s2 : Same H1 H2 := e2 ▸ same_new hpf
  have f2 : H2 pf = some (.lst []) := e2 ▸ upd_same
  have npm : pf ≠ m := (ne_of_none o1 hpf).symm
  have M2 : MatIs A m dm none H2 := ⟨s2 _ _ o1, (fun z => nomatch z), (fun s e => nomatch e), hT.ext (s1.trans s2)⟩
  refine while_inv (fun mm σ H' => ∃ (n : Nat) (o : Option SL) (acc : List Int) (fu : Nat) (cs : List (List (List Int))) (v4 v5 v6 : Option V), mm = l.length - n ∧ n ≤ l.length ∧ σ = [some (.ref a), some (.ref m), some (.ref pf), some (.int (n : Nat)), v4, v5, v6, none] ∧ PyFlat.calls PyKg66.shape fu (l.drop n) = some cs ∧
      PyKg66.answers l = acc ++ PyFlat.told (PyFlat.played Kg66Neutral.step (absO o) cs) ∧ MatIs A m dm o H' ∧ CallsAt K H' a l ∧ H' pf = some (.lst (acc.map V.int)) ∧ pf ∉ m :: footO o)
    (fun σ H' => ∃ (v3 v4 v5 v6 v7 : Option V), σ = [some (.ref a), some (.ref m), some (.ref pf), v3, v4, v5, v6, v7] ∧ H' pf = some (.lst ((PyKg66.answers l).map V.int)))
    ⟨_, 0, none, [], l.length, cs, none, none, none, rfl, Nat.zero_le _, rfl, hcs, e0, M2, hC.keep fun ob u q => s2 _ _ (s1 _ _ q), f2, fun z => npm (List.mem_singleton.mp z)⟩ (fun Z hZ => ?_) ?_
  · rintro mm σ H3 ⟨n, o, acc, fu, cs, v4, v5, v6, rfl, hn, rfl, hcs3, e3, M, C3, f3, npf⟩
    refine ⟨_, rfl, _, rfl, a, _, rfl, .inl C3.sq, _, _, rfl, rfl, _, rfl, if_d (fun h1 => ?_) (fun h1 => ?_)⟩
    · rw [List.length_map] at h1
      have hn' : n < l.length := by omega
      have ed : l.drop n = l[n] :: l.drop (n + 1) := List.drop_eq_getElem_cons hn'
      rw [ed] at hcs3
      obtain ⟨f', cnt, j, cs', kk, ej, hcnt, hle, rfl, hcs', hk⟩ := calls_step hcs3
      rw [List.length_drop] at hle
      have hv : (l.map V.int)[n]? = some (.int l[n]) := by
        rw [List.getElem?_map, List.getElem?_eq_getElem hn']
        rfl
      have hco : atI ([0, 1, 4, 3, 3, 2, 2, 0, 1, 0].map V.int) l[n] = some (.int (cnt : Nat)) := by
        rw [ej]
        refine atI_nat ?_
        have z : ([0, 1, 4, 3, 3, 2, 2, 0, 1, 0].map V.int) = ([0, 1, 4, 3, 3, 2, 2, 0, 1, 0] : List Nat).map fun n => V.int (n : Nat) := rfl
        rw [z, List.getElem?_map, hcnt]
        rfl
      refine ⟨fun σ' H' => ∃ (o : Option SL) (acc : List Int) (v4 v5 v6 : Option V), σ' = [some (.ref a), some (.ref m), some (.ref pf), some (.int ((n + 1 + cnt : Nat) : Int)), v4, v5, v6, none] ∧
          PyKg66.answers l = acc ++ PyFlat.told (PyFlat.played Kg66Neutral.step (absO o) cs') ∧ MatIs A m dm o H' ∧ CallsAt K H' a l ∧ H' pf = some (.lst (acc.map V.int)) ∧ pf ∉ m :: footO o,
        fun σ' H' ⟨o, acc, v4, v5, v6, q1, q2, q3, q4, q5, q6⟩ => ⟨l.length - (n + 1 + cnt), by omega, n + 1 + cnt, o, acc, f', cs', v4, v5, v6, rfl, by omega, q1, by rw [show n + 1 + cnt = (n + 1) + cnt from rfl, ← List.drop_drop]; exact hcs', q2, q3, q4, q5, q6⟩, ?_⟩
      refine ⟨_, rfl, _, rfl, a, _, _, _, rfl, rfl, C3.sq, atI_nat hv, ?_⟩
      refine ⟨_, rfl, _, rfl, _, _, rfl, rfl, _, rfl, _, rfl, _, _, rfl, rfl, _, rfl, A.aC, _, _, _, rfl, rfl, T.tCOUNTS H3, hco, _, _, rfl, rfl, _, rfl, a, _, rfl, C3.sq, fun g hg => ?_⟩
      generalize e4 : upd H3 g _ = H4
      have s4 : Same H3 H4 := e4 ▸ same_new hg
      have f4 : H4 g = some (.lst (((l.drop (n + 1)).take cnt).map V.int)) := by
        rw [← e4, upd_same]
        refine congrArg (fun z => some (HO.lst z)) ?_
        have z : ((n : Nat) : Int) + 1 = ((n + 1 : Nat) : Int) := by omega
        have z2 : ((n : Nat) : Int) + 1 + ((cnt : Nat) : Int) = ((n + 1 + cnt : Nat) : Int) := by omega
        show cutV _ (some (((n : Nat) : Int) + 1)) (some (((n : Nat) : Int) + 1 + ((cnt : Nat) : Int))) = _
        rw [z2, z, cut_mid _ _ _ (by rw [List.length_map]; omega), List.map_take, List.map_drop]
      refine ⟨_, rfl, _, rfl, A.aC, _, _, _, rfl, rfl, T.tCOUNTS H4, hco, _, _, rfl, rfl, _, _, rfl, rfl, ?_⟩
      have e5 : ((n : Nat) : Int) + (1 + ((cnt : Nat) : Int)) = ((n + 1 + cnt : Nat) : Int) := by omega
      have M4 := M.same s4
      have f4p := s4 _ _ f3
      refine nx_cut (fun σ H' => ∃ (o' : Option SL) (p : Addr) (v4 v5 : Option V), σ = [some (.ref a), some (.ref m), some (.ref pf), some (.int ((n + 1 + cnt : Nat) : Int)), v4, v5, some (.ref p), none] ∧ MatIs A m dm o' H' ∧ absO o' = (Kg66.spec (absO o) kk).1 ∧ CallsAt K H' a l ∧ H' pf = some (.lst (acc.map V.int)) ∧ pf ∉ m :: footO o' ∧ p ≠ pf ∧
        H' p = some (.lst (((Kg66.spec (absO o) kk).2.value :: (Kg66.spec (absO o) kk).2.out).map V.int))) (fun Z2 hZ2 => ?_) ?_
      · refine ⟨_, rfl, _, rfl, _, rfl, m, dm, o, l[n], g, (l.drop (n + 1)).take cnt, kk, rfl, M4, f4, hk, fun nn es H5 d s5 hd => ?_, fun H5 o' p M5 eo kp5 fo np fp => ?_⟩
        · refine ⟨true, TE.ot, fun _ a0 _ => ?_, fun q => Bool.noConfusion q⟩
          refine ⟨_, rfl, rfl, rfl, d, _, .int nn, rfl, hd, lk0, (by show 1 ≤ sizeLine; decide), fun p hp => ?_⟩
          have s6 : Same H5 (upd H5 p (.lst [.int nn])) := same_new hp
          have s46 := s5.trans s6
          refine hZ2 _ _ ⟨o, p, some (.int l[n]), some (.ref g), ?_, M4.same s46, by rw [es], C3.keep fun ob u q => s46 _ _ (s4 _ _ q), s46 _ _ f4p, npf, (ne_of_none (s5 _ _ f4p) hp).symm, ?_⟩
          · show [some (V.ref a), some (.ref m), some (.ref pf), some (.int (((n : Nat) : Int) + (1 + ((cnt : Nat) : Int)))), some (.int l[n]), some (.ref g), some (.ref p), none] = _
            rw [e5]
          · rw [es]
            exact upd_same
        · refine hZ2 _ _ ⟨o', p, some (.int l[n]), some (.ref g), ?_, M5, eo, ?_, ?_, fun z => ?_, fun z => ?_, fp⟩
          · show [some (V.ref a), some (.ref m), some (.ref pf), some (.int (((n : Nat) : Int) + (1 + ((cnt : Nat) : Int)))), some (.int l[n]), some (.ref g), some (.ref p), none] = _
            rw [e5]
          · refine (C3.keep fun ob u q => s4 _ _ q).keep fun ob u q => kp5 _ _ q (fun z => ?_) (fun ps y => by cases y)
            obtain ⟨ob', e, pl⟩ := M4.plain _ z
            rw [q] at e
            cases e
            exact pl
          · exact kp5 _ _ f4p npf (fun ps y => by cases y)
          · rcases List.mem_cons.mp z with y | y
            · exact npf (y ▸ List.mem_cons_self)
            · rcases fo pf y with y | y
              · exact npf (List.mem_cons_of_mem _ y)
              · rw [f4p] at y
                cases y
          · rcases np with y | y
            · rw [z, f4p] at y
              cases y
            · rw [z] at y
              exact npf (List.mem_cons_of_mem _ y)
      · rintro σ H5 ⟨o', p, v4, v5, rfl, M5, eo, C5, f5, npf5, npp, fp⟩
        rw [told_step (absO o) hk] at e3
        generalize (Kg66.spec (absO o) kk).2.value :: (Kg66.spec (absO o) kk).2.out = an at e3 fp
        rw [← eo] at e3
        have hl := hlen
        rw [e3] at hl
        simp only [List.length_append, List.length_cons] at hl
        refine ⟨_, rfl, .inl ⟨rfl, _, SqL.of f5⟩, _, rfl, p, _, rfl, .inl (SqL.of fp), pf, _, _, rfl, rfl, f5, (by rw [List.length_map]; omega), ?_⟩
        generalize e6 : upd H5 pf _ = H6
        have k6 : Keep [pf] H5 H6 := e6 ▸ Keep.set (by simp)
        have f6 : H6 pf = some (.lst ((acc ++ [((an.length : Nat) : Int)]).map V.int)) := by
          rw [← e6, upd_same, List.map_append, List.length_map]
          rfl
        have p6 := k6 _ _ fp (by simpa using npp)
        refine ⟨_, rfl, .inl ⟨rfl, _, SqL.of f6⟩, _, rfl, pf, p, _, _, rfl, rfl, f6, p6, (by rw [List.length_map, List.length_map, List.length_append]; show _ + 1 + _ ≤ _; omega), ?_⟩
        generalize e7 : upd H6 pf _ = H7
        have k7 : Keep [pf] H5 H7 := k6.trans (e7 ▸ Keep.set (by simp))
        have f7 : H7 pf = some (.lst ((acc ++ [((an.length : Nat) : Int)] ++ an).map V.int)) := by
          rw [← e7, upd_same, ← List.map_append]
        refine ⟨o', acc ++ [((an.length : Nat) : Int)] ++ an, v4, v5, some (.ref p), rfl, ?_, M5.keep k7 f5 npf5, C5.keep fun ob u q => k7 _ _ q fun z => ?_, f7, npf5⟩
        · rw [e3]
          simp
        · rw [List.mem_singleton.mp z, f5] at q
          cases q
    · rw [List.length_map] at h1
      have hn' : n = l.length := by omega
      rw [hn', List.drop_length] at hcs3
      have ec : cs = [] := by
        unfold PyFlat.calls at hcs3
        exact (Option.some.inj hcs3).symm
      rw [ec] at e3
      have e3' : PyKg66.answers l = acc := by
        rw [e3]
        show acc ++ [] = acc
        rw [List.append_nil]
      exact hZ _ _ ⟨_, _, _, _, _, rfl, by rw [e3']; exact f3⟩
  · rintro σ H3 ⟨v3, v4, v5, v6, v7, rfl, f3⟩
    exact ⟨_, rfl, k H3 pf f3⟩
end
end Wm
/-! # The end's parts (printed by end.py): defs, classes, constants as the written part tells them; all defs joined -/
namespace Wm
open PySem PySem.Spec PyProof.Rows L2
open LamX (TabS TabB ExtN)
/-- a def at its name -/
def DefAt (K : PySem.W.Frag) (mg : Str → Option Value) (x : Str) (st : Stmt) (ps : List Str) : Prop := ∃ (f : Addr) (fd : FuncData), Fun K x x st f fd ∧ mg x = some (.ref f) ∧ Binds K fd ps []
def NoAttrs (K : PySem.W.Frag) (C : Addr) : List Str → Prop
  | [] => True
  | a :: l => PySem.W.findIn K (.ref C) a = some none ∧ NoAttrs K C l
/-- a class at its name -/
def ClsAt (K : PySem.W.Frag) (mg : Str → Option Value) (x q : Str) (st : Stmt) (ps as : List Str) : Prop := ∃ (C f : Addr) (fd : FuncData), mg x = some (.ref C) ∧ Cls K C ∧ Mk K C f ∧ Fun K "__init__" q st f fd ∧ Binds K fd ps [] ∧ NoAttrs K C as
section
variable {K : PySem.W.Frag} {h : Heap} {mg : Str → Option Value}
theorem def_mk {x : Str} {st : Stmt} {ps : List Str} {f : Addr} {oc kV dc pm cd ct : Value} {od an : Option Addr} {sl : Array (Option Value)} (X : K.In h) (G : h.Ns mainGlobals mg) (a : PySem.W.nsIn K mainGlobals x = some (some (.ref f)))
    (l : K.lookup f = some ⟨oc, od, .func (PySem.W.fnOf x x (defArgs st) (defBody st) (defScope st) .none kV dc pm an cd ct), sl⟩) (c : PySem.W.codeIn K cd x = true) (k : PySem.W.keepIn K (.ref f) = true)
    (hb : ∀ (kV dc pm : Value) (an : Option Addr) (cd ct : Value) (us : List Value), us.length = ps.length → bindArgs (PySem.W.fnOf x x (defArgs st) (defBody st) (defScope st) .none kV dc pm an cd ct) ⟨us, []⟩ = pure (ps.zip us)) : DefAt K mg x st ps :=
  have F := fun_mk (st := st) l c k
  ⟨f, _, F, PySem.W.mg_of X G a, F.binds hb⟩
theorem cls_mk {x q : Str} {st : Stmt} {ps as : List Str} {C f : Addr} {oc kV dc pm cd ct : Value} {od an : Option Addr} {sl : Array (Option Value)} (X : K.In h) (G : h.Ns mainGlobals mg) (aC : PySem.W.nsIn K mainGlobals x = some (some (.ref C)))
    (a : PySem.W.findIn K (.ref C) "__init__" = some (some (.ref f))) (i : PySem.W.isFn K (.ref f) = true)
    (l : K.lookup f = some ⟨oc, od, .func (PySem.W.fnOf "__init__" q (defArgs st) (defBody st) (defScope st) .none kV dc pm an cd ct), sl⟩) (c : PySem.W.codeIn K cd q = true) (k : PySem.W.keepIn K (.ref f) = true)
    (pg : PySem.W.plainGet K C Str.empty = true) (hd : PySem.W.hasDictIn K C = true) (po : PySem.W.plainOver K C = true) (sa : PySem.W.findIn K (.ref C) "__setattr__" = some (some (.builtin "object.__setattr__"))) (mk : PySem.W.makesIn K C = true) (kc : PySem.W.keepIn K (.ref C) = true)
    (na : NoAttrs K C as)
    (hb : ∀ (kV dc pm : Value) (an : Option Addr) (cd ct : Value) (us : List Value), us.length = ps.length → bindArgs (PySem.W.fnOf "__init__" q (defArgs st) (defBody st) (defScope st) .none kV dc pm an cd ct) ⟨us, []⟩ = pure (ps.zip us)) : ClsAt K mg x q st ps as :=
  have F := fun_mk (st := st) l c k
  ⟨C, f, _, PySem.W.mg_of X G aC, ⟨pg, hd, po, sa⟩, ⟨mk, a, i, kc⟩, F, F.binds hb, na⟩
/-- a whole number at its name -/
theorem gv_mk {x : Str} {i : Int} {t : Tok} (X : K.In h) (G : h.Ns mainGlobals mg) (a : PySem.W.nsIn K mainGlobals x = some (some (.int i t))) : GV mg x (.int i) := ⟨_, PySem.W.mg_of X G a, t, rfl⟩
/-- a tuple at its name -/
def TupAt (K : PySem.W.Frag) (mg : Str → Option Value) (x : Str) (xs : List V) : Prop := ∃ a : Addr, mg x = some (.ref a) ∧ ∀ H : Hp, SqT K H a xs
theorem tup_mk {x : Str} {xs : List V} {p : Addr} {od : Option Addr} {its : Array Value} {n : Nat} {sl : Array (Option Value)} (X : K.In h) (G : h.Ns mainGlobals mg) (a : PySem.W.nsIn K mainGlobals x = some (some (.ref p)))
    (l : K.lookup p = some ⟨.type "tuple", od, .seq its n, sl⟩) (v : Vals xs its.toList) (z : its.size ≤ 100) : TupAt K mg x xs :=
  ⟨p, PySem.W.mg_of X G a, fun H => .inr ⟨_, its, n, l, rfl, rfl, Nat.le_trans z (by decide), v⟩⟩
/-- the error's class -/
def ErrAt (K : PySem.W.Frag) (mg : Str → Option Value) : Prop := ∃ (C fI : Addr) (fd : FuncData), mg "Denied" = some (.ref C) ∧ ExC K C ∧ PySem.W.findIn K (.ref C) "number" = some none ∧ XfC K C ∧ PySem.W.exmOne K (.ref C) (.ref C) = some true ∧
  PySem.W.findIn K (.ref C) "__init__" = some (some (.ref fI)) ∧ PySem.W.typeIn K (.ref fI) = some (.type "function") ∧ Fun K "__init__" "Denied.__init__" sDenied_init fI fd ∧ Binds K fd PDenied_init []
theorem err_mk {C f : Addr} {nm q : Str} {N : Addr} {bs : List Value} {sn : List Str} {sub : List Value} {ab : Bool} {col : Option Bool} {dd : Option Addr} {m0 m1 m2 m3 m5 : Option Value} {oc kV dc pm cd ct : Value} {od an : Option Addr} {sl : Array (Option Value)} (X : K.In h) (G : h.Ns mainGlobals mg)
    (aC : PySem.W.nsIn K mainGlobals "Denied" = some (some (.ref C)))
    (xL : K.lookup C = some (excClassObj nm q C N bs [.type "Exception", .type "BaseException", .type "object"] true sn sub ab col dd m0 m1 m2 m3 m5 "Exception.__new__"))
    (sa : PySem.W.findIn K (.ref C) "__setattr__" = some (some (.builtin "object.__setattr__"))) (ga : PySem.W.findIn K (.ref C) "__getattribute__" = some (some (.builtin "BaseException.__getattribute__"))) (gg : PySem.W.findIn K (.ref C) "__getattr__" = some none) (nn : PySem.W.findIn K (.ref C) "number" = some none)
    (a : PySem.W.findIn K (.ref C) "__init__" = some (some (.ref f))) (ty : PySem.W.typeIn K (.ref f) = some (.type "function"))
    (l : K.lookup f = some ⟨oc, od, .func (PySem.W.fnOf "__init__" "Denied.__init__" (defArgs sDenied_init) (defBody sDenied_init) (defScope sDenied_init) .none kV dc pm an cd ct), sl⟩) (c : PySem.W.codeIn K cd "Denied.__init__" = true) (k : PySem.W.keepIn K (.ref f) = true)
    (kC : PySem.W.keepIn K (.ref C) = true) (eC : PySem.W.subIn K (.ref C) (.type "BaseException") = some true) (tC : PySem.W.typeIn K (.ref C) = some (.type "type")) (hC : PySem.W.hasDictIn K C = true) (xm : PySem.W.exmOne K (.ref C) (.ref C) = some true) : ErrAt K mg :=
  have F := fun_mk (st := sDenied_init) l c k
  ⟨C, f, _, PySem.W.mg_of X G aC, ⟨⟨nm, q, N, bs, sn, sub, ab, col, dd, m0, m1, m2, m3, m5, xL⟩, sa, eC, tC, kC⟩, nn, ⟨ga, gg, eC, hC⟩, xm, a, ty, F, F.binds fun _ _ _ _ _ _ us hl => match us, hl with | [_, _], _ => rfl⟩
/-- the def that makes a lambda: its code object, that one's table -/
def TabAt (K : PySem.W.Frag) (mg : Str → Option Value) : Prop := ∃ (f : Addr) (fd : FuncData) (c P : Addr), FunC K "places_of" "places_of" splaces_of f fd c ∧ mg "places_of" = some (.ref f) ∧ Binds K fd Pplaces_of [] ∧ PySem.W.tabIn K "places_of" = some (c, P) ∧ K.lookup P = none
theorem tabAt_mk {f c P : Addr} {oc oc2 kV dc pm ct : Value} {od od2 an : Option Addr} {sl sl2 : Array (Option Value)} {vs : Array Value} (X : K.In h) (G : h.Ns mainGlobals mg) (a : PySem.W.nsIn K mainGlobals "places_of" = some (some (.ref f)))
    (l : K.lookup f = some ⟨oc, od, .func (PySem.W.fnOf "places_of" "places_of" (defArgs splaces_of) (defBody splaces_of) (defScope splaces_of) .none kV dc pm an (.ref c) ct), sl⟩) (ci : PySem.W.codeIn K (.ref c) "places_of" = true) (k : PySem.W.keepIn K (.ref f) = true)
    (lc : K.lookup c = some ⟨oc2, od2, .fields vs, sl2⟩) (v : (vs[11]? : Option Value) = some (.ref P)) (nP : K.lookup P = none) : TabAt K mg := by
  have F := fun_mk (st := splaces_of) l ci k
  have b := F.binds (ps := Pplaces_of) fun _ _ _ _ _ _ us hl => match us, hl with | [_], _ => rfl
  exact ⟨f, _, c, P, ⟨⟨oc, od, kV, dc, pm, an, ct, sl, rfl, l, ci⟩, k⟩, PySem.W.mg_of X G a, b, tab_mk a l rfl lc v, nP⟩
end
/-- a promise of the calls by the table's place alone -/
def sp_ans (K : PySem.W.Frag) (P : Addr) : Sp := sp_answers K ⟨0, 0, 0, 0, 0, 0, 0, P⟩
theorem all_mk {P : Program} {w : World} {K : PySem.W.Frag} {h : Heap} {mg : Str → Option Value} {fa : Addr} (X : K.In h) (G : h.Ns mainGlobals mg) (hfa : mg "answers" = some (.ref fa))
    (cBout : ClsAt K mg "Bout" "Bout.__init__" sBout_init PBout_init ["wrestlers", "acts", "winner", "how"])
    (cRow : ClsAt K mg "Row" "Row.__init__" sRow_init PRow_init ["bouts", "waiting"])
    (cBracket : ClsAt K mg "Bracket" "Bracket.__init__" sBracket_init PBracket_init ["many", "rounds", "rows"])
    (cMat : ClsAt K mg "Mat" "Mat.__init__" sMat_init PMat_init ["bracket"])
    (cErr : ErrAt K mg)
    (cTab : TabAt K mg)
    (dbegun_bout : DefAt K mg "begun_bout" sbegun_bout Pbegun_bout)
    (dwin : DefAt K mg "win" swin Pwin)
    (dpoints_of : DefAt K mg "points_of" spoints_of Ppoints_of)
    (dcautions_of : DefAt K mg "cautions_of" scautions_of Pcautions_of)
    (dholds_of : DefAt K mg "holds_of" sholds_of Pholds_of)
    (dlead_key : DefAt K mg "lead_key" slead_key Plead_key)
    (dleader : DefAt K mg "leader" sleader Pleader)
    (dadd_act : DefAt K mg "add_act" sadd_act Padd_act)
    (dorder_count : DefAt K mg "order_count" sorder_count Porder_count)
    (dstands : DefAt K mg "stands" sstands Pstands)
    (dwho_won : DefAt K mg "who_won" swho_won Pwho_won)
    (dwho_lost : DefAt K mg "who_lost" swho_lost Pwho_lost)
    (dseats : DefAt K mg "seats" sseats Pseats)
    (dround_of : DefAt K mg "round_of" sround_of Pround_of)
    (dnew_bracket : DefAt K mg "new_bracket" snew_bracket Pnew_bracket)
    (dall_won : DefAt K mg "all_won" sall_won Pall_won)
    (dgo_on : DefAt K mg "go_on" sgo_on Pgo_on)
    (drow_of : DefAt K mg "row_of" srow_of Prow_of)
    (drow_goes_on : DefAt K mg "row_goes_on" srow_goes_on Prow_goes_on)
    (dis_over : DefAt K mg "is_over" sis_over Pis_over)
    (dall_bouts : DefAt K mg "all_bouts" sall_bouts Pall_bouts)
    (dsums_of : DefAt K mg "sums_of" ssums_of Psums_of)
    (dplaced_first : DefAt K mg "placed_first" splaced_first Pplaced_first)
    (dorder_key : DefAt K mg "order_key" sorder_key Porder_key)
    (dneed : DefAt K mg "need" sneed Pneed)
    (dbout_at : DefAt K mg "bout_at" sbout_at Pbout_at)
    (dneed_going : DefAt K mg "need_going" sneed_going Pneed_going)
    (dtold_bout : DefAt K mg "told_bout" stold_bout Ptold_bout)
    (ddo_begin : DefAt K mg "do_begin" sdo_begin Pdo_begin)
    (ddo_act : DefAt K mg "do_act" sdo_act Pdo_act)
    (ddo_fall : DefAt K mg "do_fall" sdo_fall Pdo_fall)
    (ddo_give : DefAt K mg "do_give" sdo_give Pdo_give)
    (ddo_time : DefAt K mg "do_time" sdo_time Pdo_time)
    (ddo_bout : DefAt K mg "do_bout" sdo_bout Pdo_bout)
    (ddo_now : DefAt K mg "do_now" sdo_now Pdo_now)
    (ddo_sums : DefAt K mg "do_sums" sdo_sums Pdo_sums)
    (ddo_places : DefAt K mg "do_places" sdo_places Pdo_places)
    (danswer_call : DefAt K mg "answer_call" sanswer_call Panswer_call)
    (danswers : DefAt K mg "answers" sanswers Panswers)
    (kNOBODY : GV mg "NOBODY" (.int (-1)))
    (kPOINTS : GV mg "POINTS" (.int 0))
    (kSUPERIORITY : GV mg "SUPERIORITY" (.int 1))
    (kFALL : GV mg "FALL" (.int 2))
    (kCAUTIONS : GV mg "CAUTIONS" (.int 3))
    (kGIVEN_UP : GV mg "GIVEN_UP" (.int 4))
    (kUNFOUGHT : GV mg "UNFOUGHT" (.int 5))
    (kCAUTION : GV mg "CAUTION" (.int 0))
    (kMOST_CAUTIONS : GV mg "MOST_CAUTIONS" (.int 3))
    (kMOST_AHEAD : GV mg "MOST_AHEAD" (.int 10))
    (kFEWEST : GV mg "FEWEST" (.int 2))
    (kMOST : GV mg "MOST" (.int 32))
    (kMOST_ACTS : GV mg "MOST_ACTS" (.int 100))
    (kWORTHS : TupAt K mg "WORTHS" ([0, 1, 2, 4, 5].map V.int))
    (kCOUNTS : TupAt K mg "COUNTS" ([0, 1, 4, 3, 3, 2, 2, 0, 1, 0].map V.int))
    (zlen : PySem.W.nsIn K mainGlobals "len" = some none)
    (zsum : PySem.W.nsIn K mainGlobals "sum" = some none)
    (zall : PySem.W.nsIn K mainGlobals "all" = some none)
    (zabs : PySem.W.nsIn K mainGlobals "abs" = some none)
    (zlist : PySem.W.nsIn K mainGlobals "list" = some none)
    (zrange : PySem.W.nsIn K mainGlobals "range" = some none)
    (zsorted : PySem.W.nsIn K mainGlobals "sorted" = some none)
    (zException : PySem.W.nsIn K mainGlobals "Exception" = some none) :
    ∃ (fd : FuncData) (c Pt : Addr), PySem.W.tabIn K "places_of" = some (c, Pt) ∧ K.lookup Pt = none ∧ (∀ (s : Shared) (us : List Value), us.length = (["calls"] : List Str).length → BindsTo s fd ⟨us, []⟩ ((["calls"] : List Str).zip us)) ∧
      ∀ base : Heap, K.In base → base.Ns mainGlobals mg → LamX.TabB base mg c Pt → FnOk P w K mg base CX0 12 fa fd ["calls"] (sp_ans K Pt) := by
  obtain ⟨CB, iBout, fdBout, mBout, clBout, mkBout, FBout, bBout, naBout⟩ := cBout
  obtain ⟨CR, iRow, fdRow, mRow, clRow, mkRow, FRow, bRow, naRow⟩ := cRow
  obtain ⟨CK, iBracket, fdBracket, mBracket, clBracket, mkBracket, FBracket, bBracket, naBracket⟩ := cBracket
  obtain ⟨CM, iMat, fdMat, mMat, clMat, mkMat, FMat, bMat, naMat⟩ := cMat
  obtain ⟨CD, iD, fdD, mD, exD, nnD, xfD, xmD, aD, tyD, FD, bD⟩ := cErr
  obtain ⟨fT, fdT, cT, Pt, FT, mT, bT, tT, nT⟩ := cTab
  obtain ⟨aW, mW, sW⟩ := kWORTHS
  obtain ⟨aC, mC, sC⟩ := kCOUNTS
  obtain ⟨fbegun_bout, fdbegun_bout, Fbegun_bout, mbegun_bout, bbegun_bout⟩ := dbegun_bout
  obtain ⟨fwin, fdwin, Fwin, mwin, bwin⟩ := dwin
  obtain ⟨fpoints_of, fdpoints_of, Fpoints_of, mpoints_of, bpoints_of⟩ := dpoints_of
  obtain ⟨fcautions_of, fdcautions_of, Fcautions_of, mcautions_of, bcautions_of⟩ := dcautions_of
  obtain ⟨fholds_of, fdholds_of, Fholds_of, mholds_of, bholds_of⟩ := dholds_of
  obtain ⟨flead_key, fdlead_key, Flead_key, mlead_key, blead_key⟩ := dlead_key
  obtain ⟨fleader, fdleader, Fleader, mleader, bleader⟩ := dleader
  obtain ⟨fadd_act, fdadd_act, Fadd_act, madd_act, badd_act⟩ := dadd_act
  obtain ⟨forder_count, fdorder_count, Forder_count, morder_count, border_count⟩ := dorder_count
  obtain ⟨fstands, fdstands, Fstands, mstands, bstands⟩ := dstands
  obtain ⟨fwho_won, fdwho_won, Fwho_won, mwho_won, bwho_won⟩ := dwho_won
  obtain ⟨fwho_lost, fdwho_lost, Fwho_lost, mwho_lost, bwho_lost⟩ := dwho_lost
  obtain ⟨fseats, fdseats, Fseats, mseats, bseats⟩ := dseats
  obtain ⟨fround_of, fdround_of, Fround_of, mround_of, bround_of⟩ := dround_of
  obtain ⟨fnew_bracket, fdnew_bracket, Fnew_bracket, mnew_bracket, bnew_bracket⟩ := dnew_bracket
  obtain ⟨fall_won, fdall_won, Fall_won, mall_won, ball_won⟩ := dall_won
  obtain ⟨fgo_on, fdgo_on, Fgo_on, mgo_on, bgo_on⟩ := dgo_on
  obtain ⟨frow_of, fdrow_of, Frow_of, mrow_of, brow_of⟩ := drow_of
  obtain ⟨frow_goes_on, fdrow_goes_on, Frow_goes_on, mrow_goes_on, brow_goes_on⟩ := drow_goes_on
  obtain ⟨fis_over, fdis_over, Fis_over, mis_over, bis_over⟩ := dis_over
  obtain ⟨fall_bouts, fdall_bouts, Fall_bouts, mall_bouts, ball_bouts⟩ := dall_bouts
  obtain ⟨fsums_of, fdsums_of, Fsums_of, msums_of, bsums_of⟩ := dsums_of
  obtain ⟨fplaced_first, fdplaced_first, Fplaced_first, mplaced_first, bplaced_first⟩ := dplaced_first
  obtain ⟨forder_key, fdorder_key, Forder_key, morder_key, border_key⟩ := dorder_key
  obtain ⟨fneed, fdneed, Fneed, mneed, bneed⟩ := dneed
  obtain ⟨fbout_at, fdbout_at, Fbout_at, mbout_at, bbout_at⟩ := dbout_at
  obtain ⟨fneed_going, fdneed_going, Fneed_going, mneed_going, bneed_going⟩ := dneed_going
  obtain ⟨ftold_bout, fdtold_bout, Ftold_bout, mtold_bout, btold_bout⟩ := dtold_bout
  obtain ⟨fdo_begin, fddo_begin, Fdo_begin, mdo_begin, bdo_begin⟩ := ddo_begin
  obtain ⟨fdo_act, fddo_act, Fdo_act, mdo_act, bdo_act⟩ := ddo_act
  obtain ⟨fdo_fall, fddo_fall, Fdo_fall, mdo_fall, bdo_fall⟩ := ddo_fall
  obtain ⟨fdo_give, fddo_give, Fdo_give, mdo_give, bdo_give⟩ := ddo_give
  obtain ⟨fdo_time, fddo_time, Fdo_time, mdo_time, bdo_time⟩ := ddo_time
  obtain ⟨fdo_bout, fddo_bout, Fdo_bout, mdo_bout, bdo_bout⟩ := ddo_bout
  obtain ⟨fdo_now, fddo_now, Fdo_now, mdo_now, bdo_now⟩ := ddo_now
  obtain ⟨fdo_sums, fddo_sums, Fdo_sums, mdo_sums, bdo_sums⟩ := ddo_sums
  obtain ⟨fdo_places, fddo_places, Fdo_places, mdo_places, bdo_places⟩ := ddo_places
  obtain ⟨fanswer_call, fdanswer_call, Fanswer_call, manswer_call, banswer_call⟩ := danswer_call
  obtain ⟨fanswers, fdanswers, Fanswers, manswers, banswers⟩ := danswers
  have e := hfa.symm.trans manswers
  cases e
  have T : Txt K mg ⟨CB, CR, CK, CM, CD, aW, aC, Pt⟩ := { clCB := clBout, nCB_wrestlers := naBout.1, nCB_acts := naBout.2.1, nCB_winner := naBout.2.2.1, nCB_how := naBout.2.2.2.1, clCR := clRow, nCR_bouts := naRow.1, nCR_waiting := naRow.2.1, clCK := clBracket, nCK_many := naBracket.1, nCK_rounds := naBracket.2.1, nCK_rows := naBracket.2.2.1, clCM := clMat, nCM_bracket := naMat.1, gNOBODY := kNOBODY, gPOINTS := kPOINTS, gSUPERIORITY := kSUPERIORITY, gFALL := kFALL, gCAUTIONS := kCAUTIONS, gGIVEN_UP := kGIVEN_UP, gUNFOUGHT := kUNFOUGHT, gCAUTION := kCAUTION, gMOST_CAUTIONS := kMOST_CAUTIONS, gMOST_AHEAD := kMOST_AHEAD, gFEWEST := kFEWEST, gMOST := kMOST, gMOST_ACTS := kMOST_ACTS, gWORTHS := ⟨_, mW, rfl⟩, tWORTHS := sW, gCOUNTS := ⟨_, mC, rfl⟩, tCOUNTS := sC, len := PySem.W.mg_none_of X G zlen, sum := PySem.W.mg_none_of X G zsum, all := PySem.W.mg_none_of X G zall, abs := PySem.W.mg_none_of X G zabs, list := PySem.W.mg_none_of X G zlist, range := PySem.W.mg_none_of X G zrange, sort := PySem.W.mg_none_of X G zsorted, exc := PySem.W.mg_none_of X G zException }
  have TE : TxtE K mg ⟨CB, CR, CK, CM, CD, aW, aC, Pt⟩ := ⟨exD, nnD, xfD, mD, xmD⟩
  refine ⟨fdanswers, cT, Pt, tT, nT, fun s us hu => ?_, fun base KX hns TB => ?_⟩
  · obtain ⟨oc, od, kV, dc, pm, an, cdv, ct, osl, rfl, _, _⟩ := Fanswers.ex
    exact match us, hu with | [_], _ => .of_eq rfl
  have D_Bout : OwnC P w K mg base CB 1 "Bout" PBout_init (sp_Bout_init K ⟨CB, CR, CK, CM, CD, aW, aC, Pt⟩) := ⟨iBout, fdBout, mkBout, ok_Bout_init T FBout, mBout, bBout⟩
  have D_win : Own P w K mg base CX0 1 "win" Pwin (sp_win K ⟨CB, CR, CK, CM, CD, aW, aC, Pt⟩) := ⟨fwin, fdwin, ok_win T  Fwin, mwin, Fwin.kp, bwin⟩
  have D_begun_bout : Own P w K mg base CX0 3 "begun_bout" Pbegun_bout (sp_begun_bout K ⟨CB, CR, CK, CM, CD, aW, aC, Pt⟩) := ⟨fbegun_bout, fdbegun_bout, ok_begun_bout T D_Bout D_win Fbegun_bout, mbegun_bout, Fbegun_bout.kp, bbegun_bout⟩
  have D_cautions_of : Own P w K mg base CX0 1 "cautions_of" Pcautions_of (sp_cautions_of K ⟨CB, CR, CK, CM, CD, aW, aC, Pt⟩) := ⟨fcautions_of, fdcautions_of, ok_cautions_of T  Fcautions_of, mcautions_of, Fcautions_of.kp, bcautions_of⟩
  have D_points_of : Own P w K mg base CX0 2 "points_of" Ppoints_of (sp_points_of K ⟨CB, CR, CK, CM, CD, aW, aC, Pt⟩) := ⟨fpoints_of, fdpoints_of, ok_points_of T D_cautions_of Fpoints_of, mpoints_of, Fpoints_of.kp, bpoints_of⟩
  have D_holds_of : Own P w K mg base CX0 1 "holds_of" Pholds_of (sp_holds_of K ⟨CB, CR, CK, CM, CD, aW, aC, Pt⟩) := ⟨fholds_of, fdholds_of, ok_holds_of T  Fholds_of, mholds_of, Fholds_of.kp, bholds_of⟩
  have D_lead_key : Own P w K mg base CX0 3 "lead_key" Plead_key (sp_lead_key K ⟨CB, CR, CK, CM, CD, aW, aC, Pt⟩) := ⟨flead_key, fdlead_key, ok_lead_key T D_cautions_of D_holds_of D_points_of Flead_key, mlead_key, Flead_key.kp, blead_key⟩
  have D_leader : Own P w K mg base CX0 4 "leader" Pleader (sp_leader K ⟨CB, CR, CK, CM, CD, aW, aC, Pt⟩) := ⟨fleader, fdleader, ok_leader T D_lead_key Fleader, mleader, Fleader.kp, bleader⟩
  have D_add_act : Own P w K mg base CX0 3 "add_act" Padd_act (sp_add_act K ⟨CB, CR, CK, CM, CD, aW, aC, Pt⟩) := ⟨fadd_act, fdadd_act, ok_add_act T D_cautions_of D_points_of D_win Fadd_act, madd_act, Fadd_act.kp, badd_act⟩
  have D_order_count : Own P w K mg base CX0 3 "order_count" Porder_count (sp_order_count K ⟨CB, CR, CK, CM, CD, aW, aC, Pt⟩) := ⟨forder_count, fdorder_count, ok_order_count T D_points_of Forder_count, morder_count, Forder_count.kp, border_count⟩
  have D_stands : Own P w K mg base CX0 5 "stands" Pstands (sp_stands K ⟨CB, CR, CK, CM, CD, aW, aC, Pt⟩) := ⟨fstands, fdstands, ok_stands T D_cautions_of D_leader D_points_of Fstands, mstands, Fstands.kp, bstands⟩
  have D_who_won : Own P w K mg base CX0 1 "who_won" Pwho_won (sp_who_won K ⟨CB, CR, CK, CM, CD, aW, aC, Pt⟩) := ⟨fwho_won, fdwho_won, ok_who_won T  Fwho_won, mwho_won, Fwho_won.kp, bwho_won⟩
  have D_who_lost : Own P w K mg base CX0 1 "who_lost" Pwho_lost (sp_who_lost K ⟨CB, CR, CK, CM, CD, aW, aC, Pt⟩) := ⟨fwho_lost, fdwho_lost, ok_who_lost T  Fwho_lost, mwho_lost, Fwho_lost.kp, bwho_lost⟩
  have D_Row : OwnC P w K mg base CR 1 "Row" PRow_init (sp_Row_init K ⟨CB, CR, CK, CM, CD, aW, aC, Pt⟩) := ⟨iRow, fdRow, mkRow, ok_Row_init T FRow, mRow, bRow⟩
  have D_Bracket : OwnC P w K mg base CK 1 "Bracket" PBracket_init (sp_Bracket_init K ⟨CB, CR, CK, CM, CD, aW, aC, Pt⟩) := ⟨iBracket, fdBracket, mkBracket, ok_Bracket_init T FBracket, mBracket, bBracket⟩
  have D_seats : Own P w K mg base CX0 1 "seats" Pseats (sp_seats K ⟨CB, CR, CK, CM, CD, aW, aC, Pt⟩) := ⟨fseats, fdseats, ok_seats T  Fseats, mseats, Fseats.kp, bseats⟩
  have D_round_of : Own P w K mg base CX0 4 "round_of" Pround_of (sp_round_of K ⟨CB, CR, CK, CM, CD, aW, aC, Pt⟩) := ⟨fround_of, fdround_of, ok_round_of T D_begun_bout Fround_of, mround_of, Fround_of.kp, bround_of⟩
  have D_all_won : Own P w K mg base CX0 1 "all_won" Pall_won (sp_all_won K ⟨CB, CR, CK, CM, CD, aW, aC, Pt⟩) := ⟨fall_won, fdall_won, ok_all_won T  Fall_won, mall_won, Fall_won.kp, ball_won⟩
  have D_row_of : Own P w K mg base CX0 4 "row_of" Prow_of (sp_row_of K ⟨CB, CR, CK, CM, CD, aW, aC, Pt⟩) := ⟨frow_of, fdrow_of, ok_row_of T D_Row D_begun_bout D_who_lost D_who_won Frow_of, mrow_of, Frow_of.kp, brow_of⟩
  have D_row_goes_on : Own P w K mg base CX0 4 "row_goes_on" Prow_goes_on (sp_row_goes_on K ⟨CB, CR, CK, CM, CD, aW, aC, Pt⟩) := ⟨frow_goes_on, fdrow_goes_on, ok_row_goes_on T D_begun_bout D_who_won Frow_goes_on, mrow_goes_on, Frow_goes_on.kp, brow_goes_on⟩
  have D_go_on : Own P w K mg base CX0 5 "go_on" Pgo_on (sp_go_on K ⟨CB, CR, CK, CM, CD, aW, aC, Pt⟩) := ⟨fgo_on, fdgo_on, ok_go_on T D_all_won D_round_of D_row_goes_on D_row_of D_who_won Fgo_on, mgo_on, Fgo_on.kp, bgo_on⟩
  have D_new_bracket : Own P w K mg base CX0 6 "new_bracket" Pnew_bracket (sp_new_bracket K ⟨CB, CR, CK, CM, CD, aW, aC, Pt⟩) := ⟨fnew_bracket, fdnew_bracket, ok_new_bracket T D_Bracket D_go_on D_round_of D_seats Fnew_bracket, mnew_bracket, Fnew_bracket.kp, bnew_bracket⟩
  have D_is_over : Own P w K mg base CX0 2 "is_over" Pis_over (sp_is_over K ⟨CB, CR, CK, CM, CD, aW, aC, Pt⟩) := ⟨fis_over, fdis_over, ok_is_over T D_all_won Fis_over, mis_over, Fis_over.kp, bis_over⟩
  have D_all_bouts : Own P w K mg base CX0 1 "all_bouts" Pall_bouts (sp_all_bouts K ⟨CB, CR, CK, CM, CD, aW, aC, Pt⟩) := ⟨fall_bouts, fdall_bouts, ok_all_bouts T  Fall_bouts, mall_bouts, Fall_bouts.kp, ball_bouts⟩
  have D_sums_of : Own P w K mg base CX0 4 "sums_of" Psums_of (sp_sums_of K ⟨CB, CR, CK, CM, CD, aW, aC, Pt⟩) := ⟨fsums_of, fdsums_of, ok_sums_of T D_all_bouts D_order_count D_points_of Fsums_of, msums_of, Fsums_of.kp, bsums_of⟩
  have D_placed_first : Own P w K mg base CX0 2 "placed_first" Pplaced_first (sp_placed_first K ⟨CB, CR, CK, CM, CD, aW, aC, Pt⟩) := ⟨fplaced_first, fdplaced_first, ok_placed_first T D_who_lost D_who_won Fplaced_first, mplaced_first, Fplaced_first.kp, bplaced_first⟩
  have D_order_key : Own P w K mg base CX0 5 "order_key" Porder_key (sp_order_key K ⟨CB, CR, CK, CM, CD, aW, aC, Pt⟩) := ⟨forder_key, fdorder_key, ok_order_key T D_sums_of Forder_key, morder_key, Forder_key.kp, border_key⟩
  have D_places_of : Own P w K mg base CX0 9 "places_of" Pplaces_of (sp_places_of K ⟨CB, CR, CK, CM, CD, aW, aC, Pt⟩) := ⟨fT, fdT, ok_places_of T D_order_key D_placed_first TB FT, mT, FT.kp, bT⟩
  have D_Denied : OwnD P w K mg base ⟨CB, CR, CK, CM, CD, aW, aC, Pt⟩ := ⟨iD, fdD, aD, tyD, ok_Denied_init T TE FD, bD⟩
  have D_Mat : OwnC P w K mg base CM 1 "Mat" PMat_init (sp_Mat_init K ⟨CB, CR, CK, CM, CD, aW, aC, Pt⟩) := ⟨iMat, fdMat, mkMat, ok_Mat_init T FMat, mMat, bMat⟩
  have D_need : Own P w K mg base (L2.CX P w) 3 "need" Pneed (sp_need K ⟨CB, CR, CK, CM, CD, aW, aC, Pt⟩) := ⟨fneed, fdneed, ok_need T TE D_Denied Fneed, mneed, Fneed.kp, bneed⟩
  have D_bout_at : Own P w K mg base (L2.CX P w) 4 "bout_at" Pbout_at (sp_bout_at K ⟨CB, CR, CK, CM, CD, aW, aC, Pt⟩) := ⟨fbout_at, fdbout_at, ok_bout_at T D_need Fbout_at, mbout_at, Fbout_at.kp, bbout_at⟩
  have D_need_going : Own P w K mg base (L2.CX P w) 4 "need_going" Pneed_going (sp_need_going K ⟨CB, CR, CK, CM, CD, aW, aC, Pt⟩) := ⟨fneed_going, fdneed_going, ok_need_going T D_need Fneed_going, mneed_going, Fneed_going.kp, bneed_going⟩
  have D_told_bout : Own P w K mg base CX0 6 "told_bout" Ptold_bout (sp_told_bout K ⟨CB, CR, CK, CM, CD, aW, aC, Pt⟩) := ⟨ftold_bout, fdtold_bout, ok_told_bout T D_go_on D_stands Ftold_bout, mtold_bout, Ftold_bout.kp, btold_bout⟩
  have D_do_begin : Own P w K mg base (L2.CX P w) 7 "do_begin" Pdo_begin (sp_do_begin K ⟨CB, CR, CK, CM, CD, aW, aC, Pt⟩) := ⟨fdo_begin, fddo_begin, ok_do_begin T D_need D_new_bracket Fdo_begin, mdo_begin, Fdo_begin.kp, bdo_begin⟩
  have D_do_act : Own P w K mg base (L2.CX P w) 7 "do_act" Pdo_act (sp_do_act K ⟨CB, CR, CK, CM, CD, aW, aC, Pt⟩) := ⟨fdo_act, fddo_act, ok_do_act T D_add_act D_bout_at D_need D_need_going D_told_bout Fdo_act, mdo_act, Fdo_act.kp, bdo_act⟩
  have D_do_fall : Own P w K mg base (L2.CX P w) 7 "do_fall" Pdo_fall (sp_do_fall K ⟨CB, CR, CK, CM, CD, aW, aC, Pt⟩) := ⟨fdo_fall, fddo_fall, ok_do_fall T D_bout_at D_need D_need_going D_told_bout D_win Fdo_fall, mdo_fall, Fdo_fall.kp, bdo_fall⟩
  have D_do_give : Own P w K mg base (L2.CX P w) 7 "do_give" Pdo_give (sp_do_give K ⟨CB, CR, CK, CM, CD, aW, aC, Pt⟩) := ⟨fdo_give, fddo_give, ok_do_give T D_bout_at D_need D_need_going D_told_bout D_win Fdo_give, mdo_give, Fdo_give.kp, bdo_give⟩
  have D_do_time : Own P w K mg base (L2.CX P w) 7 "do_time" Pdo_time (sp_do_time K ⟨CB, CR, CK, CM, CD, aW, aC, Pt⟩) := ⟨fdo_time, fddo_time, ok_do_time T D_bout_at D_leader D_need D_need_going D_told_bout D_win Fdo_time, mdo_time, Fdo_time.kp, bdo_time⟩
  have D_do_bout : Own P w K mg base (L2.CX P w) 6 "do_bout" Pdo_bout (sp_do_bout K ⟨CB, CR, CK, CM, CD, aW, aC, Pt⟩) := ⟨fdo_bout, fddo_bout, ok_do_bout T D_bout_at D_stands Fdo_bout, mdo_bout, Fdo_bout.kp, bdo_bout⟩
  have D_do_now : Own P w K mg base (L2.CX P w) 4 "do_now" Pdo_now (sp_do_now K ⟨CB, CR, CK, CM, CD, aW, aC, Pt⟩) := ⟨fdo_now, fddo_now, ok_do_now T D_is_over D_need D_who_won Fdo_now, mdo_now, Fdo_now.kp, bdo_now⟩
  have D_do_sums : Own P w K mg base (L2.CX P w) 5 "do_sums" Pdo_sums (sp_do_sums K ⟨CB, CR, CK, CM, CD, aW, aC, Pt⟩) := ⟨fdo_sums, fddo_sums, ok_do_sums T D_need D_sums_of Fdo_sums, mdo_sums, Fdo_sums.kp, bdo_sums⟩
  have D_do_places : Own P w K mg base (L2.CX P w) 10 "do_places" Pdo_places (sp_do_places K ⟨CB, CR, CK, CM, CD, aW, aC, Pt⟩) := ⟨fdo_places, fddo_places, ok_do_places T D_is_over D_need D_places_of Fdo_places, mdo_places, Fdo_places.kp, bdo_places⟩
  have D_answer_call : Own P w K mg base (L2.CX P w) 11 "answer_call" Panswer_call (sp_answer_call K ⟨CB, CR, CK, CM, CD, aW, aC, Pt⟩) := ⟨fanswer_call, fdanswer_call, ok_answer_call T D_do_act D_do_begin D_do_bout D_do_fall D_do_give D_do_now D_do_places D_do_sums D_do_time Fanswer_call, manswer_call, Fanswer_call.kp, banswer_call⟩
  exact ok_answers T D_Mat D_answer_call TE Fanswers
/-! ### the request -/
theorem asked_of {l : List Int} (h : PyKg66.answers_asked l = true) : ∃ cs, PyFlat.calls PyKg66.shape l.length l = some cs ∧ (PyKg66.answers l).length ≤ 10000000 := by
  unfold PyKg66.answers_asked at h
  cases e : PyFlat.calls PyKg66.shape l.length l with
  | none =>
    rw [e] at h
    cases h
  | some cs =>
    rw [e] at h
    refine ⟨cs, rfl, ?_⟩
    have h2 : (!cs.isEmpty && PyFlat.atMost 250 cs && PyInside.calls PyKg66.bound cs && Kg66Neutral.asked (cs.map PyKg66.whole) && PyFlat.short 10000000 (PyKg66.answers l)) = true := h
    rw [Bool.and_eq_true] at h2
    exact of_decide_eq_true h2.2
theorem calls_at {K : PySem.W.Frag} {H : Hp} {P a : Addr} {l : List Int} (hO : OnlyT P H) (hP : H P = some (.tbl #[])) (h : SqL K H a (l.map V.int)) : CallsAt K H a l := by
  rcases h with (h | ⟨ob, h⟩) | h
  · rcases hO a with z | z | ⟨o, u, z⟩
    · rw [h] at z
      cases z
    · rw [z, hP] at h
      cases h
    · rw [h] at z
      cases z
  · exact .inl ⟨ob, h⟩
  · exact .inr (.inr h)
theorem tab_at {H : Hp} {P : Addr} {q : Str} (hP : H P = some (.tbl #[])) : TabS H P q := by
  refine ⟨#[], hP, ?_, fun pos cv hc => ?_⟩
  · first | exact .nil | trivial | (show TriplesOk []; constructor)
  · have z : codeAmong pos [] = some cv := hc
    first | cases z | (simp [codeAmong] at z)
end Wm
set_option maxHeartbeats 0
open PySem PySem.W PyProof.Rows
theorem PySem.Challenge.cw_wrestlingmat_s01_answers_holds : PySem.Challenge.rw_wrestlingmat_s01_answers.Holds := by
  w_on; k_headS; (case hw => exact ⟨[.list [.int 7]], by decide +kernel, by decide +kernel⟩)
  k_fillS
  refine Wm.walk_tab (r := PySem.Challenge.rw_wrestlingmat_s01_answers) (k := 12) (CX := fun _ => L2.CX0) (ps := ["calls"]) (x := "places_of") (sp := Wm.sp_ans) (by decide +kernel) rfl rfl ⟨rfl, by decide, by decide⟩ ?hrec (fun w h Y => PySem.W.kIn_of Y) ?F ?S (fun _ _ _ _ _ z => z)
  case hrec => first | decide +kernel | rfl
  case F =>
    intro w mg fa h Y KX G hmg
    refine' Wm.all_mk KX G hmg ?cBout ?cRow ?cBracket ?cMat ?cErr ?cTab ?dbegun_bout ?dwin ?dpoints_of ?dcautions_of ?dholds_of ?dlead_key ?dleader ?dadd_act ?dorder_count ?dstands ?dwho_won ?dwho_lost ?dseats ?dround_of ?dnew_bracket ?dall_won ?dgo_on ?drow_of ?drow_goes_on ?dis_over ?dall_bouts ?dsums_of ?dplaced_first ?dorder_key ?dneed ?dbout_at ?dneed_going ?dtold_bout ?ddo_begin ?ddo_act ?ddo_fall ?ddo_give ?ddo_time ?ddo_bout ?ddo_now ?ddo_sums ?ddo_places ?danswer_call ?danswers ?kNOBODY ?kPOINTS ?kSUPERIORITY ?kFALL ?kCAUTIONS ?kGIVEN_UP ?kUNFOUGHT ?kCAUTION ?kMOST_CAUTIONS ?kMOST_AHEAD ?kFEWEST ?kMOST ?kMOST_ACTS ?kWORTHS ?kCOUNTS ?zlen ?zsum ?zall ?zabs ?zlist ?zrange ?zsorted ?zException
    case cBout =>
      refine' Wm.cls_mk KX G ?aC ?a ?i ?l ?c ?k ?pg ?hd ?po ?sa ?mk ?kc ?na ?hb
      (case aC => k_is); (case a => k_is); (case i => k_is); (case l => k_is); (case c => k_is); (case k => k_is); (case pg => k_is); (case hd => k_is); (case po => k_is); (case sa => k_is); (case mk => k_is); (case kc => k_is)
      (case na => refine ⟨?_, ?_, ?_, ?_, trivial⟩ <;> k_is)
      (case hb => exact fun _ _ _ _ _ _ us hl => match us, hl with | [_, _, _], _ => rfl)
    case cRow =>
      refine' Wm.cls_mk KX G ?aC ?a ?i ?l ?c ?k ?pg ?hd ?po ?sa ?mk ?kc ?na ?hb
      (case aC => k_is); (case a => k_is); (case i => k_is); (case l => k_is); (case c => k_is); (case k => k_is); (case pg => k_is); (case hd => k_is); (case po => k_is); (case sa => k_is); (case mk => k_is); (case kc => k_is)
      (case na => refine ⟨?_, ?_, trivial⟩ <;> k_is)
      (case hb => exact fun _ _ _ _ _ _ us hl => match us, hl with | [_, _], _ => rfl)
    case cBracket =>
      refine' Wm.cls_mk KX G ?aC ?a ?i ?l ?c ?k ?pg ?hd ?po ?sa ?mk ?kc ?na ?hb
      (case aC => k_is); (case a => k_is); (case i => k_is); (case l => k_is); (case c => k_is); (case k => k_is); (case pg => k_is); (case hd => k_is); (case po => k_is); (case sa => k_is); (case mk => k_is); (case kc => k_is)
      (case na => refine ⟨?_, ?_, ?_, trivial⟩ <;> k_is)
      (case hb => exact fun _ _ _ _ _ _ us hl => match us, hl with | [_, _], _ => rfl)
    case cMat =>
      refine' Wm.cls_mk KX G ?aC ?a ?i ?l ?c ?k ?pg ?hd ?po ?sa ?mk ?kc ?na ?hb
      (case aC => k_is); (case a => k_is); (case i => k_is); (case l => k_is); (case c => k_is); (case k => k_is); (case pg => k_is); (case hd => k_is); (case po => k_is); (case sa => k_is); (case mk => k_is); (case kc => k_is)
      (case na => refine ⟨?_, trivial⟩ <;> k_is)
      (case hb => exact fun _ _ _ _ _ _ us hl => match us, hl with | [_], _ => rfl)
    case cErr =>
      refine' Wm.err_mk KX G ?aC ?xL ?sa ?ga ?gg ?nn ?a ?ty ?l ?c ?k ?kC ?eC ?tC ?hC ?xm
      (case aC => k_is); (case xL => k_is); (case sa => k_is); (case ga => k_is); (case gg => k_is); (case nn => k_is); (case a => k_is); (case ty => k_is); (case l => k_is); (case c => k_is); (case k => k_is); (case kC => k_is); (case eC => k_is); (case tC => k_is); (case hC => k_is); (case xm => first | rfl | k_is)
    case cTab =>
      refine' Wm.tabAt_mk KX G ?a ?l ?ci ?k ?lc ?v ?nP
      (case a => k_is); (case l => k_is); (case ci => k_is); (case k => k_is); (case lc => k_is); (case v => exact rfl); (case nP => first | exact rfl | kernel_rfl)
    case dbegun_bout =>
      refine' Wm.def_mk KX G ?a ?l ?c ?k ?hb
      (case a => k_is); (case l => k_is); (case c => k_is); (case k => k_is); (case hb => exact fun _ _ _ _ _ _ us hl => match us, hl with | [_, _], _ => rfl)
    case dwin =>
      refine' Wm.def_mk KX G ?a ?l ?c ?k ?hb
      (case a => k_is); (case l => k_is); (case c => k_is); (case k => k_is); (case hb => exact fun _ _ _ _ _ _ us hl => match us, hl with | [_, _, _], _ => rfl)
    case dpoints_of =>
      refine' Wm.def_mk KX G ?a ?l ?c ?k ?hb
      (case a => k_is); (case l => k_is); (case c => k_is); (case k => k_is); (case hb => exact fun _ _ _ _ _ _ us hl => match us, hl with | [_, _], _ => rfl)
    case dcautions_of =>
      refine' Wm.def_mk KX G ?a ?l ?c ?k ?hb
      (case a => k_is); (case l => k_is); (case c => k_is); (case k => k_is); (case hb => exact fun _ _ _ _ _ _ us hl => match us, hl with | [_, _], _ => rfl)
    case dholds_of =>
      refine' Wm.def_mk KX G ?a ?l ?c ?k ?hb
      (case a => k_is); (case l => k_is); (case c => k_is); (case k => k_is); (case hb => exact fun _ _ _ _ _ _ us hl => match us, hl with | [_, _, _], _ => rfl)
    case dlead_key =>
      refine' Wm.def_mk KX G ?a ?l ?c ?k ?hb
      (case a => k_is); (case l => k_is); (case c => k_is); (case k => k_is); (case hb => exact fun _ _ _ _ _ _ us hl => match us, hl with | [_, _], _ => rfl)
    case dleader =>
      refine' Wm.def_mk KX G ?a ?l ?c ?k ?hb
      (case a => k_is); (case l => k_is); (case c => k_is); (case k => k_is); (case hb => exact fun _ _ _ _ _ _ us hl => match us, hl with | [_], _ => rfl)
    case dadd_act =>
      refine' Wm.def_mk KX G ?a ?l ?c ?k ?hb
      (case a => k_is); (case l => k_is); (case c => k_is); (case k => k_is); (case hb => exact fun _ _ _ _ _ _ us hl => match us, hl with | [_, _, _], _ => rfl)
    case dorder_count =>
      refine' Wm.def_mk KX G ?a ?l ?c ?k ?hb
      (case a => k_is); (case l => k_is); (case c => k_is); (case k => k_is); (case hb => exact fun _ _ _ _ _ _ us hl => match us, hl with | [_, _], _ => rfl)
    case dstands =>
      refine' Wm.def_mk KX G ?a ?l ?c ?k ?hb
      (case a => k_is); (case l => k_is); (case c => k_is); (case k => k_is); (case hb => exact fun _ _ _ _ _ _ us hl => match us, hl with | [_], _ => rfl)
    case dwho_won =>
      refine' Wm.def_mk KX G ?a ?l ?c ?k ?hb
      (case a => k_is); (case l => k_is); (case c => k_is); (case k => k_is); (case hb => exact fun _ _ _ _ _ _ us hl => match us, hl with | [_], _ => rfl)
    case dwho_lost =>
      refine' Wm.def_mk KX G ?a ?l ?c ?k ?hb
      (case a => k_is); (case l => k_is); (case c => k_is); (case k => k_is); (case hb => exact fun _ _ _ _ _ _ us hl => match us, hl with | [_], _ => rfl)
    case dseats =>
      refine' Wm.def_mk KX G ?a ?l ?c ?k ?hb
      (case a => k_is); (case l => k_is); (case c => k_is); (case k => k_is); (case hb => exact fun _ _ _ _ _ _ us hl => match us, hl with | [_], _ => rfl)
    case dround_of =>
      refine' Wm.def_mk KX G ?a ?l ?c ?k ?hb
      (case a => k_is); (case l => k_is); (case c => k_is); (case k => k_is); (case hb => exact fun _ _ _ _ _ _ us hl => match us, hl with | [_], _ => rfl)
    case dnew_bracket =>
      refine' Wm.def_mk KX G ?a ?l ?c ?k ?hb
      (case a => k_is); (case l => k_is); (case c => k_is); (case k => k_is); (case hb => exact fun _ _ _ _ _ _ us hl => match us, hl with | [_], _ => rfl)
    case dall_won =>
      refine' Wm.def_mk KX G ?a ?l ?c ?k ?hb
      (case a => k_is); (case l => k_is); (case c => k_is); (case k => k_is); (case hb => exact fun _ _ _ _ _ _ us hl => match us, hl with | [_], _ => rfl)
    case dgo_on =>
      refine' Wm.def_mk KX G ?a ?l ?c ?k ?hb
      (case a => k_is); (case l => k_is); (case c => k_is); (case k => k_is); (case hb => exact fun _ _ _ _ _ _ us hl => match us, hl with | [_], _ => rfl)
    case drow_of =>
      refine' Wm.def_mk KX G ?a ?l ?c ?k ?hb
      (case a => k_is); (case l => k_is); (case c => k_is); (case k => k_is); (case hb => exact fun _ _ _ _ _ _ us hl => match us, hl with | [_, _], _ => rfl)
    case drow_goes_on =>
      refine' Wm.def_mk KX G ?a ?l ?c ?k ?hb
      (case a => k_is); (case l => k_is); (case c => k_is); (case k => k_is); (case hb => exact fun _ _ _ _ _ _ us hl => match us, hl with | [_], _ => rfl)
    case dis_over =>
      refine' Wm.def_mk KX G ?a ?l ?c ?k ?hb
      (case a => k_is); (case l => k_is); (case c => k_is); (case k => k_is); (case hb => exact fun _ _ _ _ _ _ us hl => match us, hl with | [_], _ => rfl)
    case dall_bouts =>
      refine' Wm.def_mk KX G ?a ?l ?c ?k ?hb
      (case a => k_is); (case l => k_is); (case c => k_is); (case k => k_is); (case hb => exact fun _ _ _ _ _ _ us hl => match us, hl with | [_], _ => rfl)
    case dsums_of =>
      refine' Wm.def_mk KX G ?a ?l ?c ?k ?hb
      (case a => k_is); (case l => k_is); (case c => k_is); (case k => k_is); (case hb => exact fun _ _ _ _ _ _ us hl => match us, hl with | [_, _], _ => rfl)
    case dplaced_first =>
      refine' Wm.def_mk KX G ?a ?l ?c ?k ?hb
      (case a => k_is); (case l => k_is); (case c => k_is); (case k => k_is); (case hb => exact fun _ _ _ _ _ _ us hl => match us, hl with | [_], _ => rfl)
    case dorder_key =>
      refine' Wm.def_mk KX G ?a ?l ?c ?k ?hb
      (case a => k_is); (case l => k_is); (case c => k_is); (case k => k_is); (case hb => exact fun _ _ _ _ _ _ us hl => match us, hl with | [_, _], _ => rfl)
    case dneed =>
      refine' Wm.def_mk KX G ?a ?l ?c ?k ?hb
      (case a => k_is); (case l => k_is); (case c => k_is); (case k => k_is); (case hb => exact fun _ _ _ _ _ _ us hl => match us, hl with | [_, _], _ => rfl)
    case dbout_at =>
      refine' Wm.def_mk KX G ?a ?l ?c ?k ?hb
      (case a => k_is); (case l => k_is); (case c => k_is); (case k => k_is); (case hb => exact fun _ _ _ _ _ _ us hl => match us, hl with | [_, _, _], _ => rfl)
    case dneed_going =>
      refine' Wm.def_mk KX G ?a ?l ?c ?k ?hb
      (case a => k_is); (case l => k_is); (case c => k_is); (case k => k_is); (case hb => exact fun _ _ _ _ _ _ us hl => match us, hl with | [_], _ => rfl)
    case dtold_bout =>
      refine' Wm.def_mk KX G ?a ?l ?c ?k ?hb
      (case a => k_is); (case l => k_is); (case c => k_is); (case k => k_is); (case hb => exact fun _ _ _ _ _ _ us hl => match us, hl with | [_, _], _ => rfl)
    case ddo_begin =>
      refine' Wm.def_mk KX G ?a ?l ?c ?k ?hb
      (case a => k_is); (case l => k_is); (case c => k_is); (case k => k_is); (case hb => exact fun _ _ _ _ _ _ us hl => match us, hl with | [_, _], _ => rfl)
    case ddo_act =>
      refine' Wm.def_mk KX G ?a ?l ?c ?k ?hb
      (case a => k_is); (case l => k_is); (case c => k_is); (case k => k_is); (case hb => exact fun _ _ _ _ _ _ us hl => match us, hl with | [_, _], _ => rfl)
    case ddo_fall =>
      refine' Wm.def_mk KX G ?a ?l ?c ?k ?hb
      (case a => k_is); (case l => k_is); (case c => k_is); (case k => k_is); (case hb => exact fun _ _ _ _ _ _ us hl => match us, hl with | [_, _], _ => rfl)
    case ddo_give =>
      refine' Wm.def_mk KX G ?a ?l ?c ?k ?hb
      (case a => k_is); (case l => k_is); (case c => k_is); (case k => k_is); (case hb => exact fun _ _ _ _ _ _ us hl => match us, hl with | [_, _], _ => rfl)
    case ddo_time =>
      refine' Wm.def_mk KX G ?a ?l ?c ?k ?hb
      (case a => k_is); (case l => k_is); (case c => k_is); (case k => k_is); (case hb => exact fun _ _ _ _ _ _ us hl => match us, hl with | [_, _, _], _ => rfl)
    case ddo_bout =>
      refine' Wm.def_mk KX G ?a ?l ?c ?k ?hb
      (case a => k_is); (case l => k_is); (case c => k_is); (case k => k_is); (case hb => exact fun _ _ _ _ _ _ us hl => match us, hl with | [_, _, _], _ => rfl)
    case ddo_now =>
      refine' Wm.def_mk KX G ?a ?l ?c ?k ?hb
      (case a => k_is); (case l => k_is); (case c => k_is); (case k => k_is); (case hb => exact fun _ _ _ _ _ _ us hl => match us, hl with | [_], _ => rfl)
    case ddo_sums =>
      refine' Wm.def_mk KX G ?a ?l ?c ?k ?hb
      (case a => k_is); (case l => k_is); (case c => k_is); (case k => k_is); (case hb => exact fun _ _ _ _ _ _ us hl => match us, hl with | [_, _], _ => rfl)
    case ddo_places =>
      refine' Wm.def_mk KX G ?a ?l ?c ?k ?hb
      (case a => k_is); (case l => k_is); (case c => k_is); (case k => k_is); (case hb => exact fun _ _ _ _ _ _ us hl => match us, hl with | [_], _ => rfl)
    case danswer_call =>
      refine' Wm.def_mk KX G ?a ?l ?c ?k ?hb
      (case a => k_is); (case l => k_is); (case c => k_is); (case k => k_is); (case hb => exact fun _ _ _ _ _ _ us hl => match us, hl with | [_, _, _], _ => rfl)
    case danswers =>
      refine' Wm.def_mk KX G ?a ?l ?c ?k ?hb
      (case a => k_is); (case l => k_is); (case c => k_is); (case k => k_is); (case hb => exact fun _ _ _ _ _ _ us hl => match us, hl with | [_], _ => rfl)
    case kNOBODY =>
      refine' Wm.gv_mk KX G ?a
      (case a => k_is)
    case kPOINTS =>
      refine' Wm.gv_mk KX G ?a
      (case a => k_is)
    case kSUPERIORITY =>
      refine' Wm.gv_mk KX G ?a
      (case a => k_is)
    case kFALL =>
      refine' Wm.gv_mk KX G ?a
      (case a => k_is)
    case kCAUTIONS =>
      refine' Wm.gv_mk KX G ?a
      (case a => k_is)
    case kGIVEN_UP =>
      refine' Wm.gv_mk KX G ?a
      (case a => k_is)
    case kUNFOUGHT =>
      refine' Wm.gv_mk KX G ?a
      (case a => k_is)
    case kCAUTION =>
      refine' Wm.gv_mk KX G ?a
      (case a => k_is)
    case kMOST_CAUTIONS =>
      refine' Wm.gv_mk KX G ?a
      (case a => k_is)
    case kMOST_AHEAD =>
      refine' Wm.gv_mk KX G ?a
      (case a => k_is)
    case kFEWEST =>
      refine' Wm.gv_mk KX G ?a
      (case a => k_is)
    case kMOST =>
      refine' Wm.gv_mk KX G ?a
      (case a => k_is)
    case kMOST_ACTS =>
      refine' Wm.gv_mk KX G ?a
      (case a => k_is)
    case kWORTHS =>
      refine' Wm.tup_mk KX G ?a ?l ?v ?z
      (case a => k_is); (case l => k_is); (case v => exact .cons ⟨_, rfl⟩ (.cons ⟨_, rfl⟩ (.cons ⟨_, rfl⟩ (.cons ⟨_, rfl⟩ (.cons ⟨_, rfl⟩ (.nil)))))); (case z => decide)
    case kCOUNTS =>
      refine' Wm.tup_mk KX G ?a ?l ?v ?z
      (case a => k_is); (case l => k_is); (case v => exact .cons ⟨_, rfl⟩ (.cons ⟨_, rfl⟩ (.cons ⟨_, rfl⟩ (.cons ⟨_, rfl⟩ (.cons ⟨_, rfl⟩ (.cons ⟨_, rfl⟩ (.cons ⟨_, rfl⟩ (.cons ⟨_, rfl⟩ (.cons ⟨_, rfl⟩ (.cons ⟨_, rfl⟩ (.nil))))))))))); (case z => decide)
    case zlen => k_is
    case zsum => k_is
    case zall => k_is
    case zabs => k_is
    case zlist => k_is
    case zrange => k_is
    case zsorted => k_is
    case zException => k_is
  case S =>
    intro K P H xs a hO hP hwi hask hx
    cases hx with
    | cons h1 h2 =>
      cases h2
      cases h1 with
      | lst hs ha =>
        have e := L2.ints_dw a.1 _ ha
        subst e
        obtain ⟨cs, e1, e2⟩ := Wm.asked_of (l := a.1) hask
        exact ⟨_, a.1, cs, rfl, Wm.calls_at hO hP hs, Wm.tab_at hP, e1, e2, fun H' p hp => .lst (L2.SqL.of hp) (L2.dw_ints _)⟩
