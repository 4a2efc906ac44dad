import PyProof.Rows.All
import Wide.All
import OpenK.AllK
import Wide.FinOn
import KE.KStateDown
import KE.GoesOver
import KE.GoesMore
import KE.GoesZip
import KE.GoesEnum
import KE.SortData
import KE.KExcSuper
import HandS.ForMost
import HandS.Walk
import HandS.Zip
import HandS.Conv
import HandS.Wide
import HandS.IsInst
import HandS.Exc
import HandS.ExcOwn
import HandS.ExcIs
import HandS.TryOnly
import HandS.ExcInit
import HandS.Lambda
import HandS.Defaults
import HandS.Head0
import HandS.Head1
import HandS.Head2
import HandS.HeadEnd
import HandS.HeadHook1
import HandS.HeadHook2
import HandS.HeadHook3
import HandS.HeadHook4
import HandS.HeadWalk
import PySem.Challenge.RW_twotides_k11_whole_ticks
import HandS.Evl
set_option Elab.async false
set_option linter.all false
set_option maxRecDepth 100000
/-! part K11A -/
set_option maxHeartbeats 4000000
namespace K11
open PySem PySem.Spec PyProof.Rows L2

/-! ### readings of operators and calls, by name -/
abbrev qAdd : R2 := rI0 fun i j => V.int (i + j)
abbrev qSub : R2 := rI0 fun i j => V.int (i - j)
abbrev qMul : R2 := rI CMul fun i j => V.int (i * j)
abbrev qDiv : R2 := rI CDiv fun i j => V.int (i / j)
abbrev qDivW : R2 := rI CDivW fun i j => V.int (i / j)
abbrev qMod : R2 := rI (fun _ j => 0 < j) fun i j => V.int (i % j)
abbrev qPow : R2 := rI CPow fun i j => V.int (i ^ j.toNat)
abbrev qLt : R2 := rI0 fun i j => V.bl (decide (i < j))
abbrev qLe : R2 := rI0 fun i j => V.bl (decide (i ≤ j))
abbrev qGt : R2 := rI0 fun i j => V.bl (decide (j < i))
abbrev qGe : R2 := rI0 fun i j => V.bl (decide (j ≤ i))
abbrev qIsN : R2 := fun x y H Q => y = .non ∧ Q (.bl (decide (x = .non))) H
abbrev qNotN : R2 := fun x y H Q => y = .non ∧ Q (.bl (!decide (x = .non))) H
abbrev qNeg : V → Hp → VK → Prop := rU fun i => V.int (-i)
abbrev qAbs : List V → Hp → VK → Prop := fun xs H Q => ∃ i, xs = [.int i] ∧ Q (.int (if i < 0 then -i else i)) H
abbrev qInt1 : List V → Hp → VK → Prop := fun xs H Q => (∃ i, xs = [.int i] ∧ Q (.int i) H) ∨ ∃ k, xs = [.bl k] ∧ Q (.int (if k then 1 else 0)) H
abbrev qLen (K : PySem.W.Frag) : List V → Hp → VK → Prop := fun xs H Q => ∃ p ys, xs = [.ref p] ∧ (SqL K H p ys ∨ SqT K H p ys) ∧ Q (.int ys.length) H
abbrev qTupOf (K : PySem.W.Frag) : List V → Hp → VK → Prop := fun xs H Q => ∃ p ys, xs = [.ref p] ∧ ((SqL K H p ys ∧ ∀ l, H l = none → Q (.ref l) (upd H l (.tup ys))) ∨ (SqT K H p ys ∧ Q (.ref p) H))
abbrev qListOf (K : PySem.W.Frag) : List V → Hp → VK → Prop := fun xs H Q => ∃ p ys, xs = [.ref p] ∧ (SqL K H p ys ∨ SqT K H p ys) ∧ ∀ l, H l = none → Q (.ref l) (upd H l (.lst ys))
def qRaise (E : XK) (cls : Value) : TS := fun _ _ H => E cls none H

/-! ### max of three ints -/
def qMax3 : List V → Hp → VK → Prop := fun xs H Q => ∃ i j k, xs = [.int i, .int j, .int k] ∧ Q (.int (if k > (if j > i then j else i) then k else (if j > i then j else i))) H

/-! ### a constant of the module that is an int -/
theorem pe_globI {X : Cx} {x : Str} {n : Int} {pos : Pos} (hg : Gl X x) (hm : ∃ t, X.mg x = some (.int n t)) (hd : (x == ("__debug__" : Str)) = false := by decide) : PE X (.Name x pos) (tC (.int n)) := by
  obtain ⟨t, h⟩ := hm
  exact pe_glob hg h ⟨t, rfl⟩ hd

/-! ### xs[i] read for xs[i] += e -/
theorem get_listL {X : Cx} : PGet X (rIxL X.K) := by
  intro pins s σ H x y v u Q I rx ry h
  obtain ⟨p, xs, i, z, rfl, rfl, hq, he, q⟩ := h
  cases rx
  obtain ⟨t, rfl⟩ := ry
  obtain ⟨its, r, pl, hz⟩ := I.list hq
  obtain ⟨j, h1, h2, h3, h4, h5⟩ := atI_get he
  obtain ⟨w, ew, rw'⟩ := r.get h2
  have hl := r.length
  have hn := line63
  have fin : EP X pins σ Q w s := ⟨z, H, I, rw', q⟩
  by_cases h0 : 0 ≤ i
  · have hj : i.toNat = j := by
      rw [seqIndex_of h0 h5] at h1
      exact Option.some.inj h1
    exact wpAny_getItem_list pl.isList h0 (by omega) (by rw [hj]; simpa using ew) fin
  · have hj : (i + (its.toArray.size : Int)).toNat = j := by
      rw [seqIndex_neg (by omega) h4] at h1
      rw [List.size_toArray, ← hl]
      exact Option.some.inj h1
    exact wpAny_getItem_list_neg pl.isList (by omega) (by rw [List.size_toArray] <;> omega) (by omega) (by rw [hj]; simpa using ew) fin
end K11
/-! part K11B -/
namespace K11
open PySem PySem.Spec PyProof.Rows L2

theorem call_max3 {X : Cx} (hc : X.calm = true) : CallR X (.builtin "max") qMax3 := by
  intro pins s σ H xs us Q I r h
  obtain ⟨i, j, k, rfl, q⟩ := h
  cases r with
  | cons r1 r => cases r with
    | cons r2 r => cases r with
      | cons r3 r =>
        cases r
        obtain ⟨t1, rfl⟩ := r1
        obtain ⟨t2, rfl⟩ := r2
        obtain ⟨t3, rfl⟩ := r3
        refine max_three_ints (I.ok.hd hc) fun h' tk kp => ⟨_, H, I.kept kp, ?_, q⟩
        by_cases h1 : j > i
        · by_cases h2 : k > j
          · simp only [h1, h2, if_true]; exact ⟨_, rfl⟩
          · simp only [h1, h2, if_true, if_false]; exact ⟨_, rfl⟩
        · by_cases h2 : k > i
          · simp only [h1, h2, if_true, if_false]; exact ⟨_, rfl⟩
          · simp only [h1, h2, if_false]; exact ⟨_, rfl⟩

/-! ### a list (true) or a tuple (false), walked -/
def SqK (K : PySem.W.Frag) : Bool → Hp → Addr → List V → Prop
  | true => SqL K
  | false => SqT K
def ItK : Bool → Heap → Addr → Addr → Nat → Prop
  | true => fun h it a i => h.IsListIter it a i
  | false => fun h it a i => h.IsTupleIter it a i
def HoK : Bool → Heap → Addr → Array Value → Prop
  | true => fun h a its => h.IsList a its
  | false => fun h a its => h.IsTuple a its
theorem ItK.at {k : Bool} {h h' : Heap} {it a : Addr} {i : Nat} (x : ItK k h it a i) (e : ∀ o, h.get? it = some o → h'.get? it = some o) : ItK k h' it a i := by
  cases k with
  | true => exact Heap.IsListIter.at x e
  | false => exact Heap.IsTupleIter.at x e
theorem ItK.get {k : Bool} {h : Heap} {it a : Addr} {i : Nat} (x : ItK k h it a i) : ∃ o, h.get? it = some o ∧ ∀ v, o.data ≠ .cell v := by
  cases k with
  | true =>
    obtain ⟨o, e, _, d⟩ := x
    exact ⟨o, e, fun v z => by rw [d] at z; cases z⟩
  | false =>
    obtain ⟨o, e, _, d⟩ := x
    exact ⟨o, e, fun v z => by rw [d] at z; cases z⟩
theorem SqK.hold {X : Cx} {pins : List (Addr × Obj)} {σ : L2.St} {H : Hp} {s : Shared} {k : Bool} {a : Addr} {xs : List V} (I : Inv X pins σ H s) (h : SqK X.K k H a xs) :
    ∃ its : List Value, Vals xs its ∧ HoK k s.heap a its.toArray ∧ a < s.heap.objs.size := by
  cases k with
  | true =>
    obtain ⟨its, rv, p, _⟩ := I.list h
    exact ⟨its, rv, p.isList, p.lt⟩
  | false =>
    obtain ⟨its, rv, p, _⟩ := I.tuple h
    exact ⟨its, rv, p, p.lt⟩
theorem SqK.inj {X : Cx} {pins : List (Addr × Obj)} {σ : L2.St} {H : Hp} {s : Shared} {k : Bool} {a : Addr} {xs ys : List V} (I : Inv X pins σ H s) (h : SqK X.K k H a xs) (h' : SqK X.K k H a ys) : xs = ys := by
  cases k with
  | true => exact I.list_inj h h'
  | false => exact I.tuple_inj h h'
theorem drawsK {prog : Program} {w : World} {A : Around} (k : Bool) (hh : A.handled = none) (it a : Addr) (hne : a ≠ it) (its : Array Value) :
    Draws prog w A it [it, a] its.size (fun i v => its[i]? = some v) (fun i h => ItK k h it a i ∧ HoK k h a its) := by
  cases k with
  | true => exact Draws.list hh it a hne its
  | false => exact Draws.tuple hh it a hne its
def oIt : Bool → Addr → Obj
  | true => fun a => { cls := .type "list_iterator", data := .fields #[.ref a, .int 0 0] }
  | false => fun a => { cls := .type "tuple_iterator", data := .fields #[.ref a, .int 0 0] }
theorem beginsK (k : Bool) (a : Addr) (its : Array Value) : Begins (.ref a) (oIt k a) (fun h => HoK k h a its) := by
  cases k with
  | true => exact begins_list a its
  | false => exact begins_tuple a its
theorem oIt_it {k : Bool} {h : Heap} {it a : Addr} (e : h.get? it = some (oIt k a)) : ItK k h it a 0 := by
  cases k with
  | true => exact ⟨_, e, rfl, rfl⟩
  | false => exact ⟨_, e, rfl, rfl⟩
theorem get_of_vals {xs : List V} {its : List Value} (rv : Vals xs its) {i : Nat} {x : V} (hx : xs[i]? = some x) {u : Value} (hu : its.toArray[i]? = some u) : RelV x u := by
  obtain ⟨u', h1, h2⟩ := rv.get hx
  have e : its[i]? = some u := by simpa using hu
  rw [h1] at e
  cases e
  exact h2

/-! ### zip of two -/
def ItZ2 (K : PySem.W.Frag) (k1 k2 : Bool) (a b : Addr) : It :=
  ⟨fun i H => ∃ (xs ys : List V) (x y : V), SqK K k1 H a xs ∧ SqK K k2 H b ys ∧ xs[i]? = some x ∧ ys[i]? = some y,
    fun i H v H' => ∃ T x y, v = .ref T ∧ H T = none ∧ H' = upd H T (.tup [x, y]) ∧ (∀ xs, SqK K k1 H a xs → xs[i]? = some x) ∧ ∀ ys, SqK K k2 H b ys → ys[i]? = some y,
    fun i H => ∃ xs ys : List V, SqK K k1 H a xs ∧ SqK K k2 H b ys ∧ i ≤ xs.length ∧ i ≤ ys.length ∧ (i = xs.length ∨ i = ys.length)⟩
theorem turn_zip2K {P : Program} {w : World} {K : PySem.W.Frag} {elts : List Expr} {kk : Nat} {tpos : Pos} (k1 k2 : Bool) {a b z TI TO i1 i2 : Addr}
    (S : ∀ c d : Addr, c = a → d = b → ZipSep2 z TI TO i1 i2 [i1, c] [i2, d]) (n1 : a ≠ i1) (n2 : b ≠ i2) :
    Turn P w K (.Tuple elts kk tpos) (ItZ2 K k1 k2 a b) [z, TI, TO, i1, i2] z
      (fun i h => IsZip h z TI TO .none ∧ IsTupOf2 h TI (.ref i1) (.ref i2) ∧ (∃ x y, IsTupOf2 h TO x y) ∧ ItK k1 h i1 a i ∧ ItK k2 h i2 b i) where
  mem := by simp
  obj := fun i h st c hc => by
    obtain ⟨hz, hTI, ⟨x, y, hTO⟩, h1, h2⟩ := st
    have e' : c = z ∨ c = TI ∨ c = TO ∨ c = i1 ∨ c = i2 := by simpa using hc
    rcases e' with q | q | q | q | q
    · rw [q]; exact ⟨_, hz, fun v q => nomatch q⟩
    · rw [q]; exact ⟨_, hTI, fun v q => nomatch q⟩
    · rw [q]; exact ⟨_, hTO, fun v q => nomatch q⟩
    · rw [q]; exact h1.get
    · rw [q]; exact h2.get
  keep := fun i h h' st k => by
    obtain ⟨hz, hTI, ⟨x, y, hTO⟩, h1, h2⟩ := st
    exact ⟨k z (by simp) _ hz, k TI (by simp) _ hTI, ⟨x, y, k TO (by simp) _ hTO⟩, h1.at fun o q => k i1 (by simp) o q, h2.at fun o q => k i2 (by simp) o q⟩
  item := by
    intro X hP hw hK hc i pins s σ H E I hf st hg
    subst hP hw hK
    obtain ⟨hz, hTI, ⟨x0, y0, hTO⟩, h1, h2⟩ := st
    obtain ⟨xs, ys, x, y, hqx, hqy, hx, hy⟩ := hg
    obtain ⟨its, rv, p, la⟩ := hqx.hold I
    obtain ⟨its2, rv2, p2, lb⟩ := hqy.hold I
    have hh : X.A.in1.handled = none := I.ok.hd hc
    have S' := S a b rfl rfl
    have hzl : z < s.heap.objs.size := Heap.lt_size hz
    have l1 : i < its.toArray.size := by
      have q := (List.getElem?_eq_some_iff.mp hx).1
      rw [rv.length] at q
      simpa using q
    have l2 : i < its2.toArray.size := by
      have q := (List.getElem?_eq_some_iff.mp hy).1
      rw [rv2.length] at q
      simpa using q
    refine wpAny_pyNext_zipD2_item S' (drawsK k1 hh i1 a n1 its.toArray) (drawsK k2 hh i2 b n2 its2.toArray) hz hTI hTO ⟨h1, p⟩ ⟨h2, p2⟩ l1 l2 fun u u2 h' tk ju ju2 z' TO' s1 s2 hT hsz hk => ?_
    have ru := get_of_vals rv hx ju
    have ru2 := get_of_vals rv2 hy ju2
    refine ⟨_, rfl, wpAny_letOwnedTupleGo_zip (s := { s with heap := h', toks := tk }) z' fun h'' z'' sb => ?_⟩
    have hT2 : h''.get? s.heap.objs.size = some { cls := .type "tuple", data := .seq #[u, u2] } := (sb.2 _ (Nat.ne_of_gt hzl)).trans hT
    have new : ObjOk X.prog X.w (upd H s.heap.objs.size (.tup [x, y])) h'' s.heap.objs.size (.tup [x, y]) :=
      ⟨by show 2 ≤ sizeLine; decide, [u, u2], .cons ru (.cons ru2 .nil), ⟨_, hT2, rfl, _, rfl⟩⟩
    have I1 : Inv X pins σ (upd H s.heap.objs.size (.tup [x, y])) { s with heap := h'', toks := tk } :=
      I.turnedNew (ch := [z, TI, TO, i1, i2]) (fun c o hb q => (sb.2 c (fun q' => hb (by simp [q']))).trans (hk c o (fun q' => hb (by simp [q'])) (fun q' => hb (by simp [q'])) (fun q' => hb (by simp [q'])) (fun q' => hb (by simp [q'])) q)) hf (Nat.le_refl _) new
    refine ⟨.ref s.heap.objs.size, _, I1, rfl, ⟨_, x, y, rfl, I.hok.fresh (Nat.le_refl _), rfl, fun l hl => by rw [SqK.inj I hl hqx]; exact hx, fun l hl => by rw [SqK.inj I hl hqy]; exact hy⟩, ⟨z'', ?_, ⟨u, u2, ?_⟩, ?_, ?_⟩, fun c hcm => ?_⟩
    · exact (sb.2 _ S'.TIz).trans (hk _ _ S'.TIz S'.TITO S'.TIi1 S'.TIi2 hTI)
    · exact (sb.2 _ S'.TOz).trans TO'
    · exact s1.1.at fun o q => (sb.2 _ (Ne.symm S'.zi1)).trans q
    · exact s2.1.at fun o q => (sb.2 _ (Ne.symm S'.zi2)).trans q
    · have hlt : c < s.heap.objs.size := by
        have e' : c = z ∨ c = TI ∨ c = TO ∨ c = i1 ∨ c = i2 := by simpa using hcm
        rcases e' with q | q | q | q | q
        · rw [q]; exact hzl
        · rw [q]; exact Heap.lt_size hTI
        · rw [q]; exact Heap.lt_size hTO
        · rw [q]; obtain ⟨_, e1, _⟩ := h1.get; exact Heap.lt_size e1
        · rw [q]; obtain ⟨_, e2, _⟩ := h2.get; exact Heap.lt_size e2
      rw [upd_ne (Nat.ne_of_lt hlt)]
      exact (hf c hcm).1
  done := by
    intro X hP hw hK hc i pins s σ H E I hf st hg
    subst hP hw hK
    obtain ⟨hz, hTI, ⟨x0, y0, hTO⟩, h1, h2⟩ := st
    obtain ⟨xs, ys, hqx, hqy, hi1, hi2, hend⟩ := hg
    obtain ⟨its, rv, p, _⟩ := hqx.hold I
    obtain ⟨its2, rv2, p2, _⟩ := hqy.hold I
    have hh : X.A.in1.handled = none := I.ok.hd hc
    have l1 := rv.length
    have l2 := rv2.length
    refine wpAny_pyNext_zipD2_end (S a b rfl rfl) (drawsK k1 hh i1 a n1 its.toArray) (drawsK k2 hh i2 b n2 its2.toArray) hz hTI hTO ⟨h1, p⟩ ⟨h2, p2⟩ (by simp; omega) (by simp; omega) (by simp; omega) fun h' tk hk => ⟨rfl, I.turnedL (t' := tk) (ch := [z, TI, TO, i1, i2]) (fun c o hb q =>
      hk c o (fun q' => hb (by simp [q'])) (fun q' => hb (by simp [q'])) (fun q' => hb (by simp [q'])) (fun q' => hb (by simp [q'])) q) hf⟩
  self := fun A i s Q E st h => wpAny_pyIter_zip st.1 h
def iZip2K (K : PySem.W.Frag) (k1 k2 : Bool) (ta : TA) : TI := fun σ H R => ta σ H fun vs H1 => ∃ a b xs ys, vs = [.ref a, .ref b] ∧ SqK K k1 H1 a xs ∧ SqK K k2 H1 b ys ∧ R (ItZ2 K k1 k2 a b) H1
theorem fresh_fp {X : Cx} {pins : List (Addr × Obj)} {σ : L2.St} {H : Hp} {s : Shared} (I : Inv X pins σ H s) {c : Addr} (h : s.heap.objs.size ≤ c) : FpOk X pins H c := I.fpOk h (I.hok.fresh h)
theorem pi_zip2K {X : Cx} {e e2 : Expr} {ta : TA} {p pos tpos : Pos} {elts : List Expr} {kk : Nat} (k1 k2 : Bool) (hg : Gl X "zip") (hm : X.mg "zip" = none) (ha : PA X [e, e2] ta)
    (hs : starEach [e, e2] X.env = (false, eval e X.env) :: starEach [e2] X.env := by rfl) (hpl : (backTo pos (starEach [e2] X.env)).any (·.1) = false := by rfl) :
    PI X (.Tuple elts kk tpos) (.Call (.Name "zip" p) [e, e2] [] pos) (iZip2K X.K k1 k2 ta) := by
  refine ⟨fun pins s σ H R I h => ?_⟩
  refine Call_ (ld_blt I hg hm PyProof.Rows.boot_zip (PyProof.Rows.callWith_type1 (thn (ha.run pos pins s σ H _ I h) fun us s1 ⟨vs, H1, I1, r1, q1⟩ => ?_) hs hpl))
  obtain ⟨a, b, xs, ys, ex, hqx, hqy, q⟩ := q1
  subst ex
  cases r1 with
  | cons r rr => cases rr with
    | cons r' rr =>
      cases rr
      cases r
      cases r'
      obtain ⟨its, rv, p1, la⟩ := hqx.hold I1
      obtain ⟨its2, rv2, p2, lb⟩ := hqy.hold I1
      refine zip_begins2 (beginsK k1 a its.toArray) (beginsK k2 b its2.toArray) p1 p2 fun h' hz hTI hTO h1 h2 hsz hk => wpAny_pyIter_zip hz ?_
      have I2 : Inv X pins σ H1 { s1 with heap := h' } := I1.kept (t' := s1.toks) hk
      refine ⟨s1.heap.objs.size + 4, [s1.heap.objs.size + 4, s1.heap.objs.size + 2, s1.heap.objs.size + 3, s1.heap.objs.size, s1.heap.objs.size + 1], _, _, H1, rfl, I2,
        turn_zip2K k1 k2 (fun c d hc hd => zip_sep2 (fp1 := [c]) (fp2 := [d]) (fun z hz => ?_) (fun z hz => ?_)) (Nat.ne_of_lt la) (Nat.ne_of_lt (Nat.lt_succ_of_lt lb)), ⟨hz, hTI, ⟨_, _, hTO⟩, oIt_it h1, oIt_it h2⟩, fun c hcm => ?_, q⟩
      · rw [List.mem_singleton.mp hz, hc]; exact la
      · rw [List.mem_singleton.mp hz, hd]; exact lb
      · have e' : c = s1.heap.objs.size + 4 ∨ c = s1.heap.objs.size + 2 ∨ c = s1.heap.objs.size + 3 ∨ c = s1.heap.objs.size ∨ c = s1.heap.objs.size + 1 := by simpa using hcm
        have hle : s1.heap.objs.size ≤ c := by
          rcases e' with z | z | z | z | z
          · rw [z]; exact Nat.le_add_right _ _
          · rw [z]; exact Nat.le_add_right _ _
          · rw [z]; exact Nat.le_add_right _ _
          · rw [z]; exact Nat.le_refl _
          · rw [z]; exact Nat.le_add_right _ _
        exact fresh_fp I1 hle
theorem walk_zip2K {K : PySem.W.Frag} {k1 k2 : Bool} {a b : Addr} {xs ys : List V} {n : Nat} (h1 : xs.length = n) (h2 : ys.length = n) :
    Walk (ItZ2 K k1 k2 a b) n (fun H => SqK K k1 H a xs ∧ SqK K k2 H b ys) (YPair (fun i => xs[i]?) (fun i => ys[i]?)) := by
  refine ⟨fun i _ hi q => ?_, fun _ q => ⟨xs, ys, q.1, q.2, by omega, by omega, by omega⟩, fun i H v H' _ q y => ?_⟩
  · have l1 : i < xs.length := by omega
    have l2 : i < ys.length := by omega
    exact ⟨xs, ys, xs[i], ys[i], q.1, q.2, by simp [l1], by simp [l2]⟩
  · obtain ⟨T, x, y, h1, h2, h3, h4, h5⟩ := y
    exact ⟨T, x, y, h1, h2, h3, h4 xs q.1, h5 ys q.2⟩
end K11
/-! part K11C -/
namespace K11
open PySem PySem.Spec PyProof.Rows L2

/-! ### zip of three -/
def ItZ3 (K : PySem.W.Frag) (k1 k2 k3 : Bool) (a b c : Addr) : It :=
  ⟨fun i H => ∃ (xs ys zs : List V) (x y z : V), SqK K k1 H a xs ∧ SqK K k2 H b ys ∧ SqK K k3 H c zs ∧ xs[i]? = some x ∧ ys[i]? = some y ∧ zs[i]? = some z,
    fun i H v H' => ∃ T x y z, v = .ref T ∧ H T = none ∧ H' = upd H T (.tup [x, y, z]) ∧ (∀ xs, SqK K k1 H a xs → xs[i]? = some x) ∧ (∀ ys, SqK K k2 H b ys → ys[i]? = some y) ∧ ∀ zs, SqK K k3 H c zs → zs[i]? = some z,
    fun i H => ∃ xs ys zs : List V, SqK K k1 H a xs ∧ SqK K k2 H b ys ∧ SqK K k3 H c zs ∧ i ≤ xs.length ∧ i ≤ ys.length ∧ i ≤ zs.length ∧ (i = xs.length ∨ i = ys.length ∨ i = zs.length)⟩
theorem turn_zip3K {P : Program} {w : World} {K : PySem.W.Frag} {elts : List Expr} {kk : Nat} {tpos : Pos} (k1 k2 k3 : Bool) {a b d z TI TO i1 i2 i3 : Addr}
    (S : ∀ a' b' d' : Addr, a' = a → b' = b → d' = d → ZipSep3 z TI TO i1 i2 i3 [i1, a'] [i2, b'] [i3, d']) (n1 : a ≠ i1) (n2 : b ≠ i2) (n3 : d ≠ i3) :
    Turn P w K (.Tuple elts kk tpos) (ItZ3 K k1 k2 k3 a b d) [z, TI, TO, i1, i2, i3] z
      (fun i h => IsZip h z TI TO .none ∧ IsTupOf3 h TI (.ref i1) (.ref i2) (.ref i3) ∧ (∃ x y u, IsTupOf3 h TO x y u) ∧ ItK k1 h i1 a i ∧ ItK k2 h i2 b i ∧ ItK k3 h i3 d i) where
  mem := by simp
  obj := fun i h st c hc => by
    obtain ⟨hz, hTI, ⟨x, y, u, hTO⟩, h1, h2, h3⟩ := st
    have e' : c = z ∨ c = TI ∨ c = TO ∨ c = i1 ∨ c = i2 ∨ c = i3 := by simpa using hc
    rcases e' with q | q | q | q | q | q
    · rw [q]; exact ⟨_, hz, fun v q => nomatch q⟩
    · rw [q]; exact ⟨_, hTI, fun v q => nomatch q⟩
    · rw [q]; exact ⟨_, hTO, fun v q => nomatch q⟩
    · rw [q]; exact h1.get
    · rw [q]; exact h2.get
    · rw [q]; exact h3.get
  keep := fun i h h' st k => by
    obtain ⟨hz, hTI, ⟨x, y, u, hTO⟩, h1, h2, h3⟩ := st
    exact ⟨k z (by simp) _ hz, k TI (by simp) _ hTI, ⟨x, y, u, k TO (by simp) _ hTO⟩, h1.at fun o q => k i1 (by simp) o q, h2.at fun o q => k i2 (by simp) o q, h3.at fun o q => k i3 (by simp) o q⟩
  item := by
    intro X hP hw hK hc i pins s σ H E I hf st hg
    subst hP hw hK
    obtain ⟨hz, hTI, ⟨x0, y0, u0, hTO⟩, h1, h2, h3⟩ := st
    obtain ⟨xs, ys, zs, x, y, v, hqx, hqy, hqz, hx, hy, hv⟩ := hg
    obtain ⟨its, rv, p, la⟩ := hqx.hold I
    obtain ⟨its2, rv2, p2, lb⟩ := hqy.hold I
    obtain ⟨its3, rv3, p3, ld⟩ := hqz.hold I
    have hh : X.A.in1.handled = none := I.ok.hd hc
    have S' := S a b d rfl rfl rfl
    have hzl : z < s.heap.objs.size := Heap.lt_size hz
    have l1 : i < its.toArray.size := by
      have q := (List.getElem?_eq_some_iff.mp hx).1
      rw [rv.length] at q
      simpa using q
    have l2 : i < its2.toArray.size := by
      have q := (List.getElem?_eq_some_iff.mp hy).1
      rw [rv2.length] at q
      simpa using q
    have l3 : i < its3.toArray.size := by
      have q := (List.getElem?_eq_some_iff.mp hv).1
      rw [rv3.length] at q
      simpa using q
    refine wpAny_pyNext_zipD3_item S' (drawsK k1 hh i1 a n1 its.toArray) (drawsK k2 hh i2 b n2 its2.toArray) (drawsK k3 hh i3 d n3 its3.toArray) hz hTI hTO ⟨h1, p⟩ ⟨h2, p2⟩ ⟨h3, p3⟩ l1 l2 l3 fun u u2 u3 h' tk ju ju2 ju3 z' TO' s1 s2 s3 hT hsz hk => ?_
    have ru := get_of_vals rv hx ju
    have ru2 := get_of_vals rv2 hy ju2
    have ru3 := get_of_vals rv3 hv ju3
    refine ⟨_, rfl, wpAny_letOwnedTupleGo_zip (s := { s with heap := h', toks := tk }) z' fun h'' z'' sb => ?_⟩
    have hT2 : h''.get? s.heap.objs.size = some { cls := .type "tuple", data := .seq #[u, u2, u3] } := (sb.2 _ (Nat.ne_of_gt hzl)).trans hT
    have new : ObjOk X.prog X.w (upd H s.heap.objs.size (.tup [x, y, v])) h'' s.heap.objs.size (.tup [x, y, v]) :=
      ⟨by show 3 ≤ sizeLine; decide, [u, u2, u3], .cons ru (.cons ru2 (.cons ru3 .nil)), ⟨_, hT2, rfl, _, rfl⟩⟩
    have I1 : Inv X pins σ (upd H s.heap.objs.size (.tup [x, y, v])) { s with heap := h'', toks := tk } :=
      I.turnedNew (ch := [z, TI, TO, i1, i2, i3]) (fun c o hb q => (sb.2 c (fun q' => hb (by simp [q']))).trans (hk c o (fun q' => hb (by simp [q'])) (fun q' => hb (by simp [q'])) (fun q' => hb (by simp [q'])) (fun q' => hb (by simp [q'])) (fun q' => hb (by simp [q'])) q)) hf (Nat.le_refl _) new
    refine ⟨.ref s.heap.objs.size, _, I1, rfl, ⟨_, x, y, v, rfl, I.hok.fresh (Nat.le_refl _), rfl, fun l hl => by rw [SqK.inj I hl hqx]; exact hx, fun l hl => by rw [SqK.inj I hl hqy]; exact hy, fun l hl => by rw [SqK.inj I hl hqz]; exact hv⟩, ⟨z'', ?_, ⟨u, u2, u3, ?_⟩, ?_, ?_, ?_⟩, fun c hcm => ?_⟩
    · exact (sb.2 _ S'.TIz).trans (hk _ _ S'.TIz S'.TITO S'.TIi1 S'.TIi2 S'.TIi3 hTI)
    · exact (sb.2 _ S'.TOz).trans TO'
    · exact s1.1.at fun o q => (sb.2 _ (Ne.symm S'.zi1)).trans q
    · exact s2.1.at fun o q => (sb.2 _ (Ne.symm S'.zi2)).trans q
    · exact s3.1.at fun o q => (sb.2 _ (Ne.symm S'.zi3)).trans q
    · have hlt : c < s.heap.objs.size := by
        have e' : c = z ∨ c = TI ∨ c = TO ∨ c = i1 ∨ c = i2 ∨ c = i3 := by simpa using hcm
        rcases e' with q | q | q | q | q | q
        · rw [q]; exact hzl
        · rw [q]; exact Heap.lt_size hTI
        · rw [q]; exact Heap.lt_size hTO
        · rw [q]; obtain ⟨_, e1, _⟩ := h1.get; exact Heap.lt_size e1
        · rw [q]; obtain ⟨_, e2, _⟩ := h2.get; exact Heap.lt_size e2
        · rw [q]; obtain ⟨_, e3, _⟩ := h3.get; exact Heap.lt_size e3
      rw [upd_ne (Nat.ne_of_lt hlt)]
      exact (hf c hcm).1
  done := by
    intro X hP hw hK hc i pins s σ H E I hf st hg
    subst hP hw hK
    obtain ⟨hz, hTI, ⟨x0, y0, u0, hTO⟩, h1, h2, h3⟩ := st
    obtain ⟨xs, ys, zs, hqx, hqy, hqz, hi1, hi2, hi3, hend⟩ := hg
    obtain ⟨its, rv, p, _⟩ := hqx.hold I
    obtain ⟨its2, rv2, p2, _⟩ := hqy.hold I
    obtain ⟨its3, rv3, p3, _⟩ := hqz.hold I
    have hh : X.A.in1.handled = none := I.ok.hd hc
    have l1 := rv.length
    have l2 := rv2.length
    have l3 := rv3.length
    refine wpAny_pyNext_zipD3_end (S a b d rfl rfl rfl) (drawsK k1 hh i1 a n1 its.toArray) (drawsK k2 hh i2 b n2 its2.toArray) (drawsK k3 hh i3 d n3 its3.toArray) hz hTI hTO ⟨h1, p⟩ ⟨h2, p2⟩ ⟨h3, p3⟩ (by simp; omega) (by simp; omega) (by simp; omega) (by simp; omega) fun h' tk hk => ⟨rfl, I.turnedL (t' := tk) (ch := [z, TI, TO, i1, i2, i3]) (fun c o hb q =>
      hk c o (fun q' => hb (by simp [q'])) (fun q' => hb (by simp [q'])) (fun q' => hb (by simp [q'])) (fun q' => hb (by simp [q'])) (fun q' => hb (by simp [q'])) q) hf⟩
  self := fun A i s Q E st h => wpAny_pyIter_zip st.1 h
def iZip3K (K : PySem.W.Frag) (k1 k2 k3 : Bool) (ta : TA) : TI := fun σ H R => ta σ H fun vs H1 => ∃ a b d xs ys zs, vs = [.ref a, .ref b, .ref d] ∧ SqK K k1 H1 a xs ∧ SqK K k2 H1 b ys ∧ SqK K k3 H1 d zs ∧ R (ItZ3 K k1 k2 k3 a b d) H1
theorem pi_zip3K {X : Cx} {e e2 e3 : Expr} {ta : TA} {p pos tpos : Pos} {elts : List Expr} {kk : Nat} (k1 k2 k3 : Bool) (hg : Gl X "zip") (hm : X.mg "zip" = none) (ha : PA X [e, e2, e3] ta)
    (hs : starEach [e, e2, e3] X.env = (false, eval e X.env) :: starEach [e2, e3] X.env := by rfl) (hpl : (backTo pos (starEach [e2, e3] X.env)).any (·.1) = false := by rfl) :
    PI X (.Tuple elts kk tpos) (.Call (.Name "zip" p) [e, e2, e3] [] pos) (iZip3K X.K k1 k2 k3 ta) := by
  refine ⟨fun pins s σ H R I h => ?_⟩
  refine Call_ (ld_blt I hg hm PyProof.Rows.boot_zip (PyProof.Rows.callWith_type1 (thn (ha.run pos pins s σ H _ I h) fun us s1 ⟨vs, H1, I1, r1, q1⟩ => ?_) hs hpl))
  obtain ⟨a, b, d, xs, ys, zs, ex, hqx, hqy, hqz, q⟩ := q1
  subst ex
  cases r1 with
  | cons r rr => cases rr with
    | cons r' rr => cases rr with
      | cons r'' rr =>
        cases rr
        cases r
        cases r'
        cases r''
        obtain ⟨its, rv, p1, la⟩ := hqx.hold I1
        obtain ⟨its2, rv2, p2, lb⟩ := hqy.hold I1
        obtain ⟨its3, rv3, p3, ld⟩ := hqz.hold I1
        refine zip_begins3 (beginsK k1 a its.toArray) (beginsK k2 b its2.toArray) (beginsK k3 d its3.toArray) p1 p2 p3 fun h' hz hTI hTO h1 h2 h3 hsz hk => wpAny_pyIter_zip hz ?_
        have I2 : Inv X pins σ H1 { s1 with heap := h' } := I1.kept (t' := s1.toks) hk
        refine ⟨s1.heap.objs.size + 5, [s1.heap.objs.size + 5, s1.heap.objs.size + 3, s1.heap.objs.size + 4, s1.heap.objs.size, s1.heap.objs.size + 1, s1.heap.objs.size + 2], _, _, H1, rfl, I2,
          turn_zip3K k1 k2 k3 (fun a' b' d' ha' hb' hd' => zip_sep3 (fp1 := [a']) (fp2 := [b']) (fp3 := [d']) (fun z hz => ?_) (fun z hz => ?_) (fun z hz => ?_)) (Nat.ne_of_lt la) (Nat.ne_of_lt (Nat.lt_succ_of_lt lb)) (Nat.ne_of_lt (Nat.lt_succ_of_lt (Nat.lt_succ_of_lt ld))), ⟨hz, hTI, ⟨_, _, _, hTO⟩, oIt_it h1, oIt_it h2, oIt_it h3⟩, fun c hcm => ?_, q⟩
        · rw [List.mem_singleton.mp hz, ha']; exact la
        · rw [List.mem_singleton.mp hz, hb']; exact lb
        · rw [List.mem_singleton.mp hz, hd']; exact ld
        · have e' : c = s1.heap.objs.size + 5 ∨ c = s1.heap.objs.size + 3 ∨ c = s1.heap.objs.size + 4 ∨ c = s1.heap.objs.size ∨ c = s1.heap.objs.size + 1 ∨ c = s1.heap.objs.size + 2 := by simpa using hcm
          have hle : s1.heap.objs.size ≤ c := by
            rcases e' with z | z | z | z | z | z
            · rw [z]; exact Nat.le_add_right _ _
            · rw [z]; exact Nat.le_add_right _ _
            · rw [z]; exact Nat.le_add_right _ _
            · rw [z]; exact Nat.le_refl _
            · rw [z]; exact Nat.le_add_right _ _
            · rw [z]; exact Nat.le_add_right _ _
          exact fresh_fp I1 hle
/-- a new triple of the i-th items -/
def YTrip (xs ys zs : Nat → Option V) : Nat → Hp → V → Hp → Prop := fun i H v H' => ∃ T x y z, v = .ref T ∧ H T = none ∧ H' = upd H T (.tup [x, y, z]) ∧ xs i = some x ∧ ys i = some y ∧ zs i = some z
theorem walk_zip3K {K : PySem.W.Frag} {k1 k2 k3 : Bool} {a b d : Addr} {xs ys zs : List V} {n : Nat} (h1 : xs.length = n) (h2 : ys.length = n) (h3 : zs.length = n) :
    Walk (ItZ3 K k1 k2 k3 a b d) n (fun H => SqK K k1 H a xs ∧ SqK K k2 H b ys ∧ SqK K k3 H d zs) (YTrip (fun i => xs[i]?) (fun i => ys[i]?) (fun i => zs[i]?)) := by
  refine ⟨fun i _ hi q => ?_, fun _ q => ⟨xs, ys, zs, q.1, q.2.1, q.2.2, by omega, by omega, by omega, by omega⟩, fun i H v H' _ q y => ?_⟩
  · have l1 : i < xs.length := by omega
    have l2 : i < ys.length := by omega
    have l3 : i < zs.length := by omega
    exact ⟨xs, ys, zs, xs[i], ys[i], zs[i], q.1, q.2.1, q.2.2, by simp [l1], by simp [l2], by simp [l3]⟩
  · obtain ⟨T, x, y, z, h1, h2, h3, h4, h5, h6⟩ := y
    exact ⟨T, x, y, z, h1, h2, h3, h4 xs q.1, h5 ys q.2.1, h6 zs q.2.2⟩

/-! ### enumerate of a list or a tuple -/
def ItEK (K : PySem.W.Frag) (k : Bool) (a : Addr) : It :=
  ⟨fun i H => ∃ (xs : List V) (x : V), SqK K k H a xs ∧ xs[i]? = some x, fun i H v H' => ∃ T x, v = .ref T ∧ H T = none ∧ H' = upd H T (.tup [.int (i : Nat), x]) ∧ ∀ xs, SqK K k H a xs → xs[i]? = some x, fun i H => ∃ xs : List V, SqK K k H a xs ∧ i = xs.length⟩
theorem turn_enumK {P : Program} {w : World} {K : PySem.W.Frag} {elts : List Expr} {kk : Nat} {tpos : Pos} (k : Bool) (a e it : Addr) (n1 : a ≠ it) (n2 : a ≠ e) (hne : e ≠ it) :
    Turn P w K (.Tuple elts kk tpos) (ItEK K k a) [e, it] e (fun i h => (∃ old, IsEnum h e it ((i : Nat) : Int) old) ∧ ItK k h it a i) where
  mem := by simp
  obj := fun i h st b hb => by
    obtain ⟨⟨old, he⟩, hi⟩ := st
    have e' : b = e ∨ b = it := by simpa using hb
    rcases e' with z | z
    · rw [z]; exact ⟨_, he, fun v q => nomatch q⟩
    · rw [z]; exact hi.get
  keep := fun i h h' st k => let ⟨⟨old, he⟩, hi⟩ := st; ⟨⟨old, k e (by simp) _ he⟩, hi.at fun o q => k it (by simp) o q⟩
  item := by
    intro X hP hw hK hc i pins s σ H E I hf st hg
    subst hP hw hK
    obtain ⟨⟨old, he⟩, hit⟩ := st
    obtain ⟨xs, x, hq, hx⟩ := hg
    obtain ⟨its, rv, p, la⟩ := hq.hold I
    have hh : X.A.in1.handled = none := I.ok.hd hc
    have hel : e < s.heap.objs.size := Heap.lt_size he
    have l1 : i < its.toArray.size := by
      have q := (List.getElem?_eq_some_iff.mp hx).1
      rw [rv.length] at q
      simpa using q
    have hef : e ∉ [it, a] := by
      simp only [List.mem_cons, List.not_mem_nil, or_false, not_or]
      exact ⟨hne, Ne.symm n2⟩
    refine wpAny_pyNext_enum_itemC (drawsK k hh it a n1 its.toArray) he ⟨hit, p⟩ l1 hne hef fun u h' tk ju ho st' hT hsz hk => ?_
    have ru := get_of_vals rv hx ju
    refine ⟨_, rfl, wpAny_letOwnedTupleGo_enum (s := { s with heap := h', toks := tk + 1 }) ho fun h'' he' sb => ?_⟩
    have hT2 : h''.get? s.heap.objs.size = some { cls := .type "tuple", data := .seq #[.int i tk, u] } := (sb.2 _ (Nat.ne_of_gt hel)).trans hT
    have new : ObjOk X.prog X.w (upd H s.heap.objs.size (.tup [.int (i : Nat), x])) h'' s.heap.objs.size (.tup [.int (i : Nat), x]) :=
      ⟨by show 2 ≤ sizeLine; decide, [.int i tk, u], .cons ⟨_, rfl⟩ (.cons ru .nil), ⟨_, hT2, rfl, _, rfl⟩⟩
    have I1 : Inv X pins σ (upd H s.heap.objs.size (.tup [.int (i : Nat), x])) { s with heap := h'', toks := tk + 1 } :=
      I.turnedNew (ch := [e, it]) (fun b ob hb q => (sb.2 b (fun z => hb (by simp [z]))).trans (hk b ob (fun z => hb (by simp [z])) (fun z => hb (by simp [z])) q)) hf (Nat.le_refl _) new
    refine ⟨.ref s.heap.objs.size, _, I1, rfl, ⟨_, x, rfl, I.hok.fresh (Nat.le_refl _), rfl, fun ys hy => by rw [SqK.inj I hy hq]; exact hx⟩, ⟨⟨u, ?_⟩, st'.1.at fun o q => (sb.2 it (Ne.symm hne)).trans q⟩, fun b hb => ?_⟩
    · have e1 : ((i + 1 : Nat) : Int) = (i : Int) + 1 := by omega
      rw [e1]; exact he'
    · have hb' : b < s.heap.objs.size := by
        have e' : b = e ∨ b = it := by simpa using hb
        rcases e' with z | z
        · rw [z]; exact hel
        · rw [z]; obtain ⟨_, e1, _⟩ := hit.get; exact Heap.lt_size e1
      rw [upd_ne (Nat.ne_of_lt hb')]
      exact (hf b hb).1
  done := by
    intro X hP hw hK hc i pins s σ H E I hf st hg
    subst hP hw hK
    obtain ⟨⟨old, he⟩, hit⟩ := st
    obtain ⟨xs, hq, hx⟩ := hg
    obtain ⟨its, rv, p, _⟩ := hq.hold I
    have hh : X.A.in1.handled = none := I.ok.hd hc
    have hl : i = its.toArray.size := by
      rw [hx, rv.length]
      simp
    refine wpAny_pyNext_enum_endD (drawsK k hh it a n1 its.toArray) he (by rw [← hl]; exact ⟨hit, p⟩) fun h' eb => ⟨rfl, I.turnedL (t' := s.toks) (ch := [e, it]) (fun b o hb q => eb b o (fun z => hb (by simp [z])) q) hf⟩
  self := fun A i s Q E st h => let ⟨⟨_, he⟩, _⟩ := st; wpAny_pyIter_enum he h
def iEnumK (K : PySem.W.Frag) (k : Bool) (ta : TA) : TI := fun σ H R => ta σ H fun vs H1 => ∃ a xs, vs = [.ref a] ∧ SqK K k H1 a xs ∧ R (ItEK K k a) H1
end K11
/-! part K11D -/
namespace K11
open PySem PySem.Spec PyProof.Rows L2

theorem meets_enum1 {v : Value} {o : Obj} {H : Heap → Prop} (B : Begins v o H) :
    Meets (Builtin.«enumerate.__new__» ⟨[.type "enumerate", v], []⟩) (fun _ R s => H s.heap ∧
      R (.ok (.ret (.ref (s.heap.push o).objs.size))) { s with heap := (s.heap.push o).push { cls := .type "enumerate", data := .fields #[.none, .bool false, .ref s.heap.objs.size, rawInt 0, .none, .none] } }) :=
  .of_wp fun prog w A R s h => by
    obtain ⟨hp, g, d, tk, os⟩ := s; obtain ⟨h1, h⟩ := h
    have hsub := sub_enumerate
    have q1 : ∀ {A' : Around} {E : Value → Shared → Prop} {Q : Value → Shared → Prop}, Q (.ref hp.objs.size) ⟨hp.push o, g, d, tk, os⟩ → wpAny (model prog w) A' (pyIter v) Q E ⟨hp, g, d, tk, os⟩ :=
      fun q => B.iter prog w _ _ ⟨hp, g, d, tk, os⟩ _ h1 q
    wp_walk using q1
    refine wpAny_stack_any fun st => wpAny_pure ?_
    split
    · rename_i c _ _ _ _ _
      cases (c == Value.type "enumerate")
      · wp_walk using q1
        exact ⟨_, rfl, h⟩
      · wp_walk using q1
        exact ⟨_, rfl, h⟩
    · wp_walk using q1
      exact ⟨_, rfl, h⟩
theorem enum_begins1 {prog : Program} {w : World} {A : Around} {E : Value → Shared → Prop} {s : Shared} {v : Value} {o : Obj} {H : Heap → Prop} {Q : Value → Shared → Prop} (B : Begins v o H) (h1 : H s.heap)
    (h : ∀ h', IsEnum h' (s.heap.objs.size + 1) s.heap.objs.size 0 .none → h'.get? s.heap.objs.size = some o → h'.objs.size = s.heap.objs.size + 2 →
      (∀ b o, s.heap.get? b = some o → h'.get? b = some o) → Q (.ref (s.heap.objs.size + 1)) { s with heap := h' }) :
    wpAny (model prog w) A (call (.type "enumerate") [v]) Q E s := by
  refine callType_new F.called_enumerate (by decide) (F.typeCall_enumerate_1 _) (F.newCall_enumerate_1 _) (fun obj => F.args_object_init_2 obj _) F.entry_enumerate_new (meets_enum1 B) ⟨h1, ?_⟩
  have hz : (s.heap.push o).objs.size = s.heap.objs.size + 1 := Heap.size_push ..
  show _ ∧ _
  rw [hz]
  have he : IsEnum ((s.heap.push o).push { cls := .type "enumerate", data := .fields #[.none, .bool false, .ref s.heap.objs.size, rawInt 0, .none, .none] }) (s.heap.objs.size + 1) s.heap.objs.size 0 .none := by
    have z := Heap.get?_push_size (s.heap.push o) (o := { cls := .type "enumerate", data := .fields #[.none, .bool false, .ref s.heap.objs.size, rawInt 0, .none, .none] }) rfl
    rw [hz] at z; exact z
  refine ⟨⟨_, he, rfl⟩, h _ he (Heap.get?_push_of_some _ (Heap.get?_push_size _ B.free)) (by rw [Heap.size_push, hz]) fun b o x => Heap.get?_push_of_some _ (Heap.get?_push_of_some _ x)⟩
theorem pi_enumK {X : Cx} {e : Expr} {ta : TA} {p pos tpos : Pos} {elts : List Expr} {kk : Nat} (k : Bool) (hg : Gl X "enumerate") (hm : X.mg "enumerate" = none) (ha : PA X [e] ta) (hs : starEach [e] X.env = [(false, eval e X.env)] := by rfl) :
    PI X (.Tuple elts kk tpos) (.Call (.Name "enumerate" p) [e] [] pos) (iEnumK X.K k ta) := by
  refine ⟨fun pins s σ H R I h => ?_⟩
  refine Call_ (ld_blt I hg hm boot_enumerate (PyProof.Rows.callWith_type1 (thn (ha.run pos pins s σ H _ I h) fun us s1 ⟨vs, H1, I1, r1, q1⟩ => ?_) hs rfl))
  obtain ⟨a, xs, ex, hq, q⟩ := q1
  subst ex
  cases r1 with
  | cons r rr =>
    cases rr
    cases r
    obtain ⟨its, rv, p', la⟩ := hq.hold I1
    refine enum_begins1 (beginsK k a its.toArray) p' fun h' he hit hsz hk => wpAny_pyIter_enum he ?_
    have I2 : Inv X pins σ H1 { s1 with heap := h' } := I1.kept (t' := s1.toks) hk
    refine ⟨s1.heap.objs.size + 1, [s1.heap.objs.size + 1, s1.heap.objs.size], _, _, H1, rfl, I2, turn_enumK k a (s1.heap.objs.size + 1) s1.heap.objs.size (Nat.ne_of_lt la) (Nat.ne_of_lt (Nat.lt_succ_of_lt la)) (Nat.succ_ne_self _), ⟨⟨.none, he⟩, oIt_it hit⟩, fun b hb => ?_, q⟩
    have e' : b = s1.heap.objs.size + 1 ∨ b = s1.heap.objs.size := by simpa using hb
    have hle : s1.heap.objs.size ≤ b := by
      rcases e' with z | z
      · rw [z]; exact Nat.le_add_right _ _
      · rw [z]; exact Nat.le_refl _
    exact fresh_fp I1 hle
theorem walk_enumK {K : PySem.W.Frag} {k : Bool} {a : Addr} {xs : List V} {n : Nat} (h1 : xs.length = n) : Walk (ItEK K k a) n (fun H => SqK K k H a xs) (YPair (fun i => some (.int (i : Nat))) (fun i => xs[i]?)) := by
  refine ⟨fun i _ hi q => ⟨xs, xs[i]'(by omega), q, by simp [h1, hi]⟩, fun _ q => ⟨xs, q, h1.symm⟩, fun i H v H' _ q y => ?_⟩
  obtain ⟨T, x, h1, h2, h3, h4⟩ := y
  exact ⟨T, .int (i : Nat), x, h1, h2, h3, rfl, h4 xs q⟩

/-! ### sorted of a list that reads as data -/
/-- the items' places: js says where each sorted item stood -/
def qSort (K : PySem.W.Frag) : List V → Hp → VK → Prop := fun vs H Q => ∃ (a : Addr) (xs : List V) (ds : List PyData), vs = [.ref a] ∧ SqL K H a xs ∧ DpAll K H xs ds ∧ PySem.W.AllAlike ds ∧ PySem.W.Sortable ds ∧ xs.length ≤ 1000 ∧
  (∀ d ∈ ds, d.depth ≤ 8) ∧ ∀ (p : Addr) (ys : List (V × PyData)), H p = none → ys = (xs.zip ds).mergeSort (PySem.W.dataLe false fun z : V × PyData => z.2) → Q (.ref p) (upd H p (.lst (ys.map (·.1))))
theorem dpAll_len {K : PySem.W.Frag} {H : Hp} : ∀ {xs : List V} {ds : List PyData}, DpAll K H xs ds → xs.length = ds.length
  | _, _, .nil => rfl
  | _, _, .cons _ t => by rw [List.length_cons, List.length_cons, dpAll_len t]
end K11
/-! part K11E -/
namespace K11
open PySem PySem.Spec PyProof.Rows L2

theorem each_zip {R : Value → V × PyData → Prop} : ∀ {us : List Value} {xs : List V} {ds : List PyData}, xs.length = ds.length → us.length = xs.length →
    (∀ (i : Nat) u x d, us[i]? = some u → xs[i]? = some x → ds[i]? = some d → R u (x, d)) → PySem.W.EachIs R us (xs.zip ds)
  | [], [], [], _, _, _ => .nil
  | u :: us, x :: xs, d :: ds, h1, h2, h => by
    refine .cons (h 0 u x d rfl rfl rfl) (each_zip (by simpa using h1) (by simpa using h2) fun i u' x' d' a b c => h (i + 1) u' x' d' (by simpa using a) (by simpa using b) (by simpa using c))
theorem vals_of_each {us : List Value} {bs : List (V × PyData)} (h : PySem.W.EachIs (fun v b => RelV b.1 v) us bs) : Vals (bs.map (·.1)) us := by
  induction h with
  | nil => exact .nil
  | cons r t ih => exact .cons r ih
theorem dpAll_get {K : PySem.W.Frag} {H : Hp} : ∀ {xs : List V} {ds : List PyData}, DpAll K H xs ds → ∀ (i : Nat) x d, xs[i]? = some x → ds[i]? = some d → Dp K H x d
  | _, _, .nil, i, x, d, h, _ => by simp at h
  | _, _, .cons h t, 0, x, d, a, b => by
    simp at a b
    subst a b
    exact h
  | _, _, .cons h t, i + 1, x, d, a, b => dpAll_get t i x d (by simpa using a) (by simpa using b)
theorem call_sortD {X : Cx} (hu : X.A.units + 64 < cLine) (hc : X.calm = true) : CallR X (.builtin "sorted") (qSort X.K) := by
  intro pins s σ H vs us Q I r h
  obtain ⟨a, xs, ds, rfl, hs, hd, hal, hk, hl, hdep, q⟩ := h
  obtain ⟨its, rv, pl, _⟩ := I.list hs
  rw [Vals.ref1 r]
  have e1 : xs.length = ds.length := dpAll_len hd
  have e2 : its.length = xs.length := rv.length.symm
  have em : (xs.zip ds).map (fun z : V × PyData => z.2) = ds := List.map_snd_zip (by omega)
  have hR : PySem.W.EachIs (fun (v : Value) (b : V × PyData) => RelV b.1 v) its (xs.zip ds) := each_zip e1 e2 fun i u x d a b c => by
    obtain ⟨u', h1, h2⟩ := rv.get b
    rw [a] at h1
    cases h1
    exact h2
  have hE : PySem.W.EachIs (fun (v : Value) (b : V × PyData) => ∃ as, Reads s.heap v b.2 as) its (xs.zip ds) := each_zip e1 e2 fun i u x d a b c => by
    obtain ⟨u', h1, h2⟩ := rv.get b
    rw [a] at h1
    cases h1
    exact Dp.reads I d x u (dpAll_get hd i x d b c) h2
  have hz : (xs.zip ds).length = xs.length := by rw [List.length_zip]; omega
  refine PySem.W.sorted_data (enc := fun z : V × PyData => z.2) (R := fun v b => RelV b.1 v) pl.isList hR hE (by rw [em]; exact hal) (by rw [em]; exact hk) (by rw [hz, sizeLine_eq]; omega) (fun b hb => ?_) fun out hlen hout => ?_
  · have h1 : b.2 ∈ ds := by
      rw [← em]
      exact List.mem_map.mpr ⟨b, hb, rfl⟩
    have h2 := hdep _ h1
    omega
  · obtain ⟨ep, he'⟩ := PyProof.Rows.sortedAll_at s.heap its out.toArray
    have hn : ((xs.zip ds).mergeSort (PySem.W.dataLe false fun z : V × PyData => z.2)).length = xs.length := by rw [List.length_mergeSort, hz]
    exact ⟨.ref _, upd H (s.heap.objs.size + 1) (.lst (((xs.zip ds).mergeSort (PySem.W.dataLe false fun z : V × PyData => z.2)).map (·.1))), I.laid (t' := s.toks) (fun _ _ => PyProof.Rows.sortedAll_old) (Nat.le_succ _)
      ⟨by rw [List.length_map, hn, sizeLine_eq]; omega, out, ep, vals_of_each hout, he'⟩, rfl, q _ _ (I.hok.fresh (Nat.le_succ _)) rfl⟩
end K11
/-! part K11F -/
namespace K11
open PySem PySem.Spec PyProof.Rows L2
abbrev PP : Program := PySem.Challenge.pw_twotides_k11_whole_ticks
def top (i : Nat) : Stmt := PySem.Challenge.pw_twotides_k11_whole_ticks.main.body.getD i (.Pass ⟨0, 0, 0, 0⟩)

/-! ### an own error whose __init__ says super().__init__('..'), with no argument -/
abbrev veB : List Value := [.type "ValueError", .type "Exception", .type "BaseException", .type "object"]
/-- what the written part says of such a class -/
structure ErrT (K : PySem.W.Frag) (mg : Str → Option Value) (x : Str) (st : Stmt) (C fI : Addr) : Prop where
  gC : mg x = some (.ref C)
  kC : PySem.W.keepIn K (.ref C) = true
  exI : PySem.W.excInitIn K C veB "ValueError.__new__" = true
  iC : PySem.W.findIn K (.ref C) "__init__" = some (some (.ref fI))
  tI : PySem.W.typeIn K (.ref fI) = some (.type "function")
  fn : ∃ (oc : Value) (od : Option Addr) (osl : Array (Option Value)) (doc pm ct : Value) (an : Option Addr) (cda cc : Addr),
    K.lookup fI = some ⟨oc, od, .func (PySem.W.fnX "__init__" (x ++ ".__init__") (defArgs st) (defBody st) (defScope st) [("__class__", cc)] .none .none doc pm an (.ref cda) ct), osl⟩ ∧
    PySem.W.codeIn K (.ref cda) (x ++ ".__init__") = true ∧
    (∃ (ccl : Value) (cdd : Option Addr) (vs : Array Value) (ccs : Array (Option Value)) (file : Str) (tf : Tok), K.lookup cda = some ⟨ccl, cdd, .fields vs, ccs⟩ ∧ vs[2]? = some (.str file tf) ∧ ((PP.main.file : Str) == file) = true) ∧
    ∃ (cl : Value) (cld : Option Addr) (csl : Array (Option Value)), K.lookup cc = some ⟨cl, cld, .cell (some (.ref C)), csl⟩
  st : PySem.W.nsIn K cStatics "thirdparty.any" = some none
  cD : ∃ cd, PySem.W.clsIn K C = some cd ∧ PySem.W.alongIn K "__init__" ((cd.mro.dropWhile (· != .ref C)).drop 1) = some (some (.builtin "ValueError.__init__"))
  sV : PySem.W.subIn K (.ref C) (.type "ValueError") = some true
  sC : PySem.W.mroIn K C (.ref C) = some true
  sB : PySem.W.subIn K (.ref C) (.type "BaseException") = some true
  tC : PySem.W.typeIn K (.ref C) = some (.type "type")
  sup : mg "super" = none
/-- what the __init__ says -/
structure ErrS (st : Stmt) : Prop where
  ar : ∃ ar : Arg, (defArgs st).posonlyargs ++ (defArgs st).args = [ar] ∧ ar.arg = "self"
  bd : ∃ (p0 p1 p2 p3 p4 p5 : Pos) (j : Nat) (m : Str), defBody st = [.Expr (.Call (.Attribute (.Call (.Name "super" p0) [] [] p1) "__init__" p2) [.Constant (.str m) j p3] [] p4) p5] ∧ (p2.endLine == p4.line) = true
  bind : ∀ (f cc : Addr) (cda ct doc pm : Value) (an : Option Addr) (q : Str) (u : Value), bindArgs (PySem.W.fnX "__init__" q (defArgs st) (defBody st) (defScope st) [("__class__", cc)] .none .none doc pm an cda ct) ⟨[u], []⟩ = pure ([(("self" : Str), u)] : List (Str × Value))
  ks : (defScope st).names.lookup ("super" : Str) = some .globalImplicit
  kc : (defScope st).names.lookup ("__class__" : Str) = some .free
  ka : (defScope st).names.lookup ("self" : Str) = some .local
  kk : (defScope st).kind = .function
  nc : ∀ x ∈ (defScope st).names, x.2 ≠ .cell
  co : (defScope st).isCoroutine = false
  ge : (defScope st).isGenerator = false
theorem super_ev (env : Env) (p0 p1 p2 p3 p4 : Pos) (j : Nat) (m : Str) (hl : (p2.endLine == p4.line) = true) : eval (.Call (.Attribute (.Call (.Name "super" p0) [] [] p1) "__init__" p2) [.Constant (.str m) j p3] [] p4) env = (do
      let ov ← attributeBase (.Call (.Name "super" p0) [] [] p1) "__init__" env (eval (.Call (.Name "super" p0) [] [] p1) env)
      standAt p2.atName
      let (f, first) ← holding [ov] (getMethod ov "__init__" (do return (← importBound (.Call (.Name "super" p0) [] [] p1) env).getD true))
      callWith p4 f first (backTo p4 (starEach [.Constant (.str m) j p3] env)) []) := by
  show (do
      let ov ← attributeBase (.Call (.Name "super" p0) [] [] p1) "__init__" env (eval (.Call (.Name "super" p0) [] [] p1) env)
      standAt p2.atName
      methodCall (.Call (.Name "super" p0) [] [] p1) "__init__" p2 p4 env ov 1 (backTo p4 (starEach [.Constant (.str m) j p3] env)) []) = _
  have hf : methodCallForm 1 (backTo p4 (starEach [.Constant (.str m) j p3] env)) [] = true := rfl
  have hp : methodCallPos true (.Call (.Name "super" p0) [] [] p1) env p2 p4 = pure p4 := by
    unfold methodCallPos
    rw [hl]
    rfl
  unfold methodCall calleeOf
  rw [hf, hp]
  rfl
theorem htop_super : (PP.main.scope.names.lookup ("super" : Str)).isSome = false := by decide +kernel

theorem excO_of {x C : Addr} {t : Addr} : (PySem.W.excObj C t none .none) = PySem.HandSPX.excO C t := rfl
theorem err_init {w : World} {K : PySem.W.Frag} {mg : Str → Option Value} {base : Heap} {x : Str} {st : Stmt} {C fI e t0 : Addr} {A : Around} {R : Result → Shared → Prop} {hp : Heap} {g : Array GenState} {dr : Drawn} {tk : Nat} {os : OsState}
    (T : ErrT K mg x st C fI) (S : ErrS st) (md : Mod K mg base) (bk : ∀ b o, base.get? b = some o → hp.get? b = some o) (room : A.depth < recursionLimit) (he : hp.get? e = some (PySem.HandSPX.excO C t0)) 
    (hq : ∀ h' t1 tk', (∀ b o, b ≠ e → hp.get? b = some o → h'.get? b = some o) → h'.get? e = some (PySem.HandSPX.excO C t1) → R (.ok (.ret .none)) ⟨h', g, dr, tk', os⟩) :
    codeAny (model PP w) A (.call (.ref fI) ⟨[.ref e], []⟩) R ⟨hp, g, dr, tk, os⟩ := by
  obtain ⟨oc, od, osl, doc, pm, ct, an, cda, cc, hf, hcd, ⟨ccl, cdd, vs, ccs, file, tf, hcode, hvs, hfile⟩, cl, cld, csl, hcell⟩ := T.fn
  obtain ⟨ar, ear, ear2⟩ := S.ar
  obtain ⟨p0, p1, p2, p3, p4, p5, j, m, ebd, epp⟩ := S.bd
  have kin : K.In hp := md.kin.keeps bk
  refine ks_codeAny_call_defAt (fd := PySem.W.fnX "__init__" (x ++ ".__init__") (defArgs st) (defBody st) (defScope st) [("__class__", cc)] .none .none doc pm an (.ref cda) ct) (body := defBody st) (binds := [("self", .ref e)]) room (kin _ _ hf) rfl (md.nolimit.keeps bk)
    (PySem.W.codeRec_of kin hcd) rfl (BindsTo.of_looks fun M => PySem.W.Looks.of_pure (S.bind fI cc _ _ _ _ _ _ _)) S.nc (fun y hy => by
      obtain rfl := List.mem_singleton.mp hy
      exact S.ka) (fun h₁ hns k1 => ?_) S.co S.ge S.kk
  have bk1 : ∀ b o, base.get? b = some o → h₁.get? b = some o := fun b o z => k1 b o (bk b o z)
  have kin1 : K.In h₁ := md.kin.keeps bk1
  rw [ebd]
  refine ks_wpAt_execs_cons (ks_wpAt_Expr_any (ks_wpAt_MethodCall ?_ (super_ev _ p0 p1 p2 p3 p4 j m epp)) (by show ((defScope st).kind == ScopeKind.module && _) = false; rw [S.kk]; rfl))
  obtain ⟨cd, hcls, hal⟩ := T.cD
  have hC1 : ∃ oD, h₁.get? C = some oD ∧ oD.data = .cls cd := by
    unfold PySem.W.clsIn at hcls
    split at hcls
    · rename_i c d cd' sl ho
      cases hcls
      exact ⟨_, kin1 _ _ ho, rfl⟩
    · cases hcls
  obtain ⟨oD, hD1, hD2⟩ := hC1
  obtain ⟨mb, hmb, hbb⟩ := md.blt
  have he1 : h₁.get? e = some (PySem.HandSPX.excO C t0) := k1 _ _ he
  refine ks_wpAt_super_base (f := fI) (cc := cda) S.ks S.kc (by decide) rfl (kin1 _ _ hf) rfl (ar := ar) (by show ((defArgs st).posonlyargs ++ (defArgs st).args).head? = _; rw [ear]; rfl) rfl (kin1 _ _ hcode) rfl hvs hfile htop_super ?_
  refine PySem.W.ks_loadName_global S.kk S.ks (PySem.Calls.loadGlobal_builtin (mg := mg) (mb := mb) (md.glob.keeps bk1) T.sup (hmb.keeps bk1) (v := .type "super") ((hbb _ (by decide)).trans (by first | rfl | kernel_rfl)) ⟨rfl, ?_⟩)
  refine wpAny_loadName_free (c := cc) S.kk S.kc rfl ⟨_, kin1 _ _ hcell, rfl⟩ ?_
  rw [ear2]
  refine wpAny_loadName_local S.kk S.ka hns rfl ?_
  refine ks_wpAny_isType_cls hD1 hD2 ⟨rfl, ?_⟩
  refine ks_wpAny_call_super hD1 hD2 he1 rfl (fun c z => nomatch z) (PySem.W.looks_mroIn kin1 T.sC) (fun h2 eso k2 => ?_)
  have kin2 : K.In h2 := kin1.keeps k2
  have he2 : h2.get? e = some (PySem.HandSPX.excO C t0) := k2 _ _ he1
  have hI2 : PySem.W.Looks (model PP w) h2 (isInstance (.ref e) (.type "ValueError")) true := fun A Q E s k q => by
    unfold isInstance
    refine wpAny_bind (wpAny_typeOf_ref (k _ _ he2) ?_)
    exact (PySem.W.looks_subIn kin2 T.sV) A Q E s k q
  refine PySem.W.kxs_getMethod PySem.W.kxs_ValueError eso (PySem.W.looks_opaque kin2 T.st) (l₀ := cd.mro) (fun A Q E s k q => wpAny_bind ((PySem.W.looks_clsIn kin2 hcls) A _ E s k (wpAny_pure q))) rfl kin2 hal hI2 (fun z => ?_) (by decide) ?_
  · subst z
    rw [hD1] at he1
    cases he1
    cases hD2
  · have h3 : (h2.push (PySem.W.kxs_mw "ValueError.__init__" e)).get? h2.objs.size = some (PySem.W.kxs_mw "ValueError.__init__" e) := Heap.get?_push_size _ rfl
    have he3 : (h2.push (PySem.W.kxs_mw "ValueError.__init__" e)).get? e = some (PySem.HandSPX.excO C t0) := Heap.get?_push_of_some _ he2
    have k3 : ∀ b o, hp.get? b = some o → (h2.push (PySem.W.kxs_mw "ValueError.__init__" e)).get? b = some o := fun b o z => Heap.get?_push_of_some _ (k2 _ _ (k1 _ _ z))
    have kin3 : K.In (h2.push (PySem.W.kxs_mw "ValueError.__init__" e)) := kin.keeps k3
    refine PySem.W.kxs_callWith (i := "ValueError.__init__") (x := e) rfl ?_
    refine PySem.Calls.evalArgs_plain (PySem.Calls.spliced_cons (PySem.Calls.Constant_str (k := j) (pos := p3) ?_))
    refine PySem.Calls.spliced_nil ⟨h3, ?_⟩
    obtain ⟨nm, N', qn, bs, bm, hdct, sn, sub, ab, col, dd, k0, k1', k2', k3', k5, hC, hT⟩ := PySem.W.excInit_of kin3 T.exI
    refine wpAny_call (codeAny_of_tree ?_)
    show wpAny _ _ (callAny (.ref h2.objs.size) ⟨_, []⟩) _ _ _
    simp only [callAny]
    refine wpAny_bind (wpAny_load h3 ?_)
    simp only [PySem.W.kxs_mw, show (Value.type "method-wrapper" == Value.type "method" || Value.type "method-wrapper" == Value.type "builtin_function_or_method" || Value.type "method-wrapper" == Value.type "method-wrapper") = true by decide, if_true]
    refine PySem.W.KFB.if_so (by decide) ?_
    refine wpAny_bind (PySem.W.check_bound_init F.excBase_ValueError.toExcCallFacts hC he3 rfl ?_)
    refine wpAny_bind (wpAny_pure (wpAny_pure ?_))
    refine ⟨plainId_quiet F.excBase_ValueError.init.plain _, codeAny_builtin F.excBase_ValueError.initEntry ?_⟩
    refine PySem.W.exc_init_tree (cls := .ref C) (t0 := t0) (dv := none) (c2 := .none) (c3 := .none) (b4 := .bool false) he3 (by show 1 ≤ sizeLine; decide) fun h' kk ex _ => ?_
    exact wpAt_of_wpAny (wpAny_execs_nil (hq h' _ _ (fun b o hb hbo => kk b o hb (k3 b o hbo)) ex))
end K11
/-! part K11U1 -/
set_option maxHeartbeats 1000000
namespace K11
open PySem PySem.Spec PyProof.Rows L2
/-! ### what is looked at behind the top: the own errors' __init__ -/
def exI (K : PySem.W.Frag) (x : Str) : Addr := He.ma K (He.ga K x) "__init__"
def fileB (K : PySem.W.Frag) (c : Addr) : Bool := match K.lookup c with
  | some ⟨_, _, .fields vs, _⟩ => (match (vs[2]? : Option Value) with
    | some (.str file _) => (PP.main.file : Str) == file
    | _ => false)
  | _ => false
def cellB (K : PySem.W.Frag) (cc C : Addr) : Bool := match K.lookup cc with
  | some ⟨_, _, .cell (some (.ref D)), _⟩ => decide (D = C)
  | _ => false
def restB (K : PySem.W.Frag) (x : Str) : Bool := match K.lookup (exI K x) with
  | some ⟨_, _, .func fd, _⟩ => (match fd.defaults, fd.kwdefaults, fd.code, fd.closure with
    | .none, .none, .ref c, [(_, cc)] => PySem.W.codeIn K (.ref c) (x ++ ".__init__") && (fileB K c && cellB K cc (He.ga K x))
    | _, _, _, _ => false)
  | _ => false
def alongB (K : PySem.W.Frag) (C : Addr) : Bool := match PySem.W.clsIn K C with
  | some cd => He.eqO (PySem.W.alongIn K "__init__" ((cd.mro.dropWhile (· != .ref C)).drop 1)) (some (some (.builtin "ValueError.__init__")))
  | none => false
def errB (K : PySem.W.Frag) (x : Str) : Bool :=
  PySem.W.keepIn K (.ref (He.ga K x)) && (PySem.W.excInitIn K (He.ga K x) veB "ValueError.__new__" && (He.eqO (PySem.W.findIn K (.ref (He.ga K x)) "__init__") (some (some (.ref (exI K x)))) &&
    (decide (PySem.W.typeIn K (.ref (exI K x)) = some (.type "function")) && (restB K x && (He.eqO (PySem.W.nsIn K cStatics "thirdparty.any") (some none) && (alongB K (He.ga K x) &&
      (decide (PySem.W.subIn K (.ref (He.ga K x)) (.type "ValueError") = some true) && (decide (PySem.W.mroIn K (He.ga K x) (.ref (He.ga K x)) = some true) &&
        (decide (PySem.W.subIn K (.ref (He.ga K x)) (.type "BaseException") = some true) && decide (PySem.W.typeIn K (.ref (He.ga K x)) = some (.type "type")))))))))))
abbrev FnY : Type := Option (Str × Str × Arguments × FuncBody × Scope × Addr × List Str × Addr)
def fnY (K : PySem.W.Frag) (x : Str) : FnY := match K.lookup (exI K x) with
  | some ⟨_, _, .func fd, _⟩ => some (fd.name, fd.qualname, fd.params, fd.body, fd.scope, fd.globals, fd.closure.map (·.1), fd.builtins)
  | _ => none
def valY (x : Str) (st : Stmt) : FnY := some ("__init__", x ++ ".__init__", defArgs st, .stmts (defBody st), defScope st, mainGlobals, ["__class__"], builtinsNs)
theorem fileB_ok {K : PySem.W.Frag} {c : Addr} (h : fileB K c = true) : ∃ (ccl : Value) (cdd : Option Addr) (vs : Array Value) (ccs : Array (Option Value)) (file : Str) (tf : Tok), K.lookup c = some ⟨ccl, cdd, .fields vs, ccs⟩ ∧ vs[2]? = some (.str file tf) ∧ ((PP.main.file : Str) == file) = true := by
  unfold fileB at h
  split at h
  · rename_i a b vs d e
    split at h
    · rename_i file tf e2
      exact ⟨_, _, vs, _, file, tf, e, e2, h⟩
    · cases h
  · cases h
theorem cellB_ok {K : PySem.W.Frag} {cc C : Addr} (h : cellB K cc C = true) : ∃ (cl : Value) (cld : Option Addr) (csl : Array (Option Value)), K.lookup cc = some ⟨cl, cld, .cell (some (.ref C)), csl⟩ := by
  unfold cellB at h
  split at h
  · rename_i a b D d e
    rw [of_decide_eq_true h] at e
    exact ⟨_, _, _, e⟩
  · cases h
theorem errT_of {K : PySem.W.Frag} {mg : Str → Option Value} {x : Str} {st : Stmt} (h : errB K x = true) (e : fnY K x = valY x st) (gC : mg x = some (.ref (He.ga K x))) (sup : mg "super" = none) : ErrT K mg x st (He.ga K x) (exI K x) := by
  unfold errB at h
  simp only [Bool.and_eq_true, decide_eq_true_eq] at h
  obtain ⟨h1, h2, h3, h4, h5, h6, h7, h8, h9, h10, h11⟩ := h
  refine ⟨gC, h1, h2, He.eqO_ok h3, h4, ?_, He.eqO_ok h6, ?_, h8, h9, h10, h11, sup⟩
  · unfold restB at h5
    unfold fnY valY at e
    split at h5
    · rename_i oc od fd osl hl
      rw [hl] at e
      obtain ⟨name, qual, params, body, scope, globals, closure, dV, kV, doc, pm, an, cdv, ct, bn⟩ := fd
      split at h5
      · rename_i c n cc e1 e2 e3 e4
        simp only [Bool.and_eq_true] at h5
        obtain ⟨k1, k2, k3⟩ := h5
        simp only [Option.some.injEq, Prod.mk.injEq] at e
        dsimp only at e1 e2 e3 e4
        obtain ⟨r1, r2, r3, r4, r5, r6, r7, r8⟩ := e
        subst e1 e2 e3 e4 r1 r2 r3 r4 r5 r6 r8
        have r9 : n = ("__class__" : Str) := by
          have z : [n] = [("__class__" : Str)] := r7
          injection z
        subst r9
        exact ⟨oc, od, osl, doc, pm, ct, an, c, cc, hl, k1, fileB_ok k2, cellB_ok k3⟩
      · cases h5
    · cases h5
  · unfold alongB at h7
    split at h7
    · rename_i cd hc
      exact ⟨cd, hc, He.eqO_ok h7⟩
    · cases h7
end K11
/-! part K11U2 -/
set_option maxHeartbeats 0
namespace K11
open PySem PySem.Spec PyProof.Rows L2
def fn : List He.DefD := [⟨("is_integer", none), "is_integer", "is_integer", defArgs (top 7), defBody (top 7), defScope (top 7), [], []⟩, ⟨("is_between", none), "is_between", "is_between", defArgs (top 8), defBody (top 8), defScope (top 8), [], []⟩, ⟨("is_pair", none), "is_pair", "is_pair", defArgs (top 9), defBody (top 9), defScope (top 9), [], []⟩, ⟨("is_triple", none), "is_triple", "is_triple", defArgs (top 10), defBody (top 10), defScope (top 10), [], []⟩, ⟨("is_row", none), "is_row", "is_row", defArgs (top 11), defBody (top 11), defScope (top 11), [], []⟩, ⟨("is_lot", none), "is_lot", "is_lot", defArgs (top 12), defBody (top 12), defScope (top 12), [], []⟩, ⟨("divisor", none), "divisor", "divisor", defArgs (top 15), defBody (top 15), defScope (top 15), [], []⟩, ⟨("multiple", none), "multiple", "multiple", defArgs (top 16), defBody (top 16), defScope (top 16), [], []⟩, ⟨("made", none), "made", "made", defArgs (top 17), defBody (top 17), defScope (top 17), [], []⟩, ⟨("is_fraction", none), "is_fraction", "is_fraction", defArgs (top 18), defBody (top 18), defScope (top 18), [], []⟩, ⟨("is_below", none), "is_below", "is_below", defArgs (top 19), defBody (top 19), defScope (top 19), [], []⟩, ⟨("next_whole", none), "next_whole", "next_whole", defArgs (top 20), defBody (top 20), defScope (top 20), [], []⟩, ⟨("is_threshold", none), "is_threshold", "is_threshold", defArgs (top 26), defBody (top 26), defScope (top 26), [], []⟩, ⟨("is_list", none), "is_list", "is_list", defArgs (top 27), defBody (top 27), defScope (top 27), [], []⟩, ⟨("is_width", none), "is_width", "is_width", defArgs (top 28), defBody (top 28), defScope (top 28), [], []⟩, ⟨("parts_of_grain", none), "parts_of_grain", "parts_of_grain", defArgs (top 29), defBody (top 29), defScope (top 29), [], []⟩, ⟨("in_grains", none), "in_grains", "in_grains", defArgs (top 30), defBody (top 30), defScope (top 30), [], []⟩, ⟨("part_of", none), "part_of", "part_of", defArgs (top 31), defBody (top 31), defScope (top 31), [], []⟩, ⟨("is_filling", none), "is_filling", "is_filling", defArgs (top 33), defBody (top 33), defScope (top 33), [], []⟩, ⟨("check_filling", none), "check_filling", "check_filling", defArgs (top 34), defBody (top 34), defScope (top 34), [], []⟩, ⟨("check_opening", none), "check_opening", "check_opening", defArgs (top 35), defBody (top 35), defScope (top 35), [], []⟩, ⟨("drops_in_grains", none), "drops_in_grains", "drops_in_grains", defArgs (top 36), defBody (top 36), defScope (top 36), [], []⟩, ⟨("runs_at", none), "runs_at", "runs_at", defArgs (top 37), defBody (top 37), defScope (top 37), [], []⟩, ⟨("flows_of", none), "flows_of", "flows_of", defArgs (top 38), defBody (top 38), defScope (top 38), [], []⟩, ⟨("opened", none), "opened", "opened", defArgs (top 39), defBody (top 39), defScope (top 39), [], []⟩, ⟨("nets_of", none), "nets_of", "nets_of", defArgs (top 40), defBody (top 40), defScope (top 40), [], []⟩, ⟨("moved", none), "moved", "moved", defArgs (top 41), defBody (top 41), defScope (top 41), [], []⟩, ⟨("levels", none), "levels", "levels", defArgs (top 42), defBody (top 42), defScope (top 42), [], []⟩, ⟨("drops", none), "drops", "drops", defArgs (top 43), defBody (top 43), defScope (top 43), [], []⟩, ⟨("running", none), "running", "running", defArgs (top 44), defBody (top 44), defScope (top 44), [], []⟩, ⟨("flows", none), "flows", "flows", defArgs (top 45), defBody (top 45), defScope (top 45), [], []⟩, ⟨("tick", none), "tick", "tick", defArgs (top 46), defBody (top 46), defScope (top 46), [], []⟩, ⟨("nets", none), "nets", "nets", defArgs (top 47), defBody (top 47), defScope (top 47), [], []⟩, ⟨("are_widths", none), "are_widths", "are_widths", defArgs (top 51), defBody (top 51), defScope (top 51), [], []⟩, ⟨("is_pipe", none), "is_pipe", "is_pipe", defArgs (top 52), defBody (top 52), defScope (top 52), [], []⟩, ⟨("gauge", none), "gauge", "gauge", defArgs (top 53), defBody (top 53), defScope (top 53), [], []⟩, ⟨("_law_source", none), "_law_source", "_law_source", defArgs (top 56), defBody (top 56), defScope (top 56), [], []⟩, ⟨("_law_mixed", none), "_law_mixed", "_law_mixed", defArgs (top 57), defBody (top 57), defScope (top 57), [], []⟩, ⟨("_law_draw", none), "_law_draw", "_law_draw", defArgs (top 58), defBody (top 58), defScope (top 58), [], []⟩, ⟨("_law_pick", none), "_law_pick", "_law_pick", defArgs (top 59), defBody (top 59), defScope (top 59), [], []⟩, ⟨("_law_divisor", none), "_law_divisor", "_law_divisor", defArgs (top 60), defBody (top 60), defScope (top 60), [], []⟩, ⟨("_law_made", none), "_law_made", "_law_made", defArgs (top 61), defBody (top 61), defScope (top 61), [], []⟩, ⟨("_law_added", none), "_law_added", "_law_added", defArgs (top 62), defBody (top 62), defScope (top 62), [], []⟩, ⟨("_law_same", none), "_law_same", "_law_same", defArgs (top 63), defBody (top 63), defScope (top 63), [], []⟩, ⟨("_law_met", none), "_law_met", "_law_met", defArgs (top 64), defBody (top 64), defScope (top 64), [], []⟩, ⟨("_law_integer", none), "_law_integer", "_law_integer", defArgs (top 65), defBody (top 65), defScope (top 65), [], []⟩, ⟨("_law_deep", none), "_law_deep", "_law_deep", defArgs (top 66), defBody (top 66), defScope (top 66), [], []⟩, ⟨("_law_strange", none), "_law_strange", "_law_strange", defArgs (top 67), defBody (top 67), defScope (top 67), [], []⟩, ⟨("_law_in_order", none), "_law_in_order", "_law_in_order", defArgs (top 68), defBody (top 68), defScope (top 68), [], []⟩, ⟨("_law_steps", none), "_law_steps", "_law_steps", defArgs (top 69), defBody (top 69), defScope (top 69), [], []⟩, ⟨("_law_flow", none), "_law_flow", "_law_flow", defArgs (top 70), defBody (top 70), defScope (top 70), [], []⟩, ⟨("_law_widths", none), "_law_widths", "_law_widths", defArgs (top 71), defBody (top 71), defScope (top 71), [], []⟩, ⟨("_law_pipe", none), "_law_pipe", "_law_pipe", defArgs (top 72), defBody (top 72), defScope (top 72), [], []⟩, ⟨("_law_pipes", none), "_law_pipes", "_law_pipes", defArgs (top 73), defBody (top 73), defScope (top 73), [], []⟩, ⟨("_law_water", none), "_law_water", "_law_water", defArgs (top 74), defBody (top 74), defScope (top 74), [], []⟩, ⟨("_law_filling", none), "_law_filling", "_law_filling", defArgs (top 75), defBody (top 75), defScope (top 75), [], []⟩, ⟨("_law_opening", none), "_law_opening", "_law_opening", defArgs (top 76), defBody (top 76), defScope (top 76), [], []⟩, ⟨("_law_level", none), "_law_level", "_law_level", defArgs (top 77), defBody (top 77), defScope (top 77), [], []⟩, ⟨("_law_drop", none), "_law_drop", "_law_drop", defArgs (top 78), defBody (top 78), defScope (top 78), [], []⟩, ⟨("_law_flows", none), "_law_flows", "_law_flows", defArgs (top 79), defBody (top 79), defScope (top 79), [], []⟩, ⟨("_law_nets", none), "_law_nets", "_law_nets", defArgs (top 80), defBody (top 80), defScope (top 80), [], []⟩, ⟨("_law_behind", none), "_law_behind", "_law_behind", defArgs (top 81), defBody (top 81), defScope (top 81), [], []⟩, ⟨("_law_is_filling", none), "_law_is_filling", "_law_is_filling", defArgs (top 82), defBody (top 82), defScope (top 82), [], []⟩, ⟨("_law_is_opening", none), "_law_is_opening", "_law_is_opening", defArgs (top 83), defBody (top 83), defScope (top 83), [], []⟩, ⟨("_law_with", none), "_law_with", "_law_with", defArgs (top 84), defBody (top 84), defScope (top 84), [], []⟩, ⟨("_law_told", none), "_law_told", "_law_told", defArgs (top 85), defBody (top 85), defScope (top 85), [], []⟩, ⟨("_law_bad_filling", none), "_law_bad_filling", "_law_bad_filling", defArgs (top 86), defBody (top 86), defScope (top 86), [], []⟩, ⟨("_law_bad_opening", none), "_law_bad_opening", "_law_bad_opening", defArgs (top 87), defBody (top 87), defScope (top 87), [], []⟩, ⟨("_law_all_told", none), "_law_all_told", "_law_all_told", defArgs (top 88), defBody (top 88), defScope (top 88), [], []⟩, ⟨("_law_all_due", none), "_law_all_due", "_law_all_due", defArgs (top 89), defBody (top 89), defScope (top 89), [], []⟩, ⟨("law", none), "law", "law", defArgs (top 90), defBody (top 90), defScope (top 90), [], []⟩, ⟨("Web", some "__init__"), "__init__", "Web.__init__", defArgs (inClass (top 54) 0), defBody (inClass (top 54) 0), defScope (inClass (top 54) 0), [], []⟩, ⟨("Web", some "begin"), "begin", "Web.begin", defArgs (inClass (top 54) 1), defBody (inClass (top 54) 1), defScope (inClass (top 54) 1), [], []⟩]
def fa : List He.Fa := [.glo "TidesError", .glo "NoSorts", .glo "NoFilling", .glo "NoOpening", .glo "is_integer", .glo "is_between", .glo "is_pair", .glo "is_triple", .glo "is_row", .glo "is_lot", .glo "divisor", .glo "multiple", .glo "made", .glo "is_fraction", .glo "is_below", .glo "next_whole", .glo "is_threshold", .glo "is_list", .glo "is_width", .glo "parts_of_grain", .glo "in_grains", .glo "part_of", .glo "is_filling", .glo "check_filling", .glo "check_opening", .glo "drops_in_grains", .glo "runs_at", .glo "flows_of", .glo "opened", .glo "nets_of", .glo "moved", .glo "levels", .glo "drops", .glo "running", .glo "flows", .glo "tick", .glo "nets", .glo "are_widths", .glo "is_pipe", .glo "gauge", .glo "Web", .glo "_law_source", .glo "_law_mixed", .glo "_law_draw", .glo "_law_pick", .glo "_law_divisor", .glo "_law_made", .glo "_law_added", .glo "_law_same", .glo "_law_met", .glo "_law_integer", .glo "_law_deep", .glo "_law_strange", .glo "_law_in_order", .glo "_law_steps", .glo "_law_flow", .glo "_law_widths", .glo "_law_pipe", .glo "_law_pipes", .glo "_law_water", .glo "_law_filling", .glo "_law_opening", .glo "_law_level", .glo "_law_drop", .glo "_law_flows", .glo "_law_nets", .glo "_law_behind", .glo "_law_is_filling", .glo "_law_is_opening", .glo "_law_with", .glo "_law_told", .glo "_law_bad_filling", .glo "_law_bad_opening", .glo "_law_all_told", .glo "_law_all_due", .glo "law", .glo "NOUGHT", .int "MOST_THRESHOLDS" 6, .int "MOST_TOP" 1000000, .int "MOST_BOTTOM" 144, .int "MOST_WIDTH" 12, .int "MOST_VESSELS" 12, .int "MOST_PIPES" 36, .free "abs", .free "all", .free "any", .free "bool", .free "enumerate", .free "int", .free "isinstance", .free "len", .free "list", .free "max", .free "range", .free "sorted", .free "str", .free "super", .free "tuple", .free "zip", .cls "Web", .noat "Web" "widths", .noat "Web" "pipes", .noat "Web" "gauges", .meth "Web" "begin", .mkr "Web", .exm "NoFilling" "TidesError" true, .exm "NoOpening" "TidesError" true]
abbrev R : PySem.W.OpenRow := PySem.W.OpenLaw.row PySem.Challenge.rw_twotides_k11_whole_ticks
def tf : List He.Defn := [("_law_all_told", none)]
def excB (K : PySem.W.Frag) (x : Str) : Bool :=
  He.eqO (PySem.W.findIn K (.ref (He.ga K x)) "__getattribute__") (some (some (.builtin "BaseException.__getattribute__"))) && (He.eqO (PySem.W.findIn K (.ref (He.ga K x)) "__getattr__") (some none) &&
    (decide (PySem.W.subIn K (.ref (He.ga K x)) (.type "BaseException") = some true) && (PySem.W.hasDictIn K (He.ga K x) && (He.eqO (PySem.W.findIn K (.ref (He.ga K x)) "__class__") (some (some (.builtin "object.__class__"))) &&
      (He.eqO (PySem.W.specialIn K (.builtin "object.__class__") "__get__") (some (some (.builtin "getset_descriptor.__get__"))) && (decide (PySem.W.takesIn K (.builtin "object.__class__") = some true) && decide (PySem.W.mroIn K (He.ga K x) (.type "object") = some true)))))))
def kitB2 (K : PySem.W.Frag) (x y : Str) (b : Bool) : Bool := decide (PySem.W.kitOne K (.ref (He.ga K x)) (.ref (He.ga K y)) = some b)
def webB (K : PySem.W.Frag) : Bool :=
  He.eqO (PySem.W.findIn K (.ref (He.ga K "Web")) "__class__") (some (some (.builtin "object.__class__"))) && (decide (PySem.W.mroIn K (He.ga K "Web") (.type "object") = some true) &&
    (decide (PySem.W.kitOne K (.ref (He.ga K "Web")) (.type "tuple") = some false) && (decide (PySem.W.kitOne K (.ref (He.ga K "Web")) (.type "int") = some false) && decide (PySem.W.kitOne K (.ref (He.ga K "Web")) (.type "bool") = some false))))
def exB (K : PySem.W.Frag) : Bool :=
  He.tupB K "NOUGHT" [.int 0, .int 1] && (webB K && (excB K "NoFilling" && (excB K "NoOpening" && (kitB2 K "NoFilling" "NoFilling" true && (kitB2 K "NoFilling" "NoOpening" false && (kitB2 K "NoFilling" "NoSorts" false &&
    (kitB2 K "NoOpening" "NoFilling" false && (kitB2 K "NoOpening" "NoOpening" true && kitB2 K "NoOpening" "NoSorts" false))))))))
def asY (g : Addr → Option Obj) : Nat → List Addr
  | 0 => [mainGlobals, cStatics]
  | n + 1 => He.growD g (asY g n)
abbrev AlY : Type := (He.AlT × Bool) × (Bool × List FnY)
def obsY (g : Addr → Option Obj) : AlY :=
  ((He.obsT fa fn [] (He.frT g (asY g 5)), exB (He.frT g (asY g 5)) && He.tabsB g tf (He.frT g (asY g 5))), (errB (He.frT g (asY g 5)) "NoFilling" && errB (He.frT g (asY g 5)) "NoOpening", [fnY (He.frT g (asY g 5)) "NoFilling", fnY (He.frT g (asY g 5)) "NoOpening"]))
def valA (w : World) : AlY := ((He.valT fn [] w, true), (true, [valY "NoFilling" (inClass (top 4) 0), valY "NoOpening" (inClass (top 5) 0)]))
structure SaysY (w : World) (h : Heap) (K : PySem.W.Frag) : Prop where
  x : He.SaysX fa fn [] tf exB w h K
  eF : errB K "NoFilling" = true
  eO : errB K "NoOpening" = true
  fF : fnY K "NoFilling" = valY "NoFilling" (inClass (top 4) 0)
  fO : fnY K "NoOpening" = valY "NoOpening" (inClass (top 5) 0)
theorem saysX_at {as : List Addr} {w : World} {h : Heap} (e1 : He.obsT fa fn [] (He.frT h.get? as) = He.valT fn [] w) (e2 : (exB (He.frT h.get? as) && He.tabsB h.get? tf (He.frT h.get? as)) = true) : He.SaysX fa fn [] tf exB w h (He.frT h.get? as) := by
  obtain ⟨h1, h2⟩ := He.ba e2
  have look : ∀ p ∈ tf, ∃ o, PySem.W.codeHdIn (He.frT h.get? as) (He.cT (He.frT h.get? as) p).1 (He.cT (He.frT h.get? as) p).2 = true ∧ h.get? (He.cT (He.frT h.get? as) p).2 = some o ∧ He.emptyTab o = true := by
    intro p hp
    obtain ⟨h3, h4⟩ := He.ba (List.all_eq_true.mp h2 p hp)
    split at h4
    · rename_i o ho
      exact ⟨o, h3, ho, h4⟩
    · cases h4
  refine ⟨e1, h1, fun p hp => ?_, fun p hp => ?_, fun p hp => ?_⟩
  · obtain ⟨o, a, _, _⟩ := look p hp
    exact a
  · obtain ⟨o, _, b, c⟩ := look p hp
    exact He.frT_none b c
  · obtain ⟨o, _, b, c⟩ := look p hp
    rw [b, He.emptyTab_eq c]
def hookY : PySem.W.Hook where
  α := AlY
  obs := fun s => obsY s.heap.get?
  val := fun w => valA w
  says := fun w h => ∃ K : PySem.W.Frag, K.In h ∧ SaysY w h K
  of := fun w s e => by
    have e1 : (He.obsT fa fn [] (He.frT s.heap.get? (asY s.heap.get? 5)), exB (He.frT s.heap.get? (asY s.heap.get? 5)) && He.tabsB s.heap.get? tf (He.frT s.heap.get? (asY s.heap.get? 5))) = (He.valT fn [] w, true) := congrArg (fun z : AlY => z.1) e
    have e2 : (errB (He.frT s.heap.get? (asY s.heap.get? 5)) "NoFilling" && errB (He.frT s.heap.get? (asY s.heap.get? 5)) "NoOpening") = true := congrArg (fun z : AlY => z.2.1) e
    have e3 : [fnY (He.frT s.heap.get? (asY s.heap.get? 5)) "NoFilling", fnY (He.frT s.heap.get? (asY s.heap.get? 5)) "NoOpening"] = [valY "NoFilling" (inClass (top 4) 0), valY "NoOpening" (inClass (top 5) 0)] := congrArg (fun z : AlY => z.2.2) e
    obtain ⟨h1, h2⟩ := He.ba e2
    exact ⟨_, He.frT_in, ⟨saysX_at (congrArg Prod.fst e1) (congrArg Prod.snd e1), h1, h2, (List.cons.inj e3).1, (List.cons.inj (List.cons.inj e3).2).1⟩⟩
  keeps := fun w h h' ⟨K, hK, c⟩ k => ⟨K, PySem.W.Frag.In.keeps hK k, ⟨⟨c.x.t, c.x.more, c.x.hd, c.x.out, fun p hp => k _ _ (c.x.empty p hp)⟩, c.eF, c.eO, c.fF, c.fO⟩⟩
def ob (s : PySem.W.SharedT) : AlY := obsY (HandSHeadRun.getT s)
theorem ob_eq (s : PySem.W.SharedT) : ob s = hookY.obs s.abs := by
  have e : HandSHeadRun.getT s = s.abs.heap.get? := funext (HandSHeadRun.getT_eq s)
  show obsY (HandSHeadRun.getT s) = obsY s.abs.heap.get?
  rw [e]
def loose : List PySem.Str := (["TidesError", "BadWeb", "NoSorts", "NoFilling", "NoOpening", "is_integer", "is_between", "is_pair", "is_triple", "is_row", "is_lot", "NOUGHT", "divisor", "multiple", "made", "is_fraction", "is_below", "next_whole", "MOST_THRESHOLDS", "MOST_TOP", "MOST_BOTTOM", "MOST_WIDTH", "is_threshold", "is_list", "is_width", "parts_of_grain", "in_grains", "part_of", "is_filling", "check_filling"] : List PySem.Str) ++ (["check_opening", "drops_in_grains", "runs_at", "flows_of", "opened", "nets_of", "moved", "levels", "drops", "running", "flows", "tick", "nets", "MOST_VESSELS", "MOST_PIPES", "are_widths", "is_pipe", "gauge", "Web", "_law_source", "_law_mixed", "_law_draw", "_law_pick", "_law_divisor", "_law_made", "_law_added", "_law_same", "_law_met", "_law_integer", "_law_deep"] : List PySem.Str) ++ (["_law_strange", "_law_in_order", "_law_steps", "_law_flow", "_law_widths", "_law_pipe", "_law_pipes", "_law_water", "_law_filling", "_law_opening", "_law_level", "_law_drop", "_law_flows", "_law_nets", "_law_behind", "_law_is_filling", "_law_is_opening", "_law_with", "_law_told", "_law_bad_filling", "_law_bad_opening", "_law_all_told", "_law_all_due"] : List PySem.Str)
end K11
/-! part K11U3 -/
namespace K11
open PySem PySem.Spec PyProof.Rows L2
theorem run (w : World) : HandSHeadRun.RunEq R (PySem.W.view R.prog [90]) hookY ob 6000 loose w := by
  intro os
  kernel_rfl
end K11
/-! part K11G -/
set_option maxHeartbeats 4000000
namespace K11
open PySem PySem.Spec PyProof.Rows L2

/-- C() of an own error -/
theorem pmk_err {X : Cx} {x : Str} {st : Stmt} {C fI : Addr} {p pos : Pos} (hP : X.prog = PP) (T : ErrT X.K X.mg x st C fI) (S : ErrS st) (hr : Room 2 X.A) (hg : Gl X x) (hdb : (x == ("__debug__" : Str)) = false := by decide) :
    PMk X (.Call (.Name x p) [] [] pos) (fun _ H Q => Q (.ref C) none H) := by
  intro pins s σ H Q I h
  refine wpAny_Call_Name_kw (ld_glob I hg T.gC ?_ hdb)
  refine PySem.W.callWith_K0 I.kIn T.kC ?_
  obtain ⟨nm, N', qn, bs, bm, hdct, sn, sub, ab, col, dd, k0, k1, k2, k3, k5, hC, hT⟩ := PySem.W.excInit_of I.kIn T.exI
  have env := I.env0.make C [] []
  have rm : Room 1 (X.A.under (.builtin "type.__call__" ⟨[.ref C], []⟩)) := hr.make C [] []
  obtain ⟨hp, g, dr, tk, os⟩ := s
  have kk : ∀ b o, hp.get? b = some o → ((hp.push (PySem.W.kdv_tup [])).push (PySem.HandSPX.excO C hp.objs.size)).get? b = some o := fun b o e => Heap.get?_push_of_some _ (Heap.get?_push_of_some _ e)
  have hget : ((hp.push (PySem.W.kdv_tup [])).push (PySem.HandSPX.excO C hp.objs.size)).get? (hp.objs.size + 1) = some (PySem.HandSPX.excO C hp.objs.size) := by heap_get
  have hne : hp.get? (hp.objs.size + 1) = none := by
    cases z : hp.get? (hp.objs.size + 1) with
    | none => rfl
    | some o => exact absurd (Heap.lt_size z) (Nat.not_lt.mpr (Nat.le_succ _))
  have na : H (hp.objs.size + 1) = none := I.hok.fresh (Nat.le_succ _)
  refine wpAny_call (PySem.HandSPX.call_own F.excBase_ValueError hT hC (PySem.W.looks_findIn I.kIn T.iC) (fun self => PySem.W.bind_fn I.kIn self T.tI) (by decide) ?_)
  rw [hP]
  refine err_init T S I.ok.mod (fun b o z => kk b o (I.bk b o z)) rm.depth hget fun h' t1 tk' k4 e4 => ?_
  have k5' : ∀ b o, hp.get? b = some o → h'.get? b = some o := fun b o z => k4 b o (fun q => by
    rw [q, hne] at z
    cases z) (kk b o z)
  exact ⟨rfl, ⟨hp.objs.size + 1, _, _, ⟨hp, g, dr, tk, os⟩, H, .ref C, none, rfl, I, k5', hne, e4, ⟨rfl, rfl⟩, rfl, rfl, na, rfl, I.bare, raises_own T.sB T.tC, h⟩⟩
theorem errS_filling : ErrS (inClass (top 4) 0) where
  ar := ⟨_, rfl, rfl⟩
  bd := ⟨_, _, _, _, _, _, _, _, rfl, by decide⟩
  bind := fun f cc cda ct doc pm an q u => rfl
  ks := by decide +kernel
  kc := by decide +kernel
  ka := by decide +kernel
  kk := by rfl
  nc := by decide +kernel
  co := by rfl
  ge := by rfl
theorem errS_opening : ErrS (inClass (top 5) 0) where
  ar := ⟨_, rfl, rfl⟩
  bd := ⟨_, _, _, _, _, _, _, _, rfl, by decide⟩
  bind := fun f cc cda ct doc pm an q u => rfl
  ks := by decide +kernel
  kc := by decide +kernel
  ka := by decide +kernel
  kk := by rfl
  nc := by decide +kernel
  co := by rfl
  ge := by rfl
end K11
/-! part K11H -/
namespace K11
open PySem PySem.Spec PyProof.Rows L2 LamX

abbrev s__law_told : Stmt := top 85
abbrev N__law_told : List Str := ["_law_action", "_law_found", "e"]
theorem sc__law_told : FnScope N__law_told ["_law_action"] (defScope s__law_told) := ⟨rfl, rfl, rfl, by decide +kernel, rfl, by decide +kernel, by decide +kernel⟩

/-- isinstance(e, c), e the caught error of the class cls -/
def qIsX (K : PySem.W.Frag) (a : Addr) (cls : Value) (d : Option Addr) : List V → Hp → VK → Prop := fun xs H Q =>
  ∃ (D : Addr) (c : V) (cv : Value) (b : Bool), cls = .ref D ∧ d = none ∧ ExcC K D ∧ xs = [.ref a, c] ∧ (∀ u, RelV c u → u = cv) ∧ PySem.W.kitOne K (.ref D) cv = some b ∧ Q (.bl b) H
theorem call_isX {X : Cx} {a : Addr} {cls : Value} {d : Option Addr} {oe : Obj} {pn : List (Addr × Obj)} (hz : Zc cls d oe) (hf : ∃ vs, oe.data = .fields vs) : CallR (X.suite a ((a, oe) :: pn)) (.builtin "isinstance") (qIsX X.K a cls d) := by
  intro pins s σ H xs us Q I r h
  obtain ⟨D, c, cv, b, rfl, rfl, hC, ex, hcv, e, q⟩ := h
  exact call_isE hC hz hf pins s σ H xs us Q I r ⟨c, cv, b, ex, hcv, e, q⟩

/-- told: what _law_told makes of its action's reading -/
def TTl (K : PySem.W.Frag) (CS n1 n2 n3 : Addr) : (XK → Hp → VK → Prop) → Hp → VK → Prop := fun tl H Q =>
  tl (fun cls d H' => ∃ (D : Addr) (b1 b2 b3 : Bool), cls = .ref D ∧ d = none ∧ ExcC K D ∧ PySem.W.exmOne K cls (.ref CS) = some true ∧
      PySem.W.kitOne K (.ref D) (.ref n1) = some b1 ∧ PySem.W.kitOne K (.ref D) (.ref n2) = some b2 ∧ PySem.W.kitOne K (.ref D) (.ref n3) = some b3 ∧
      ∀ l p : Addr, H' l = none → upd H' l (.lst [.bl b1, .bl b2, .bl b3]) p = none → Q (.ref p) (upd (upd H' l (.lst [.bl b1, .bl b2, .bl b3])) p (.tup [.str "refused", .ref l, .int 0])))
    H (fun v H1 => 2 ≤ sizeLine ∧ ∀ p, H1 p = none → ∃ x : V, some (some (V.ref p)) = some (some x) ∧ Q x (upd H1 p (.tup [.str "told", v])))
theorem takes_len {X : Cx} {W : WX} (t : Takes X W) : Takes X (fun cls d σ H => σ.length = X.N.length → W cls d σ H) := fun u s' ⟨a, B, sI, pins, σ, H, cls, d, e, I, nb, up, sk, na, os, ag, w⟩ =>
  t u s' ⟨a, B, sI, pins, σ, H, cls, d, e, I, nb, up, sk, na, os, ag, w I.len⟩
theorem told_it {X : Cx} {CS n1 n2 n3 g : Addr} {cdg : Value} {q : Str} (h0 : X.mg "TidesError" = some (.ref CS)) (h1 : X.mg "NoFilling" = some (.ref n1)) (h2 : X.mg "NoOpening" = some (.ref n2)) (h3 : X.mg "NoSorts" = some (.ref n3)) (hi : X.mg "isinstance" = none) :
    GivesTo X N__law_told "_law_told" (defScope s__law_told) g cdg (defBody s__law_told) "_law_action" q (TTl X.K CS n1 n2 n3) := by
  intro f c' s H Q tl act hc h
  refine ⟨_, pss_cons (ps_try_as (X := (cxOf C8.CX0 X.prog X.w X.K X.mg X.base N__law_told "_law_told" (defScope s__law_told) g cdg X.A X.stack s H C8.E0).nox) (c := .ref CS) (i := 2)
      (tb := fun W D σ H => ∃ Ech : XK, (∀ cls d σ' H', Ech cls d H' → σ'.length = 3 → W cls d σ' H') ∧ σ[0]? = some (some (.ref f)) ∧ H c' = some (CodeO c' q) ∧ tl Ech H (fun v H1 => 2 ≤ sizeLine ∧ ∀ p, H1 p = none → D.nx (σ.set 1 (some (.ref p))) (upd H1 p (.tup [.str "told", v]))))
      (ts := fun a cls d => tAsg (tTup (tCons (tC (.str "refused")) (tCons (tLst (tCons (tCB (qIsX X.K a cls d) (tCons (tVar 2) (tCons (tC (.ref n1)) tNil))) (tCons (tCB (qIsX X.K a cls d) (tCons (tVar 2) (tCons (tC (.ref n2)) tNil))) (tCons (tCB (qIsX X.K a cls d) (tCons (tVar 2) (tCons (tC (.ref n3)) tNil))) tNil)))) (tCons (tC (.int 0)) tNil)))) (gName 1))
      rfl rfl sc__law_told.nd rfl rfl ⟨by rfl, by decide, .inl h0⟩ takes0 (fun W pn xe tk _ => ?_) (fun a oe cls d pn hz hf => ?_)) (pss_one (ps_ret (pv 1))), ?_⟩
  · refine ⟨fun pins s' σ H' D I h' => ?_⟩
    obtain ⟨Ech, hW, e1, e2, e3⟩ := h'
    exact (pss_one (ps_set (X := ((cxOf C8.CX0 X.prog X.w X.K X.mg X.base N__law_told "_law_told" (defScope s__law_told) g cdg X.A X.stack s H C8.E0).tr pn xe)) (i := 1) sc__law_told.nd rfl (by first | exact Or.inl rfl | exact Or.inr rfl) (pe_tup (pa_cons pe_str (pa_cons (act _ pn xe Ech _ _ (takes_len tk) (fun cls d σ' H' z l => hW cls d σ' H' z l)) pa_nil))))).run pins s' σ H' D I ⟨e1, e2, e3⟩
  · exact pss_one (ps_set (i := 1) sc__law_told.nd rfl (by first | exact Or.inl rfl | exact Or.inr rfl) (pe_tup (pa_cons pe_str (pa_cons (pe_lst
      (pa_cons (pe_callB (call_isX hz hf) (by rfl) hi (by decide +kernel) (pa_cons (pv 2) (pa_cons (pe_glob (by rfl) h1 rfl) pa_nil)))
        (pa_cons (pe_callB (call_isX hz hf) (by rfl) hi (by decide +kernel) (pa_cons (pv 2) (pa_cons (pe_glob (by rfl) h2 rfl) pa_nil)))
          (pa_cons (pe_callB (call_isX hz hf) (by rfl) hi (by decide +kernel) (pa_cons (pv 2) (pa_cons (pe_glob (by rfl) h3 rfl) pa_nil))) pa_nil)))) (pa_cons pe_int pa_nil)))))
  · refine ⟨fun cls d H' => ∃ (D : Addr) (b1 b2 b3 : Bool), cls = .ref D ∧ d = none ∧ ExcC X.K D ∧ PySem.W.exmOne X.K cls (.ref CS) = some true ∧
      PySem.W.kitOne X.K (.ref D) (.ref n1) = some b1 ∧ PySem.W.kitOne X.K (.ref D) (.ref n2) = some b2 ∧ PySem.W.kitOne X.K (.ref D) (.ref n3) = some b3 ∧
      ∀ l p : Addr, H' l = none → upd H' l (.lst [.bl b1, .bl b2, .bl b3]) p = none → Q (.ref p) (upd (upd H' l (.lst [.bl b1, .bl b2, .bl b3])) p (.tup [.str "refused", .ref l, .int 0])), fun cls d σ' H' z hl => ?_, rfl, hc, ?_⟩
    · obtain ⟨D, b1, b2, b3, rfl, rfl, hC, hx, k1, k2, k3, z⟩ := z
      refine ⟨true, hx, fun _ a na => ?_, fun z => nomatch z⟩
      have ev : (σ'.set 2 (some (.ref a)))[2]? = some (some (.ref a)) := by simp [hl]
      refine ⟨.ref a, ev, ⟨D, .ref n1, .ref n1, b1, rfl, rfl, hC, rfl, fun u r => r, k1, ?_⟩⟩
      refine ⟨.ref a, ev, ⟨D, .ref n2, .ref n2, b2, rfl, rfl, hC, rfl, fun u r => r, k2, ?_⟩⟩
      refine ⟨.ref a, ev, ⟨D, .ref n3, .ref n3, b3, rfl, rfl, hC, rfl, fun u r => r, k3, ?_⟩⟩
      refine ⟨(by decide : 3 ≤ sizeLine), fun l hl' => ⟨(by decide : 3 ≤ sizeLine), fun p hp => ⟨.ref p, ?_, z l p hl' hp⟩⟩⟩
      simp [hl]
    · exact h
end K11
/-! part K11I -/
namespace K11
open PySem PySem.Spec PyProof.Rows L2

/-! ### how heaps grow: the lists at m may change, all else stays -/
def Gr (m : List Addr) (H H' : Hp) : Prop := ∀ b o, H b = some o → H' b = some o ∨ (b ∈ m ∧ ∃ xs ys, o = .lst xs ∧ H' b = some (.lst ys))
section
variable {K : PySem.W.Frag} {m m' : List Addr} {H H1 H2 H' : Hp} {a p : Addr} {o : HO} {xs ys : List V}
theorem Gr.refl (m : List Addr) (H : Hp) : Gr m H H := fun _ _ h => .inl h
theorem Gr.trans (x : Gr m H H1) (y : Gr m H1 H2) : Gr m H H2 := fun b o h => by
  rcases x b o h with z | ⟨z1, xs, ys, z2, z3⟩
  · exact y b o z
  · rcases y b _ z3 with w | ⟨w1, xs', ys', w2, w3⟩
    · exact .inr ⟨z1, xs, ys, z2, w⟩
    · exact .inr ⟨z1, xs, ys', z2, w3⟩
theorem Gr.weak (x : Gr m H H1) (h : ∀ b ∈ m, b ∈ m') : Gr m' H H1 := fun b o e => (x b o e).imp id fun ⟨z, w⟩ => ⟨h b z, w⟩
theorem Gr.up (x : Gr [] H H1) : Gr m H H1 := x.weak fun b h => absurd h (by simp)
theorem Gr.new (h : H p = none) : Gr m H (upd H p o) := fun b u e => .inl (by rw [upd_ne (ne_of_none e h)]; exact e)
theorem Gr.set (h : H p = some (.lst xs)) (hm : p ∈ m) : Gr m H (upd H p (.lst ys)) := fun b u e => by
  by_cases hb : b = p
  · subst hb
    rw [h] at e
    cases e
    exact .inr ⟨hm, xs, ys, rfl, upd_same⟩
  · exact .inl (by rw [upd_ne hb]; exact e)
/-- a list that was not there at the start -/
theorem Gr.drop (x : Gr (a :: m) H H1) (h : H a = none) : Gr m H H1 := fun b o e => by
  rcases x b o e with z | ⟨z1, xs, ys, z2, z3⟩
  · exact .inl z
  · rcases List.mem_cons.mp z1 with w | w
    · subst w
      rw [h] at e
      cases e
    · exact .inr ⟨w, xs, ys, z2, z3⟩
/-- .. and written -/
theorem Gr.wr (x : Gr m H H1) (h : H a = none) : Gr m H (upd H1 a o) := fun b u e => by
  have hb : b ≠ a := ne_of_none e h
  rcases x b u e with z | ⟨z1, xs, ys, z2, z3⟩
  · exact .inl (by rw [upd_ne hb]; exact z)
  · exact .inr ⟨z1, xs, ys, z2, by rw [upd_ne hb]; exact z3⟩
theorem Gr.fresh (x : Gr m H H1) (h : H1 a = none) : H a = none := by
  cases q : H a with
  | none => rfl
  | some o =>
    rcases x a o q with z | ⟨_, _, _, _, z⟩ <;> rw [h] at z <;> cases z
theorem Gr.at (x : Gr m H H1) (h : H a = some o) (n : a ∉ m) : H1 a = some o := (x a o h).elim id fun z => absurd z.1 n
theorem Gr.nl (x : Gr m H H1) (h : H a = some o) (n : ∀ xs, o ≠ .lst xs) : H1 a = some o := (x a o h).elim id fun ⟨_, xs, _, z, _⟩ => absurd z (n xs)
theorem Gr.all (x : Gr [] H H1) : ∀ b o, H b = some o → H1 b = some o := fun b o h => x.at h (by simp)
theorem Gr.of (x : ∀ b o, H b = some o → H1 b = some o) : Gr m H H1 := fun b o h => .inl (x b o h)
theorem Gr.ne (x : Gr m H H1) (h : H a = some o) (n : H1 p = none) : p ≠ a := fun z => by
  have e := x.fresh n
  rw [z, h] at e
  cases e
theorem Gr.rdT (x : Gr m H H1) (h : Rd H a (.tup xs)) : Rd H1 a (.tup xs) := h.imp (fun z => x.nl z fun _ e => nomatch e) fun ⟨o, z⟩ => ⟨o, x.nl z fun _ e => nomatch e⟩
theorem Gr.tup (x : Gr m H H1) (h : SqT K H a xs) : SqT K H1 a xs := h.imp (fun z => x.rdT z) id
theorem Gr.lst (x : Gr m H H1) (h : SqL K H a xs) (n : a ∉ m) : SqL K H1 a xs := h.imp (fun z => z.imp (fun w => x.at w n) fun ⟨o, w⟩ => ⟨o, x.nl w fun _ e => nomatch e⟩) id
theorem sqL (h : H a = some (.lst xs)) : SqL K H a xs := .inl (.inl h)
theorem sqT (h : H a = some (.tup xs)) : SqT K H a xs := .inl (.inl h)
theorem Gr.tyOf {x : V} {t : Value} (g : Gr m H H1) (h : TyOf K H x t) : TyOf K H1 x t := by
  cases h with
  | non => exact .non
  | bl x => exact .bl x
  | int i => exact .int i
  | str x => exact .str x
  | flt x => exact .flt x
  | lst e =>
    rcases g _ _ e with z | ⟨_, _, ys, _, z⟩
    · exact .lst z
    · exact .lst z
  | frz e => exact .frz (g.nl e fun _ z => nomatch z)
  | tup e => exact .tup (g.nl e fun _ z => nomatch z)
  | dK e => exact .dK (g.nl e fun _ z => nomatch z)
  | dT e => exact .dT (g.nl e fun _ z => nomatch z)
  | ins e cl ha hn htk hm => exact .ins (g.nl e fun _ z => nomatch z) cl ha hn htk hm
theorem Gr.tyX {x : V} {t : Value} (g : Gr m H H1) (h : TyX K H x t) : TyX K H1 x t := by
  cases h with
  | base h => exact .base (g.tyOf h)
  | byt b => exact .byt b
  | set e => exact .set (g.nl e fun _ z => nomatch z)
  | kList e c => exact .kList e c
  | kTuple e c => exact .kTuple e c
  | kDict e c => exact .kDict e c
  | fTuple e => exact .fTuple (g.nl e fun _ z => nomatch z)
  | fDict e => exact .fDict (g.nl e fun _ z => nomatch z)
theorem sqT_ty (h : SqT K H a xs) : TyX K H (.ref a) (.type "tuple") := by
  rcases h with (h | ⟨o, h⟩) | ⟨o, its, n, h1, h2, _⟩
  · exact .base (.tup h)
  · exact .fTuple h
  · exact .kTuple h1 h2
theorem sqL_ty (h : SqL K H a xs) : TyX K H (.ref a) (.type "list") := by
  rcases h with (h | ⟨o, h⟩) | ⟨o, its, n, h1, h2, _⟩
  · exact .base (.lst h)
  · exact .base (.frz h)
  · exact .kList h1 h2
end

/-! ### what values read as -/
/-- a fraction -/
def Fr (K : PySem.W.Frag) (H : Hp) (v : V) (f : Int × Int) : Prop := ∃ p, v = .ref p ∧ SqT K H p [.int f.1, .int f.2]
/-- a tuple, a list of such -/
def Tu {α : Type} (K : PySem.W.Frag) (H : Hp) (R : V → α → Prop) (v : V) (l : List α) : Prop := ∃ p xs, v = .ref p ∧ SqT K H p xs ∧ Paired R xs l
def Li {α : Type} (K : PySem.W.Frag) (H : Hp) (R : V → α → Prop) (v : V) (l : List α) : Prop := ∃ p xs, v = .ref p ∧ SqL K H p xs ∧ Paired R xs l
def IsI (v : V) (i : Int) : Prop := v = .int i
abbrev Ti (K : PySem.W.Frag) (H : Hp) : V → List Int → Prop := Tu K H IsI
abbrev Lii (K : PySem.W.Frag) (H : Hp) : V → List Int → Prop := Li K H IsI
abbrev Ts (K : PySem.W.Frag) (H : Hp) : V → List (Int × Int) → Prop := Tu K H (Fr K H)
/-- a pipe -/
structure PipeD where
  one : Nat
  other : Nat
  steps : List (Int × Int)
def Pi (K : PySem.W.Frag) (H : Hp) (v : V) (P : PipeD) : Prop := ∃ p s, v = .ref p ∧ SqT K H p [.int P.one, .int P.other, s] ∧ Ts K H s P.steps
abbrev Ps (K : PySem.W.Frag) (H : Hp) : V → List PipeD → Prop := Tu K H (Pi K H)
/-- an item: an int (not a bool), or something else -/
def Itm (K : PySem.W.Frag) (H : Hp) (x : V) (o : Option Int) : Prop :=
  (∃ i, o = some i ∧ x = .int i) ∨ (o = none ∧ ∃ t b1 b2, TyX K H x t ∧ PySem.W.kitOne K t (.type "int") = some b1 ∧ PySem.W.kitOne K t (.type "bool") = some b2 ∧ (b1 && !b2) = false)
/-- a thing: a tuple of items, or something else -/
def Th (K : PySem.W.Frag) (H : Hp) (v : V) (o : Option (List (Option Int))) : Prop :=
  (∃ l p xs, o = some l ∧ v = .ref p ∧ SqT K H p xs ∧ Paired (Itm K H) xs l) ∨ (o = none ∧ ∃ t, TyX K H v t ∧ PySem.W.kitOne K t (.type "tuple") = some false)
section
variable {α : Type} {K : PySem.W.Frag} {m : List Addr} {H H1 : Hp} {v : V}
theorem Fr.gr {f : Int × Int} (h : Fr K H v f) (g : Gr m H H1) : Fr K H1 v f := let ⟨p, e, q⟩ := h; ⟨p, e, g.tup q⟩
theorem Tu.gr {R R' : V → α → Prop} {l : List α} (h : Tu K H R v l) (g : Gr m H H1) (r : ∀ x a, R x a → R' x a) : Tu K H1 R' v l := let ⟨p, xs, e, q, z⟩ := h; ⟨p, xs, e, g.tup q, L2.Paired.mapP z r⟩
theorem Ti.gr {l : List Int} (h : Ti K H v l) (g : Gr m H H1) : Ti K H1 v l := Tu.gr h g fun _ _ z => z
theorem Ts.gr {l : List (Int × Int)} (h : Ts K H v l) (g : Gr m H H1) : Ts K H1 v l := Tu.gr h g fun _ _ z => z.gr g
theorem Pi.gr {P : PipeD} (h : Pi K H v P) (g : Gr m H H1) : Pi K H1 v P := let ⟨p, s, e, q, z⟩ := h; ⟨p, s, e, g.tup q, z.gr g⟩
theorem Ps.gr {l : List PipeD} (h : Ps K H v l) (g : Gr m H H1) : Ps K H1 v l := Tu.gr h g fun _ _ z => z.gr g
theorem Itm.gr {o : Option Int} (h : Itm K H v o) (g : Gr m H H1) : Itm K H1 v o := h.imp id fun ⟨e, t, b1, b2, ty, z⟩ => ⟨e, t, b1, b2, g.tyX ty, z⟩
theorem Th.gr {o : Option (List (Option Int))} (h : Th K H v o) (g : Gr m H H1) : Th K H1 v o :=
  h.imp (fun ⟨l, p, xs, e, e2, q, z⟩ => ⟨l, p, xs, e, e2, g.tup q, L2.Paired.mapP z fun _ _ w => w.gr g⟩) fun ⟨e, t, ty, z⟩ => ⟨e, t, g.tyX ty, z⟩
theorem itm_int {i : Int} : Itm K H (.int i) (some i) := .inl ⟨i, rfl, rfl⟩
end
section
variable {α β : Type} {R : α → β → Prop}
theorem pget : ∀ {xs : List α} {l : List β} {i : Nat} {b : β}, Paired R xs l → l[i]? = some b → ∃ a, xs[i]? = some a ∧ R a b
  | _, _, _, _, .nil, h => by simp at h
  | _, _, 0, _, .cons r _, h => by
    simp at h
    subst h
    exact ⟨_, rfl, r⟩
  | _, _, i + 1, b, .cons _ t, h => by
    obtain ⟨a, h1, h2⟩ := pget (i := i) t (by simpa using h)
    exact ⟨a, by simpa using h1, h2⟩
theorem pgetL : ∀ {xs : List α} {l : List β} {i : Nat} {a : α}, Paired R xs l → xs[i]? = some a → ∃ b, l[i]? = some b ∧ R a b
  | _, _, _, _, .nil, h => by simp at h
  | _, _, 0, _, .cons r _, h => by
    simp at h
    subst h
    exact ⟨_, rfl, r⟩
  | _, _, i + 1, b, .cons _ t, h => by
    obtain ⟨a, h1, h2⟩ := pgetL (i := i) t (by simpa using h)
    exact ⟨a, by simpa using h1, h2⟩
theorem paired_of : ∀ {xs : List α} {l : List β}, xs.length = l.length → (∀ (i : Nat) a b, xs[i]? = some a → l[i]? = some b → R a b) → Paired R xs l
  | [], [], _, _ => .nil
  | a :: xs, b :: l, h, z => .cons (z 0 a b rfl rfl) (paired_of (by simpa using h) fun i a' b' h1 h2 => z (i + 1) a' b' (by simpa using h1) (by simpa using h2))
theorem paired_isI : ∀ {l : List Int}, Paired IsI (l.map V.int) l
  | [] => .nil
  | _ :: _ => .cons rfl paired_isI
theorem isI_eq : ∀ {xs : List V} {l : List Int}, Paired IsI xs l → xs = l.map V.int
  | _, _, .nil => rfl
  | _, _, .cons r t => by
    have e : _ = V.int _ := r
    rw [e, isI_eq t, List.map_cons]
end
theorem sz {n : Nat} (h : n ≤ 100000) : n ≤ sizeLine := Nat.le_trans h (by decide)
theorem szl {n : Nat} (h : n < 100000) : n < sizeLine := Nat.lt_of_lt_of_le h (by decide)
end K11
/-! part K11J -/
namespace K11
open PySem PySem.Spec PyProof.Rows L2
section
variable {K : PySem.W.Frag} {m : List Addr} {H H1 H2 : Hp} {a D : Addr} {xs : List V}
theorem Gr.lstN (x : Gr (D :: m) H H1) (h : SqL K H a xs) (n : a ∉ m) (hD : H D = none) : SqL K H1 a xs := by
  rcases h with (h | ⟨o, h⟩) | h
  · exact .inl (.inl (x.at h (fun z => (List.mem_cons.mp z).elim (ne_of_none h hD) n)))
  · exact .inl (.inr ⟨o, x.nl h fun _ z => nomatch z⟩)
  · exact .inr h
theorem notin_of (hm : ∀ b ∈ m, H b ≠ none) (hD : H D = none) : D ∉ m := fun z => hm D z hD
end
/-- a comprehension so far: R tells the item made at turn j -/
def EachS (m : List Addr) (H1 : Hp) (D : Addr) (R : Hp → Nat → V → Prop) (i : Nat) (H : Hp) : Prop :=
  H1 D = none ∧ D ∉ m ∧ i ≤ 50000 ∧ ∃ acc, Gr (D :: m) H1 H ∧ H D = some (.lst acc) ∧ acc.length = i ∧ ∀ j y, acc[j]? = some y → R H j y
/-- .. with a test: P tells the items -/
def SomeS (m : List Addr) (H1 : Hp) (D : Addr) (P : Nat → List V → Prop) (i : Nat) (H : Hp) : Prop :=
  H1 D = none ∧ D ∉ m ∧ i ≤ 50000 ∧ ∃ acc, Gr (D :: m) H1 H ∧ H D = some (.lst acc) ∧ acc.length ≤ i ∧ P i acc
/-- what a turn is to reach -/
def LeafS (D : Addr) (N : Hp → Prop) (y : V) (H4 : Hp) : Prop := ∃ acc, H4 D = some (.lst acc) ∧ acc.length < sizeLine ∧ N (upd H4 D (.lst (acc ++ [y])))
section
variable {J : It} {n i : Nat} {G : Hp → Prop} {Y : Nat → Hp → V → Hp → Prop} {g : TG} {tt : TT} {te : TE} {vs : List Nat} {σ : L2.St} {H H1 H3 H4 : Hp} {D : Addr} {m : List Addr} {R : Hp → Nat → V → Prop} {P : Nat → List V → Prop} {y : V}
theorem EachS.gr (s : EachS m H1 D R i H) : Gr (D :: m) H1 H := let ⟨_, _, _, _, g, _⟩ := s; g
theorem EachS.nD (s : EachS m H1 D R i H) : H1 D = none := s.1
theorem SomeS.gr (s : SomeS m H1 D P i H) : Gr (D :: m) H1 H := let ⟨_, _, _, _, g, _⟩ := s; g
theorem SomeS.nD (s : SomeS m H1 D P i H) : H1 D = none := s.1
theorem EachS.leaf (hR : ∀ H H' j y, Gr (D :: m) H H' → R H j y → R H' j y) (hi : i < 50000) (s : EachS m H1 D R i H) (g : Gr m H H4) (r : R H4 i y) : LeafS D (EachS m H1 D R (i + 1)) y H4 := by
  obtain ⟨h1, h2, _, acc, g1, e, l, q⟩ := s
  have e4 := g.at e h2
  have gw : Gr (D :: m) H H4 := g.weak fun b hb => List.mem_cons_of_mem _ hb
  have g5 : Gr (D :: m) H4 (upd H4 D (.lst (acc ++ [y]))) := Gr.set e4 (List.mem_cons_self ..)
  refine ⟨acc, e4, szl (by omega), h1, h2, hi, acc ++ [y], (g1.trans gw).trans g5, upd_same, by rw [List.length_append, List.length_singleton, l], fun j z hz => ?_⟩
  by_cases hj : j < acc.length
  · rw [List.getElem?_append_left hj] at hz
    exact hR _ _ _ _ (gw.trans g5) (q j z hz)
  · rw [List.getElem?_append_right (by omega)] at hz
    have hj2 : j - acc.length < [y].length := (List.getElem?_eq_some_iff.mp hz).1
    have e0 : j - acc.length = 0 := by simp at hj2; omega
    rw [e0] at hz
    have ey : y = z := Option.some.inj hz
    subst ey
    have ej : j = i := by omega
    subst ej
    exact hR _ _ _ _ g5 r
theorem SomeS.leaf (hi : i < 50000) (s : SomeS m H1 D P i H) (g : Gr m H H4) (r : ∀ acc, acc.length ≤ i → P i acc → P (i + 1) (acc ++ [y])) : LeafS D (SomeS m H1 D P (i + 1)) y H4 := by
  obtain ⟨h1, h2, _, acc, g1, e, l, q⟩ := s
  have e4 := g.at e h2
  have gw : Gr (D :: m) H H4 := g.weak fun b hb => List.mem_cons_of_mem _ hb
  have g5 : Gr (D :: m) H4 (upd H4 D (.lst (acc ++ [y]))) := Gr.set e4 (List.mem_cons_self ..)
  exact ⟨acc, e4, szl (by omega), h1, h2, hi, acc ++ [y], (g1.trans gw).trans g5, upd_same, by rw [List.length_append, List.length_singleton]; omega, r acc l q⟩
theorem SomeS.skip (hi : i < 50000) (s : SomeS m H1 D P i H) (g : Gr m H H3) (r : ∀ acc, acc.length ≤ i → P i acc → P (i + 1) acc) : SomeS m H1 D P (i + 1) H3 := by
  obtain ⟨h1, h2, _, acc, g1, e, l, q⟩ := s
  have gw : Gr (D :: m) H H3 := g.weak fun b hb => List.mem_cons_of_mem _ hb
  exact ⟨h1, h2, hi, acc, g1.trans gw, g.at e h2, by omega, r acc l q⟩
theorem lc_each (w : Walk J n G Y) {Qd : Hp → Prop} (hD : H1 D = none) (hm : ∀ b ∈ m, H1 b ≠ none) (hn : n ≤ 50000) (R : Hp → Nat → V → Prop)
    (hG : ∀ H, Gr (D :: m) H1 H → G H)
    (hs : ∀ i x H H', i < n → EachS m H1 D R i H → Y i H x H' → g x (wipe σ vs) H' fun σ2 H2 => wipe σ2 vs = wipe σ vs ∧ tt σ2 H2 fun b H3 =>
      if b = true then te σ2 H3 fun y H4 => LeafS D (EachS m H1 D R (i + 1)) y H4 else EachS m H1 D R (i + 1) H3)
    (hd : ∀ H acc, Gr m H1 H → H D = some (.lst acc) → acc.length = n → (∀ j y, acc[j]? = some y → R H j y) → Qd H) :
    ∃ W : Nat → Nat → Hp → Prop, (∃ k, W 0 k (upd H1 D (.lst []))) ∧ ∀ i k H, W i k H →
      (J.stop i H ∧ Qd H) ∨ (J.go i H ∧ ∃ Nx : Hp → Prop, (∀ H', Nx H' → ∃ m', m' < k ∧ W (i + 1) m' H') ∧ ∀ x H', J.yld i H x H' → g x (wipe σ vs) H' fun σ2 H2 => wipe σ2 vs = wipe σ vs ∧ tt σ2 H2 fun b H3 =>
        if b = true then te σ2 H3 fun y H4 => ∃ acc, H4 D = some (.lst acc) ∧ acc.length < sizeLine ∧ Nx (upd H4 D (.lst (acc ++ [y]))) else Nx H3) :=
  lc_it w (EachS m H1 D R) ⟨hD, notin_of hm hD, by omega, [], Gr.new hD, upd_same, rfl, fun j y h => by simp at h⟩ (fun i H _ s => hG H s.gr) hs
    fun H ⟨_, _, _, acc, h1, h2, h3, h4⟩ => hd H acc (h1.drop hD) h2 h3 h4
theorem lc_some (w : Walk J n G Y) {Qd : Hp → Prop} (hD : H1 D = none) (hm : ∀ b ∈ m, H1 b ≠ none) (hn : n ≤ 50000) (P : Nat → List V → Prop) (h0 : P 0 [])
    (hG : ∀ H, Gr (D :: m) H1 H → G H)
    (hs : ∀ i x H H', i < n → SomeS m H1 D P i H → Y i H x H' → g x (wipe σ vs) H' fun σ2 H2 => wipe σ2 vs = wipe σ vs ∧ tt σ2 H2 fun b H3 =>
      if b = true then te σ2 H3 fun y H4 => LeafS D (SomeS m H1 D P (i + 1)) y H4 else SomeS m H1 D P (i + 1) H3)
    (hd : ∀ H acc, Gr m H1 H → H D = some (.lst acc) → acc.length ≤ n → P n acc → Qd H) :
    ∃ W : Nat → Nat → Hp → Prop, (∃ k, W 0 k (upd H1 D (.lst []))) ∧ ∀ i k H, W i k H →
      (J.stop i H ∧ Qd H) ∨ (J.go i H ∧ ∃ Nx : Hp → Prop, (∀ H', Nx H' → ∃ m', m' < k ∧ W (i + 1) m' H') ∧ ∀ x H', J.yld i H x H' → g x (wipe σ vs) H' fun σ2 H2 => wipe σ2 vs = wipe σ vs ∧ tt σ2 H2 fun b H3 =>
        if b = true then te σ2 H3 fun y H4 => ∃ acc, H4 D = some (.lst acc) ∧ acc.length < sizeLine ∧ Nx (upd H4 D (.lst (acc ++ [y]))) else Nx H3) :=
  lc_it w (SomeS m H1 D P) ⟨hD, notin_of hm hD, by omega, [], Gr.new hD, upd_same, Nat.le_refl _, h0⟩ (fun i H _ s => hG H s.gr) hs
    fun H ⟨_, _, _, acc, h1, h2, h3, h4⟩ => hd H acc (h1.drop hD) h2 h3 h4
end
end K11
/-! part K11M -/
namespace K11
open PySem PySem.Spec PyProof.Rows L2

/-! ### what the program computes, in plain Lean -/
def mk (t b : Int) : Int × Int := (t / (Int.gcd t b : Int), b / (Int.gcd t b : Int))
def ceilF (f : Int × Int) : Int := -(-f.1 / f.2)
def max3 (i j k : Int) : Int := if k > (if j > i then j else i) then k else (if j > i then j else i)
def pg (w o : Int) : Int := if w = 0 ∨ o = 0 then max3 w o 1 else w / (Int.gcd w o : Int) * o
def lvl (w x : Int) : Int × Int := if w = 0 then (0, 1) else mk x w
structure GaugeD where
  one : Nat
  other : Nat
  here : Int
  there : Int
  units : List Int
  grains : Int
def gaugeOf (ws : List Int) (P : PipeD) : GaugeD :=
  { one := P.one, other := P.other, here := if ws.getD P.one 0 = 0 then 0 else pg (ws.getD P.one 0) (ws.getD P.other 0) / ws.getD P.one 0,
    there := if ws.getD P.other 0 = 0 then 0 else pg (ws.getD P.one 0) (ws.getD P.other 0) / ws.getD P.other 0,
    units := P.steps.map fun s => ceilF (mk (s.1 * pg (ws.getD P.one 0) (ws.getD P.other 0)) s.2), grains := pg (ws.getD P.one 0) (ws.getD P.other 0) }
def absI (i : Int) : Int := if i < 0 then -i else i
def dropN (fl : List Int) (G : GaugeD) : Int := fl.getD G.one 0 * G.here - fl.getD G.other 0 * G.there
def runsAt (us : List Int) (d : Int) : Int := if 0 < d then ((us.filter fun u => decide (u ≤ absI d)).length : Int) else -((us.filter fun u => decide (u ≤ absI d)).length : Int)
def openedOf (ns : List Int) (op : Option (List Int)) : List Int := match op with
  | none => ns
  | some l => (List.range ns.length).map fun i : Nat => if l.contains (i : Int) then ns.getD i 0 else 0
def addAt (l : List Int) (i : Nat) (x : Int) : List Int := l.set i (l.getD i 0 + x)
def netStep (ps : List PipeD) (ns : List Int) (acc : List Int) (k : Nat) : List Int :=
  addAt (addAt acc (ps.getD k ⟨0, 0, []⟩).one (ns.getD k 0)) (ps.getD k ⟨0, 0, []⟩).other (-ns.getD k 0)
def netsTo (n : Nat) (ps : List PipeD) (ns : List Int) (k : Nat) : List Int := (List.range k).foldl (netStep ps ns) (List.replicate n 0)
def netsOf (n : Nat) (ps : List PipeD) (ns : List Int) : List Int := netsTo n ps ns ps.length
def movedOf (ws fl nets : List Int) : List Int := (List.range ws.length).map fun i => if ws.getD i 0 = 0 then 0 else fl.getD i 0 - nets.getD i 0
/-- the law's side -/
def addF (f g : Int × Int) : Int × Int := mk (f.1 * g.2 + g.1 * f.2) (f.2 * g.2)
def dropL (ws fl : List Int) (P : PipeD) : Int × Int := addF (lvl (ws.getD P.one 0) (fl.getD P.one 0)) (-(lvl (ws.getD P.other 0) (fl.getD P.other 0)).1, (lvl (ws.getD P.other 0) (fl.getD P.other 0)).2)
def cntL (st : List (Int × Int)) (d : Int × Int) : Int := ((st.filter fun s => decide (s.1 * d.2 ≤ absI d.1 * s.2)).length : Int)
def flowL (st : List (Int × Int)) (d : Int × Int) : Int := if d.1 < 0 then -cntL st d else cntL st d
def levelsOf (ws fl : List Int) : List (Int × Int) := (List.range ws.length).map fun i => lvl (ws.getD i 0) (fl.getD i 0)
def numbersOf (ws : List Int) (ps : List PipeD) (fl : List Int) : List Int := ps.map fun P => flowL P.steps (dropL ws fl P)
/-- what is right -/
def btw (o : Option Int) (l m : Int) : Bool := match o with
  | some i => decide (l ≤ i) && decide (i ≤ m)
  | none => false
def rowOk (o : Option (List (Option Int))) (n : Int) : Bool := match o with
  | some l => decide ((l.length : Int) = n) && l.all Option.isSome
  | none => false
def lotL : List (Option Int) → Int → Int → Bool
  | [], _, _ => true
  | x :: r, last, many => btw x (last + 1) (many - 1) && lotL r (x.getD 0) many
def lotOk (o : Option (List (Option Int))) (many : Int) : Bool := match o with
  | some l => lotL l (-1) many
  | none => false
def intsOf (o : Option (List (Option Int))) : List Int := (o.getD []).map fun x => x.getD 0
def dryOk (ws fl : List Int) : Bool := (List.range ws.length).all fun i => decide (fl.getD i 0 = 0) || decide (0 < ws.getD i 0)
def filOk (ws : List Int) (o : Option (List (Option Int))) : Bool := rowOk o ws.length && dryOk ws (intsOf o)
structure WfS (s : Int × Int) : Prop where
  t1 : 1 ≤ s.1
  t2 : s.1 ≤ 1000000
  b1 : 1 ≤ s.2
  b2 : s.2 ≤ 144
  g : Int.gcd s.1 s.2 = 1
structure WfL (l : List (Int × Int)) : Prop where
  n1 : 1 ≤ l.length
  n2 : l.length ≤ 6
  s : ∀ x ∈ l, WfS x
  o : ∀ (i : Nat) x y, l[i]? = some x → l[i + 1]? = some y → x.1 * y.2 ≤ y.1 * x.2
structure WfW (ws : List Int) : Prop where
  n1 : 1 ≤ ws.length
  n2 : ws.length ≤ 12
  w : ∀ x ∈ ws, 0 ≤ x ∧ x ≤ 12
structure WfP (n : Nat) (P : PipeD) : Prop where
  lt : P.one < P.other
  u : P.other < n
  l : WfL P.steps
structure WfA (n : Nat) (ps : List PipeD) : Prop where
  c : ps.length ≤ 36
  p : ∀ P ∈ ps, WfP n P

/-! ### objects -/
def Ga (K : PySem.W.Frag) (H : Hp) (v : V) (G : GaugeD) : Prop := ∃ p u, v = .ref p ∧ SqT K H p [.int G.one, .int G.other, .int G.here, .int G.there, u, .int G.grains] ∧ Ti K H u G.units
abbrev webC (K : PySem.W.Frag) : Addr := He.ga K "Web"
/-- the web at v, its gauges at g -/
def Wb (K : PySem.W.Frag) (H : Hp) (v : V) (g : Addr) (ws : List Int) (ps : List PipeD) : Prop :=
  ∃ a dx fs wv pv xs, v = .ref a ∧ H a = some (.ins (webC K) dx fs) ∧ fs.lookup ("widths" : Str) = some wv ∧ fs.lookup ("pipes" : Str) = some pv ∧ fs.lookup ("gauges" : Str) = some (.ref g) ∧ fs.lookup ("begin" : Str) = none ∧
    Ti K H wv ws ∧ Ps K H pv ps ∧ SqL K H g xs ∧ Paired (Ga K H) xs (ps.map (gaugeOf ws))
theorem Ga.gr {K : PySem.W.Frag} {m : List Addr} {H H1 : Hp} {v : V} {G : GaugeD} (h : Ga K H v G) (g : Gr m H H1) : Ga K H1 v G := let ⟨p, u, e, q, z⟩ := h; ⟨p, u, e, g.tup q, z.gr g⟩
theorem Wb.gr {K : PySem.W.Frag} {m : List Addr} {H H1 : Hp} {v : V} {g : Addr} {ws : List Int} {ps : List PipeD} (h : Wb K H v g ws ps) (x : Gr m H H1) (n : g ∉ m) : Wb K H1 v g ws ps :=
  let ⟨a, dx, fs, wv, pv, xs, e, h1, h2, h3, h4, h5, h6, h7, h8, h9⟩ := h
  ⟨a, dx, fs, wv, pv, xs, e, x.nl h1 (fun _ z => nomatch z), h2, h3, h4, h5, h6.gr x, h7.gr x, x.lst h8 n, L2.Paired.mapP h9 fun _ _ z => z.gr x⟩
/-- the opening v: none, a right lot, something else -/
def Opn (K : PySem.W.Frag) (H : Hp) (v : V) (many : Int) (r : Option (Option (List Int))) : Prop :=
  (v = .non ∧ r = some none) ∨ (v ≠ .non ∧ ∃ o, Th K H v o ∧ r = if lotOk o many = true then some (some (intsOf o)) else none)
theorem Opn.gr {K : PySem.W.Frag} {m : List Addr} {H H1 : Hp} {v : V} {many : Int} {r : Option (Option (List Int))} (h : Opn K H v many r) (g : Gr m H H1) : Opn K H1 v many r :=
  h.imp id fun ⟨e, o, t, z⟩ => ⟨e, o, t.gr g, z⟩
/-- the source -/
def Src (K : PySem.W.Frag) (H : Hp) (p c : Addr) : Prop := ∃ (ns : List Int) (pos : Nat) (rest turn fold : Int), H p = some (.lst [.ref c, .int pos, .int rest, .int turn, .int fold]) ∧ H c = some (.lst (ns.map V.int)) ∧ c ≠ p ∧ 0 ≤ rest
theorem Src.gr {K : PySem.W.Frag} {H H1 : Hp} {p c : Addr} {m : List Addr} (s : Src K H p c) (g : Gr m H H1) (n1 : p ∉ m) (n2 : c ∉ m) : Src K H1 p c := let ⟨ns, pos, rest, turn, fold, h1, h2, h3, h4⟩ := s; ⟨ns, pos, rest, turn, fold, g.at h1 n1, g.at h2 n2, h3, h4⟩
theorem Src.ne {K : PySem.W.Frag} {H : Hp} {p c F : Addr} (s : Src K H p c) (h : H F = none) : p ≠ F ∧ c ≠ F := let ⟨_, _, _, _, _, h1, h2, _⟩ := s; ⟨ne_of_none h1 h, ne_of_none h2 h⟩
/-- two values that read alike: ints, tuples of such, n deep -/
def Tr (K : PySem.W.Frag) (H : Hp) : Nat → V → V → Prop
  | 0, x, y => ∃ i, x = .int i ∧ y = .int i
  | n + 1, x, y => (∃ i, x = .int i ∧ y = .int i) ∨ ∃ p q xs ys, x = .ref p ∧ y = .ref q ∧ SqT K H p xs ∧ SqT K H q ys ∧ xs.length ≤ 1000 ∧ Paired (Tr K H n) xs ys
/-- anything -/
def Any (K : PySem.W.Frag) (H : Hp) (v : V) : Prop := (∃ o, Th K H v o) ∧ ∃ o, Itm K H v o
theorem Any.gr {K : PySem.W.Frag} {m : List Addr} {H H1 : Hp} {v : V} (h : Any K H v) (g : Gr m H H1) : Any K H1 v := ⟨let ⟨o, z⟩ := h.1; ⟨o, z.gr g⟩, let ⟨o, z⟩ := h.2; ⟨o, z.gr g⟩⟩

/-! ### promises: the program's defs -/
section
variable (K : PySem.W.Frag)
def sp_is_integer : Sp := fun vs H Q _ => ∃ x o, vs = [x] ∧ Itm K H x o ∧ Q (.bl o.isSome) H
def sp_is_between : Sp := fun vs H Q _ => ∃ x l m o, vs = [x, .int l, .int m] ∧ Itm K H x o ∧ Q (.bl (btw o l m)) H
def sp_is_pair : Sp := fun vs H Q _ => ∃ p xs, vs = [.ref p] ∧ SqT K H p xs ∧ Q (.bl (decide (xs.length = 2))) H
def sp_is_triple : Sp := fun vs H Q _ => ∃ p xs, vs = [.ref p] ∧ SqT K H p xs ∧ Q (.bl (decide (xs.length = 3))) H
def sp_is_row : Sp := fun vs H Q _ => ∃ v n o, vs = [v, .int n] ∧ Th K H v o ∧ n ≤ 1000 ∧ ∀ H', Gr [] H H' → Q (.bl (rowOk o n)) H'
def sp_is_lot : Sp := fun vs H Q _ => ∃ v n o, vs = [v, .int n] ∧ Th K H v o ∧ Q (.bl (lotOk o n)) H
def sp_divisor : Sp := fun vs H Q _ => ∃ a b, vs = [.int a, .int b] ∧ Q (.int (Int.gcd a b : Int)) H
def sp_multiple : Sp := fun vs H Q _ => ∃ a b : Int, vs = [.int a, .int b] ∧ 0 < a ∧ a ≤ 12 ∧ 0 < b ∧ b ≤ 12 ∧ Q (.int (a / (Int.gcd a b : Int) * b)) H
def sp_made : Sp := fun vs H Q _ => ∃ t b : Int, vs = [.int t, .int b] ∧ 0 < b ∧ b < 1073741824 ∧ ∀ H' v, Gr [] H H' → Fr K H' v (mk t b) → Q v H'
def sp_is_fraction : Sp := fun vs H Q _ => ∃ v f, vs = [v] ∧ Fr K H v f ∧ 1 ≤ f.2 ∧ Int.gcd f.1 f.2 = 1 ∧ Q (.bl true) H
def sp_is_below : Sp := fun vs H Q _ => ∃ v w f g, vs = [v, w] ∧ Fr K H v f ∧ Fr K H w g ∧ WfS f ∧ WfS g ∧ Q (.bl (decide (f.1 * g.2 < g.1 * f.2))) H
def sp_next_whole : Sp := fun vs H Q _ => ∃ v f, vs = [v] ∧ Fr K H v f ∧ 0 < f.2 ∧ f.2 < 1073741824 ∧ Q (.int (ceilF f)) H
def sp_is_threshold : Sp := fun vs H Q _ => ∃ v f, vs = [v] ∧ Fr K H v f ∧ WfS f ∧ Q (.bl true) H
def sp_is_list : Sp := fun vs H Q _ => ∃ v l, vs = [v] ∧ Ts K H v l ∧ WfL l ∧ ∀ H', Gr [] H H' → Q (.bl true) H'
def sp_is_width : Sp := fun vs H Q _ => ∃ w : Int, vs = [.int w] ∧ 0 ≤ w ∧ w ≤ 12 ∧ Q (.bl true) H
def sp_parts_of_grain : Sp := fun vs H Q _ => ∃ w o : Int, vs = [.int w, .int o] ∧ 0 ≤ w ∧ w ≤ 12 ∧ 0 ≤ o ∧ o ≤ 12 ∧ Q (.int (pg w o)) H
def sp_in_grains : Sp := fun vs H Q _ => ∃ v g l, vs = [v, .int g] ∧ Ts K H v l ∧ (∀ s ∈ l, WfS s) ∧ l.length ≤ 1000 ∧ 0 < g ∧ g ≤ 144 ∧ ∀ H' u, Gr [] H H' → Ti K H' u (l.map fun s => ceilF (mk (s.1 * g) s.2)) → Q u H'
def sp_part_of : Sp := fun vs H Q _ => ∃ t w : Int, vs = [.int t, .int w] ∧ 0 ≤ w ∧ w ≤ 12 ∧ ∀ H' v, Gr [] H H' → Fr K H' v (lvl w t) → Q v H'
def sp_is_filling : Sp := fun vs H Q _ => ∃ w v g ws ps o, vs = [w, v] ∧ Wb K H w g ws ps ∧ WfW ws ∧ Th K H v o ∧ ∀ H', Gr [] H H' → Q (.bl (filOk ws o)) H'
def sp_check_filling : Sp := fun vs H Q E => ∃ w v g ws ps o, vs = [w, v] ∧ Wb K H w g ws ps ∧ WfW ws ∧ Th K H v o ∧ ∀ H', Gr [] H H' → (filOk ws o = true → Q .non H') ∧ (filOk ws o = false → E (.ref (He.ga K "NoFilling")) none H')
def sp_check_opening : Sp := fun vs H Q E => ∃ w v g ws ps r, vs = [w, v] ∧ Wb K H w g ws ps ∧ Opn K H v ps.length r ∧ ps.length ≤ 1000 ∧ ∀ H', Gr [] H H' → (r ≠ none → Q .non H') ∧ (r = none → E (.ref (He.ga K "NoOpening")) none H')
/-- a web, a right filling -/
def PreF (H : Hp) (w v : V) (g : Addr) (ws : List Int) (ps : List PipeD) (fl : List Int) : Prop := Wb K H w g ws ps ∧ WfW ws ∧ WfA ws.length ps ∧ Ti K H v fl ∧ fl.length = ws.length
def sp_drops_in_grains : Sp := fun vs H Q _ => ∃ w v g ws ps fl, vs = [w, v] ∧ PreF K H w v g ws ps fl ∧ ∀ H' u, Gr [] H H' → Lii K H' u ((ps.map (gaugeOf ws)).map (dropN fl)) → Q u H'
def sp_runs_at : Sp := fun vs H Q _ => ∃ v l d, vs = [v, .int d] ∧ Ti K H v l ∧ l.length ≤ 1000 ∧ ∀ H', Gr [] H H' → Q (.int (runsAt l d)) H'
def runsOf (ws : List Int) (ps : List PipeD) (fl : List Int) : List Int := (ps.map (gaugeOf ws)).map fun G => runsAt G.units (dropN fl G)
def sp_flows_of : Sp := fun vs H Q _ => ∃ w v g ws ps fl, vs = [w, v] ∧ PreF K H w v g ws ps fl ∧ ∀ H' u, Gr [] H H' → Lii K H' u (runsOf ws ps fl) → Q u H'
/-- a right opening -/
def OpR1 (H : Hp) (v : V) (op : Option (List Int)) : Prop := (v = .non ∧ op = none) ∨ (v ≠ .non ∧ ∃ l, op = some l ∧ Ti K H v l)
def sp_opened : Sp := fun vs H Q _ => ∃ u v ns op, vs = [u, v] ∧ Lii K H u ns ∧ ns.length ≤ 1000 ∧ OpR1 K H v op ∧ ∀ H' z, Gr [] H H' → Lii K H' z (openedOf ns op) → Q z H'
def sp_nets_of : Sp := fun vs H Q _ => ∃ w u g ws ps ns, vs = [w, u] ∧ Wb K H w g ws ps ∧ WfW ws ∧ WfA ws.length ps ∧ Lii K H u ns ∧ ns.length = ps.length ∧ ∀ H' z, Gr [] H H' → Lii K H' z (netsOf ws.length ps ns) → Q z H'
def sp_moved : Sp := fun vs H Q _ => ∃ w v u g ws ps fl ns, vs = [w, v, u] ∧ PreF K H w v g ws ps fl ∧ Lii K H u ns ∧ ns.length = ps.length ∧ ∀ H' z, Gr [] H H' → Ti K H' z (movedOf ws fl (netsOf ws.length ps ns)) → Q z H'
/-- a web, any filling -/
def PreT (H : Hp) (w v : V) (g : Addr) (ws : List Int) (ps : List PipeD) (o : Option (List (Option Int))) : Prop := Wb K H w g ws ps ∧ WfW ws ∧ WfA ws.length ps ∧ Th K H v o
def sp_levels : Sp := fun vs H Q E => ∃ w v g ws ps o, vs = [w, v] ∧ PreT K H w v g ws ps o ∧
  (filOk ws o = true → ∀ H' z, Gr [] H H' → Ts K H' z (levelsOf ws (intsOf o)) → Q z H') ∧ (filOk ws o = false → ∀ H', Gr [] H H' → E (.ref (He.ga K "NoFilling")) none H')
def dropsP (ws : List Int) (ps : List PipeD) (fl : List Int) : List (Int × Int) := (ps.map (gaugeOf ws)).map fun G => mk (dropN fl G) G.grains
def sp_drops : Sp := fun vs H Q E => ∃ w v g ws ps o, vs = [w, v] ∧ PreT K H w v g ws ps o ∧
  (filOk ws o = true → ∀ H' z, Gr [] H H' → Ts K H' z (dropsP ws ps (intsOf o)) → Q z H') ∧ (filOk ws o = false → ∀ H', Gr [] H H' → E (.ref (He.ga K "NoFilling")) none H')
/-- how a run with an opening ends: ok tells what comes out -/
def RunE (ws : List Int) (o : Option (List (Option Int))) (r : Option (Option (List Int))) (H : Hp) (E : XK) (ok : Option (List Int) → Prop) : Prop :=
  (filOk ws o = false → ∀ H', Gr [] H H' → E (.ref (He.ga K "NoFilling")) none H') ∧ (filOk ws o = true → (r = none → ∀ H', Gr [] H H' → E (.ref (He.ga K "NoOpening")) none H') ∧ ∀ op, r = some op → ok op)
def sp_running : Sp := fun vs H Q E => ∃ w v x g ws ps o r, vs = [w, v, x] ∧ PreT K H w v g ws ps o ∧ Opn K H x ps.length r ∧
  RunE K ws o r H E fun op => ∀ H' z, Gr [] H H' → Lii K H' z (openedOf (runsOf ws ps (intsOf o)) op) → Q z H'
def sp_flows : Sp := fun vs H Q E => ∃ w v x g ws ps o r, vs = [w, v, x] ∧ PreT K H w v g ws ps o ∧ Opn K H x ps.length r ∧
  RunE K ws o r H E fun op => ∀ H' z, Gr [] H H' → Ti K H' z (openedOf (runsOf ws ps (intsOf o)) op) → Q z H'
def sp_tick : Sp := fun vs H Q E => ∃ w v x g ws ps o r, vs = [w, v, x] ∧ PreT K H w v g ws ps o ∧ Opn K H x ps.length r ∧
  RunE K ws o r H E fun op => ∀ H' z, Gr [] H H' → Ti K H' z (movedOf ws (intsOf o) (netsOf ws.length ps (openedOf (runsOf ws ps (intsOf o)) op))) → Q z H'
def sp_nets : Sp := fun vs H Q E => ∃ w v x g ws ps o r, vs = [w, v, x] ∧ PreT K H w v g ws ps o ∧ Opn K H x ps.length r ∧
  RunE K ws o r H E fun op => ∀ H' z, Gr [] H H' → Ti K H' z (netsOf ws.length ps (openedOf (runsOf ws ps (intsOf o)) op)) → Q z H'
def sp_are_widths : Sp := fun vs H Q _ => ∃ v ws, vs = [v] ∧ Ti K H v ws ∧ WfW ws ∧ ∀ H', Gr [] H H' → Q (.bl true) H'
def sp_is_pipe : Sp := fun vs H Q _ => ∃ (v : V) (n : Nat) (P : PipeD), vs = [v, .int n] ∧ Pi K H v P ∧ WfP n P ∧ ∀ H', Gr [] H H' → Q (.bl true) H'
def sp_gauge : Sp := fun vs H Q _ => ∃ w v ws P, vs = [w, v] ∧ Ti K H w ws ∧ WfW ws ∧ Pi K H v P ∧ WfP ws.length P ∧ ∀ H' u, Gr [] H H' → Ga K H' u (gaugeOf ws P) → Q u H'
/-- the object at x, new; wv, pv right -/
def PreW (H : Hp) (x : Addr) (wv pv : V) (ws : List Int) (ps : List PipeD) : Prop := (∃ dx, H x = some (.ins (webC K) dx [])) ∧ Ti K H wv ws ∧ WfW ws ∧ Ps K H pv ps ∧ WfA ws.length ps
def GrX (x : Addr) (H H' : Hp) : Prop := ∀ b o, b ≠ x → H b = some o → H' b = some o
def sp_begin : Sp := fun vs H Q _ => ∃ x wv pv ws ps, vs = [.ref x, wv, pv] ∧ PreW K H x wv pv ws ps ∧ ∀ H' g, GrX x H H' → H g = none → Wb K H' (.ref x) g ws ps → Q .non H'
def sp_init : Sp := fun vs H Q _ => ∃ x wv pv ws ps, vs = [.ref x, wv, pv] ∧ PreW K H x wv pv ws ps ∧ ∀ H' g, GrX x H H' → H g = none → Wb K H' (.ref x) g ws ps → Q .non H'
end
end K11
/-! part K11N -/
namespace K11
open PySem PySem.Spec PyProof.Rows L2

/-! ### promises: the law's defs -/
/-- behind a draw from the source at p -/
def Drawn (K : PySem.W.Frag) (p c : Addr) (H H' : Hp) : Prop := Gr [p] H H' ∧ Src K H' p c
section
variable (K : PySem.W.Frag)
def sp__law_source : Sp := fun vs H Q _ => ∃ (a : Addr) (ns : List Int), vs = [.ref a] ∧ SqL K H a (ns.map V.int) ∧ ns.length ≤ 1000 ∧ ∀ H' p c, Gr [] H H' → H p = none → H c = none → Src K H' p c → Q (.ref p) H'
def sp__law_mixed : Sp := fun vs H Q _ => ∃ n t, vs = [.int n, .int t] ∧ ∀ r, 0 ≤ r → Q (.int r) H
def sp__law_draw : Sp := fun vs H Q _ => ∃ p c n, vs = [.ref p, .int n] ∧ Src K H p c ∧ 0 < n ∧ n ≤ 10000000000000000000000000000000000000000 ∧ ∀ H' k, Drawn K p c H H' → 0 ≤ k → k < n → Q (.int k) H'
def sp__law_pick : Sp := fun vs H Q _ => ∃ p c r xs, vs = [.ref p, .ref r] ∧ Src K H p c ∧ SqL K H r xs ∧ r ≠ p ∧ xs ≠ [] ∧ xs.length ≤ 1000 ∧ ∀ H' (i : Nat) v, Drawn K p c H H' → xs[i]? = some v → Q v H'
def sp__law_divisor : Sp := fun vs H Q _ => ∃ a b, vs = [.int a, .int b] ∧ 0 < b ∧ b ≤ 500 ∧ Q (.int (Int.gcd a b : Int)) H
def sp__law_made : Sp := fun vs H Q _ => ∃ t b, vs = [.int t, .int b] ∧ 0 < b ∧ b ≤ 500 ∧ ∀ H' v, Gr [] H H' → Fr K H' v (mk t b) → Q v H'
def sp__law_added : Sp := fun vs H Q _ => ∃ v w f g, vs = [v, w] ∧ Fr K H v f ∧ Fr K H w g ∧ 0 < f.2 ∧ f.2 ≤ 20 ∧ 0 < g.2 ∧ g.2 ≤ 20 ∧ ∀ H' u, Gr [] H H' → Fr K H' u (addF f g) → Q u H'
def sp__law_same (n : Nat) : Sp := fun vs H Q _ => ∃ m x y, n = m + 1 ∧ vs = [x, y] ∧ Tr K H m x y ∧ Q (.bl true) H
/-- found and due, alike -/
def Alike (H : Hp) (v w : V) : Prop :=
  (∃ p q x y, v = .ref p ∧ w = .ref q ∧ SqT K H p [.str "told", x] ∧ SqT K H q [.str "told", y] ∧ Tr K H 3 x y) ∨
  (∃ p q l r b1 b2 b3, v = .ref p ∧ w = .ref q ∧ SqT K H p [.str "refused", .ref l, .int 0] ∧ SqT K H q [.str "refused", .ref r, .int 0] ∧ SqL K H l [.bl b1, .bl b2, .bl b3] ∧ SqL K H r [.bl b1, .bl b2, .bl b3])
def sp__law_met : Sp := fun vs H Q _ => ∃ v w, vs = [v, w] ∧ Alike K H v w ∧ Q (.bl true) H
def sp__law_integer : Sp := fun vs H Q _ => ∃ x o, vs = [x] ∧ Itm K H x o ∧ Q (.bl o.isSome) H
def sp__law_deep : Sp := fun vs H Q _ => vs = [.int 32] ∧ ∀ H' v, Gr [] H H' → Any K H' v → Q v H'
def sp__law_strange : Sp := fun vs H Q _ => ∃ p c, vs = [.ref p] ∧ Src K H p c ∧ ∀ H' v, Drawn K p c H H' → Any K H' v → Q v H'
def sp__law_in_order : Sp := fun vs H Q _ => ∃ v l, vs = [v] ∧ Li K H (Fr K H) v l ∧ l.length ≤ 6 ∧ 1 ≤ l.length ∧ (∀ s ∈ l, WfS s) ∧ ∀ H' u l', Gr [] H H' → Ts K H' u l' → WfL l' → Q u H'
def sp__law_steps : Sp := fun vs H Q _ => ∃ p c, vs = [.ref p, .int 4, .bl false] ∧ Src K H p c ∧ ∀ H' u l, Drawn K p c H H' → Ts K H' u l → WfL l → Q u H'
def sp__law_flow : Sp := fun vs H Q _ => ∃ v w st d, vs = [v, w] ∧ Ts K H v st ∧ Fr K H w d ∧ (∀ s ∈ st, WfS s) ∧ 0 < d.2 ∧ d.2 ≤ 500 ∧ Q (.int (flowL st d)) H
def sp__law_widths : Sp := fun vs H Q _ => ∃ (p c : Addr) (n : Nat), vs = [.ref p, .int n, .bl true] ∧ Src K H p c ∧ 1 ≤ n ∧ n ≤ 12 ∧ ∀ H' u ws, Drawn K p c H H' → Ti K H' u ws → WfW ws → ws.length = n → Q u H'
def sp__law_pipe : Sp := fun vs H Q _ => ∃ (p c : Addr) (n : Nat), vs = [.ref p, .int n, .int 4, .bl false] ∧ Src K H p c ∧ 2 ≤ n ∧ n ≤ 12 ∧ ∀ H' u P, Drawn K p c H H' → Pi K H' u P → WfP n P → Q u H'
def sp__law_pipes : Sp := fun vs H Q _ => ∃ (p c : Addr) (n k : Nat), vs = [.ref p, .int n, .int k, .int 4, .bl false] ∧ Src K H p c ∧ 1 ≤ n ∧ n ≤ 12 ∧ k ≤ 36 ∧ ∀ H' u ps, Drawn K p c H H' → Ps K H' u ps → WfA n ps → Q u H'
def sp__law_water : Sp := fun vs H Q _ => ∃ p c, vs = [.ref p, .int 30] ∧ Src K H p c ∧ ∀ H' i, Drawn K p c H H' → Q (.int i) H'
def sp__law_filling : Sp := fun vs H Q _ => ∃ p c w ws, vs = [.ref p, w, .int 30, .bl true] ∧ Src K H p c ∧ Ti K H w ws ∧ ws.length ≤ 12 ∧ ∀ H' u fl, Drawn K p c H H' → Ti K H' u fl → fl.length = ws.length → Q u H'
def sp__law_opening : Sp := fun vs H Q _ => ∃ (p c : Addr) (n : Nat), vs = [.ref p, .int n] ∧ Src K H p c ∧ n ≤ 36 ∧ ∀ H' u l, Drawn K p c H H' → (u = .non ∨ Ti K H' u l) → Q u H'
def sp__law_level : Sp := fun vs H Q _ => ∃ x w, vs = [.int x, .int w] ∧ 0 ≤ w ∧ w ≤ 12 ∧ ∀ H' v, Gr [] H H' → Fr K H' v (lvl w x) → Q v H'
/-- widths, a filling -/
def PreD (H : Hp) (w v : V) (ws fl : List Int) : Prop := Ti K H w ws ∧ WfW ws ∧ Ti K H v fl ∧ fl.length = ws.length
def sp__law_drop : Sp := fun vs H Q _ => ∃ w u v ws fl P, vs = [w, u, v] ∧ PreD K H w v ws fl ∧ Pi K H u P ∧ WfP ws.length P ∧ ∀ H' z, Gr [] H H' → Fr K H' z (dropL ws fl P) → Q z H'
def sp__law_flows : Sp := fun vs H Q _ => ∃ w u v x ws fl ps op, vs = [w, u, v, x] ∧ PreD K H w v ws fl ∧ Ps K H u ps ∧ WfA ws.length ps ∧ OpR1 K H x op ∧ ∀ H' z, Gr [] H H' → Ti K H' z (openedOf (numbersOf ws ps fl) op) → Q z H'
def sp__law_nets : Sp := fun vs H Q _ => ∃ (n : Nat) (u v : V) (ps : List PipeD) (ns : List Int), vs = [.int n, u, v] ∧ n ≤ 12 ∧ Ps K H u ps ∧ WfA n ps ∧ Ti K H v ns ∧ ns.length = ps.length ∧ ∀ H' z, Gr [] H H' → Ti K H' z (netsOf n ps ns) → Q z H'
def sp__law_behind : Sp := fun vs H Q _ => ∃ w v u ws fl ns, vs = [w, v, u] ∧ PreD K H w v ws fl ∧ Ti K H u ns ∧ ns.length = ws.length ∧ ∀ H' z, Gr [] H H' → Ti K H' z (movedOf ws fl ns) → Q z H'
def sp__law_is_filling : Sp := fun vs H Q _ => ∃ w v ws o, vs = [w, v] ∧ Ti K H w ws ∧ WfW ws ∧ Th K H v o ∧ Q (.bl (filOk ws o)) H
def sp__law_is_opening : Sp := fun vs H Q _ => ∃ (n : Nat) (v : V) (r : Option (Option (List Int))), vs = [.int n, v] ∧ Opn K H v n r ∧ n ≤ 1000 ∧ Q (.bl r.isSome) H
def sp__law_with : Sp := fun vs H Q _ => ∃ (x : V) (p : Addr) (xs : List V) (k : Nat), vs = [.ref p, .int k, x] ∧ SqT K H p xs ∧ xs.length ≤ 1000 ∧ k < xs.length ∧ ∀ H' q, Gr [] H H' → SqT K H' q (xs.set k x) → Q (.ref q) H'
def sp__law_bad_filling : Sp := fun vs H Q _ => ∃ p c k w v ws fl, vs = [.ref p, .int k, w, v] ∧ Src K H p c ∧ PreD K H w v ws fl ∧ ∀ H' u o, Drawn K p c H H' → Th K H' u o → Q u H'
def sp__law_bad_opening : Sp := fun vs H Q _ => ∃ (p c : Addr) (k : Int) (n : Nat), vs = [.ref p, .int k, .int n] ∧ Src K H p c ∧ n ≤ 36 ∧ ∀ H' u o, Drawn K p c H H' → Th K H' u o → Q u H'
/-- what _law_told found: told / refused -/
def Told (H : Hp) (v : V) (T : V → Prop) : Prop := ∃ p x, v = .ref p ∧ SqT K H p [.str "told", x] ∧ T x
def Refd (H : Hp) (v : V) (b1 b2 b3 : Bool) : Prop := ∃ p l, v = .ref p ∧ SqT K H p [.str "refused", .ref l, .int 0] ∧ SqL K H l [.bl b1, .bl b2, .bl b3]
/-- the five answers -/
def Five (dr : List (Int × Int)) (ns : Option (List Int) → List Int) (H : Hp) (ws : List Int) (ps : List PipeD) (o : Option (List (Option Int))) (r : Option (Option (List Int))) (xs : List V) : Prop :=
  ∃ a b c d e, xs = [a, b, c, d, e] ∧
    (filOk ws o = false → Refd K H a true false false ∧ Refd K H b true false false ∧ Refd K H c true false false ∧ Refd K H d true false false ∧ Refd K H e true false false) ∧
    (filOk ws o = true → Told K H a (fun x => Ts K H x (levelsOf ws (intsOf o))) ∧ Told K H b (fun x => Ts K H x dr) ∧
      (r = none → Refd K H c false true false ∧ Refd K H d false true false ∧ Refd K H e false true false) ∧
      ∀ op, r = some op → Told K H c (fun x => Ti K H x (ns op)) ∧ Told K H d (fun x => Ti K H x (movedOf ws (intsOf o) (netsOf ws.length ps (ns op)))) ∧ Told K H e (fun x => Ti K H x (netsOf ws.length ps (ns op))))
abbrev FiveP (H : Hp) (ws : List Int) (ps : List PipeD) (o : Option (List (Option Int))) (r : Option (Option (List Int))) (xs : List V) : Prop :=
  Five K (dropsP ws ps (intsOf o)) (fun op => openedOf (runsOf ws ps (intsOf o)) op) H ws ps o r xs
abbrev FiveL (H : Hp) (ws : List Int) (ps : List PipeD) (o : Option (List (Option Int))) (r : Option (Option (List Int))) (xs : List V) : Prop :=
  Five K (ps.map (dropL ws (intsOf o))) (fun op => openedOf (numbersOf ws ps (intsOf o)) op) H ws ps o r xs
def sp__law_all_due : Sp := fun vs H Q _ => ∃ w u v x ws ps o r, vs = [w, u, v, x] ∧ Ti K H w ws ∧ WfW ws ∧ Ps K H u ps ∧ WfA ws.length ps ∧ Th K H v o ∧ Opn K H x ps.length r ∧
  ∀ H' p xs, Gr [] H H' → H' p = some (.lst xs) → FiveL K H' ws ps o r xs → Q (.ref p) H'
/-- the tables of code objects -/
abbrev tabs : List (Addr × Str) := [((He.cT K ("_law_all_told", none)).2, ("_law_all_told" : Str) ++ ".<locals>." ++ "<lambda>")]
def sp__law_all_told : Sp := fun vs H Q _ => ∃ w v x g ws ps o r, vs = [w, v, x] ∧ LamX.Tabs (tabs K) H ∧ PreT K H w v g ws ps o ∧ Opn K H x ps.length r ∧
  ∀ H' p xs, LamX.ExtN H H' → LamX.Tabs (tabs K) H' → H' p = some (.lst xs) → FiveP K H' ws ps o r xs → Q (.ref p) H'
def sp_law : Sp := fun vs H Q _ => ∃ (a : Addr) (ns : List Int), vs = [.ref a] ∧ SqL K H a (ns.map V.int) ∧ ns.length ≤ 1000 ∧ LamX.Tabs (tabs K) H ∧ ∀ H', Q (.bl true) H'
end
end K11
/-! part K11K -/
namespace K11
open PySem PySem.Spec PyProof.Rows L2
abbrev s_is_integer : Stmt := top 7
abbrev N_is_integer : List Str := ["thing"]
theorem sc_is_integer : FnScope N_is_integer ["thing"] (defScope s_is_integer) := ⟨rfl, rfl, rfl, by decide +kernel, rfl, by decide +kernel, by decide +kernel⟩
abbrev s_is_between : Stmt := top 8
abbrev N_is_between : List Str := ["thing", "least", "most"]
theorem sc_is_between : FnScope N_is_between ["thing", "least", "most"] (defScope s_is_between) := ⟨rfl, rfl, rfl, by decide +kernel, rfl, by decide +kernel, by decide +kernel⟩
abbrev s_is_pair : Stmt := top 9
abbrev N_is_pair : List Str := ["thing"]
theorem sc_is_pair : FnScope N_is_pair ["thing"] (defScope s_is_pair) := ⟨rfl, rfl, rfl, by decide +kernel, rfl, by decide +kernel, by decide +kernel⟩
abbrev s_is_triple : Stmt := top 10
abbrev N_is_triple : List Str := ["thing"]
theorem sc_is_triple : FnScope N_is_triple ["thing"] (defScope s_is_triple) := ⟨rfl, rfl, rfl, by decide +kernel, rfl, by decide +kernel, by decide +kernel⟩
abbrev s_is_row : Stmt := top 11
abbrev N_is_row : List Str := ["thing", "many", "item"]
theorem sc_is_row : FnScope N_is_row ["thing", "many"] (defScope s_is_row) := ⟨rfl, rfl, rfl, by decide +kernel, rfl, by decide +kernel, by decide +kernel⟩
abbrev s_is_lot : Stmt := top 12
abbrev N_is_lot : List Str := ["thing", "many", "last", "item"]
theorem sc_is_lot : FnScope N_is_lot ["thing", "many"] (defScope s_is_lot) := ⟨rfl, rfl, rfl, by decide +kernel, rfl, by decide +kernel, by decide +kernel⟩
abbrev s_divisor : Stmt := top 15
abbrev N_divisor : List Str := ["one", "other"]
theorem sc_divisor : FnScope N_divisor ["one", "other"] (defScope s_divisor) := ⟨rfl, rfl, rfl, by decide +kernel, rfl, by decide +kernel, by decide +kernel⟩
abbrev s_multiple : Stmt := top 16
abbrev N_multiple : List Str := ["one", "other"]
theorem sc_multiple : FnScope N_multiple ["one", "other"] (defScope s_multiple) := ⟨rfl, rfl, rfl, by decide +kernel, rfl, by decide +kernel, by decide +kernel⟩
abbrev s_made : Stmt := top 17
abbrev N_made : List Str := ["top", "bottom", "part"]
theorem sc_made : FnScope N_made ["top", "bottom"] (defScope s_made) := ⟨rfl, rfl, rfl, by decide +kernel, rfl, by decide +kernel, by decide +kernel⟩
abbrev s_is_fraction : Stmt := top 18
abbrev N_is_fraction : List Str := ["thing"]
theorem sc_is_fraction : FnScope N_is_fraction ["thing"] (defScope s_is_fraction) := ⟨rfl, rfl, rfl, by decide +kernel, rfl, by decide +kernel, by decide +kernel⟩
abbrev s_is_below : Stmt := top 19
abbrev N_is_below : List Str := ["one", "other"]
theorem sc_is_below : FnScope N_is_below ["one", "other"] (defScope s_is_below) := ⟨rfl, rfl, rfl, by decide +kernel, rfl, by decide +kernel, by decide +kernel⟩
abbrev s_next_whole : Stmt := top 20
abbrev N_next_whole : List Str := ["one"]
theorem sc_next_whole : FnScope N_next_whole ["one"] (defScope s_next_whole) := ⟨rfl, rfl, rfl, by decide +kernel, rfl, by decide +kernel, by decide +kernel⟩
abbrev s_is_threshold : Stmt := top 26
abbrev N_is_threshold : List Str := ["thing"]
theorem sc_is_threshold : FnScope N_is_threshold ["thing"] (defScope s_is_threshold) := ⟨rfl, rfl, rfl, by decide +kernel, rfl, by decide +kernel, by decide +kernel⟩
abbrev s_is_list : Stmt := top 27
abbrev N_is_list : List Str := ["thing", "item", "later"]
theorem sc_is_list : FnScope N_is_list ["thing"] (defScope s_is_list) := ⟨rfl, rfl, rfl, by decide +kernel, rfl, by decide +kernel, by decide +kernel⟩
abbrev s_is_width : Stmt := top 28
abbrev N_is_width : List Str := ["thing"]
theorem sc_is_width : FnScope N_is_width ["thing"] (defScope s_is_width) := ⟨rfl, rfl, rfl, by decide +kernel, rfl, by decide +kernel, by decide +kernel⟩
abbrev s_parts_of_grain : Stmt := top 29
abbrev N_parts_of_grain : List Str := ["width", "other"]
theorem sc_parts_of_grain : FnScope N_parts_of_grain ["width", "other"] (defScope s_parts_of_grain) := ⟨rfl, rfl, rfl, by decide +kernel, rfl, by decide +kernel, by decide +kernel⟩
abbrev s_in_grains : Stmt := top 30
abbrev N_in_grains : List Str := ["steps", "grains", "step"]
theorem sc_in_grains : FnScope N_in_grains ["steps", "grains"] (defScope s_in_grains) := ⟨rfl, rfl, rfl, by decide +kernel, rfl, by decide +kernel, by decide +kernel⟩
abbrev s_part_of : Stmt := top 31
abbrev N_part_of : List Str := ["top", "width"]
theorem sc_part_of : FnScope N_part_of ["top", "width"] (defScope s_part_of) := ⟨rfl, rfl, rfl, by decide +kernel, rfl, by decide +kernel, by decide +kernel⟩
abbrev s_is_filling : Stmt := top 33
abbrev N_is_filling : List Str := ["web", "thing", "water", "width"]
theorem sc_is_filling : FnScope N_is_filling ["web", "thing"] (defScope s_is_filling) := ⟨rfl, rfl, rfl, by decide +kernel, rfl, by decide +kernel, by decide +kernel⟩
abbrev s_check_filling : Stmt := top 34
abbrev N_check_filling : List Str := ["web", "thing"]
theorem sc_check_filling : FnScope N_check_filling ["web", "thing"] (defScope s_check_filling) := ⟨rfl, rfl, rfl, by decide +kernel, rfl, by decide +kernel, by decide +kernel⟩
abbrev s_check_opening : Stmt := top 35
abbrev N_check_opening : List Str := ["web", "thing"]
theorem sc_check_opening : FnScope N_check_opening ["web", "thing"] (defScope s_check_opening) := ⟨rfl, rfl, rfl, by decide +kernel, rfl, by decide +kernel, by decide +kernel⟩
abbrev s_drops_in_grains : Stmt := top 36
abbrev N_drops_in_grains : List Str := ["web", "filling", "one", "other", "here", "there", "units", "grains"]
theorem sc_drops_in_grains : FnScope N_drops_in_grains ["web", "filling"] (defScope s_drops_in_grains) := ⟨rfl, rfl, rfl, by decide +kernel, rfl, by decide +kernel, by decide +kernel⟩
abbrev s_runs_at : Stmt := top 37
abbrev N_runs_at : List Str := ["units", "number", "found", "unit"]
theorem sc_runs_at : FnScope N_runs_at ["units", "number"] (defScope s_runs_at) := ⟨rfl, rfl, rfl, by decide +kernel, rfl, by decide +kernel, by decide +kernel⟩
abbrev s_flows_of : Stmt := top 38
abbrev N_flows_of : List Str := ["web", "filling", "line", "number"]
theorem sc_flows_of : FnScope N_flows_of ["web", "filling"] (defScope s_flows_of) := ⟨rfl, rfl, rfl, by decide +kernel, rfl, by decide +kernel, by decide +kernel⟩
abbrev s_opened : Stmt := top 39
abbrev N_opened : List Str := ["numbers", "opening", "pipe", "number"]
theorem sc_opened : FnScope N_opened ["numbers", "opening"] (defScope s_opened) := ⟨rfl, rfl, rfl, by decide +kernel, rfl, by decide +kernel, by decide +kernel⟩
abbrev s_nets_of : Stmt := top 40
abbrev N_nets_of : List Str := ["web", "numbers", "found", "one", "other", "steps", "number"]
theorem sc_nets_of : FnScope N_nets_of ["web", "numbers"] (defScope s_nets_of) := ⟨rfl, rfl, rfl, by decide +kernel, rfl, by decide +kernel, by decide +kernel⟩
abbrev s_moved : Stmt := top 41
abbrev N_moved : List Str := ["web", "filling", "numbers", "nets", "width", "water", "net"]
theorem sc_moved : FnScope N_moved ["web", "filling", "numbers"] (defScope s_moved) := ⟨rfl, rfl, rfl, by decide +kernel, rfl, by decide +kernel, by decide +kernel⟩
abbrev s_levels : Stmt := top 42
abbrev N_levels : List Str := ["web", "filling", "water", "width"]
theorem sc_levels : FnScope N_levels ["web", "filling"] (defScope s_levels) := ⟨rfl, rfl, rfl, by decide +kernel, rfl, by decide +kernel, by decide +kernel⟩
abbrev s_drops : Stmt := top 43
abbrev N_drops : List Str := ["web", "filling", "line", "number"]
theorem sc_drops : FnScope N_drops ["web", "filling"] (defScope s_drops) := ⟨rfl, rfl, rfl, by decide +kernel, rfl, by decide +kernel, by decide +kernel⟩
abbrev s_running : Stmt := top 44
abbrev N_running : List Str := ["web", "filling", "opening"]
theorem sc_running : FnScope N_running ["web", "filling", "opening"] (defScope s_running) := ⟨rfl, rfl, rfl, by decide +kernel, rfl, by decide +kernel, by decide +kernel⟩
abbrev s_flows : Stmt := top 45
abbrev N_flows : List Str := ["web", "filling", "opening"]
theorem sc_flows : FnScope N_flows ["web", "filling", "opening"] (defScope s_flows) := ⟨rfl, rfl, rfl, by decide +kernel, rfl, by decide +kernel, by decide +kernel⟩
abbrev s_tick : Stmt := top 46
abbrev N_tick : List Str := ["web", "filling", "opening"]
theorem sc_tick : FnScope N_tick ["web", "filling", "opening"] (defScope s_tick) := ⟨rfl, rfl, rfl, by decide +kernel, rfl, by decide +kernel, by decide +kernel⟩
abbrev s_nets : Stmt := top 47
abbrev N_nets : List Str := ["web", "filling", "opening"]
theorem sc_nets : FnScope N_nets ["web", "filling", "opening"] (defScope s_nets) := ⟨rfl, rfl, rfl, by decide +kernel, rfl, by decide +kernel, by decide +kernel⟩
abbrev s_are_widths : Stmt := top 51
abbrev N_are_widths : List Str := ["thing", "item"]
theorem sc_are_widths : FnScope N_are_widths ["thing"] (defScope s_are_widths) := ⟨rfl, rfl, rfl, by decide +kernel, rfl, by decide +kernel, by decide +kernel⟩
abbrev s_is_pipe : Stmt := top 52
abbrev N_is_pipe : List Str := ["thing", "many"]
theorem sc_is_pipe : FnScope N_is_pipe ["thing", "many"] (defScope s_is_pipe) := ⟨rfl, rfl, rfl, by decide +kernel, rfl, by decide +kernel, by decide +kernel⟩
abbrev s_gauge : Stmt := top 53
abbrev N_gauge : List Str := ["widths", "pipe", "one", "other", "steps", "grains", "factors", "end"]
theorem sc_gauge : FnScope N_gauge ["widths", "pipe"] (defScope s_gauge) := ⟨rfl, rfl, rfl, by decide +kernel, rfl, by decide +kernel, by decide +kernel⟩
abbrev s__law_source : Stmt := top 56
abbrev N__law_source : List Str := ["_law_script", "_law_folded", "_law_cell"]
theorem sc__law_source : FnScope N__law_source ["_law_script"] (defScope s__law_source) := ⟨rfl, rfl, rfl, by decide +kernel, rfl, by decide +kernel, by decide +kernel⟩
abbrev s__law_mixed : Stmt := top 57
abbrev N__law_mixed : List Str := ["_law_number", "_law_turn", "_law_mixed_here"]
theorem sc__law_mixed : FnScope N__law_mixed ["_law_number", "_law_turn"] (defScope s__law_mixed) := ⟨rfl, rfl, rfl, by decide +kernel, rfl, by decide +kernel, by decide +kernel⟩
abbrev s__law_draw : Stmt := top 58
abbrev N__law_draw : List Str := ["_law_source_here", "_law_many", "_law_number", "_law_cell"]
theorem sc__law_draw : FnScope N__law_draw ["_law_source_here", "_law_many"] (defScope s__law_draw) := ⟨rfl, rfl, rfl, by decide +kernel, rfl, by decide +kernel, by decide +kernel⟩
abbrev s__law_pick : Stmt := top 59
abbrev N__law_pick : List Str := ["_law_source_here", "_law_row"]
theorem sc__law_pick : FnScope N__law_pick ["_law_source_here", "_law_row"] (defScope s__law_pick) := ⟨rfl, rfl, rfl, by decide +kernel, rfl, by decide +kernel, by decide +kernel⟩
abbrev s__law_divisor : Stmt := top 60
abbrev N__law_divisor : List Str := ["_law_one", "_law_other", "_law_turn"]
theorem sc__law_divisor : FnScope N__law_divisor ["_law_one", "_law_other"] (defScope s__law_divisor) := ⟨rfl, rfl, rfl, by decide +kernel, rfl, by decide +kernel, by decide +kernel⟩
abbrev s__law_made : Stmt := top 61
abbrev N__law_made : List Str := ["_law_top", "_law_bottom", "_law_part"]
theorem sc__law_made : FnScope N__law_made ["_law_top", "_law_bottom"] (defScope s__law_made) := ⟨rfl, rfl, rfl, by decide +kernel, rfl, by decide +kernel, by decide +kernel⟩
abbrev s__law_added : Stmt := top 62
abbrev N__law_added : List Str := ["_law_one", "_law_other"]
theorem sc__law_added : FnScope N__law_added ["_law_one", "_law_other"] (defScope s__law_added) := ⟨rfl, rfl, rfl, by decide +kernel, rfl, by decide +kernel, by decide +kernel⟩
abbrev s__law_same : Stmt := top 63
abbrev N__law_same : List Str := ["_law_actual", "_law_expected", "_law_k"]
theorem sc__law_same : FnScope N__law_same ["_law_actual", "_law_expected"] (defScope s__law_same) := ⟨rfl, rfl, rfl, by decide +kernel, rfl, by decide +kernel, by decide +kernel⟩
abbrev s__law_met : Stmt := top 64
abbrev N__law_met : List Str := ["_law_found", "_law_due"]
theorem sc__law_met : FnScope N__law_met ["_law_found", "_law_due"] (defScope s__law_met) := ⟨rfl, rfl, rfl, by decide +kernel, rfl, by decide +kernel, by decide +kernel⟩
abbrev s__law_integer : Stmt := top 65
abbrev N__law_integer : List Str := ["_law_thing"]
theorem sc__law_integer : FnScope N__law_integer ["_law_thing"] (defScope s__law_integer) := ⟨rfl, rfl, rfl, by decide +kernel, rfl, by decide +kernel, by decide +kernel⟩
abbrev s__law_deep : Stmt := top 66
abbrev N__law_deep : List Str := ["_law_many", "_law_thing", "_law_turn"]
theorem sc__law_deep : FnScope N__law_deep ["_law_many"] (defScope s__law_deep) := ⟨rfl, rfl, rfl, by decide +kernel, rfl, by decide +kernel, by decide +kernel⟩
abbrev s__law_strange : Stmt := top 67
abbrev N__law_strange : List Str := ["_law_source_here", "_law_things"]
theorem sc__law_strange : FnScope N__law_strange ["_law_source_here"] (defScope s__law_strange) := ⟨rfl, rfl, rfl, by decide +kernel, rfl, by decide +kernel, by decide +kernel⟩
abbrev s__law_in_order : Stmt := top 68
abbrev N__law_in_order : List Str := ["_law_steps_here", "_law_pairs", "_law_one", "_law_pair"]
theorem sc__law_in_order : FnScope N__law_in_order ["_law_steps_here"] (defScope s__law_in_order) := ⟨rfl, rfl, rfl, by decide +kernel, rfl, by decide +kernel, by decide +kernel⟩
abbrev s__law_steps : Stmt := top 69
abbrev N__law_steps : List Str := ["_law_source_here", "_law_most", "_law_wide", "_law_found", "_law_k", "_law_kind"]
theorem sc__law_steps : FnScope N__law_steps ["_law_source_here", "_law_most", "_law_wide"] (defScope s__law_steps) := ⟨rfl, rfl, rfl, by decide +kernel, rfl, by decide +kernel, by decide +kernel⟩
abbrev s__law_flow : Stmt := top 70
abbrev N__law_flow : List Str := ["_law_steps_here", "_law_drop_here", "_law_found", "_law_step"]
theorem sc__law_flow : FnScope N__law_flow ["_law_steps_here", "_law_drop_here"] (defScope s__law_flow) := ⟨rfl, rfl, rfl, by decide +kernel, rfl, by decide +kernel, by decide +kernel⟩
abbrev s__law_widths : Stmt := top 71
abbrev N__law_widths : List Str := ["_law_source_here", "_law_many", "_law_seas", "_law_kind", "_law_alike", "_law_found", "_law_k"]
theorem sc__law_widths : FnScope N__law_widths ["_law_source_here", "_law_many", "_law_seas"] (defScope s__law_widths) := ⟨rfl, rfl, rfl, by decide +kernel, rfl, by decide +kernel, by decide +kernel⟩
abbrev s__law_pipe : Stmt := top 72
abbrev N__law_pipe : List Str := ["_law_source_here", "_law_vessels", "_law_most", "_law_wide", "_law_other"]
theorem sc__law_pipe : FnScope N__law_pipe ["_law_source_here", "_law_vessels", "_law_most", "_law_wide"] (defScope s__law_pipe) := ⟨rfl, rfl, rfl, by decide +kernel, rfl, by decide +kernel, by decide +kernel⟩
abbrev s__law_pipes : Stmt := top 73
abbrev N__law_pipes : List Str := ["_law_source_here", "_law_vessels", "_law_many", "_law_most", "_law_wide", "_law_found", "_law_k", "_law_kind", "_law_last"]
theorem sc__law_pipes : FnScope N__law_pipes ["_law_source_here", "_law_vessels", "_law_many", "_law_most", "_law_wide"] (defScope s__law_pipes) := ⟨rfl, rfl, rfl, by decide +kernel, rfl, by decide +kernel, by decide +kernel⟩
abbrev s__law_water : Stmt := top 74
abbrev N__law_water : List Str := ["_law_source_here", "_law_high", "_law_kind"]
theorem sc__law_water : FnScope N__law_water ["_law_source_here", "_law_high"] (defScope s__law_water) := ⟨rfl, rfl, rfl, by decide +kernel, rfl, by decide +kernel, by decide +kernel⟩
abbrev s__law_filling : Stmt := top 75
abbrev N__law_filling : List Str := ["_law_source_here", "_law_widths_here", "_law_high", "_law_wide", "_law_found", "_law_width"]
theorem sc__law_filling : FnScope N__law_filling ["_law_source_here", "_law_widths_here", "_law_high", "_law_wide"] (defScope s__law_filling) := ⟨rfl, rfl, rfl, by decide +kernel, rfl, by decide +kernel, by decide +kernel⟩
abbrev s__law_opening : Stmt := top 76
abbrev N__law_opening : List Str := ["_law_source_here", "_law_many", "_law_k"]
theorem sc__law_opening : FnScope N__law_opening ["_law_source_here", "_law_many"] (defScope s__law_opening) := ⟨rfl, rfl, rfl, by decide +kernel, rfl, by decide +kernel, by decide +kernel⟩
abbrev s__law_level : Stmt := top 77
abbrev N__law_level : List Str := ["_law_water_here", "_law_width"]
theorem sc__law_level : FnScope N__law_level ["_law_water_here", "_law_width"] (defScope s__law_level) := ⟨rfl, rfl, rfl, by decide +kernel, rfl, by decide +kernel, by decide +kernel⟩
abbrev s__law_drop : Stmt := top 78
abbrev N__law_drop : List Str := ["_law_widths_here", "_law_pipe_here", "_law_filling_here", "_law_one", "_law_other"]
theorem sc__law_drop : FnScope N__law_drop ["_law_widths_here", "_law_pipe_here", "_law_filling_here"] (defScope s__law_drop) := ⟨rfl, rfl, rfl, by decide +kernel, rfl, by decide +kernel, by decide +kernel⟩
abbrev s__law_flows : Stmt := top 79
abbrev N__law_flows : List Str := ["_law_widths_here", "_law_pipes_here", "_law_filling_here", "_law_opening_here", "_law_found", "_law_k"]
theorem sc__law_flows : FnScope N__law_flows ["_law_widths_here", "_law_pipes_here", "_law_filling_here", "_law_opening_here"] (defScope s__law_flows) := ⟨rfl, rfl, rfl, by decide +kernel, rfl, by decide +kernel, by decide +kernel⟩
abbrev s__law_nets : Stmt := top 80
abbrev N__law_nets : List Str := ["_law_vessels", "_law_pipes_here", "_law_numbers", "_law_found", "_law_k"]
theorem sc__law_nets : FnScope N__law_nets ["_law_vessels", "_law_pipes_here", "_law_numbers"] (defScope s__law_nets) := ⟨rfl, rfl, rfl, by decide +kernel, rfl, by decide +kernel, by decide +kernel⟩
abbrev s__law_behind : Stmt := top 81
abbrev N__law_behind : List Str := ["_law_widths_here", "_law_filling_here", "_law_lost", "_law_found", "_law_k"]
theorem sc__law_behind : FnScope N__law_behind ["_law_widths_here", "_law_filling_here", "_law_lost"] (defScope s__law_behind) := ⟨rfl, rfl, rfl, by decide +kernel, rfl, by decide +kernel, by decide +kernel⟩
abbrev s__law_is_filling : Stmt := top 82
abbrev N__law_is_filling : List Str := ["_law_widths_here", "_law_thing", "_law_k"]
theorem sc__law_is_filling : FnScope N__law_is_filling ["_law_widths_here", "_law_thing"] (defScope s__law_is_filling) := ⟨rfl, rfl, rfl, by decide +kernel, rfl, by decide +kernel, by decide +kernel⟩
abbrev s__law_is_opening : Stmt := top 83
abbrev N__law_is_opening : List Str := ["_law_many", "_law_thing", "_law_last", "_law_item"]
theorem sc__law_is_opening : FnScope N__law_is_opening ["_law_many", "_law_thing"] (defScope s__law_is_opening) := ⟨rfl, rfl, rfl, by decide +kernel, rfl, by decide +kernel, by decide +kernel⟩
abbrev s__law_with : Stmt := top 84
abbrev N__law_with : List Str := ["_law_row", "_law_place", "_law_thing"]
theorem sc__law_with : FnScope N__law_with ["_law_row", "_law_place", "_law_thing"] (defScope s__law_with) := ⟨rfl, rfl, rfl, by decide +kernel, rfl, by decide +kernel, by decide +kernel⟩
abbrev s__law_bad_filling : Stmt := top 86
abbrev N__law_bad_filling : List Str := ["_law_source_here", "_law_kind", "_law_widths_here", "_law_filling_here"]
theorem sc__law_bad_filling : FnScope N__law_bad_filling ["_law_source_here", "_law_kind", "_law_widths_here", "_law_filling_here"] (defScope s__law_bad_filling) := ⟨rfl, rfl, rfl, by decide +kernel, rfl, by decide +kernel, by decide +kernel⟩
abbrev s__law_bad_opening : Stmt := top 87
abbrev N__law_bad_opening : List Str := ["_law_source_here", "_law_kind", "_law_many", "_law_place"]
theorem sc__law_bad_opening : FnScope N__law_bad_opening ["_law_source_here", "_law_kind", "_law_many"] (defScope s__law_bad_opening) := ⟨rfl, rfl, rfl, by decide +kernel, rfl, by decide +kernel, by decide +kernel⟩
abbrev s__law_all_due : Stmt := top 89
abbrev N__law_all_due : List Str := ["_law_widths_here", "_law_pipes_here", "_law_filling_here", "_law_opening_here", "_law_found", "_law_numbers", "_law_nets_due", "_law_k", "_law_pipe_here"]
theorem sc__law_all_due : FnScope N__law_all_due ["_law_widths_here", "_law_pipes_here", "_law_filling_here", "_law_opening_here"] (defScope s__law_all_due) := ⟨rfl, rfl, rfl, by decide +kernel, rfl, by decide +kernel, by decide +kernel⟩
abbrev s_init : Stmt := inClass (top 54) 0
abbrev N_init : List Str := ["self", "widths", "pipes", "number", "pipe"]
theorem sc_init : FnScope N_init ["self", "widths", "pipes"] (defScope s_init) := ⟨rfl, rfl, rfl, by decide +kernel, rfl, by decide +kernel, by decide +kernel⟩
abbrev s_begin : Stmt := inClass (top 54) 1
abbrev N_begin : List Str := ["self", "widths", "pipes", "pipe"]
theorem sc_begin : FnScope N_begin ["self", "widths", "pipes"] (defScope s_begin) := ⟨rfl, rfl, rfl, by decide +kernel, rfl, by decide +kernel, by decide +kernel⟩
def t_is_integer (K : PySem.W.Frag) : TS :=
  (tRet (tAndV (tCB (rIsi K) (tCons (tVar 0) (tCons (tC (.ty "int")) tNil))) (tNotV (tCB (rIsi K) (tCons (tVar 0) (tCons (tC (.ty "bool")) tNil))))))
def t_is_between (K : PySem.W.Frag) : TS :=
  (tRet (tAndV (tCall (sp_is_integer K) [] E0 (tCons (tVar 0) tNil)) (tChain qLe qLe (tVar 1) (tVar 0) (tVar 2))))
def t_is_pair (K : PySem.W.Frag) : TS :=
  (tRet (tAndV (tCB (rIsi K) (tCons (tVar 0) (tCons (tC (.ty "tuple")) tNil))) (tOp rEq (tCB (qLen K) (tCons (tVar 0) tNil)) (tC (.int 2)))))
def t_is_triple (K : PySem.W.Frag) : TS :=
  (tRet (tAndV (tCB (rIsi K) (tCons (tVar 0) (tCons (tC (.ty "tuple")) tNil))) (tOp rEq (tCB (qLen K) (tCons (tVar 0) tNil)) (tC (.int 3)))))
def t_is_row (K : PySem.W.Frag) : TS :=
  (tRet (tAndV (tCB (rIsi K) (tCons (tVar 0) (tCons (tC (.ty "tuple")) tNil))) (tAndV (tOp rEq (tCB (qLen K) (tCons (tVar 0) tNil)) (tVar 1)) (tCB (rAll K) (tCons (tLc (iTup K (tVar 0)) (gName 2) tYes (tCall (sp_is_integer K) [] E0 (tCons (tVar 2) tNil)) [2]) tNil)))))
def t_is_lot (K : PySem.W.Frag) : TS :=
  (tSeq (tIfS (tNot (tB (tCB (rIsi K) (tCons (tVar 0) (tCons (tC (.ty "tuple")) tNil))))) (tRet (tC (.bl false))) tNext)
    (tSeq (tAsg (tUn qNeg (tC (.int 1))) (gName 2))
    (tSeq (tFor (iTup K (tVar 0)) (gName 3) (tSeq (tIfS (tNot (tB (tCall (sp_is_between K) [] E0 (tCons (tVar 3) (tCons (tOp qAdd (tVar 2) (tC (.int 1))) (tCons (tOp qSub (tVar 1) (tC (.int 1))) tNil)))))) (tRet (tC (.bl false))) tNext)
    (tAsg (tVar 3) (gName 2))))
    (tRet (tC (.bl true))))))
def t_divisor (K : PySem.W.Frag) : TS :=
  (tSeq (tPar 0 1 (tCons (tCB qAbs (tCons (tVar 0) tNil)) (tCons (tCB qAbs (tCons (tVar 1) tNil)) tNil)))
    (tSeq (tWhile (tTest (tOp qGt (tVar 1) (tC (.int 0)))) (tPar 0 1 (tCons (tVar 1) (tCons (tOp qMod (tVar 0) (tVar 1)) tNil))))
    (tRet (tVar 0))))
def t_multiple (K : PySem.W.Frag) : TS :=
  (tRet (tOp qMul (tOp qDiv (tVar 0) (tCall (sp_divisor) [] E0 (tCons (tVar 0) (tCons (tVar 1) tNil)))) (tVar 1)))
def t_made (K : PySem.W.Frag) : TS :=
  (tSeq (tAsg (tCall (sp_divisor) [] E0 (tCons (tVar 0) (tCons (tVar 1) tNil))) (gName 2))
    (tRet (tTup (tCons (tOp qDiv (tVar 0) (tVar 2)) (tCons (tOp qDiv (tVar 1) (tVar 2)) tNil)))))
def t_is_fraction (K : PySem.W.Frag) : TS :=
  (tSeq (tIfS (tOr (tNot (tB (tCall (sp_is_pair K) [] E0 (tCons (tVar 0) tNil)))) (tOr (tNot (tB (tCall (sp_is_integer K) [] E0 (tCons (tOp (rIxT K) (tVar 0) (tC (.int 0))) tNil)))) (tOr (tNot (tB (tCall (sp_is_integer K) [] E0 (tCons (tOp (rIxT K) (tVar 0) (tC (.int 1))) tNil)))) (tTest (tOp qLt (tOp (rIxT K) (tVar 0) (tC (.int 1))) (tC (.int 1))))))) (tRet (tC (.bl false))) tNext)
    (tRet (tOp rEq (tCall (sp_divisor) [] E0 (tCons (tOp (rIxT K) (tVar 0) (tC (.int 0))) (tCons (tOp (rIxT K) (tVar 0) (tC (.int 1))) tNil))) (tC (.int 1)))))
def t_is_below (K : PySem.W.Frag) : TS :=
  (tRet (tOp qLt (tOp qMul (tOp (rIxT K) (tVar 0) (tC (.int 0))) (tOp (rIxT K) (tVar 1) (tC (.int 1)))) (tOp qMul (tOp (rIxT K) (tVar 1) (tC (.int 0))) (tOp (rIxT K) (tVar 0) (tC (.int 1))))))
def t_next_whole (K : PySem.W.Frag) : TS :=
  (tRet (tUn qNeg (tOp qDiv (tUn qNeg (tOp (rIxT K) (tVar 0) (tC (.int 0)))) (tOp (rIxT K) (tVar 0) (tC (.int 1))))))
def t_is_threshold (K : PySem.W.Frag) : TS :=
  (tRet (tAndV (tCall (sp_is_fraction K) [] E0 (tCons (tVar 0) tNil)) (tAndV (tChain qLe qLe (tC (.int 1)) (tOp (rIxT K) (tVar 0) (tC (.int 0))) (tC (.int 1000000))) (tOp qLe (tOp (rIxT K) (tVar 0) (tC (.int 1))) (tC (.int 144))))))
def t_is_list (K : PySem.W.Frag) : TS :=
  (tSeq (tIfS (tOr (tNot (tB (tCB (rIsi K) (tCons (tVar 0) (tCons (tC (.ty "tuple")) tNil))))) (tNot (tTest (tChain qLe qLe (tC (.int 1)) (tCB (qLen K) (tCons (tVar 0) tNil)) (tC (.int 6)))))) (tRet (tC (.bl false))) tNext)
    (tSeq (tIfS (tNot (tB (tCB (rAll K) (tCons (tLc (iTup K (tVar 0)) (gName 1) tYes (tCall (sp_is_threshold K) [] E0 (tCons (tVar 1) tNil)) [1]) tNil)))) (tRet (tC (.bl false))) tNext)
    (tRet (tNotV (tCB (rAny K) (tCons (tLc (iZip2K K false false (tCons (tVar 0) (tCons (tSl (rSlT K) (tVar 0) (tPart (tC (.int 1))) tNoPart) tNil))) (gTup K 2 (gCons (gName 1) (gCons (gName 2) gNil))) tYes (tCall (sp_is_below K) [] E0 (tCons (tVar 2) (tCons (tVar 1) tNil))) [1, 2]) tNil))))))
def t_is_width (K : PySem.W.Frag) : TS :=
  (tRet (tCall (sp_is_between K) [] E0 (tCons (tVar 0) (tCons (tC (.int 0)) (tCons (tC (.int 12)) tNil)))))
def t_parts_of_grain (K : PySem.W.Frag) : TS :=
  (tSeq (tIfS (tOr (tTest (tOp rEq (tVar 0) (tC (.int 0)))) (tTest (tOp rEq (tVar 1) (tC (.int 0))))) (tRet (tCB qMax3 (tCons (tVar 0) (tCons (tVar 1) (tCons (tC (.int 1)) tNil))))) tNext)
    (tRet (tCall (sp_multiple) [] E0 (tCons (tVar 0) (tCons (tVar 1) tNil)))))
def t_in_grains (K : PySem.W.Frag) : TS :=
  (tRet (tCB (qTupOf K) (tCons (tLc (iTup K (tVar 0)) (gName 2) tYes (tCall (sp_next_whole K) [] E0 (tCons (tCall (sp_made K) [] E0 (tCons (tOp qMul (tOp (rIxT K) (tVar 2) (tC (.int 0))) (tVar 1)) (tCons (tOp (rIxT K) (tVar 2) (tC (.int 1))) tNil))) tNil)) [2]) tNil)))
def t_part_of (K : PySem.W.Frag) : TS :=
  (tRet (tIf (tTest (tOp rEq (tVar 1) (tC (.int 0)))) (tC (.ref (He.ga K "NOUGHT"))) (tCall (sp_made K) [] E0 (tCons (tVar 0) (tCons (tVar 1) tNil)))))
def t_is_filling (K : PySem.W.Frag) : TS :=
  (tSeq (tIfS (tNot (tB (tCall (sp_is_row K) [] E0 (tCons (tVar 1) (tCons (tCB (qLen K) (tCons (tFld K (tVar 0) "widths") tNil)) tNil))))) (tRet (tC (.bl false))) tNext)
    (tRet (tCB (rAll K) (tCons (tLc (iZip2K K false false (tCons (tVar 1) (tCons (tFld K (tVar 0) "widths") tNil))) (gTup K 2 (gCons (gName 2) (gCons (gName 3) gNil))) tYes (tOrV (tOp rEq (tVar 2) (tC (.int 0))) (tOp qGt (tVar 3) (tC (.int 0)))) [2, 3]) tNil))))
def t_check_filling (K : PySem.W.Frag) (E : XK) : TS :=
  (tIfS (tNot (tB (tCall (sp_is_filling K) [] E0 (tCons (tVar 0) (tCons (tVar 1) tNil))))) (qRaise E (.ref (He.ga K "NoFilling"))) tNext)
def t_check_opening (K : PySem.W.Frag) (E : XK) : TS :=
  (tIfS (tAnd (tTest (tOp qNotN (tVar 1) (tC .non))) (tNot (tB (tCall (sp_is_lot K) [] E0 (tCons (tVar 1) (tCons (tCB (qLen K) (tCons (tFld K (tVar 0) "pipes") tNil)) tNil)))))) (qRaise E (.ref (He.ga K "NoOpening"))) tNext)
def t_drops_in_grains (K : PySem.W.Frag) : TS :=
  (tRet (tLc (iList K (tFld K (tVar 0) "gauges")) (gTup K 6 (gCons (gName 2) (gCons (gName 3) (gCons (gName 4) (gCons (gName 5) (gCons (gName 6) (gCons (gName 7) gNil))))))) tYes (tOp qSub (tOp qMul (tOp (rIxT K) (tVar 1) (tVar 2)) (tVar 4)) (tOp qMul (tOp (rIxT K) (tVar 1) (tVar 3)) (tVar 5))) [2, 3, 4, 5, 6, 7]))
def t_runs_at (K : PySem.W.Frag) : TS :=
  (tSeq (tAsg (tCB (qLen K) (tCons (tLc (iTup K (tVar 0)) (gName 3) (tTest (tOp qLe (tVar 3) (tCB qAbs (tCons (tVar 1) tNil)))) (tVar 3) [3]) tNil)) (gName 2))
    (tRet (tIf (tTest (tOp qGt (tVar 1) (tC (.int 0)))) (tVar 2) (tUn qNeg (tVar 2)))))
def t_flows_of (K : PySem.W.Frag) : TS :=
  (tRet (tLc (iZip2K K true true (tCons (tFld K (tVar 0) "gauges") (tCons (tCall (sp_drops_in_grains K) [] E0 (tCons (tVar 0) (tCons (tVar 1) tNil))) tNil))) (gTup K 2 (gCons (gName 2) (gCons (gName 3) gNil))) tYes (tCall (sp_runs_at K) [] E0 (tCons (tOp (rIxT K) (tVar 2) (tC (.int 4))) (tCons (tVar 3) tNil))) [2, 3]))
def t_opened (K : PySem.W.Frag) : TS :=
  (tSeq (tIfS (tTest (tOp qIsN (tVar 1) (tC .non))) (tRet (tCB (qListOf K) (tCons (tVar 0) tNil))) tNext)
    (tRet (tLc (iEnumK K true (tCons (tVar 0) tNil)) (gTup K 2 (gCons (gName 2) (gCons (gName 3) gNil))) tYes (tIf (tTest (tOp (rIn K false) (tVar 2) (tVar 1))) (tVar 3) (tC (.int 0))) [2, 3])))
def t_nets_of (K : PySem.W.Frag) : TS :=
  (tSeq (tAsg (tOp rRep (tLst (tCons (tC (.int 0)) tNil)) (tCB (qLen K) (tCons (tFld K (tVar 0) "widths") tNil))) (gName 2))
    (tSeq (tFor (iZip2K K false true (tCons (tFld K (tVar 0) "pipes") (tCons (tVar 1) tNil))) (gTup K 2 (gCons (gTup K 3 (gCons (gName 3) (gCons (gName 4) (gCons (gName 5) gNil)))) (gCons (gName 6) gNil))) (tSeq (tAugS (tVar 2) (tVar 3) (tVar 6) (rIxL K) (ipI fun i j => i + j) rSetL)
    (tAugS (tVar 2) (tVar 4) (tVar 6) (rIxL K) (ipI fun i j => i - j) rSetL)))
    (tRet (tVar 2))))
def t_moved (K : PySem.W.Frag) : TS :=
  (tSeq (tAsg (tCall (sp_nets_of K) [] E0 (tCons (tVar 0) (tCons (tVar 2) tNil))) (gName 3))
    (tRet (tCB (qTupOf K) (tCons (tLc (iZip3K K false false true (tCons (tFld K (tVar 0) "widths") (tCons (tVar 1) (tCons (tVar 3) tNil)))) (gTup K 3 (gCons (gName 4) (gCons (gName 5) (gCons (gName 6) gNil)))) tYes (tIf (tTest (tOp rEq (tVar 4) (tC (.int 0)))) (tC (.int 0)) (tOp qSub (tVar 5) (tVar 6))) [4, 5, 6]) tNil))))
def t_levels (K : PySem.W.Frag) (E : XK) : TS :=
  (tSeq (tDrop (tCall (sp_check_filling K) [] E (tCons (tVar 0) (tCons (tVar 1) tNil))))
    (tRet (tCB (qTupOf K) (tCons (tLc (iZip2K K false false (tCons (tVar 1) (tCons (tFld K (tVar 0) "widths") tNil))) (gTup K 2 (gCons (gName 2) (gCons (gName 3) gNil))) tYes (tCall (sp_part_of K) [] E0 (tCons (tVar 2) (tCons (tVar 3) tNil))) [2, 3]) tNil))))
def t_drops (K : PySem.W.Frag) (E : XK) : TS :=
  (tSeq (tDrop (tCall (sp_check_filling K) [] E (tCons (tVar 0) (tCons (tVar 1) tNil))))
    (tRet (tCB (qTupOf K) (tCons (tLc (iZip2K K true true (tCons (tFld K (tVar 0) "gauges") (tCons (tCall (sp_drops_in_grains K) [] E0 (tCons (tVar 0) (tCons (tVar 1) tNil))) tNil))) (gTup K 2 (gCons (gName 2) (gCons (gName 3) gNil))) tYes (tCall (sp_made K) [] E0 (tCons (tVar 3) (tCons (tOp (rIxT K) (tVar 2) (tC (.int 5))) tNil))) [2, 3]) tNil))))
def t_running (K : PySem.W.Frag) (E : XK) : TS :=
  (tSeq (tDrop (tCall (sp_check_filling K) [] E (tCons (tVar 0) (tCons (tVar 1) tNil))))
    (tSeq (tDrop (tCall (sp_check_opening K) [] E (tCons (tVar 0) (tCons (tVar 2) tNil))))
    (tRet (tCall (sp_opened K) [] E0 (tCons (tCall (sp_flows_of K) [] E0 (tCons (tVar 0) (tCons (tVar 1) tNil))) (tCons (tVar 2) tNil))))))
def t_flows (K : PySem.W.Frag) (E : XK) : TS :=
  (tRet (tCB (qTupOf K) (tCons (tCall (sp_running K) [] E (tCons (tVar 0) (tCons (tVar 1) (tCons (tVar 2) tNil)))) tNil)))
def t_tick (K : PySem.W.Frag) (E : XK) : TS :=
  (tRet (tCall (sp_moved K) [] E0 (tCons (tVar 0) (tCons (tVar 1) (tCons (tCall (sp_running K) [] E (tCons (tVar 0) (tCons (tVar 1) (tCons (tVar 2) tNil)))) tNil)))))
def t_nets (K : PySem.W.Frag) (E : XK) : TS :=
  (tRet (tCB (qTupOf K) (tCons (tCall (sp_nets_of K) [] E0 (tCons (tVar 0) (tCons (tCall (sp_running K) [] E (tCons (tVar 0) (tCons (tVar 1) (tCons (tVar 2) tNil)))) tNil))) tNil)))
def t_are_widths (K : PySem.W.Frag) : TS :=
  (tSeq (tIfS (tOr (tNot (tB (tCB (rIsi K) (tCons (tVar 0) (tCons (tC (.ty "tuple")) tNil))))) (tNot (tTest (tChain qLe qLe (tC (.int 1)) (tCB (qLen K) (tCons (tVar 0) tNil)) (tC (.int 12)))))) (tRet (tC (.bl false))) tNext)
    (tRet (tCB (rAll K) (tCons (tLc (iTup K (tVar 0)) (gName 1) tYes (tCall (sp_is_width) [] E0 (tCons (tVar 1) tNil)) [1]) tNil))))
def t_is_pipe (K : PySem.W.Frag) : TS :=
  (tSeq (tIfS (tOr (tNot (tB (tCall (sp_is_triple K) [] E0 (tCons (tVar 0) tNil)))) (tNot (tB (tCall (sp_is_between K) [] E0 (tCons (tOp (rIxT K) (tVar 0) (tC (.int 0))) (tCons (tC (.int 0)) (tCons (tOp qSub (tVar 1) (tC (.int 1))) tNil))))))) (tRet (tC (.bl false))) tNext)
    (tRet (tAndV (tCall (sp_is_between K) [] E0 (tCons (tOp (rIxT K) (tVar 0) (tC (.int 1))) (tCons (tOp qAdd (tOp (rIxT K) (tVar 0) (tC (.int 0))) (tC (.int 1))) (tCons (tOp qSub (tVar 1) (tC (.int 1))) tNil)))) (tCall (sp_is_list K) [] E0 (tCons (tOp (rIxT K) (tVar 0) (tC (.int 2))) tNil)))))
def t_gauge (K : PySem.W.Frag) : TS :=
  (tSeq (tAsg (tVar 1) (gTup K 3 (gCons (gName 2) (gCons (gName 3) (gCons (gName 4) gNil)))))
    (tSeq (tAsg (tCall (sp_parts_of_grain) [] E0 (tCons (tOp (rIxT K) (tVar 0) (tVar 2)) (tCons (tOp (rIxT K) (tVar 0) (tVar 3)) tNil))) (gName 5))
    (tSeq (tAsg (tLc (iTup K (tTup (tCons (tVar 2) (tCons (tVar 3) tNil)))) (gName 7) tYes (tIf (tTest (tOp rEq (tOp (rIxT K) (tVar 0) (tVar 7)) (tC (.int 0)))) (tC (.int 0)) (tOp qDiv (tVar 5) (tOp (rIxT K) (tVar 0) (tVar 7)))) [7]) (gName 6))
    (tRet (tTup (tCons (tVar 2) (tCons (tVar 3) (tCons (tOp (rIxL K) (tVar 6) (tC (.int 0))) (tCons (tOp (rIxL K) (tVar 6) (tC (.int 1))) (tCons (tCall (sp_in_grains K) [] E0 (tCons (tVar 4) (tCons (tVar 5) tNil))) (tCons (tVar 5) tNil)))))))))))
def t__law_source (K : PySem.W.Frag) : TS :=
  (tSeq (tAsg (tC (.int 17)) (gName 1))
    (tSeq (tFor (iList K (tVar 0)) (gName 2) (tAsg (tOp qMod (tCB qInt1 (tCons (tOp qAdd (tOp qMul (tVar 1) (tC (.int 69621))) (tVar 2)) tNil)) (tC (.int 2147483647))) (gName 1)))
    (tRet (tLst (tCons (tCB (qListOf K) (tCons (tVar 0) tNil)) (tCons (tC (.int 0)) (tCons (tC (.int 0)) (tCons (tC (.int 0)) (tCons (tVar 1) tNil)))))))))
def t__law_mixed (K : PySem.W.Frag) : TS :=
  (tSeq (tAsg (tOp qMod (tCB qInt1 (tCons (tOp qMul (tOp qMod (tCB qInt1 (tCons (tOp qAdd (tOp qAdd (tVar 0) (tOp qMul (tC (.int 7919)) (tVar 1))) (tC (.int 1))) tNil)) (tC (.int 2147483647))) (tC (.int 48271))) tNil)) (tC (.int 2147483647))) (gName 2))
    (tSeq (tAsg (tOp qMod (tCB qInt1 (tCons (tOp qMul (tVar 2) (tOp qAdd (tOp qDiv (tVar 2) (tC (.int 1009))) (tC (.int 69621)))) tNil)) (tC (.int 2147483647))) (gName 2))
    (tRet (tOp qMod (tCB qInt1 (tCons (tOp qMul (tVar 2) (tOp qAdd (tOp qDiv (tVar 2) (tC (.int 2003))) (tC (.int 40692)))) tNil)) (tC (.int 2147483399))))))
def t__law_draw (K : PySem.W.Frag) : TS :=
  (tSeq (tAsg (tOp qAdd (tOp (rIxL K) (tVar 0) (tC (.int 3))) (tC (.int 1))) (gSub (tVar 0) (tC (.int 3)) rSetL))
    (tSeq (tIfS (tTest (tOp qGt (tOp (rIxL K) (tVar 0) (tC (.int 2))) (tC (.int 0)))) (tSeq (tAsg (tOp (rIxL K) (tVar 0) (tC (.int 2))) (gName 2))
    (tSeq (tAsg (tOp qDivW (tVar 2) (tVar 1)) (gSub (tVar 0) (tC (.int 2)) rSetL))
    (tRet (tOp qMod (tCB qInt1 (tCons (tVar 2) tNil)) (tVar 1))))) tNext)
    (tSeq (tIfS (tTest (tOp qLt (tOp (rIxL K) (tVar 0) (tC (.int 1))) (tCB (qLen K) (tCons (tOp (rIxL K) (tVar 0) (tC (.int 0))) tNil)))) (tSeq (tAsg (tOp (rIxL K) (tOp (rIxL K) (tVar 0) (tC (.int 0))) (tOp (rIxL K) (tVar 0) (tC (.int 1)))) (gName 3))
    (tSeq (tAsg (tOp qAdd (tOp (rIxL K) (tVar 0) (tC (.int 1))) (tC (.int 1))) (gSub (tVar 0) (tC (.int 1)) rSetL))
    (tSeq (tAsg (tOp qAdd (tOp qMul (tC (.int 2)) (tCB qAbs (tCons (tVar 3) tNil))) (tCB qInt1 (tCons (tOp qLt (tVar 3) (tC (.int 0))) tNil))) (gName 2))
    (tSeq (tIfS (tTest (tOp qGe (tVar 2) (tOp qPow (tC (.int 10)) (tC (.int 18))))) (tSeq (tAsg (tOp qDivW (tVar 2) (tVar 1)) (gSub (tVar 0) (tC (.int 2)) rSetL))
    (tRet (tOp qMod (tCB qInt1 (tCons (tVar 2) tNil)) (tVar 1)))) tNext)
    (tRet (tOp qMod (tCB qInt1 (tCons (tOp qDivW (tCall (sp__law_mixed) [] E0 (tCons (tVar 2) (tCons (tOp (rIxL K) (tVar 0) (tC (.int 3))) tNil))) (tC (.int 16))) tNil)) (tVar 1))))))) tNext)
    (tRet (tOp qMod (tCB qInt1 (tCons (tOp qDivW (tCall (sp__law_mixed) [] E0 (tCons (tOp (rIxL K) (tVar 0) (tC (.int 4))) (tCons (tOp (rIxL K) (tVar 0) (tC (.int 3))) tNil))) (tC (.int 16))) tNil)) (tVar 1))))))
def t__law_pick (K : PySem.W.Frag) : TS :=
  (tRet (tOp (rIxL K) (tVar 1) (tCall (sp__law_draw K) [] E0 (tCons (tVar 0) (tCons (tCB (qLen K) (tCons (tVar 1) tNil)) tNil)))))
def t__law_divisor (K : PySem.W.Frag) : TS :=
  (tSeq (tPar 0 1 (tCons (tCB qAbs (tCons (tVar 0) tNil)) (tCons (tCB qAbs (tCons (tVar 1) tNil)) tNil)))
    (tSeq (tFor (iRng1 (tCons (tC (.int 600)) tNil)) (gName 2) (tSeq (tIfS (tTest (tOp rEq (tVar 1) (tC (.int 0)))) tBreak tNext)
    (tPar 0 1 (tCons (tVar 1) (tCons (tOp qMod (tCB qInt1 (tCons (tVar 0) tNil)) (tVar 1)) tNil)))))
    (tRet (tVar 0))))
def t__law_made (K : PySem.W.Frag) : TS :=
  (tSeq (tAsg (tCall (sp__law_divisor) [] E0 (tCons (tVar 0) (tCons (tVar 1) tNil))) (gName 2))
    (tRet (tTup (tCons (tOp qDiv (tVar 0) (tVar 2)) (tCons (tOp qDiv (tVar 1) (tVar 2)) tNil)))))
def t__law_added (K : PySem.W.Frag) : TS :=
  (tRet (tCall (sp__law_made K) [] E0 (tCons (tOp qAdd (tOp qMul (tOp (rIxT K) (tVar 0) (tC (.int 0))) (tOp (rIxT K) (tVar 1) (tC (.int 1)))) (tOp qMul (tOp (rIxT K) (tVar 1) (tC (.int 0))) (tOp (rIxT K) (tVar 0) (tC (.int 1))))) (tCons (tOp qMul (tOp (rIxT K) (tVar 0) (tC (.int 1))) (tOp (rIxT K) (tVar 1) (tC (.int 1)))) tNil))))
def t__law_same (K : PySem.W.Frag) (n : Nat) : TS :=
  (tSeq (tIfS (tTest (tOp qIsN (tVar 1) (tC .non))) (tRet (tOp qIsN (tVar 0) (tC .non))) tNext)
    (tSeq (tIfS (tB (tCB (rIsi K) (tCons (tVar 1) (tCons (tC (.ty "bool")) tNil)))) (tRet (tAndV (tCB (rIsi K) (tCons (tVar 0) (tCons (tC (.ty "bool")) tNil))) (tOp rEq (tVar 0) (tVar 1)))) tNext)
    (tSeq (tIfS (tB (tCB (rIsi K) (tCons (tVar 1) (tCons (tC (.ty "int")) tNil)))) (tRet (tAndV (tCB (rIsi K) (tCons (tVar 0) (tCons (tC (.ty "int")) tNil))) (tAndV (tNotV (tCB (rIsi K) (tCons (tVar 0) (tCons (tC (.ty "bool")) tNil)))) (tOp rEq (tVar 0) (tVar 1))))) tNext)
    (tSeq (tIfS (tB (tCB (rIsi K) (tCons (tVar 1) (tCons (tC (.ty "str")) tNil)))) (tRet (tAndV (tCB (rIsi K) (tCons (tVar 0) (tCons (tC (.ty "str")) tNil))) (tOp rEq (tVar 0) (tVar 1)))) tNext)
    (tSeq (tIfS (tAnd (tB (tCB (rIsi K) (tCons (tVar 1) (tCons (tC (.ty "tuple")) tNil)))) (tNot (tB (tCB (rIsi K) (tCons (tVar 0) (tCons (tC (.ty "tuple")) tNil)))))) (tRet (tC (.bl false))) tNext)
    (tSeq (tIfS (tAnd (tB (tCB (rIsi K) (tCons (tVar 1) (tCons (tC (.ty "list")) tNil)))) (tNot (tB (tCB (rIsi K) (tCons (tVar 0) (tCons (tC (.ty "list")) tNil)))))) (tRet (tC (.bl false))) tNext)
    (tSeq (tIfS (tTest (tOp rNe (tCB (qLen K) (tCons (tVar 0) tNil)) (tCB (qLen K) (tCons (tVar 1) tNil)))) (tRet (tC (.bl false))) tNext)
    (tSeq (tFor (iRng1 (tCons (tCB (qLen K) (tCons (tVar 1) tNil)) tNil)) (gName 2) (tIfS (tNot (tB (tCall (sp__law_same K n) [] E0 (tCons (tOp (rIxT K) (tVar 0) (tVar 2)) (tCons (tOp (rIxT K) (tVar 1) (tVar 2)) tNil))))) (tRet (tC (.bl false))) tNext))
    (tRet (tC (.bl true)))))))))))
def t__law_met (K : PySem.W.Frag) : TS :=
  (tSeq (tIfS (tTest (tOp rNe (tOp (rIxT K) (tVar 0) (tC (.int 0))) (tOp (rIxT K) (tVar 1) (tC (.int 0))))) (tRet (tC (.bl false))) tNext)
    (tSeq (tIfS (tAnd (tTest (tOp rEq (tOp (rIxT K) (tVar 0) (tC (.int 0))) (tC (.str "refused")))) (tTest (tOp (rNeD K) (tOp (rIxT K) (tVar 0) (tC (.int 1))) (tOp (rIxT K) (tVar 1) (tC (.int 1)))))) (tRet (tC (.bl false))) tNext)
    (tRet (tCall (sp__law_same K 4) [] E0 (tCons (tOp (rIxT K) (tVar 0) (tUn qNeg (tC (.int 1)))) (tCons (tOp (rIxT K) (tVar 1) (tUn qNeg (tC (.int 1)))) tNil))))))
def t__law_integer (K : PySem.W.Frag) : TS :=
  (tRet (tAndV (tCB (rIsi K) (tCons (tVar 0) (tCons (tC (.ty "int")) tNil))) (tNotV (tCB (rIsi K) (tCons (tVar 0) (tCons (tC (.ty "bool")) tNil))))))
def t__law_deep (K : PySem.W.Frag) : TS :=
  (tSeq (tAsg (tTup tNil) (gName 1))
    (tSeq (tFor (iRng1 (tCons (tVar 0) tNil)) (gName 2) (tAsg (tTup (tCons (tVar 1) tNil)) (gName 1)))
    (tRet (tVar 1))))
def t__law_strange (K : PySem.W.Frag) : TS :=
  (tSeq (tAsg (tLst (tCons (tC .non) (tCons (tC (.bl true)) (tCons (tC (.bl false)) (tCons (tC (.str "")) (tCons (tC (.str "1")) (tCons (tC (.str "a/2")) (tCons (tLst tNil) (tCons (tLst (tCons (tC (.int 1)) tNil)) (tCons (tLst (tCons (tTup (tCons (tC (.int 1)) (tCons (tC (.int 1)) tNil))) tNil)) (tCons (tTup tNil) (tCons (tTup (tCons (tC (.int 1)) tNil)) (tCons (tTup (tCons (tC (.int 1)) (tCons (tC (.int 1)) (tCons (tC (.int 1)) tNil)))) (tCons (tTup (tCons (tC (.int 2)) (tCons (tC (.int 4)) tNil))) (tCons (tTup (tCons (tC (.int 1)) (tCons (tC (.int 0)) tNil))) (tCons (tTup (tCons (tC (.int 1)) (tCons (tUn qNeg (tC (.int 1))) tNil))) (tCons (tTup (tCons (tC (.int 0)) (tCons (tC (.int 1)) tNil))) (tCons (tTup (tCons (tUn qNeg (tC (.int 1))) (tCons (tC (.int 2)) tNil))) tNil)))))))))))))))))) (gName 1))
    (tSeq (tAsg (tOp rCat (tVar 1) (tLst (tCons (tTup (tCons (tC (.bl true)) (tCons (tC (.int 1)) tNil))) (tCons (tTup (tCons (tC (.int 1)) (tCons (tC (.bl true)) tNil))) (tCons (tTup (tCons (tC (.str "1")) (tCons (tC (.int 1)) tNil))) (tCons (tTup (tCons (tC .non) (tCons (tC (.int 1)) tNil))) (tCons (tTup (tCons (tTup (tCons (tC (.int 1)) (tCons (tC (.int 1)) tNil))) (tCons (tC (.int 1)) tNil))) (tCons tDNewK (tCons (tDisp (((tC (.str "a")), (tC (.int 1))) :: [])) (tCons (tDisp (((tC (.int 1)), (tTup (tCons (tC (.int 2)) (tCons (tC (.int 3)) tNil)))) :: [])) (tCons (tUn qNeg (tC (.int 1))) (tCons (tC (.int 0)) (tCons (tC (.int 1)) (tCons (tC (.int 2)) (tCons (tC (.int 7)) (tCons (tC (.int 12)) (tCons (tC (.int 13)) tNil))))))))))))))))) (gName 1))
    (tSeq (tAsg (tOp rCat (tVar 1) (tLst (tCons (tC (.int 37)) (tCons (tOp qPow (tC (.int 10)) (tC (.int 39))) (tCons (tUn qNeg (tOp qPow (tC (.int 10)) (tC (.int 39)))) (tCons (tTup (tCons (tOp qPow (tC (.int 10)) (tC (.int 39))) (tCons (tC (.int 1)) tNil))) (tCons (tTup (tCons (tC (.int 1)) (tCons (tOp qPow (tC (.int 10)) (tC (.int 39))) tNil))) (tCons (tTup (tCons (tOp qAdd (tOp qPow (tC (.int 10)) (tC (.int 6))) (tC (.int 1))) (tCons (tC (.int 1)) tNil))) (tCons (tTup (tCons (tC (.int 1)) (tCons (tC (.int 145)) tNil))) (tCons (tCall (sp__law_deep K) [] E0 (tCons (tC (.int 32)) tNil)) (tCons (tMake (He.ga K "Web") (sp_init K) [] E0 (tCons (tTup (tCons (tC (.int 1)) tNil)) (tCons (tTup tNil) tNil))) tNil))))))))))) (gName 1))
    (tRet (tCall (sp__law_pick K) [] E0 (tCons (tVar 0) (tCons (tVar 1) tNil)))))))
def t__law_in_order (K : PySem.W.Frag) : TS :=
  (tSeq (tAsg (tCB (qSort K) (tCons (tLc (iList K (tVar 0)) (gName 2) tYes (tTup (tCons (tOp qDiv (tOp qMul (tOp (rIxT K) (tVar 2) (tC (.int 0))) (tOp qPow (tC (.int 10)) (tC (.int 6)))) (tOp (rIxT K) (tVar 2) (tC (.int 1)))) (tCons (tVar 2) tNil))) [2]) tNil)) (gName 1))
    (tRet (tCB (qTupOf K) (tCons (tLc (iList K (tVar 1)) (gName 3) tYes (tOp (rIxT K) (tVar 3) (tC (.int 1))) [3]) tNil))))
def t__law_steps (K : PySem.W.Frag) : TS :=
  (tSeq (tAsg (tLst tNil) (gName 3))
    (tSeq (tFor (iRng1 (tCons (tOp qAdd (tC (.int 1)) (tCall (sp__law_draw K) [] E0 (tCons (tVar 0) (tCons (tVar 1) tNil)))) tNil)) (gName 4) (tSeq (tAsg (tCall (sp__law_draw K) [] E0 (tCons (tVar 0) (tCons (tC (.int 5)) tNil))) (gName 5))
    (tIfS (tAnd (tTest (tOp rEq (tVar 5) (tC (.int 0)))) (tTest (tOp qGt (tCB (qLen K) (tCons (tVar 3) tNil)) (tC (.int 0))))) (tDrop (tBM K "list" rAppend (tVar 3) (tCons (tCall (sp__law_pick K) [] E0 (tCons (tVar 0) (tCons (tVar 3) tNil))) tNil))) (tIfS (tAnd (tTest (tOp rEq (tVar 5) (tC (.int 1)))) (tB (tVar 2))) (tDrop (tBM K "list" rAppend (tVar 3) (tCons (tCall (sp__law_made K) [] E0 (tCons (tOp qAdd (tC (.int 1)) (tCall (sp__law_draw K) [] E0 (tCons (tVar 0) (tCons (tOp qPow (tC (.int 10)) (tC (.int 6))) tNil)))) (tCons (tOp qAdd (tC (.int 1)) (tCall (sp__law_draw K) [] E0 (tCons (tVar 0) (tCons (tC (.int 144)) tNil)))) tNil))) tNil))) (tIfS (tTest (tOp rEq (tVar 5) (tC (.int 2)))) (tDrop (tBM K "list" rAppend (tVar 3) (tCons (tCall (sp__law_made K) [] E0 (tCons (tOp qAdd (tC (.int 1)) (tCall (sp__law_draw K) [] E0 (tCons (tVar 0) (tCons (tC (.int 12)) tNil)))) (tCons (tOp qAdd (tC (.int 1)) (tCall (sp__law_draw K) [] E0 (tCons (tVar 0) (tCons (tC (.int 4)) tNil)))) tNil))) tNil))) (tDrop (tBM K "list" rAppend (tVar 3) (tCons (tTup (tCons (tOp qAdd (tC (.int 1)) (tCall (sp__law_draw K) [] E0 (tCons (tVar 0) (tCons (tC (.int 5)) tNil)))) (tCons (tC (.int 1)) tNil))) tNil))))))))
    (tRet (tCall (sp__law_in_order K) [] E0 (tCons (tVar 3) tNil)))))
def t__law_flow (K : PySem.W.Frag) : TS :=
  (tSeq (tAsg (tC (.int 0)) (gName 2))
    (tSeq (tFor (iTup K (tVar 0)) (gName 3) (tIfS (tTest (tOp qLe (tOp qMul (tOp (rIxT K) (tVar 3) (tC (.int 0))) (tOp (rIxT K) (tVar 1) (tC (.int 1)))) (tOp qMul (tCB qAbs (tCons (tOp (rIxT K) (tVar 1) (tC (.int 0))) tNil)) (tOp (rIxT K) (tVar 3) (tC (.int 1)))))) (tAsg (tOp qAdd (tVar 2) (tC (.int 1))) (gName 2)) tNext))
    (tSeq (tIfS (tTest (tOp qLt (tOp (rIxT K) (tVar 1) (tC (.int 0))) (tC (.int 0)))) (tRet (tUn qNeg (tVar 2))) tNext)
    (tRet (tVar 2)))))
def t__law_widths (K : PySem.W.Frag) : TS :=
  (tSeq (tAsg (tCall (sp__law_draw K) [] E0 (tCons (tVar 0) (tCons (tC (.int 4)) tNil))) (gName 3))
    (tSeq (tAsg (tOp qAdd (tC (.int 1)) (tCall (sp__law_draw K) [] E0 (tCons (tVar 0) (tCons (tC (.int 3)) tNil)))) (gName 4))
    (tSeq (tAsg (tLst tNil) (gName 5))
    (tSeq (tFor (iRng1 (tCons (tVar 1) tNil)) (gName 6) (tIfS (tAnd (tB (tVar 2)) (tTest (tOp rEq (tCall (sp__law_draw K) [] E0 (tCons (tVar 0) (tCons (tC (.int 5)) tNil))) (tC (.int 0))))) (tDrop (tBM K "list" rAppend (tVar 5) (tCons (tC (.int 0)) tNil))) (tIfS (tTest (tOp rEq (tVar 3) (tC (.int 0)))) (tDrop (tBM K "list" rAppend (tVar 5) (tCons (tOp qAdd (tC (.int 1)) (tCall (sp__law_draw K) [] E0 (tCons (tVar 0) (tCons (tC (.int 12)) tNil)))) tNil))) (tIfS (tTest (tOp rEq (tVar 3) (tC (.int 1)))) (tDrop (tBM K "list" rAppend (tVar 5) (tCons (tOp qAdd (tC (.int 1)) (tCall (sp__law_draw K) [] E0 (tCons (tVar 0) (tCons (tC (.int 3)) tNil)))) tNil))) (tDrop (tBM K "list" rAppend (tVar 5) (tCons (tVar 4) tNil)))))))
    (tRet (tCB (qTupOf K) (tCons (tVar 5) tNil)))))))
def t__law_pipe (K : PySem.W.Frag) : TS :=
  (tSeq (tAsg (tOp qAdd (tC (.int 1)) (tCall (sp__law_draw K) [] E0 (tCons (tVar 0) (tCons (tOp qSub (tVar 1) (tC (.int 1))) tNil)))) (gName 4))
    (tRet (tTup (tCons (tCall (sp__law_draw K) [] E0 (tCons (tVar 0) (tCons (tVar 4) tNil))) (tCons (tVar 4) (tCons (tCall (sp__law_steps K) [] E0 (tCons (tVar 0) (tCons (tVar 2) (tCons (tVar 3) tNil)))) tNil))))))
def t__law_pipes (K : PySem.W.Frag) : TS :=
  (tSeq (tAsg (tLst tNil) (gName 5))
    (tSeq (tFor (iRng1 (tCons (tVar 2) tNil)) (gName 6) (tIfS (tTest (tOp qGt (tVar 1) (tC (.int 1)))) (tSeq (tAsg (tCall (sp__law_draw K) [] E0 (tCons (tVar 0) (tCons (tC (.int 6)) tNil))) (gName 7))
    (tIfS (tAnd (tTest (tOp rEq (tVar 7) (tC (.int 0)))) (tTest (tOp qGt (tVar 6) (tC (.int 0))))) (tDrop (tBM K "list" rAppend (tVar 5) (tCons (tCall (sp__law_pick K) [] E0 (tCons (tVar 0) (tCons (tVar 5) tNil))) tNil))) (tIfS (tAnd (tTest (tOp rEq (tVar 7) (tC (.int 1)))) (tTest (tOp qGt (tVar 6) (tC (.int 0))))) (tSeq (tAsg (tCall (sp__law_pick K) [] E0 (tCons (tVar 0) (tCons (tVar 5) tNil))) (gName 8))
    (tDrop (tBM K "list" rAppend (tVar 5) (tCons (tTup (tCons (tOp (rIxT K) (tVar 8) (tC (.int 0))) (tCons (tOp (rIxT K) (tVar 8) (tC (.int 1))) (tCons (tCall (sp__law_steps K) [] E0 (tCons (tVar 0) (tCons (tVar 3) (tCons (tVar 4) tNil)))) tNil)))) tNil)))) (tDrop (tBM K "list" rAppend (tVar 5) (tCons (tCall (sp__law_pipe K) [] E0 (tCons (tVar 0) (tCons (tVar 1) (tCons (tVar 3) (tCons (tVar 4) tNil))))) tNil)))))) tNext))
    (tRet (tCB (qTupOf K) (tCons (tVar 5) tNil)))))
def t__law_water (K : PySem.W.Frag) : TS :=
  (tSeq (tAsg (tCall (sp__law_draw K) [] E0 (tCons (tVar 0) (tCons (tC (.int 12)) tNil))) (gName 2))
    (tSeq (tIfS (tTest (tOp rEq (tVar 2) (tC (.int 0)))) (tRet (tOp qSub (tCall (sp__law_draw K) [] E0 (tCons (tVar 0) (tCons (tOp qAdd (tOp qMul (tC (.int 2)) (tOp qPow (tC (.int 10)) (tC (.int 30)))) (tC (.int 1))) tNil))) (tOp qPow (tC (.int 10)) (tC (.int 30))))) tNext)
    (tSeq (tIfS (tTest (tOp rEq (tVar 2) (tC (.int 1)))) (tRet (tOp qSub (tOp qPow (tC (.int 10)) (tC (.int 39))) (tCall (sp__law_draw K) [] E0 (tCons (tVar 0) (tCons (tC (.int 20)) tNil))))) tNext)
    (tSeq (tIfS (tTest (tOp rEq (tVar 2) (tC (.int 2)))) (tRet (tOp qSub (tCall (sp__law_draw K) [] E0 (tCons (tVar 0) (tCons (tC (.int 20)) tNil))) (tOp qPow (tC (.int 10)) (tC (.int 39))))) tNext)
    (tRet (tOp qSub (tCall (sp__law_draw K) [] E0 (tCons (tVar 0) (tCons (tOp qAdd (tOp qMul (tC (.int 2)) (tVar 1)) (tC (.int 1))) tNil))) (tVar 1)))))))
def t__law_filling (K : PySem.W.Frag) : TS :=
  (tSeq (tAsg (tLst tNil) (gName 4))
    (tSeq (tFor (iTup K (tVar 1)) (gName 5) (tIfS (tTest (tOp rEq (tVar 5) (tC (.int 0)))) (tDrop (tBM K "list" rAppend (tVar 4) (tCons (tC (.int 0)) tNil))) (tIfS (tB (tVar 3)) (tDrop (tBM K "list" rAppend (tVar 4) (tCons (tCall (sp__law_water K) [] E0 (tCons (tVar 0) (tCons (tVar 2) tNil))) tNil))) (tDrop (tBM K "list" rAppend (tVar 4) (tCons (tOp qSub (tCall (sp__law_draw K) [] E0 (tCons (tVar 0) (tCons (tOp qAdd (tOp qMul (tC (.int 2)) (tVar 2)) (tC (.int 1))) tNil))) (tVar 2)) tNil))))))
    (tRet (tCB (qTupOf K) (tCons (tVar 4) tNil)))))
def t__law_opening (K : PySem.W.Frag) : TS :=
  (tSeq (tIfS (tTest (tOp rEq (tCall (sp__law_draw K) [] E0 (tCons (tVar 0) (tCons (tC (.int 3)) tNil))) (tC (.int 0)))) (tRet (tC .non)) tNext)
    (tRet (tCB (qTupOf K) (tCons (tLc (iRng1 (tCons (tVar 1) tNil)) (gName 2) (tTest (tOp qGt (tCall (sp__law_draw K) [] E0 (tCons (tVar 0) (tCons (tC (.int 3)) tNil))) (tC (.int 0)))) (tVar 2) [2]) tNil))))
def t__law_level (K : PySem.W.Frag) : TS :=
  (tSeq (tIfS (tTest (tOp rEq (tVar 1) (tC (.int 0)))) (tRet (tTup (tCons (tC (.int 0)) (tCons (tC (.int 1)) tNil)))) tNext)
    (tRet (tCall (sp__law_made K) [] E0 (tCons (tVar 0) (tCons (tVar 1) tNil)))))
def t__law_drop (K : PySem.W.Frag) : TS :=
  (tSeq (tAsg (tCall (sp__law_level K) [] E0 (tCons (tOp (rIxT K) (tVar 2) (tOp (rIxT K) (tVar 1) (tC (.int 0)))) (tCons (tOp (rIxT K) (tVar 0) (tOp (rIxT K) (tVar 1) (tC (.int 0)))) tNil))) (gName 3))
    (tSeq (tAsg (tCall (sp__law_level K) [] E0 (tCons (tOp (rIxT K) (tVar 2) (tOp (rIxT K) (tVar 1) (tC (.int 1)))) (tCons (tOp (rIxT K) (tVar 0) (tOp (rIxT K) (tVar 1) (tC (.int 1)))) tNil))) (gName 4))
    (tRet (tCall (sp__law_added K) [] E0 (tCons (tVar 3) (tCons (tTup (tCons (tUn qNeg (tOp (rIxT K) (tVar 4) (tC (.int 0)))) (tCons (tOp (rIxT K) (tVar 4) (tC (.int 1))) tNil))) tNil))))))
def t__law_flows (K : PySem.W.Frag) : TS :=
  (tSeq (tAsg (tLst tNil) (gName 4))
    (tSeq (tFor (iRng1 (tCons (tCB (qLen K) (tCons (tVar 1) tNil)) tNil)) (gName 5) (tIfS (tOr (tTest (tOp qIsN (tVar 3) (tC .non))) (tTest (tOp (rIn K false) (tVar 5) (tVar 3)))) (tDrop (tBM K "list" rAppend (tVar 4) (tCons (tCall (sp__law_flow K) [] E0 (tCons (tOp (rIxT K) (tOp (rIxT K) (tVar 1) (tVar 5)) (tC (.int 2))) (tCons (tCall (sp__law_drop K) [] E0 (tCons (tVar 0) (tCons (tOp (rIxT K) (tVar 1) (tVar 5)) (tCons (tVar 2) tNil)))) tNil))) tNil))) (tDrop (tBM K "list" rAppend (tVar 4) (tCons (tC (.int 0)) tNil)))))
    (tRet (tCB (qTupOf K) (tCons (tVar 4) tNil)))))
def t__law_nets (K : PySem.W.Frag) : TS :=
  (tSeq (tAsg (tOp rRep (tLst (tCons (tC (.int 0)) tNil)) (tVar 0)) (gName 3))
    (tSeq (tFor (iRng1 (tCons (tCB (qLen K) (tCons (tVar 1) tNil)) tNil)) (gName 4) (tSeq (tAsg (tOp qAdd (tOp (rIxL K) (tVar 3) (tOp (rIxT K) (tOp (rIxT K) (tVar 1) (tVar 4)) (tC (.int 0)))) (tOp (rIxT K) (tVar 2) (tVar 4))) (gSub (tVar 3) (tOp (rIxT K) (tOp (rIxT K) (tVar 1) (tVar 4)) (tC (.int 0))) rSetL))
    (tAsg (tOp qSub (tOp (rIxL K) (tVar 3) (tOp (rIxT K) (tOp (rIxT K) (tVar 1) (tVar 4)) (tC (.int 1)))) (tOp (rIxT K) (tVar 2) (tVar 4))) (gSub (tVar 3) (tOp (rIxT K) (tOp (rIxT K) (tVar 1) (tVar 4)) (tC (.int 1))) rSetL))))
    (tRet (tCB (qTupOf K) (tCons (tVar 3) tNil)))))
def t__law_behind (K : PySem.W.Frag) : TS :=
  (tSeq (tAsg (tLst tNil) (gName 3))
    (tSeq (tFor (iRng1 (tCons (tCB (qLen K) (tCons (tVar 0) tNil)) tNil)) (gName 4) (tIfS (tTest (tOp rEq (tOp (rIxT K) (tVar 0) (tVar 4)) (tC (.int 0)))) (tDrop (tBM K "list" rAppend (tVar 3) (tCons (tC (.int 0)) tNil))) (tDrop (tBM K "list" rAppend (tVar 3) (tCons (tOp qSub (tOp (rIxT K) (tVar 1) (tVar 4)) (tOp (rIxT K) (tVar 2) (tVar 4))) tNil)))))
    (tRet (tCB (qTupOf K) (tCons (tVar 3) tNil)))))
def t__law_is_filling (K : PySem.W.Frag) : TS :=
  (tSeq (tIfS (tOr (tNot (tB (tCB (rIsi K) (tCons (tVar 1) (tCons (tC (.ty "tuple")) tNil))))) (tTest (tOp rNe (tCB (qLen K) (tCons (tVar 1) tNil)) (tCB (qLen K) (tCons (tVar 0) tNil))))) (tRet (tC (.bl false))) tNext)
    (tSeq (tFor (iRng1 (tCons (tCB (qLen K) (tCons (tVar 0) tNil)) tNil)) (gName 2) (tIfS (tOr (tNot (tB (tCall (sp__law_integer K) [] E0 (tCons (tOp (rIxT K) (tVar 1) (tVar 2)) tNil)))) (tAnd (tTest (tOp rEq (tOp (rIxT K) (tVar 0) (tVar 2)) (tC (.int 0)))) (tTest (tOp rNe (tOp (rIxT K) (tVar 1) (tVar 2)) (tC (.int 0)))))) (tRet (tC (.bl false))) tNext))
    (tRet (tC (.bl true)))))
def t__law_is_opening (K : PySem.W.Frag) : TS :=
  (tSeq (tIfS (tTest (tOp qIsN (tVar 1) (tC .non))) (tRet (tC (.bl true))) tNext)
    (tSeq (tIfS (tNot (tB (tCB (rIsi K) (tCons (tVar 1) (tCons (tC (.ty "tuple")) tNil))))) (tRet (tC (.bl false))) tNext)
    (tSeq (tAsg (tUn qNeg (tC (.int 1))) (gName 2))
    (tSeq (tFor (iTup K (tVar 1)) (gName 3) (tSeq (tIfS (tOr (tNot (tB (tCall (sp__law_integer K) [] E0 (tCons (tVar 3) tNil)))) (tOr (tTest (tOp qLe (tVar 3) (tVar 2))) (tTest (tOp qGe (tVar 3) (tVar 0))))) (tRet (tC (.bl false))) tNext)
    (tAsg (tVar 3) (gName 2))))
    (tRet (tC (.bl true)))))))
def t__law_with (K : PySem.W.Frag) : TS :=
  (tRet (tCB (qTupOf K) (tCons (tOp rCat (tOp rCat (tCB (qListOf K) (tCons (tSl (rSlT K) (tVar 0) tNoPart (tPart (tVar 1))) tNil)) (tLst (tCons (tVar 2) tNil))) (tCB (qListOf K) (tCons (tSl (rSlT K) (tVar 0) (tPart (tOp qAdd (tVar 1) (tC (.int 1)))) tNoPart) tNil))) tNil)))
def t__law_bad_filling (K : PySem.W.Frag) : TS :=
  (tSeq (tIfS (tTest (tOp rEq (tVar 1) (tC (.int 0)))) (tRet (tCall (sp__law_strange K) [] E0 (tCons (tVar 0) tNil))) tNext)
    (tSeq (tIfS (tTest (tOp rEq (tVar 1) (tC (.int 1)))) (tRet (tCB (qListOf K) (tCons (tVar 3) tNil))) tNext)
    (tSeq (tIfS (tTest (tOp rEq (tVar 1) (tC (.int 2)))) (tRet (tOp (rCatT K) (tVar 3) (tTup (tCons (tC (.int 0)) tNil)))) tNext)
    (tSeq (tIfS (tTest (tOp rEq (tVar 1) (tC (.int 3)))) (tRet (tSl (rSlT K) (tVar 3) (tPart (tC (.int 1))) tNoPart)) tNext)
    (tSeq (tIfS (tTest (tOp rEq (tVar 1) (tC (.int 4)))) (tRet (tCall (sp__law_with K) [] E0 (tCons (tVar 3) (tCons (tCall (sp__law_draw K) [] E0 (tCons (tVar 0) (tCons (tCB (qLen K) (tCons (tVar 3) tNil)) tNil))) (tCons (tC (.int 1)) tNil))))) tNext)
    (tRet (tCall (sp__law_with K) [] E0 (tCons (tVar 3) (tCons (tCall (sp__law_draw K) [] E0 (tCons (tVar 0) (tCons (tCB (qLen K) (tCons (tVar 3) tNil)) tNil))) (tCons (tCall (sp__law_strange K) [] E0 (tCons (tVar 0) tNil)) tNil))))))))))
def t__law_bad_opening (K : PySem.W.Frag) : TS :=
  (tSeq (tAsg (tCall (sp__law_draw K) [] E0 (tCons (tVar 0) (tCons (tOp qAdd (tVar 2) (tC (.int 1))) tNil))) (gName 3))
    (tSeq (tIfS (tTest (tOp rEq (tVar 1) (tC (.int 0)))) (tRet (tCall (sp__law_strange K) [] E0 (tCons (tVar 0) tNil))) tNext)
    (tSeq (tIfS (tTest (tOp rEq (tVar 1) (tC (.int 1)))) (tRet (tTup (tCons (tVar 3) (tCons (tVar 3) tNil)))) tNext)
    (tSeq (tIfS (tTest (tOp rEq (tVar 1) (tC (.int 2)))) (tRet (tTup (tCons (tVar 3) (tCons (tOp qSub (tVar 3) (tC (.int 1))) tNil)))) tNext)
    (tSeq (tIfS (tTest (tOp rEq (tVar 1) (tC (.int 3)))) (tRet (tTup (tCons (tVar 3) (tCons (tVar 2) tNil)))) tNext)
    (tSeq (tIfS (tTest (tOp rEq (tVar 1) (tC (.int 4)))) (tRet (tLstRg (tRg1 (tVar 3)))) tNext)
    (tRet (tTup (tCons (tVar 3) (tCons (tCall (sp__law_strange K) [] E0 (tCons (tVar 0) tNil)) tNil))))))))))
def t__law_all_due (K : PySem.W.Frag) : TS :=
  (tSeq (tIfS (tNot (tB (tCall (sp__law_is_filling K) [] E0 (tCons (tVar 0) (tCons (tVar 2) tNil))))) (tRet (tOp rRep (tLst (tCons (tTup (tCons (tC (.str "refused")) (tCons (tLst (tCons (tC (.bl true)) (tCons (tC (.bl false)) (tCons (tC (.bl false)) tNil)))) (tCons (tC (.int 0)) tNil)))) tNil)) (tC (.int 5)))) tNext)
    (tSeq (tAsg (tLst (tCons (tTup (tCons (tC (.str "told")) (tCons (tCB (qTupOf K) (tCons (tLc (iRng1 (tCons (tCB (qLen K) (tCons (tVar 0) tNil)) tNil)) (gName 7) tYes (tCall (sp__law_level K) [] E0 (tCons (tOp (rIxT K) (tVar 2) (tVar 7)) (tCons (tOp (rIxT K) (tVar 0) (tVar 7)) tNil))) [7]) tNil)) tNil))) tNil)) (gName 4))
    (tSeq (tDrop (tBM K "list" rAppend (tVar 4) (tCons (tTup (tCons (tC (.str "told")) (tCons (tCB (qTupOf K) (tCons (tLc (iTup K (tVar 1)) (gName 8) tYes (tCall (sp__law_drop K) [] E0 (tCons (tVar 0) (tCons (tVar 8) (tCons (tVar 2) tNil)))) [8]) tNil)) tNil))) tNil)))
    (tSeq (tIfS (tNot (tB (tCall (sp__law_is_opening K) [] E0 (tCons (tCB (qLen K) (tCons (tVar 1) tNil)) (tCons (tVar 3) tNil))))) (tRet (tOp rCat (tVar 4) (tOp rRep (tLst (tCons (tTup (tCons (tC (.str "refused")) (tCons (tLst (tCons (tC (.bl false)) (tCons (tC (.bl true)) (tCons (tC (.bl false)) tNil)))) (tCons (tC (.int 0)) tNil)))) tNil)) (tC (.int 3))))) tNext)
    (tSeq (tAsg (tCall (sp__law_flows K) [] E0 (tCons (tVar 0) (tCons (tVar 1) (tCons (tVar 2) (tCons (tVar 3) tNil))))) (gName 5))
    (tSeq (tAsg (tCall (sp__law_nets K) [] E0 (tCons (tCB (qLen K) (tCons (tVar 0) tNil)) (tCons (tVar 1) (tCons (tVar 5) tNil)))) (gName 6))
    (tRet (tOp rCat (tVar 4) (tLst (tCons (tTup (tCons (tC (.str "told")) (tCons (tVar 5) tNil))) (tCons (tTup (tCons (tC (.str "told")) (tCons (tCall (sp__law_behind K) [] E0 (tCons (tVar 0) (tCons (tVar 2) (tCons (tVar 6) tNil)))) tNil))) (tCons (tTup (tCons (tC (.str "told")) (tCons (tVar 6) tNil))) tNil))))))))))))
def t_init (K : PySem.W.Frag) : TS :=
  (tSeq (tIfS (tNot (tB (tCall (sp_are_widths K) [] E0 (tCons (tVar 1) tNil)))) tNever tNext)
    (tSeq (tIfS (tOr (tNot (tB (tCB (rIsi K) (tCons (tVar 2) (tCons (tC (.ty "tuple")) tNil))))) (tTest (tOp qGt (tCB (qLen K) (tCons (tVar 2) tNil)) (tC (.int 36))))) tNever tNext)
    (tSeq (tFor (iEnumK K false (tCons (tVar 2) tNil)) (gTup K 2 (gCons (gName 3) (gCons (gName 4) gNil))) (tIfS (tNot (tB (tCall (sp_is_pipe K) [] E0 (tCons (tVar 4) (tCons (tCB (qLen K) (tCons (tVar 1) tNil)) tNil))))) tNever tNext))
    (tDrop (tMeth (He.ga K "Web") "begin" (sp_begin K) [] E0 (tVar 0) (tCons (tVar 1) (tCons (tVar 2) tNil)))))))
def t_begin (K : PySem.W.Frag) : TS :=
  (tSeq (sFld K (tVar 0) (tVar 1) "widths")
    (tSeq (sFld K (tVar 0) (tVar 2) "pipes")
    (sFld K (tVar 0) (tLc (iTup K (tVar 2)) (gName 3) tYes (tCall (sp_gauge K) [] E0 (tCons (tVar 1) (tCons (tVar 3) tNil))) [3]) "gauges")))
end K11
/-! part K11O -/
namespace K11
open PySem PySem.Spec PyProof.Rows L2
def fdOf (K : PySem.W.Frag) (p : Str × Option Str) : FuncData := match K.lookup (He.fAd K p) with
  | some ⟨_, _, .func fd, _⟩ => fd
  | _ => PySem.W.fnX "" "" (defArgs (top 7)) [] (defScope (top 7)) [] .none .none .none .none none .none .none
theorem fdOf_eq {K : PySem.W.Frag} {p : Str × Option Str} {x qual : Str} {params : Arguments} {body : List Stmt} {scope : Scope} {dvs : List V} {kws : List (Str × V)} {fd : FuncData} (F : FunD K x qual params body scope dvs kws (He.fAd K p) fd) : fd = fdOf K p := by
  obtain ⟨oc, od, dV, kV, doc, pm, an, cdv, ct, osl, e, lk, _⟩ := F.ex
  unfold fdOf
  rw [lk]
structure Txt (K : PySem.W.Frag) (mg : Str → Option Value) : Prop where
  g_is_integer : mg "is_integer" = some (.ref (He.ga K "is_integer"))
  g_is_between : mg "is_between" = some (.ref (He.ga K "is_between"))
  g_is_pair : mg "is_pair" = some (.ref (He.ga K "is_pair"))
  g_is_triple : mg "is_triple" = some (.ref (He.ga K "is_triple"))
  g_is_row : mg "is_row" = some (.ref (He.ga K "is_row"))
  g_is_lot : mg "is_lot" = some (.ref (He.ga K "is_lot"))
  g_divisor : mg "divisor" = some (.ref (He.ga K "divisor"))
  g_multiple : mg "multiple" = some (.ref (He.ga K "multiple"))
  g_made : mg "made" = some (.ref (He.ga K "made"))
  g_is_fraction : mg "is_fraction" = some (.ref (He.ga K "is_fraction"))
  g_is_below : mg "is_below" = some (.ref (He.ga K "is_below"))
  g_next_whole : mg "next_whole" = some (.ref (He.ga K "next_whole"))
  g_is_threshold : mg "is_threshold" = some (.ref (He.ga K "is_threshold"))
  g_is_list : mg "is_list" = some (.ref (He.ga K "is_list"))
  g_is_width : mg "is_width" = some (.ref (He.ga K "is_width"))
  g_parts_of_grain : mg "parts_of_grain" = some (.ref (He.ga K "parts_of_grain"))
  g_in_grains : mg "in_grains" = some (.ref (He.ga K "in_grains"))
  g_part_of : mg "part_of" = some (.ref (He.ga K "part_of"))
  g_is_filling : mg "is_filling" = some (.ref (He.ga K "is_filling"))
  g_check_filling : mg "check_filling" = some (.ref (He.ga K "check_filling"))
  g_check_opening : mg "check_opening" = some (.ref (He.ga K "check_opening"))
  g_drops_in_grains : mg "drops_in_grains" = some (.ref (He.ga K "drops_in_grains"))
  g_runs_at : mg "runs_at" = some (.ref (He.ga K "runs_at"))
  g_flows_of : mg "flows_of" = some (.ref (He.ga K "flows_of"))
  g_opened : mg "opened" = some (.ref (He.ga K "opened"))
  g_nets_of : mg "nets_of" = some (.ref (He.ga K "nets_of"))
  g_moved : mg "moved" = some (.ref (He.ga K "moved"))
  g_levels : mg "levels" = some (.ref (He.ga K "levels"))
  g_drops : mg "drops" = some (.ref (He.ga K "drops"))
  g_running : mg "running" = some (.ref (He.ga K "running"))
  g_flows : mg "flows" = some (.ref (He.ga K "flows"))
  g_tick : mg "tick" = some (.ref (He.ga K "tick"))
  g_nets : mg "nets" = some (.ref (He.ga K "nets"))
  g_are_widths : mg "are_widths" = some (.ref (He.ga K "are_widths"))
  g_is_pipe : mg "is_pipe" = some (.ref (He.ga K "is_pipe"))
  g_gauge : mg "gauge" = some (.ref (He.ga K "gauge"))
  g__law_source : mg "_law_source" = some (.ref (He.ga K "_law_source"))
  g__law_mixed : mg "_law_mixed" = some (.ref (He.ga K "_law_mixed"))
  g__law_draw : mg "_law_draw" = some (.ref (He.ga K "_law_draw"))
  g__law_pick : mg "_law_pick" = some (.ref (He.ga K "_law_pick"))
  g__law_divisor : mg "_law_divisor" = some (.ref (He.ga K "_law_divisor"))
  g__law_made : mg "_law_made" = some (.ref (He.ga K "_law_made"))
  g__law_added : mg "_law_added" = some (.ref (He.ga K "_law_added"))
  g__law_same : mg "_law_same" = some (.ref (He.ga K "_law_same"))
  g__law_met : mg "_law_met" = some (.ref (He.ga K "_law_met"))
  g__law_integer : mg "_law_integer" = some (.ref (He.ga K "_law_integer"))
  g__law_deep : mg "_law_deep" = some (.ref (He.ga K "_law_deep"))
  g__law_strange : mg "_law_strange" = some (.ref (He.ga K "_law_strange"))
  g__law_in_order : mg "_law_in_order" = some (.ref (He.ga K "_law_in_order"))
  g__law_steps : mg "_law_steps" = some (.ref (He.ga K "_law_steps"))
  g__law_flow : mg "_law_flow" = some (.ref (He.ga K "_law_flow"))
  g__law_widths : mg "_law_widths" = some (.ref (He.ga K "_law_widths"))
  g__law_pipe : mg "_law_pipe" = some (.ref (He.ga K "_law_pipe"))
  g__law_pipes : mg "_law_pipes" = some (.ref (He.ga K "_law_pipes"))
  g__law_water : mg "_law_water" = some (.ref (He.ga K "_law_water"))
  g__law_filling : mg "_law_filling" = some (.ref (He.ga K "_law_filling"))
  g__law_opening : mg "_law_opening" = some (.ref (He.ga K "_law_opening"))
  g__law_level : mg "_law_level" = some (.ref (He.ga K "_law_level"))
  g__law_drop : mg "_law_drop" = some (.ref (He.ga K "_law_drop"))
  g__law_flows : mg "_law_flows" = some (.ref (He.ga K "_law_flows"))
  g__law_nets : mg "_law_nets" = some (.ref (He.ga K "_law_nets"))
  g__law_behind : mg "_law_behind" = some (.ref (He.ga K "_law_behind"))
  g__law_is_filling : mg "_law_is_filling" = some (.ref (He.ga K "_law_is_filling"))
  g__law_is_opening : mg "_law_is_opening" = some (.ref (He.ga K "_law_is_opening"))
  g__law_with : mg "_law_with" = some (.ref (He.ga K "_law_with"))
  g__law_told : mg "_law_told" = some (.ref (He.ga K "_law_told"))
  g__law_bad_filling : mg "_law_bad_filling" = some (.ref (He.ga K "_law_bad_filling"))
  g__law_bad_opening : mg "_law_bad_opening" = some (.ref (He.ga K "_law_bad_opening"))
  g__law_all_told : mg "_law_all_told" = some (.ref (He.ga K "_law_all_told"))
  g__law_all_due : mg "_law_all_due" = some (.ref (He.ga K "_law_all_due"))
  g_law : mg "law" = some (.ref (He.ga K "law"))
  g_TidesError : mg "TidesError" = some (.ref (He.ga K "TidesError"))
  g_NoSorts : mg "NoSorts" = some (.ref (He.ga K "NoSorts"))
  g_NoFilling : mg "NoFilling" = some (.ref (He.ga K "NoFilling"))
  g_NoOpening : mg "NoOpening" = some (.ref (He.ga K "NoOpening"))
  g_Web : mg "Web" = some (.ref (He.ga K "Web"))
  g_NOUGHT : mg "NOUGHT" = some (.ref (He.ga K "NOUGHT"))
  c_MOST_THRESHOLDS : ∃ t, mg "MOST_THRESHOLDS" = some (.int 6 t)
  c_MOST_TOP : ∃ t, mg "MOST_TOP" = some (.int 1000000 t)
  c_MOST_BOTTOM : ∃ t, mg "MOST_BOTTOM" = some (.int 144 t)
  c_MOST_WIDTH : ∃ t, mg "MOST_WIDTH" = some (.int 12 t)
  c_MOST_VESSELS : ∃ t, mg "MOST_VESSELS" = some (.int 12 t)
  c_MOST_PIPES : ∃ t, mg "MOST_PIPES" = some (.int 36 t)
  b_abs : mg "abs" = none
  b_all : mg "all" = none
  b_any : mg "any" = none
  b_bool : mg "bool" = none
  b_enumerate : mg "enumerate" = none
  b_int : mg "int" = none
  b_isinstance : mg "isinstance" = none
  b_len : mg "len" = none
  b_list : mg "list" = none
  b_max : mg "max" = none
  b_range : mg "range" = none
  b_sorted : mg "sorted" = none
  b_str : mg "str" = none
  b_super : mg "super" = none
  b_tuple : mg "tuple" = none
  b_zip : mg "zip" = none
  F_is_integer : FunD K "is_integer" "is_integer" (defArgs (top 7)) (defBody (top 7)) (defScope (top 7)) [] [] (He.ga K "is_integer") (fdOf K ("is_integer", none))
  F_is_between : FunD K "is_between" "is_between" (defArgs (top 8)) (defBody (top 8)) (defScope (top 8)) [] [] (He.ga K "is_between") (fdOf K ("is_between", none))
  F_is_pair : FunD K "is_pair" "is_pair" (defArgs (top 9)) (defBody (top 9)) (defScope (top 9)) [] [] (He.ga K "is_pair") (fdOf K ("is_pair", none))
  F_is_triple : FunD K "is_triple" "is_triple" (defArgs (top 10)) (defBody (top 10)) (defScope (top 10)) [] [] (He.ga K "is_triple") (fdOf K ("is_triple", none))
  F_is_row : FunD K "is_row" "is_row" (defArgs (top 11)) (defBody (top 11)) (defScope (top 11)) [] [] (He.ga K "is_row") (fdOf K ("is_row", none))
  F_is_lot : FunD K "is_lot" "is_lot" (defArgs (top 12)) (defBody (top 12)) (defScope (top 12)) [] [] (He.ga K "is_lot") (fdOf K ("is_lot", none))
  F_divisor : FunD K "divisor" "divisor" (defArgs (top 15)) (defBody (top 15)) (defScope (top 15)) [] [] (He.ga K "divisor") (fdOf K ("divisor", none))
  F_multiple : FunD K "multiple" "multiple" (defArgs (top 16)) (defBody (top 16)) (defScope (top 16)) [] [] (He.ga K "multiple") (fdOf K ("multiple", none))
  F_made : FunD K "made" "made" (defArgs (top 17)) (defBody (top 17)) (defScope (top 17)) [] [] (He.ga K "made") (fdOf K ("made", none))
  F_is_fraction : FunD K "is_fraction" "is_fraction" (defArgs (top 18)) (defBody (top 18)) (defScope (top 18)) [] [] (He.ga K "is_fraction") (fdOf K ("is_fraction", none))
  F_is_below : FunD K "is_below" "is_below" (defArgs (top 19)) (defBody (top 19)) (defScope (top 19)) [] [] (He.ga K "is_below") (fdOf K ("is_below", none))
  F_next_whole : FunD K "next_whole" "next_whole" (defArgs (top 20)) (defBody (top 20)) (defScope (top 20)) [] [] (He.ga K "next_whole") (fdOf K ("next_whole", none))
  F_is_threshold : FunD K "is_threshold" "is_threshold" (defArgs (top 26)) (defBody (top 26)) (defScope (top 26)) [] [] (He.ga K "is_threshold") (fdOf K ("is_threshold", none))
  F_is_list : FunD K "is_list" "is_list" (defArgs (top 27)) (defBody (top 27)) (defScope (top 27)) [] [] (He.ga K "is_list") (fdOf K ("is_list", none))
  F_is_width : FunD K "is_width" "is_width" (defArgs (top 28)) (defBody (top 28)) (defScope (top 28)) [] [] (He.ga K "is_width") (fdOf K ("is_width", none))
  F_parts_of_grain : FunD K "parts_of_grain" "parts_of_grain" (defArgs (top 29)) (defBody (top 29)) (defScope (top 29)) [] [] (He.ga K "parts_of_grain") (fdOf K ("parts_of_grain", none))
  F_in_grains : FunD K "in_grains" "in_grains" (defArgs (top 30)) (defBody (top 30)) (defScope (top 30)) [] [] (He.ga K "in_grains") (fdOf K ("in_grains", none))
  F_part_of : FunD K "part_of" "part_of" (defArgs (top 31)) (defBody (top 31)) (defScope (top 31)) [] [] (He.ga K "part_of") (fdOf K ("part_of", none))
  F_is_filling : FunD K "is_filling" "is_filling" (defArgs (top 33)) (defBody (top 33)) (defScope (top 33)) [] [] (He.ga K "is_filling") (fdOf K ("is_filling", none))
  F_check_filling : FunD K "check_filling" "check_filling" (defArgs (top 34)) (defBody (top 34)) (defScope (top 34)) [] [] (He.ga K "check_filling") (fdOf K ("check_filling", none))
  F_check_opening : FunD K "check_opening" "check_opening" (defArgs (top 35)) (defBody (top 35)) (defScope (top 35)) [] [] (He.ga K "check_opening") (fdOf K ("check_opening", none))
  F_drops_in_grains : FunD K "drops_in_grains" "drops_in_grains" (defArgs (top 36)) (defBody (top 36)) (defScope (top 36)) [] [] (He.ga K "drops_in_grains") (fdOf K ("drops_in_grains", none))
  F_runs_at : FunD K "runs_at" "runs_at" (defArgs (top 37)) (defBody (top 37)) (defScope (top 37)) [] [] (He.ga K "runs_at") (fdOf K ("runs_at", none))
  F_flows_of : FunD K "flows_of" "flows_of" (defArgs (top 38)) (defBody (top 38)) (defScope (top 38)) [] [] (He.ga K "flows_of") (fdOf K ("flows_of", none))
  F_opened : FunD K "opened" "opened" (defArgs (top 39)) (defBody (top 39)) (defScope (top 39)) [] [] (He.ga K "opened") (fdOf K ("opened", none))
  F_nets_of : FunD K "nets_of" "nets_of" (defArgs (top 40)) (defBody (top 40)) (defScope (top 40)) [] [] (He.ga K "nets_of") (fdOf K ("nets_of", none))
  F_moved : FunD K "moved" "moved" (defArgs (top 41)) (defBody (top 41)) (defScope (top 41)) [] [] (He.ga K "moved") (fdOf K ("moved", none))
  F_levels : FunD K "levels" "levels" (defArgs (top 42)) (defBody (top 42)) (defScope (top 42)) [] [] (He.ga K "levels") (fdOf K ("levels", none))
  F_drops : FunD K "drops" "drops" (defArgs (top 43)) (defBody (top 43)) (defScope (top 43)) [] [] (He.ga K "drops") (fdOf K ("drops", none))
  F_running : FunD K "running" "running" (defArgs (top 44)) (defBody (top 44)) (defScope (top 44)) [] [] (He.ga K "running") (fdOf K ("running", none))
  F_flows : FunD K "flows" "flows" (defArgs (top 45)) (defBody (top 45)) (defScope (top 45)) [] [] (He.ga K "flows") (fdOf K ("flows", none))
  F_tick : FunD K "tick" "tick" (defArgs (top 46)) (defBody (top 46)) (defScope (top 46)) [] [] (He.ga K "tick") (fdOf K ("tick", none))
  F_nets : FunD K "nets" "nets" (defArgs (top 47)) (defBody (top 47)) (defScope (top 47)) [] [] (He.ga K "nets") (fdOf K ("nets", none))
  F_are_widths : FunD K "are_widths" "are_widths" (defArgs (top 51)) (defBody (top 51)) (defScope (top 51)) [] [] (He.ga K "are_widths") (fdOf K ("are_widths", none))
  F_is_pipe : FunD K "is_pipe" "is_pipe" (defArgs (top 52)) (defBody (top 52)) (defScope (top 52)) [] [] (He.ga K "is_pipe") (fdOf K ("is_pipe", none))
  F_gauge : FunD K "gauge" "gauge" (defArgs (top 53)) (defBody (top 53)) (defScope (top 53)) [] [] (He.ga K "gauge") (fdOf K ("gauge", none))
  F__law_source : FunD K "_law_source" "_law_source" (defArgs (top 56)) (defBody (top 56)) (defScope (top 56)) [] [] (He.ga K "_law_source") (fdOf K ("_law_source", none))
  F__law_mixed : FunD K "_law_mixed" "_law_mixed" (defArgs (top 57)) (defBody (top 57)) (defScope (top 57)) [] [] (He.ga K "_law_mixed") (fdOf K ("_law_mixed", none))
  F__law_draw : FunD K "_law_draw" "_law_draw" (defArgs (top 58)) (defBody (top 58)) (defScope (top 58)) [] [] (He.ga K "_law_draw") (fdOf K ("_law_draw", none))
  F__law_pick : FunD K "_law_pick" "_law_pick" (defArgs (top 59)) (defBody (top 59)) (defScope (top 59)) [] [] (He.ga K "_law_pick") (fdOf K ("_law_pick", none))
  F__law_divisor : FunD K "_law_divisor" "_law_divisor" (defArgs (top 60)) (defBody (top 60)) (defScope (top 60)) [] [] (He.ga K "_law_divisor") (fdOf K ("_law_divisor", none))
  F__law_made : FunD K "_law_made" "_law_made" (defArgs (top 61)) (defBody (top 61)) (defScope (top 61)) [] [] (He.ga K "_law_made") (fdOf K ("_law_made", none))
  F__law_added : FunD K "_law_added" "_law_added" (defArgs (top 62)) (defBody (top 62)) (defScope (top 62)) [] [] (He.ga K "_law_added") (fdOf K ("_law_added", none))
  F__law_same : FunD K "_law_same" "_law_same" (defArgs (top 63)) (defBody (top 63)) (defScope (top 63)) [] [] (He.ga K "_law_same") (fdOf K ("_law_same", none))
  F__law_met : FunD K "_law_met" "_law_met" (defArgs (top 64)) (defBody (top 64)) (defScope (top 64)) [] [] (He.ga K "_law_met") (fdOf K ("_law_met", none))
  F__law_integer : FunD K "_law_integer" "_law_integer" (defArgs (top 65)) (defBody (top 65)) (defScope (top 65)) [] [] (He.ga K "_law_integer") (fdOf K ("_law_integer", none))
  F__law_deep : FunD K "_law_deep" "_law_deep" (defArgs (top 66)) (defBody (top 66)) (defScope (top 66)) [] [] (He.ga K "_law_deep") (fdOf K ("_law_deep", none))
  F__law_strange : FunD K "_law_strange" "_law_strange" (defArgs (top 67)) (defBody (top 67)) (defScope (top 67)) [] [] (He.ga K "_law_strange") (fdOf K ("_law_strange", none))
  F__law_in_order : FunD K "_law_in_order" "_law_in_order" (defArgs (top 68)) (defBody (top 68)) (defScope (top 68)) [] [] (He.ga K "_law_in_order") (fdOf K ("_law_in_order", none))
  F__law_steps : FunD K "_law_steps" "_law_steps" (defArgs (top 69)) (defBody (top 69)) (defScope (top 69)) [] [] (He.ga K "_law_steps") (fdOf K ("_law_steps", none))
  F__law_flow : FunD K "_law_flow" "_law_flow" (defArgs (top 70)) (defBody (top 70)) (defScope (top 70)) [] [] (He.ga K "_law_flow") (fdOf K ("_law_flow", none))
  F__law_widths : FunD K "_law_widths" "_law_widths" (defArgs (top 71)) (defBody (top 71)) (defScope (top 71)) [] [] (He.ga K "_law_widths") (fdOf K ("_law_widths", none))
  F__law_pipe : FunD K "_law_pipe" "_law_pipe" (defArgs (top 72)) (defBody (top 72)) (defScope (top 72)) [] [] (He.ga K "_law_pipe") (fdOf K ("_law_pipe", none))
  F__law_pipes : FunD K "_law_pipes" "_law_pipes" (defArgs (top 73)) (defBody (top 73)) (defScope (top 73)) [] [] (He.ga K "_law_pipes") (fdOf K ("_law_pipes", none))
  F__law_water : FunD K "_law_water" "_law_water" (defArgs (top 74)) (defBody (top 74)) (defScope (top 74)) [] [] (He.ga K "_law_water") (fdOf K ("_law_water", none))
  F__law_filling : FunD K "_law_filling" "_law_filling" (defArgs (top 75)) (defBody (top 75)) (defScope (top 75)) [] [] (He.ga K "_law_filling") (fdOf K ("_law_filling", none))
  F__law_opening : FunD K "_law_opening" "_law_opening" (defArgs (top 76)) (defBody (top 76)) (defScope (top 76)) [] [] (He.ga K "_law_opening") (fdOf K ("_law_opening", none))
  F__law_level : FunD K "_law_level" "_law_level" (defArgs (top 77)) (defBody (top 77)) (defScope (top 77)) [] [] (He.ga K "_law_level") (fdOf K ("_law_level", none))
  F__law_drop : FunD K "_law_drop" "_law_drop" (defArgs (top 78)) (defBody (top 78)) (defScope (top 78)) [] [] (He.ga K "_law_drop") (fdOf K ("_law_drop", none))
  F__law_flows : FunD K "_law_flows" "_law_flows" (defArgs (top 79)) (defBody (top 79)) (defScope (top 79)) [] [] (He.ga K "_law_flows") (fdOf K ("_law_flows", none))
  F__law_nets : FunD K "_law_nets" "_law_nets" (defArgs (top 80)) (defBody (top 80)) (defScope (top 80)) [] [] (He.ga K "_law_nets") (fdOf K ("_law_nets", none))
  F__law_behind : FunD K "_law_behind" "_law_behind" (defArgs (top 81)) (defBody (top 81)) (defScope (top 81)) [] [] (He.ga K "_law_behind") (fdOf K ("_law_behind", none))
  F__law_is_filling : FunD K "_law_is_filling" "_law_is_filling" (defArgs (top 82)) (defBody (top 82)) (defScope (top 82)) [] [] (He.ga K "_law_is_filling") (fdOf K ("_law_is_filling", none))
  F__law_is_opening : FunD K "_law_is_opening" "_law_is_opening" (defArgs (top 83)) (defBody (top 83)) (defScope (top 83)) [] [] (He.ga K "_law_is_opening") (fdOf K ("_law_is_opening", none))
  F__law_with : FunD K "_law_with" "_law_with" (defArgs (top 84)) (defBody (top 84)) (defScope (top 84)) [] [] (He.ga K "_law_with") (fdOf K ("_law_with", none))
  F__law_told : FunD K "_law_told" "_law_told" (defArgs (top 85)) (defBody (top 85)) (defScope (top 85)) [] [] (He.ga K "_law_told") (fdOf K ("_law_told", none))
  F__law_bad_filling : FunD K "_law_bad_filling" "_law_bad_filling" (defArgs (top 86)) (defBody (top 86)) (defScope (top 86)) [] [] (He.ga K "_law_bad_filling") (fdOf K ("_law_bad_filling", none))
  F__law_bad_opening : FunD K "_law_bad_opening" "_law_bad_opening" (defArgs (top 87)) (defBody (top 87)) (defScope (top 87)) [] [] (He.ga K "_law_bad_opening") (fdOf K ("_law_bad_opening", none))
  F__law_all_told : FunD K "_law_all_told" "_law_all_told" (defArgs (top 88)) (defBody (top 88)) (defScope (top 88)) [] [] (He.ga K "_law_all_told") (fdOf K ("_law_all_told", none))
  F__law_all_due : FunD K "_law_all_due" "_law_all_due" (defArgs (top 89)) (defBody (top 89)) (defScope (top 89)) [] [] (He.ga K "_law_all_due") (fdOf K ("_law_all_due", none))
  F_law : FunD K "law" "law" (defArgs (top 90)) (defBody (top 90)) (defScope (top 90)) [] [] (He.ga K "law") (fdOf K ("law", none))
  F_init : FunD K "__init__" "Web.__init__" (defArgs (inClass (top 54) 0)) (defBody (inClass (top 54) 0)) (defScope (inClass (top 54) 0)) [] [] (He.ma K (He.ga K "Web") "__init__") (fdOf K ("Web", some "__init__"))
  F_begin : FunD K "begin" "Web.begin" (defArgs (inClass (top 54) 1)) (defBody (inClass (top 54) 1)) (defScope (inClass (top 54) 1)) [] [] (He.ma K (He.ga K "Web") "begin") (fdOf K ("Web", some "begin"))
  nought : ∀ H, SqT K H (He.ga K "NOUGHT") [.int 0, .int 1]
  webCls : Cls K (webC K)
  noW : NoAttr K (webC K) "widths"
  noP : NoAttr K (webC K) "pipes"
  noG : NoAttr K (webC K) "gauges"
  webBegin : Meth K (webC K) "begin" (He.ma K (He.ga K "Web") "begin")
  webMk : Mk K (webC K) (He.ma K (He.ga K "Web") "__init__")
  iWc : PySem.W.findIn K (.ref (webC K)) "__class__" = some (some (.builtin "object.__class__"))
  iWn : PySem.W.specialIn K (.builtin "object.__class__") "__get__" = some (some (.builtin "getset_descriptor.__get__"))
  iWt : PySem.W.takesIn K (.builtin "object.__class__") = some true
  iWm : PySem.W.mroIn K (webC K) (.type "object") = some true
  kWt : PySem.W.kitOne K (.ref (webC K)) (.type "tuple") = some false
  kWi : PySem.W.kitOne K (.ref (webC K)) (.type "int") = some false
  kWb : PySem.W.kitOne K (.ref (webC K)) (.type "bool") = some false
  eF : ∃ f, ErrT K mg "NoFilling" (inClass (top 4) 0) (He.ga K "NoFilling") f
  eO : ∃ f, ErrT K mg "NoOpening" (inClass (top 5) 0) (He.ga K "NoOpening") f
  xF : ExcC K (He.ga K "NoFilling")
  xO : ExcC K (He.ga K "NoOpening")
  mF : PySem.W.exmOne K (.ref (He.ga K "NoFilling")) (.ref (He.ga K "TidesError")) = some true
  mO : PySem.W.exmOne K (.ref (He.ga K "NoOpening")) (.ref (He.ga K "TidesError")) = some true
  kFF : PySem.W.kitOne K (.ref (He.ga K "NoFilling")) (.ref (He.ga K "NoFilling")) = some true
  kFO : PySem.W.kitOne K (.ref (He.ga K "NoFilling")) (.ref (He.ga K "NoOpening")) = some false
  kFS : PySem.W.kitOne K (.ref (He.ga K "NoFilling")) (.ref (He.ga K "NoSorts")) = some false
  kOF : PySem.W.kitOne K (.ref (He.ga K "NoOpening")) (.ref (He.ga K "NoFilling")) = some false
  kOO : PySem.W.kitOne K (.ref (He.ga K "NoOpening")) (.ref (He.ga K "NoOpening")) = some true
  kOS : PySem.W.kitOne K (.ref (He.ga K "NoOpening")) (.ref (He.ga K "NoSorts")) = some false
theorem bnd_is_integer {K : PySem.W.Frag} {mg : Str → Option Value} (T : Txt K mg) : Binds K (fdOf K ("is_integer", none)) ["thing"] [] := T.F_is_integer.bindsN fun _ _ _ _ _ _ us hl => match us, hl with | [_], _ => rfl
theorem bnd_is_between {K : PySem.W.Frag} {mg : Str → Option Value} (T : Txt K mg) : Binds K (fdOf K ("is_between", none)) ["thing", "least", "most"] [] := T.F_is_between.bindsN fun _ _ _ _ _ _ us hl => match us, hl with | [_, _, _], _ => rfl
theorem bnd_is_pair {K : PySem.W.Frag} {mg : Str → Option Value} (T : Txt K mg) : Binds K (fdOf K ("is_pair", none)) ["thing"] [] := T.F_is_pair.bindsN fun _ _ _ _ _ _ us hl => match us, hl with | [_], _ => rfl
theorem bnd_is_triple {K : PySem.W.Frag} {mg : Str → Option Value} (T : Txt K mg) : Binds K (fdOf K ("is_triple", none)) ["thing"] [] := T.F_is_triple.bindsN fun _ _ _ _ _ _ us hl => match us, hl with | [_], _ => rfl
theorem bnd_is_row {K : PySem.W.Frag} {mg : Str → Option Value} (T : Txt K mg) : Binds K (fdOf K ("is_row", none)) ["thing", "many"] [] := T.F_is_row.bindsN fun _ _ _ _ _ _ us hl => match us, hl with | [_, _], _ => rfl
theorem bnd_is_lot {K : PySem.W.Frag} {mg : Str → Option Value} (T : Txt K mg) : Binds K (fdOf K ("is_lot", none)) ["thing", "many"] [] := T.F_is_lot.bindsN fun _ _ _ _ _ _ us hl => match us, hl with | [_, _], _ => rfl
theorem bnd_divisor {K : PySem.W.Frag} {mg : Str → Option Value} (T : Txt K mg) : Binds K (fdOf K ("divisor", none)) ["one", "other"] [] := T.F_divisor.bindsN fun _ _ _ _ _ _ us hl => match us, hl with | [_, _], _ => rfl
theorem bnd_multiple {K : PySem.W.Frag} {mg : Str → Option Value} (T : Txt K mg) : Binds K (fdOf K ("multiple", none)) ["one", "other"] [] := T.F_multiple.bindsN fun _ _ _ _ _ _ us hl => match us, hl with | [_, _], _ => rfl
theorem bnd_made {K : PySem.W.Frag} {mg : Str → Option Value} (T : Txt K mg) : Binds K (fdOf K ("made", none)) ["top", "bottom"] [] := T.F_made.bindsN fun _ _ _ _ _ _ us hl => match us, hl with | [_, _], _ => rfl
theorem bnd_is_fraction {K : PySem.W.Frag} {mg : Str → Option Value} (T : Txt K mg) : Binds K (fdOf K ("is_fraction", none)) ["thing"] [] := T.F_is_fraction.bindsN fun _ _ _ _ _ _ us hl => match us, hl with | [_], _ => rfl
theorem bnd_is_below {K : PySem.W.Frag} {mg : Str → Option Value} (T : Txt K mg) : Binds K (fdOf K ("is_below", none)) ["one", "other"] [] := T.F_is_below.bindsN fun _ _ _ _ _ _ us hl => match us, hl with | [_, _], _ => rfl
theorem bnd_next_whole {K : PySem.W.Frag} {mg : Str → Option Value} (T : Txt K mg) : Binds K (fdOf K ("next_whole", none)) ["one"] [] := T.F_next_whole.bindsN fun _ _ _ _ _ _ us hl => match us, hl with | [_], _ => rfl
theorem bnd_is_threshold {K : PySem.W.Frag} {mg : Str → Option Value} (T : Txt K mg) : Binds K (fdOf K ("is_threshold", none)) ["thing"] [] := T.F_is_threshold.bindsN fun _ _ _ _ _ _ us hl => match us, hl with | [_], _ => rfl
theorem bnd_is_list {K : PySem.W.Frag} {mg : Str → Option Value} (T : Txt K mg) : Binds K (fdOf K ("is_list", none)) ["thing"] [] := T.F_is_list.bindsN fun _ _ _ _ _ _ us hl => match us, hl with | [_], _ => rfl
theorem bnd_is_width {K : PySem.W.Frag} {mg : Str → Option Value} (T : Txt K mg) : Binds K (fdOf K ("is_width", none)) ["thing"] [] := T.F_is_width.bindsN fun _ _ _ _ _ _ us hl => match us, hl with | [_], _ => rfl
theorem bnd_parts_of_grain {K : PySem.W.Frag} {mg : Str → Option Value} (T : Txt K mg) : Binds K (fdOf K ("parts_of_grain", none)) ["width", "other"] [] := T.F_parts_of_grain.bindsN fun _ _ _ _ _ _ us hl => match us, hl with | [_, _], _ => rfl
theorem bnd_in_grains {K : PySem.W.Frag} {mg : Str → Option Value} (T : Txt K mg) : Binds K (fdOf K ("in_grains", none)) ["steps", "grains"] [] := T.F_in_grains.bindsN fun _ _ _ _ _ _ us hl => match us, hl with | [_, _], _ => rfl
theorem bnd_part_of {K : PySem.W.Frag} {mg : Str → Option Value} (T : Txt K mg) : Binds K (fdOf K ("part_of", none)) ["top", "width"] [] := T.F_part_of.bindsN fun _ _ _ _ _ _ us hl => match us, hl with | [_, _], _ => rfl
theorem bnd_is_filling {K : PySem.W.Frag} {mg : Str → Option Value} (T : Txt K mg) : Binds K (fdOf K ("is_filling", none)) ["web", "thing"] [] := T.F_is_filling.bindsN fun _ _ _ _ _ _ us hl => match us, hl with | [_, _], _ => rfl
theorem bnd_check_filling {K : PySem.W.Frag} {mg : Str → Option Value} (T : Txt K mg) : Binds K (fdOf K ("check_filling", none)) ["web", "thing"] [] := T.F_check_filling.bindsN fun _ _ _ _ _ _ us hl => match us, hl with | [_, _], _ => rfl
theorem bnd_check_opening {K : PySem.W.Frag} {mg : Str → Option Value} (T : Txt K mg) : Binds K (fdOf K ("check_opening", none)) ["web", "thing"] [] := T.F_check_opening.bindsN fun _ _ _ _ _ _ us hl => match us, hl with | [_, _], _ => rfl
theorem bnd_drops_in_grains {K : PySem.W.Frag} {mg : Str → Option Value} (T : Txt K mg) : Binds K (fdOf K ("drops_in_grains", none)) ["web", "filling"] [] := T.F_drops_in_grains.bindsN fun _ _ _ _ _ _ us hl => match us, hl with | [_, _], _ => rfl
theorem bnd_runs_at {K : PySem.W.Frag} {mg : Str → Option Value} (T : Txt K mg) : Binds K (fdOf K ("runs_at", none)) ["units", "number"] [] := T.F_runs_at.bindsN fun _ _ _ _ _ _ us hl => match us, hl with | [_, _], _ => rfl
theorem bnd_flows_of {K : PySem.W.Frag} {mg : Str → Option Value} (T : Txt K mg) : Binds K (fdOf K ("flows_of", none)) ["web", "filling"] [] := T.F_flows_of.bindsN fun _ _ _ _ _ _ us hl => match us, hl with | [_, _], _ => rfl
theorem bnd_opened {K : PySem.W.Frag} {mg : Str → Option Value} (T : Txt K mg) : Binds K (fdOf K ("opened", none)) ["numbers", "opening"] [] := T.F_opened.bindsN fun _ _ _ _ _ _ us hl => match us, hl with | [_, _], _ => rfl
theorem bnd_nets_of {K : PySem.W.Frag} {mg : Str → Option Value} (T : Txt K mg) : Binds K (fdOf K ("nets_of", none)) ["web", "numbers"] [] := T.F_nets_of.bindsN fun _ _ _ _ _ _ us hl => match us, hl with | [_, _], _ => rfl
theorem bnd_moved {K : PySem.W.Frag} {mg : Str → Option Value} (T : Txt K mg) : Binds K (fdOf K ("moved", none)) ["web", "filling", "numbers"] [] := T.F_moved.bindsN fun _ _ _ _ _ _ us hl => match us, hl with | [_, _, _], _ => rfl
theorem bnd_levels {K : PySem.W.Frag} {mg : Str → Option Value} (T : Txt K mg) : Binds K (fdOf K ("levels", none)) ["web", "filling"] [] := T.F_levels.bindsN fun _ _ _ _ _ _ us hl => match us, hl with | [_, _], _ => rfl
theorem bnd_drops {K : PySem.W.Frag} {mg : Str → Option Value} (T : Txt K mg) : Binds K (fdOf K ("drops", none)) ["web", "filling"] [] := T.F_drops.bindsN fun _ _ _ _ _ _ us hl => match us, hl with | [_, _], _ => rfl
theorem bnd_running {K : PySem.W.Frag} {mg : Str → Option Value} (T : Txt K mg) : Binds K (fdOf K ("running", none)) ["web", "filling", "opening"] [] := T.F_running.bindsN fun _ _ _ _ _ _ us hl => match us, hl with | [_, _, _], _ => rfl
theorem bnd_flows {K : PySem.W.Frag} {mg : Str → Option Value} (T : Txt K mg) : Binds K (fdOf K ("flows", none)) ["web", "filling", "opening"] [] := T.F_flows.bindsN fun _ _ _ _ _ _ us hl => match us, hl with | [_, _, _], _ => rfl
theorem bnd_tick {K : PySem.W.Frag} {mg : Str → Option Value} (T : Txt K mg) : Binds K (fdOf K ("tick", none)) ["web", "filling", "opening"] [] := T.F_tick.bindsN fun _ _ _ _ _ _ us hl => match us, hl with | [_, _, _], _ => rfl
theorem bnd_nets {K : PySem.W.Frag} {mg : Str → Option Value} (T : Txt K mg) : Binds K (fdOf K ("nets", none)) ["web", "filling", "opening"] [] := T.F_nets.bindsN fun _ _ _ _ _ _ us hl => match us, hl with | [_, _, _], _ => rfl
theorem bnd_are_widths {K : PySem.W.Frag} {mg : Str → Option Value} (T : Txt K mg) : Binds K (fdOf K ("are_widths", none)) ["thing"] [] := T.F_are_widths.bindsN fun _ _ _ _ _ _ us hl => match us, hl with | [_], _ => rfl
theorem bnd_is_pipe {K : PySem.W.Frag} {mg : Str → Option Value} (T : Txt K mg) : Binds K (fdOf K ("is_pipe", none)) ["thing", "many"] [] := T.F_is_pipe.bindsN fun _ _ _ _ _ _ us hl => match us, hl with | [_, _], _ => rfl
theorem bnd_gauge {K : PySem.W.Frag} {mg : Str → Option Value} (T : Txt K mg) : Binds K (fdOf K ("gauge", none)) ["widths", "pipe"] [] := T.F_gauge.bindsN fun _ _ _ _ _ _ us hl => match us, hl with | [_, _], _ => rfl
theorem bnd__law_source {K : PySem.W.Frag} {mg : Str → Option Value} (T : Txt K mg) : Binds K (fdOf K ("_law_source", none)) ["_law_script"] [] := T.F__law_source.bindsN fun _ _ _ _ _ _ us hl => match us, hl with | [_], _ => rfl
theorem bnd__law_mixed {K : PySem.W.Frag} {mg : Str → Option Value} (T : Txt K mg) : Binds K (fdOf K ("_law_mixed", none)) ["_law_number", "_law_turn"] [] := T.F__law_mixed.bindsN fun _ _ _ _ _ _ us hl => match us, hl with | [_, _], _ => rfl
theorem bnd__law_draw {K : PySem.W.Frag} {mg : Str → Option Value} (T : Txt K mg) : Binds K (fdOf K ("_law_draw", none)) ["_law_source_here", "_law_many"] [] := T.F__law_draw.bindsN fun _ _ _ _ _ _ us hl => match us, hl with | [_, _], _ => rfl
theorem bnd__law_pick {K : PySem.W.Frag} {mg : Str → Option Value} (T : Txt K mg) : Binds K (fdOf K ("_law_pick", none)) ["_law_source_here", "_law_row"] [] := T.F__law_pick.bindsN fun _ _ _ _ _ _ us hl => match us, hl with | [_, _], _ => rfl
theorem bnd__law_divisor {K : PySem.W.Frag} {mg : Str → Option Value} (T : Txt K mg) : Binds K (fdOf K ("_law_divisor", none)) ["_law_one", "_law_other"] [] := T.F__law_divisor.bindsN fun _ _ _ _ _ _ us hl => match us, hl with | [_, _], _ => rfl
theorem bnd__law_made {K : PySem.W.Frag} {mg : Str → Option Value} (T : Txt K mg) : Binds K (fdOf K ("_law_made", none)) ["_law_top", "_law_bottom"] [] := T.F__law_made.bindsN fun _ _ _ _ _ _ us hl => match us, hl with | [_, _], _ => rfl
theorem bnd__law_added {K : PySem.W.Frag} {mg : Str → Option Value} (T : Txt K mg) : Binds K (fdOf K ("_law_added", none)) ["_law_one", "_law_other"] [] := T.F__law_added.bindsN fun _ _ _ _ _ _ us hl => match us, hl with | [_, _], _ => rfl
theorem bnd__law_same {K : PySem.W.Frag} {mg : Str → Option Value} (T : Txt K mg) : Binds K (fdOf K ("_law_same", none)) ["_law_actual", "_law_expected"] [] := T.F__law_same.bindsN fun _ _ _ _ _ _ us hl => match us, hl with | [_, _], _ => rfl
theorem bnd__law_met {K : PySem.W.Frag} {mg : Str → Option Value} (T : Txt K mg) : Binds K (fdOf K ("_law_met", none)) ["_law_found", "_law_due"] [] := T.F__law_met.bindsN fun _ _ _ _ _ _ us hl => match us, hl with | [_, _], _ => rfl
theorem bnd__law_integer {K : PySem.W.Frag} {mg : Str → Option Value} (T : Txt K mg) : Binds K (fdOf K ("_law_integer", none)) ["_law_thing"] [] := T.F__law_integer.bindsN fun _ _ _ _ _ _ us hl => match us, hl with | [_], _ => rfl
theorem bnd__law_deep {K : PySem.W.Frag} {mg : Str → Option Value} (T : Txt K mg) : Binds K (fdOf K ("_law_deep", none)) ["_law_many"] [] := T.F__law_deep.bindsN fun _ _ _ _ _ _ us hl => match us, hl with | [_], _ => rfl
theorem bnd__law_strange {K : PySem.W.Frag} {mg : Str → Option Value} (T : Txt K mg) : Binds K (fdOf K ("_law_strange", none)) ["_law_source_here"] [] := T.F__law_strange.bindsN fun _ _ _ _ _ _ us hl => match us, hl with | [_], _ => rfl
theorem bnd__law_in_order {K : PySem.W.Frag} {mg : Str → Option Value} (T : Txt K mg) : Binds K (fdOf K ("_law_in_order", none)) ["_law_steps_here"] [] := T.F__law_in_order.bindsN fun _ _ _ _ _ _ us hl => match us, hl with | [_], _ => rfl
theorem bnd__law_steps {K : PySem.W.Frag} {mg : Str → Option Value} (T : Txt K mg) : Binds K (fdOf K ("_law_steps", none)) ["_law_source_here", "_law_most", "_law_wide"] [] := T.F__law_steps.bindsN fun _ _ _ _ _ _ us hl => match us, hl with | [_, _, _], _ => rfl
theorem bnd__law_flow {K : PySem.W.Frag} {mg : Str → Option Value} (T : Txt K mg) : Binds K (fdOf K ("_law_flow", none)) ["_law_steps_here", "_law_drop_here"] [] := T.F__law_flow.bindsN fun _ _ _ _ _ _ us hl => match us, hl with | [_, _], _ => rfl
theorem bnd__law_widths {K : PySem.W.Frag} {mg : Str → Option Value} (T : Txt K mg) : Binds K (fdOf K ("_law_widths", none)) ["_law_source_here", "_law_many", "_law_seas"] [] := T.F__law_widths.bindsN fun _ _ _ _ _ _ us hl => match us, hl with | [_, _, _], _ => rfl
theorem bnd__law_pipe {K : PySem.W.Frag} {mg : Str → Option Value} (T : Txt K mg) : Binds K (fdOf K ("_law_pipe", none)) ["_law_source_here", "_law_vessels", "_law_most", "_law_wide"] [] := T.F__law_pipe.bindsN fun _ _ _ _ _ _ us hl => match us, hl with | [_, _, _, _], _ => rfl
theorem bnd__law_pipes {K : PySem.W.Frag} {mg : Str → Option Value} (T : Txt K mg) : Binds K (fdOf K ("_law_pipes", none)) ["_law_source_here", "_law_vessels", "_law_many", "_law_most", "_law_wide"] [] := T.F__law_pipes.bindsN fun _ _ _ _ _ _ us hl => match us, hl with | [_, _, _, _, _], _ => rfl
theorem bnd__law_water {K : PySem.W.Frag} {mg : Str → Option Value} (T : Txt K mg) : Binds K (fdOf K ("_law_water", none)) ["_law_source_here", "_law_high"] [] := T.F__law_water.bindsN fun _ _ _ _ _ _ us hl => match us, hl with | [_, _], _ => rfl
theorem bnd__law_filling {K : PySem.W.Frag} {mg : Str → Option Value} (T : Txt K mg) : Binds K (fdOf K ("_law_filling", none)) ["_law_source_here", "_law_widths_here", "_law_high", "_law_wide"] [] := T.F__law_filling.bindsN fun _ _ _ _ _ _ us hl => match us, hl with | [_, _, _, _], _ => rfl
theorem bnd__law_opening {K : PySem.W.Frag} {mg : Str → Option Value} (T : Txt K mg) : Binds K (fdOf K ("_law_opening", none)) ["_law_source_here", "_law_many"] [] := T.F__law_opening.bindsN fun _ _ _ _ _ _ us hl => match us, hl with | [_, _], _ => rfl
theorem bnd__law_level {K : PySem.W.Frag} {mg : Str → Option Value} (T : Txt K mg) : Binds K (fdOf K ("_law_level", none)) ["_law_water_here", "_law_width"] [] := T.F__law_level.bindsN fun _ _ _ _ _ _ us hl => match us, hl with | [_, _], _ => rfl
theorem bnd__law_drop {K : PySem.W.Frag} {mg : Str → Option Value} (T : Txt K mg) : Binds K (fdOf K ("_law_drop", none)) ["_law_widths_here", "_law_pipe_here", "_law_filling_here"] [] := T.F__law_drop.bindsN fun _ _ _ _ _ _ us hl => match us, hl with | [_, _, _], _ => rfl
theorem bnd__law_flows {K : PySem.W.Frag} {mg : Str → Option Value} (T : Txt K mg) : Binds K (fdOf K ("_law_flows", none)) ["_law_widths_here", "_law_pipes_here", "_law_filling_here", "_law_opening_here"] [] := T.F__law_flows.bindsN fun _ _ _ _ _ _ us hl => match us, hl with | [_, _, _, _], _ => rfl
theorem bnd__law_nets {K : PySem.W.Frag} {mg : Str → Option Value} (T : Txt K mg) : Binds K (fdOf K ("_law_nets", none)) ["_law_vessels", "_law_pipes_here", "_law_numbers"] [] := T.F__law_nets.bindsN fun _ _ _ _ _ _ us hl => match us, hl with | [_, _, _], _ => rfl
theorem bnd__law_behind {K : PySem.W.Frag} {mg : Str → Option Value} (T : Txt K mg) : Binds K (fdOf K ("_law_behind", none)) ["_law_widths_here", "_law_filling_here", "_law_lost"] [] := T.F__law_behind.bindsN fun _ _ _ _ _ _ us hl => match us, hl with | [_, _, _], _ => rfl
theorem bnd__law_is_filling {K : PySem.W.Frag} {mg : Str → Option Value} (T : Txt K mg) : Binds K (fdOf K ("_law_is_filling", none)) ["_law_widths_here", "_law_thing"] [] := T.F__law_is_filling.bindsN fun _ _ _ _ _ _ us hl => match us, hl with | [_, _], _ => rfl
theorem bnd__law_is_opening {K : PySem.W.Frag} {mg : Str → Option Value} (T : Txt K mg) : Binds K (fdOf K ("_law_is_opening", none)) ["_law_many", "_law_thing"] [] := T.F__law_is_opening.bindsN fun _ _ _ _ _ _ us hl => match us, hl with | [_, _], _ => rfl
theorem bnd__law_with {K : PySem.W.Frag} {mg : Str → Option Value} (T : Txt K mg) : Binds K (fdOf K ("_law_with", none)) ["_law_row", "_law_place", "_law_thing"] [] := T.F__law_with.bindsN fun _ _ _ _ _ _ us hl => match us, hl with | [_, _, _], _ => rfl
theorem bnd__law_told {K : PySem.W.Frag} {mg : Str → Option Value} (T : Txt K mg) : Binds K (fdOf K ("_law_told", none)) ["_law_action"] [] := T.F__law_told.bindsN fun _ _ _ _ _ _ us hl => match us, hl with | [_], _ => rfl
theorem bnd__law_bad_filling {K : PySem.W.Frag} {mg : Str → Option Value} (T : Txt K mg) : Binds K (fdOf K ("_law_bad_filling", none)) ["_law_source_here", "_law_kind", "_law_widths_here", "_law_filling_here"] [] := T.F__law_bad_filling.bindsN fun _ _ _ _ _ _ us hl => match us, hl with | [_, _, _, _], _ => rfl
theorem bnd__law_bad_opening {K : PySem.W.Frag} {mg : Str → Option Value} (T : Txt K mg) : Binds K (fdOf K ("_law_bad_opening", none)) ["_law_source_here", "_law_kind", "_law_many"] [] := T.F__law_bad_opening.bindsN fun _ _ _ _ _ _ us hl => match us, hl with | [_, _, _], _ => rfl
theorem bnd__law_all_told {K : PySem.W.Frag} {mg : Str → Option Value} (T : Txt K mg) : Binds K (fdOf K ("_law_all_told", none)) ["_law_web", "_law_filling_here", "_law_opening_here"] [] := T.F__law_all_told.bindsN fun _ _ _ _ _ _ us hl => match us, hl with | [_, _, _], _ => rfl
theorem bnd__law_all_due {K : PySem.W.Frag} {mg : Str → Option Value} (T : Txt K mg) : Binds K (fdOf K ("_law_all_due", none)) ["_law_widths_here", "_law_pipes_here", "_law_filling_here", "_law_opening_here"] [] := T.F__law_all_due.bindsN fun _ _ _ _ _ _ us hl => match us, hl with | [_, _, _, _], _ => rfl
theorem bnd_law {K : PySem.W.Frag} {mg : Str → Option Value} (T : Txt K mg) : Binds K (fdOf K ("law", none)) ["_law_script"] [] := T.F_law.bindsN fun _ _ _ _ _ _ us hl => match us, hl with | [_], _ => rfl
theorem bnd_init {K : PySem.W.Frag} {mg : Str → Option Value} (T : Txt K mg) : Binds K (fdOf K ("Web", some "__init__")) ["self", "widths", "pipes"] [] := T.F_init.bindsN fun _ _ _ _ _ _ us hl => match us, hl with | [_, _, _], _ => rfl
theorem bnd_begin {K : PySem.W.Frag} {mg : Str → Option Value} (T : Txt K mg) : Binds K (fdOf K ("Web", some "begin")) ["self", "widths", "pipes"] [] := T.F_begin.bindsN fun _ _ _ _ _ _ us hl => match us, hl with | [_, _, _], _ => rfl
end K11
/-! part K11P -/
namespace K11
open PySem PySem.Spec PyProof.Rows L2
abbrev PureOk (sp : Sp) (ps N : List Str) (t : XK → TS) : Prop :=
  (∀ vs H Q E, sp vs H Q E → vs.length = ps.length) ∧ ∀ vs H Q E, sp vs H Q E → t E { nx := fun _ H' => Q .non H', rt := Q } (L2.start N vs) H
theorem pmk_NoFilling {X : Cx} {k : Nat} {p pos : Pos} (hP : X.prog = PP) (T : Txt X.K X.mg) (hr : Room (k + 2) X.A) (hg : Gl X "NoFilling") : PMk X (.Call (.Name "NoFilling" p) [] [] pos) (fun _ H Q => Q (.ref (He.ga X.K "NoFilling")) none H) := by
  obtain ⟨f, t⟩ := T.eF
  exact pmk_err hP t errS_filling (hr.mono (by omega)) hg
theorem pmk_NoOpening {X : Cx} {k : Nat} {p pos : Pos} (hP : X.prog = PP) (T : Txt X.K X.mg) (hr : Room (k + 2) X.A) (hg : Gl X "NoOpening") : PMk X (.Call (.Name "NoOpening" p) [] [] pos) (fun _ H Q => Q (.ref (He.ga X.K "NoOpening")) none H) := by
  obtain ⟨f, t⟩ := T.eO
  exact pmk_err hP t errS_opening (hr.mono (by omega)) hg
variable {w : World} {K : PySem.W.Frag} {mg : Str → Option Value} {base : Heap}
theorem ok_is_integer (T : Txt K mg) (hp : PureOk (sp_is_integer K) ["thing"] N_is_integer fun E => t_is_integer K) : FnOk PP w K mg base CX0 1 (He.ga K "is_integer") (fdOf K ("is_integer", none)) ["thing"] (sp_is_integer K) := by
  refine (T.F_is_integer).ok (CX := CX0) (k := 0) sc_is_integer hp.1 (fun cdv A outer s H vs Q E hr h => ⟨t_is_integer K, PSs.nox ?_, hp.2 vs H Q E h⟩)
  exact (pss_one (ps_ret (pe_and (pe_callB call_isi (by rfl) T.b_isinstance (by decide +kernel) (pa_cons (pv 0) (pa_cons (pe_bltn (v := .ty "int") (by rfl) T.b_int (by decide +kernel) rfl) pa_nil))) (pe_one (pe_not (pe_callB call_isi (by rfl) T.b_isinstance (by decide +kernel) (pa_cons (pv 0) (pa_cons (pe_bltn (v := .ty "bool") (by rfl) T.b_bool (by decide +kernel) rfl) pa_nil))))))))
theorem ok_is_between (T : Txt K mg) (G_is_integer : FnOk PP w K mg base CX0 1 (He.ga K "is_integer") (fdOf K ("is_integer", none)) ["thing"] (sp_is_integer K)) (hp : PureOk (sp_is_between K) ["thing", "least", "most"] N_is_between fun E => t_is_between K) : FnOk PP w K mg base CX0 2 (He.ga K "is_between") (fdOf K ("is_between", none)) ["thing", "least", "most"] (sp_is_between K) := by
  refine (T.F_is_between).ok (CX := CX0) (k := 1) sc_is_between hp.1 (fun cdv A outer s H vs Q E hr h => ⟨t_is_between K, PSs.nox ?_, hp.2 vs H Q E h⟩)
  exact (pss_one (ps_ret (pe_and (pe_call G_is_integer (hr.mono (by decide)) rfl T.g_is_integer T.F_is_integer.kp (bnd_is_integer T) .nil pass0 (pa_cons (pv 0) pa_nil)) (pe_one (pe_chain op_le op_le (pv 1) (pv 0) (pv 2))))))
theorem ok_is_pair (T : Txt K mg) (hp : PureOk (sp_is_pair K) ["thing"] N_is_pair fun E => t_is_pair K) : FnOk PP w K mg base CX0 1 (He.ga K "is_pair") (fdOf K ("is_pair", none)) ["thing"] (sp_is_pair K) := by
  refine (T.F_is_pair).ok (CX := CX0) (k := 0) sc_is_pair hp.1 (fun cdv A outer s H vs Q E hr h => ⟨t_is_pair K, PSs.nox ?_, hp.2 vs H Q E h⟩)
  exact (pss_one (ps_ret (pe_and (pe_callB call_isi (by rfl) T.b_isinstance (by decide +kernel) (pa_cons (pv 0) (pa_cons (pe_bltn (v := .ty "tuple") (by rfl) T.b_tuple (by decide +kernel) rfl) pa_nil))) (pe_one (pe_cmpR op_eq (pe_callB call_len_seq (by rfl) T.b_len (by decide +kernel) (pa_cons (pv 0) pa_nil)) pe_int (nomark _))))))
theorem ok_is_triple (T : Txt K mg) (hp : PureOk (sp_is_triple K) ["thing"] N_is_triple fun E => t_is_triple K) : FnOk PP w K mg base CX0 1 (He.ga K "is_triple") (fdOf K ("is_triple", none)) ["thing"] (sp_is_triple K) := by
  refine (T.F_is_triple).ok (CX := CX0) (k := 0) sc_is_triple hp.1 (fun cdv A outer s H vs Q E hr h => ⟨t_is_triple K, PSs.nox ?_, hp.2 vs H Q E h⟩)
  exact (pss_one (ps_ret (pe_and (pe_callB call_isi (by rfl) T.b_isinstance (by decide +kernel) (pa_cons (pv 0) (pa_cons (pe_bltn (v := .ty "tuple") (by rfl) T.b_tuple (by decide +kernel) rfl) pa_nil))) (pe_one (pe_cmpR op_eq (pe_callB call_len_seq (by rfl) T.b_len (by decide +kernel) (pa_cons (pv 0) pa_nil)) pe_int (nomark _))))))
theorem ok_is_row (T : Txt K mg) (G_is_integer : FnOk PP w K mg base CX0 1 (He.ga K "is_integer") (fdOf K ("is_integer", none)) ["thing"] (sp_is_integer K)) (hp : PureOk (sp_is_row K) ["thing", "many"] N_is_row fun E => t_is_row K) : FnOk PP w K mg base CX0 2 (He.ga K "is_row") (fdOf K ("is_row", none)) ["thing", "many"] (sp_is_row K) := by
  refine (T.F_is_row).ok (CX := CX0) (k := 1) sc_is_row hp.1 (fun cdv A outer s H vs Q E hr h => ⟨t_is_row K, PSs.nox ?_, hp.2 vs H Q E h⟩)
  exact (pss_one (ps_ret (pe_and (pe_callB call_isi (by rfl) T.b_isinstance (by decide +kernel) (pa_cons (pv 0) (pa_cons (pe_bltn (v := .ty "tuple") (by rfl) T.b_tuple (by decide +kernel) rfl) pa_nil))) (pe_and (pe_cmpR op_eq (pe_callB call_len_seq (by rfl) T.b_len (by decide +kernel) (pa_cons (pv 0) pa_nil)) (pv 1) (nomark _)) (pe_one (pe_callB (cr_all rfl) (by rfl) T.b_all (by decide +kernel) (pa_cons (pe_lc (own := [("item", 2)]) (g := (gName 2)) (tt := tYes) rfl sc_is_row.nd (pi_tup (pv 0)) (blkOk_by (own := [("item", 2)]) (N := N_is_row) (sc := defScope s_is_row) (by decide +kernel)) (fun _ _ _ _ _ => (pg_name (i := 2) sc_is_row.nd rfl (Or.inl rfl))) (fun _ _ _ _ _ => pts_nil) (fun _ _ _ _ _ => (pe_call G_is_integer (hr.mono (by decide)) rfl T.g_is_integer T.F_is_integer.kp (bnd_is_integer T) .nil pass0 (pa_cons (pv 2) pa_nil)))) pa_nil)))))))
theorem ok_is_lot (T : Txt K mg) (G_is_between : FnOk PP w K mg base CX0 2 (He.ga K "is_between") (fdOf K ("is_between", none)) ["thing", "least", "most"] (sp_is_between K)) (hp : PureOk (sp_is_lot K) ["thing", "many"] N_is_lot fun E => t_is_lot K) : FnOk PP w K mg base CX0 3 (He.ga K "is_lot") (fdOf K ("is_lot", none)) ["thing", "many"] (sp_is_lot K) := by
  refine (T.F_is_lot).ok (CX := CX0) (k := 2) sc_is_lot hp.1 (fun cdv A outer s H vs Q E hr h => ⟨t_is_lot K, PSs.nox ?_, hp.2 vs H Q E h⟩)
  exact (pss_cons (ps_if (pt_not (pt_val (pe_callB call_isi (by rfl) T.b_isinstance (by decide +kernel) (pa_cons (pv 0) (pa_cons (pe_bltn (v := .ty "tuple") (by rfl) T.b_tuple (by decide +kernel) rfl) pa_nil))))) (pss_one (ps_ret pe_bl)) pss_nil)
      (pss_cons (ps_set (i := 2) sc_is_lot.nd rfl (by first | exact Or.inl rfl | exact Or.inr rfl) (pe_un un_neg pe_int))
      (pss_cons (ps_for PassesOwn.never rfl (pi_tup (pv 0)) (pg_name (i := 3) sc_is_lot.nd rfl (by first | exact Or.inl rfl | exact Or.inr rfl)) (pss_cons (ps_if (pt_not (pt_val (pe_call G_is_between (hr.mono (by decide)) rfl T.g_is_between T.F_is_between.kp (bnd_is_between T) .nil pass0 (pa_cons (pv 3) (pa_cons (pe_op op_add (pv 2) pe_int) (pa_cons (pe_op op_sub (pv 1) pe_int) pa_nil)))))) (pss_one (ps_ret pe_bl)) pss_nil)
      (pss_one (ps_set (i := 2) sc_is_lot.nd rfl (by first | exact Or.inl rfl | exact Or.inr rfl) (pv 3)))))
      (pss_one (ps_ret pe_bl)))))
theorem ok_divisor (T : Txt K mg) (hp : PureOk (sp_divisor) ["one", "other"] N_divisor fun E => t_divisor K) : FnOk PP w K mg base CX0 1 (He.ga K "divisor") (fdOf K ("divisor", none)) ["one", "other"] (sp_divisor) := by
  refine (T.F_divisor).ok (CX := CX0) (k := 0) sc_divisor hp.1 (fun cdv A outer s H vs Q E hr h => ⟨t_divisor K, PSs.nox ?_, hp.2 vs H Q E h⟩)
  exact (pss_cons (ps_par (i := 0) (j := 1) rfl sc_divisor.nd rfl rfl (by decide) rfl rfl (pa_cons (pe_callB call_abs (by rfl) T.b_abs (by decide +kernel) (pa_cons (pv 0) pa_nil)) (pa_cons (pe_callB call_abs (by rfl) T.b_abs (by decide +kernel) (pa_cons (pv 1) pa_nil)) pa_nil)) (by rfl))
      (pss_cons (ps_while PassesOwn.never (pt_cmpR op_gt (pv 1) pe_int (nomark _)) (pss_one (ps_par (i := 0) (j := 1) rfl sc_divisor.nd rfl rfl (by decide) rfl rfl (pa_cons (pv 1) (pa_cons (pe_op op_mod (pv 0) (pv 1)) pa_nil)) (by rfl))))
      (pss_one (ps_ret (pv 0)))))
theorem ok_multiple (T : Txt K mg) (G_divisor : FnOk PP w K mg base CX0 1 (He.ga K "divisor") (fdOf K ("divisor", none)) ["one", "other"] (sp_divisor)) (hp : PureOk (sp_multiple) ["one", "other"] N_multiple fun E => t_multiple K) : FnOk PP w K mg base CX0 2 (He.ga K "multiple") (fdOf K ("multiple", none)) ["one", "other"] (sp_multiple) := by
  refine (T.F_multiple).ok (CX := CX0) (k := 1) sc_multiple hp.1 (fun cdv A outer s H vs Q E hr h => ⟨t_multiple K, PSs.nox ?_, hp.2 vs H Q E h⟩)
  exact (pss_one (ps_ret (pe_op op_mul (pe_op op_fdiv (pv 0) (pe_call G_divisor (hr.mono (by decide)) rfl T.g_divisor T.F_divisor.kp (bnd_divisor T) .nil pass0 (pa_cons (pv 0) (pa_cons (pv 1) pa_nil)))) (pv 1))))
theorem ok_made (T : Txt K mg) (G_divisor : FnOk PP w K mg base CX0 1 (He.ga K "divisor") (fdOf K ("divisor", none)) ["one", "other"] (sp_divisor)) (hp : PureOk (sp_made K) ["top", "bottom"] N_made fun E => t_made K) : FnOk PP w K mg base CX0 2 (He.ga K "made") (fdOf K ("made", none)) ["top", "bottom"] (sp_made K) := by
  refine (T.F_made).ok (CX := CX0) (k := 1) sc_made hp.1 (fun cdv A outer s H vs Q E hr h => ⟨t_made K, PSs.nox ?_, hp.2 vs H Q E h⟩)
  exact (pss_cons (ps_set (i := 2) sc_made.nd rfl (by first | exact Or.inl rfl | exact Or.inr rfl) (pe_call G_divisor (hr.mono (by decide)) rfl T.g_divisor T.F_divisor.kp (bnd_divisor T) .nil pass0 (pa_cons (pv 0) (pa_cons (pv 1) pa_nil))))
      (pss_one (ps_ret (pe_tup (pa_cons (pe_op op_fdiv (pv 0) (pv 2)) (pa_cons (pe_op op_fdiv (pv 1) (pv 2)) pa_nil))))))
theorem ok_is_fraction (T : Txt K mg) (G_divisor : FnOk PP w K mg base CX0 1 (He.ga K "divisor") (fdOf K ("divisor", none)) ["one", "other"] (sp_divisor)) (G_is_pair : FnOk PP w K mg base CX0 1 (He.ga K "is_pair") (fdOf K ("is_pair", none)) ["thing"] (sp_is_pair K)) (G_is_integer : FnOk PP w K mg base CX0 1 (He.ga K "is_integer") (fdOf K ("is_integer", none)) ["thing"] (sp_is_integer K)) (hp : PureOk (sp_is_fraction K) ["thing"] N_is_fraction fun E => t_is_fraction K) : FnOk PP w K mg base CX0 2 (He.ga K "is_fraction") (fdOf K ("is_fraction", none)) ["thing"] (sp_is_fraction K) := by
  refine (T.F_is_fraction).ok (CX := CX0) (k := 1) sc_is_fraction hp.1 (fun cdv A outer s H vs Q E hr h => ⟨t_is_fraction K, PSs.nox ?_, hp.2 vs H Q E h⟩)
  exact (pss_cons (ps_if (PW.pt (pw_or (pt_not (pt_val (pe_call G_is_pair (hr.mono (by decide)) rfl T.g_is_pair T.F_is_pair.kp (bnd_is_pair T) .nil pass0 (pa_cons (pv 0) pa_nil)))) (pw_or (pt_not (pt_val (pe_call G_is_integer (hr.mono (by decide)) rfl T.g_is_integer T.F_is_integer.kp (bnd_is_integer T) .nil pass0 (pa_cons (pe_ix ix_tup (pv 0) pe_int (fun _ _ => rfl)) pa_nil)))) (pw_or (pt_not (pt_val (pe_call G_is_integer (hr.mono (by decide)) rfl T.g_is_integer T.F_is_integer.kp (bnd_is_integer T) .nil pass0 (pa_cons (pe_ix ix_tup (pv 0) pe_int (fun _ _ => rfl)) pa_nil)))) (pw_or1 (pt_cmpR op_lt (pe_ix ix_tup (pv 0) pe_int (fun _ _ => rfl)) pe_int (nomark _))))))) (pss_one (ps_ret pe_bl)) pss_nil)
      (pss_one (ps_ret (pe_cmpR op_eq (pe_call G_divisor (hr.mono (by decide)) rfl T.g_divisor T.F_divisor.kp (bnd_divisor T) .nil pass0 (pa_cons (pe_ix ix_tup (pv 0) pe_int (fun _ _ => rfl)) (pa_cons (pe_ix ix_tup (pv 0) pe_int (fun _ _ => rfl)) pa_nil))) pe_int (nomark _)))))
theorem ok_is_below (T : Txt K mg) (hp : PureOk (sp_is_below K) ["one", "other"] N_is_below fun E => t_is_below K) : FnOk PP w K mg base CX0 1 (He.ga K "is_below") (fdOf K ("is_below", none)) ["one", "other"] (sp_is_below K) := by
  refine (T.F_is_below).ok (CX := CX0) (k := 0) sc_is_below hp.1 (fun cdv A outer s H vs Q E hr h => ⟨t_is_below K, PSs.nox ?_, hp.2 vs H Q E h⟩)
  exact (pss_one (ps_ret (pe_cmpR op_lt (pe_op op_mul (pe_ix ix_tup (pv 0) pe_int (fun _ _ => rfl)) (pe_ix ix_tup (pv 1) pe_int (fun _ _ => rfl))) (pe_op op_mul (pe_ix ix_tup (pv 1) pe_int (fun _ _ => rfl)) (pe_ix ix_tup (pv 0) pe_int (fun _ _ => rfl))) (nomark _))))
theorem ok_next_whole (T : Txt K mg) (hp : PureOk (sp_next_whole K) ["one"] N_next_whole fun E => t_next_whole K) : FnOk PP w K mg base CX0 1 (He.ga K "next_whole") (fdOf K ("next_whole", none)) ["one"] (sp_next_whole K) := by
  refine (T.F_next_whole).ok (CX := CX0) (k := 0) sc_next_whole hp.1 (fun cdv A outer s H vs Q E hr h => ⟨t_next_whole K, PSs.nox ?_, hp.2 vs H Q E h⟩)
  exact (pss_one (ps_ret (pe_un un_neg (pe_op op_fdiv (pe_un un_neg (pe_ix ix_tup (pv 0) pe_int (fun _ _ => rfl))) (pe_ix ix_tup (pv 0) pe_int (fun _ _ => rfl))))))
theorem ok_is_threshold (T : Txt K mg) (G_is_fraction : FnOk PP w K mg base CX0 2 (He.ga K "is_fraction") (fdOf K ("is_fraction", none)) ["thing"] (sp_is_fraction K)) (hp : PureOk (sp_is_threshold K) ["thing"] N_is_threshold fun E => t_is_threshold K) : FnOk PP w K mg base CX0 3 (He.ga K "is_threshold") (fdOf K ("is_threshold", none)) ["thing"] (sp_is_threshold K) := by
  refine (T.F_is_threshold).ok (CX := CX0) (k := 2) sc_is_threshold hp.1 (fun cdv A outer s H vs Q E hr h => ⟨t_is_threshold K, PSs.nox ?_, hp.2 vs H Q E h⟩)
  exact (pss_one (ps_ret (pe_and (pe_call G_is_fraction (hr.mono (by decide)) rfl T.g_is_fraction T.F_is_fraction.kp (bnd_is_fraction T) .nil pass0 (pa_cons (pv 0) pa_nil)) (pe_and (pe_chain op_le op_le pe_int (pe_ix ix_tup (pv 0) pe_int (fun _ _ => rfl)) (pe_globI (by rfl) T.c_MOST_TOP)) (pe_one (pe_cmpR op_le (pe_ix ix_tup (pv 0) pe_int (fun _ _ => rfl)) (pe_globI (by rfl) T.c_MOST_BOTTOM) (nomark _)))))))
theorem ok_is_list (T : Txt K mg) (G_is_threshold : FnOk PP w K mg base CX0 3 (He.ga K "is_threshold") (fdOf K ("is_threshold", none)) ["thing"] (sp_is_threshold K)) (G_is_below : FnOk PP w K mg base CX0 1 (He.ga K "is_below") (fdOf K ("is_below", none)) ["one", "other"] (sp_is_below K)) (hp : PureOk (sp_is_list K) ["thing"] N_is_list fun E => t_is_list K) : FnOk PP w K mg base CX0 4 (He.ga K "is_list") (fdOf K ("is_list", none)) ["thing"] (sp_is_list K) := by
  refine (T.F_is_list).ok (CX := CX0) (k := 3) sc_is_list hp.1 (fun cdv A outer s H vs Q E hr h => ⟨t_is_list K, PSs.nox ?_, hp.2 vs H Q E h⟩)
  exact (pss_cons (ps_if (PW.pt (pw_or (pt_not (pt_val (pe_callB call_isi (by rfl) T.b_isinstance (by decide +kernel) (pa_cons (pv 0) (pa_cons (pe_bltn (v := .ty "tuple") (by rfl) T.b_tuple (by decide +kernel) rfl) pa_nil))))) (pw_or1 (pt_not (pt_chain op_le op_le pe_int (pe_callB call_len_seq (by rfl) T.b_len (by decide +kernel) (pa_cons (pv 0) pa_nil)) (pe_globI (by rfl) T.c_MOST_THRESHOLDS)))))) (pss_one (ps_ret pe_bl)) pss_nil)
      (pss_cons (ps_if (pt_not (pt_val (pe_callB (cr_all rfl) (by rfl) T.b_all (by decide +kernel) (pa_cons (pe_lc (own := [("item", 1)]) (g := (gName 1)) (tt := tYes) rfl sc_is_list.nd (pi_tup (pv 0)) (blkOk_by (own := [("item", 1)]) (N := N_is_list) (sc := defScope s_is_list) (by decide +kernel)) (fun _ _ _ _ _ => (pg_name (i := 1) sc_is_list.nd rfl (Or.inl rfl))) (fun _ _ _ _ _ => pts_nil) (fun _ _ _ _ _ => (pe_call G_is_threshold (hr.mono (by decide)) rfl T.g_is_threshold T.F_is_threshold.kp (bnd_is_threshold T) .nil pass0 (pa_cons (pv 1) pa_nil)))) pa_nil)))) (pss_one (ps_ret pe_bl)) pss_nil)
      (pss_one (ps_ret (pe_not (pe_callB (cr_any rfl) (by rfl) T.b_any (by decide +kernel) (pa_cons (pe_lc (own := [("item", 1), ("later", 2)]) (g := (gTup K 2 (gCons (gName 1) (gCons (gName 2) gNil)))) (tt := tYes) rfl sc_is_list.nd (pi_zip2K false false (by rfl) T.b_zip (pa_cons (pv 0) (pa_cons (pe_slice sl_tup (pv 0) (po_some pe_int) po_none) pa_nil))) (blkOk_by (own := [("item", 1), ("later", 2)]) (N := N_is_list) (sc := defScope s_is_list) (by decide +kernel)) (fun _ _ _ _ _ => (pg_tup rfl (pgs_cons (pg_name (i := 1) sc_is_list.nd rfl (Or.inl rfl)) (pgs_cons (pg_name (i := 2) sc_is_list.nd rfl (Or.inl rfl)) pgs_nil)))) (fun _ _ _ _ _ => pts_nil) (fun _ _ _ _ _ => (pe_call G_is_below (hr.mono (by decide)) rfl T.g_is_below T.F_is_below.kp (bnd_is_below T) .nil pass0 (pa_cons (pv 2) (pa_cons (pv 1) pa_nil))))) pa_nil)))))))
theorem ok_is_width (T : Txt K mg) (G_is_between : FnOk PP w K mg base CX0 2 (He.ga K "is_between") (fdOf K ("is_between", none)) ["thing", "least", "most"] (sp_is_between K)) (hp : PureOk (sp_is_width) ["thing"] N_is_width fun E => t_is_width K) : FnOk PP w K mg base CX0 3 (He.ga K "is_width") (fdOf K ("is_width", none)) ["thing"] (sp_is_width) := by
  refine (T.F_is_width).ok (CX := CX0) (k := 2) sc_is_width hp.1 (fun cdv A outer s H vs Q E hr h => ⟨t_is_width K, PSs.nox ?_, hp.2 vs H Q E h⟩)
  exact (pss_one (ps_ret (pe_call G_is_between (hr.mono (by decide)) rfl T.g_is_between T.F_is_between.kp (bnd_is_between T) .nil pass0 (pa_cons (pv 0) (pa_cons pe_int (pa_cons (pe_globI (by rfl) T.c_MOST_WIDTH) pa_nil))))))
theorem ok_parts_of_grain (T : Txt K mg) (G_multiple : FnOk PP w K mg base CX0 2 (He.ga K "multiple") (fdOf K ("multiple", none)) ["one", "other"] (sp_multiple)) (hp : PureOk (sp_parts_of_grain) ["width", "other"] N_parts_of_grain fun E => t_parts_of_grain K) : FnOk PP w K mg base CX0 3 (He.ga K "parts_of_grain") (fdOf K ("parts_of_grain", none)) ["width", "other"] (sp_parts_of_grain) := by
  refine (T.F_parts_of_grain).ok (CX := CX0) (k := 2) sc_parts_of_grain hp.1 (fun cdv A outer s H vs Q E hr h => ⟨t_parts_of_grain K, PSs.nox ?_, hp.2 vs H Q E h⟩)
  exact (pss_cons (ps_if (PW.pt (pw_or (pt_cmpR op_eq (pv 0) pe_int (nomark _)) (pw_or1 (pt_cmpR op_eq (pv 1) pe_int (nomark _))))) (pss_one (ps_ret (pe_callB (call_max3 rfl) (by rfl) T.b_max (by decide +kernel) (pa_cons (pv 0) (pa_cons (pv 1) (pa_cons pe_int pa_nil)))))) pss_nil)
      (pss_one (ps_ret (pe_call G_multiple (hr.mono (by decide)) rfl T.g_multiple T.F_multiple.kp (bnd_multiple T) .nil pass0 (pa_cons (pv 0) (pa_cons (pv 1) pa_nil))))))
theorem ok_in_grains (T : Txt K mg) (G_next_whole : FnOk PP w K mg base CX0 1 (He.ga K "next_whole") (fdOf K ("next_whole", none)) ["one"] (sp_next_whole K)) (G_made : FnOk PP w K mg base CX0 2 (He.ga K "made") (fdOf K ("made", none)) ["top", "bottom"] (sp_made K)) (hp : PureOk (sp_in_grains K) ["steps", "grains"] N_in_grains fun E => t_in_grains K) : FnOk PP w K mg base CX0 3 (He.ga K "in_grains") (fdOf K ("in_grains", none)) ["steps", "grains"] (sp_in_grains K) := by
  refine (T.F_in_grains).ok (CX := CX0) (k := 2) sc_in_grains hp.1 (fun cdv A outer s H vs Q E hr h => ⟨t_in_grains K, PSs.nox ?_, hp.2 vs H Q E h⟩)
  exact (pss_one (ps_ret (pe_callTy call_tuple_of (by rfl) T.b_tuple (by decide +kernel) (pa_cons (pe_lc (own := [("step", 2)]) (g := (gName 2)) (tt := tYes) rfl sc_in_grains.nd (pi_tup (pv 0)) (blkOk_by (own := [("step", 2)]) (N := N_in_grains) (sc := defScope s_in_grains) (by decide +kernel)) (fun _ _ _ _ _ => (pg_name (i := 2) sc_in_grains.nd rfl (Or.inl rfl))) (fun _ _ _ _ _ => pts_nil) (fun _ _ _ _ _ => (pe_call G_next_whole (hr.mono (by decide)) rfl T.g_next_whole T.F_next_whole.kp (bnd_next_whole T) .nil pass0 (pa_cons (pe_call G_made (hr.mono (by decide)) rfl T.g_made T.F_made.kp (bnd_made T) .nil pass0 (pa_cons (pe_op op_mul (pe_ix ix_tup (pv 2) pe_int (fun _ _ => rfl)) (pv 1)) (pa_cons (pe_ix ix_tup (pv 2) pe_int (fun _ _ => rfl)) pa_nil))) pa_nil)))) pa_nil))))
theorem ok_part_of (T : Txt K mg) (G_made : FnOk PP w K mg base CX0 2 (He.ga K "made") (fdOf K ("made", none)) ["top", "bottom"] (sp_made K)) (hp : PureOk (sp_part_of K) ["top", "width"] N_part_of fun E => t_part_of K) : FnOk PP w K mg base CX0 3 (He.ga K "part_of") (fdOf K ("part_of", none)) ["top", "width"] (sp_part_of K) := by
  refine (T.F_part_of).ok (CX := CX0) (k := 2) sc_part_of hp.1 (fun cdv A outer s H vs Q E hr h => ⟨t_part_of K, PSs.nox ?_, hp.2 vs H Q E h⟩)
  exact (pss_one (ps_ret (pe_ifExp (pt_cmpR op_eq (pv 1) pe_int (nomark _)) (pe_glob (by rfl) T.g_NOUGHT rfl) (pe_call G_made (hr.mono (by decide)) rfl T.g_made T.F_made.kp (bnd_made T) .nil pass0 (pa_cons (pv 0) (pa_cons (pv 1) pa_nil))))))
theorem ok_is_filling (T : Txt K mg) (G_is_row : FnOk PP w K mg base CX0 2 (He.ga K "is_row") (fdOf K ("is_row", none)) ["thing", "many"] (sp_is_row K)) (hp : PureOk (sp_is_filling K) ["web", "thing"] N_is_filling fun E => t_is_filling K) : FnOk PP w K mg base CX0 3 (He.ga K "is_filling") (fdOf K ("is_filling", none)) ["web", "thing"] (sp_is_filling K) := by
  refine (T.F_is_filling).ok (CX := CX0) (k := 2) sc_is_filling hp.1 (fun cdv A outer s H vs Q E hr h => ⟨t_is_filling K, PSs.nox ?_, hp.2 vs H Q E h⟩)
  exact (pss_cons (ps_if (pt_not (pt_val (pe_call G_is_row (hr.mono (by decide)) rfl T.g_is_row T.F_is_row.kp (bnd_is_row T) .nil pass0 (pa_cons (pv 1) (pa_cons (pe_callB call_len_seq (by rfl) T.b_len (by decide +kernel) (pa_cons (pe_fld (pv 0) rfl) pa_nil)) pa_nil))))) (pss_one (ps_ret pe_bl)) pss_nil)
      (pss_one (ps_ret (pe_callB (cr_all rfl) (by rfl) T.b_all (by decide +kernel) (pa_cons (pe_lc (own := [("water", 2), ("width", 3)]) (g := (gTup K 2 (gCons (gName 2) (gCons (gName 3) gNil)))) (tt := tYes) rfl sc_is_filling.nd (pi_zip2K false false (by rfl) T.b_zip (pa_cons (pv 1) (pa_cons (pe_fld (pv 0) rfl) pa_nil))) (blkOk_by (own := [("water", 2), ("width", 3)]) (N := N_is_filling) (sc := defScope s_is_filling) (by decide +kernel)) (fun _ _ _ _ _ => (pg_tup rfl (pgs_cons (pg_name (i := 2) sc_is_filling.nd rfl (Or.inl rfl)) (pgs_cons (pg_name (i := 3) sc_is_filling.nd rfl (Or.inl rfl)) pgs_nil)))) (fun _ _ _ _ _ => pts_nil) (fun _ _ _ _ _ => (pe_or (pe_cmpR op_eq (pv 2) pe_int (nomark _)) (pe_one (pe_cmpR op_gt (pv 3) pe_int (nomark _)))))) pa_nil)))))
theorem ok_check_filling (T : Txt K mg) (G_is_filling : FnOk PP w K mg base CX0 3 (He.ga K "is_filling") (fdOf K ("is_filling", none)) ["web", "thing"] (sp_is_filling K)) (hp : PureOk (sp_check_filling K) ["web", "thing"] N_check_filling fun E => t_check_filling K E) : FnOk PP w K mg base (L2.CX PP w) 5 (He.ga K "check_filling") (fdOf K ("check_filling", none)) ["web", "thing"] (sp_check_filling K) := by
  refine (T.F_check_filling).ok (CX := L2.CX PP w) (k := 4) sc_check_filling hp.1 (fun cdv A outer s H vs Q E hr h => ⟨t_check_filling K E, ?_, hp.2 vs H Q E h⟩)
  have tk0 : Takes (cxOf (L2.CX PP w) PP w K mg base N_check_filling "check_filling" (defScope s_check_filling) (He.ga K "check_filling") cdv A outer s H E) (fun cls d _ H => E cls d H) := takes_of rfl rfl rfl rfl
  exact (pss_one (ps_if (pt_not (pt_val (pe_call G_is_filling (hr.mono (by decide)) rfl T.g_is_filling T.F_is_filling.kp (bnd_is_filling T) .nil pass0 (pa_cons (pv 0) (pa_cons (pv 1) pa_nil))))) (pss_one (ps_raise rfl tk0 (pmk_NoFilling rfl T hr (by rfl)))) pss_nil))
theorem ok_check_opening (T : Txt K mg) (G_is_lot : FnOk PP w K mg base CX0 3 (He.ga K "is_lot") (fdOf K ("is_lot", none)) ["thing", "many"] (sp_is_lot K)) (hp : PureOk (sp_check_opening K) ["web", "thing"] N_check_opening fun E => t_check_opening K E) : FnOk PP w K mg base (L2.CX PP w) 5 (He.ga K "check_opening") (fdOf K ("check_opening", none)) ["web", "thing"] (sp_check_opening K) := by
  refine (T.F_check_opening).ok (CX := L2.CX PP w) (k := 4) sc_check_opening hp.1 (fun cdv A outer s H vs Q E hr h => ⟨t_check_opening K E, ?_, hp.2 vs H Q E h⟩)
  have tk0 : Takes (cxOf (L2.CX PP w) PP w K mg base N_check_opening "check_opening" (defScope s_check_opening) (He.ga K "check_opening") cdv A outer s H E) (fun cls d _ H => E cls d H) := takes_of rfl rfl rfl rfl
  exact (pss_one (ps_if (PW.pt (pw_and (pt_cmpR op_notN (pv 1) pe_non (nomark _)) (pw_and1 (pt_not (pt_val (pe_call G_is_lot (hr.mono (by decide)) rfl T.g_is_lot T.F_is_lot.kp (bnd_is_lot T) .nil pass0 (pa_cons (pv 1) (pa_cons (pe_callB call_len_seq (by rfl) T.b_len (by decide +kernel) (pa_cons (pe_fld (pv 0) rfl) pa_nil)) pa_nil)))))))) (pss_one (ps_raise rfl tk0 (pmk_NoOpening rfl T hr (by rfl)))) pss_nil))
theorem ok_drops_in_grains (T : Txt K mg) (hp : PureOk (sp_drops_in_grains K) ["web", "filling"] N_drops_in_grains fun E => t_drops_in_grains K) : FnOk PP w K mg base CX0 1 (He.ga K "drops_in_grains") (fdOf K ("drops_in_grains", none)) ["web", "filling"] (sp_drops_in_grains K) := by
  refine (T.F_drops_in_grains).ok (CX := CX0) (k := 0) sc_drops_in_grains hp.1 (fun cdv A outer s H vs Q E hr h => ⟨t_drops_in_grains K, PSs.nox ?_, hp.2 vs H Q E h⟩)
  exact (pss_one (ps_ret (pe_lc (own := [("one", 2), ("other", 3), ("here", 4), ("there", 5), ("units", 6), ("grains", 7)]) (g := (gTup K 6 (gCons (gName 2) (gCons (gName 3) (gCons (gName 4) (gCons (gName 5) (gCons (gName 6) (gCons (gName 7) gNil)))))))) (tt := tYes) rfl sc_drops_in_grains.nd (pi_list (pe_fld (pv 0) rfl)) (blkOk_by (own := [("one", 2), ("other", 3), ("here", 4), ("there", 5), ("units", 6), ("grains", 7)]) (N := N_drops_in_grains) (sc := defScope s_drops_in_grains) (by decide +kernel)) (fun _ _ _ _ _ => (pg_tup rfl (pgs_cons (pg_name (i := 2) sc_drops_in_grains.nd rfl (Or.inl rfl)) (pgs_cons (pg_name (i := 3) sc_drops_in_grains.nd rfl (Or.inl rfl)) (pgs_cons (pg_name (i := 4) sc_drops_in_grains.nd rfl (Or.inl rfl)) (pgs_cons (pg_name (i := 5) sc_drops_in_grains.nd rfl (Or.inl rfl)) (pgs_cons (pg_name (i := 6) sc_drops_in_grains.nd rfl (Or.inl rfl)) (pgs_cons (pg_name (i := 7) sc_drops_in_grains.nd rfl (Or.inl rfl)) pgs_nil)))))))) (fun _ _ _ _ _ => pts_nil) (fun _ _ _ _ _ => (pe_op op_sub (pe_op op_mul (pe_ix ix_tup (pv 1) (pv 2) (fun _ _ => rfl)) (pv 4)) (pe_op op_mul (pe_ix ix_tup (pv 1) (pv 3) (fun _ _ => rfl)) (pv 5)))))))
theorem ok_runs_at (T : Txt K mg) (hp : PureOk (sp_runs_at K) ["units", "number"] N_runs_at fun E => t_runs_at K) : FnOk PP w K mg base CX0 1 (He.ga K "runs_at") (fdOf K ("runs_at", none)) ["units", "number"] (sp_runs_at K) := by
  refine (T.F_runs_at).ok (CX := CX0) (k := 0) sc_runs_at hp.1 (fun cdv A outer s H vs Q E hr h => ⟨t_runs_at K, PSs.nox ?_, hp.2 vs H Q E h⟩)
  exact (pss_cons (ps_set (i := 2) sc_runs_at.nd rfl (by first | exact Or.inl rfl | exact Or.inr rfl) (pe_callB call_len_seq (by rfl) T.b_len (by decide +kernel) (pa_cons (pe_lc (own := [("unit", 3)]) (g := (gName 3)) (tt := (tTest (tOp qLe (tVar 3) (tCB qAbs (tCons (tVar 1) tNil))))) rfl sc_runs_at.nd (pi_tup (pv 0)) (blkOk_by (own := [("unit", 3)]) (N := N_runs_at) (sc := defScope s_runs_at) (by decide +kernel)) (fun _ _ _ _ _ => (pg_name (i := 3) sc_runs_at.nd rfl (Or.inl rfl))) (fun _ _ _ _ _ => (pts_one (pt_cmpR op_le (pv 3) (pe_callB call_abs (by rfl) T.b_abs (by decide +kernel) (pa_cons (pv 1) pa_nil)) (nomark _)))) (fun _ _ _ _ _ => (pv 3))) pa_nil)))
      (pss_one (ps_ret (pe_ifExp (pt_cmpR op_gt (pv 1) pe_int (nomark _)) (pv 2) (pe_un un_neg (pv 2))))))
theorem ok_flows_of (T : Txt K mg) (G_runs_at : FnOk PP w K mg base CX0 1 (He.ga K "runs_at") (fdOf K ("runs_at", none)) ["units", "number"] (sp_runs_at K)) (G_drops_in_grains : FnOk PP w K mg base CX0 1 (He.ga K "drops_in_grains") (fdOf K ("drops_in_grains", none)) ["web", "filling"] (sp_drops_in_grains K)) (hp : PureOk (sp_flows_of K) ["web", "filling"] N_flows_of fun E => t_flows_of K) : FnOk PP w K mg base CX0 2 (He.ga K "flows_of") (fdOf K ("flows_of", none)) ["web", "filling"] (sp_flows_of K) := by
  refine (T.F_flows_of).ok (CX := CX0) (k := 1) sc_flows_of hp.1 (fun cdv A outer s H vs Q E hr h => ⟨t_flows_of K, PSs.nox ?_, hp.2 vs H Q E h⟩)
  exact (pss_one (ps_ret (pe_lc (own := [("line", 2), ("number", 3)]) (g := (gTup K 2 (gCons (gName 2) (gCons (gName 3) gNil)))) (tt := tYes) rfl sc_flows_of.nd (pi_zip2K true true (by rfl) T.b_zip (pa_cons (pe_fld (pv 0) rfl) (pa_cons (pe_call G_drops_in_grains (hr.mono (by decide)) rfl T.g_drops_in_grains T.F_drops_in_grains.kp (bnd_drops_in_grains T) .nil pass0 (pa_cons (pv 0) (pa_cons (pv 1) pa_nil))) pa_nil))) (blkOk_by (own := [("line", 2), ("number", 3)]) (N := N_flows_of) (sc := defScope s_flows_of) (by decide +kernel)) (fun _ _ _ _ _ => (pg_tup rfl (pgs_cons (pg_name (i := 2) sc_flows_of.nd rfl (Or.inl rfl)) (pgs_cons (pg_name (i := 3) sc_flows_of.nd rfl (Or.inl rfl)) pgs_nil)))) (fun _ _ _ _ _ => pts_nil) (fun _ _ _ _ _ => (pe_call G_runs_at (hr.mono (by decide)) rfl T.g_runs_at T.F_runs_at.kp (bnd_runs_at T) .nil pass0 (pa_cons (pe_ix ix_tup (pv 2) pe_int (fun _ _ => rfl)) (pa_cons (pv 3) pa_nil)))))))
theorem ok_opened (T : Txt K mg) (hp : PureOk (sp_opened K) ["numbers", "opening"] N_opened fun E => t_opened K) : FnOk PP w K mg base CX0 1 (He.ga K "opened") (fdOf K ("opened", none)) ["numbers", "opening"] (sp_opened K) := by
  refine (T.F_opened).ok (CX := CX0) (k := 0) sc_opened hp.1 (fun cdv A outer s H vs Q E hr h => ⟨t_opened K, PSs.nox ?_, hp.2 vs H Q E h⟩)
  exact (pss_cons (ps_if (pt_cmpR op_isN (pv 1) pe_non (nomark _)) (pss_one (ps_ret (pe_callTy call_list_of (by rfl) T.b_list (by decide +kernel) (pa_cons (pv 0) pa_nil)))) pss_nil)
      (pss_one (ps_ret (pe_lc (own := [("pipe", 2), ("number", 3)]) (g := (gTup K 2 (gCons (gName 2) (gCons (gName 3) gNil)))) (tt := tYes) rfl sc_opened.nd (pi_enumK true (by rfl) T.b_enumerate (pa_cons (pv 0) pa_nil)) (blkOk_by (own := [("pipe", 2), ("number", 3)]) (N := N_opened) (sc := defScope s_opened) (by decide +kernel)) (fun _ _ _ _ _ => (pg_tup rfl (pgs_cons (pg_name (i := 2) sc_opened.nd rfl (Or.inl rfl)) (pgs_cons (pg_name (i := 3) sc_opened.nd rfl (Or.inl rfl)) pgs_nil)))) (fun _ _ _ _ _ => pts_nil) (fun _ _ _ _ _ => (pe_ifExp (pt_cmpR op_in_seq (pv 2) (pv 1) (by rfl)) (pv 3) pe_int))))))
theorem ok_nets_of (T : Txt K mg) (hp : PureOk (sp_nets_of K) ["web", "numbers"] N_nets_of fun E => t_nets_of K) : FnOk PP w K mg base CX0 1 (He.ga K "nets_of") (fdOf K ("nets_of", none)) ["web", "numbers"] (sp_nets_of K) := by
  refine (T.F_nets_of).ok (CX := CX0) (k := 0) sc_nets_of hp.1 (fun cdv A outer s H vs Q E hr h => ⟨t_nets_of K, PSs.nox ?_, hp.2 vs H Q E h⟩)
  exact (pss_cons (ps_set (i := 2) sc_nets_of.nd rfl (by first | exact Or.inl rfl | exact Or.inr rfl) (pe_op op_rep (pe_lst (pa_cons pe_int pa_nil)) (pe_callB call_len_seq (by rfl) T.b_len (by decide +kernel) (pa_cons (pe_fld (pv 0) rfl) pa_nil))))
      (pss_cons (ps_for PassesOwn.never rfl (pi_zip2K false true (by rfl) T.b_zip (pa_cons (pe_fld (pv 0) rfl) (pa_cons (pv 1) pa_nil))) (pg_tup rfl (pgs_cons (pg_tup rfl (pgs_cons (pg_name (i := 3) sc_nets_of.nd rfl (by first | exact Or.inl rfl | exact Or.inr rfl)) (pgs_cons (pg_name (i := 4) sc_nets_of.nd rfl (by first | exact Or.inl rfl | exact Or.inr rfl)) (pgs_cons (pg_name (i := 5) sc_nets_of.nd rfl (by first | exact Or.inl rfl | exact Or.inr rfl)) pgs_nil)))) (pgs_cons (pg_name (i := 6) sc_nets_of.nd rfl (by first | exact Or.inl rfl | exact Or.inr rfl)) pgs_nil))) (pss_cons (ps_augS (pv 2) (pv 3) get_listL (pv 6) ip_add set_list)
      (pss_one (ps_augS (pv 2) (pv 4) get_listL (pv 6) ip_sub set_list))))
      (pss_one (ps_ret (pv 2)))))
theorem ok_moved (T : Txt K mg) (G_nets_of : FnOk PP w K mg base CX0 1 (He.ga K "nets_of") (fdOf K ("nets_of", none)) ["web", "numbers"] (sp_nets_of K)) (hp : PureOk (sp_moved K) ["web", "filling", "numbers"] N_moved fun E => t_moved K) : FnOk PP w K mg base CX0 2 (He.ga K "moved") (fdOf K ("moved", none)) ["web", "filling", "numbers"] (sp_moved K) := by
  refine (T.F_moved).ok (CX := CX0) (k := 1) sc_moved hp.1 (fun cdv A outer s H vs Q E hr h => ⟨t_moved K, PSs.nox ?_, hp.2 vs H Q E h⟩)
  exact (pss_cons (ps_set (i := 3) sc_moved.nd rfl (by first | exact Or.inl rfl | exact Or.inr rfl) (pe_call G_nets_of (hr.mono (by decide)) rfl T.g_nets_of T.F_nets_of.kp (bnd_nets_of T) .nil pass0 (pa_cons (pv 0) (pa_cons (pv 2) pa_nil))))
      (pss_one (ps_ret (pe_callTy call_tuple_of (by rfl) T.b_tuple (by decide +kernel) (pa_cons (pe_lc (own := [("width", 4), ("water", 5), ("net", 6)]) (g := (gTup K 3 (gCons (gName 4) (gCons (gName 5) (gCons (gName 6) gNil))))) (tt := tYes) rfl sc_moved.nd (pi_zip3K false false true (by rfl) T.b_zip (pa_cons (pe_fld (pv 0) rfl) (pa_cons (pv 1) (pa_cons (pv 3) pa_nil)))) (blkOk_by (own := [("width", 4), ("water", 5), ("net", 6)]) (N := N_moved) (sc := defScope s_moved) (by decide +kernel)) (fun _ _ _ _ _ => (pg_tup rfl (pgs_cons (pg_name (i := 4) sc_moved.nd rfl (Or.inl rfl)) (pgs_cons (pg_name (i := 5) sc_moved.nd rfl (Or.inl rfl)) (pgs_cons (pg_name (i := 6) sc_moved.nd rfl (Or.inl rfl)) pgs_nil))))) (fun _ _ _ _ _ => pts_nil) (fun _ _ _ _ _ => (pe_ifExp (pt_cmpR op_eq (pv 4) pe_int (nomark _)) pe_int (pe_op op_sub (pv 5) (pv 6))))) pa_nil)))))
theorem ok_levels (T : Txt K mg) (G_check_filling : FnOk PP w K mg base (L2.CX PP w) 5 (He.ga K "check_filling") (fdOf K ("check_filling", none)) ["web", "thing"] (sp_check_filling K)) (G_part_of : FnOk PP w K mg base CX0 3 (He.ga K "part_of") (fdOf K ("part_of", none)) ["top", "width"] (sp_part_of K)) (hp : PureOk (sp_levels K) ["web", "filling"] N_levels fun E => t_levels K E) : FnOk PP w K mg base (L2.CX PP w) 6 (He.ga K "levels") (fdOf K ("levels", none)) ["web", "filling"] (sp_levels K) := by
  refine (T.F_levels).ok (CX := L2.CX PP w) (k := 5) sc_levels hp.1 (fun cdv A outer s H vs Q E hr h => ⟨t_levels K E, ?_, hp.2 vs H Q E h⟩)
  have tk0 : Takes (cxOf (L2.CX PP w) PP w K mg base N_levels "levels" (defScope s_levels) (He.ga K "levels") cdv A outer s H E) (fun cls d _ H => E cls d H) := takes_of rfl rfl rfl rfl
  exact (pss_cons (ps_expr (pe_call G_check_filling (hr.mono (by decide)) rfl T.g_check_filling T.F_check_filling.kp (bnd_check_filling T) .nil (passes_call tk0 (fun _ _ _ _ h => h)) (pa_cons (pv 0) (pa_cons (pv 1) pa_nil))))
      (pss_one (ps_ret (pe_callTy call_tuple_of (by rfl) T.b_tuple (by decide +kernel) (pa_cons (pe_lc (own := [("water", 2), ("width", 3)]) (g := (gTup K 2 (gCons (gName 2) (gCons (gName 3) gNil)))) (tt := tYes) rfl sc_levels.nd (pi_zip2K false false (by rfl) T.b_zip (pa_cons (pv 1) (pa_cons (pe_fld (pv 0) rfl) pa_nil))) (blkOk_by (own := [("water", 2), ("width", 3)]) (N := N_levels) (sc := defScope s_levels) (by decide +kernel)) (fun _ _ _ _ _ => (pg_tup rfl (pgs_cons (pg_name (i := 2) sc_levels.nd rfl (Or.inl rfl)) (pgs_cons (pg_name (i := 3) sc_levels.nd rfl (Or.inl rfl)) pgs_nil)))) (fun _ _ _ _ _ => pts_nil) (fun _ _ _ _ _ => (pe_call G_part_of (hr.mono (by decide)) rfl T.g_part_of T.F_part_of.kp (bnd_part_of T) .nil pass0 (pa_cons (pv 2) (pa_cons (pv 3) pa_nil))))) pa_nil)))))
theorem ok_drops (T : Txt K mg) (G_check_filling : FnOk PP w K mg base (L2.CX PP w) 5 (He.ga K "check_filling") (fdOf K ("check_filling", none)) ["web", "thing"] (sp_check_filling K)) (G_made : FnOk PP w K mg base CX0 2 (He.ga K "made") (fdOf K ("made", none)) ["top", "bottom"] (sp_made K)) (G_drops_in_grains : FnOk PP w K mg base CX0 1 (He.ga K "drops_in_grains") (fdOf K ("drops_in_grains", none)) ["web", "filling"] (sp_drops_in_grains K)) (hp : PureOk (sp_drops K) ["web", "filling"] N_drops fun E => t_drops K E) : FnOk PP w K mg base (L2.CX PP w) 6 (He.ga K "drops") (fdOf K ("drops", none)) ["web", "filling"] (sp_drops K) := by
  refine (T.F_drops).ok (CX := L2.CX PP w) (k := 5) sc_drops hp.1 (fun cdv A outer s H vs Q E hr h => ⟨t_drops K E, ?_, hp.2 vs H Q E h⟩)
  have tk0 : Takes (cxOf (L2.CX PP w) PP w K mg base N_drops "drops" (defScope s_drops) (He.ga K "drops") cdv A outer s H E) (fun cls d _ H => E cls d H) := takes_of rfl rfl rfl rfl
  exact (pss_cons (ps_expr (pe_call G_check_filling (hr.mono (by decide)) rfl T.g_check_filling T.F_check_filling.kp (bnd_check_filling T) .nil (passes_call tk0 (fun _ _ _ _ h => h)) (pa_cons (pv 0) (pa_cons (pv 1) pa_nil))))
      (pss_one (ps_ret (pe_callTy call_tuple_of (by rfl) T.b_tuple (by decide +kernel) (pa_cons (pe_lc (own := [("line", 2), ("number", 3)]) (g := (gTup K 2 (gCons (gName 2) (gCons (gName 3) gNil)))) (tt := tYes) rfl sc_drops.nd (pi_zip2K true true (by rfl) T.b_zip (pa_cons (pe_fld (pv 0) rfl) (pa_cons (pe_call G_drops_in_grains (hr.mono (by decide)) rfl T.g_drops_in_grains T.F_drops_in_grains.kp (bnd_drops_in_grains T) .nil pass0 (pa_cons (pv 0) (pa_cons (pv 1) pa_nil))) pa_nil))) (blkOk_by (own := [("line", 2), ("number", 3)]) (N := N_drops) (sc := defScope s_drops) (by decide +kernel)) (fun _ _ _ _ _ => (pg_tup rfl (pgs_cons (pg_name (i := 2) sc_drops.nd rfl (Or.inl rfl)) (pgs_cons (pg_name (i := 3) sc_drops.nd rfl (Or.inl rfl)) pgs_nil)))) (fun _ _ _ _ _ => pts_nil) (fun _ _ _ _ _ => (pe_call G_made (hr.mono (by decide)) rfl T.g_made T.F_made.kp (bnd_made T) .nil pass0 (pa_cons (pv 3) (pa_cons (pe_ix ix_tup (pv 2) pe_int (fun _ _ => rfl)) pa_nil))))) pa_nil)))))
theorem ok_running (T : Txt K mg) (G_check_filling : FnOk PP w K mg base (L2.CX PP w) 5 (He.ga K "check_filling") (fdOf K ("check_filling", none)) ["web", "thing"] (sp_check_filling K)) (G_check_opening : FnOk PP w K mg base (L2.CX PP w) 5 (He.ga K "check_opening") (fdOf K ("check_opening", none)) ["web", "thing"] (sp_check_opening K)) (G_opened : FnOk PP w K mg base CX0 1 (He.ga K "opened") (fdOf K ("opened", none)) ["numbers", "opening"] (sp_opened K)) (G_flows_of : FnOk PP w K mg base CX0 2 (He.ga K "flows_of") (fdOf K ("flows_of", none)) ["web", "filling"] (sp_flows_of K)) (hp : PureOk (sp_running K) ["web", "filling", "opening"] N_running fun E => t_running K E) : FnOk PP w K mg base (L2.CX PP w) 6 (He.ga K "running") (fdOf K ("running", none)) ["web", "filling", "opening"] (sp_running K) := by
  refine (T.F_running).ok (CX := L2.CX PP w) (k := 5) sc_running hp.1 (fun cdv A outer s H vs Q E hr h => ⟨t_running K E, ?_, hp.2 vs H Q E h⟩)
  have tk0 : Takes (cxOf (L2.CX PP w) PP w K mg base N_running "running" (defScope s_running) (He.ga K "running") cdv A outer s H E) (fun cls d _ H => E cls d H) := takes_of rfl rfl rfl rfl
  exact (pss_cons (ps_expr (pe_call G_check_filling (hr.mono (by decide)) rfl T.g_check_filling T.F_check_filling.kp (bnd_check_filling T) .nil (passes_call tk0 (fun _ _ _ _ h => h)) (pa_cons (pv 0) (pa_cons (pv 1) pa_nil))))
      (pss_cons (ps_expr (pe_call G_check_opening (hr.mono (by decide)) rfl T.g_check_opening T.F_check_opening.kp (bnd_check_opening T) .nil (passes_call tk0 (fun _ _ _ _ h => h)) (pa_cons (pv 0) (pa_cons (pv 2) pa_nil))))
      (pss_one (ps_ret (pe_call G_opened (hr.mono (by decide)) rfl T.g_opened T.F_opened.kp (bnd_opened T) .nil pass0 (pa_cons (pe_call G_flows_of (hr.mono (by decide)) rfl T.g_flows_of T.F_flows_of.kp (bnd_flows_of T) .nil pass0 (pa_cons (pv 0) (pa_cons (pv 1) pa_nil))) (pa_cons (pv 2) pa_nil)))))))
theorem ok_flows (T : Txt K mg) (G_running : FnOk PP w K mg base (L2.CX PP w) 6 (He.ga K "running") (fdOf K ("running", none)) ["web", "filling", "opening"] (sp_running K)) (hp : PureOk (sp_flows K) ["web", "filling", "opening"] N_flows fun E => t_flows K E) : FnOk PP w K mg base (L2.CX PP w) 7 (He.ga K "flows") (fdOf K ("flows", none)) ["web", "filling", "opening"] (sp_flows K) := by
  refine (T.F_flows).ok (CX := L2.CX PP w) (k := 6) sc_flows hp.1 (fun cdv A outer s H vs Q E hr h => ⟨t_flows K E, ?_, hp.2 vs H Q E h⟩)
  have tk0 : Takes (cxOf (L2.CX PP w) PP w K mg base N_flows "flows" (defScope s_flows) (He.ga K "flows") cdv A outer s H E) (fun cls d _ H => E cls d H) := takes_of rfl rfl rfl rfl
  exact (pss_one (ps_ret (pe_callTy call_tuple_of (by rfl) T.b_tuple (by decide +kernel) (pa_cons (pe_call G_running (hr.mono (by decide)) rfl T.g_running T.F_running.kp (bnd_running T) .nil (passes_call tk0 (fun _ _ _ _ h => h)) (pa_cons (pv 0) (pa_cons (pv 1) (pa_cons (pv 2) pa_nil)))) pa_nil))))
theorem ok_tick (T : Txt K mg) (G_moved : FnOk PP w K mg base CX0 2 (He.ga K "moved") (fdOf K ("moved", none)) ["web", "filling", "numbers"] (sp_moved K)) (G_running : FnOk PP w K mg base (L2.CX PP w) 6 (He.ga K "running") (fdOf K ("running", none)) ["web", "filling", "opening"] (sp_running K)) (hp : PureOk (sp_tick K) ["web", "filling", "opening"] N_tick fun E => t_tick K E) : FnOk PP w K mg base (L2.CX PP w) 7 (He.ga K "tick") (fdOf K ("tick", none)) ["web", "filling", "opening"] (sp_tick K) := by
  refine (T.F_tick).ok (CX := L2.CX PP w) (k := 6) sc_tick hp.1 (fun cdv A outer s H vs Q E hr h => ⟨t_tick K E, ?_, hp.2 vs H Q E h⟩)
  have tk0 : Takes (cxOf (L2.CX PP w) PP w K mg base N_tick "tick" (defScope s_tick) (He.ga K "tick") cdv A outer s H E) (fun cls d _ H => E cls d H) := takes_of rfl rfl rfl rfl
  exact (pss_one (ps_ret (pe_call G_moved (hr.mono (by decide)) rfl T.g_moved T.F_moved.kp (bnd_moved T) .nil pass0 (pa_cons (pv 0) (pa_cons (pv 1) (pa_cons (pe_call G_running (hr.mono (by decide)) rfl T.g_running T.F_running.kp (bnd_running T) .nil (passes_call tk0 (fun _ _ _ _ h => h)) (pa_cons (pv 0) (pa_cons (pv 1) (pa_cons (pv 2) pa_nil)))) pa_nil))))))
theorem ok_nets (T : Txt K mg) (G_nets_of : FnOk PP w K mg base CX0 1 (He.ga K "nets_of") (fdOf K ("nets_of", none)) ["web", "numbers"] (sp_nets_of K)) (G_running : FnOk PP w K mg base (L2.CX PP w) 6 (He.ga K "running") (fdOf K ("running", none)) ["web", "filling", "opening"] (sp_running K)) (hp : PureOk (sp_nets K) ["web", "filling", "opening"] N_nets fun E => t_nets K E) : FnOk PP w K mg base (L2.CX PP w) 7 (He.ga K "nets") (fdOf K ("nets", none)) ["web", "filling", "opening"] (sp_nets K) := by
  refine (T.F_nets).ok (CX := L2.CX PP w) (k := 6) sc_nets hp.1 (fun cdv A outer s H vs Q E hr h => ⟨t_nets K E, ?_, hp.2 vs H Q E h⟩)
  have tk0 : Takes (cxOf (L2.CX PP w) PP w K mg base N_nets "nets" (defScope s_nets) (He.ga K "nets") cdv A outer s H E) (fun cls d _ H => E cls d H) := takes_of rfl rfl rfl rfl
  exact (pss_one (ps_ret (pe_callTy call_tuple_of (by rfl) T.b_tuple (by decide +kernel) (pa_cons (pe_call G_nets_of (hr.mono (by decide)) rfl T.g_nets_of T.F_nets_of.kp (bnd_nets_of T) .nil pass0 (pa_cons (pv 0) (pa_cons (pe_call G_running (hr.mono (by decide)) rfl T.g_running T.F_running.kp (bnd_running T) .nil (passes_call tk0 (fun _ _ _ _ h => h)) (pa_cons (pv 0) (pa_cons (pv 1) (pa_cons (pv 2) pa_nil)))) pa_nil))) pa_nil))))
theorem ok_are_widths (T : Txt K mg) (G_is_width : FnOk PP w K mg base CX0 3 (He.ga K "is_width") (fdOf K ("is_width", none)) ["thing"] (sp_is_width)) (hp : PureOk (sp_are_widths K) ["thing"] N_are_widths fun E => t_are_widths K) : FnOk PP w K mg base CX0 4 (He.ga K "are_widths") (fdOf K ("are_widths", none)) ["thing"] (sp_are_widths K) := by
  refine (T.F_are_widths).ok (CX := CX0) (k := 3) sc_are_widths hp.1 (fun cdv A outer s H vs Q E hr h => ⟨t_are_widths K, PSs.nox ?_, hp.2 vs H Q E h⟩)
  exact (pss_cons (ps_if (PW.pt (pw_or (pt_not (pt_val (pe_callB call_isi (by rfl) T.b_isinstance (by decide +kernel) (pa_cons (pv 0) (pa_cons (pe_bltn (v := .ty "tuple") (by rfl) T.b_tuple (by decide +kernel) rfl) pa_nil))))) (pw_or1 (pt_not (pt_chain op_le op_le pe_int (pe_callB call_len_seq (by rfl) T.b_len (by decide +kernel) (pa_cons (pv 0) pa_nil)) (pe_globI (by rfl) T.c_MOST_VESSELS)))))) (pss_one (ps_ret pe_bl)) pss_nil)
      (pss_one (ps_ret (pe_callB (cr_all rfl) (by rfl) T.b_all (by decide +kernel) (pa_cons (pe_lc (own := [("item", 1)]) (g := (gName 1)) (tt := tYes) rfl sc_are_widths.nd (pi_tup (pv 0)) (blkOk_by (own := [("item", 1)]) (N := N_are_widths) (sc := defScope s_are_widths) (by decide +kernel)) (fun _ _ _ _ _ => (pg_name (i := 1) sc_are_widths.nd rfl (Or.inl rfl))) (fun _ _ _ _ _ => pts_nil) (fun _ _ _ _ _ => (pe_call G_is_width (hr.mono (by decide)) rfl T.g_is_width T.F_is_width.kp (bnd_is_width T) .nil pass0 (pa_cons (pv 1) pa_nil)))) pa_nil)))))
theorem ok_is_pipe (T : Txt K mg) (G_is_between : FnOk PP w K mg base CX0 2 (He.ga K "is_between") (fdOf K ("is_between", none)) ["thing", "least", "most"] (sp_is_between K)) (G_is_list : FnOk PP w K mg base CX0 4 (He.ga K "is_list") (fdOf K ("is_list", none)) ["thing"] (sp_is_list K)) (G_is_triple : FnOk PP w K mg base CX0 1 (He.ga K "is_triple") (fdOf K ("is_triple", none)) ["thing"] (sp_is_triple K)) (hp : PureOk (sp_is_pipe K) ["thing", "many"] N_is_pipe fun E => t_is_pipe K) : FnOk PP w K mg base CX0 5 (He.ga K "is_pipe") (fdOf K ("is_pipe", none)) ["thing", "many"] (sp_is_pipe K) := by
  refine (T.F_is_pipe).ok (CX := CX0) (k := 4) sc_is_pipe hp.1 (fun cdv A outer s H vs Q E hr h => ⟨t_is_pipe K, PSs.nox ?_, hp.2 vs H Q E h⟩)
  exact (pss_cons (ps_if (PW.pt (pw_or (pt_not (pt_val (pe_call G_is_triple (hr.mono (by decide)) rfl T.g_is_triple T.F_is_triple.kp (bnd_is_triple T) .nil pass0 (pa_cons (pv 0) pa_nil)))) (pw_or1 (pt_not (pt_val (pe_call G_is_between (hr.mono (by decide)) rfl T.g_is_between T.F_is_between.kp (bnd_is_between T) .nil pass0 (pa_cons (pe_ix ix_tup (pv 0) pe_int (fun _ _ => rfl)) (pa_cons pe_int (pa_cons (pe_op op_sub (pv 1) pe_int) pa_nil))))))))) (pss_one (ps_ret pe_bl)) pss_nil)
      (pss_one (ps_ret (pe_and (pe_call G_is_between (hr.mono (by decide)) rfl T.g_is_between T.F_is_between.kp (bnd_is_between T) .nil pass0 (pa_cons (pe_ix ix_tup (pv 0) pe_int (fun _ _ => rfl)) (pa_cons (pe_op op_add (pe_ix ix_tup (pv 0) pe_int (fun _ _ => rfl)) pe_int) (pa_cons (pe_op op_sub (pv 1) pe_int) pa_nil)))) (pe_one (pe_call G_is_list (hr.mono (by decide)) rfl T.g_is_list T.F_is_list.kp (bnd_is_list T) .nil pass0 (pa_cons (pe_ix ix_tup (pv 0) pe_int (fun _ _ => rfl)) pa_nil)))))))
theorem ok_gauge (T : Txt K mg) (G_parts_of_grain : FnOk PP w K mg base CX0 3 (He.ga K "parts_of_grain") (fdOf K ("parts_of_grain", none)) ["width", "other"] (sp_parts_of_grain)) (G_in_grains : FnOk PP w K mg base CX0 3 (He.ga K "in_grains") (fdOf K ("in_grains", none)) ["steps", "grains"] (sp_in_grains K)) (hp : PureOk (sp_gauge K) ["widths", "pipe"] N_gauge fun E => t_gauge K) : FnOk PP w K mg base CX0 4 (He.ga K "gauge") (fdOf K ("gauge", none)) ["widths", "pipe"] (sp_gauge K) := by
  refine (T.F_gauge).ok (CX := CX0) (k := 3) sc_gauge hp.1 (fun cdv A outer s H vs Q E hr h => ⟨t_gauge K, PSs.nox ?_, hp.2 vs H Q E h⟩)
  exact (pss_cons (ps_asg (pv 1) (pg_tup rfl (pgs_cons (pg_name (i := 2) sc_gauge.nd rfl (by first | exact Or.inl rfl | exact Or.inr rfl)) (pgs_cons (pg_name (i := 3) sc_gauge.nd rfl (by first | exact Or.inl rfl | exact Or.inr rfl)) (pgs_cons (pg_name (i := 4) sc_gauge.nd rfl (by first | exact Or.inl rfl | exact Or.inr rfl)) pgs_nil)))))
      (pss_cons (ps_set (i := 5) sc_gauge.nd rfl (by first | exact Or.inl rfl | exact Or.inr rfl) (pe_call G_parts_of_grain (hr.mono (by decide)) rfl T.g_parts_of_grain T.F_parts_of_grain.kp (bnd_parts_of_grain T) .nil pass0 (pa_cons (pe_ix ix_tup (pv 0) (pv 2) (fun _ _ => rfl)) (pa_cons (pe_ix ix_tup (pv 0) (pv 3) (fun _ _ => rfl)) pa_nil))))
      (pss_cons (ps_setLc (i := 6) (own := [("end", 7)]) (g := (gName 7)) (tt := tYes) rfl sc_gauge.nd rfl rfl (sw_true rfl rfl rfl (by decide +kernel)) (pi_tup (pe_tup (pa_cons (pv 2) (pa_cons (pv 3) pa_nil)))) (blkOk_by (own := [("end", 7)]) (N := N_gauge) (sc := defScope s_gauge) (by decide +kernel)) (fun _ _ _ _ _ => (pg_name (i := 7) sc_gauge.nd rfl (Or.inl rfl))) (fun _ _ _ _ _ => pts_nil) (fun _ _ _ _ _ => (pe_ifExp (pt_cmpR op_eq (pe_ix ix_tup (pv 0) (pv 7) (fun _ _ => rfl)) pe_int (nomark _)) pe_int (pe_op op_fdiv (pv 5) (pe_ix ix_tup (pv 0) (pv 7) (fun _ _ => rfl))))))
      (pss_one (ps_ret (pe_tup (pa_cons (pv 2) (pa_cons (pv 3) (pa_cons (pe_ix ix_list (pv 6) pe_int (fun _ _ => rfl)) (pa_cons (pe_ix ix_list (pv 6) pe_int (fun _ _ => rfl)) (pa_cons (pe_call G_in_grains (hr.mono (by decide)) rfl T.g_in_grains T.F_in_grains.kp (bnd_in_grains T) .nil pass0 (pa_cons (pv 4) (pa_cons (pv 5) pa_nil))) (pa_cons (pv 5) pa_nil))))))))))))
theorem ok__law_source (T : Txt K mg) (hp : PureOk (sp__law_source K) ["_law_script"] N__law_source fun E => t__law_source K) : FnOk PP w K mg base CX0 1 (He.ga K "_law_source") (fdOf K ("_law_source", none)) ["_law_script"] (sp__law_source K) := by
  refine (T.F__law_source).ok (CX := CX0) (k := 0) sc__law_source hp.1 (fun cdv A outer s H vs Q E hr h => ⟨t__law_source K, PSs.nox ?_, hp.2 vs H Q E h⟩)
  exact (pss_cons (ps_set (i := 1) sc__law_source.nd rfl (by first | exact Or.inl rfl | exact Or.inr rfl) pe_int)
      (pss_cons (ps_for PassesOwn.never rfl (pi_list (pv 0)) (pg_name (i := 2) sc__law_source.nd rfl (by first | exact Or.inl rfl | exact Or.inr rfl)) (pss_one (ps_set (i := 1) sc__law_source.nd rfl (by first | exact Or.inl rfl | exact Or.inr rfl) (pe_op op_mod (pe_callTy call_int1 (by rfl) T.b_int (by decide +kernel) (pa_cons (pe_op op_add (pe_op op_mul (pv 1) pe_int) (pv 2)) pa_nil)) pe_int))))
      (pss_one (ps_ret (pe_lst (pa_cons (pe_callTy call_list_of (by rfl) T.b_list (by decide +kernel) (pa_cons (pv 0) pa_nil)) (pa_cons pe_int (pa_cons pe_int (pa_cons pe_int (pa_cons (pv 1) pa_nil))))))))))
theorem ok__law_mixed (T : Txt K mg) (hp : PureOk (sp__law_mixed) ["_law_number", "_law_turn"] N__law_mixed fun E => t__law_mixed K) : FnOk PP w K mg base CX0 1 (He.ga K "_law_mixed") (fdOf K ("_law_mixed", none)) ["_law_number", "_law_turn"] (sp__law_mixed) := by
  refine (T.F__law_mixed).ok (CX := CX0) (k := 0) sc__law_mixed hp.1 (fun cdv A outer s H vs Q E hr h => ⟨t__law_mixed K, PSs.nox ?_, hp.2 vs H Q E h⟩)
  exact (pss_cons (ps_set (i := 2) sc__law_mixed.nd rfl (by first | exact Or.inl rfl | exact Or.inr rfl) (pe_op op_mod (pe_callTy call_int1 (by rfl) T.b_int (by decide +kernel) (pa_cons (pe_op op_mul (pe_op op_mod (pe_callTy call_int1 (by rfl) T.b_int (by decide +kernel) (pa_cons (pe_op op_add (pe_op op_add (pv 0) (pe_op op_mul pe_int (pv 1))) pe_int) pa_nil)) pe_int) pe_int) pa_nil)) pe_int))
      (pss_cons (ps_set (i := 2) sc__law_mixed.nd rfl (by first | exact Or.inl rfl | exact Or.inr rfl) (pe_op op_mod (pe_callTy call_int1 (by rfl) T.b_int (by decide +kernel) (pa_cons (pe_op op_mul (pv 2) (pe_op op_add (pe_op op_fdiv (pv 2) pe_int) pe_int)) pa_nil)) pe_int))
      (pss_one (ps_ret (pe_op op_mod (pe_callTy call_int1 (by rfl) T.b_int (by decide +kernel) (pa_cons (pe_op op_mul (pv 2) (pe_op op_add (pe_op op_fdiv (pv 2) pe_int) pe_int)) pa_nil)) pe_int)))))
theorem ok__law_draw (T : Txt K mg) (G__law_mixed : FnOk PP w K mg base CX0 1 (He.ga K "_law_mixed") (fdOf K ("_law_mixed", none)) ["_law_number", "_law_turn"] (sp__law_mixed)) (hp : PureOk (sp__law_draw K) ["_law_source_here", "_law_many"] N__law_draw fun E => t__law_draw K) : FnOk PP w K mg base CX0 2 (He.ga K "_law_draw") (fdOf K ("_law_draw", none)) ["_law_source_here", "_law_many"] (sp__law_draw K) := by
  refine (T.F__law_draw).ok (CX := CX0) (k := 1) sc__law_draw hp.1 (fun cdv A outer s H vs Q E hr h => ⟨t__law_draw K, PSs.nox ?_, hp.2 vs H Q E h⟩)
  exact (pss_cons (ps_asg (pe_op op_add (pe_ix ix_list (pv 0) pe_int (fun _ _ => rfl)) pe_int) (pg_sub (pv 0) pe_int set_list))
      (pss_cons (ps_if (pt_cmpR op_gt (pe_ix ix_list (pv 0) pe_int (fun _ _ => rfl)) pe_int (nomark _)) (pss_cons (ps_set (i := 2) sc__law_draw.nd rfl (by first | exact Or.inl rfl | exact Or.inr rfl) (pe_ix ix_list (pv 0) pe_int (fun _ _ => rfl)))
      (pss_cons (ps_asg (pe_op op_fdivW (pv 2) (pv 1)) (pg_sub (pv 0) pe_int set_list))
      (pss_one (ps_ret (pe_op op_mod (pe_callTy call_int1 (by rfl) T.b_int (by decide +kernel) (pa_cons (pv 2) pa_nil)) (pv 1)))))) pss_nil)
      (pss_cons (ps_if (pt_cmpR op_lt (pe_ix ix_list (pv 0) pe_int (fun _ _ => rfl)) (pe_callB call_len_seq (by rfl) T.b_len (by decide +kernel) (pa_cons (pe_ix ix_list (pv 0) pe_int (fun _ _ => rfl)) pa_nil)) (nomark _)) (pss_cons (ps_set (i := 3) sc__law_draw.nd rfl (by first | exact Or.inl rfl | exact Or.inr rfl) (pe_ix ix_list (pe_ix ix_list (pv 0) pe_int (fun _ _ => rfl)) (pe_ix ix_list (pv 0) pe_int (fun _ _ => rfl)) (fun _ _ => rfl)))
      (pss_cons (ps_asg (pe_op op_add (pe_ix ix_list (pv 0) pe_int (fun _ _ => rfl)) pe_int) (pg_sub (pv 0) pe_int set_list))
      (pss_cons (ps_set (i := 2) sc__law_draw.nd rfl (by first | exact Or.inl rfl | exact Or.inr rfl) (pe_op op_add (pe_op op_mul pe_int (pe_callB call_abs (by rfl) T.b_abs (by decide +kernel) (pa_cons (pv 3) pa_nil))) (pe_callTy call_int1 (by rfl) T.b_int (by decide +kernel) (pa_cons (pe_cmpR op_lt (pv 3) pe_int (nomark _)) pa_nil))))
      (pss_cons (ps_if (pt_cmpR op_ge (pv 2) (pe_op op_pow pe_int pe_int) (nomark _)) (pss_cons (ps_asg (pe_op op_fdivW (pv 2) (pv 1)) (pg_sub (pv 0) pe_int set_list))
      (pss_one (ps_ret (pe_op op_mod (pe_callTy call_int1 (by rfl) T.b_int (by decide +kernel) (pa_cons (pv 2) pa_nil)) (pv 1))))) pss_nil)
      (pss_one (ps_ret (pe_op op_mod (pe_callTy call_int1 (by rfl) T.b_int (by decide +kernel) (pa_cons (pe_op op_fdivW (pe_call G__law_mixed (hr.mono (by decide)) rfl T.g__law_mixed T.F__law_mixed.kp (bnd__law_mixed T) .nil pass0 (pa_cons (pv 2) (pa_cons (pe_ix ix_list (pv 0) pe_int (fun _ _ => rfl)) pa_nil))) pe_int) pa_nil)) (pv 1)))))))) pss_nil)
      (pss_one (ps_ret (pe_op op_mod (pe_callTy call_int1 (by rfl) T.b_int (by decide +kernel) (pa_cons (pe_op op_fdivW (pe_call G__law_mixed (hr.mono (by decide)) rfl T.g__law_mixed T.F__law_mixed.kp (bnd__law_mixed T) .nil pass0 (pa_cons (pe_ix ix_list (pv 0) pe_int (fun _ _ => rfl)) (pa_cons (pe_ix ix_list (pv 0) pe_int (fun _ _ => rfl)) pa_nil))) pe_int) pa_nil)) (pv 1)))))))
theorem ok__law_pick (T : Txt K mg) (G__law_draw : FnOk PP w K mg base CX0 2 (He.ga K "_law_draw") (fdOf K ("_law_draw", none)) ["_law_source_here", "_law_many"] (sp__law_draw K)) (hp : PureOk (sp__law_pick K) ["_law_source_here", "_law_row"] N__law_pick fun E => t__law_pick K) : FnOk PP w K mg base CX0 3 (He.ga K "_law_pick") (fdOf K ("_law_pick", none)) ["_law_source_here", "_law_row"] (sp__law_pick K) := by
  refine (T.F__law_pick).ok (CX := CX0) (k := 2) sc__law_pick hp.1 (fun cdv A outer s H vs Q E hr h => ⟨t__law_pick K, PSs.nox ?_, hp.2 vs H Q E h⟩)
  exact (pss_one (ps_ret (pe_ix ix_list (pv 1) (pe_call G__law_draw (hr.mono (by decide)) rfl T.g__law_draw T.F__law_draw.kp (bnd__law_draw T) .nil pass0 (pa_cons (pv 0) (pa_cons (pe_callB call_len_seq (by rfl) T.b_len (by decide +kernel) (pa_cons (pv 1) pa_nil)) pa_nil))) (fun _ _ => rfl))))
theorem ok__law_divisor (T : Txt K mg) (hp : PureOk (sp__law_divisor) ["_law_one", "_law_other"] N__law_divisor fun E => t__law_divisor K) : FnOk PP w K mg base CX0 1 (He.ga K "_law_divisor") (fdOf K ("_law_divisor", none)) ["_law_one", "_law_other"] (sp__law_divisor) := by
  refine (T.F__law_divisor).ok (CX := CX0) (k := 0) sc__law_divisor hp.1 (fun cdv A outer s H vs Q E hr h => ⟨t__law_divisor K, PSs.nox ?_, hp.2 vs H Q E h⟩)
  exact (pss_cons (ps_par (i := 0) (j := 1) rfl sc__law_divisor.nd rfl rfl (by decide) rfl rfl (pa_cons (pe_callB call_abs (by rfl) T.b_abs (by decide +kernel) (pa_cons (pv 0) pa_nil)) (pa_cons (pe_callB call_abs (by rfl) T.b_abs (by decide +kernel) (pa_cons (pv 1) pa_nil)) pa_nil)) (by rfl))
      (pss_cons (ps_for PassesOwn.never rfl (pi_range1 (by rfl) T.b_range (pa_cons pe_int pa_nil)) (pg_name (i := 2) sc__law_divisor.nd rfl (by first | exact Or.inl rfl | exact Or.inr rfl)) (pss_cons (ps_if (pt_cmpR op_eq (pv 1) pe_int (nomark _)) (pss_one ps_break) pss_nil)
      (pss_one (ps_par (i := 0) (j := 1) rfl sc__law_divisor.nd rfl rfl (by decide) rfl rfl (pa_cons (pv 1) (pa_cons (pe_op op_mod (pe_callTy call_int1 (by rfl) T.b_int (by decide +kernel) (pa_cons (pv 0) pa_nil)) (pv 1)) pa_nil)) (by rfl)))))
      (pss_one (ps_ret (pv 0)))))
theorem ok__law_made (T : Txt K mg) (G__law_divisor : FnOk PP w K mg base CX0 1 (He.ga K "_law_divisor") (fdOf K ("_law_divisor", none)) ["_law_one", "_law_other"] (sp__law_divisor)) (hp : PureOk (sp__law_made K) ["_law_top", "_law_bottom"] N__law_made fun E => t__law_made K) : FnOk PP w K mg base CX0 2 (He.ga K "_law_made") (fdOf K ("_law_made", none)) ["_law_top", "_law_bottom"] (sp__law_made K) := by
  refine (T.F__law_made).ok (CX := CX0) (k := 1) sc__law_made hp.1 (fun cdv A outer s H vs Q E hr h => ⟨t__law_made K, PSs.nox ?_, hp.2 vs H Q E h⟩)
  exact (pss_cons (ps_set (i := 2) sc__law_made.nd rfl (by first | exact Or.inl rfl | exact Or.inr rfl) (pe_call G__law_divisor (hr.mono (by decide)) rfl T.g__law_divisor T.F__law_divisor.kp (bnd__law_divisor T) .nil pass0 (pa_cons (pv 0) (pa_cons (pv 1) pa_nil))))
      (pss_one (ps_ret (pe_tup (pa_cons (pe_op op_fdiv (pv 0) (pv 2)) (pa_cons (pe_op op_fdiv (pv 1) (pv 2)) pa_nil))))))
theorem ok__law_added (T : Txt K mg) (G__law_made : FnOk PP w K mg base CX0 2 (He.ga K "_law_made") (fdOf K ("_law_made", none)) ["_law_top", "_law_bottom"] (sp__law_made K)) (hp : PureOk (sp__law_added K) ["_law_one", "_law_other"] N__law_added fun E => t__law_added K) : FnOk PP w K mg base CX0 3 (He.ga K "_law_added") (fdOf K ("_law_added", none)) ["_law_one", "_law_other"] (sp__law_added K) := by
  refine (T.F__law_added).ok (CX := CX0) (k := 2) sc__law_added hp.1 (fun cdv A outer s H vs Q E hr h => ⟨t__law_added K, PSs.nox ?_, hp.2 vs H Q E h⟩)
  exact (pss_one (ps_ret (pe_call G__law_made (hr.mono (by decide)) rfl T.g__law_made T.F__law_made.kp (bnd__law_made T) .nil pass0 (pa_cons (pe_op op_add (pe_op op_mul (pe_ix ix_tup (pv 0) pe_int (fun _ _ => rfl)) (pe_ix ix_tup (pv 1) pe_int (fun _ _ => rfl))) (pe_op op_mul (pe_ix ix_tup (pv 1) pe_int (fun _ _ => rfl)) (pe_ix ix_tup (pv 0) pe_int (fun _ _ => rfl)))) (pa_cons (pe_op op_mul (pe_ix ix_tup (pv 0) pe_int (fun _ _ => rfl)) (pe_ix ix_tup (pv 1) pe_int (fun _ _ => rfl))) pa_nil)))))
theorem ok__law_same (T : Txt K mg) (n : Nat) (G__law_same : FnOk PP w K mg base CX0 n (He.ga K "_law_same") (fdOf K ("_law_same", none)) ["_law_actual", "_law_expected"] (sp__law_same K n)) (hp : PureOk (sp__law_same K (n + 1)) ["_law_actual", "_law_expected"] N__law_same fun E => t__law_same K n) : FnOk PP w K mg base CX0 (n + 1) (He.ga K "_law_same") (fdOf K ("_law_same", none)) ["_law_actual", "_law_expected"] (sp__law_same K (n + 1)) := by
  refine (T.F__law_same).ok (CX := CX0) (k := n) sc__law_same hp.1 (fun cdv A outer s H vs Q E hr h => ⟨t__law_same K n, PSs.nox ?_, hp.2 vs H Q E h⟩)
  exact (pss_cons (ps_if (pt_cmpR op_isN (pv 1) pe_non (nomark _)) (pss_one (ps_ret (pe_cmpR op_isN (pv 0) pe_non (nomark _)))) pss_nil)
      (pss_cons (ps_if (pt_val (pe_callB call_isi (by rfl) T.b_isinstance (by decide +kernel) (pa_cons (pv 1) (pa_cons (pe_bltn (v := .ty "bool") (by rfl) T.b_bool (by decide +kernel) rfl) pa_nil)))) (pss_one (ps_ret (pe_and (pe_callB call_isi (by rfl) T.b_isinstance (by decide +kernel) (pa_cons (pv 0) (pa_cons (pe_bltn (v := .ty "bool") (by rfl) T.b_bool (by decide +kernel) rfl) pa_nil))) (pe_one (pe_cmpR op_eq (pv 0) (pv 1) (nomark _)))))) pss_nil)
      (pss_cons (ps_if (pt_val (pe_callB call_isi (by rfl) T.b_isinstance (by decide +kernel) (pa_cons (pv 1) (pa_cons (pe_bltn (v := .ty "int") (by rfl) T.b_int (by decide +kernel) rfl) pa_nil)))) (pss_one (ps_ret (pe_and (pe_callB call_isi (by rfl) T.b_isinstance (by decide +kernel) (pa_cons (pv 0) (pa_cons (pe_bltn (v := .ty "int") (by rfl) T.b_int (by decide +kernel) rfl) pa_nil))) (pe_and (pe_not (pe_callB call_isi (by rfl) T.b_isinstance (by decide +kernel) (pa_cons (pv 0) (pa_cons (pe_bltn (v := .ty "bool") (by rfl) T.b_bool (by decide +kernel) rfl) pa_nil)))) (pe_one (pe_cmpR op_eq (pv 0) (pv 1) (nomark _))))))) pss_nil)
      (pss_cons (ps_if (pt_val (pe_callB call_isi (by rfl) T.b_isinstance (by decide +kernel) (pa_cons (pv 1) (pa_cons (pe_bltn (v := .ty "str") (by rfl) T.b_str (by decide +kernel) rfl) pa_nil)))) (pss_one (ps_ret (pe_and (pe_callB call_isi (by rfl) T.b_isinstance (by decide +kernel) (pa_cons (pv 0) (pa_cons (pe_bltn (v := .ty "str") (by rfl) T.b_str (by decide +kernel) rfl) pa_nil))) (pe_one (pe_cmpR op_eq (pv 0) (pv 1) (nomark _)))))) pss_nil)
      (pss_cons (ps_if (PW.pt (pw_and (pt_val (pe_callB call_isi (by rfl) T.b_isinstance (by decide +kernel) (pa_cons (pv 1) (pa_cons (pe_bltn (v := .ty "tuple") (by rfl) T.b_tuple (by decide +kernel) rfl) pa_nil)))) (pw_and1 (pt_not (pt_val (pe_callB call_isi (by rfl) T.b_isinstance (by decide +kernel) (pa_cons (pv 0) (pa_cons (pe_bltn (v := .ty "tuple") (by rfl) T.b_tuple (by decide +kernel) rfl) pa_nil)))))))) (pss_one (ps_ret pe_bl)) pss_nil)
      (pss_cons (ps_if (PW.pt (pw_and (pt_val (pe_callB call_isi (by rfl) T.b_isinstance (by decide +kernel) (pa_cons (pv 1) (pa_cons (pe_bltn (v := .ty "list") (by rfl) T.b_list (by decide +kernel) rfl) pa_nil)))) (pw_and1 (pt_not (pt_val (pe_callB call_isi (by rfl) T.b_isinstance (by decide +kernel) (pa_cons (pv 0) (pa_cons (pe_bltn (v := .ty "list") (by rfl) T.b_list (by decide +kernel) rfl) pa_nil)))))))) (pss_one (ps_ret pe_bl)) pss_nil)
      (pss_cons (ps_if (pt_cmpR op_ne (pe_callB call_len_seq (by rfl) T.b_len (by decide +kernel) (pa_cons (pv 0) pa_nil)) (pe_callB call_len_seq (by rfl) T.b_len (by decide +kernel) (pa_cons (pv 1) pa_nil)) (nomark _)) (pss_one (ps_ret pe_bl)) pss_nil)
      (pss_cons (ps_for PassesOwn.never rfl (pi_range1 (by rfl) T.b_range (pa_cons (pe_callB call_len_seq (by rfl) T.b_len (by decide +kernel) (pa_cons (pv 1) pa_nil)) pa_nil)) (pg_name (i := 2) sc__law_same.nd rfl (by first | exact Or.inl rfl | exact Or.inr rfl)) (pss_one (ps_if (pt_not (pt_val (pe_call G__law_same (hr.mono (Nat.le_refl _)) rfl T.g__law_same T.F__law_same.kp (bnd__law_same T) .nil pass0 (pa_cons (pe_ix ix_tup (pv 0) (pv 2) (fun _ _ => rfl)) (pa_cons (pe_ix ix_tup (pv 1) (pv 2) (fun _ _ => rfl)) pa_nil))))) (pss_one (ps_ret pe_bl)) pss_nil)))
      (pss_one (ps_ret pe_bl))))))))))
theorem ok__law_met (T : Txt K mg) (G__law_same : FnOk PP w K mg base CX0 4 (He.ga K "_law_same") (fdOf K ("_law_same", none)) ["_law_actual", "_law_expected"] (sp__law_same K 4)) (hp : PureOk (sp__law_met K) ["_law_found", "_law_due"] N__law_met fun E => t__law_met K) : FnOk PP w K mg base CX0 9 (He.ga K "_law_met") (fdOf K ("_law_met", none)) ["_law_found", "_law_due"] (sp__law_met K) := by
  refine (T.F__law_met).ok (CX := CX0) (k := 8) sc__law_met hp.1 (fun cdv A outer s H vs Q E hr h => ⟨t__law_met K, PSs.nox ?_, hp.2 vs H Q E h⟩)
  exact (pss_cons (ps_if (pt_cmpR op_ne (pe_ix ix_tup (pv 0) pe_int (fun _ _ => rfl)) (pe_ix ix_tup (pv 1) pe_int (fun _ _ => rfl)) (nomark _)) (pss_one (ps_ret pe_bl)) pss_nil)
      (pss_cons (ps_if (PW.pt (pw_and (pt_cmpR op_eq (pe_ix ix_tup (pv 0) pe_int (fun _ _ => rfl)) pe_str (nomark _)) (pw_and1 (pt_cmpR (op_neD hr.units) (pe_ix ix_tup (pv 0) pe_int (fun _ _ => rfl)) (pe_ix ix_tup (pv 1) pe_int (fun _ _ => rfl)) (nomark _))))) (pss_one (ps_ret pe_bl)) pss_nil)
      (pss_one (ps_ret (pe_call G__law_same (hr.mono (by decide)) rfl T.g__law_same T.F__law_same.kp (bnd__law_same T) .nil pass0 (pa_cons (pe_ix ix_tup (pv 0) (pe_un un_neg pe_int) (fun _ _ => rfl)) (pa_cons (pe_ix ix_tup (pv 1) (pe_un un_neg pe_int) (fun _ _ => rfl)) pa_nil)))))))
theorem ok__law_integer (T : Txt K mg) (hp : PureOk (sp__law_integer K) ["_law_thing"] N__law_integer fun E => t__law_integer K) : FnOk PP w K mg base CX0 1 (He.ga K "_law_integer") (fdOf K ("_law_integer", none)) ["_law_thing"] (sp__law_integer K) := by
  refine (T.F__law_integer).ok (CX := CX0) (k := 0) sc__law_integer hp.1 (fun cdv A outer s H vs Q E hr h => ⟨t__law_integer K, PSs.nox ?_, hp.2 vs H Q E h⟩)
  exact (pss_one (ps_ret (pe_and (pe_callB call_isi (by rfl) T.b_isinstance (by decide +kernel) (pa_cons (pv 0) (pa_cons (pe_bltn (v := .ty "int") (by rfl) T.b_int (by decide +kernel) rfl) pa_nil))) (pe_one (pe_not (pe_callB call_isi (by rfl) T.b_isinstance (by decide +kernel) (pa_cons (pv 0) (pa_cons (pe_bltn (v := .ty "bool") (by rfl) T.b_bool (by decide +kernel) rfl) pa_nil))))))))
theorem ok__law_deep (T : Txt K mg) (hp : PureOk (sp__law_deep K) ["_law_many"] N__law_deep fun E => t__law_deep K) : FnOk PP w K mg base CX0 1 (He.ga K "_law_deep") (fdOf K ("_law_deep", none)) ["_law_many"] (sp__law_deep K) := by
  refine (T.F__law_deep).ok (CX := CX0) (k := 0) sc__law_deep hp.1 (fun cdv A outer s H vs Q E hr h => ⟨t__law_deep K, PSs.nox ?_, hp.2 vs H Q E h⟩)
  exact (pss_cons (ps_set (i := 1) sc__law_deep.nd rfl (by first | exact Or.inl rfl | exact Or.inr rfl) (pe_tup pa_nil))
      (pss_cons (ps_for PassesOwn.never rfl (pi_range1 (by rfl) T.b_range (pa_cons (pv 0) pa_nil)) (pg_name (i := 2) sc__law_deep.nd rfl (by first | exact Or.inl rfl | exact Or.inr rfl)) (pss_one (ps_set (i := 1) sc__law_deep.nd rfl (by first | exact Or.inl rfl | exact Or.inr rfl) (pe_tup (pa_cons (pv 1) pa_nil)))))
      (pss_one (ps_ret (pv 1)))))
theorem ok__law_strange (T : Txt K mg) (G__law_pick : FnOk PP w K mg base CX0 3 (He.ga K "_law_pick") (fdOf K ("_law_pick", none)) ["_law_source_here", "_law_row"] (sp__law_pick K)) (G__law_deep : FnOk PP w K mg base CX0 1 (He.ga K "_law_deep") (fdOf K ("_law_deep", none)) ["_law_many"] (sp__law_deep K)) (G_init : FnOk PP w K mg base CX0 6 (He.ma K (He.ga K "Web") "__init__") (fdOf K ("Web", some "__init__")) ["self", "widths", "pipes"] (sp_init K)) (hp : PureOk (sp__law_strange K) ["_law_source_here"] N__law_strange fun E => t__law_strange K) : FnOk PP w K mg base CX0 8 (He.ga K "_law_strange") (fdOf K ("_law_strange", none)) ["_law_source_here"] (sp__law_strange K) := by
  refine (T.F__law_strange).ok (CX := CX0) (k := 7) sc__law_strange hp.1 (fun cdv A outer s H vs Q E hr h => ⟨t__law_strange K, PSs.nox ?_, hp.2 vs H Q E h⟩)
  exact (pss_cons (ps_set (i := 1) sc__law_strange.nd rfl (by first | exact Or.inl rfl | exact Or.inr rfl) (pe_lst (pa_cons pe_non (pa_cons pe_bl (pa_cons pe_bl (pa_cons pe_str (pa_cons pe_str (pa_cons pe_str (pa_cons (pe_lst pa_nil) (pa_cons (pe_lst (pa_cons pe_int pa_nil)) (pa_cons (pe_lst (pa_cons (pe_tup (pa_cons pe_int (pa_cons pe_int pa_nil))) pa_nil)) (pa_cons (pe_tup pa_nil) (pa_cons (pe_tup (pa_cons pe_int pa_nil)) (pa_cons (pe_tup (pa_cons pe_int (pa_cons pe_int (pa_cons pe_int pa_nil)))) (pa_cons (pe_tup (pa_cons pe_int (pa_cons pe_int pa_nil))) (pa_cons (pe_tup (pa_cons pe_int (pa_cons pe_int pa_nil))) (pa_cons (pe_tup (pa_cons pe_int (pa_cons (pe_un un_neg pe_int) pa_nil))) (pa_cons (pe_tup (pa_cons pe_int (pa_cons pe_int pa_nil))) (pa_cons (pe_tup (pa_cons (pe_un un_neg pe_int) (pa_cons pe_int pa_nil))) pa_nil)))))))))))))))))))
      (pss_cons (ps_set (i := 1) sc__law_strange.nd rfl (by first | exact Or.inl rfl | exact Or.inr rfl) (pe_op op_cat (pv 1) (pe_lst (pa_cons (pe_tup (pa_cons pe_bl (pa_cons pe_int pa_nil))) (pa_cons (pe_tup (pa_cons pe_int (pa_cons pe_bl pa_nil))) (pa_cons (pe_tup (pa_cons pe_str (pa_cons pe_int pa_nil))) (pa_cons (pe_tup (pa_cons pe_non (pa_cons pe_int pa_nil))) (pa_cons (pe_tup (pa_cons (pe_tup (pa_cons pe_int (pa_cons pe_int pa_nil))) (pa_cons pe_int pa_nil))) (pa_cons pe_dnewK (pa_cons (pe_disp (pps_cons pe_str pe_int pps_nil) (by rfl) (by rfl) (fun z => by cases z) (by decide)) (pa_cons (pe_disp (pps_cons pe_int (pe_tup (pa_cons pe_int (pa_cons pe_int pa_nil))) pps_nil) (by rfl) (by rfl) (fun z => by cases z) (by decide)) (pa_cons (pe_un un_neg pe_int) (pa_cons pe_int (pa_cons pe_int (pa_cons pe_int (pa_cons pe_int (pa_cons pe_int (pa_cons pe_int pa_nil))))))))))))))))))
      (pss_cons (ps_set (i := 1) sc__law_strange.nd rfl (by first | exact Or.inl rfl | exact Or.inr rfl) (pe_op op_cat (pv 1) (pe_lst (pa_cons pe_int (pa_cons (pe_op op_pow pe_int pe_int) (pa_cons (pe_un un_neg (pe_op op_pow pe_int pe_int)) (pa_cons (pe_tup (pa_cons (pe_op op_pow pe_int pe_int) (pa_cons pe_int pa_nil))) (pa_cons (pe_tup (pa_cons pe_int (pa_cons (pe_op op_pow pe_int pe_int) pa_nil))) (pa_cons (pe_tup (pa_cons (pe_op op_add (pe_op op_pow pe_int pe_int) pe_int) (pa_cons pe_int pa_nil))) (pa_cons (pe_tup (pa_cons pe_int (pa_cons pe_int pa_nil))) (pa_cons (pe_call G__law_deep (hr.mono (by decide)) rfl T.g__law_deep T.F__law_deep.kp (bnd__law_deep T) .nil pass0 (pa_cons pe_int pa_nil)) (pa_cons (pe_make T.webMk G_init hr rfl T.g_Web (bnd_init T) .nil pass0 (pa_cons (pe_tup (pa_cons pe_int pa_nil)) (pa_cons (pe_tup pa_nil) pa_nil))) pa_nil))))))))))))
      (pss_one (ps_ret (pe_call G__law_pick (hr.mono (by decide)) rfl T.g__law_pick T.F__law_pick.kp (bnd__law_pick T) .nil pass0 (pa_cons (pv 0) (pa_cons (pv 1) pa_nil))))))))
theorem ok__law_in_order (T : Txt K mg) (hp : PureOk (sp__law_in_order K) ["_law_steps_here"] N__law_in_order fun E => t__law_in_order K) : FnOk PP w K mg base CX0 1 (He.ga K "_law_in_order") (fdOf K ("_law_in_order", none)) ["_law_steps_here"] (sp__law_in_order K) := by
  refine (T.F__law_in_order).ok (CX := CX0) (k := 0) sc__law_in_order hp.1 (fun cdv A outer s H vs Q E hr h => ⟨t__law_in_order K, PSs.nox ?_, hp.2 vs H Q E h⟩)
  exact (pss_cons (ps_set (i := 1) sc__law_in_order.nd rfl (by first | exact Or.inl rfl | exact Or.inr rfl) (pe_callB (call_sortD hr.units rfl) (by rfl) T.b_sorted (by decide +kernel) (pa_cons (pe_lc (own := [("_law_one", 2)]) (g := (gName 2)) (tt := tYes) rfl sc__law_in_order.nd (pi_list (pv 0)) (blkOk_by (own := [("_law_one", 2)]) (N := N__law_in_order) (sc := defScope s__law_in_order) (by decide +kernel)) (fun _ _ _ _ _ => (pg_name (i := 2) sc__law_in_order.nd rfl (Or.inl rfl))) (fun _ _ _ _ _ => pts_nil) (fun _ _ _ _ _ => (pe_tup (pa_cons (pe_op op_fdiv (pe_op op_mul (pe_ix ix_tup (pv 2) pe_int (fun _ _ => rfl)) (pe_op op_pow pe_int pe_int)) (pe_ix ix_tup (pv 2) pe_int (fun _ _ => rfl))) (pa_cons (pv 2) pa_nil))))) pa_nil)))
      (pss_one (ps_ret (pe_callTy call_tuple_of (by rfl) T.b_tuple (by decide +kernel) (pa_cons (pe_lc (own := [("_law_pair", 3)]) (g := (gName 3)) (tt := tYes) rfl sc__law_in_order.nd (pi_list (pv 1)) (blkOk_by (own := [("_law_pair", 3)]) (N := N__law_in_order) (sc := defScope s__law_in_order) (by decide +kernel)) (fun _ _ _ _ _ => (pg_name (i := 3) sc__law_in_order.nd rfl (Or.inl rfl))) (fun _ _ _ _ _ => pts_nil) (fun _ _ _ _ _ => (pe_ix ix_tup (pv 3) pe_int (fun _ _ => rfl)))) pa_nil)))))
theorem ok__law_steps (T : Txt K mg) (G__law_in_order : FnOk PP w K mg base CX0 1 (He.ga K "_law_in_order") (fdOf K ("_law_in_order", none)) ["_law_steps_here"] (sp__law_in_order K)) (G__law_draw : FnOk PP w K mg base CX0 2 (He.ga K "_law_draw") (fdOf K ("_law_draw", none)) ["_law_source_here", "_law_many"] (sp__law_draw K)) (G__law_pick : FnOk PP w K mg base CX0 3 (He.ga K "_law_pick") (fdOf K ("_law_pick", none)) ["_law_source_here", "_law_row"] (sp__law_pick K)) (G__law_made : FnOk PP w K mg base CX0 2 (He.ga K "_law_made") (fdOf K ("_law_made", none)) ["_law_top", "_law_bottom"] (sp__law_made K)) (hp : PureOk (sp__law_steps K) ["_law_source_here", "_law_most", "_law_wide"] N__law_steps fun E => t__law_steps K) : FnOk PP w K mg base CX0 4 (He.ga K "_law_steps") (fdOf K ("_law_steps", none)) ["_law_source_here", "_law_most", "_law_wide"] (sp__law_steps K) := by
  refine (T.F__law_steps).ok (CX := CX0) (k := 3) sc__law_steps hp.1 (fun cdv A outer s H vs Q E hr h => ⟨t__law_steps K, PSs.nox ?_, hp.2 vs H Q E h⟩)
  exact (pss_cons (ps_set (i := 3) sc__law_steps.nd rfl (by first | exact Or.inl rfl | exact Or.inr rfl) (pe_lst pa_nil))
      (pss_cons (ps_for PassesOwn.never rfl (pi_range1 (by rfl) T.b_range (pa_cons (pe_op op_add pe_int (pe_call G__law_draw (hr.mono (by decide)) rfl T.g__law_draw T.F__law_draw.kp (bnd__law_draw T) .nil pass0 (pa_cons (pv 0) (pa_cons (pv 1) pa_nil)))) pa_nil)) (pg_name (i := 4) sc__law_steps.nd rfl (by first | exact Or.inl rfl | exact Or.inr rfl)) (pss_cons (ps_set (i := 5) sc__law_steps.nd rfl (by first | exact Or.inl rfl | exact Or.inr rfl) (pe_call G__law_draw (hr.mono (by decide)) rfl T.g__law_draw T.F__law_draw.kp (bnd__law_draw T) .nil pass0 (pa_cons (pv 0) (pa_cons pe_int pa_nil))))
      (pss_one (ps_if (PW.pt (pw_and (pt_cmpR op_eq (pv 5) pe_int (nomark _)) (pw_and1 (pt_cmpR op_gt (pe_callB call_len_seq (by rfl) T.b_len (by decide +kernel) (pa_cons (pv 3) pa_nil)) pe_int (nomark _))))) (pss_one (ps_expr (pe_bm PySem.F.plainAttrs_list PySem.F.slot_list_append PySem.F.type_list_append mt_append (pv 3) (pa_cons (pe_call G__law_pick (hr.mono (by decide)) rfl T.g__law_pick T.F__law_pick.kp (bnd__law_pick T) .nil pass0 (pa_cons (pv 0) (pa_cons (pv 3) pa_nil))) pa_nil)))) (pss_one (ps_if (PW.pt (pw_and (pt_cmpR op_eq (pv 5) pe_int (nomark _)) (pw_and1 (pt_val (pv 2))))) (pss_one (ps_expr (pe_bm PySem.F.plainAttrs_list PySem.F.slot_list_append PySem.F.type_list_append mt_append (pv 3) (pa_cons (pe_call G__law_made (hr.mono (by decide)) rfl T.g__law_made T.F__law_made.kp (bnd__law_made T) .nil pass0 (pa_cons (pe_op op_add pe_int (pe_call G__law_draw (hr.mono (by decide)) rfl T.g__law_draw T.F__law_draw.kp (bnd__law_draw T) .nil pass0 (pa_cons (pv 0) (pa_cons (pe_op op_pow pe_int pe_int) pa_nil)))) (pa_cons (pe_op op_add pe_int (pe_call G__law_draw (hr.mono (by decide)) rfl T.g__law_draw T.F__law_draw.kp (bnd__law_draw T) .nil pass0 (pa_cons (pv 0) (pa_cons pe_int pa_nil)))) pa_nil))) pa_nil)))) (pss_one (ps_if (pt_cmpR op_eq (pv 5) pe_int (nomark _)) (pss_one (ps_expr (pe_bm PySem.F.plainAttrs_list PySem.F.slot_list_append PySem.F.type_list_append mt_append (pv 3) (pa_cons (pe_call G__law_made (hr.mono (by decide)) rfl T.g__law_made T.F__law_made.kp (bnd__law_made T) .nil pass0 (pa_cons (pe_op op_add pe_int (pe_call G__law_draw (hr.mono (by decide)) rfl T.g__law_draw T.F__law_draw.kp (bnd__law_draw T) .nil pass0 (pa_cons (pv 0) (pa_cons pe_int pa_nil)))) (pa_cons (pe_op op_add pe_int (pe_call G__law_draw (hr.mono (by decide)) rfl T.g__law_draw T.F__law_draw.kp (bnd__law_draw T) .nil pass0 (pa_cons (pv 0) (pa_cons pe_int pa_nil)))) pa_nil))) pa_nil)))) (pss_one (ps_expr (pe_bm PySem.F.plainAttrs_list PySem.F.slot_list_append PySem.F.type_list_append mt_append (pv 3) (pa_cons (pe_tup (pa_cons (pe_op op_add pe_int (pe_call G__law_draw (hr.mono (by decide)) rfl T.g__law_draw T.F__law_draw.kp (bnd__law_draw T) .nil pass0 (pa_cons (pv 0) (pa_cons pe_int pa_nil)))) (pa_cons pe_int pa_nil))) pa_nil))))))))))))
      (pss_one (ps_ret (pe_call G__law_in_order (hr.mono (by decide)) rfl T.g__law_in_order T.F__law_in_order.kp (bnd__law_in_order T) .nil pass0 (pa_cons (pv 3) pa_nil))))))
theorem ok__law_flow (T : Txt K mg) (hp : PureOk (sp__law_flow K) ["_law_steps_here", "_law_drop_here"] N__law_flow fun E => t__law_flow K) : FnOk PP w K mg base CX0 1 (He.ga K "_law_flow") (fdOf K ("_law_flow", none)) ["_law_steps_here", "_law_drop_here"] (sp__law_flow K) := by
  refine (T.F__law_flow).ok (CX := CX0) (k := 0) sc__law_flow hp.1 (fun cdv A outer s H vs Q E hr h => ⟨t__law_flow K, PSs.nox ?_, hp.2 vs H Q E h⟩)
  exact (pss_cons (ps_set (i := 2) sc__law_flow.nd rfl (by first | exact Or.inl rfl | exact Or.inr rfl) pe_int)
      (pss_cons (ps_for PassesOwn.never rfl (pi_tup (pv 0)) (pg_name (i := 3) sc__law_flow.nd rfl (by first | exact Or.inl rfl | exact Or.inr rfl)) (pss_one (ps_if (pt_cmpR op_le (pe_op op_mul (pe_ix ix_tup (pv 3) pe_int (fun _ _ => rfl)) (pe_ix ix_tup (pv 1) pe_int (fun _ _ => rfl))) (pe_op op_mul (pe_callB call_abs (by rfl) T.b_abs (by decide +kernel) (pa_cons (pe_ix ix_tup (pv 1) pe_int (fun _ _ => rfl)) pa_nil)) (pe_ix ix_tup (pv 3) pe_int (fun _ _ => rfl))) (nomark _)) (pss_one (ps_set (i := 2) sc__law_flow.nd rfl (by first | exact Or.inl rfl | exact Or.inr rfl) (pe_op op_add (pv 2) pe_int))) pss_nil)))
      (pss_cons (ps_if (pt_cmpR op_lt (pe_ix ix_tup (pv 1) pe_int (fun _ _ => rfl)) pe_int (nomark _)) (pss_one (ps_ret (pe_un un_neg (pv 2)))) pss_nil)
      (pss_one (ps_ret (pv 2))))))
theorem ok__law_widths (T : Txt K mg) (G__law_draw : FnOk PP w K mg base CX0 2 (He.ga K "_law_draw") (fdOf K ("_law_draw", none)) ["_law_source_here", "_law_many"] (sp__law_draw K)) (hp : PureOk (sp__law_widths K) ["_law_source_here", "_law_many", "_law_seas"] N__law_widths fun E => t__law_widths K) : FnOk PP w K mg base CX0 3 (He.ga K "_law_widths") (fdOf K ("_law_widths", none)) ["_law_source_here", "_law_many", "_law_seas"] (sp__law_widths K) := by
  refine (T.F__law_widths).ok (CX := CX0) (k := 2) sc__law_widths hp.1 (fun cdv A outer s H vs Q E hr h => ⟨t__law_widths K, PSs.nox ?_, hp.2 vs H Q E h⟩)
  exact (pss_cons (ps_set (i := 3) sc__law_widths.nd rfl (by first | exact Or.inl rfl | exact Or.inr rfl) (pe_call G__law_draw (hr.mono (by decide)) rfl T.g__law_draw T.F__law_draw.kp (bnd__law_draw T) .nil pass0 (pa_cons (pv 0) (pa_cons pe_int pa_nil))))
      (pss_cons (ps_set (i := 4) sc__law_widths.nd rfl (by first | exact Or.inl rfl | exact Or.inr rfl) (pe_op op_add pe_int (pe_call G__law_draw (hr.mono (by decide)) rfl T.g__law_draw T.F__law_draw.kp (bnd__law_draw T) .nil pass0 (pa_cons (pv 0) (pa_cons pe_int pa_nil)))))
      (pss_cons (ps_set (i := 5) sc__law_widths.nd rfl (by first | exact Or.inl rfl | exact Or.inr rfl) (pe_lst pa_nil))
      (pss_cons (ps_for PassesOwn.never rfl (pi_range1 (by rfl) T.b_range (pa_cons (pv 1) pa_nil)) (pg_name (i := 6) sc__law_widths.nd rfl (by first | exact Or.inl rfl | exact Or.inr rfl)) (pss_one (ps_if (PW.pt (pw_and (pt_val (pv 2)) (pw_and1 (pt_cmpR op_eq (pe_call G__law_draw (hr.mono (by decide)) rfl T.g__law_draw T.F__law_draw.kp (bnd__law_draw T) .nil pass0 (pa_cons (pv 0) (pa_cons pe_int pa_nil))) pe_int (nomark _))))) (pss_one (ps_expr (pe_bm PySem.F.plainAttrs_list PySem.F.slot_list_append PySem.F.type_list_append mt_append (pv 5) (pa_cons pe_int pa_nil)))) (pss_one (ps_if (pt_cmpR op_eq (pv 3) pe_int (nomark _)) (pss_one (ps_expr (pe_bm PySem.F.plainAttrs_list PySem.F.slot_list_append PySem.F.type_list_append mt_append (pv 5) (pa_cons (pe_op op_add pe_int (pe_call G__law_draw (hr.mono (by decide)) rfl T.g__law_draw T.F__law_draw.kp (bnd__law_draw T) .nil pass0 (pa_cons (pv 0) (pa_cons pe_int pa_nil)))) pa_nil)))) (pss_one (ps_if (pt_cmpR op_eq (pv 3) pe_int (nomark _)) (pss_one (ps_expr (pe_bm PySem.F.plainAttrs_list PySem.F.slot_list_append PySem.F.type_list_append mt_append (pv 5) (pa_cons (pe_op op_add pe_int (pe_call G__law_draw (hr.mono (by decide)) rfl T.g__law_draw T.F__law_draw.kp (bnd__law_draw T) .nil pass0 (pa_cons (pv 0) (pa_cons pe_int pa_nil)))) pa_nil)))) (pss_one (ps_expr (pe_bm PySem.F.plainAttrs_list PySem.F.slot_list_append PySem.F.type_list_append mt_append (pv 5) (pa_cons (pv 4) pa_nil)))))))))))
      (pss_one (ps_ret (pe_callTy call_tuple_of (by rfl) T.b_tuple (by decide +kernel) (pa_cons (pv 5) pa_nil))))))))
theorem ok__law_pipe (T : Txt K mg) (G__law_draw : FnOk PP w K mg base CX0 2 (He.ga K "_law_draw") (fdOf K ("_law_draw", none)) ["_law_source_here", "_law_many"] (sp__law_draw K)) (G__law_steps : FnOk PP w K mg base CX0 4 (He.ga K "_law_steps") (fdOf K ("_law_steps", none)) ["_law_source_here", "_law_most", "_law_wide"] (sp__law_steps K)) (hp : PureOk (sp__law_pipe K) ["_law_source_here", "_law_vessels", "_law_most", "_law_wide"] N__law_pipe fun E => t__law_pipe K) : FnOk PP w K mg base CX0 5 (He.ga K "_law_pipe") (fdOf K ("_law_pipe", none)) ["_law_source_here", "_law_vessels", "_law_most", "_law_wide"] (sp__law_pipe K) := by
  refine (T.F__law_pipe).ok (CX := CX0) (k := 4) sc__law_pipe hp.1 (fun cdv A outer s H vs Q E hr h => ⟨t__law_pipe K, PSs.nox ?_, hp.2 vs H Q E h⟩)
  exact (pss_cons (ps_set (i := 4) sc__law_pipe.nd rfl (by first | exact Or.inl rfl | exact Or.inr rfl) (pe_op op_add pe_int (pe_call G__law_draw (hr.mono (by decide)) rfl T.g__law_draw T.F__law_draw.kp (bnd__law_draw T) .nil pass0 (pa_cons (pv 0) (pa_cons (pe_op op_sub (pv 1) pe_int) pa_nil)))))
      (pss_one (ps_ret (pe_tup (pa_cons (pe_call G__law_draw (hr.mono (by decide)) rfl T.g__law_draw T.F__law_draw.kp (bnd__law_draw T) .nil pass0 (pa_cons (pv 0) (pa_cons (pv 4) pa_nil))) (pa_cons (pv 4) (pa_cons (pe_call G__law_steps (hr.mono (by decide)) rfl T.g__law_steps T.F__law_steps.kp (bnd__law_steps T) .nil pass0 (pa_cons (pv 0) (pa_cons (pv 2) (pa_cons (pv 3) pa_nil)))) pa_nil)))))))
theorem ok__law_pipes (T : Txt K mg) (G__law_draw : FnOk PP w K mg base CX0 2 (He.ga K "_law_draw") (fdOf K ("_law_draw", none)) ["_law_source_here", "_law_many"] (sp__law_draw K)) (G__law_pick : FnOk PP w K mg base CX0 3 (He.ga K "_law_pick") (fdOf K ("_law_pick", none)) ["_law_source_here", "_law_row"] (sp__law_pick K)) (G__law_pipe : FnOk PP w K mg base CX0 5 (He.ga K "_law_pipe") (fdOf K ("_law_pipe", none)) ["_law_source_here", "_law_vessels", "_law_most", "_law_wide"] (sp__law_pipe K)) (G__law_steps : FnOk PP w K mg base CX0 4 (He.ga K "_law_steps") (fdOf K ("_law_steps", none)) ["_law_source_here", "_law_most", "_law_wide"] (sp__law_steps K)) (hp : PureOk (sp__law_pipes K) ["_law_source_here", "_law_vessels", "_law_many", "_law_most", "_law_wide"] N__law_pipes fun E => t__law_pipes K) : FnOk PP w K mg base CX0 6 (He.ga K "_law_pipes") (fdOf K ("_law_pipes", none)) ["_law_source_here", "_law_vessels", "_law_many", "_law_most", "_law_wide"] (sp__law_pipes K) := by
  refine (T.F__law_pipes).ok (CX := CX0) (k := 5) sc__law_pipes hp.1 (fun cdv A outer s H vs Q E hr h => ⟨t__law_pipes K, PSs.nox ?_, hp.2 vs H Q E h⟩)
  exact (pss_cons (ps_set (i := 5) sc__law_pipes.nd rfl (by first | exact Or.inl rfl | exact Or.inr rfl) (pe_lst pa_nil))
      (pss_cons (ps_for PassesOwn.never rfl (pi_range1 (by rfl) T.b_range (pa_cons (pv 2) pa_nil)) (pg_name (i := 6) sc__law_pipes.nd rfl (by first | exact Or.inl rfl | exact Or.inr rfl)) (pss_one (ps_if (pt_cmpR op_gt (pv 1) pe_int (nomark _)) (pss_cons (ps_set (i := 7) sc__law_pipes.nd rfl (by first | exact Or.inl rfl | exact Or.inr rfl) (pe_call G__law_draw (hr.mono (by decide)) rfl T.g__law_draw T.F__law_draw.kp (bnd__law_draw T) .nil pass0 (pa_cons (pv 0) (pa_cons pe_int pa_nil))))
      (pss_one (ps_if (PW.pt (pw_and (pt_cmpR op_eq (pv 7) pe_int (nomark _)) (pw_and1 (pt_cmpR op_gt (pv 6) pe_int (nomark _))))) (pss_one (ps_expr (pe_bm PySem.F.plainAttrs_list PySem.F.slot_list_append PySem.F.type_list_append mt_append (pv 5) (pa_cons (pe_call G__law_pick (hr.mono (by decide)) rfl T.g__law_pick T.F__law_pick.kp (bnd__law_pick T) .nil pass0 (pa_cons (pv 0) (pa_cons (pv 5) pa_nil))) pa_nil)))) (pss_one (ps_if (PW.pt (pw_and (pt_cmpR op_eq (pv 7) pe_int (nomark _)) (pw_and1 (pt_cmpR op_gt (pv 6) pe_int (nomark _))))) (pss_cons (ps_set (i := 8) sc__law_pipes.nd rfl (by first | exact Or.inl rfl | exact Or.inr rfl) (pe_call G__law_pick (hr.mono (by decide)) rfl T.g__law_pick T.F__law_pick.kp (bnd__law_pick T) .nil pass0 (pa_cons (pv 0) (pa_cons (pv 5) pa_nil))))
      (pss_one (ps_expr (pe_bm PySem.F.plainAttrs_list PySem.F.slot_list_append PySem.F.type_list_append mt_append (pv 5) (pa_cons (pe_tup (pa_cons (pe_ix ix_tup (pv 8) pe_int (fun _ _ => rfl)) (pa_cons (pe_ix ix_tup (pv 8) pe_int (fun _ _ => rfl)) (pa_cons (pe_call G__law_steps (hr.mono (by decide)) rfl T.g__law_steps T.F__law_steps.kp (bnd__law_steps T) .nil pass0 (pa_cons (pv 0) (pa_cons (pv 3) (pa_cons (pv 4) pa_nil)))) pa_nil)))) pa_nil))))) (pss_one (ps_expr (pe_bm PySem.F.plainAttrs_list PySem.F.slot_list_append PySem.F.type_list_append mt_append (pv 5) (pa_cons (pe_call G__law_pipe (hr.mono (by decide)) rfl T.g__law_pipe T.F__law_pipe.kp (bnd__law_pipe T) .nil pass0 (pa_cons (pv 0) (pa_cons (pv 1) (pa_cons (pv 3) (pa_cons (pv 4) pa_nil))))) pa_nil))))))))) pss_nil)))
      (pss_one (ps_ret (pe_callTy call_tuple_of (by rfl) T.b_tuple (by decide +kernel) (pa_cons (pv 5) pa_nil))))))
theorem ok__law_water (T : Txt K mg) (G__law_draw : FnOk PP w K mg base CX0 2 (He.ga K "_law_draw") (fdOf K ("_law_draw", none)) ["_law_source_here", "_law_many"] (sp__law_draw K)) (hp : PureOk (sp__law_water K) ["_law_source_here", "_law_high"] N__law_water fun E => t__law_water K) : FnOk PP w K mg base CX0 3 (He.ga K "_law_water") (fdOf K ("_law_water", none)) ["_law_source_here", "_law_high"] (sp__law_water K) := by
  refine (T.F__law_water).ok (CX := CX0) (k := 2) sc__law_water hp.1 (fun cdv A outer s H vs Q E hr h => ⟨t__law_water K, PSs.nox ?_, hp.2 vs H Q E h⟩)
  exact (pss_cons (ps_set (i := 2) sc__law_water.nd rfl (by first | exact Or.inl rfl | exact Or.inr rfl) (pe_call G__law_draw (hr.mono (by decide)) rfl T.g__law_draw T.F__law_draw.kp (bnd__law_draw T) .nil pass0 (pa_cons (pv 0) (pa_cons pe_int pa_nil))))
      (pss_cons (ps_if (pt_cmpR op_eq (pv 2) pe_int (nomark _)) (pss_one (ps_ret (pe_op op_sub (pe_call G__law_draw (hr.mono (by decide)) rfl T.g__law_draw T.F__law_draw.kp (bnd__law_draw T) .nil pass0 (pa_cons (pv 0) (pa_cons (pe_op op_add (pe_op op_mul pe_int (pe_op op_pow pe_int pe_int)) pe_int) pa_nil))) (pe_op op_pow pe_int pe_int)))) pss_nil)
      (pss_cons (ps_if (pt_cmpR op_eq (pv 2) pe_int (nomark _)) (pss_one (ps_ret (pe_op op_sub (pe_op op_pow pe_int pe_int) (pe_call G__law_draw (hr.mono (by decide)) rfl T.g__law_draw T.F__law_draw.kp (bnd__law_draw T) .nil pass0 (pa_cons (pv 0) (pa_cons pe_int pa_nil)))))) pss_nil)
      (pss_cons (ps_if (pt_cmpR op_eq (pv 2) pe_int (nomark _)) (pss_one (ps_ret (pe_op op_sub (pe_call G__law_draw (hr.mono (by decide)) rfl T.g__law_draw T.F__law_draw.kp (bnd__law_draw T) .nil pass0 (pa_cons (pv 0) (pa_cons pe_int pa_nil))) (pe_op op_pow pe_int pe_int)))) pss_nil)
      (pss_one (ps_ret (pe_op op_sub (pe_call G__law_draw (hr.mono (by decide)) rfl T.g__law_draw T.F__law_draw.kp (bnd__law_draw T) .nil pass0 (pa_cons (pv 0) (pa_cons (pe_op op_add (pe_op op_mul pe_int (pv 1)) pe_int) pa_nil))) (pv 1))))))))
theorem ok__law_filling (T : Txt K mg) (G__law_water : FnOk PP w K mg base CX0 3 (He.ga K "_law_water") (fdOf K ("_law_water", none)) ["_law_source_here", "_law_high"] (sp__law_water K)) (G__law_draw : FnOk PP w K mg base CX0 2 (He.ga K "_law_draw") (fdOf K ("_law_draw", none)) ["_law_source_here", "_law_many"] (sp__law_draw K)) (hp : PureOk (sp__law_filling K) ["_law_source_here", "_law_widths_here", "_law_high", "_law_wide"] N__law_filling fun E => t__law_filling K) : FnOk PP w K mg base CX0 4 (He.ga K "_law_filling") (fdOf K ("_law_filling", none)) ["_law_source_here", "_law_widths_here", "_law_high", "_law_wide"] (sp__law_filling K) := by
  refine (T.F__law_filling).ok (CX := CX0) (k := 3) sc__law_filling hp.1 (fun cdv A outer s H vs Q E hr h => ⟨t__law_filling K, PSs.nox ?_, hp.2 vs H Q E h⟩)
  exact (pss_cons (ps_set (i := 4) sc__law_filling.nd rfl (by first | exact Or.inl rfl | exact Or.inr rfl) (pe_lst pa_nil))
      (pss_cons (ps_for PassesOwn.never rfl (pi_tup (pv 1)) (pg_name (i := 5) sc__law_filling.nd rfl (by first | exact Or.inl rfl | exact Or.inr rfl)) (pss_one (ps_if (pt_cmpR op_eq (pv 5) pe_int (nomark _)) (pss_one (ps_expr (pe_bm PySem.F.plainAttrs_list PySem.F.slot_list_append PySem.F.type_list_append mt_append (pv 4) (pa_cons pe_int pa_nil)))) (pss_one (ps_if (pt_val (pv 3)) (pss_one (ps_expr (pe_bm PySem.F.plainAttrs_list PySem.F.slot_list_append PySem.F.type_list_append mt_append (pv 4) (pa_cons (pe_call G__law_water (hr.mono (by decide)) rfl T.g__law_water T.F__law_water.kp (bnd__law_water T) .nil pass0 (pa_cons (pv 0) (pa_cons (pv 2) pa_nil))) pa_nil)))) (pss_one (ps_expr (pe_bm PySem.F.plainAttrs_list PySem.F.slot_list_append PySem.F.type_list_append mt_append (pv 4) (pa_cons (pe_op op_sub (pe_call G__law_draw (hr.mono (by decide)) rfl T.g__law_draw T.F__law_draw.kp (bnd__law_draw T) .nil pass0 (pa_cons (pv 0) (pa_cons (pe_op op_add (pe_op op_mul pe_int (pv 2)) pe_int) pa_nil))) (pv 2)) pa_nil)))))))))
      (pss_one (ps_ret (pe_callTy call_tuple_of (by rfl) T.b_tuple (by decide +kernel) (pa_cons (pv 4) pa_nil))))))
theorem ok__law_opening (T : Txt K mg) (G__law_draw : FnOk PP w K mg base CX0 2 (He.ga K "_law_draw") (fdOf K ("_law_draw", none)) ["_law_source_here", "_law_many"] (sp__law_draw K)) (hp : PureOk (sp__law_opening K) ["_law_source_here", "_law_many"] N__law_opening fun E => t__law_opening K) : FnOk PP w K mg base CX0 3 (He.ga K "_law_opening") (fdOf K ("_law_opening", none)) ["_law_source_here", "_law_many"] (sp__law_opening K) := by
  refine (T.F__law_opening).ok (CX := CX0) (k := 2) sc__law_opening hp.1 (fun cdv A outer s H vs Q E hr h => ⟨t__law_opening K, PSs.nox ?_, hp.2 vs H Q E h⟩)
  exact (pss_cons (ps_if (pt_cmpR op_eq (pe_call G__law_draw (hr.mono (by decide)) rfl T.g__law_draw T.F__law_draw.kp (bnd__law_draw T) .nil pass0 (pa_cons (pv 0) (pa_cons pe_int pa_nil))) pe_int (nomark _)) (pss_one (ps_ret pe_non)) pss_nil)
      (pss_one (ps_ret (pe_callTy call_tuple_of (by rfl) T.b_tuple (by decide +kernel) (pa_cons (pe_lc (own := [("_law_k", 2)]) (g := (gName 2)) (tt := (tTest (tOp qGt (tCall (sp__law_draw K) [] E0 (tCons (tVar 0) (tCons (tC (.int 3)) tNil))) (tC (.int 0))))) rfl sc__law_opening.nd (pi_range1 (by rfl) T.b_range (pa_cons (pv 1) pa_nil)) (blkOk_by (own := [("_law_k", 2)]) (N := N__law_opening) (sc := defScope s__law_opening) (by decide +kernel)) (fun _ _ _ _ _ => (pg_name (i := 2) sc__law_opening.nd rfl (Or.inl rfl))) (fun _ _ _ _ _ => (pts_one (pt_cmpR op_gt (pe_call G__law_draw (hr.mono (by decide)) rfl T.g__law_draw T.F__law_draw.kp (bnd__law_draw T) .nil pass0 (pa_cons (pv 0) (pa_cons pe_int pa_nil))) pe_int (nomark _)))) (fun _ _ _ _ _ => (pv 2))) pa_nil)))))
theorem ok__law_level (T : Txt K mg) (G__law_made : FnOk PP w K mg base CX0 2 (He.ga K "_law_made") (fdOf K ("_law_made", none)) ["_law_top", "_law_bottom"] (sp__law_made K)) (hp : PureOk (sp__law_level K) ["_law_water_here", "_law_width"] N__law_level fun E => t__law_level K) : FnOk PP w K mg base CX0 3 (He.ga K "_law_level") (fdOf K ("_law_level", none)) ["_law_water_here", "_law_width"] (sp__law_level K) := by
  refine (T.F__law_level).ok (CX := CX0) (k := 2) sc__law_level hp.1 (fun cdv A outer s H vs Q E hr h => ⟨t__law_level K, PSs.nox ?_, hp.2 vs H Q E h⟩)
  exact (pss_cons (ps_if (pt_cmpR op_eq (pv 1) pe_int (nomark _)) (pss_one (ps_ret (pe_tup (pa_cons pe_int (pa_cons pe_int pa_nil))))) pss_nil)
      (pss_one (ps_ret (pe_call G__law_made (hr.mono (by decide)) rfl T.g__law_made T.F__law_made.kp (bnd__law_made T) .nil pass0 (pa_cons (pv 0) (pa_cons (pv 1) pa_nil))))))
theorem ok__law_drop (T : Txt K mg) (G__law_level : FnOk PP w K mg base CX0 3 (He.ga K "_law_level") (fdOf K ("_law_level", none)) ["_law_water_here", "_law_width"] (sp__law_level K)) (G__law_added : FnOk PP w K mg base CX0 3 (He.ga K "_law_added") (fdOf K ("_law_added", none)) ["_law_one", "_law_other"] (sp__law_added K)) (hp : PureOk (sp__law_drop K) ["_law_widths_here", "_law_pipe_here", "_law_filling_here"] N__law_drop fun E => t__law_drop K) : FnOk PP w K mg base CX0 4 (He.ga K "_law_drop") (fdOf K ("_law_drop", none)) ["_law_widths_here", "_law_pipe_here", "_law_filling_here"] (sp__law_drop K) := by
  refine (T.F__law_drop).ok (CX := CX0) (k := 3) sc__law_drop hp.1 (fun cdv A outer s H vs Q E hr h => ⟨t__law_drop K, PSs.nox ?_, hp.2 vs H Q E h⟩)
  exact (pss_cons (ps_set (i := 3) sc__law_drop.nd rfl (by first | exact Or.inl rfl | exact Or.inr rfl) (pe_call G__law_level (hr.mono (by decide)) rfl T.g__law_level T.F__law_level.kp (bnd__law_level T) .nil pass0 (pa_cons (pe_ix ix_tup (pv 2) (pe_ix ix_tup (pv 1) pe_int (fun _ _ => rfl)) (fun _ _ => rfl)) (pa_cons (pe_ix ix_tup (pv 0) (pe_ix ix_tup (pv 1) pe_int (fun _ _ => rfl)) (fun _ _ => rfl)) pa_nil))))
      (pss_cons (ps_set (i := 4) sc__law_drop.nd rfl (by first | exact Or.inl rfl | exact Or.inr rfl) (pe_call G__law_level (hr.mono (by decide)) rfl T.g__law_level T.F__law_level.kp (bnd__law_level T) .nil pass0 (pa_cons (pe_ix ix_tup (pv 2) (pe_ix ix_tup (pv 1) pe_int (fun _ _ => rfl)) (fun _ _ => rfl)) (pa_cons (pe_ix ix_tup (pv 0) (pe_ix ix_tup (pv 1) pe_int (fun _ _ => rfl)) (fun _ _ => rfl)) pa_nil))))
      (pss_one (ps_ret (pe_call G__law_added (hr.mono (by decide)) rfl T.g__law_added T.F__law_added.kp (bnd__law_added T) .nil pass0 (pa_cons (pv 3) (pa_cons (pe_tup (pa_cons (pe_un un_neg (pe_ix ix_tup (pv 4) pe_int (fun _ _ => rfl))) (pa_cons (pe_ix ix_tup (pv 4) pe_int (fun _ _ => rfl)) pa_nil))) pa_nil)))))))
theorem ok__law_flows (T : Txt K mg) (G__law_flow : FnOk PP w K mg base CX0 1 (He.ga K "_law_flow") (fdOf K ("_law_flow", none)) ["_law_steps_here", "_law_drop_here"] (sp__law_flow K)) (G__law_drop : FnOk PP w K mg base CX0 4 (He.ga K "_law_drop") (fdOf K ("_law_drop", none)) ["_law_widths_here", "_law_pipe_here", "_law_filling_here"] (sp__law_drop K)) (hp : PureOk (sp__law_flows K) ["_law_widths_here", "_law_pipes_here", "_law_filling_here", "_law_opening_here"] N__law_flows fun E => t__law_flows K) : FnOk PP w K mg base CX0 5 (He.ga K "_law_flows") (fdOf K ("_law_flows", none)) ["_law_widths_here", "_law_pipes_here", "_law_filling_here", "_law_opening_here"] (sp__law_flows K) := by
  refine (T.F__law_flows).ok (CX := CX0) (k := 4) sc__law_flows hp.1 (fun cdv A outer s H vs Q E hr h => ⟨t__law_flows K, PSs.nox ?_, hp.2 vs H Q E h⟩)
  exact (pss_cons (ps_set (i := 4) sc__law_flows.nd rfl (by first | exact Or.inl rfl | exact Or.inr rfl) (pe_lst pa_nil))
      (pss_cons (ps_for PassesOwn.never rfl (pi_range1 (by rfl) T.b_range (pa_cons (pe_callB call_len_seq (by rfl) T.b_len (by decide +kernel) (pa_cons (pv 1) pa_nil)) pa_nil)) (pg_name (i := 5) sc__law_flows.nd rfl (by first | exact Or.inl rfl | exact Or.inr rfl)) (pss_one (ps_if (PW.pt (pw_or (pt_cmpR op_isN (pv 3) pe_non (nomark _)) (pw_or1 (pt_cmpR op_in_seq (pv 5) (pv 3) (by rfl))))) (pss_one (ps_expr (pe_bm PySem.F.plainAttrs_list PySem.F.slot_list_append PySem.F.type_list_append mt_append (pv 4) (pa_cons (pe_call G__law_flow (hr.mono (by decide)) rfl T.g__law_flow T.F__law_flow.kp (bnd__law_flow T) .nil pass0 (pa_cons (pe_ix ix_tup (pe_ix ix_tup (pv 1) (pv 5) (fun _ _ => rfl)) pe_int (fun _ _ => rfl)) (pa_cons (pe_call G__law_drop (hr.mono (by decide)) rfl T.g__law_drop T.F__law_drop.kp (bnd__law_drop T) .nil pass0 (pa_cons (pv 0) (pa_cons (pe_ix ix_tup (pv 1) (pv 5) (fun _ _ => rfl)) (pa_cons (pv 2) pa_nil)))) pa_nil))) pa_nil)))) (pss_one (ps_expr (pe_bm PySem.F.plainAttrs_list PySem.F.slot_list_append PySem.F.type_list_append mt_append (pv 4) (pa_cons pe_int pa_nil)))))))
      (pss_one (ps_ret (pe_callTy call_tuple_of (by rfl) T.b_tuple (by decide +kernel) (pa_cons (pv 4) pa_nil))))))
theorem ok__law_nets (T : Txt K mg) (hp : PureOk (sp__law_nets K) ["_law_vessels", "_law_pipes_here", "_law_numbers"] N__law_nets fun E => t__law_nets K) : FnOk PP w K mg base CX0 1 (He.ga K "_law_nets") (fdOf K ("_law_nets", none)) ["_law_vessels", "_law_pipes_here", "_law_numbers"] (sp__law_nets K) := by
  refine (T.F__law_nets).ok (CX := CX0) (k := 0) sc__law_nets hp.1 (fun cdv A outer s H vs Q E hr h => ⟨t__law_nets K, PSs.nox ?_, hp.2 vs H Q E h⟩)
  exact (pss_cons (ps_set (i := 3) sc__law_nets.nd rfl (by first | exact Or.inl rfl | exact Or.inr rfl) (pe_op op_rep (pe_lst (pa_cons pe_int pa_nil)) (pv 0)))
      (pss_cons (ps_for PassesOwn.never rfl (pi_range1 (by rfl) T.b_range (pa_cons (pe_callB call_len_seq (by rfl) T.b_len (by decide +kernel) (pa_cons (pv 1) pa_nil)) pa_nil)) (pg_name (i := 4) sc__law_nets.nd rfl (by first | exact Or.inl rfl | exact Or.inr rfl)) (pss_cons (ps_asg (pe_op op_add (pe_ix ix_list (pv 3) (pe_ix ix_tup (pe_ix ix_tup (pv 1) (pv 4) (fun _ _ => rfl)) pe_int (fun _ _ => rfl)) (fun _ _ => rfl)) (pe_ix ix_tup (pv 2) (pv 4) (fun _ _ => rfl))) (pg_sub (pv 3) (pe_ix ix_tup (pe_ix ix_tup (pv 1) (pv 4) (fun _ _ => rfl)) pe_int (fun _ _ => rfl)) set_list))
      (pss_one (ps_asg (pe_op op_sub (pe_ix ix_list (pv 3) (pe_ix ix_tup (pe_ix ix_tup (pv 1) (pv 4) (fun _ _ => rfl)) pe_int (fun _ _ => rfl)) (fun _ _ => rfl)) (pe_ix ix_tup (pv 2) (pv 4) (fun _ _ => rfl))) (pg_sub (pv 3) (pe_ix ix_tup (pe_ix ix_tup (pv 1) (pv 4) (fun _ _ => rfl)) pe_int (fun _ _ => rfl)) set_list)))))
      (pss_one (ps_ret (pe_callTy call_tuple_of (by rfl) T.b_tuple (by decide +kernel) (pa_cons (pv 3) pa_nil))))))
theorem ok__law_behind (T : Txt K mg) (hp : PureOk (sp__law_behind K) ["_law_widths_here", "_law_filling_here", "_law_lost"] N__law_behind fun E => t__law_behind K) : FnOk PP w K mg base CX0 1 (He.ga K "_law_behind") (fdOf K ("_law_behind", none)) ["_law_widths_here", "_law_filling_here", "_law_lost"] (sp__law_behind K) := by
  refine (T.F__law_behind).ok (CX := CX0) (k := 0) sc__law_behind hp.1 (fun cdv A outer s H vs Q E hr h => ⟨t__law_behind K, PSs.nox ?_, hp.2 vs H Q E h⟩)
  exact (pss_cons (ps_set (i := 3) sc__law_behind.nd rfl (by first | exact Or.inl rfl | exact Or.inr rfl) (pe_lst pa_nil))
      (pss_cons (ps_for PassesOwn.never rfl (pi_range1 (by rfl) T.b_range (pa_cons (pe_callB call_len_seq (by rfl) T.b_len (by decide +kernel) (pa_cons (pv 0) pa_nil)) pa_nil)) (pg_name (i := 4) sc__law_behind.nd rfl (by first | exact Or.inl rfl | exact Or.inr rfl)) (pss_one (ps_if (pt_cmpR op_eq (pe_ix ix_tup (pv 0) (pv 4) (fun _ _ => rfl)) pe_int (nomark _)) (pss_one (ps_expr (pe_bm PySem.F.plainAttrs_list PySem.F.slot_list_append PySem.F.type_list_append mt_append (pv 3) (pa_cons pe_int pa_nil)))) (pss_one (ps_expr (pe_bm PySem.F.plainAttrs_list PySem.F.slot_list_append PySem.F.type_list_append mt_append (pv 3) (pa_cons (pe_op op_sub (pe_ix ix_tup (pv 1) (pv 4) (fun _ _ => rfl)) (pe_ix ix_tup (pv 2) (pv 4) (fun _ _ => rfl))) pa_nil)))))))
      (pss_one (ps_ret (pe_callTy call_tuple_of (by rfl) T.b_tuple (by decide +kernel) (pa_cons (pv 3) pa_nil))))))
theorem ok__law_is_filling (T : Txt K mg) (G__law_integer : FnOk PP w K mg base CX0 1 (He.ga K "_law_integer") (fdOf K ("_law_integer", none)) ["_law_thing"] (sp__law_integer K)) (hp : PureOk (sp__law_is_filling K) ["_law_widths_here", "_law_thing"] N__law_is_filling fun E => t__law_is_filling K) : FnOk PP w K mg base CX0 2 (He.ga K "_law_is_filling") (fdOf K ("_law_is_filling", none)) ["_law_widths_here", "_law_thing"] (sp__law_is_filling K) := by
  refine (T.F__law_is_filling).ok (CX := CX0) (k := 1) sc__law_is_filling hp.1 (fun cdv A outer s H vs Q E hr h => ⟨t__law_is_filling K, PSs.nox ?_, hp.2 vs H Q E h⟩)
  exact (pss_cons (ps_if (PW.pt (pw_or (pt_not (pt_val (pe_callB call_isi (by rfl) T.b_isinstance (by decide +kernel) (pa_cons (pv 1) (pa_cons (pe_bltn (v := .ty "tuple") (by rfl) T.b_tuple (by decide +kernel) rfl) pa_nil))))) (pw_or1 (pt_cmpR op_ne (pe_callB call_len_seq (by rfl) T.b_len (by decide +kernel) (pa_cons (pv 1) pa_nil)) (pe_callB call_len_seq (by rfl) T.b_len (by decide +kernel) (pa_cons (pv 0) pa_nil)) (nomark _))))) (pss_one (ps_ret pe_bl)) pss_nil)
      (pss_cons (ps_for PassesOwn.never rfl (pi_range1 (by rfl) T.b_range (pa_cons (pe_callB call_len_seq (by rfl) T.b_len (by decide +kernel) (pa_cons (pv 0) pa_nil)) pa_nil)) (pg_name (i := 2) sc__law_is_filling.nd rfl (by first | exact Or.inl rfl | exact Or.inr rfl)) (pss_one (ps_if (PW.pt (pw_or (pt_not (pt_val (pe_call G__law_integer (hr.mono (by decide)) rfl T.g__law_integer T.F__law_integer.kp (bnd__law_integer T) .nil pass0 (pa_cons (pe_ix ix_tup (pv 1) (pv 2) (fun _ _ => rfl)) pa_nil)))) (pw_or1 (PW.pt (pw_and (pt_cmpR op_eq (pe_ix ix_tup (pv 0) (pv 2) (fun _ _ => rfl)) pe_int (nomark _)) (pw_and1 (pt_cmpR op_ne (pe_ix ix_tup (pv 1) (pv 2) (fun _ _ => rfl)) pe_int (nomark _)))))))) (pss_one (ps_ret pe_bl)) pss_nil)))
      (pss_one (ps_ret pe_bl))))
theorem ok__law_is_opening (T : Txt K mg) (G__law_integer : FnOk PP w K mg base CX0 1 (He.ga K "_law_integer") (fdOf K ("_law_integer", none)) ["_law_thing"] (sp__law_integer K)) (hp : PureOk (sp__law_is_opening K) ["_law_many", "_law_thing"] N__law_is_opening fun E => t__law_is_opening K) : FnOk PP w K mg base CX0 2 (He.ga K "_law_is_opening") (fdOf K ("_law_is_opening", none)) ["_law_many", "_law_thing"] (sp__law_is_opening K) := by
  refine (T.F__law_is_opening).ok (CX := CX0) (k := 1) sc__law_is_opening hp.1 (fun cdv A outer s H vs Q E hr h => ⟨t__law_is_opening K, PSs.nox ?_, hp.2 vs H Q E h⟩)
  exact (pss_cons (ps_if (pt_cmpR op_isN (pv 1) pe_non (nomark _)) (pss_one (ps_ret pe_bl)) pss_nil)
      (pss_cons (ps_if (pt_not (pt_val (pe_callB call_isi (by rfl) T.b_isinstance (by decide +kernel) (pa_cons (pv 1) (pa_cons (pe_bltn (v := .ty "tuple") (by rfl) T.b_tuple (by decide +kernel) rfl) pa_nil))))) (pss_one (ps_ret pe_bl)) pss_nil)
      (pss_cons (ps_set (i := 2) sc__law_is_opening.nd rfl (by first | exact Or.inl rfl | exact Or.inr rfl) (pe_un un_neg pe_int))
      (pss_cons (ps_for PassesOwn.never rfl (pi_tup (pv 1)) (pg_name (i := 3) sc__law_is_opening.nd rfl (by first | exact Or.inl rfl | exact Or.inr rfl)) (pss_cons (ps_if (PW.pt (pw_or (pt_not (pt_val (pe_call G__law_integer (hr.mono (by decide)) rfl T.g__law_integer T.F__law_integer.kp (bnd__law_integer T) .nil pass0 (pa_cons (pv 3) pa_nil)))) (pw_or (pt_cmpR op_le (pv 3) (pv 2) (nomark _)) (pw_or1 (pt_cmpR op_ge (pv 3) (pv 0) (nomark _)))))) (pss_one (ps_ret pe_bl)) pss_nil)
      (pss_one (ps_set (i := 2) sc__law_is_opening.nd rfl (by first | exact Or.inl rfl | exact Or.inr rfl) (pv 3)))))
      (pss_one (ps_ret pe_bl))))))
theorem ok__law_with (T : Txt K mg) (hp : PureOk (sp__law_with K) ["_law_row", "_law_place", "_law_thing"] N__law_with fun E => t__law_with K) : FnOk PP w K mg base CX0 1 (He.ga K "_law_with") (fdOf K ("_law_with", none)) ["_law_row", "_law_place", "_law_thing"] (sp__law_with K) := by
  refine (T.F__law_with).ok (CX := CX0) (k := 0) sc__law_with hp.1 (fun cdv A outer s H vs Q E hr h => ⟨t__law_with K, PSs.nox ?_, hp.2 vs H Q E h⟩)
  exact (pss_one (ps_ret (pe_callTy call_tuple_of (by rfl) T.b_tuple (by decide +kernel) (pa_cons (pe_op op_cat (pe_op op_cat (pe_callTy call_list_of (by rfl) T.b_list (by decide +kernel) (pa_cons (pe_slice sl_tup (pv 0) po_none (po_some (pv 1))) pa_nil)) (pe_lst (pa_cons (pv 2) pa_nil))) (pe_callTy call_list_of (by rfl) T.b_list (by decide +kernel) (pa_cons (pe_slice sl_tup (pv 0) (po_some (pe_op op_add (pv 1) pe_int)) po_none) pa_nil))) pa_nil))))
theorem ok__law_bad_filling (T : Txt K mg) (G__law_with : FnOk PP w K mg base CX0 1 (He.ga K "_law_with") (fdOf K ("_law_with", none)) ["_law_row", "_law_place", "_law_thing"] (sp__law_with K)) (G__law_strange : FnOk PP w K mg base CX0 8 (He.ga K "_law_strange") (fdOf K ("_law_strange", none)) ["_law_source_here"] (sp__law_strange K)) (G__law_draw : FnOk PP w K mg base CX0 2 (He.ga K "_law_draw") (fdOf K ("_law_draw", none)) ["_law_source_here", "_law_many"] (sp__law_draw K)) (hp : PureOk (sp__law_bad_filling K) ["_law_source_here", "_law_kind", "_law_widths_here", "_law_filling_here"] N__law_bad_filling fun E => t__law_bad_filling K) : FnOk PP w K mg base CX0 9 (He.ga K "_law_bad_filling") (fdOf K ("_law_bad_filling", none)) ["_law_source_here", "_law_kind", "_law_widths_here", "_law_filling_here"] (sp__law_bad_filling K) := by
  refine (T.F__law_bad_filling).ok (CX := CX0) (k := 8) sc__law_bad_filling hp.1 (fun cdv A outer s H vs Q E hr h => ⟨t__law_bad_filling K, PSs.nox ?_, hp.2 vs H Q E h⟩)
  exact (pss_cons (ps_if (pt_cmpR op_eq (pv 1) pe_int (nomark _)) (pss_one (ps_ret (pe_call G__law_strange (hr.mono (by decide)) rfl T.g__law_strange T.F__law_strange.kp (bnd__law_strange T) .nil pass0 (pa_cons (pv 0) pa_nil)))) pss_nil)
      (pss_cons (ps_if (pt_cmpR op_eq (pv 1) pe_int (nomark _)) (pss_one (ps_ret (pe_callTy call_list_of (by rfl) T.b_list (by decide +kernel) (pa_cons (pv 3) pa_nil)))) pss_nil)
      (pss_cons (ps_if (pt_cmpR op_eq (pv 1) pe_int (nomark _)) (pss_one (ps_ret (pe_op op_catT (pv 3) (pe_tup (pa_cons pe_int pa_nil))))) pss_nil)
      (pss_cons (ps_if (pt_cmpR op_eq (pv 1) pe_int (nomark _)) (pss_one (ps_ret (pe_slice sl_tup (pv 3) (po_some pe_int) po_none))) pss_nil)
      (pss_cons (ps_if (pt_cmpR op_eq (pv 1) pe_int (nomark _)) (pss_one (ps_ret (pe_call G__law_with (hr.mono (by decide)) rfl T.g__law_with T.F__law_with.kp (bnd__law_with T) .nil pass0 (pa_cons (pv 3) (pa_cons (pe_call G__law_draw (hr.mono (by decide)) rfl T.g__law_draw T.F__law_draw.kp (bnd__law_draw T) .nil pass0 (pa_cons (pv 0) (pa_cons (pe_callB call_len_seq (by rfl) T.b_len (by decide +kernel) (pa_cons (pv 3) pa_nil)) pa_nil))) (pa_cons pe_int pa_nil)))))) pss_nil)
      (pss_one (ps_ret (pe_call G__law_with (hr.mono (by decide)) rfl T.g__law_with T.F__law_with.kp (bnd__law_with T) .nil pass0 (pa_cons (pv 3) (pa_cons (pe_call G__law_draw (hr.mono (by decide)) rfl T.g__law_draw T.F__law_draw.kp (bnd__law_draw T) .nil pass0 (pa_cons (pv 0) (pa_cons (pe_callB call_len_seq (by rfl) T.b_len (by decide +kernel) (pa_cons (pv 3) pa_nil)) pa_nil))) (pa_cons (pe_call G__law_strange (hr.mono (by decide)) rfl T.g__law_strange T.F__law_strange.kp (bnd__law_strange T) .nil pass0 (pa_cons (pv 0) pa_nil)) pa_nil)))))))))))
theorem ok__law_bad_opening (T : Txt K mg) (G__law_draw : FnOk PP w K mg base CX0 2 (He.ga K "_law_draw") (fdOf K ("_law_draw", none)) ["_law_source_here", "_law_many"] (sp__law_draw K)) (G__law_strange : FnOk PP w K mg base CX0 8 (He.ga K "_law_strange") (fdOf K ("_law_strange", none)) ["_law_source_here"] (sp__law_strange K)) (hp : PureOk (sp__law_bad_opening K) ["_law_source_here", "_law_kind", "_law_many"] N__law_bad_opening fun E => t__law_bad_opening K) : FnOk PP w K mg base CX0 9 (He.ga K "_law_bad_opening") (fdOf K ("_law_bad_opening", none)) ["_law_source_here", "_law_kind", "_law_many"] (sp__law_bad_opening K) := by
  refine (T.F__law_bad_opening).ok (CX := CX0) (k := 8) sc__law_bad_opening hp.1 (fun cdv A outer s H vs Q E hr h => ⟨t__law_bad_opening K, PSs.nox ?_, hp.2 vs H Q E h⟩)
  exact (pss_cons (ps_set (i := 3) sc__law_bad_opening.nd rfl (by first | exact Or.inl rfl | exact Or.inr rfl) (pe_call G__law_draw (hr.mono (by decide)) rfl T.g__law_draw T.F__law_draw.kp (bnd__law_draw T) .nil pass0 (pa_cons (pv 0) (pa_cons (pe_op op_add (pv 2) pe_int) pa_nil))))
      (pss_cons (ps_if (pt_cmpR op_eq (pv 1) pe_int (nomark _)) (pss_one (ps_ret (pe_call G__law_strange (hr.mono (by decide)) rfl T.g__law_strange T.F__law_strange.kp (bnd__law_strange T) .nil pass0 (pa_cons (pv 0) pa_nil)))) pss_nil)
      (pss_cons (ps_if (pt_cmpR op_eq (pv 1) pe_int (nomark _)) (pss_one (ps_ret (pe_tup (pa_cons (pv 3) (pa_cons (pv 3) pa_nil))))) pss_nil)
      (pss_cons (ps_if (pt_cmpR op_eq (pv 1) pe_int (nomark _)) (pss_one (ps_ret (pe_tup (pa_cons (pv 3) (pa_cons (pe_op op_sub (pv 3) pe_int) pa_nil))))) pss_nil)
      (pss_cons (ps_if (pt_cmpR op_eq (pv 1) pe_int (nomark _)) (pss_one (ps_ret (pe_tup (pa_cons (pv 3) (pa_cons (pv 2) pa_nil))))) pss_nil)
      (pss_cons (ps_if (pt_cmpR op_eq (pv 1) pe_int (nomark _)) (pss_one (ps_ret (pe_listRg rfl (by rfl) T.b_list (prg_1 (by rfl) T.b_range (pv 3))))) pss_nil)
      (pss_one (ps_ret (pe_tup (pa_cons (pv 3) (pa_cons (pe_call G__law_strange (hr.mono (by decide)) rfl T.g__law_strange T.F__law_strange.kp (bnd__law_strange T) .nil pass0 (pa_cons (pv 0) pa_nil)) pa_nil)))))))))))
theorem ok__law_all_due (T : Txt K mg) (G__law_flows : FnOk PP w K mg base CX0 5 (He.ga K "_law_flows") (fdOf K ("_law_flows", none)) ["_law_widths_here", "_law_pipes_here", "_law_filling_here", "_law_opening_here"] (sp__law_flows K)) (G__law_nets : FnOk PP w K mg base CX0 1 (He.ga K "_law_nets") (fdOf K ("_law_nets", none)) ["_law_vessels", "_law_pipes_here", "_law_numbers"] (sp__law_nets K)) (G__law_is_filling : FnOk PP w K mg base CX0 2 (He.ga K "_law_is_filling") (fdOf K ("_law_is_filling", none)) ["_law_widths_here", "_law_thing"] (sp__law_is_filling K)) (G__law_is_opening : FnOk PP w K mg base CX0 2 (He.ga K "_law_is_opening") (fdOf K ("_law_is_opening", none)) ["_law_many", "_law_thing"] (sp__law_is_opening K)) (G__law_behind : FnOk PP w K mg base CX0 1 (He.ga K "_law_behind") (fdOf K ("_law_behind", none)) ["_law_widths_here", "_law_filling_here", "_law_lost"] (sp__law_behind K)) (G__law_level : FnOk PP w K mg base CX0 3 (He.ga K "_law_level") (fdOf K ("_law_level", none)) ["_law_water_here", "_law_width"] (sp__law_level K)) (G__law_drop : FnOk PP w K mg base CX0 4 (He.ga K "_law_drop") (fdOf K ("_law_drop", none)) ["_law_widths_here", "_law_pipe_here", "_law_filling_here"] (sp__law_drop K)) (hp : PureOk (sp__law_all_due K) ["_law_widths_here", "_law_pipes_here", "_law_filling_here", "_law_opening_here"] N__law_all_due fun E => t__law_all_due K) : FnOk PP w K mg base CX0 6 (He.ga K "_law_all_due") (fdOf K ("_law_all_due", none)) ["_law_widths_here", "_law_pipes_here", "_law_filling_here", "_law_opening_here"] (sp__law_all_due K) := by
  refine (T.F__law_all_due).ok (CX := CX0) (k := 5) sc__law_all_due hp.1 (fun cdv A outer s H vs Q E hr h => ⟨t__law_all_due K, PSs.nox ?_, hp.2 vs H Q E h⟩)
  exact (pss_cons (ps_if (pt_not (pt_val (pe_call G__law_is_filling (hr.mono (by decide)) rfl T.g__law_is_filling T.F__law_is_filling.kp (bnd__law_is_filling T) .nil pass0 (pa_cons (pv 0) (pa_cons (pv 2) pa_nil))))) (pss_one (ps_ret (pe_op op_rep (pe_lst (pa_cons (pe_tup (pa_cons pe_str (pa_cons (pe_lst (pa_cons pe_bl (pa_cons pe_bl (pa_cons pe_bl pa_nil)))) (pa_cons pe_int pa_nil)))) pa_nil)) pe_int))) pss_nil)
      (pss_cons (ps_set (i := 4) sc__law_all_due.nd rfl (by first | exact Or.inl rfl | exact Or.inr rfl) (pe_lst (pa_cons (pe_tup (pa_cons pe_str (pa_cons (pe_callTy call_tuple_of (by rfl) T.b_tuple (by decide +kernel) (pa_cons (pe_lc (own := [("_law_k", 7)]) (g := (gName 7)) (tt := tYes) rfl sc__law_all_due.nd (pi_range1 (by rfl) T.b_range (pa_cons (pe_callB call_len_seq (by rfl) T.b_len (by decide +kernel) (pa_cons (pv 0) pa_nil)) pa_nil)) (blkOk_by (own := [("_law_k", 7)]) (N := N__law_all_due) (sc := defScope s__law_all_due) (by decide +kernel)) (fun _ _ _ _ _ => (pg_name (i := 7) sc__law_all_due.nd rfl (Or.inl rfl))) (fun _ _ _ _ _ => pts_nil) (fun _ _ _ _ _ => (pe_call G__law_level (hr.mono (by decide)) rfl T.g__law_level T.F__law_level.kp (bnd__law_level T) .nil pass0 (pa_cons (pe_ix ix_tup (pv 2) (pv 7) (fun _ _ => rfl)) (pa_cons (pe_ix ix_tup (pv 0) (pv 7) (fun _ _ => rfl)) pa_nil))))) pa_nil)) pa_nil))) pa_nil)))
      (pss_cons (ps_expr (pe_bm PySem.F.plainAttrs_list PySem.F.slot_list_append PySem.F.type_list_append mt_append (pv 4) (pa_cons (pe_tup (pa_cons pe_str (pa_cons (pe_callTy call_tuple_of (by rfl) T.b_tuple (by decide +kernel) (pa_cons (pe_lc (own := [("_law_pipe_here", 8)]) (g := (gName 8)) (tt := tYes) rfl sc__law_all_due.nd (pi_tup (pv 1)) (blkOk_by (own := [("_law_pipe_here", 8)]) (N := N__law_all_due) (sc := defScope s__law_all_due) (by decide +kernel)) (fun _ _ _ _ _ => (pg_name (i := 8) sc__law_all_due.nd rfl (Or.inl rfl))) (fun _ _ _ _ _ => pts_nil) (fun _ _ _ _ _ => (pe_call G__law_drop (hr.mono (by decide)) rfl T.g__law_drop T.F__law_drop.kp (bnd__law_drop T) .nil pass0 (pa_cons (pv 0) (pa_cons (pv 8) (pa_cons (pv 2) pa_nil)))))) pa_nil)) pa_nil))) pa_nil)))
      (pss_cons (ps_if (pt_not (pt_val (pe_call G__law_is_opening (hr.mono (by decide)) rfl T.g__law_is_opening T.F__law_is_opening.kp (bnd__law_is_opening T) .nil pass0 (pa_cons (pe_callB call_len_seq (by rfl) T.b_len (by decide +kernel) (pa_cons (pv 1) pa_nil)) (pa_cons (pv 3) pa_nil))))) (pss_one (ps_ret (pe_op op_cat (pv 4) (pe_op op_rep (pe_lst (pa_cons (pe_tup (pa_cons pe_str (pa_cons (pe_lst (pa_cons pe_bl (pa_cons pe_bl (pa_cons pe_bl pa_nil)))) (pa_cons pe_int pa_nil)))) pa_nil)) pe_int)))) pss_nil)
      (pss_cons (ps_set (i := 5) sc__law_all_due.nd rfl (by first | exact Or.inl rfl | exact Or.inr rfl) (pe_call G__law_flows (hr.mono (by decide)) rfl T.g__law_flows T.F__law_flows.kp (bnd__law_flows T) .nil pass0 (pa_cons (pv 0) (pa_cons (pv 1) (pa_cons (pv 2) (pa_cons (pv 3) pa_nil))))))
      (pss_cons (ps_set (i := 6) sc__law_all_due.nd rfl (by first | exact Or.inl rfl | exact Or.inr rfl) (pe_call G__law_nets (hr.mono (by decide)) rfl T.g__law_nets T.F__law_nets.kp (bnd__law_nets T) .nil pass0 (pa_cons (pe_callB call_len_seq (by rfl) T.b_len (by decide +kernel) (pa_cons (pv 0) pa_nil)) (pa_cons (pv 1) (pa_cons (pv 5) pa_nil)))))
      (pss_one (ps_ret (pe_op op_cat (pv 4) (pe_lst (pa_cons (pe_tup (pa_cons pe_str (pa_cons (pv 5) pa_nil))) (pa_cons (pe_tup (pa_cons pe_str (pa_cons (pe_call G__law_behind (hr.mono (by decide)) rfl T.g__law_behind T.F__law_behind.kp (bnd__law_behind T) .nil pass0 (pa_cons (pv 0) (pa_cons (pv 2) (pa_cons (pv 6) pa_nil)))) pa_nil))) (pa_cons (pe_tup (pa_cons pe_str (pa_cons (pv 6) pa_nil))) pa_nil)))))))))))))
theorem ok_init (T : Txt K mg) (G_begin : FnOk PP w K mg base CX0 5 (He.ma K (He.ga K "Web") "begin") (fdOf K ("Web", some "begin")) ["self", "widths", "pipes"] (sp_begin K)) (G_are_widths : FnOk PP w K mg base CX0 4 (He.ga K "are_widths") (fdOf K ("are_widths", none)) ["thing"] (sp_are_widths K)) (G_is_pipe : FnOk PP w K mg base CX0 5 (He.ga K "is_pipe") (fdOf K ("is_pipe", none)) ["thing", "many"] (sp_is_pipe K)) (hp : PureOk (sp_init K) ["self", "widths", "pipes"] N_init fun E => t_init K) : FnOk PP w K mg base CX0 6 (He.ma K (He.ga K "Web") "__init__") (fdOf K ("Web", some "__init__")) ["self", "widths", "pipes"] (sp_init K) := by
  refine (T.F_init).ok (CX := CX0) (k := 5) sc_init hp.1 (fun cdv A outer s H vs Q E hr h => ⟨t_init K, PSs.nox ?_, hp.2 vs H Q E h⟩)
  exact (pss_cons (ps_if (pt_not (pt_val (pe_call G_are_widths (hr.mono (by decide)) rfl T.g_are_widths T.F_are_widths.kp (bnd_are_widths T) .nil pass0 (pa_cons (pv 1) pa_nil)))) (pss_one ps_never) pss_nil)
      (pss_cons (ps_if (PW.pt (pw_or (pt_not (pt_val (pe_callB call_isi (by rfl) T.b_isinstance (by decide +kernel) (pa_cons (pv 2) (pa_cons (pe_bltn (v := .ty "tuple") (by rfl) T.b_tuple (by decide +kernel) rfl) pa_nil))))) (pw_or1 (pt_cmpR op_gt (pe_callB call_len_seq (by rfl) T.b_len (by decide +kernel) (pa_cons (pv 2) pa_nil)) (pe_globI (by rfl) T.c_MOST_PIPES) (nomark _))))) (pss_one ps_never) pss_nil)
      (pss_cons (ps_for PassesOwn.never rfl (pi_enumK false (by rfl) T.b_enumerate (pa_cons (pv 2) pa_nil)) (pg_tup rfl (pgs_cons (pg_name (i := 3) sc_init.nd rfl (by first | exact Or.inl rfl | exact Or.inr rfl)) (pgs_cons (pg_name (i := 4) sc_init.nd rfl (by first | exact Or.inl rfl | exact Or.inr rfl)) pgs_nil))) (pss_one (ps_if (pt_not (pt_val (pe_call G_is_pipe (hr.mono (by decide)) rfl T.g_is_pipe T.F_is_pipe.kp (bnd_is_pipe T) .nil pass0 (pa_cons (pv 4) (pa_cons (pe_callB call_len_seq (by rfl) T.b_len (by decide +kernel) (pa_cons (pv 1) pa_nil)) pa_nil))))) (pss_one ps_never) pss_nil)))
      (pss_one (ps_expr (pe_meth (pv 0) T.webCls T.webBegin G_begin (hr.mono (by decide)) (bnd_begin T) .nil pass0 (pa_cons (pv 1) (pa_cons (pv 2) pa_nil))))))))
theorem ok_begin (T : Txt K mg) (G_gauge : FnOk PP w K mg base CX0 4 (He.ga K "gauge") (fdOf K ("gauge", none)) ["widths", "pipe"] (sp_gauge K)) (hp : PureOk (sp_begin K) ["self", "widths", "pipes"] N_begin fun E => t_begin K) : FnOk PP w K mg base CX0 5 (He.ma K (He.ga K "Web") "begin") (fdOf K ("Web", some "begin")) ["self", "widths", "pipes"] (sp_begin K) := by
  refine (T.F_begin).ok (CX := CX0) (k := 4) sc_begin hp.1 (fun cdv A outer s H vs Q E hr h => ⟨t_begin K, PSs.nox ?_, hp.2 vs H Q E h⟩)
  exact (pss_cons (ps_fld (pv 0) (pv 1) rfl)
      (pss_cons (ps_fld (pv 0) (pv 2) rfl)
      (pss_one (ps_fld (pv 0) (pe_lc (own := [("pipe", 3)]) (g := (gName 3)) (tt := tYes) rfl sc_begin.nd (pi_tup (pv 2)) (blkOk_by (own := [("pipe", 3)]) (N := N_begin) (sc := defScope s_begin) (by decide +kernel)) (fun _ _ _ _ _ => (pg_name (i := 3) sc_begin.nd rfl (Or.inl rfl))) (fun _ _ _ _ _ => pts_nil) (fun _ _ _ _ _ => (pe_call G_gauge (hr.mono (by decide)) rfl T.g_gauge T.F_gauge.kp (bnd_gauge T) .nil pass0 (pa_cons (pv 1) (pa_cons (pv 3) pa_nil))))) rfl))))
end K11
/-! part K11Q1 -/
namespace K11
open PySem PySem.Spec PyProof.Rows L2
variable {K : PySem.W.Frag} {mg : Str → Option Value}
section
variable {p : Prop} [Decidable p] {A B : Prop} {Q : VK} {H : Hp} {v u : V}
theorem dT (h : p) (x : A) : if decide p = true then A else B := by
  rw [if_pos (decide_eq_true h)]
  exact x
theorem dF (h : ¬ p) (x : B) : if decide p = true then A else B := by
  rw [if_neg (by rw [decide_eq_true_iff]; exact h)]
  exact x
theorem dNT (h : p) (x : B) : if (!decide p) = true then A else B := by
  rw [decide_eq_true h]
  exact iteF x
theorem dNF (h : ¬ p) (x : A) : if (!decide p) = true then A else B := by
  rw [decide_eq_false h]
  exact iteT x
theorem qT (h : p) (q : Q (.bl true) H) : Q (.bl (decide p)) H := by
  rw [decide_eq_true h]
  exact q
theorem qF (h : ¬ p) (q : Q (.bl false) H) : Q (.bl (decide p)) H := by
  rw [decide_eq_false h]
  exact q
theorem qE (e : v = u) (q : Q u H) : Q v H := by
  rw [e]
  exact q
theorem bT {b : Bool} (h : b = true) (x : A) : if b = true then A else B := by
  rw [if_pos h]
  exact x
theorem bF {b : Bool} (h : b = false) (x : B) : if b = true then A else B := by
  rw [h]
  exact iteF x
theorem nI {i j : Int} (h : i ≠ j) : ¬ V.int i = V.int j := by
  rw [V.int.injEq]
  exact h
end
theorem kTI {b c : String} {r : Bool} (h : kitB b c = some r) : PySem.W.kitOne K (.type b) (.type c) = some r := kit_ty h
theorem pu_is_integer (T : Txt K mg) : PureOk (sp_is_integer K) ["thing"] N_is_integer fun E => t_is_integer K := by
  refine ⟨by rintro _ _ _ _ ⟨_, _, rfl, _⟩; rfl, ?_⟩
  rintro _ H Q E ⟨x, o, rfl, hi, q⟩
  rcases hi with ⟨i, rfl, rfl⟩ | ⟨rfl, t, b1, b2, ty, k1, k2, hb⟩
  · exact ⟨_, rfl, _, _, _, _, _, rfl, ClsV.ty _, .base (.int i), kit_ty (b := "int") (r := true) (by decide +kernel), _, rfl, iteT ⟨_, rfl, _, _, _, _, _, rfl, ClsV.ty _, .base (.int i), kit_ty (b := "bool") (r := false) (by decide +kernel), _, rfl, q⟩⟩
  · refine ⟨_, rfl, _, _, _, _, _, rfl, ClsV.ty _, ty, k1, _, rfl, ?_⟩
    cases b1 with
    | false => exact iteF q
    | true =>
      refine iteT ⟨_, rfl, _, _, _, _, _, rfl, ClsV.ty _, ty, k2, _, rfl, ?_⟩
      cases b2 with
      | true => exact q
      | false => cases hb
theorem pu_is_between (T : Txt K mg) : PureOk (sp_is_between K) ["thing", "least", "most"] N_is_between fun E => t_is_between K := by
  refine ⟨by rintro _ _ _ _ ⟨_, _, _, _, rfl, _⟩; rfl, ?_⟩
  rintro _ H Q E ⟨x, l, m, o, rfl, hi, q⟩
  refine ⟨_, rfl, _, o, rfl, hi, _, rfl, ?_⟩
  rcases hi with ⟨i, rfl, rfl⟩ | ⟨rfl, _⟩
  · refine iteT ⟨_, rfl, _, rfl, _, _, rfl, rfl, _, rfl, ?_⟩
    have q : Q (.bl (decide (l ≤ i) && decide (i ≤ m))) H := q
    by_cases h : l ≤ i
    · rw [if_pos (decide_eq_true h)]
      refine ⟨_, rfl, _, _, rfl, rfl, ?_⟩
      rw [decide_eq_true h, Bool.true_and] at q
      exact q
    · rw [if_neg (by rw [decide_eq_true_iff]; exact h)]
      rw [decide_eq_false h, Bool.false_and] at q
      exact q
  · exact iteF q
theorem pu_is_pair (T : Txt K mg) : PureOk (sp_is_pair K) ["thing"] N_is_pair fun E => t_is_pair K := by
  refine ⟨by rintro _ _ _ _ ⟨_, _, rfl, _⟩; rfl, ?_⟩
  rintro _ H Q E ⟨p, xs, rfl, h, q⟩
  refine ⟨_, rfl, _, _, _, _, _, rfl, ClsV.ty _, sqT_ty h, kit_ty (b := "tuple") (r := true) (by decide +kernel), _, rfl, iteT ⟨_, rfl, _, _, rfl, .inr h, rfl, ?_⟩⟩
  have e : decide (V.int (xs.length : Int) = V.int 2) = decide (xs.length = 2) := by
    rw [Bool.eq_iff_iff, decide_eq_true_iff, decide_eq_true_iff, V.int.injEq]
    omega
  rw [e]
  exact q
theorem pu_is_triple (T : Txt K mg) : PureOk (sp_is_triple K) ["thing"] N_is_triple fun E => t_is_triple K := by
  refine ⟨by rintro _ _ _ _ ⟨_, _, rfl, _⟩; rfl, ?_⟩
  rintro _ H Q E ⟨p, xs, rfl, h, q⟩
  refine ⟨_, rfl, _, _, _, _, _, rfl, ClsV.ty _, sqT_ty h, kit_ty (b := "tuple") (r := true) (by decide +kernel), _, rfl, iteT ⟨_, rfl, _, _, rfl, .inr h, rfl, ?_⟩⟩
  have e : decide (V.int (xs.length : Int) = V.int 3) = decide (xs.length = 3) := by
    rw [Bool.eq_iff_iff, decide_eq_true_iff, decide_eq_true_iff, V.int.injEq]
    omega
  rw [e]
  exact q
/-- a comprehension's bools -/
theorem bools_of {f : Nat → Bool} {n : Nat} {acc : List V} (h1 : acc.length = n) (h2 : ∀ j y, acc[j]? = some y → y = V.bl (f j)) : acc = ((List.range n).map f).map V.bl := by
  apply List.ext_getElem?
  intro j
  by_cases hj : j < n
  · have h3 := h2 j (acc[j]'(by omega)) (by simp [h1, hj])
    rw [List.getElem?_eq_getElem (by omega), h3]
    simp [hj]
  · rw [List.getElem?_eq_none (by omega), List.getElem?_eq_none (by simp; omega)]
theorem ints_of {f : Nat → Int} {n : Nat} {acc : List V} (h1 : acc.length = n) (h2 : ∀ j y, acc[j]? = some y → y = V.int (f j)) : acc = ((List.range n).map f).map V.int := by
  apply List.ext_getElem?
  intro j
  by_cases hj : j < n
  · have h3 := h2 j (acc[j]'(by omega)) (by simp [h1, hj])
    rw [List.getElem?_eq_getElem (by omega), h3]
    simp [hj]
  · rw [List.getElem?_eq_none (by omega), List.getElem?_eq_none (by simp; omega)]
theorem pu_is_row (T : Txt K mg) : PureOk (sp_is_row K) ["thing", "many"] N_is_row fun E => t_is_row K := by
  refine ⟨by rintro _ _ _ _ ⟨_, _, _, rfl, _⟩; rfl, ?_⟩
  rintro _ H Q E ⟨v, n, o, rfl, hv, hn, q⟩
  rcases hv with ⟨l, p, xs, rfl, rfl, h, hp⟩ | ⟨rfl, t, ty, k⟩
  · refine ⟨_, rfl, _, _, _, _, _, rfl, ClsV.ty _, sqT_ty h, kit_ty (b := "tuple") (r := true) (by decide +kernel), _, rfl, iteT ⟨_, rfl, _, _, rfl, .inr h, _, rfl, rfl, _, rfl, ?_⟩⟩
    have hl : xs.length = l.length := hp.length
    by_cases he : (l.length : Int) = n
    · have e : decide (V.int (xs.length : Int) = V.int n) = true := by
        rw [decide_eq_true_iff, V.int.injEq, hl]
        exact he
      rw [e]
      refine iteT ⟨_, rfl, _, rfl, ⟨xs, h⟩, fun D hD => ?_⟩
      refine lc_each (m := []) walk_tup hD (by simp) (by omega) (fun _ j y => y = .bl ((l.getD j none).isSome)) (fun H1 g => g.tup h) (fun i x H1 H' hi s y => ?_) (fun H1 acc g e1 e2 e3 => ?_)
      · obtain ⟨rfl, hx⟩ := y
        obtain ⟨b, hb, hr⟩ := pgetL hp hx
        refine ⟨rfl, _, rfl, _, b, rfl, hr.gr s.gr, ?_⟩
        refine s.leaf (fun _ _ _ _ _ z => z) (by omega) (Gr.refl _ _) ?_
        simp [List.getD, hb]
      · have e4 := bools_of e2 e3
        refine ⟨D, _, rfl, sqL (by rw [e1, e4]), ?_⟩
        have e5 : ((List.range xs.length).map fun j => (l.getD j none).isSome).all id = l.all Option.isSome := by
          rw [hl]
          rw [Bool.eq_iff_iff, List.all_eq_true, List.all_eq_true]
          constructor
          · intro z x hx
            obtain ⟨j, hj, ej⟩ := List.mem_iff_getElem.mp hx
            have z2 := z (l.getD j none).isSome (List.mem_map.mpr ⟨j, List.mem_range.mpr hj, rfl⟩)
            simp [List.getD, hj, ej] at z2
            exact z2
          · intro z b hb
            obtain ⟨j, hj, ej⟩ := List.mem_map.mp hb
            have hj2 := List.mem_range.mp hj
            rw [← ej]
            simp [List.getD, hj2]
            exact z _ (List.getElem_mem hj2)
        rw [e5]
        have q2 := q H1 g
        have e6 : rowOk (some l) n = l.all Option.isSome := by
          unfold rowOk
          simp [he]
        rw [e6] at q2
        exact q2
    · have e : decide (V.int (xs.length : Int) = V.int n) = false := by
        rw [decide_eq_false_iff_not, V.int.injEq, hl]
        exact he
      rw [e]
      refine iteF ?_
      have q2 := q H (Gr.refl _ _)
      have e6 : rowOk (some l) n = false := by
        unfold rowOk
        simp [he]
      rw [e6] at q2
      exact q2
  · exact ⟨_, rfl, _, _, _, _, _, rfl, ClsV.ty _, ty, k, _, rfl, iteF (q H (Gr.refl _ _))⟩
end K11
/-! part K11Q2 -/
namespace K11
open PySem PySem.Spec PyProof.Rows L2
variable {K : PySem.W.Frag} {mg : Str → Option Value}
theorem kTT : PySem.W.kitOne K (.type "tuple") (.type "tuple") = some true := kit_ty (b := "tuple") (r := true) (by decide +kernel)
theorem drop_cons {α : Type} {l : List α} {i : Nat} {x : α} (h : l[i]? = some x) : l.drop i = x :: l.drop (i + 1) := by
  obtain ⟨hi, e⟩ := List.getElem?_eq_some_iff.mp h
  rw [List.drop_eq_getElem_cons hi, e]
theorem pu_is_lot (T : Txt K mg) : PureOk (sp_is_lot K) ["thing", "many"] N_is_lot fun E => t_is_lot K := by
  refine ⟨by rintro _ _ _ _ ⟨_, _, _, rfl, _⟩; rfl, ?_⟩
  rintro _ H Q E ⟨v, n, o, rfl, hv, q⟩
  rcases hv with ⟨l, p, xs, rfl, rfl, h, hp⟩ | ⟨rfl, t, ty, k⟩
  · refine ⟨_, rfl, _, _, _, _, _, rfl, ClsV.ty _, sqT_ty h, kTT, _, rfl, 1, rfl, _, rfl, _, rfl, ⟨xs, h⟩, ?_⟩
    have hl : xs.length = l.length := hp.length
    refine for_it (walk_tup (xs := xs)) (fun i σ H' => H' = H ∧ ∃ last z, σ = [some (V.ref p), some (.int n), some (.int last), z] ∧ lotL (l.drop i) last n = lotOk (some l) n) ⟨rfl, -1, _, rfl, rfl⟩ (fun i σ H' hi z => by rw [z.1]; exact h) (fun i x σ H1 H2 hi ⟨e1, last, z, e2, e3⟩ y => ?_) (fun σ H' ⟨e1, last, z, e2, e3⟩ => ?_)
    · obtain ⟨rfl, hx⟩ := y
      subst e1 e2
      obtain ⟨b, hb, hr⟩ := pgetL hp hx
      refine ⟨_, rfl, _, rfl, _, _, rfl, rfl, _, rfl, _, _, rfl, rfl, _, _, _, b, rfl, hr, _, rfl, ?_⟩
      rw [drop_cons hb] at e3
      have e4 : (btw b (last + 1) (n - 1) && lotL (l.drop (i + 1)) (b.getD 0) n) = lotOk (some l) n := e3
      cases hbt : btw b (last + 1) (n - 1) with
      | false =>
        rw [hbt, Bool.false_and] at e4
        rw [← e4] at q
        exact q
      | true =>
        rw [hbt, Bool.true_and] at e4
        rcases hr with ⟨i0, rfl, rfl⟩ | ⟨rfl, _⟩
        · exact ⟨_, rfl, rfl, i0, _, rfl, e4⟩
        · cases hbt
    · subst e1 e2
      rw [hl, List.drop_length] at e3
      have e4 : true = lotOk (some l) n := e3
      rw [← e4] at q
      exact q
  · exact ⟨_, rfl, _, _, _, _, _, rfl, ClsV.ty _, ty, k, _, rfl, q⟩
theorem gcd_step {a b : Int} (ha : 0 ≤ a) (hb : 0 ≤ b) : Int.gcd b (a % b) = Int.gcd a b := by
  obtain ⟨m, rfl⟩ := Int.eq_ofNat_of_zero_le ha
  obtain ⟨n, rfl⟩ := Int.eq_ofNat_of_zero_le hb
  have e : ((m : Int) % (n : Int)) = ((m % n : Nat) : Int) := rfl
  rw [e]
  show Nat.gcd n (m % n) = Nat.gcd m n
  rw [Nat.gcd_comm n, ← Nat.gcd_rec, Nat.gcd_comm]
theorem absI_nn (a : Int) : 0 ≤ absI a := by
  unfold absI
  split <;> omega
theorem absI_nat (a : Int) : absI a = (a.natAbs : Int) := by
  unfold absI
  split <;> omega
theorem gcd_abs (a b : Int) : Int.gcd (absI a) (absI b) = Int.gcd a b := by
  rw [absI_nat, absI_nat]
  rfl
theorem pu_divisor (T : Txt K mg) : PureOk sp_divisor ["one", "other"] N_divisor fun E => t_divisor K := by
  refine ⟨by rintro _ _ _ _ ⟨_, _, rfl, _⟩; rfl, ?_⟩
  rintro _ H Q E ⟨a, b, rfl, q⟩
  refine ⟨_, rfl, _, rfl, _, rfl, _, rfl, _, _, rfl, ?_⟩
  refine while_by (fun σ H' => H' = H ∧ ∃ x y : Int, 0 ≤ x ∧ 0 ≤ y ∧ σ = [some (.int x), some (.int y)] ∧ Int.gcd x y = Int.gcd a b) (fun σ H' => match σ with
    | [_, some (.int y)] => y.toNat
    | _ => 0) ⟨rfl, absI a, absI b, absI_nn a, absI_nn b, rfl, gcd_abs a b⟩ (fun σ H' ⟨e1, x, y, hx, hy, e2, e3⟩ => ?_) (fun σ H' Q1 Q2 hQ hc => ?_)
  · subst e1 e2
    refine ⟨_, rfl, _, _, rfl, rfl, _, rfl, ?_⟩
    by_cases h0 : (0 : Int) < y
    · refine dT h0 ⟨_, rfl, _, rfl, _, rfl, _, _, rfl, rfl, h0, _, _, rfl, ⟨rfl, y, x % y, hy, Int.emod_nonneg _ (by omega), rfl, by rw [gcd_step hx hy, e3]⟩, ?_⟩
      show (x % y).toNat < y.toNat
      have := Int.emod_lt_of_pos x h0
      have := Int.emod_nonneg x (show y ≠ 0 by omega)
      omega
    · refine dF h0 ?_
      have e4 : y = 0 := by omega
      subst e4
      refine ⟨_, rfl, ?_⟩
      have e5 : (Int.gcd a b : Int) = x := by
        rw [← e3, Int.gcd_zero_right]
        omega
      show Q (.int x) H'
      rw [← e5]
      exact q
  · obtain ⟨v, h1, i, j, h2, h3, k, h4, h5⟩ := hc
    exact ⟨v, h1, i, j, h2, h3, k, h4, hQ _ _ h5⟩
theorem gcd_pos {a b : Int} (hb : 0 < b) : 0 < (Int.gcd a b : Int) := by
  have h : 0 < Int.gcd a b := Nat.gcd_pos_of_pos_right _ (by omega)
  omega
theorem gcd_le {a b : Int} (hb : 0 < b) : (Int.gcd a b : Int) ≤ b := by
  have h : Int.gcd a b ≤ b.natAbs := Nat.gcd_le_right _ (by omega)
  omega
theorem pu_multiple (T : Txt K mg) : PureOk sp_multiple ["one", "other"] N_multiple fun E => t_multiple K := by
  refine ⟨by rintro _ _ _ _ ⟨_, _, rfl, _⟩; rfl, ?_⟩
  rintro _ H Q E ⟨a, b, rfl, h1, h2, h3, h4, q⟩
  have g1 := gcd_pos (a := a) h3
  have g2 := gcd_le (a := a) h3
  exact ⟨_, rfl, _, rfl, _, rfl, _, _, rfl, _, _, rfl, rfl, ⟨g1, by omega⟩, _, rfl, _, _, rfl, rfl, .inr ⟨by omega, by omega⟩, q⟩
theorem pu_made (T : Txt K mg) : PureOk (sp_made K) ["top", "bottom"] N_made fun E => t_made K := by
  refine ⟨by rintro _ _ _ _ ⟨_, _, rfl, _⟩; rfl, ?_⟩
  rintro _ H Q E ⟨t, b, rfl, h1, h2, q⟩
  have g1 := gcd_pos (a := t) h1
  have g2 := gcd_le (a := t) h1
  exact ⟨_, rfl, _, rfl, _, _, rfl, _, rfl, _, rfl, _, _, rfl, rfl, ⟨g1, by omega⟩, _, rfl, _, rfl, _, _, rfl, rfl, ⟨g1, by omega⟩, sz (n := 2) (by omega), fun p hp => q _ _ (Gr.new hp) ⟨p, rfl, sqT upd_same⟩⟩
theorem pu_is_fraction (T : Txt K mg) : PureOk (sp_is_fraction K) ["thing"] N_is_fraction fun E => t_is_fraction K := by
  refine ⟨by rintro _ _ _ _ ⟨_, _, rfl, _⟩; rfl, ?_⟩
  rintro _ H Q E ⟨v, f, rfl, ⟨p, rfl, h⟩, h1, h2, q⟩
  refine ⟨_, rfl, _, _, rfl, h, _, rfl, _, rfl, _, _, _, _, rfl, rfl, h, rfl, _, _, rfl, itm_int, _, rfl, _, rfl, _, _, _, _, rfl, rfl, h, rfl, _, _, rfl, itm_int, _, rfl, _, rfl, _, _, _, _, rfl, rfl, h, rfl, _, _, rfl, rfl, _, rfl, ?_⟩
  have e : decide (f.2 < 1) = false := by
    rw [decide_eq_false_iff_not]
    omega
  rw [e]
  refine ⟨_, rfl, _, _, _, _, rfl, rfl, h, rfl, _, rfl, _, _, _, _, rfl, rfl, h, rfl, _, _, rfl, rfl, ?_⟩
  rw [h2]
  exact q
theorem pu_is_below (T : Txt K mg) : PureOk (sp_is_below K) ["one", "other"] N_is_below fun E => t_is_below K := by
  refine ⟨by rintro _ _ _ _ ⟨_, _, _, _, rfl, _⟩; rfl, ?_⟩
  rintro _ H Q E ⟨v, w, f, g, rfl, ⟨p, rfl, h⟩, ⟨p', rfl, h'⟩, wf, wg, q⟩
  have a1 := wf.b1
  have a2 := wf.b2
  have a3 := wg.b1
  have a4 := wg.b2
  exact ⟨_, rfl, _, _, _, _, rfl, rfl, h, rfl, _, rfl, _, _, _, _, rfl, rfl, h', rfl, _, _, rfl, rfl, .inr ⟨by omega, by omega⟩, _, rfl, _, _, _, _, rfl, rfl, h', rfl, _, rfl, _, _, _, _, rfl, rfl, h, rfl, _, _, rfl, rfl, .inr ⟨by omega, by omega⟩, _, _, rfl, rfl, q⟩
theorem pu_next_whole (T : Txt K mg) : PureOk (sp_next_whole K) ["one"] N_next_whole fun E => t_next_whole K := by
  refine ⟨by rintro _ _ _ _ ⟨_, _, rfl, _⟩; rfl, ?_⟩
  rintro _ H Q E ⟨v, f, rfl, ⟨p, rfl, h⟩, h1, h2, q⟩
  exact ⟨_, rfl, _, _, _, _, rfl, rfl, h, rfl, _, rfl, _, rfl, _, _, _, _, rfl, rfl, h, rfl, _, _, rfl, rfl, ⟨h1, h2⟩, _, rfl, q⟩
theorem pu_is_threshold (T : Txt K mg) : PureOk (sp_is_threshold K) ["thing"] N_is_threshold fun E => t_is_threshold K := by
  refine ⟨by rintro _ _ _ _ ⟨_, _, rfl, _⟩; rfl, ?_⟩
  rintro _ H Q E ⟨v, f, rfl, hf, wf, q⟩
  obtain ⟨p, rfl, h⟩ := id hf
  refine ⟨_, rfl, _, f, rfl, hf, wf.b1, wf.g, _, rfl, _, rfl, _, _, _, _, rfl, rfl, h, rfl, _, _, rfl, rfl, _, rfl, ?_⟩
  rw [if_pos (decide_eq_true wf.t1)]
  refine ⟨_, _, rfl, rfl, _, rfl, ?_⟩
  rw [if_pos (decide_eq_true wf.t2)]
  refine ⟨_, rfl, _, _, _, _, rfl, rfl, h, rfl, _, _, rfl, rfl, ?_⟩
  exact qT wf.b2 q
theorem pu_is_width (T : Txt K mg) : PureOk sp_is_width ["thing"] N_is_width fun E => t_is_width K := by
  refine ⟨by rintro _ _ _ _ ⟨_, rfl, _⟩; rfl, ?_⟩
  rintro _ H Q E ⟨w, rfl, h1, h2, q⟩
  refine ⟨_, rfl, _, _, _, some w, rfl, itm_int, ?_⟩
  have e : btw (some w) 0 12 = true := by
    unfold btw
    simp [h1, h2]
  rw [e]
  exact q
theorem pu_parts_of_grain (T : Txt K mg) : PureOk sp_parts_of_grain ["width", "other"] N_parts_of_grain fun E => t_parts_of_grain K := by
  refine ⟨by rintro _ _ _ _ ⟨_, _, rfl, _⟩; rfl, ?_⟩
  rintro _ H Q E ⟨w, o, rfl, h1, h2, h3, h4, q⟩
  refine ⟨_, rfl, rfl, _, rfl, ?_⟩
  by_cases hw : w = 0
  · subst hw
    have e : pg 0 o = max3 0 o 1 := by simp [pg]
    rw [e] at q
    exact ⟨_, rfl, _, rfl, _, _, _, rfl, q⟩
  · refine dF (nI hw) ?_
    refine ⟨_, rfl, rfl, _, rfl, ?_⟩
    by_cases ho : o = 0
    · subst ho
      have e : pg w 0 = max3 w 0 1 := by simp [pg]
      rw [e] at q
      exact ⟨_, rfl, _, rfl, _, _, _, rfl, q⟩
    · refine dF (nI ho) ?_
      have e : pg w o = w / (Int.gcd w o : Int) * o := by simp [pg, hw, ho]
      rw [e] at q
      exact ⟨_, rfl, _, rfl, _, _, rfl, by omega, by omega, by omega, by omega, q⟩
theorem pu_part_of (T : Txt K mg) : PureOk (sp_part_of K) ["top", "width"] N_part_of fun E => t_part_of K := by
  refine ⟨by rintro _ _ _ _ ⟨_, _, rfl, _⟩; rfl, ?_⟩
  rintro _ H Q E ⟨t, w, rfl, h1, h2, q⟩
  refine ⟨_, rfl, rfl, _, rfl, ?_⟩
  by_cases hw : w = 0
  · subst hw
    exact q _ _ (Gr.refl _ _) ⟨_, rfl, T.nought H⟩
  · refine dF (nI hw) ?_
    refine ⟨_, rfl, _, rfl, _, _, rfl, by omega, by omega, fun H' v g hf => q _ _ g ?_⟩
    have e : lvl w t = mk t w := by simp [lvl, hw]
    rw [e]
    exact hf
end K11
/-! part K11Q3 -/
namespace K11
open PySem PySem.Spec PyProof.Rows L2
variable {K : PySem.W.Frag} {mg : Str → Option Value}
theorem walk_zip2M {k1 k2 : Bool} {a b : Addr} {xs ys : List V} {n : Nat} (h1 : n ≤ xs.length) (h2 : n ≤ ys.length) (h3 : n = xs.length ∨ n = ys.length) :
    Walk (ItZ2 K k1 k2 a b) n (fun H => SqK K k1 H a xs ∧ SqK K k2 H b ys) (YPair (fun i => xs[i]?) (fun i => ys[i]?)) := by
  refine ⟨fun i _ hi q => ?_, fun _ q => ⟨xs, ys, q.1, q.2, h1, h2, h3⟩, fun i H v H' _ q y => ?_⟩
  · have l1 : i < xs.length := by omega
    have l2 : i < ys.length := by omega
    exact ⟨xs, ys, xs[i], ys[i], q.1, q.2, by simp [l1], by simp [l2]⟩
  · obtain ⟨T, x, y, h1, h2, h3, h4, h5⟩ := y
    exact ⟨T, x, y, h1, h2, h3, h4 xs q.1, h5 ys q.2⟩
theorem cut1 {xs : List V} : cutV xs (some 1) none = xs.drop 1 := by
  unfold cutV
  rw [HT.sIx_none, show (some (1 : Int)) = some ((1 : Nat) : Int) from rfl, HT.sIx_nat]
  by_cases h : 1 ≤ xs.length
  · rw [Nat.min_eq_left h, List.take_of_length_le (by rw [List.length_drop]; omega)]
  · have e : xs = [] := List.length_eq_zero_iff.mp (by omega)
    subst e
    rfl
theorem all_true {n : Nat} {f : Nat → Bool} (h : ∀ j, j < n → f j = true) : ((List.range n).map f).all id = true := by
  rw [List.all_eq_true]
  intro b hb
  obtain ⟨j, hj, rfl⟩ := List.mem_map.mp hb
  exact h j (List.mem_range.mp hj)
theorem any_false {n : Nat} {f : Nat → Bool} (h : ∀ j, j < n → f j = false) : ((List.range n).map f).any id = false := by
  rw [List.any_eq_false]
  intro b hb
  obtain ⟨j, hj, rfl⟩ := List.mem_map.mp hb
  have := h j (List.mem_range.mp hj)
  simp [this]
theorem pu_is_list (T : Txt K mg) : PureOk (sp_is_list K) ["thing"] N_is_list fun E => t_is_list K := by
  refine ⟨by rintro _ _ _ _ ⟨_, _, rfl, _⟩; rfl, ?_⟩
  rintro _ H Q E ⟨v, l, rfl, ⟨p, xs, rfl, h, hp⟩, wl, q⟩
  have hl : xs.length = l.length := hp.length
  have n1 := wl.n1
  have n2 := wl.n2
  refine ⟨_, rfl, _, _, _, _, _, rfl, ClsV.ty _, sqT_ty h, kTT, _, rfl, _, rfl, _, _, rfl, .inr h, _, _, rfl, rfl, _, rfl, ?_⟩
  refine dT (show (1 : Int) ≤ (xs.length : Int) by omega) ⟨_, _, rfl, rfl, _, rfl, ?_⟩
  refine dNT (show (xs.length : Int) ≤ 6 by omega) ⟨_, rfl, _, rfl, ⟨xs, h⟩, fun D hD => ?_⟩
  refine lc_each (m := []) (walk_tup (xs := xs)) hD (by simp) (by omega) (fun _ j y => y = .bl true) (fun H1 g => g.tup h) (fun i x H1 H' hi s y => ?_) (fun H1 acc g e1 e2 e3 => ?_)
  · obtain ⟨rfl, hx⟩ := y
    obtain ⟨b, hb, hr⟩ := pgetL hp hx
    exact ⟨rfl, _, rfl, _, b, rfl, hr.gr s.gr, wl.s _ (List.mem_of_getElem? hb), s.leaf (fun _ _ _ _ _ z => z) (by omega) (Gr.refl _ _) rfl⟩
  · have e4 := bools_of (f := fun _ => true) e2 e3
    refine ⟨D, _, rfl, sqL (by rw [e1, e4]), _, rfl, ?_⟩
    refine bF (by rw [all_true (fun _ _ => rfl)]; rfl) ?_
    have h1 := g.tup h
    refine ⟨_, rfl, _, rfl, _, rfl, p, xs, rfl, h1, fun z => ?_, fun p2 hp2 => ⟨_, _, _, _, rfl, (Gr.new (m := []) hp2).tup h1, sqT upd_same, fun D2 hD2 => ?_⟩⟩
    · have z1 := z.1
      rw [show (some (1 : Int)) = some ((1 : Nat) : Int) from rfl, HT.sIx_nat] at z1
      omega
    have h2 : SqT K (upd H1 p2 (.tup (cutV xs (some 1) none))) p xs := (Gr.new (m := []) hp2).tup h1
    refine lc_each (m := []) (walk_zip2M (k1 := false) (k2 := false) (xs := xs) (ys := cutV xs (some 1) none) (n := xs.length - 1) (by omega) (by rw [cut1, List.length_drop] <;> omega) (.inr (by rw [cut1, List.length_drop]))) hD2 (by simp) (by omega) (fun _ j y => y = .bl false) (fun H3 g3 => ⟨g3.tup h2, g3.tup (sqT upd_same)⟩) (fun i x H3 H' hi s y => ?_) (fun H3 acc g3 e1' e2' e3' => ?_)
    · obtain ⟨T2, x1, x2, rfl, hT2, rfl, hx1, hx2⟩ := y
      have hx1 : xs[i]? = some x1 := hx1
      have hx2 : (cutV xs (some 1) none)[i]? = some x2 := hx2
      rw [cut1, List.getElem?_drop, Nat.add_comm] at hx2
      obtain ⟨b1, hb1, hr1⟩ := pgetL hp hx1
      obtain ⟨b2, hb2, hr2⟩ := pgetL hp hx2
      have gg : Gr (D2 :: []) (upd H1 p2 (.tup (cutV xs (some 1) none))) H3 := s.gr
      have gT : Gr [] H3 (upd H3 T2 (.tup [x1, x2])) := Gr.new hT2
      have f1 := (((hr1.gr g).gr (Gr.new (m := []) hp2)).gr gg).gr gT
      have f2 := (((hr2.gr g).gr (Gr.new (m := []) hp2)).gr gg).gr gT
      refine ⟨T2, _, rfl, sqT upd_same, rfl, _, _, rfl, _, _, rfl, rfl, rfl, _, rfl, _, rfl, _, _, b2, b1, rfl, f2, f1, wl.s _ (List.mem_of_getElem? hb2), wl.s _ (List.mem_of_getElem? hb1), s.leaf (fun _ _ _ _ _ z => z) (by omega) gT ?_⟩
      have o := wl.o i b1 b2 hb1 hb2
      rw [decide_eq_false (by omega)]
    · have e4' := bools_of (f := fun _ => false) e2' e3'
      refine ⟨D2, _, rfl, sqL (by rw [e1', e4']), _, rfl, ?_⟩
      rw [any_false (fun _ _ => rfl)]
      exact q _ (g.trans ((Gr.new (m := []) hp2).trans g3))
theorem pu_in_grains (T : Txt K mg) : PureOk (sp_in_grains K) ["steps", "grains"] N_in_grains fun E => t_in_grains K := by
  refine ⟨by rintro _ _ _ _ ⟨_, _, _, rfl, _⟩; rfl, ?_⟩
  rintro _ H Q E ⟨v, gr, l, rfl, ⟨p, xs, rfl, h, hp⟩, wl, hl, g1, g2, q⟩
  have hn : xs.length = l.length := hp.length
  refine ⟨_, rfl, _, rfl, ⟨xs, h⟩, fun D hD => ?_⟩
  refine lc_each (m := []) (walk_tup (xs := xs)) hD (by simp) (by omega) (fun _ j y => y = .int ((l.map fun s => ceilF (mk (s.1 * gr) s.2)).getD j 0)) (fun H1 g => g.tup h) (fun i x H1 H' hi s y => ?_) (fun H1 acc g e1 e2 e3 => ?_)
  · obtain ⟨rfl, hx⟩ := y
    obtain ⟨b, hb, hr⟩ := pgetL hp hx
    obtain ⟨p2, rfl, h2⟩ := hr.gr s.gr
    have wb := wl _ (List.mem_of_getElem? hb)
    have b1 := wb.b1
    have b2 := wb.b2
    refine ⟨rfl, _, rfl, _, _, _, _, rfl, rfl, h2, rfl, _, rfl, _, _, rfl, rfl, .inr ⟨by omega, by omega⟩, _, rfl, _, _, _, _, rfl, rfl, h2, rfl, _, _, rfl, by omega, by omega, fun H2 u gu hu => ⟨_, _, rfl, hu, ?_, ?_, s.leaf (fun _ _ _ _ _ z => z) (by omega) gu ?_⟩⟩
    · show 0 < b.2 / (Int.gcd (b.1 * gr) b.2 : Int)
      have g3 := gcd_pos (a := b.1 * gr) (show 0 < b.2 by omega)
      have g4 := gcd_le (a := b.1 * gr) (show 0 < b.2 by omega)
      exact Int.ediv_pos_of_pos_of_dvd (by omega) (by omega) (Int.gcd_dvd_right ..)
    · show b.2 / (Int.gcd (b.1 * gr) b.2 : Int) < 1073741824
      have := Int.ediv_le_self (Int.gcd (b.1 * gr) b.2 : Int) (show 0 ≤ b.2 by omega)
      omega
    · simp [List.getD, hb]
  · have e4 := ints_of e2 e3
    refine ⟨D, _, rfl, .inl ⟨sqL e1, fun l2 hl2 => q _ _ (g.trans (Gr.new hl2)) ⟨l2, _, rfl, sqT upd_same, ?_⟩⟩⟩
    rw [e4]
    have e5 : (List.range xs.length).map (fun j => (l.map fun s => ceilF (mk (s.1 * gr) s.2)).getD j 0) = l.map fun s => ceilF (mk (s.1 * gr) s.2) := by
      apply List.ext_getElem?
      intro j
      by_cases hj : j < l.length
      · simp [hn, hj, List.getD]
      · rw [List.getElem?_eq_none (by simp; omega), List.getElem?_eq_none (by simp; omega)]
    rw [e5]
    exact paired_isI
end K11
/-! part K11Q4 -/
namespace K11
open PySem PySem.Spec PyProof.Rows L2
variable {K : PySem.W.Frag} {mg : Str → Option Value}
theorem map_getD {α : Type} {l : List α} {d : α} {n : Nat} (h : n = l.length) : (List.range n).map (fun j => l.getD j d) = l := by
  subst h
  apply List.ext_getElem?
  intro j
  by_cases hj : j < l.length
  · simp [hj, List.getD]
  · rw [List.getElem?_eq_none (by simp; omega), List.getElem?_eq_none (by omega)]
theorem getD_of {α : Type} {l : List α} {d x : α} {j : Nat} (h : l[j]? = some x) : l.getD j d = x := by
  simp [List.getD, h]
theorem get_lt {α : Type} {l : List α} {d : α} {j : Nat} (h : j < l.length) : l[j]? = some (l.getD j d) := by
  simp [List.getD, h]
theorem ti_get {H : Hp} {xs : List V} {l : List Int} {j : Nat} (h : Paired IsI xs l) (hj : j < l.length) : xs[j]? = some (V.int (l.getD j 0)) := by
  obtain ⟨x, h1, h2⟩ := pget h (get_lt (d := 0) hj)
  rw [h1]
  exact congrArg some h2
theorem ti_at {H : Hp} {xs : List V} {l : List Int} {j : Nat} {x : V} (h : Paired IsI xs l) (hx : xs[j]? = some x) : x = V.int (l.getD j 0) ∧ j < l.length := by
  obtain ⟨b, h1, h2⟩ := pgetL h hx
  refine ⟨?_, (List.getElem?_eq_some_iff.mp h1).1⟩
  rw [getD_of h1]
  exact h2
theorem WfW.at {ws : List Int} (h : WfW ws) (j : Nat) : 0 ≤ ws.getD j 0 ∧ ws.getD j 0 ≤ 12 := by
  by_cases hj : j < ws.length
  · exact h.w _ (List.mem_of_getElem? (get_lt (d := 0) hj))
  · rw [List.getD, List.getElem?_eq_none (by omega)]
    exact ⟨by decide, by decide⟩
theorem pu_is_filling (T : Txt K mg) : PureOk (sp_is_filling K) ["web", "thing"] N_is_filling fun E => t_is_filling K := by
  refine ⟨by rintro _ _ _ _ ⟨_, _, _, _, _, _, rfl, _⟩; rfl, ?_⟩
  rintro _ H Q E ⟨w, v, g, ws, ps, o, rfl, hw, wf, hv, q⟩
  obtain ⟨a, dx, fs, wv, pv, gs, rfl, h1, h2, h3, h4, h5, ⟨pw, xw, rfl, hx, px⟩, h7, h8, h9⟩ := id hw
  have lw : xw.length = ws.length := px.length
  refine ⟨_, rfl, _, rfl, _, _, _, _, _, rfl, h1, T.webCls, T.noW, h2, _, _, rfl, .inr hx, _, _, o, rfl, hv, ?_, fun H1 g1 => ⟨_, rfl, ?_⟩⟩
  · have := wf.n2
    omega
  rw [lw]
  cases hr : rowOk o ws.length with
  | false =>
    have e : filOk ws o = false := by
      unfold filOk
      rw [hr, Bool.false_and]
    rw [e] at q
    exact q H1 g1
  | true =>
    rcases hv with ⟨l, p, xs, rfl, rfl, h, hp⟩ | ⟨rfl, _⟩
    · have e0 : (decide ((l.length : Int) = ws.length) && l.all Option.isSome) = true := hr
      rw [Bool.and_eq_true, decide_eq_true_iff, List.all_eq_true] at e0
      obtain ⟨e1, e2⟩ := e0
      have lx : xs.length = l.length := hp.length
      have h1' := g1.nl h1 fun _ z => nomatch z
      have hx1 := g1.tup hx
      have hy1 := g1.tup h
      refine ⟨_, rfl, _, rfl, _, _, _, _, _, rfl, h1', T.webCls, T.noW, h2, _, _, _, _, rfl, hy1, hx1, fun D hD => ?_⟩
      refine lc_each (m := []) (walk_zip2K (k1 := false) (k2 := false) (xs := xs) (ys := xw) (n := ws.length) (by omega) (by omega)) hD (by simp) (by have := wf.n2; omega) (fun _ j y => y = .bl (decide ((intsOf (some l)).getD j 0 = 0) || decide (0 < ws.getD j 0))) (fun H3 g3 => ⟨g3.tup hy1, g3.tup hx1⟩) (fun i x H3 H' hi s y => ?_) (fun H3 acc g3 e1' e2' e3' => ?_)
      · obtain ⟨T2, x1, x2, rfl, hT2, rfl, hx1, hx2⟩ := y
        have hx1 : xs[i]? = some x1 := hx1
        have hx2 : xw[i]? = some x2 := hx2
        obtain ⟨b, hb, hr2⟩ := pgetL hp hx1
        obtain ⟨ex2, _⟩ := ti_at (H := H) px hx2
        have hs := e2 b (List.mem_of_getElem? hb)
        rcases hr2 with ⟨i0, rfl, rfl⟩ | ⟨rfl, _⟩
        · have gT : Gr [] H3 (upd H3 T2 (.tup [V.int i0, x2])) := Gr.new hT2
          have ei : (intsOf (some l)).getD i 0 = i0 := by
            unfold intsOf
            simp [List.getD, hb]
          subst ex2
          refine ⟨T2, _, rfl, sqT upd_same, rfl, _, _, rfl, _, _, rfl, rfl, rfl, _, rfl, rfl, _, rfl, ?_⟩
          by_cases h0 : i0 = 0
          · subst h0
            refine s.leaf (fun _ _ _ _ _ z => z) (by have := wf.n2; omega) gT ?_
            rw [ei]
            rfl
          · refine dF (nI h0) ⟨_, rfl, _, _, rfl, rfl, s.leaf (fun _ _ _ _ _ z => z) (by have := wf.n2; omega) gT ?_⟩
            rw [ei, decide_eq_false h0, Bool.false_or]
        · cases hs
      · have e4 := bools_of e2' e3'
        refine ⟨D, _, rfl, sqL (by rw [e1', e4]), ?_⟩
        refine qE ?_ (q _ (g1.trans g3))
        have e5 : filOk ws (some l) = dryOk ws (intsOf (some l)) := by
          unfold filOk
          rw [hr, Bool.true_and]
        rw [e5]
        unfold dryOk
        rw [List.all_map]
        rfl
    · cases hr
theorem pu_check_filling (T : Txt K mg) : PureOk (sp_check_filling K) ["web", "thing"] N_check_filling fun E => t_check_filling K E := by
  refine ⟨by rintro _ _ _ _ ⟨_, _, _, _, _, _, rfl, _⟩; rfl, ?_⟩
  rintro _ H Q E ⟨w, v, g, ws, ps, o, rfl, hw, wf, hv, q⟩
  refine ⟨_, rfl, _, rfl, _, _, g, ws, ps, o, rfl, hw, wf, hv, fun H1 g1 => ⟨_, rfl, ?_⟩⟩
  have q1 := q H1 g1
  cases h : filOk ws o with
  | true => exact q1.1 h
  | false => exact q1.2 h
theorem pu_check_opening (T : Txt K mg) : PureOk (sp_check_opening K) ["web", "thing"] N_check_opening fun E => t_check_opening K E := by
  refine ⟨by rintro _ _ _ _ ⟨_, _, _, _, _, _, rfl, _⟩; rfl, ?_⟩
  rintro _ H Q E ⟨w, v, g, ws, ps, r, rfl, hw, hr, hn, q⟩
  have q1 := q H (Gr.refl _ _)
  refine ⟨_, rfl, rfl, _, rfl, ?_⟩
  rcases hr with ⟨rfl, rfl⟩ | ⟨hv, o, ho, rfl⟩
  · exact q1.1 (by simp)
  · obtain ⟨a, dx, fs, wv, pv, gs, rfl, h1, h2, h3, h4, h5, h6, ⟨pp, xp, rfl, hp, pp2⟩, h8, h9⟩ := id hw
    have lp : xp.length = ps.length := pp2.length
    refine dNF hv ⟨_, rfl, _, rfl, _, _, _, _, _, rfl, h1, T.webCls, T.noP, h3, _, _, rfl, .inr hp, _, _, o, rfl, ho, _, rfl, ?_⟩
    rw [lp]
    cases h : lotOk o ps.length with
    | true =>
      refine q1.1 ?_
      rw [h]
      simp
    | false =>
      refine q1.2 ?_
      rw [h]
      simp
theorem pu_are_widths (T : Txt K mg) : PureOk (sp_are_widths K) ["thing"] N_are_widths fun E => t_are_widths K := by
  refine ⟨by rintro _ _ _ _ ⟨_, _, rfl, _⟩; rfl, ?_⟩
  rintro _ H Q E ⟨v, ws, rfl, ⟨p, xs, rfl, h, hp⟩, wf, q⟩
  have hl : xs.length = ws.length := hp.length
  have n1 := wf.n1
  have n2 := wf.n2
  refine ⟨_, rfl, _, _, _, _, _, rfl, ClsV.ty _, sqT_ty h, kTT, _, rfl, _, rfl, _, _, rfl, .inr h, _, _, rfl, rfl, _, rfl, ?_⟩
  refine dT (show (1 : Int) ≤ (xs.length : Int) by omega) ⟨_, _, rfl, rfl, _, rfl, ?_⟩
  refine dNT (show (xs.length : Int) ≤ 12 by omega) ⟨_, rfl, _, rfl, ⟨xs, h⟩, fun D hD => ?_⟩
  refine lc_each (m := []) (walk_tup (xs := xs)) hD (by simp) (by omega) (fun _ j y => y = .bl true) (fun H1 g => g.tup h) (fun i x H1 H' hi s y => ?_) (fun H1 acc g e1 e2 e3 => ?_)
  · obtain ⟨rfl, hx⟩ := y
    obtain ⟨rfl, hj⟩ := ti_at (H := H) hp hx
    have wa := wf.at i
    exact ⟨rfl, _, rfl, _, rfl, wa.1, wa.2, s.leaf (fun _ _ _ _ _ z => z) (by omega) (Gr.refl _ _) rfl⟩
  · have e4 := bools_of (f := fun _ => true) e2 e3
    refine ⟨D, _, rfl, sqL (by rw [e1, e4]), ?_⟩
    exact qE (by rw [all_true (fun _ _ => rfl)]) (q _ g)
theorem pu_is_pipe (T : Txt K mg) : PureOk (sp_is_pipe K) ["thing", "many"] N_is_pipe fun E => t_is_pipe K := by
  refine ⟨by rintro _ _ _ _ ⟨_, _, _, rfl, _⟩; rfl, ?_⟩
  rintro _ H Q E ⟨v, n, P, rfl, ⟨p, s, rfl, h, hs⟩, wf, q⟩
  have w1 := wf.lt
  have w2 := wf.u
  have e1 : btw (some (P.one : Int)) 0 ((n : Int) - 1) = true := by
    unfold btw
    simp
    omega
  have e2 : btw (some (P.other : Int)) ((P.one : Int) + 1) ((n : Int) - 1) = true := by
    unfold btw
    simp
    omega
  refine ⟨_, rfl, _, _, rfl, h, _, rfl, _, rfl, _, _, _, _, rfl, rfl, h, rfl, _, rfl, _, _, rfl, rfl, _, _, _, _, rfl, itm_int, _, rfl, ?_⟩
  rw [e1]
  refine ⟨_, rfl, _, _, _, _, rfl, rfl, h, rfl, _, rfl, _, _, _, _, rfl, rfl, h, rfl, _, _, rfl, rfl, _, rfl, _, _, rfl, rfl, _, _, _, _, rfl, itm_int, _, rfl, ?_⟩
  exact bT e2 ⟨_, rfl, _, _, _, _, rfl, rfl, h, rfl, _, _, rfl, hs, wf.l, q⟩
theorem pg_pos {w o : Int} (h1 : 0 ≤ w) (h2 : w ≤ 12) (h3 : 0 ≤ o) (h4 : o ≤ 12) : 1 ≤ pg w o ∧ pg w o ≤ 144 := by
  unfold pg
  by_cases h : w = 0 ∨ o = 0
  · rw [if_pos h]
    unfold max3
    constructor <;> (split <;> split at * <;> omega)
  · rw [if_neg h]
    have hw : 0 < w := by omega
    have ho : 0 < o := by omega
    have g1 := gcd_pos (a := w) ho
    have e1 : 0 < w / (Int.gcd w o : Int) := Int.ediv_pos_of_pos_of_dvd hw (by omega) (Int.gcd_dvd_left ..)
    have e2 : w / (Int.gcd w o : Int) ≤ 12 := by
      have := Int.ediv_le_self (Int.gcd w o : Int) h1
      omega
    constructor
    · have := Int.mul_pos e1 ho
      omega
    · calc w / (Int.gcd w o : Int) * o ≤ 12 * 12 := Int.mul_le_mul e2 h4 h3 (by omega)
        _ = 144 := by decide
end K11
/-! part K11Q5 -/
namespace K11
open PySem PySem.Spec PyProof.Rows L2
variable {K : PySem.W.Frag} {mg : Str → Option Value}
/-- tuples stay -/
def Tk (H H' : Hp) : Prop := ∀ b xs, (H b = some (.tup xs) → H' b = some (.tup xs)) ∧ ∀ o, H b = some (.frz o (.tup xs)) → H' b = some (.frz o (.tup xs))
section
variable {α : Type} {m : List Addr} {H H1 H2 : Hp} {v : V} {a : Addr} {xs : List V}
theorem Gr.tk (g : Gr m H H1) : Tk H H1 := fun b xs => ⟨fun h => g.nl h (fun _ z => nomatch z), fun o h => g.nl h (fun _ z => nomatch z)⟩
theorem Tk.trans (x : Tk H H1) (y : Tk H1 H2) : Tk H H2 := fun b xs => ⟨fun h => (y b xs).1 ((x b xs).1 h), fun o h => (y b xs).2 o ((x b xs).2 o h)⟩
theorem Tk.ins {C dx C' dx' : Addr} {fs fs' : List (Str × V)} (h : H a = some (.ins C dx fs)) : Tk H (upd H a (.ins C' dx' fs')) := fun b xs =>
  ⟨fun e => by
    by_cases hb : b = a
    · subst hb
      rw [h] at e
      cases e
    · rw [upd_ne hb]
      exact e, fun o e => by
    by_cases hb : b = a
    · subst hb
      rw [h] at e
      cases e
    · rw [upd_ne hb]
      exact e⟩
theorem Tk.tup (k : Tk H H1) (h : SqT K H a xs) : SqT K H1 a xs := h.imp (fun z => z.imp (fun w => (k _ _).1 w) fun ⟨o, w⟩ => ⟨o, (k _ _).2 o w⟩) id
theorem Fr.tk {f : Int × Int} (h : Fr K H v f) (g : Tk H H1) : Fr K H1 v f := let ⟨p, e, q⟩ := h; ⟨p, e, g.tup q⟩
theorem Tu.tk {R R' : V → α → Prop} {l : List α} (h : Tu K H R v l) (g : Tk H H1) (r : ∀ x a, R x a → R' x a) : Tu K H1 R' v l := let ⟨p, xs, e, q, z⟩ := h; ⟨p, xs, e, g.tup q, L2.Paired.mapP z r⟩
theorem Ti.tk {l : List Int} (h : Ti K H v l) (g : Tk H H1) : Ti K H1 v l := Tu.tk h g fun _ _ z => z
theorem Ts.tk {l : List (Int × Int)} (h : Ts K H v l) (g : Tk H H1) : Ts K H1 v l := Tu.tk h g fun _ _ z => z.tk g
theorem Pi.tk {P : PipeD} (h : Pi K H v P) (g : Tk H H1) : Pi K H1 v P := let ⟨p, s, e, q, z⟩ := h; ⟨p, s, e, g.tup q, z.tk g⟩
theorem Ps.tk {l : List PipeD} (h : Ps K H v l) (g : Tk H H1) : Ps K H1 v l := Tu.tk h g fun _ _ z => z.tk g
theorem Ga.tk {G : GaugeD} (h : Ga K H v G) (g : Tk H H1) : Ga K H1 v G := let ⟨p, u, e, q, z⟩ := h; ⟨p, u, e, g.tup q, z.tk g⟩
theorem GrX.of {x : Addr} (g : Gr [] H H1) : GrX x H H1 := fun b o _ e => g.at e (by simp)
theorem GrX.trans {x : Addr} (g : GrX x H H1) (h : GrX x H1 H2) : GrX x H H2 := fun b o n e => h b o n (g b o n e)
theorem GrX.upd {x : Addr} {o : HO} : GrX x H (upd H x o) := fun b u n e => by rw [upd_ne n]; exact e
end
theorem pu_gauge (T : Txt K mg) : PureOk (sp_gauge K) ["widths", "pipe"] N_gauge fun E => t_gauge K := by
  refine ⟨by rintro _ _ _ _ ⟨_, _, _, _, rfl, _⟩; rfl, ?_⟩
  rintro _ H Q E ⟨w, v, ws, P, rfl, ⟨pw, xw, rfl, hw, pw2⟩, wf, ⟨p, s, rfl, h, hs⟩, wp, q⟩
  have w1 := wp.lt
  have w2 := wp.u
  have a1 := wf.at P.one
  have a2 := wf.at P.other
  have lw : xw.length = ws.length := pw2.length
  have i1 : xw[P.one]? = some (V.int (ws.getD P.one 0)) := ti_get (H := H) pw2 (by omega)
  have i2 : xw[P.other]? = some (V.int (ws.getD P.other 0)) := ti_get (H := H) pw2 (by omega)
  have gp := pg_pos a1.1 a1.2 a2.1 a2.2
  refine ⟨_, rfl, p, _, rfl, h, rfl, _, _, rfl, _, _, rfl, _, _, rfl, rfl, ?_⟩
  refine ⟨_, rfl, _, rfl, _, _, _, _, rfl, rfl, hw, atI_nat i1, _, rfl, _, rfl, _, _, _, _, rfl, rfl, hw, atI_nat i2, _, _, rfl, a1.1, a1.2, a2.1, a2.2, ?_⟩
  refine ⟨_, rfl, _, rfl, sz (n := 2) (by omega), fun p2 hp2 => ⟨p2, rfl, ⟨_, sqT upd_same⟩, fun D hD => ?_⟩⟩
  have g2 : Gr [] H (upd H p2 (.tup [.int P.one, .int P.other])) := Gr.new hp2
  refine lc_each (m := []) (walk_tup (K := K) (a := p2) (xs := [.int P.one, .int P.other])) hD (by simp) (by show 2 ≤ 50000; omega) (fun _ j y => y = .int (if j = 0 then (gaugeOf ws P).here else (gaugeOf ws P).there)) (fun H1 g => g.tup (sqT upd_same)) (fun i x H1 H' hi st y => ?_) (fun H1 acc g e1 e2 e3 => ?_)
  · obtain ⟨rfl, hx⟩ := y
    have hw1 := st.gr.tup (g2.tup hw)
    have hi : i < 2 := hi
    have hc : i = 0 ∨ i = 1 := by omega
    rcases hc with rfl | rfl
    · have ex : V.int P.one = x := Option.some.inj hx
      subst ex
      refine ⟨rfl, _, rfl, _, rfl, _, _, _, _, rfl, rfl, hw1, atI_nat i1, rfl, _, rfl, ?_⟩
      by_cases h0 : ws.getD P.one 0 = 0
      · refine dT (by rw [h0]) (st.leaf (fun _ _ _ _ _ z => z) (by omega) (Gr.refl _ _) ?_)
        rw [if_pos rfl]
        show V.int 0 = V.int (if ws.getD P.one 0 = 0 then 0 else _)
        rw [if_pos h0]
      · refine dF (nI h0) ⟨_, rfl, _, rfl, _, rfl, _, _, _, _, rfl, rfl, hw1, atI_nat i1, _, _, rfl, rfl, ⟨by omega, by omega⟩, st.leaf (fun _ _ _ _ _ z => z) (by omega) (Gr.refl _ _) ?_⟩
        rw [if_pos rfl]
        show _ = V.int (if ws.getD P.one 0 = 0 then 0 else _)
        rw [if_neg h0]
    · have ex : V.int P.other = x := Option.some.inj hx
      subst ex
      refine ⟨rfl, _, rfl, _, rfl, _, _, _, _, rfl, rfl, hw1, atI_nat i2, rfl, _, rfl, ?_⟩
      by_cases h0 : ws.getD P.other 0 = 0
      · refine dT (by rw [h0]) (st.leaf (fun _ _ _ _ _ z => z) (by omega) (Gr.refl _ _) ?_)
        rw [if_neg (by decide)]
        show V.int 0 = V.int (if ws.getD P.other 0 = 0 then 0 else _)
        rw [if_pos h0]
      · refine dF (nI h0) ⟨_, rfl, _, rfl, _, rfl, _, _, _, _, rfl, rfl, hw1, atI_nat i2, _, _, rfl, rfl, ⟨by omega, by omega⟩, st.leaf (fun _ _ _ _ _ z => z) (by omega) (Gr.refl _ _) ?_⟩
        rw [if_neg (by decide)]
        show _ = V.int (if ws.getD P.other 0 = 0 then 0 else _)
        rw [if_neg h0]
  · have e2 : acc.length = 2 := e2
    have gg := g2.trans g
    have q0 : acc[0]? = some (V.int (gaugeOf ws P).here) := by
      have z := e3 0 (acc[0]'(by omega)) (by simp [e2])
      rw [List.getElem?_eq_getElem (by omega), z, if_pos rfl]
    have q1 : acc[1]? = some (V.int (gaugeOf ws P).there) := by
      have z := e3 1 (acc[1]'(by omega)) (by simp [e2])
      rw [List.getElem?_eq_getElem (by omega), z, if_neg (by decide)]
    refine ⟨_, rfl, _, rfl, _, rfl, _, _, (0 : Nat), _, rfl, rfl, sqL e1, atI_nat q0, _, rfl, _, _, (1 : Nat), _, rfl, rfl, sqL e1, atI_nat q1, _, rfl, _, rfl, _, _, P.steps, rfl, hs.gr gg, wp.l.s, by have := wp.l.n2; omega, by omega, gp.2, fun H2 u gu hu => ⟨_, rfl, sz (n := 6) (by omega), fun p3 hp3 => q _ _ (gg.trans (gu.trans (Gr.new hp3))) ⟨p3, u, rfl, sqT upd_same, hu.gr (Gr.new (m := []) hp3)⟩⟩⟩
theorem pu_begin (T : Txt K mg) : PureOk (sp_begin K) ["self", "widths", "pipes"] N_begin fun E => t_begin K := by
  refine ⟨by rintro _ _ _ _ ⟨_, _, _, _, _, rfl, _⟩; rfl, ?_⟩
  rintro _ H Q E ⟨x, wv, pv, ws, ps, rfl, ⟨⟨dx, hx⟩, hw, wf, hp, wa⟩, q⟩
  refine ⟨_, rfl, _, rfl, x, webC K, dx, [], rfl, hx, T.webCls, T.noW, by decide, ?_⟩
  refine ⟨_, rfl, _, rfl, x, webC K, dx, _, rfl, upd_same, T.webCls, T.noP, (show 1 < 1000 by decide), ?_⟩
  rw [upd_upd]
  have k1 : Tk H (upd H x (.ins (webC K) dx (putF "pipes" pv (putF "widths" wv [])))) := Tk.ins hx
  obtain ⟨pp, xp, rfl, hpp, pp2⟩ := id (hp.tk k1)
  have lp : xp.length = ps.length := pp2.length
  refine ⟨_, rfl, pp, rfl, ⟨xp, hpp⟩, fun D hD => ?_⟩
  have hDx : D ≠ x := fun z => by
    rw [z, upd_same] at hD
    cases hD
  have hD0 : H D = none := by
    rw [upd_ne hDx] at hD
    exact hD
  have wac := wa.c
  refine lc_each (m := []) (walk_tup (xs := xp)) hD (by simp) (by omega) (fun H j y => Ga K H y ((ps.map (gaugeOf ws)).getD j ⟨0, 0, 0, 0, [], 0⟩)) (fun H1 g => g.tup hpp) (fun i z H1 H' hi s y => ?_) (fun H1 acc g e1 e2 e3 => ?_)
  · obtain ⟨rfl, hz⟩ := y
    obtain ⟨P, hP, hr⟩ := pgetL pp2 hz
    have wP := wa.p _ (List.mem_of_getElem? hP)
    refine ⟨rfl, _, rfl, _, rfl, _, _, ws, P, rfl, (hw.tk k1).gr s.gr, wf, hr.gr s.gr, wP, fun H2 u gu hu => s.leaf (fun _ _ _ _ g z => z.gr g) (by omega) gu ?_⟩
    rw [getD_of (show (ps.map (gaugeOf ws))[i]? = some (gaugeOf ws P) by simp [hP])]
    exact hu
  · have hx1 : H1 x = some (.ins (webC K) dx (putF "pipes" (.ref pp) (putF "widths" wv []))) := g.nl upd_same (fun _ z => nomatch z)
    refine ⟨_, rfl, x, webC K, dx, _, rfl, hx1, T.webCls, T.noG, (show 2 < 1000 by decide), ?_⟩
    have k2 : Tk H1 (upd H1 x (.ins (webC K) dx (putF "gauges" (.ref D) (putF "pipes" (.ref pp) (putF "widths" wv []))))) := Tk.ins hx1
    refine q _ D ((GrX.upd.trans (GrX.of g)).trans GrX.upd) hD0 ⟨x, dx, _, _, _, _, rfl, upd_same, rfl, rfl, rfl, rfl, ((hw.tk k1).gr g).tk k2, ((hp.tk k1).gr g).tk k2, sqL (xs := acc) (by rw [upd_ne hDx]; exact e1), ?_⟩
    refine paired_of (by rw [e2, List.length_map, lp]) fun i a b ha hb => ?_
    have z := e3 i a ha
    rw [getD_of hb] at z
    exact z.tk k2
theorem pu_init (T : Txt K mg) : PureOk (sp_init K) ["self", "widths", "pipes"] N_init fun E => t_init K := by
  refine ⟨by rintro _ _ _ _ ⟨_, _, _, _, _, rfl, _⟩; rfl, ?_⟩
  rintro _ H Q E ⟨x, wv, pv, ws, ps, rfl, ⟨⟨dx, hx⟩, hw, wf, hp, wa⟩, q⟩
  have wac := wa.c
  refine ⟨_, rfl, _, ws, rfl, hw, wf, fun H1 g1 => ⟨_, rfl, ?_⟩⟩
  obtain ⟨pp, xp, rfl, hpp, pp2⟩ := id (hp.gr g1)
  have lp : xp.length = ps.length := pp2.length
  obtain ⟨pw, xw, rfl, hww, pw2⟩ := id (hw.gr g1)
  have lw : xw.length = ws.length := pw2.length
  refine ⟨_, rfl, _, _, _, _, _, rfl, ClsV.ty _, sqT_ty hpp, kTT, _, rfl, _, rfl, _, _, rfl, .inr hpp, _, _, rfl, rfl, _, rfl, ?_⟩
  refine dF (show ¬ (36 : Int) < (xp.length : Int) by omega) ⟨_, rfl, _, _, rfl, hpp, ?_⟩
  refine for_it (walk_enumK (k := false) (a := pp) (xs := xp) (n := xp.length) rfl) (fun i σ H' => Gr [] H1 H' ∧ ∃ z1 z2, σ = [some (V.ref x), some (.ref pw), some (.ref pp), z1, z2]) ⟨Gr.refl _ _, _, _, rfl⟩ (fun i σ H' _ z => z.1.tup hpp) (fun i y σ H2 H3 hi ⟨g2, z1, z2, e2⟩ yy => ?_) (fun σ H2 ⟨g2, z1, z2, e2⟩ => ?_)
  · subst e2
    obtain ⟨T2, x1, x2, rfl, hT2, rfl, hx1, hx2⟩ := yy
    have hx2 : xp[i]? = some x2 := hx2
    obtain ⟨P, hP, hr⟩ := pgetL pp2 hx2
    have wP := wa.p _ (List.mem_of_getElem? hP)
    have gT : Gr [] H2 (upd H2 T2 (.tup [x1, x2])) := Gr.new hT2
    have gg := g2.trans gT
    refine ⟨T2, _, rfl, sqT upd_same, rfl, _, _, rfl, _, _, rfl, rfl, ?_⟩
    refine ⟨_, rfl, _, rfl, _, _, rfl, .inr (gg.tup hww), _, ws.length, P, ?_, hr.gr gg, wP, fun H4 g4 => ⟨_, rfl, gg.trans g4, _, _, rfl⟩⟩
    rw [lw]
    rfl
  · subst e2
    have gg := g1.trans g2
    refine ⟨_, rfl, x, dx, [], rfl, gg.nl hx (fun _ z => nomatch z), rfl, _, rfl, _, rfl, x, _, _, ws, ps, rfl, ⟨⟨dx, gg.nl hx (fun _ z => nomatch z)⟩, hw.gr gg, wf, hp.gr gg, wa⟩, fun H4 g gX hg wb => q _ g ((GrX.of gg).trans gX) (gg.fresh hg) wb⟩
end K11
/-! part K11Q6 -/
namespace K11
open PySem PySem.Spec PyProof.Rows L2
variable {K : PySem.W.Frag} {mg : Str → Option Value}
theorem wipe_get (σ : L2.St) (k : Nat) : ∀ vs : List Nat, (wipe σ vs)[k]? = if k ∈ vs then σ[k]?.map fun _ => none else σ[k]?
  | [] => rfl
  | v :: vs => by
    show ((wipe σ vs).set v none)[k]? = _
    rw [List.getElem?_set]
    by_cases h : v = k
    · subst h
      rw [if_pos rfl, if_pos (List.mem_cons_self ..), wipe_length]
      by_cases hl : v < σ.length
      · rw [if_pos hl, List.getElem?_eq_getElem hl]
        rfl
      · rw [if_neg hl, List.getElem?_eq_none (by omega)]
        rfl
    · rw [if_neg h, wipe_get σ k vs]
      by_cases hk : k ∈ vs
      · rw [if_pos hk, if_pos (List.mem_cons_of_mem _ hk)]
      · rw [if_neg hk, if_neg (fun z => (List.mem_cons.mp z).elim (fun e => h e.symm) hk)]
theorem wipe_set {σ : L2.St} {vs : List Nat} {i : Nat} {x : Option V} (h : i ∈ vs) : wipe (σ.set i x) vs = wipe σ vs := by
  apply List.ext_getElem?
  intro k
  rw [wipe_get, wipe_get]
  by_cases hk : k ∈ vs
  · rw [if_pos hk, if_pos hk, List.getElem?_set]
    by_cases e : i = k
    · subst e
      rw [if_pos rfl]
      by_cases hl : i < σ.length
      · rw [if_pos hl, List.getElem?_eq_getElem hl]
        rfl
      · rw [if_neg hl, List.getElem?_eq_none (by omega)]
    · rw [if_neg e]
  · rw [if_neg hk, if_neg hk, List.getElem?_set, if_neg (fun e => hk (by rw [← e]; exact h))]
theorem wipe_idem {σ : L2.St} {vs : List Nat} : wipe (wipe σ vs) vs = wipe σ vs := by
  apply List.ext_getElem?
  intro k
  rw [wipe_get, wipe_get]
  by_cases hk : k ∈ vs
  · rw [if_pos hk, if_pos hk]
    cases σ[k]? <;> rfl
  · rw [if_neg hk, if_neg hk]
def cntU (l : List Int) (d : Int) : Nat := (l.filter fun u => decide (u ≤ d)).length
theorem cnt_snoc (l : List Int) (d : Int) (i : Nat) (hi : i < l.length) : cntU (l.take (i + 1)) d = cntU (l.take i) d + if l.getD i 0 ≤ d then 1 else 0 := by
  unfold cntU
  rw [List.take_succ, get_lt (d := 0) hi, List.filter_append, List.length_append]
  congr 1
  show (List.filter _ [l.getD i 0]).length = _
  by_cases h : l.getD i 0 ≤ d
  · rw [if_pos h, List.filter_cons, if_pos (decide_eq_true h)]
    rfl
  · rw [if_neg h, List.filter_cons, if_neg (by rw [decide_eq_true_iff]; exact h)]
    rfl
theorem pu_runs_at (T : Txt K mg) : PureOk (sp_runs_at K) ["units", "number"] N_runs_at fun E => t_runs_at K := by
  refine ⟨by rintro _ _ _ _ ⟨_, _, _, rfl, _⟩; rfl, ?_⟩
  rintro _ H Q E ⟨v, l, d, rfl, ⟨p, xs, rfl, h, hp⟩, hn, q⟩
  have hl : xs.length = l.length := hp.length
  refine ⟨_, rfl, p, rfl, ⟨xs, h⟩, fun D hD => ?_⟩
  refine lc_some (m := []) (walk_tup (xs := xs)) hD (by simp) (by omega) (fun i acc => acc.length = cntU (l.take i) (absI d)) rfl (fun H1 g => g.tup h) (fun i x H1 H' hi s y => ?_) (fun H1 acc g e1 e2 e3 => ?_)
  · obtain ⟨rfl, hx⟩ := y
    obtain ⟨rfl, hj⟩ := ti_at (H := H) hp hx
    refine ⟨rfl, _, rfl, _, rfl, _, rfl, _, _, rfl, rfl, _, rfl, ?_⟩
    have cs := cnt_snoc l (absI d) i hj
    by_cases hc : l.getD i 0 ≤ absI d
    · rw [if_pos hc] at cs
      refine dT hc ⟨_, rfl, s.leaf (by omega) (Gr.refl _ _) fun acc _ e => ?_⟩
      rw [List.length_append, e, cs]
      rfl
    · rw [if_neg hc] at cs
      refine dF hc (s.skip (by omega) (Gr.refl _ _) fun acc _ e => ?_)
      rw [e, cs]
      rfl
  · rw [hl, List.take_length] at e3
    have q1 := q _ g
    refine ⟨D, acc, rfl, .inl (sqL e1), _, rfl, _, _, rfl, rfl, _, rfl, ?_⟩
    have ec : (acc.length : Int) = ((l.filter fun u => decide (u ≤ absI d)).length : Int) := by
      rw [e3]
      rfl
    by_cases h0 : (0 : Int) < d
    · refine dT h0 ⟨_, rfl, ?_⟩
      refine qE ?_ q1
      rw [ec]
      unfold runsAt
      rw [if_pos h0]
    · refine dF h0 ⟨_, rfl, _, rfl, ?_⟩
      refine qE ?_ q1
      rw [ec]
      unfold runsAt
      rw [if_neg h0]
structure GBd (n : Nat) (G : GaugeD) : Prop where
  one : G.one < n
  other : G.other < n
  h1 : 0 ≤ G.here
  h2 : G.here ≤ 144
  t1 : 0 ≤ G.there
  t2 : G.there ≤ 144
  g1 : 1 ≤ G.grains
  g2 : G.grains ≤ 144
  u : G.units.length ≤ 1000
theorem gbd_of {ws : List Int} {P : PipeD} (wf : WfW ws) (wp : WfP ws.length P) : GBd ws.length (gaugeOf ws P) := by
  have w1 := wp.lt
  have w2 := wp.u
  have a1 := wf.at P.one
  have a2 := wf.at P.other
  have gp := pg_pos a1.1 a1.2 a2.1 a2.2
  have key : ∀ w : Int, 0 ≤ w → 0 ≤ (if w = 0 then 0 else pg (ws.getD P.one 0) (ws.getD P.other 0) / w) ∧ (if w = 0 then 0 else pg (ws.getD P.one 0) (ws.getD P.other 0) / w) ≤ 144 := by
    intro w hw
    by_cases h : w = 0
    · rw [if_pos h]
      exact ⟨by decide, by decide⟩
    · rw [if_neg h]
      have := Int.ediv_le_self w (show 0 ≤ pg (ws.getD P.one 0) (ws.getD P.other 0) by omega)
      have := Int.ediv_nonneg (show 0 ≤ pg (ws.getD P.one 0) (ws.getD P.other 0) by omega) hw
      omega
  have n2 := wp.l.n2
  refine ⟨by show P.one < _; omega, w2, (key _ a1.1).1, (key _ a1.1).2, (key _ a2.1).1, (key _ a2.1).2, gp.1, gp.2, ?_⟩
  show (List.map _ P.steps).length ≤ 1000
  rw [List.length_map]
  omega
theorem gbd_at {ws : List Int} {ps : List PipeD} {i : Nat} {G : GaugeD} (wf : WfW ws) (wa : WfA ws.length ps) (h : (ps.map (gaugeOf ws))[i]? = some G) : GBd ws.length G := by
  rw [List.getElem?_map] at h
  obtain ⟨P, hP, rfl⟩ := Option.map_eq_some_iff.mp h
  exact gbd_of wf (wa.p _ (List.mem_of_getElem? hP))
theorem lii_of {H : Hp} {D : Addr} {acc : List V} {l : List Int} (e1 : H D = some (.lst acc)) (e2 : acc.length = l.length) (e3 : ∀ j y, acc[j]? = some y → y = V.int (l.getD j 0)) : Lii K H (.ref D) l :=
  ⟨D, acc, rfl, sqL e1, paired_of e2 fun i a b ha hb => by
    have z := e3 i a ha
    rw [getD_of hb] at z
    exact z⟩
theorem pu_drops_in_grains (T : Txt K mg) : PureOk (sp_drops_in_grains K) ["web", "filling"] N_drops_in_grains fun E => t_drops_in_grains K := by
  refine ⟨by rintro _ _ _ _ ⟨_, _, _, _, _, _, rfl, _⟩; rfl, ?_⟩
  rintro _ H Q E ⟨w, v, g, ws, ps, fl, rfl, ⟨hw, wf, wa, ⟨pf, xf, rfl, hf, pf2⟩, lf⟩, q⟩
  obtain ⟨a, dx, fs, wv, pv, gs, rfl, h1, h2, h3, h4, h5, h6, h7, h8, h9⟩ := id hw
  have lg : gs.length = ps.length := by rw [h9.length, List.length_map]
  have wac := wa.c
  refine ⟨_, rfl, _, _, _, _, _, rfl, h1, T.webCls, T.noG, h4, g, rfl, ⟨gs, h8⟩, fun D hD => ?_⟩
  refine lc_each (m := []) (walk_list (xs := gs)) hD (by simp) (by omega) (fun _ j y => y = .int (((ps.map (gaugeOf ws)).map (dropN fl)).getD j 0)) (fun H1 g => g.lstN h8 (by simp) hD) (fun i x H1 H' hi s y => ?_) (fun H1 acc g e1 e2 e3 => ?_)
  · obtain ⟨rfl, hx⟩ := y
    obtain ⟨G, hG, hr⟩ := pgetL h9 hx
    obtain ⟨pG, u, rfl, hg, hu⟩ := hr.gr s.gr
    have bd := gbd_at wf wa hG
    have b1 := bd.one
    have b2 := bd.other
    have b3 := bd.h1
    have b4 := bd.h2
    have b5 := bd.t1
    have b6 := bd.t2
    have hf1 := s.gr.tup hf
    have i1 : xf[G.one]? = some (V.int (fl.getD G.one 0)) := ti_get (H := H) pf2 (by omega)
    have i2 : xf[G.other]? = some (V.int (fl.getD G.other 0)) := ti_get (H := H) pf2 (by omega)
    refine ⟨pG, _, rfl, hg, rfl, _, _, rfl, _, _, rfl, _, _, rfl, _, _, rfl, _, _, rfl, _, _, rfl, rfl, ?_, ?_⟩
    · repeat rw [wipe_set (by decide)]
      exact wipe_idem
    have c1 : CMul (fl.getD G.one 0) G.here := .inr ⟨by omega, by omega⟩
    have c2 : CMul (fl.getD G.other 0) G.there := .inr ⟨by omega, by omega⟩
    refine ⟨_, rfl, _, rfl, _, _, _, _, rfl, rfl, hf1, atI_nat i1, ?_⟩
    refine ⟨_, rfl, ?_⟩
    refine ⟨_, _, rfl, rfl, c1, ?_⟩
    refine ⟨_, rfl, _, rfl, _, _, _, _, rfl, rfl, hf1, atI_nat i2, ?_⟩
    refine ⟨_, rfl, _, _, rfl, rfl, c2, ?_⟩
    refine ⟨_, _, rfl, rfl, s.leaf (fun _ _ _ _ _ z => z) (by omega) (Gr.refl _ _) ?_⟩
    rw [getD_of (show ((ps.map (gaugeOf ws)).map (dropN fl))[i]? = some (dropN fl G) by rw [List.getElem?_map, hG]; rfl)]
    rfl
  · exact q _ _ g (lii_of e1 (by rw [e2, lg, List.length_map, List.length_map]) e3)
theorem pu_flows_of (T : Txt K mg) : PureOk (sp_flows_of K) ["web", "filling"] N_flows_of fun E => t_flows_of K := by
  refine ⟨by rintro _ _ _ _ ⟨_, _, _, _, _, _, rfl, _⟩; rfl, ?_⟩
  rintro _ H Q E ⟨w, v, g, ws, ps, fl, rfl, pre, q⟩
  obtain ⟨hw, wf, wa, hf, lf⟩ := id pre
  obtain ⟨a, dx, fs, wv, pv, gs, rfl, h1, h2, h3, h4, h5, h6, h7, h8, h9⟩ := id hw
  have lg : gs.length = ps.length := by rw [h9.length, List.length_map]
  have wac := wa.c
  refine ⟨_, rfl, _, _, _, _, _, rfl, h1, T.webCls, T.noG, h4, _, rfl, _, rfl, _, _, g, ws, ps, fl, rfl, pre, fun H1 u g1 hu => ?_⟩
  obtain ⟨pu, xu, rfl, hu2, pu2⟩ := hu
  have lu : xu.length = ps.length := by rw [pu2.length, List.length_map, List.length_map]
  have h81 : SqL K H1 g gs := g1.lst h8 (by simp)
  refine ⟨g, pu, gs, xu, rfl, h81, hu2, fun D hD => ?_⟩
  refine lc_each (m := []) (walk_zip2K (k1 := true) (k2 := true) (xs := gs) (ys := xu) (n := ps.length) lg lu) hD (by simp) (by omega) (fun _ j y => y = .int ((runsOf ws ps fl).getD j 0)) (fun H3 g3 => ⟨g3.lstN h81 (by simp) hD, g3.lstN hu2 (by simp) hD⟩) (fun i x H3 H' hi s y => ?_) (fun H3 acc g3 e1 e2 e3 => ?_)
  · obtain ⟨T2, x1, x2, rfl, hT2, rfl, hx1, hx2⟩ := y
    have hx1 : gs[i]? = some x1 := hx1
    have hx2 : xu[i]? = some x2 := hx2
    obtain ⟨G, hG, hr⟩ := pgetL h9 hx1
    obtain ⟨ex2, _⟩ := ti_at (H := H) pu2 hx2
    have gT : Gr [] H3 (upd H3 T2 (.tup [x1, x2])) := Gr.new hT2
    obtain ⟨pG, u, rfl, hg, hu⟩ := ((hr.gr g1).gr s.gr).gr gT
    have bd := gbd_at wf wa hG
    subst ex2
    refine ⟨T2, _, rfl, sqT upd_same, rfl, _, _, rfl, _, _, rfl, rfl, rfl, _, rfl, _, _, _, _, rfl, rfl, hg, rfl, _, rfl, _, _, _, rfl, hu, bd.u, fun H5 g5 => s.leaf (fun _ _ _ _ _ z => z) (by omega) (gT.trans g5) ?_⟩
    have e1 : (runsOf ws ps fl)[i]? = some (runsAt G.units (dropN fl G)) := by
      unfold runsOf
      rw [List.getElem?_map, hG]
      rfl
    rw [getD_of e1, getD_of (show ((ps.map (gaugeOf ws)).map (dropN fl))[i]? = some (dropN fl G) by rw [List.getElem?_map, hG]; rfl)]
  · exact q _ _ (g1.trans g3) (lii_of e1 (by rw [e2]; unfold runsOf; rw [List.length_map, List.length_map]) e3)
theorem inV_ints (i : Int) (l : List Int) : inV (.int i) (l.map V.int) = l.contains i := by
  unfold inV
  rw [List.any_map, List.contains_eq_any_beq]
  congr 1
  funext j
  show (j == i) = (i == j)
  exact Bool.beq_comm
theorem flat_ints (l : List Int) : (l.map V.int).all flatV = true := by
  rw [List.all_map, List.all_eq_true]
  intro x _
  rfl
theorem pu_opened (T : Txt K mg) : PureOk (sp_opened K) ["numbers", "opening"] N_opened fun E => t_opened K := by
  refine ⟨by rintro _ _ _ _ ⟨_, _, _, _, rfl, _⟩; rfl, ?_⟩
  rintro _ H Q E ⟨u, v, ns, op, rfl, ⟨p, xs, rfl, h, hp⟩, hn, ho, q⟩
  have hl : xs.length = ns.length := hp.length
  refine ⟨_, rfl, rfl, _, rfl, ?_⟩
  rcases ho with ⟨rfl, rfl⟩ | ⟨hv, l, rfl, ⟨po, xo, rfl, hoo, po2⟩⟩
  · exact ⟨_, rfl, _, _, rfl, .inl h, fun l hl => q _ _ (Gr.new hl) ⟨l, xs, rfl, sqL upd_same, hp⟩⟩
  · refine dF hv ⟨_, rfl, _, _, rfl, h, fun D hD => ?_⟩
    have exo := isI_eq po2
    subst exo
    refine lc_each (m := []) (walk_enumK (k := true) (xs := xs) (n := ns.length) hl) hD (by simp) (by omega) (fun _ j y => y = .int (if l.contains (j : Int) then ns.getD j 0 else 0)) (fun H3 g3 => g3.lstN h (by simp) hD) (fun i x H3 H' hi s y => ?_) (fun H3 acc g3 e1 e2 e3 => ?_)
    · obtain ⟨T2, x1, x2, rfl, hT2, rfl, hx1, hx2⟩ := y
      have hx1 : some (V.int (i : Int)) = some x1 := hx1
      have hx2 : xs[i]? = some x2 := hx2
      obtain ⟨ex2, _⟩ := ti_at (H := H) hp hx2
      cases hx1
      have gT : Gr [] H3 (upd H3 T2 (.tup [V.int (i : Int), x2])) := Gr.new hT2
      subst ex2
      refine ⟨T2, _, rfl, sqT upd_same, rfl, _, _, rfl, _, _, rfl, rfl, rfl, _, rfl, _, rfl, _, _, rfl, .inr (gT.tup (s.gr.tup hoo)), rfl, flat_ints l, _, rfl, ?_⟩
      show if inV (V.int (i : Int)) (l.map V.int) = true then _ else _
      rw [inV_ints]
      cases hc : l.contains (i : Int) with
      | true =>
        refine ⟨_, rfl, s.leaf (fun _ _ _ _ _ z => z) (by omega) gT ?_⟩
        rw [if_pos hc]
      | false =>
        refine s.leaf (fun _ _ _ _ _ z => z) (by omega) gT ?_
        rw [if_neg (by rw [hc]; decide)]
    · refine q _ _ g3 (lii_of e1 (by rw [e2]; unfold openedOf; rw [List.length_map, List.length_range]) fun j y hy => ?_)
      rw [e3 j y hy]
      have hj : j < ns.length := by
        rw [← e2]
        exact (List.getElem?_eq_some_iff.mp hy).1
      unfold openedOf
      simp [List.getD, hj]
end K11
/-! part K11Q7 -/
namespace K11
open PySem PySem.Spec PyProof.Rows L2
variable {K : PySem.W.Frag} {mg : Str → Option Value}
theorem rep_flat {α : Type} (n : Nat) (x : α) : (List.replicate n [x]).flatten = List.replicate n x := by
  induction n with
  | zero => rfl
  | succ n ih => rw [List.replicate_succ, List.flatten_cons, ih, List.replicate_succ] <;> rfl
theorem addAt_len (l : List Int) (i : Nat) (x : Int) : (addAt l i x).length = l.length := List.length_set ..
theorem netsTo_len (n : Nat) (ps : List PipeD) (ns : List Int) : ∀ k : Nat, (netsTo n ps ns k).length = n
  | 0 => by show (List.replicate n (0 : Int)).length = n; rw [List.length_replicate]
  | k + 1 => by
    have e : netsTo n ps ns (k + 1) = netStep ps ns (netsTo n ps ns k) k := by
      unfold netsTo
      rw [List.range_succ, List.foldl_append]
      rfl
    rw [e]
    unfold netStep
    rw [addAt_len, addAt_len, netsTo_len n ps ns k]
theorem netsTo_succ (n : Nat) (ps : List PipeD) (ns : List Int) (k : Nat) : netsTo n ps ns (k + 1) = netStep ps ns (netsTo n ps ns k) k := by
  unfold netsTo
  rw [List.range_succ, List.foldl_append]
  rfl
theorem map_addAt {l : List Int} {i : Nat} {x : Int} (hi : i < l.length) : (l.map V.int).set i (.int (l.getD i 0 + x)) = (addAt l i x).map V.int := by
  unfold addAt
  rw [List.map_set]
theorem map_subAt {l : List Int} {i : Nat} {x : Int} (hi : i < l.length) : (l.map V.int).set i (.int (l.getD i 0 - x)) = (addAt l i (-x)).map V.int := by
  rw [Int.sub_eq_add_neg]
  exact map_addAt hi
theorem pu_nets_of (T : Txt K mg) : PureOk (sp_nets_of K) ["web", "numbers"] N_nets_of fun E => t_nets_of K := by
  refine ⟨by rintro _ _ _ _ ⟨_, _, _, _, _, _, rfl, _⟩; rfl, ?_⟩
  rintro _ H Q E ⟨w, u, g, ws, ps, ns, rfl, hw, wf, wa, ⟨pu, xu, rfl, hu, pu2⟩, ln, q⟩
  obtain ⟨a, dx, fs, wv, pv, gs, rfl, h1, h2, h3, h4, h5, ⟨pw, xw, rfl, hww, pw2⟩, ⟨pp, xp, rfl, hpp, pp2⟩, h8, h9⟩ := id hw
  have lw : xw.length = ws.length := pw2.length
  have lp : xp.length = ps.length := pp2.length
  have lu : xu.length = ns.length := pu2.length
  have wac := wa.c
  have wn := wf.n2
  refine ⟨sz (n := 1) (by omega), fun z hz => ?_⟩
  have gz : Gr [] H (upd H z (.lst [.int 0])) := Gr.new hz
  refine ⟨_, rfl, _, _, _, _, _, rfl, gz.nl h1 (fun _ z => nomatch z), T.webCls, T.noW, h2, _, _, rfl, .inr (gz.tup hww), _, _, _, rfl, rfl, upd_same, by omega, by omega, sz (by show 1 * ((xw.length : Int)).toNat ≤ 100000; omega), fun F hF => ?_⟩
  have gF := Gr.trans gz (Gr.new (m := []) (o := .lst (List.replicate ((xw.length : Int)).toNat [V.int 0]).flatten) hF)
  have hF0 := gz.fresh hF
  have uF : pu ≠ F ∨ K.lookup pu ≠ none := by
    rcases hu with (hu | ⟨o, hu⟩) | ⟨o, _, _, hu, _⟩
    · exact .inl (ne_of_none hu hF0)
    · exact .inl (ne_of_none hu hF0)
    · exact .inr (by rw [hu]; simp)
  have e0 : (List.replicate ((xw.length : Int)).toNat [V.int 0]).flatten = (netsTo ws.length ps ns 0).map V.int := by
    rw [rep_flat, lw]
    show List.replicate ws.length (V.int 0) = (List.replicate ws.length (0 : Int)).map V.int
    rw [List.map_replicate]
  rw [e0] at gF ⊢
  refine ⟨_, rfl, _, _, _, _, _, rfl, gF.nl h1 (fun _ z => nomatch z), T.webCls, T.noP, h3, _, rfl, pp, pu, xp, xu, rfl, gF.tup hpp, gF.lst hu (by simp), ?_⟩
  refine for_it (walk_zip2K (k1 := false) (k2 := true) (xs := xp) (ys := xu) (n := ps.length) lp (by omega)) (fun i σ H' => Gr [F] H H' ∧ H' F = some (.lst ((netsTo ws.length ps ns i).map V.int)) ∧ ∃ z3 z4 z5 z6, σ = [some (V.ref a), some (.ref pu), some (.ref F), z3, z4, z5, z6])
    ⟨gF.up, upd_same, _, _, _, _, rfl⟩ (fun i σ H' _ z => ⟨z.1.tup hpp, z.1.lstN hu (by simp) hF0⟩) (fun i y σ H2 H3 hi ⟨g2, eF, z3, z4, z5, z6, e2⟩ yy => ?_) (fun σ H2 ⟨g2, eF, z3, z4, z5, z6, e2⟩ => ?_)
  · subst e2
    obtain ⟨T2, x1, x2, rfl, hT2, rfl, hx1, hx2⟩ := yy
    have hx1 : xp[i]? = some x1 := hx1
    have hx2 : xu[i]? = some x2 := hx2
    obtain ⟨P, hP, hr⟩ := pgetL pp2 hx1
    obtain ⟨ex2, _⟩ := ti_at (H := H) pu2 hx2
    have wP := wa.p _ (List.mem_of_getElem? hP)
    have w1 := wP.lt
    have w2 := wP.u
    have gT : Gr [] H2 (upd H2 T2 (.tup [x1, x2])) := Gr.new hT2
    obtain ⟨pP, sP, rfl, hPP, hs⟩ := (hr.gr g2).gr gT
    subst ex2
    have eP : ps.getD i ⟨0, 0, []⟩ = P := getD_of hP
    have ll := netsTo_len ws.length ps ns i
    refine ⟨T2, _, rfl, sqT upd_same, rfl, _, _, rfl, pP, _, rfl, hPP, rfl, _, _, rfl, _, _, rfl, _, _, rfl, rfl, _, _, rfl, rfl, ?_⟩
    have eF2 : upd H2 T2 (.tup [V.ref pP, V.int (ns.getD i 0)]) F = some (.lst ((netsTo ws.length ps ns i).map V.int)) := gT.at eF (by simp)
    have i1 : ((netsTo ws.length ps ns i).map V.int)[P.one]? = some (V.int ((netsTo ws.length ps ns i).getD P.one 0)) := by
      rw [List.getElem?_map, get_lt (d := 0) (by omega)]
      rfl
    refine ⟨_, rfl, _, rfl, _, _, _, _, rfl, rfl, sqL eF2, atI_nat i1, _, rfl, _, _, rfl, rfl, _, _, _, P.one, rfl, rfl, eF2, Evl.ixN_nat (by rw [List.length_map]; omega), ?_⟩
    rw [map_addAt (by omega)]
    have g3 : Gr [F] (upd H2 T2 (.tup [V.ref pP, V.int (ns.getD i 0)])) (upd (upd H2 T2 (.tup [V.ref pP, V.int (ns.getD i 0)])) F (.lst ((addAt (netsTo ws.length ps ns i) P.one (ns.getD i 0)).map V.int))) := Gr.set eF2 (by simp)
    have i2 : ((addAt (netsTo ws.length ps ns i) P.one (ns.getD i 0)).map V.int)[P.other]? = some (V.int ((addAt (netsTo ws.length ps ns i) P.one (ns.getD i 0)).getD P.other 0)) := by
      rw [List.getElem?_map, get_lt (d := 0) (by rw [addAt_len]; omega)]
      rfl
    refine ⟨_, rfl, _, rfl, _, _, _, _, rfl, rfl, sqL upd_same, atI_nat i2, _, rfl, _, _, rfl, rfl, _, _, _, P.other, rfl, rfl, upd_same, Evl.ixN_nat (by rw [List.length_map, addAt_len]; omega), ?_⟩
    rw [map_subAt (by rw [addAt_len]; omega), upd_upd]
    refine ⟨(g2.trans (gT.weak (by simp))).trans (Gr.set eF2 (by simp)), ?_, _, _, _, _, rfl⟩
    rw [upd_same, netsTo_succ]
    unfold netStep
    rw [eP]
  · subst e2
    exact ⟨_, rfl, q _ _ (g2.drop hF0) ⟨F, _, rfl, sqL eF, paired_isI⟩⟩
theorem pu_moved (T : Txt K mg) : PureOk (sp_moved K) ["web", "filling", "numbers"] N_moved fun E => t_moved K := by
  refine ⟨by rintro _ _ _ _ ⟨_, _, _, _, _, _, _, _, rfl, _⟩; rfl, ?_⟩
  rintro _ H Q E ⟨w, v, u, g, ws, ps, fl, ns, rfl, ⟨hw, wf, wa, hf, lf⟩, hu, ln, q⟩
  refine ⟨_, rfl, _, rfl, _, _, g, ws, ps, ns, rfl, hw, wf, wa, hu, ln, fun H1 z g1 hz => ?_⟩
  obtain ⟨a, dx, fs, wv, pv, gs, rfl, h1, h2, h3, h4, h5, ⟨pw, xw, rfl, hww, pw2⟩, h7, h8, h9⟩ := id (hw.gr g1 (by simp))
  obtain ⟨pf, xf, rfl, hff, pf2⟩ := hf.gr g1
  obtain ⟨pz, xz, rfl, hzz, pz2⟩ := hz
  have lw : xw.length = ws.length := pw2.length
  have lff : xf.length = ws.length := by rw [pf2.length, lf]
  have lz : xz.length = ws.length := by
    rw [pz2.length]
    exact netsTo_len _ _ _ _
  have wn := wf.n2
  refine ⟨_, rfl, _, _, _, _, _, rfl, h1, T.webCls, T.noW, h2, _, rfl, _, rfl, pw, pf, pz, xw, xf, xz, rfl, hww, hff, hzz, fun D hD => ?_⟩
  refine lc_each (m := []) (walk_zip3K (k1 := false) (k2 := false) (k3 := true) (xs := xw) (ys := xf) (zs := xz) (n := ws.length) lw lff lz) hD (by simp) (by omega) (fun _ j y => y = .int (if ws.getD j 0 = 0 then 0 else fl.getD j 0 - (netsOf ws.length ps ns).getD j 0)) (fun H3 g3 => ⟨g3.tup hww, g3.tup hff, g3.lstN hzz (by simp) hD⟩) (fun i x H3 H' hi s y => ?_) (fun H3 acc g3 e1 e2 e3 => ?_)
  · obtain ⟨T2, x1, x2, x3, rfl, hT2, rfl, hx1, hx2, hx3⟩ := y
    have hx1 : xw[i]? = some x1 := hx1
    have hx2 : xf[i]? = some x2 := hx2
    have hx3 : xz[i]? = some x3 := hx3
    obtain ⟨ex1, _⟩ := ti_at (H := H) pw2 hx1
    obtain ⟨ex2, _⟩ := ti_at (H := H) pf2 hx2
    obtain ⟨ex3, _⟩ := ti_at (H := H) pz2 hx3
    have gT : Gr [] H3 (upd H3 T2 (.tup [x1, x2, x3])) := Gr.new hT2
    subst ex1 ex2 ex3
    refine ⟨T2, _, rfl, sqT upd_same, rfl, _, _, rfl, _, _, rfl, _, _, rfl, rfl, ?_, _, rfl, rfl, _, rfl, ?_⟩
    · repeat rw [wipe_set (by decide)]
      exact wipe_idem
    · by_cases h0 : ws.getD i 0 = 0
      · refine dT (by rw [h0]) (s.leaf (fun _ _ _ _ _ z => z) (by omega) gT ?_)
        rw [if_pos h0]
      · refine dF (nI h0) ⟨_, rfl, _, rfl, _, _, rfl, rfl, s.leaf (fun _ _ _ _ _ z => z) (by omega) gT ?_⟩
        rw [if_neg h0]
  · refine ⟨D, acc, rfl, .inl ⟨sqL e1, fun l2 hl2 => q _ _ ((g1.trans g3).trans (Gr.new hl2)) ⟨l2, _, rfl, sqT upd_same, ?_⟩⟩⟩
    have e4 := ints_of e2 e3
    rw [e4]
    exact paired_isI
end K11
/-! part K11Q8 -/
namespace K11
open PySem PySem.Spec PyProof.Rows L2
variable {K : PySem.W.Frag} {mg : Str → Option Value}
theorem th_ints {H : Hp} {p : Addr} {xs : List V} {l : List (Option Int)} (h : SqT K H p xs) (hp : Paired (Itm K H) xs l) (ha : ∀ x ∈ l, x.isSome = true) : Ti K H (.ref p) (intsOf (some l)) := by
  refine ⟨p, xs, rfl, h, paired_of (by rw [hp.length]; unfold intsOf; rw [List.length_map]; rfl) fun i a b hx hb => ?_⟩
  obtain ⟨c, hc, hr⟩ := pgetL hp hx
  have hs := ha c (List.mem_of_getElem? hc)
  have e : (intsOf (some l))[i]? = some (c.getD 0) := by
    unfold intsOf
    show (l.map fun x => x.getD 0)[i]? = _
    rw [List.getElem?_map, hc]
    rfl
  rw [e] at hb
  cases hb
  rcases hr with ⟨j, rfl, rfl⟩ | ⟨rfl, _⟩
  · rfl
  · cases hs
theorem th_fil {H : Hp} {v : V} {o : Option (List (Option Int))} {ws : List Int} (h : Th K H v o) (hf : filOk ws o = true) : Ti K H v (intsOf o) ∧ (intsOf o).length = ws.length := by
  unfold filOk at hf
  rw [Bool.and_eq_true] at hf
  rcases h with ⟨l, p, xs, rfl, rfl, h, hp⟩ | ⟨rfl, _⟩
  · have e : (decide ((l.length : Int) = ws.length) && l.all Option.isSome) = true := hf.1
    rw [Bool.and_eq_true, decide_eq_true_iff, List.all_eq_true] at e
    refine ⟨th_ints h hp e.2, ?_⟩
    show (l.map fun x => x.getD 0).length = ws.length
    rw [List.length_map]
    omega
  · cases hf.1
theorem lot_some : ∀ (l : List (Option Int)) (a n : Int), lotL l a n = true → ∀ x ∈ l, x.isSome = true
  | [], _, _, _, _, hx => by cases hx
  | y :: r, a, n, h, x, hx => by
    have h1 : (btw y (a + 1) (n - 1) && lotL r (y.getD 0) n) = true := h
    rw [Bool.and_eq_true] at h1
    rcases List.mem_cons.mp hx with rfl | hx
    · cases x with
      | none => cases h1.1
      | some i => rfl
    · exact lot_some r _ n h1.2 x hx
theorem opn_r {H : Hp} {v : V} {n : Int} {op : Option (List Int)} (h : Opn K H v n (some op)) : OpR1 K H v op := by
  rcases h with ⟨rfl, e⟩ | ⟨hv, o, ho, e⟩
  · cases e
    exact .inl ⟨rfl, rfl⟩
  · cases hl : lotOk o n with
    | false =>
      rw [hl] at e
      cases e
    | true =>
      rw [hl, if_pos rfl] at e
      cases e
      refine .inr ⟨hv, _, rfl, ?_⟩
      rcases ho with ⟨l, p, xs, rfl, rfl, h, hp⟩ | ⟨rfl, _⟩
      · exact th_ints h hp (lot_some l _ _ hl)
      · cases hl
theorem OpR1.gr {m : List Addr} {H H1 : Hp} {v : V} {op : Option (List Int)} (h : OpR1 K H v op) (g : Gr m H H1) : OpR1 K H1 v op := h.imp id fun ⟨e, l, e2, t⟩ => ⟨e, l, e2, t.gr g⟩
theorem tuF_of {α : Type} {H : Hp} {R : Hp → V → α → Prop} {D : Addr} {acc : List V} {l : List α} {d : α} (e1 : SqT K H D acc) (e2 : acc.length = l.length) (e3 : ∀ j y, acc[j]? = some y → R H y (l.getD j d)) : Tu K H (R H) (.ref D) l :=
  ⟨D, acc, rfl, e1, paired_of e2 fun i a b ha hb => by
    have z := e3 i a ha
    rw [getD_of hb] at z
    exact z⟩
theorem pu_levels (T : Txt K mg) : PureOk (sp_levels K) ["web", "filling"] N_levels fun E => t_levels K E := by
  refine ⟨by rintro _ _ _ _ ⟨_, _, _, _, _, _, rfl, _⟩; rfl, ?_⟩
  rintro _ H Q E ⟨w, v, g, ws, ps, o, rfl, ⟨hw, wf, wa, hv⟩, q1, q2⟩
  refine ⟨_, rfl, _, rfl, _, _, g, ws, ps, o, rfl, hw, wf, hv, fun H1 g1 => ⟨fun hf => ?_, fun hf => q2 hf H1 g1⟩⟩
  obtain ⟨⟨pf, xf, rfl, hff, pf2⟩, lf⟩ := th_fil (hv.gr g1) hf
  obtain ⟨a, dx, fs, wv, pv, gs, rfl, h1, h2, h3, h4, h5, ⟨pw, xw, rfl, hww, pw2⟩, h7, h8, h9⟩ := id (hw.gr g1 (by simp))
  have lw : xw.length = ws.length := pw2.length
  have lff : xf.length = ws.length := by rw [pf2.length, lf]
  have wn := wf.n2
  refine ⟨_, rfl, _, rfl, _, _, _, _, _, rfl, h1, T.webCls, T.noW, h2, _, _, _, _, rfl, hff, hww, fun D hD => ?_⟩
  refine lc_each (m := []) (walk_zip2K (k1 := false) (k2 := false) (xs := xf) (ys := xw) (n := ws.length) lff lw) hD (by simp) (by omega) (fun H j y => Fr K H y ((levelsOf ws (intsOf o)).getD j (0, 1))) (fun H3 g3 => ⟨g3.tup hff, g3.tup hww⟩) (fun i x H3 H' hi s y => ?_) (fun H3 acc g3 e1 e2 e3 => ?_)
  · obtain ⟨T2, x1, x2, rfl, hT2, rfl, hx1, hx2⟩ := y
    have hx1 : xf[i]? = some x1 := hx1
    have hx2 : xw[i]? = some x2 := hx2
    obtain ⟨ex1, _⟩ := ti_at (H := H) pf2 hx1
    obtain ⟨ex2, _⟩ := ti_at (H := H) pw2 hx2
    have gT : Gr [] H3 (upd H3 T2 (.tup [x1, x2])) := Gr.new hT2
    have wi := wf.at i
    subst ex1 ex2
    refine ⟨T2, _, rfl, sqT upd_same, rfl, _, _, rfl, _, _, rfl, rfl, rfl, _, rfl, _, rfl, _, _, rfl, wi.1, wi.2, fun H5 u g5 hu => s.leaf (fun _ _ _ _ g z => z.gr g) (by omega) (gT.trans g5) ?_⟩
    rw [getD_of (show (levelsOf ws (intsOf o))[i]? = some (lvl (ws.getD i 0) ((intsOf o).getD i 0)) by unfold levelsOf; simp [hi])]
    exact hu
  · have ll : (levelsOf ws (intsOf o)).length = ws.length := by
      unfold levelsOf
      rw [List.length_map, List.length_range]
    refine ⟨D, acc, rfl, .inl ⟨sqL e1, fun l2 hl2 => q1 hf _ _ ((g1.trans g3).trans (Gr.new hl2)) (tuF_of (R := fun H => Fr K H) (d := (0, 1)) (sqT upd_same) (by rw [e2, ll]) fun j y hy => (e3 j y hy).gr (Gr.new (m := []) hl2))⟩⟩
theorem pu_drops (T : Txt K mg) : PureOk (sp_drops K) ["web", "filling"] N_drops fun E => t_drops K E := by
  refine ⟨by rintro _ _ _ _ ⟨_, _, _, _, _, _, rfl, _⟩; rfl, ?_⟩
  rintro _ H Q E ⟨w, v, g, ws, ps, o, rfl, ⟨hw, wf, wa, hv⟩, q1, q2⟩
  refine ⟨_, rfl, _, rfl, _, _, g, ws, ps, o, rfl, hw, wf, hv, fun H1 g1 => ⟨fun hf => ?_, fun hf => q2 hf H1 g1⟩⟩
  obtain ⟨hff, lf⟩ := th_fil (hv.gr g1) hf
  have hw1 := hw.gr g1 (by simp)
  obtain ⟨a, dx, fs, wv, pv, gs, rfl, h1, h2, h3, h4, h5, h6, h7, h8, h9⟩ := id hw1
  have lg : gs.length = ps.length := by rw [h9.length, List.length_map]
  have wac := wa.c
  refine ⟨_, rfl, _, _, _, _, _, rfl, h1, T.webCls, T.noG, h4, _, rfl, _, rfl, _, _, g, ws, ps, _, rfl, ⟨hw1, wf, wa, hff, lf⟩, fun H2 u g2 hu => ?_⟩
  obtain ⟨pu, xu, rfl, hu2, pu2⟩ := hu
  have lu : xu.length = ps.length := by rw [pu2.length, List.length_map, List.length_map]
  have h82 : SqL K H2 g gs := g2.lst h8 (by simp)
  refine ⟨g, pu, gs, xu, rfl, h82, hu2, fun D hD => ?_⟩
  refine lc_each (m := []) (walk_zip2K (k1 := true) (k2 := true) (xs := gs) (ys := xu) (n := ps.length) lg lu) hD (by simp) (by omega) (fun H j y => Fr K H y ((dropsP ws ps (intsOf o)).getD j (0, 1))) (fun H3 g3 => ⟨g3.lstN h82 (by simp) hD, g3.lstN hu2 (by simp) hD⟩) (fun i x H3 H' hi s y => ?_) (fun H3 acc g3 e1 e2 e3 => ?_)
  · obtain ⟨T2, x1, x2, rfl, hT2, rfl, hx1, hx2⟩ := y
    have hx1 : gs[i]? = some x1 := hx1
    have hx2 : xu[i]? = some x2 := hx2
    obtain ⟨G, hG, hr⟩ := pgetL h9 hx1
    obtain ⟨ex2, _⟩ := ti_at (H := H) pu2 hx2
    have gT : Gr [] H3 (upd H3 T2 (.tup [x1, x2])) := Gr.new hT2
    obtain ⟨pG, u, rfl, hg, hu⟩ := ((hr.gr g2).gr s.gr).gr gT
    have bd := gbd_at wf wa hG
    have b1 := bd.g1
    have b2 := bd.g2
    subst ex2
    refine ⟨T2, _, rfl, sqT upd_same, rfl, _, _, rfl, _, _, rfl, rfl, rfl, _, rfl, _, rfl, _, _, _, _, rfl, rfl, hg, rfl, _, _, rfl, by omega, by omega, fun H5 z g5 hz => s.leaf (fun _ _ _ _ g z => z.gr g) (by omega) (gT.trans g5) ?_⟩
    rw [getD_of (show (dropsP ws ps (intsOf o))[i]? = some (mk (dropN (intsOf o) G) G.grains) by unfold dropsP; rw [List.getElem?_map, hG]; rfl)]
    rw [getD_of (show ((ps.map (gaugeOf ws)).map (dropN (intsOf o)))[i]? = some (dropN (intsOf o) G) by rw [List.getElem?_map, hG]; rfl)] at hz
    exact hz
  · have ll : (dropsP ws ps (intsOf o)).length = ps.length := by
      unfold dropsP
      rw [List.length_map, List.length_map]
    refine ⟨D, acc, rfl, .inl ⟨sqL e1, fun l2 hl2 => q1 hf _ _ (((g1.trans g2).trans g3).trans (Gr.new hl2)) (tuF_of (R := fun H => Fr K H) (d := (0, 1)) (sqT upd_same) (by rw [e2, ll]) fun j y hy => (e3 j y hy).gr (Gr.new (m := []) hl2))⟩⟩
theorem pu_running (T : Txt K mg) : PureOk (sp_running K) ["web", "filling", "opening"] N_running fun E => t_running K E := by
  refine ⟨by rintro _ _ _ _ ⟨_, _, _, _, _, _, _, _, rfl, _⟩; rfl, ?_⟩
  rintro _ H Q E ⟨w, v, x, g, ws, ps, o, r, rfl, ⟨hw, wf, wa, hv⟩, hx, q2, q1⟩
  have wac := wa.c
  refine ⟨_, rfl, _, rfl, _, _, g, ws, ps, o, rfl, hw, wf, hv, fun H1 g1 => ⟨fun hf => ?_, fun hf => q2 hf H1 g1⟩⟩
  obtain ⟨q3, q4⟩ := q1 hf
  refine ⟨_, rfl, _, rfl, _, _, g, ws, ps, r, rfl, hw.gr g1 (by simp), hx.gr g1, by omega, fun H2 g2 => ⟨fun hr => ?_, fun hr => q3 hr H2 (g1.trans g2)⟩⟩
  cases r with
  | none => exact absurd rfl hr
  | some op =>
    have gg := g1.trans g2
    obtain ⟨hff, lf⟩ := th_fil (hv.gr gg) hf
    refine ⟨_, rfl, _, rfl, _, _, g, ws, ps, _, rfl, ⟨hw.gr gg (by simp), wf, wa, hff, lf⟩, fun H3 u g3 hu => ⟨_, rfl, _, _, _, op, rfl, hu, ?_, ((opn_r hx).gr gg).gr g3, fun H4 z g4 hz => q4 op rfl _ _ ((gg.trans g3).trans g4) hz⟩⟩
    unfold runsOf
    rw [List.length_map, List.length_map]
    omega
theorem runE_mono {ws : List Int} {o : Option (List (Option Int))} {r : Option (Option (List Int))} {H : Hp} {E : XK} {ok ok' : Option (List Int) → Prop} (h : RunE K ws o r H E ok) (k : filOk ws o = true → ∀ op, r = some op → ok op → ok' op) : RunE K ws o r H E ok' :=
  ⟨h.1, fun hf => ⟨(h.2 hf).1, fun op e => k hf op e ((h.2 hf).2 op e)⟩⟩
theorem opened_len {ns : List Int} {op : Option (List Int)} : (openedOf ns op).length = ns.length := by
  cases op with
  | none => rfl
  | some l =>
    unfold openedOf
    rw [List.length_map, List.length_range]
theorem pu_flows (T : Txt K mg) : PureOk (sp_flows K) ["web", "filling", "opening"] N_flows fun E => t_flows K E := by
  refine ⟨by rintro _ _ _ _ ⟨_, _, _, _, _, _, _, _, rfl, _⟩; rfl, ?_⟩
  rintro _ H Q E ⟨w, v, x, g, ws, ps, o, r, rfl, pre, hx, q⟩
  refine ⟨_, rfl, _, rfl, _, rfl, _, _, _, g, ws, ps, o, r, rfl, pre, hx, runE_mono q fun hf op e q1 H1 z g1 hz => ?_⟩
  obtain ⟨p, xs, rfl, h, hp⟩ := hz
  exact ⟨p, xs, rfl, .inl ⟨h, fun l hl => q1 _ _ (g1.trans (Gr.new hl)) ⟨l, xs, rfl, sqT upd_same, hp⟩⟩⟩
theorem pu_tick (T : Txt K mg) : PureOk (sp_tick K) ["web", "filling", "opening"] N_tick fun E => t_tick K E := by
  refine ⟨by rintro _ _ _ _ ⟨_, _, _, _, _, _, _, _, rfl, _⟩; rfl, ?_⟩
  rintro _ H Q E ⟨w, v, x, g, ws, ps, o, r, rfl, pre, hx, q⟩
  refine ⟨_, rfl, _, rfl, _, rfl, _, rfl, _, rfl, _, _, _, g, ws, ps, o, r, rfl, pre, hx, runE_mono q fun hf op e q1 H1 z g1 hz => ?_⟩
  obtain ⟨hw, wf, wa, hv⟩ := pre
  obtain ⟨hff, lf⟩ := th_fil (hv.gr g1) hf
  exact ⟨_, _, _, g, ws, ps, _, _, rfl, ⟨hw.gr g1 (by simp), wf, wa, hff, lf⟩, hz, by rw [opened_len]; unfold runsOf; rw [List.length_map, List.length_map], fun H2 z2 g2 hz2 => q1 _ _ (g1.trans g2) hz2⟩
theorem pu_nets (T : Txt K mg) : PureOk (sp_nets K) ["web", "filling", "opening"] N_nets fun E => t_nets K E := by
  refine ⟨by rintro _ _ _ _ ⟨_, _, _, _, _, _, _, _, rfl, _⟩; rfl, ?_⟩
  rintro _ H Q E ⟨w, v, x, g, ws, ps, o, r, rfl, pre, hx, q⟩
  refine ⟨_, rfl, _, rfl, _, rfl, _, rfl, _, _, _, g, ws, ps, o, r, rfl, pre, hx, runE_mono q fun hf op e q1 H1 z g1 hz => ?_⟩
  obtain ⟨hw, wf, wa, hv⟩ := pre
  refine ⟨_, _, g, ws, ps, _, rfl, hw.gr g1 (by simp), wf, wa, hz, by rw [opened_len]; unfold runsOf; rw [List.length_map, List.length_map], fun H2 z2 g2 hz2 => ?_⟩
  obtain ⟨p, xs, rfl, h, hp⟩ := hz2
  exact ⟨p, xs, rfl, .inl ⟨h, fun l hl => q1 _ _ ((g1.trans g2).trans (Gr.new hl)) ⟨l, xs, rfl, sqT upd_same, hp⟩⟩⟩
end K11
/-! part K11Q9 -/
namespace K11
open PySem PySem.Spec PyProof.Rows L2
variable {K : PySem.W.Frag} {mg : Str → Option Value}
theorem pu__law_source (T : Txt K mg) : PureOk (sp__law_source K) ["_law_script"] N__law_source fun E => t__law_source K := by
  refine ⟨by rintro _ _ _ _ ⟨_, _, rfl, _⟩; rfl, ?_⟩
  rintro _ H Q E ⟨a, ns, rfl, h, hn, q⟩
  refine ⟨_, rfl, a, rfl, ⟨_, h⟩, ?_⟩
  refine for_it (walk_list (xs := ns.map V.int)) (fun i σ H' => H' = H ∧ ∃ f z, σ = [some (V.ref a), some (.int f), z]) ⟨rfl, 17, _, rfl⟩ (fun i σ H' _ z => by rw [z.1]; exact h) (fun i y σ H2 H3 hi ⟨e1, f, z, e2⟩ yy => ?_) (fun σ H2 ⟨e1, f, z, e2⟩ => ?_)
  · obtain ⟨rfl, hx⟩ := yy
    subst e1 e2
    rw [List.getElem?_map] at hx
    obtain ⟨c, _, rfl⟩ := Option.map_eq_some_iff.mp hx
    exact ⟨_, rfl, _, _, rfl, rfl, .inr ⟨by omega, by omega⟩, _, rfl, _, _, rfl, rfl, .inl ⟨_, rfl, _, _, rfl, rfl, (by decide : (0 : Int) < 2147483647), rfl, _, _, rfl⟩⟩
  · subst e1 e2
    refine ⟨_, rfl, _, _, rfl, .inl h, fun l hl => ⟨_, rfl, sz (n := 5) (by omega), fun p hp => ?_⟩⟩
    have hlp : l ≠ p := ne_of_none (upd_same (H := H2) (a := l) (o := .lst (ns.map V.int))) hp
    refine q _ p l ((Gr.new hl).trans (Gr.new hp)) ((Gr.new (m := []) hl).fresh hp) hl ⟨ns, 0, 0, 0, f, upd_same, by rw [upd_ne hlp, upd_same], hlp, by omega⟩
theorem pu__law_mixed (T : Txt K mg) : PureOk sp__law_mixed ["_law_number", "_law_turn"] N__law_mixed fun E => t__law_mixed K := by
  refine ⟨by rintro _ _ _ _ ⟨_, _, rfl, _⟩; rfl, ?_⟩
  rintro _ H Q E ⟨n, t, rfl, q⟩
  have m1 : ∀ z : Int, -(2 ^ 64) < z % 2147483647 ∧ z % 2147483647 < 2 ^ 64 := fun z => by
    have := Int.emod_nonneg z (show (2147483647 : Int) ≠ 0 by decide)
    have := Int.emod_lt_of_pos z (show (0 : Int) < 2147483647 by decide)
    omega
  refine ⟨_, rfl, _, rfl, _, _, rfl, rfl, .inl ⟨by omega, by omega⟩, _, _, rfl, rfl, _, _, rfl, rfl, .inl ⟨_, rfl, ?_⟩⟩
  refine ⟨_, _, rfl, rfl, (by decide : (0 : Int) < 2147483647), _, _, rfl, rfl, .inl (m1 _), .inl ⟨_, rfl, _, _, rfl, rfl, (by decide : (0 : Int) < 2147483647), ?_⟩⟩
  refine ⟨_, rfl, _, rfl, _, _, rfl, rfl, ⟨by decide, by decide⟩, _, _, rfl, rfl, _, _, rfl, rfl, .inl (m1 _), .inl ⟨_, rfl, _, _, rfl, rfl, (by decide : (0 : Int) < 2147483647), ?_⟩⟩
  refine ⟨_, rfl, _, rfl, _, _, rfl, rfl, ⟨by decide, by decide⟩, _, _, rfl, rfl, _, _, rfl, rfl, .inl (m1 _), .inl ⟨_, rfl, _, _, rfl, rfl, (by decide : (0 : Int) < 2147483399), q _ (Int.emod_nonneg _ (by decide))⟩⟩
theorem log_lt {n : Int} (h1 : 0 < n) (h2 : n ≤ 10000000000000000000000000000000000000000) : n.natAbs.log2 < 9000 := by
  have h3 : n.natAbs < 2 ^ 200 := by
    have e : (2 : Nat) ^ 200 = 1606938044258990275541962092341162602522202993782792835301376 := by decide +kernel
    rw [e]
    omega
  have h4 : n.natAbs.log2 < 200 := (Nat.log2_lt (by omega)).mpr h3
  omega
theorem pu__law_draw (T : Txt K mg) : PureOk (sp__law_draw K) ["_law_source_here", "_law_many"] N__law_draw fun E => t__law_draw K := by
  refine ⟨by rintro _ _ _ _ ⟨_, _, _, rfl, _⟩; rfl, ?_⟩
  rintro _ H Q E ⟨p, c, n, rfl, ⟨ns, pos, rest, turn, fold, hp, hc0, hcp, hr⟩, hn, hn2, q⟩
  have hc : SqL K H c (ns.map V.int) := sqL hc0
  have cd : CDivW rest n := ⟨hn, log_lt hn hn2⟩
  have cw : ∀ z : Int, CDivW z n := fun z => ⟨hn, log_lt hn hn2⟩
  have cn : c ∉ [p] := by simpa using hcp
  refine ⟨_, rfl, _, _, _, _, rfl, rfl, sqL hp, rfl, _, _, rfl, rfl, _, rfl, _, _, _, 3, rfl, rfl, hp, rfl, ?_⟩
  have g1 : Gr [p] H (upd H p (.lst [.ref c, .int pos, .int rest, .int (turn + 1), .int fold])) := Gr.set hp (by simp)
  have hp1 : upd H p (.lst [.ref c, .int pos, .int rest, .int (turn + 1), .int fold]) p = some (.lst [.ref c, .int pos, .int rest, .int (turn + 1), .int fold]) := upd_same
  have hc1 := g1.lst hc cn
  show tSeq _ _ _ _ (upd H p (.lst [.ref c, .int pos, .int rest, .int (turn + 1), .int fold]))
  refine ⟨_, rfl, _, _, _, _, rfl, rfl, sqL hp1, rfl, _, _, rfl, rfl, _, rfl, ?_⟩
  by_cases h0 : (0 : Int) < rest
  · refine dT h0 ⟨_, rfl, _, _, _, _, rfl, rfl, sqL hp1, rfl, _, rfl, _, rfl, _, _, rfl, rfl, cd, _, rfl, _, _, _, 2, rfl, rfl, hp1, rfl, ?_⟩
    have g2 := g1.trans (Gr.set (m := [p]) (ys := [.ref c, .int pos, .int (rest / n), .int (turn + 1), .int fold]) hp1 (by simp))
    exact ⟨_, rfl, .inl ⟨_, rfl, _, rfl, _, _, rfl, rfl, hn, q _ _ ⟨g2, ns, pos, rest / n, turn + 1, fold, upd_same, g2.at hc0 cn, hcp, Int.ediv_nonneg hr (by omega)⟩ (Int.emod_nonneg _ (by omega)) (Int.emod_lt_of_pos _ hn)⟩⟩
  · refine dF h0 ⟨_, rfl, _, _, _, _, rfl, rfl, sqL hp1, rfl, _, rfl, _, _, _, _, rfl, rfl, sqL hp1, rfl, _, _, rfl, .inl hc1, _, _, rfl, rfl, _, rfl, ?_⟩
    by_cases h1 : (pos : Int) < ((ns.map V.int).length : Int)
    · have hl : pos < ns.length := by
        rw [List.length_map] at h1
        omega
      have ec : (ns.map V.int)[pos]? = some (V.int (ns.getD pos 0)) := by
        rw [List.getElem?_map, get_lt (d := 0) hl]
        rfl
      refine dT h1 ⟨_, rfl, _, _, _, _, rfl, rfl, sqL hp1, rfl, _, rfl, _, _, _, _, rfl, rfl, sqL hp1, rfl, _, _, _, _, rfl, rfl, hc1, atI_nat ec, ?_⟩
      refine ⟨_, rfl, _, _, _, _, rfl, rfl, sqL hp1, rfl, _, _, rfl, rfl, _, rfl, _, _, _, 1, rfl, rfl, hp1, rfl, ?_⟩
      have g2 := g1.trans (Gr.set (m := [p]) (ys := [.ref c, .int ((pos + 1 : Nat) : Int), .int rest, .int (turn + 1), .int fold]) hp1 (by simp))
      have hp2 : upd (upd H p (.lst [.ref c, .int pos, .int rest, .int (turn + 1), .int fold])) p (.lst [.ref c, .int ((pos + 1 : Nat) : Int), .int rest, .int (turn + 1), .int fold]) p = some (.lst [.ref c, .int ((pos + 1 : Nat) : Int), .int rest, .int (turn + 1), .int fold]) := upd_same
      have hc2 := g2.lst hc cn
      show tSeq _ _ _ _ (upd (upd H p (.lst [.ref c, .int pos, .int rest, .int (turn + 1), .int fold])) p (.lst [.ref c, .int ((pos + 1 : Nat) : Int), .int rest, .int (turn + 1), .int fold]))
      refine ⟨_, rfl, _, rfl, _, _, rfl, rfl, .inl ⟨by omega, by omega⟩, _, rfl, _, _, rfl, rfl, .inr ⟨_, rfl, _, _, rfl, rfl, ?_⟩⟩
      have nn : 0 ≤ 2 * (if ns.getD pos 0 < 0 then -ns.getD pos 0 else ns.getD pos 0) + (if (decide (ns.getD pos 0 < 0)) = true then 1 else 0) := by
        split <;> split <;> omega
      refine ⟨_, rfl, _, _, rfl, rfl, ⟨by decide, by decide, by decide⟩, _, _, rfl, rfl, _, rfl, ?_⟩
      refine ite2 (fun _ => ?_) fun _ => ?_
      · refine ⟨_, rfl, _, rfl, _, _, rfl, rfl, cw _, _, rfl, _, _, _, 2, rfl, rfl, hp2, rfl, ?_⟩
        have g3 := g2.trans (Gr.set (m := [p]) (ys := [.ref c, .int ((pos + 1 : Nat) : Int), .int ((2 * (if ns.getD pos 0 < 0 then -ns.getD pos 0 else ns.getD pos 0) + (if (decide (ns.getD pos 0 < 0)) = true then 1 else 0)) / n), .int (turn + 1), .int fold]) hp2 (by simp))
        exact ⟨_, rfl, .inl ⟨_, rfl, _, rfl, _, _, rfl, rfl, hn, q _ _ ⟨g3, ns, pos + 1, _, turn + 1, fold, upd_same, g3.at hc0 cn, hcp, Int.ediv_nonneg nn (by omega)⟩ (Int.emod_nonneg _ (by omega)) (Int.emod_lt_of_pos _ hn)⟩⟩
      · refine ⟨_, rfl, _, rfl, _, _, _, _, rfl, rfl, sqL hp2, rfl, _, _, rfl, fun r hr0 => ⟨_, _, rfl, rfl, ⟨by decide, log_lt (by decide) (by decide)⟩, .inl ⟨_, rfl, _, rfl, _, _, rfl, rfl, hn, ?_⟩⟩⟩
        exact q _ _ ⟨g2, ns, pos + 1, rest, turn + 1, fold, hp2, g2.at hc0 cn, hcp, hr⟩ (Int.emod_nonneg _ (by omega)) (Int.emod_lt_of_pos _ hn)
    · refine dF h1 ⟨_, rfl, _, _, _, _, rfl, rfl, sqL hp1, rfl, _, rfl, _, _, _, _, rfl, rfl, sqL hp1, rfl, _, _, rfl, fun r hr0 => ⟨_, _, rfl, rfl, ⟨by decide, log_lt (by decide) (by decide)⟩, .inl ⟨_, rfl, _, rfl, _, _, rfl, rfl, hn, ?_⟩⟩⟩
      exact q _ _ ⟨g1, ns, pos, rest, turn + 1, fold, hp1, g1.at hc0 cn, hcp, hr⟩ (Int.emod_nonneg _ (by omega)) (Int.emod_lt_of_pos _ hn)
theorem pu__law_pick (T : Txt K mg) : PureOk (sp__law_pick K) ["_law_source_here", "_law_row"] N__law_pick fun E => t__law_pick K := by
  refine ⟨by rintro _ _ _ _ ⟨_, _, _, _, rfl, _⟩; rfl, ?_⟩
  rintro _ H Q E ⟨p, c, r, xs, rfl, hs, h, hrp, hne, hlen, q⟩
  have h0 : 0 < xs.length := List.length_pos_iff.mpr hne
  refine ⟨_, rfl, _, rfl, _, rfl, _, _, rfl, .inl h, _, c, _, rfl, hs, by omega, by omega, fun H1 k d k0 k1 => ?_⟩
  obtain ⟨j, rfl⟩ := Int.eq_ofNat_of_zero_le k0
  have hj : j < xs.length := by omega
  exact ⟨r, xs, (j : Int), xs[j], rfl, rfl, d.1.lst h (by simpa using hrp), atI_nat (by simp [hj]), q _ j _ d (by simp [hj])⟩
end K11
/-! part K11R1 -/
namespace K11
open PySem PySem.Spec PyProof.Rows L2
variable {K : PySem.W.Frag} {mg : Str → Option Value}
theorem walk_range0 {n : Nat} : Walk (Itr 0 n) n (fun _ => True) (YFn fun i => .int ((i : Nat) : Int)) :=
  (walk_range (lo := 0) (n := n)).mono (fun _ h => h) fun i H x H' _ _ y => ⟨y.1, y.2.trans (congrArg V.int (Int.zero_add _))⟩
theorem pu__law_divisor (T : Txt K mg) : PureOk sp__law_divisor ["_law_one", "_law_other"] N__law_divisor fun E => t__law_divisor K := by
  refine ⟨by rintro _ _ _ _ ⟨_, _, rfl, _⟩; rfl, ?_⟩
  rintro _ H Q E ⟨a, b, rfl, h1, h2, q⟩
  refine ⟨_, rfl, _, rfl, _, rfl, _, rfl, _, _, rfl, _, rfl, by decide, by decide, ?_⟩
  have hb : absI b = b := by
    unfold absI
    rw [if_neg (by omega)]
  refine for_it (walk_range (lo := 0) (n := (600 : Int).toNat)) (fun i σ H' => H' = H ∧ ∃ (x y : Int) (z : Option V), 0 ≤ x ∧ 0 ≤ y ∧ y.toNat + i ≤ 500 ∧ σ = [some (.int x), some (.int y), z] ∧ Int.gcd x y = Int.gcd a b)
    ⟨rfl, absI a, absI b, _, absI_nn a, absI_nn b, by rw [hb]; omega, rfl, gcd_abs a b⟩ (fun _ _ _ _ _ => trivial) (fun i v σ H2 H3 hi ⟨e1, x, y, z, hx, hy, hl, e2, e3⟩ yy => ?_) (fun σ H2 ⟨e1, x, y, z, hx, hy, hl, e2, e3⟩ => ?_)
  · obtain ⟨rfl, rfl⟩ := yy
    subst e1 e2
    refine ⟨_, rfl, rfl, _, rfl, ?_⟩
    by_cases h0 : y = 0
    · refine dT (by rw [h0]) ⟨_, rfl, ?_⟩
      subst h0
      refine qE ?_ q
      rw [← e3, Int.gcd_zero_right]
      show V.int x = V.int _
      rw [V.int.injEq]
      omega
    · refine dF (nI h0) ⟨_, rfl, _, rfl, .inl ⟨_, rfl, _, rfl, _, _, rfl, rfl, by omega, _, _, rfl, rfl, y, x % y, _, hy, Int.emod_nonneg _ h0, ?_, rfl, by rw [gcd_step hx hy, e3]⟩⟩
      have := Int.emod_lt_of_pos x (show 0 < y by omega)
      have := Int.emod_nonneg x h0
      omega
  · have : (600 : Int).toNat = 600 := rfl
    omega
theorem pu__law_made (T : Txt K mg) : PureOk (sp__law_made K) ["_law_top", "_law_bottom"] N__law_made fun E => t__law_made K := by
  refine ⟨by rintro _ _ _ _ ⟨_, _, rfl, _⟩; rfl, ?_⟩
  rintro _ H Q E ⟨t, b, rfl, h1, h2, q⟩
  have g1 := gcd_pos (a := t) h1
  have g2 := gcd_le (a := t) h1
  exact ⟨_, rfl, _, rfl, _, _, rfl, h1, h2, _, rfl, _, rfl, _, _, rfl, rfl, ⟨g1, by omega⟩, _, rfl, _, rfl, _, _, rfl, rfl, ⟨g1, by omega⟩, sz (n := 2) (by omega), fun p hp => q _ _ (Gr.new hp) ⟨p, rfl, sqT upd_same⟩⟩
theorem pu__law_added (T : Txt K mg) : PureOk (sp__law_added K) ["_law_one", "_law_other"] N__law_added fun E => t__law_added K := by
  refine ⟨by rintro _ _ _ _ ⟨_, _, _, _, rfl, _⟩; rfl, ?_⟩
  rintro _ H Q E ⟨v, w, f, g, rfl, ⟨p, rfl, h⟩, ⟨p', rfl, h'⟩, a1, a2, a3, a4, q⟩
  have b1 : 0 < f.2 * g.2 := Int.mul_pos a1 a3
  have b2 : f.2 * g.2 ≤ 20 * 20 := Int.mul_le_mul a2 a4 (by omega) (by omega)
  exact ⟨_, rfl, _, _, _, _, rfl, rfl, h, rfl, _, rfl, _, _, _, _, rfl, rfl, h', rfl, _, _, rfl, rfl, .inr ⟨by omega, by omega⟩, _, rfl, _, _, _, _, rfl, rfl, h', rfl, _, rfl, _, _, _, _, rfl, rfl, h, rfl, _, _, rfl, rfl, .inr ⟨by omega, by omega⟩, _, _, rfl, rfl,
    _, rfl, _, _, _, _, rfl, rfl, h, rfl, _, rfl, _, _, _, _, rfl, rfl, h', rfl, _, _, rfl, rfl, .inr ⟨by omega, by omega⟩, _, _, rfl, b1, by omega, q⟩
theorem kN {a b : String} (h : kitB a b = some false) : PySem.W.kitOne K (.type a) (.type b) = some false := kit_ty h
theorem pu__law_same (T : Txt K mg) (n : Nat) : PureOk (sp__law_same K (n + 1)) ["_law_actual", "_law_expected"] N__law_same fun E => t__law_same K n := by
  refine ⟨by rintro _ _ _ _ ⟨_, _, _, _, rfl, _⟩; rfl, ?_⟩
  rintro _ H Q E ⟨m, x, y, em, rfl, h, q⟩
  have em : n = m := by omega
  subst em
  have hi : (∃ i, x = .int i ∧ y = .int i) ∨ ∃ m0, n = m0 + 1 ∧ ∃ p q xs ys, x = .ref p ∧ y = .ref q ∧ SqT K H p xs ∧ SqT K H q ys ∧ xs.length ≤ 1000 ∧ Paired (Tr K H m0) xs ys := by
    cases n with
    | zero => exact .inl h
    | succ m0 => exact h.imp id fun z => ⟨m0, rfl, z⟩
  rcases hi with ⟨i, rfl, rfl⟩ | ⟨m0, rfl, p, p', xs, ys, rfl, rfl, hx, hy, hl, hp⟩
  · refine ⟨_, rfl, rfl, _, rfl, dF (fun z => nomatch z) ?_⟩
    refine ⟨_, rfl, _, _, _, _, _, rfl, ClsV.ty _, .base (.int i), kN (by decide +kernel), _, rfl, ?_⟩
    refine ⟨_, rfl, _, _, _, _, _, rfl, ClsV.ty _, .base (.int i), kit_ty (b := "int") (r := true) (by decide +kernel), _, rfl, ?_⟩
    refine ⟨_, rfl, _, _, _, _, _, rfl, ClsV.ty _, .base (.int i), kit_ty (b := "int") (r := true) (by decide +kernel), _, rfl, ?_⟩
    exact ⟨_, rfl, _, _, _, _, _, rfl, ClsV.ty _, .base (.int i), kN (by decide +kernel), _, rfl, _, rfl, _, rfl, _, rfl, rfl, qT rfl q⟩
  · refine ⟨_, rfl, rfl, _, rfl, dF (fun z => nomatch z) ?_⟩
    refine ⟨_, rfl, _, _, _, _, _, rfl, ClsV.ty _, sqT_ty hy, kN (by decide +kernel), _, rfl, ?_⟩
    refine ⟨_, rfl, _, _, _, _, _, rfl, ClsV.ty _, sqT_ty hy, kN (by decide +kernel), _, rfl, ?_⟩
    refine ⟨_, rfl, _, _, _, _, _, rfl, ClsV.ty _, sqT_ty hy, kN (by decide +kernel), _, rfl, ?_⟩
    refine ⟨_, rfl, _, _, _, _, _, rfl, ClsV.ty _, sqT_ty hy, kTT, _, rfl, ?_⟩
    refine ⟨_, rfl, _, _, _, _, _, rfl, ClsV.ty _, sqT_ty hx, kTT, _, rfl, ?_⟩
    refine ⟨_, rfl, _, _, _, _, _, rfl, ClsV.ty _, sqT_ty hy, kN (by decide +kernel), _, rfl, ?_⟩
    have ll : xs.length = ys.length := hp.length
    refine ⟨_, rfl, _, _, rfl, .inr hx, _, rfl, _, _, rfl, .inr hy, rfl, _, rfl, dNT (by rw [ll]) ?_⟩
    refine ⟨_, rfl, _, _, rfl, .inr hy, _, rfl, by omega, by omega, ?_⟩
    refine for_it (walk_range0 (n := ((ys.length : Nat) : Int).toNat)) (fun i σ H' => H' = H ∧ ∃ z, σ = [some (V.ref p), some (.ref p'), z]) ⟨rfl, _, rfl⟩ (fun _ _ _ _ _ => trivial) (fun i v σ H2 H3 hi ⟨e1, z, e2⟩ yy => ?_) (fun σ H2 ⟨e1, z, e2⟩ => ?_)
    · obtain ⟨rfl, rfl⟩ := yy
      subst e1 e2
      have hi : i < ys.length := by omega
      obtain ⟨x1, hx1, hr⟩ := pget hp (show ys[i]? = some ys[i] by simp [hi])
      exact ⟨_, rfl, _, rfl, _, _, _, _, rfl, rfl, hx, atI_nat hx1, _, rfl, _, rfl, _, _, _, _, rfl, rfl, hy, atI_nat (show ys[i]? = some ys[i] by simp [hi]), m0, _, _, rfl, rfl, hr, _, rfl, rfl, _, rfl⟩
    · subst e1
      exact q
theorem pu__law_met (T : Txt K mg) : PureOk (sp__law_met K) ["_law_found", "_law_due"] N__law_met fun E => t__law_met K := by
  refine ⟨by rintro _ _ _ _ ⟨_, _, rfl, _⟩; rfl, ?_⟩
  rintro _ H Q E ⟨v, w, rfl, ha, q⟩
  rcases ha with ⟨p, p', x, y, rfl, rfl, h, h', ht⟩ | ⟨p, p', l, r, b1, b2, b3, rfl, rfl, h, h', hl, hr⟩
  · refine ⟨_, rfl, _, _, _, _, rfl, rfl, h, rfl, _, rfl, _, _, _, _, rfl, rfl, h', rfl, rfl, _, rfl, dNT rfl ?_⟩
    refine ⟨_, rfl, _, _, _, _, rfl, rfl, h, rfl, rfl, _, rfl, dF (by decide) ?_⟩
    exact ⟨_, rfl, _, rfl, _, _, _, _, rfl, rfl, h, rfl, _, rfl, _, rfl, _, _, _, _, rfl, rfl, h', rfl, 3, _, _, rfl, rfl, ht, q⟩
  · refine ⟨_, rfl, _, _, _, _, rfl, rfl, h, rfl, _, rfl, _, _, _, _, rfl, rfl, h', rfl, rfl, _, rfl, dNT rfl ?_⟩
    refine ⟨_, rfl, _, _, _, _, rfl, rfl, h, rfl, rfl, _, rfl, dT rfl ?_⟩
    refine ⟨_, rfl, _, _, _, _, rfl, rfl, h, rfl, _, rfl, _, _, _, _, rfl, rfl, h', rfl, .list [.bool b1, .bool b2, .bool b3], .list [.bool b1, .bool b2, .bool b3], .lst hl (.cons (.bl _) (.cons (.bl _) (.cons (.bl _) .nil))), .lst hr (.cons (.bl _) (.cons (.bl _) (.cons (.bl _) .nil))), by cases b1 <;> cases b2 <;> cases b3 <;> decide, by cases b1 <;> cases b2 <;> cases b3 <;> decide, _, rfl, ?_⟩
    have e : (!PyData.eqv (.list [.bool b1, .bool b2, .bool b3]) (.list [.bool b1, .bool b2, .bool b3])) = false := by cases b1 <;> cases b2 <;> cases b3 <;> decide
    refine bF e ?_
    exact ⟨_, rfl, _, rfl, _, _, _, _, rfl, rfl, h, rfl, _, rfl, _, rfl, _, _, _, _, rfl, rfl, h', rfl, 3, _, _, rfl, rfl, .inl ⟨0, rfl, rfl⟩, q⟩
theorem pu__law_integer (T : Txt K mg) : PureOk (sp__law_integer K) ["_law_thing"] N__law_integer fun E => t__law_integer K := by
  refine ⟨by rintro _ _ _ _ ⟨_, _, rfl, _⟩; rfl, ?_⟩
  rintro _ H Q E h
  exact (pu_is_integer T).2 _ H Q E h
end K11
/-! part K11R2 -/
namespace K11
open PySem PySem.Spec PyProof.Rows L2
variable {K : PySem.W.Frag} {mg : Str → Option Value}
/-! ### values of any kind -/
theorem any_ty {H : Hp} {v : V} {t : String} {b1 b2 : Bool} (ty : TyX K H v (.type t)) (k0 : kitB t "tuple" = some false) (k1 : kitB t "int" = some b1) (k2 : kitB t "bool" = some b2) (h : (b1 && !b2) = false) : Any K H v :=
  ⟨⟨none, .inr ⟨rfl, _, ty, kit_ty k0⟩⟩, ⟨none, .inr ⟨rfl, _, b1, b2, ty, kit_ty k1, kit_ty k2, h⟩⟩⟩
theorem any_non {H : Hp} : Any K H .non := any_ty (b1 := false) (b2 := false) (.base .non) (by decide +kernel) (by decide +kernel) (by decide +kernel) rfl
theorem any_bl {H : Hp} {b : Bool} : Any K H (.bl b) := any_ty (b1 := true) (b2 := true) (.base (.bl b)) (by decide +kernel) (by decide +kernel) (by decide +kernel) rfl
theorem any_str {H : Hp} {s : Str} : Any K H (.str s) := any_ty (b1 := false) (b2 := false) (.base (.str s)) (by decide +kernel) (by decide +kernel) (by decide +kernel) rfl
theorem any_int {H : Hp} {i : Int} : Any K H (.int i) := ⟨⟨none, .inr ⟨rfl, _, .base (.int i), kN (by decide +kernel)⟩⟩, ⟨some i, itm_int⟩⟩
theorem any_lst {H : Hp} {p : Addr} {xs : List V} (h : H p = some (.lst xs)) : Any K H (.ref p) := any_ty (b1 := false) (b2 := false) (.base (.lst h)) (by decide +kernel) (by decide +kernel) (by decide +kernel) rfl
theorem any_dk {H : Hp} {p : Addr} {kvs : List (Key × V)} (h : H p = some (.dK kvs)) : Any K H (.ref p) := any_ty (b1 := false) (b2 := false) (.base (.dK h)) (by decide +kernel) (by decide +kernel) (by decide +kernel) rfl
theorem pairs_of {α : Type} {R : V → α → Prop} : ∀ {xs : List V}, (∀ x ∈ xs, ∃ o, R x o) → ∃ l, Paired R xs l
  | [], _ => ⟨[], .nil⟩
  | x :: xs, h => by
    obtain ⟨o, ho⟩ := h x (List.mem_cons_self ..)
    obtain ⟨l, hl⟩ := pairs_of (xs := xs) fun y hy => h y (List.mem_cons_of_mem _ hy)
    exact ⟨o :: l, .cons ho hl⟩
theorem any_tup {H : Hp} {p : Addr} {xs : List V} (h : SqT K H p xs) (ha : ∀ x ∈ xs, ∃ o, Itm K H x o) : Any K H (.ref p) := by
  obtain ⟨l, hl⟩ := pairs_of ha
  exact ⟨⟨some l, .inl ⟨l, p, xs, rfl, rfl, h, hl⟩⟩, ⟨none, .inr ⟨rfl, _, false, false, sqT_ty h, kN (by decide +kernel), kN (by decide +kernel), rfl⟩⟩⟩
theorem any_web (T : Txt K mg) {H : Hp} {x dx : Addr} {fs : List (Str × V)} (h : H x = some (.ins (webC K) dx fs)) : Any K H (.ref x) :=
  have ty : TyX K H (.ref x) (.ref (webC K)) := .base (.ins h T.webCls T.iWc T.iWn T.iWt T.iWm)
  ⟨⟨none, .inr ⟨rfl, _, ty, T.kWt⟩⟩, ⟨none, .inr ⟨rfl, _, false, false, ty, T.kWi, T.kWb, rfl⟩⟩⟩
/-- an expression that yields anything | an int | arguments that yield anything -/
def EE (K : PySem.W.Frag) (te : TE) (σ : L2.St) : Prop := ∀ (H : Hp) (Q : VK), (∀ v H', Gr [] H H' → Any K H' v → Q v H') → te σ H Q
def EI (te : TE) (σ : L2.St) : Prop := ∀ (H : Hp) (Q : VK), (∀ i, Q (.int i) H) → te σ H Q
def EAr (K : PySem.W.Frag) (ta : TA) (σ : L2.St) (n : Nat) : Prop := ∀ (H : Hp) (Q : List V → Hp → Prop), (∀ vs H', Gr [] H H' → vs.length = n → (∀ y ∈ vs, Any K H' y) → Q vs H') → ta σ H Q
section
variable {σ : L2.St} {te : TE} {ta : TA} {n : Nat} {ta1 tb1 : TE}
theorem ei_c {i : Int} : EI (tC (.int i)) σ := fun H Q q => q i
theorem ei_neg (h : EI te σ) : EI (tUn qNeg te) σ := fun H Q q => h H _ fun i => ⟨i, rfl, q _⟩
theorem ei_add (h : EI ta1 σ) (h' : EI tb1 σ) : EI (tOp qAdd ta1 tb1) σ := fun H Q q => h H _ fun i => h' H _ fun j => ⟨i, j, rfl, rfl, q _⟩
theorem ei_pow {a b : Int} (h : CPow a b) : EI (tOp qPow (tC (.int a)) (tC (.int b))) σ := fun H Q q => ⟨a, b, rfl, rfl, h, q _⟩
theorem ee_i (h : EI te σ) : EE K te σ := fun H Q q => h H Q fun i => q _ _ (Gr.refl _ _) any_int
theorem ee_non : EE K (tC .non) σ := fun H Q q => q _ _ (Gr.refl _ _) any_non
theorem ee_bl {b : Bool} : EE K (tC (.bl b)) σ := fun H Q q => q _ _ (Gr.refl _ _) any_bl
theorem ee_str {s : Str} : EE K (tC (.str s)) σ := fun H Q q => q _ _ (Gr.refl _ _) any_str
theorem ear_nil : EAr K tNil σ 0 := fun H Q q => q [] H (Gr.refl _ _) rfl (by simp)
theorem ear_cons (h : EE K te σ) (hr : EAr K ta σ n) : EAr K (tCons te ta) σ (n + 1) := fun H Q q => h H _ fun v H1 g1 a1 => hr H1 _ fun vs H2 g2 l a2 => q (v :: vs) H2 (g1.trans g2) (by rw [List.length_cons, l]) fun y hy => (List.mem_cons.mp hy).elim (fun e => by rw [e]; exact a1.gr g2) (a2 y)
theorem ee_tup (h : EAr K ta σ n) (hn : n ≤ 100000) : EE K (tTup ta) σ := fun H Q q => h H _ fun vs H1 g1 l a => ⟨sz (by omega), fun p hp => q _ _ (g1.trans (Gr.new hp)) (any_tup (sqT upd_same) fun x hx => ((a x hx).gr (Gr.new (m := []) hp)).2)⟩
theorem ee_lst (h : EAr K ta σ n) (hn : n ≤ 100000) : EE K (tLst ta) σ := fun H Q q => h H _ fun vs H1 g1 l a => ⟨sz (by omega), fun p hp => q _ _ (g1.trans (Gr.new hp)) (any_lst upd_same)⟩
theorem ee_t0 : EE K (tTup tNil) σ := ee_tup ear_nil (by decide)
theorem ee_t1 {a : TE} (h1 : EE K a σ) : EE K (tTup (tCons a tNil)) σ := ee_tup (ear_cons h1 ear_nil) (by decide)
theorem ee_t2 {a b : TE} (h1 : EE K a σ) (h2 : EE K b σ) : EE K (tTup (tCons a (tCons b tNil))) σ := ee_tup (ear_cons h1 (ear_cons h2 ear_nil)) (by decide)
theorem ee_t3 {a b c : TE} (h1 : EE K a σ) (h2 : EE K b σ) (h3 : EE K c σ) : EE K (tTup (tCons a (tCons b (tCons c tNil)))) σ := ee_tup (ear_cons h1 (ear_cons h2 (ear_cons h3 ear_nil))) (by decide)
theorem ee_l0 : EE K (tLst tNil) σ := ee_lst ear_nil (by decide)
theorem ee_l1 {a : TE} (h1 : EE K a σ) : EE K (tLst (tCons a tNil)) σ := ee_lst (ear_cons h1 ear_nil) (by decide)
theorem ee_dn : EE K tDNewK σ := fun H Q q p hp => q _ _ (Gr.new hp) (any_dk upd_same)
theorem ee_d1 {s : Str} {i : Int} : EE K (tDisp ((tC (.str s), tC (.int i)) :: [])) σ := fun H Q q p hp => ⟨upd_same, [(.inr s, .int i)], rfl, (by show 1 ≤ 15; decide), q _ _ ((Gr.new hp).wr hp) (any_dk upd_same)⟩
theorem ee_d2 {j : Int} (h : EAr K ta σ n) (hn : n ≤ 100000) : EE K (tDisp ((tC (.int j), tTup ta) :: [])) σ := fun H Q q p hp => h _ _ fun vs H1 g1 l a => ⟨sz (by omega), fun p2 hp2 => by
  have e1 : H1 p = some (.dK []) := g1.nl upd_same (fun _ z => nomatch z)
  have ne : p ≠ p2 := ne_of_none e1 hp2
  exact ⟨by rw [upd_ne ne]; exact e1, [(.inl j, .ref p2)], rfl, (by show 1 ≤ 15; decide), q _ _ ((((Gr.new hp).trans g1).trans (Gr.new hp2)).wr hp) (any_dk upd_same)⟩⟩
end
theorem pu__law_deep (T : Txt K mg) : PureOk (sp__law_deep K) ["_law_many"] N__law_deep fun E => t__law_deep K := by
  refine ⟨by rintro _ _ _ _ ⟨rfl, _⟩; rfl, ?_⟩
  rintro _ H Q E ⟨rfl, q⟩
  refine ⟨sz (n := 0) (by omega), fun p hp => ⟨_, rfl, _, rfl, by decide, by decide, ?_⟩⟩
  refine for_it (walk_range0 (n := (32 : Int).toNat)) (fun i σ H' => Gr [] H H' ∧ ∃ v z, σ = [some (V.int 32), some v, z] ∧ Any K H' v) ⟨Gr.new hp, _, _, rfl, any_tup (sqT upd_same) (by simp)⟩ (fun _ _ _ _ _ => trivial) (fun i y σ H2 H3 hi ⟨g, v, z, e2, a⟩ yy => ?_) (fun σ H2 ⟨g, v, z, e2, a⟩ => ?_)
  · obtain ⟨rfl, rfl⟩ := yy
    subst e2
    exact ⟨_, rfl, sz (n := 1) (by omega), fun p2 hp2 => ⟨g.trans (Gr.new hp2), _, _, rfl, any_tup (sqT upd_same) fun x hx => by
      rw [List.mem_singleton.mp hx]
      exact (a.gr (Gr.new (m := []) hp2)).2⟩⟩
  · subst e2
    exact ⟨_, rfl, q _ _ g a⟩
theorem ee_deep {σ : L2.St} : EE K (tCall (sp__law_deep K) [] E0 (tCons (tC (.int 32)) tNil)) σ := fun H Q q => ⟨rfl, fun H' v g a => q _ _ g a⟩
theorem ee_web (T : Txt K mg) {σ : L2.St} : EE K (tMake (He.ga K "Web") (sp_init K) [] E0 (tCons (tTup (tCons (tC (.int 1)) tNil)) (tCons (tTup tNil) tNil))) σ := fun H Q q => ⟨sz (n := 1) (by omega), fun p1 hp1 => ⟨sz (n := 0) (by omega), fun p2 hp2 => fun x dx hx hdx hne => by
  have g1 : Gr [] H (upd H p1 (.tup [.int 1])) := Gr.new hp1
  have g2 := g1.trans (Gr.new (m := []) (o := .tup []) hp2)
  have g3 := g2.trans (Gr.new (m := []) (o := .own x) hdx)
  have hx3 : upd (upd (upd H p1 (.tup [.int 1])) p2 (.tup [])) dx (.own x) x = none := by
    rw [upd_ne (Ne.symm hne)]
    exact hx
  have g4 := g3.trans (Gr.new (m := []) (o := .ins (webC K) dx []) hx3)
  have hx0 := g2.fresh hx
  have t1 : Ti K (upd (upd (upd (upd H p1 (.tup [.int 1])) p2 (.tup [])) dx (.own x)) x (.ins (webC K) dx [])) (.ref p1) [1] :=
    ⟨p1, _, rfl, ((Gr.new (m := []) hp2).trans ((Gr.new (m := []) hdx).trans (Gr.new hx3))).tup (sqT upd_same), .cons rfl .nil⟩
  have t2 : Ps K (upd (upd (upd (upd H p1 (.tup [.int 1])) p2 (.tup [])) dx (.own x)) x (.ins (webC K) dx [])) (.ref p2) [] :=
    ⟨p2, _, rfl, ((Gr.new (m := []) hdx).trans (Gr.new hx3)).tup (sqT upd_same), .nil⟩
  refine ⟨x, .ref p1, .ref p2, [1], [], rfl, ⟨⟨dx, upd_same⟩, t1, ⟨by decide, by decide, fun y hy => by
    rw [List.mem_singleton.mp hy]
    decide⟩, t2, ⟨by decide, fun P hP => by simp at hP⟩⟩, fun H' g gX hg wb => ⟨rfl, q _ _ (fun b o hb => .inl ?_) ?_⟩⟩
  · exact gX b o (ne_of_none hb hx0) (g4.at hb (by simp))
  · obtain ⟨a, dx', fs, wv, pv, gs, e, h1, _⟩ := wb
    cases e
    exact any_web T h1⟩⟩
theorem w_seq {t u : TS} {D : Ends} {σ : L2.St} {H : Hp} (h : t { D with nx := u D } σ H) : tSeq t u D σ H := h
theorem w_asgL {ta : TA} {i : Nat} {D : Ends} {σ : L2.St} {H : Hp} (h : ta σ H fun xs H1 => xs.length ≤ sizeLine ∧ ∀ p, H1 p = none → D.nx (σ.set i (some (.ref p))) (upd H1 p (.lst xs))) : tAsg (tLst ta) (gName i) D σ H := h
theorem w_catL {ta : TA} {i j : Nat} {D : Ends} {σ : L2.St} {H : Hp} {v : V} (hv : σ[j]? = some (some v))
    (h : ta σ H fun xs H1 => xs.length ≤ sizeLine ∧ ∀ p, H1 p = none → rCat v (.ref p) (upd H1 p (.lst xs)) fun z H3 => D.nx (σ.set i (some z)) H3) : tAsg (tOp rCat (tVar j) (tLst ta)) (gName i) D σ H := ⟨v, hv, h⟩
theorem pu__law_strange (T : Txt K mg) : PureOk (sp__law_strange K) ["_law_source_here"] N__law_strange fun E => t__law_strange K := by
  refine ⟨by rintro _ _ _ _ ⟨_, _, rfl, _⟩; rfl, ?_⟩
  rintro _ H Q E ⟨p, c, rfl, hs, q⟩
  have e1 : EAr K (tCons (tC .non) (tCons (tC (.bl true)) (tCons (tC (.bl false)) (tCons (tC (.str "")) (tCons (tC (.str "1")) (tCons (tC (.str "a/2")) (tCons (tLst tNil) (tCons (tLst (tCons (tC (.int 1)) tNil)) (tCons (tLst (tCons (tTup (tCons (tC (.int 1)) (tCons (tC (.int 1)) tNil))) tNil)) (tCons (tTup tNil) (tCons (tTup (tCons (tC (.int 1)) tNil)) (tCons (tTup (tCons (tC (.int 1)) (tCons (tC (.int 1)) (tCons (tC (.int 1)) tNil)))) (tCons (tTup (tCons (tC (.int 2)) (tCons (tC (.int 4)) tNil))) (tCons (tTup (tCons (tC (.int 1)) (tCons (tC (.int 0)) tNil))) (tCons (tTup (tCons (tC (.int 1)) (tCons (tUn qNeg (tC (.int 1))) tNil))) (tCons (tTup (tCons (tC (.int 0)) (tCons (tC (.int 1)) tNil))) (tCons (tTup (tCons (tUn qNeg (tC (.int 1))) (tCons (tC (.int 2)) tNil))) tNil))))))))))))))))) (L2.start N__law_strange [V.ref p]) 17 := by
    repeat (first | exact ear_nil | refine ear_cons ?_ ?_ | exact ee_non | exact ee_bl | exact ee_str | exact ee_i ei_c | exact ee_i (ei_neg ei_c) | exact ee_l0 | refine ee_l1 ?_ | exact ee_t0 | refine ee_t1 ?_ | refine ee_t2 ?_ ?_ | refine ee_t3 ?_ ?_ ?_)
  unfold t__law_strange
  refine w_seq (w_asgL (e1 H _ fun vs1 H1 g1 l1 a1 => ⟨sz (by omega), fun p1 hp1 => ?_⟩))
  have hp1' := (upd_same : upd H1 p1 (.lst vs1) p1 = some (.lst vs1))
  have g2 := g1.trans (Gr.new (m := []) (o := .lst vs1) hp1)
  have e2 : ∀ σ, EAr K (tCons (tTup (tCons (tC (.bl true)) (tCons (tC (.int 1)) tNil))) (tCons (tTup (tCons (tC (.int 1)) (tCons (tC (.bl true)) tNil))) (tCons (tTup (tCons (tC (.str "1")) (tCons (tC (.int 1)) tNil))) (tCons (tTup (tCons (tC .non) (tCons (tC (.int 1)) tNil))) (tCons (tTup (tCons (tTup (tCons (tC (.int 1)) (tCons (tC (.int 1)) tNil))) (tCons (tC (.int 1)) tNil))) (tCons tDNewK (tCons (tDisp (((tC (.str "a")), (tC (.int 1))) :: [])) (tCons (tDisp (((tC (.int 1)), (tTup (tCons (tC (.int 2)) (tCons (tC (.int 3)) tNil)))) :: [])) (tCons (tUn qNeg (tC (.int 1))) (tCons (tC (.int 0)) (tCons (tC (.int 1)) (tCons (tC (.int 2)) (tCons (tC (.int 7)) (tCons (tC (.int 12)) (tCons (tC (.int 13)) tNil))))))))))))))) σ 15 := fun σ => by
    repeat (first | exact ear_nil | refine ear_cons ?_ ?_ | exact ee_non | exact ee_bl | exact ee_str | exact ee_i ei_c | exact ee_i (ei_neg ei_c) | exact ee_dn | exact ee_d1 | exact ee_d2 (ear_cons (ee_i ei_c) (ear_cons (ee_i ei_c) ear_nil)) (by decide) | exact ee_l0 | refine ee_l1 ?_ | exact ee_t0 | refine ee_t1 ?_ | refine ee_t2 ?_ ?_ | refine ee_t3 ?_ ?_ ?_)
  refine w_seq (w_catL (v := .ref p1) rfl (e2 _ _ _ fun vs2 H2 g3 l2 a2 => ⟨sz (by omega), fun p2 hp2 => ⟨_, _, vs1, vs2, rfl, rfl, ?_, upd_same, sz (by omega), fun p3 hp3 => ?_⟩⟩))
  · exact (g3.trans (Gr.new (m := []) hp2)).at hp1' (by simp)
  have g5 := (g3.trans (Gr.new (m := []) (o := .lst vs2) hp2)).trans (Gr.new (m := []) (o := .lst (vs1 ++ vs2)) hp3)
  have hp3' := (upd_same : upd (upd H2 p2 (.lst vs2)) p3 (.lst (vs1 ++ vs2)) p3 = some (.lst (vs1 ++ vs2)))
  have e3 : ∀ σ, EAr K (tCons (tC (.int 37)) (tCons (tOp qPow (tC (.int 10)) (tC (.int 39))) (tCons (tUn qNeg (tOp qPow (tC (.int 10)) (tC (.int 39)))) (tCons (tTup (tCons (tOp qPow (tC (.int 10)) (tC (.int 39))) (tCons (tC (.int 1)) tNil))) (tCons (tTup (tCons (tC (.int 1)) (tCons (tOp qPow (tC (.int 10)) (tC (.int 39))) tNil))) (tCons (tTup (tCons (tOp qAdd (tOp qPow (tC (.int 10)) (tC (.int 6))) (tC (.int 1))) (tCons (tC (.int 1)) tNil))) (tCons (tTup (tCons (tC (.int 1)) (tCons (tC (.int 145)) tNil))) (tCons (tCall (sp__law_deep K) [] E0 (tCons (tC (.int 32)) tNil)) (tCons (tMake (He.ga K "Web") (sp_init K) [] E0 (tCons (tTup (tCons (tC (.int 1)) tNil)) (tCons (tTup tNil) tNil))) tNil))))))))) σ 9 := fun σ => by
    repeat (first | exact ear_nil | refine ear_cons ?_ ?_ | exact ee_i ei_c | exact ee_i (ei_pow ⟨by decide, by decide, by decide⟩) | exact ee_i (ei_neg (ei_pow ⟨by decide, by decide, by decide⟩)) | exact ee_i (ei_add (ei_pow ⟨by decide, by decide, by decide⟩) ei_c) | exact ee_deep | exact ee_web T | exact ee_t0 | refine ee_t1 ?_ | refine ee_t2 ?_ ?_ | refine ee_t3 ?_ ?_ ?_)
  refine w_seq (w_catL (v := .ref p3) rfl (e3 _ _ _ fun vs3 H3 g6 l3 a3 => ⟨sz (by omega), fun p4 hp4 => ⟨_, _, vs1 ++ vs2, vs3, rfl, rfl, ?_, upd_same, sz (by rw [List.length_append]; omega), fun p5 hp5 => ?_⟩⟩))
  · exact (g6.trans (Gr.new (m := []) hp4)).at hp3' (by simp)
  have g7 := (g6.trans (Gr.new (m := []) (o := .lst vs3) hp4)).trans (Gr.new (m := []) (o := .lst (vs1 ++ vs2 ++ vs3)) hp5)
  have gall := (g2.trans g5).trans g7
  have ne5 : p5 ≠ p := fun z => (hs.ne (((g2.trans g5).trans (g6.trans (Gr.new (m := []) (o := .lst vs3) hp4))).fresh hp5)).1 z.symm
  refine ⟨_, rfl, _, rfl, p, c, p5, vs1 ++ vs2 ++ vs3, rfl, hs.gr gall (by simp) (by simp), sqL upd_same, ne5, ?_, ?_, fun H' i v d hv => ?_⟩
  · intro z
    have z2 : (vs1 ++ vs2 ++ vs3).length = 0 := by rw [z]; rfl
    rw [List.length_append, List.length_append] at z2
    omega
  · rw [List.length_append, List.length_append]
    omega
  · refine q _ _ ⟨(gall.up).trans d.1, d.2⟩ ?_
    have hm := List.mem_of_getElem? hv
    rcases List.mem_append.mp hm with hm | hm
    · rcases List.mem_append.mp hm with hm | hm
      · exact ((((a1 v hm).gr (Gr.new (m := []) hp1)).gr g5).gr g7).gr d.1
      · exact ((((a2 v hm).gr (Gr.new (m := []) hp2)).gr (Gr.new (m := []) hp3)).gr g7).gr d.1
    · exact (((a3 v hm).gr (Gr.new (m := []) hp4)).gr (Gr.new (m := []) hp5)).gr d.1
end K11
/-! part K11R3 -/
set_option maxHeartbeats 1000000
namespace K11
open PySem PySem.Spec PyProof.Rows L2
variable {K : PySem.W.Frag} {mg : Str → Option Value}
/-! ### steps in order -/
def keyS (s : Int × Int) : Int := s.1 * (10 : Int) ^ (6 : Int).toNat / s.2
def encS (s : Int × Int) : PyData := .tuple [.int (keyS s), .tuple [.int s.1, .int s.2]]
theorem key_le {s t : Int × Int} (h : PySem.W.dataLe false encS s t = true) : keyS s ≤ keyS t := by
  apply Int.not_lt.mp
  intro hlt
  have e : PyProof.Rows.lexLt itemOrd (PySem.W.keyToks (encS t)) (PySem.W.keyToks (encS s)) = true := by
    have e1 : ∀ u : Int × Int, PySem.W.keyToks (encS u) = .inl 1 :: (.inl (keyS u) :: (PySem.W.keyToksAll [.tuple [.int u.1, .int u.2]])) := fun u => by
      unfold encS
      simp [PySem.W.keyToks, PySem.W.keyToksAll]
    rw [e1, e1, PyProof.Rows.lex_cons]
    have e2 : PyProof.Rows.lexLt itemOrd (Sum.inl (keyS t) :: PySem.W.keyToksAll [.tuple [.int t.1, .int t.2]]) (Sum.inl (keyS s) :: PySem.W.keyToksAll [.tuple [.int s.1, .int s.2]]) = true := by
      rw [PyProof.Rows.lex_diff (by intro z; injection z with z; omega)]
      show decide (keyS t < keyS s) = true
      exact decide_eq_true hlt
    rw [e2]
    rfl
  have h2 : (!PyProof.Rows.lexLt itemOrd (PySem.W.keyToks (encS t)) (PySem.W.keyToks (encS s))) = true := h
  rw [e] at h2
  cases h2
theorem step_le {x y : Int × Int} (wx : WfS x) (wy : WfS y) (h : keyS x ≤ keyS y) : x.1 * y.2 ≤ y.1 * x.2 := by
  apply Int.not_lt.mp
  intro hlt
  have b1 := wx.b1
  have b2 := wx.b2
  have b3 := wy.b1
  have b4 := wy.b2
  have e6 : (10 : Int) ^ (6 : Int).toNat = 1000000 := by decide
  unfold keyS at h
  rw [e6] at h
  have hA : x.1 * 1000000 < (x.1 * 1000000 / x.2 + 1) * x.2 := Int.lt_ediv_add_one_mul_self _ (by omega)
  have hB : y.1 * 1000000 / y.2 * y.2 ≤ y.1 * 1000000 := Int.ediv_mul_le _ (by omega)
  have p0 : 0 < x.2 * y.2 := Int.mul_pos (by omega) (by omega)
  have p1 : x.2 * y.2 ≤ 144 * 144 := Int.mul_le_mul b2 b4 (by omega) (by omega)
  generalize x.1 * 1000000 / x.2 = A at h hA
  generalize y.1 * 1000000 / y.2 = B at h hB
  have h1 : x.1 * 1000000 * y.2 < (A + 1) * x.2 * y.2 := Int.mul_lt_mul_of_pos_right hA (by omega)
  have h3 : B * y.2 * x.2 ≤ y.1 * 1000000 * x.2 := Int.mul_le_mul_of_nonneg_right hB (by omega)
  have h2 : (A + 1) * (x.2 * y.2) ≤ (B + 1) * (x.2 * y.2) := Int.mul_le_mul_of_nonneg_right (by omega) (by omega)
  have r1 : x.1 * 1000000 * y.2 = x.1 * y.2 * 1000000 := by rw [Int.mul_assoc, Int.mul_comm 1000000 y.2, ← Int.mul_assoc]
  have r2 : y.1 * 1000000 * x.2 = y.1 * x.2 * 1000000 := by rw [Int.mul_assoc, Int.mul_comm 1000000 x.2, ← Int.mul_assoc]
  have r3 : (A + 1) * x.2 * y.2 = (A + 1) * (x.2 * y.2) := Int.mul_assoc _ _ _
  have r4 : B * y.2 * x.2 = B * (x.2 * y.2) := by rw [Int.mul_assoc, Int.mul_comm y.2 x.2]
  have r5 : (B + 1) * (x.2 * y.2) = B * (x.2 * y.2) + x.2 * y.2 := by rw [Int.add_mul, Int.one_mul]
  rw [r1, r3] at h1
  rw [r2, r4] at h3
  rw [r5] at h2
  generalize (A + 1) * (x.2 * y.2) = a1 at *
  generalize B * (x.2 * y.2) = b5 at *
  generalize x.2 * y.2 = p at *
  generalize x.1 * y.2 = v at *
  generalize y.1 * x.2 = u at *
  omega
theorem dpAll_of {H : Hp} : ∀ {xs : List V} {l : List (Int × Int)} {f : Int × Int → PyData}, Paired (fun x s => Dp K H x (f s)) xs l → DpAll K H xs (l.map f)
  | _, _, _, .nil => .nil
  | _, _, _, .cons h t => .cons h (dpAll_of t)
theorem pu__law_in_order (T : Txt K mg) : PureOk (sp__law_in_order K) ["_law_steps_here"] N__law_in_order fun E => t__law_in_order K := by
  refine ⟨by rintro _ _ _ _ ⟨_, _, rfl, _⟩; rfl, ?_⟩
  rintro _ H Q E ⟨v, l, rfl, ⟨p, xs, rfl, h, hp⟩, n2, n1, ws, q⟩
  have hn : xs.length = l.length := hp.length
  refine ⟨_, rfl, p, rfl, ⟨xs, h⟩, fun D hD => ?_⟩
  refine lc_each (m := []) (walk_list (xs := xs)) hD (by simp) (by omega) (fun H j y => ∃ p x, y = .ref p ∧ SqT K H p [.int (keyS (l.getD j (0, 1))), x] ∧ Fr K H x (l.getD j (0, 1))) (fun H1 g => g.lstN h (by simp) hD) (fun i x H1 H' hi s y => ?_) (fun H1 acc g e1 e2 e3 => ?_)
  · obtain ⟨rfl, hx⟩ := y
    obtain ⟨b, hb, hr⟩ := pgetL hp hx
    have hr1 := hr.gr s.gr
    obtain ⟨p2, rfl, h2⟩ := id hr1
    have wb := ws _ (List.mem_of_getElem? hb)
    have b1 := wb.b1
    have b2 := wb.b2
    have t1 := wb.t1
    have t2 := wb.t2
    refine ⟨rfl, _, rfl, _, _, _, _, rfl, rfl, h2, rfl, _, _, rfl, rfl, ⟨by decide, by decide, by decide⟩, _, _, rfl, rfl, .inl ⟨by omega, by omega⟩, _, rfl, _, _, _, _, rfl, rfl, h2, rfl, _, _, rfl, rfl, ⟨by omega, by omega⟩, _, rfl, sz (n := 2) (by omega), fun p3 hp3 => s.leaf ?_ (by omega) (Gr.new hp3) ⟨p3, .ref p2, rfl, ?_, ?_⟩⟩
    · rintro H5 H6 j y g5 ⟨p, x, e, a, b⟩
      exact ⟨p, x, e, g5.tup a, b.gr g5⟩
    · rw [getD_of hb]
      exact sqT upd_same
    · rw [getD_of hb]
      exact hr1.gr (Gr.new (m := []) hp3)
  · have hpa : Paired (fun y s => ∃ p x, y = V.ref p ∧ SqT K H1 p [.int (keyS s), x] ∧ Fr K H1 x s) acc l := paired_of (by rw [e2, hn]) fun i a b ha hb => by
      have z := e3 i a ha
      rw [getD_of hb] at z
      exact z
    have hdp : DpAll K H1 acc (l.map encS) := dpAll_of (L2.Paired.mapP hpa fun y s ⟨p, x, e, a, p2, e2, b⟩ => by
      rw [e]
      refine .tup a (.cons (.int _) (.cons ?_ .nil))
      rw [e2]
      exact .tup b (.cons (.int _) (.cons (.int _) .nil)))
    refine ⟨D, acc, l.map encS, rfl, sqL e1, hdp, ?_, ?_, by omega, ?_, fun p2 ys hp2 eys => ?_⟩
    · refine PySem.W.AllAlike.of fun b b' => ?_
      unfold encS
      simp [PySem.W.alike, PySem.W.alikeAll]
    · exact PySem.W.Sortable.tuples fun b => ⟨_, _, rfl⟩
    · intro d hd
      obtain ⟨s, _, rfl⟩ := List.mem_map.mp hd
      unfold encS
      simp [PyData.depth, PyData.depthAll]
    · have ez : acc.zip (l.map encS) = (acc.zip l).map fun z => (z.1, encS z.2) := by
        rw [List.zip_map_right]
        rfl
      have em : ys = ((acc.zip l).mergeSort (PySem.W.dataLe false fun z : V × (Int × Int) => encS z.2)).map fun z => (z.1, encS z.2) := by
        rw [eys, ez]
        exact (List.map_mergeSort (r := PySem.W.dataLe false fun z : V × (Int × Int) => encS z.2) (s := PySem.W.dataLe false fun z : V × PyData => z.2) (f := fun z : V × (Int × Int) => (z.1, encS z.2)) (fun a _ b _ => rfl)).symm
      have hM : ∃ M : List (V × (Int × Int)), M = (acc.zip l).mergeSort (PySem.W.dataLe false fun z : V × (Int × Int) => encS z.2) := ⟨_, rfl⟩
      obtain ⟨M, hM⟩ := hM
      rw [← hM] at em
      have lM : M.length = l.length := by
        rw [hM, List.length_mergeSort, List.length_zip, e2, hn]
        omega
      have inM : ∀ z ∈ M, (∃ p x, z.1 = V.ref p ∧ SqT K H1 p [.int (keyS z.2), x] ∧ Fr K H1 x z.2) ∧ WfS z.2 := by
        intro z hz
        rw [hM, List.mem_mergeSort] at hz
        obtain ⟨i, hi, ei⟩ := List.mem_iff_getElem.mp hz
        have ei2 : (acc.zip l)[i]? = some z := by rw [List.getElem?_eq_getElem hi, ei]
        rw [List.getElem?_zip_eq_some] at ei2
        obtain ⟨b, hb, hr⟩ := pgetL hpa ei2.1
        rw [ei2.2] at hb
        cases hb
        exact ⟨hr, ws _ (List.mem_of_getElem? ei2.2)⟩
      have sM : M.Pairwise fun a b => PySem.W.dataLe false (fun z : V × (Int × Int) => encS z.2) a b = true := by
        rw [hM]
        have tl := PySem.W.sortLe_total (listOrd itemOrd) false fun z : V × (Int × Int) => PySem.W.keyToks (encS z.2)
        exact List.pairwise_mergeSort tl.trans (fun a b => by rcases tl.total a b with h | h <;> simp [PySem.W.dataLe, h]) _
      have exs : ys.map (·.1) = M.map (·.1) := by
        rw [em, List.map_map]
        rfl
      rw [exs]
      have gp2 : Gr [] H1 (upd H1 p2 (.lst (M.map (·.1)))) := Gr.new hp2
      refine ⟨_, rfl, p2, rfl, ⟨_, sqL upd_same⟩, fun D2 hD2 => ?_⟩
      refine lc_each (m := []) (walk_list (xs := M.map (·.1))) hD2 (by simp) (by rw [List.length_map]; omega) (fun H j y => Fr K H y ((M.map (·.2)).getD j (0, 1))) (fun H3 g3 => g3.lstN (sqL upd_same) (by simp) hD2) (fun i x H3 H' hi s y => ?_) (fun H3 acc2 g3 e1' e2' e3' => ?_)
      · obtain ⟨rfl, hx⟩ := y
        rw [List.getElem?_map] at hx
        obtain ⟨z, hz, rfl⟩ := Option.map_eq_some_iff.mp hx
        obtain ⟨⟨p3, x3, ez3, t3, f3⟩, w3⟩ := inM z (List.mem_of_getElem? hz)
        refine ⟨rfl, _, rfl, p3, _, _, _, ez3, rfl, s.gr.tup (gp2.tup t3), rfl, s.leaf (fun _ _ _ _ g z => z.gr g) (by rw [List.length_map] at hi; omega) (Gr.refl _ _) ?_⟩
        rw [getD_of (show (M.map (·.2))[i]? = some z.2 by rw [List.getElem?_map, hz]; rfl)]
        exact (f3.gr gp2).gr s.gr
      · refine ⟨D2, acc2, rfl, .inl ⟨sqL e1', fun l2 hl2 => q _ _ (M.map (·.2)) (((g.trans gp2).trans g3).trans (Gr.new hl2)) (tuF_of (R := fun H => Fr K H) (d := (0, 1)) (sqT upd_same) (by rw [e2', List.length_map, List.length_map]) fun j y hy => (e3' j y hy).gr (Gr.new (m := []) hl2)) ⟨?_, ?_, ?_, ?_⟩⟩⟩
        · rw [List.length_map]
          omega
        · rw [List.length_map]
          omega
        · intro s hs
          obtain ⟨z, hz, rfl⟩ := List.mem_map.mp hs
          exact (inM z hz).2
        · intro i x y hx hy
          rw [List.getElem?_map] at hx hy
          obtain ⟨z, hz, rfl⟩ := Option.map_eq_some_iff.mp hx
          obtain ⟨z', hz', rfl⟩ := Option.map_eq_some_iff.mp hy
          obtain ⟨hi1, ei1⟩ := List.getElem?_eq_some_iff.mp hz
          obtain ⟨hi2, ei2⟩ := List.getElem?_eq_some_iff.mp hz'
          have pw := List.pairwise_iff_getElem.mp sM i (i + 1) hi1 hi2 (by omega)
          rw [ei1, ei2] at pw
          exact step_le (inM z (List.mem_of_getElem? hz)).2 (inM z' (List.mem_of_getElem? hz')).2 (key_le pw)
end K11
/-! part K11R4 -/
namespace K11
open PySem PySem.Spec PyProof.Rows L2
variable {K : PySem.W.Frag} {mg : Str → Option Value}
/-! ### a list that grows while the source is drawn from -/
/-- F the list, l what it holds -/
def Acc {α : Type} (K : PySem.W.Frag) (p c F : Addr) (R : Hp → V → α → Prop) (H0 H : Hp) (l : List α) : Prop :=
  Gr [F, p] H0 H ∧ Src K H p c ∧ p ≠ F ∧ c ≠ F ∧ ∃ xs, H F = some (.lst xs) ∧ Paired (R H) xs l
theorem Acc.start {α : Type} {p c F : Addr} {R : Hp → V → α → Prop} {H : Hp} (s : Src K H p c) (h : H F = none) : Acc K p c F R H (upd H F (.lst [])) [] :=
  ⟨Gr.new h, s.gr (Gr.new (m := []) h) (by simp) (by simp), (s.ne h).1, (s.ne h).2, [], upd_same, .nil⟩
theorem Acc.draw {α : Type} {p c F : Addr} {R : Hp → V → α → Prop} {H0 H H1 : Hp} {l : List α} (hR : ∀ H H' y b, Gr [F, p] H H' → R H y b → R H' y b) (a : Acc K p c F R H0 H l) (d : Drawn K p c H H1) : Acc K p c F R H0 H1 l := by
  obtain ⟨g, s, n1, n2, xs, e, q⟩ := a
  have gw : Gr [F, p] H H1 := d.1.weak (by simp)
  exact ⟨g.trans gw, d.2, n1, n2, xs, d.1.at e (by simpa using Ne.symm n1), L2.Paired.mapP q fun _ _ z => hR _ _ _ _ gw z⟩
theorem Acc.grow {α : Type} {p c F : Addr} {R : Hp → V → α → Prop} {H0 H H1 : Hp} {l : List α} (hR : ∀ H H' y b, Gr [F, p] H H' → R H y b → R H' y b) (a : Acc K p c F R H0 H l) (g1 : Gr [] H H1) : Acc K p c F R H0 H1 l :=
  a.draw hR ⟨g1.up, let ⟨_, s, _⟩ := a; s.gr g1 (by simp) (by simp)⟩
theorem Acc.push {α : Type} {p c F : Addr} {R : Hp → V → α → Prop} {H0 H : Hp} {l : List α} {y : V} {b : α} (hR : ∀ H H' y b, Gr [F, p] H H' → R H y b → R H' y b) (a : Acc K p c F R H0 H l) (hl : l.length ≤ 50000) (r : R H y b) :
    ∃ xs, H F = some (.lst xs) ∧ xs.length < sizeLine ∧ Acc K p c F R H0 (upd H F (.lst (xs ++ [y]))) (l ++ [b]) := by
  obtain ⟨g, s, n1, n2, xs, e, q⟩ := a
  have gs : Gr [F, p] H (upd H F (.lst (xs ++ [y]))) := Gr.set e (by simp)
  have lx : xs.length = l.length := q.length
  have gs1 : Gr [F] H (upd H F (.lst (xs ++ [y]))) := Gr.set e (by simp)
  exact ⟨xs, e, szl (by omega), g.trans gs, s.gr gs1 (by simpa using n1) (by simpa using n2), n1, n2, xs ++ [y], upd_same, PySem.Paired.snoc (L2.Paired.mapP q fun _ _ z => hR _ _ _ _ gs z) (hR _ _ _ _ gs r)⟩
theorem Acc.src {α : Type} {p c F : Addr} {R : Hp → V → α → Prop} {H0 H : Hp} {l : List α} (a : Acc K p c F R H0 H l) : Src K H p c := let ⟨_, s, _⟩ := a; s
theorem Acc.lst {α : Type} {p c F : Addr} {R : Hp → V → α → Prop} {H0 H : Hp} {l : List α} (a : Acc K p c F R H0 H l) : ∃ xs, H F = some (.lst xs) ∧ Paired (R H) xs l := let ⟨_, _, _, _, z⟩ := a; z
theorem Acc.gr {α : Type} {p c F : Addr} {R : Hp → V → α → Prop} {H0 H : Hp} {l : List α} (a : Acc K p c F R H0 H l) : Gr [F, p] H0 H := a.1
theorem Acc.ne {α : Type} {p c F : Addr} {R : Hp → V → α → Prop} {H0 H : Hp} {l : List α} (a : Acc K p c F R H0 H l) : F ≠ p := let ⟨_, _, n, _⟩ := a; Ne.symm n
theorem Acc.done {α : Type} {p c F : Addr} {R : Hp → V → α → Prop} {H0 H : Hp} {l : List α} (a : Acc K p c F R H0 H l) (h : H0 F = none) : Drawn K p c H0 H := ⟨a.gr.drop h, a.src⟩
theorem Acc.ty {α : Type} {p c F : Addr} {R : Hp → V → α → Prop} {H0 H : Hp} {l : List α} (a : Acc K p c F R H0 H l) : tyV K "list" (.ref F) H := let ⟨xs, e, _⟩ := a.lst; .inl ⟨rfl, xs, sqL e⟩
/-- found.append(y) -/
theorem app_leaf {α : Type} {p c F : Addr} {R : Hp → V → α → Prop} {H0 H : Hp} {l : List α} {y : V} {b : α} {Q : VK} (hR : ∀ H H' y b, Gr [F, p] H H' → R H y b → R H' y b) (a : Acc K p c F R H0 H l) (hl : l.length ≤ 50000) (r : R H y b)
    (h : ∀ H2, Acc K p c F R H0 H2 (l ++ [b]) → Q .non H2) : rAppend (.ref F) [y] H Q := let ⟨xs, e, z, a2⟩ := a.push hR hl r; ⟨F, xs, y, rfl, rfl, e, z, h _ a2⟩
theorem dd {p : Prop} [Decidable p] {A B : Prop} (h1 : p → A) (h2 : ¬ p → B) : if decide p = true then A else B := by
  by_cases h : p
  · exact dT h (h1 h)
  · exact dF h (h2 h)
theorem fr_st {m : List Addr} (H H' : Hp) (y : V) (b : Int × Int) (g : Gr m H H') (z : Fr K H y b) : Fr K H' y b := z.gr g
theorem mk_wf {t b : Int} (h1 : 1 ≤ t) (h2 : t ≤ 1000000) (h3 : 1 ≤ b) (h4 : b ≤ 144) : WfS (mk t b) := by
  have g1 := gcd_pos (a := t) (show 0 < b by omega)
  have d1 : (Int.gcd t b : Int) ∣ t := Int.gcd_dvd_left ..
  have d2 : (Int.gcd t b : Int) ∣ b := Int.gcd_dvd_right ..
  have p1 : 0 < t / (Int.gcd t b : Int) := Int.ediv_pos_of_pos_of_dvd (by omega) (by omega) d1
  have p2 : 0 < b / (Int.gcd t b : Int) := Int.ediv_pos_of_pos_of_dvd (by omega) (by omega) d2
  have l1 := Int.ediv_le_self (Int.gcd t b : Int) (show 0 ≤ t by omega)
  have l2 := Int.ediv_le_self (Int.gcd t b : Int) (show 0 ≤ b by omega)
  refine ⟨p1, by show t / _ ≤ _; omega, p2, by show b / _ ≤ _; omega, ?_⟩
  show Int.gcd (t / (Int.gcd t b : Int)) (b / (Int.gcd t b : Int)) = 1
  exact Int.gcd_ediv_gcd_ediv_gcd (by omega)
theorem wfs_one {t : Int} (h1 : 1 ≤ t) (h2 : t ≤ 1000000) : WfS (t, 1) := ⟨h1, h2, (by decide : (1 : Int) ≤ 1), (by decide : (1 : Int) ≤ 144), by show Int.gcd t 1 = 1; exact Int.gcd_one_right ..⟩
theorem pu__law_steps (T : Txt K mg) : PureOk (sp__law_steps K) ["_law_source_here", "_law_most", "_law_wide"] N__law_steps fun E => t__law_steps K := by
  refine ⟨by rintro _ _ _ _ ⟨_, _, rfl, _⟩; rfl, ?_⟩
  rintro _ H Q E ⟨p, c, rfl, hs, q⟩
  refine ⟨sz (n := 0) (by omega), fun F hF => ?_⟩
  have a0 : Acc K p c F (Fr K) H (upd H F (.lst [])) [] := Acc.start hs hF
  refine ⟨_, rfl, _, rfl, p, c, 4, rfl, a0.src, by omega, by omega, fun H1 k d k0 k1 => ⟨_, _, rfl, rfl, _, rfl, by omega, by omega, ?_⟩⟩
  have a1 := a0.draw fr_st d
  refine for_it (walk_range0 (n := (1 + k).toNat)) (fun i σ H' => (∃ l, Acc K p c F (Fr K) H H' l ∧ l.length = i ∧ ∀ s ∈ l, WfS s) ∧ ∃ z4 z5, σ = [some (V.ref p), some (.int 4), some (.bl false), some (.ref F), z4, z5]) ⟨⟨[], a1, rfl, by simp⟩, _, _, rfl⟩ (fun _ _ _ _ _ => trivial) (fun i v σ H2 H3 hi ⟨⟨l, a, hl, hw⟩, z4, z5, e2⟩ yy => ?_) (fun σ H2 ⟨⟨l, a, hl, hw⟩, z4, z5, e2⟩ => ?_)
  · obtain ⟨rfl, rfl⟩ := yy
    subst e2
    refine ⟨_, rfl, p, c, 5, rfl, a.src, by omega, by omega, fun H4 k5 d5 k50 k51 => ?_⟩
    have a4 := a.draw fr_st d5
    have snoc : ∀ {H5 : Hp} {b : Int × Int}, Acc K p c F (Fr K) H H5 (l ++ [b]) → WfS b → (∃ l, Acc K p c F (Fr K) H H5 l ∧ l.length = i + 1 ∧ ∀ s ∈ l, WfS s) := fun {H5 b} x w => ⟨_, x, by rw [List.length_append, hl]; rfl, fun s hs => (List.mem_append.mp hs).elim (hw s) fun e => by rw [List.mem_singleton.mp e]; exact w⟩
    obtain ⟨xs, eF, pF⟩ := a4.lst
    have lx : xs.length = l.length := pF.length
    refine (fun B => ⟨_, rfl, rfl, _, rfl, dd (fun h0 => ⟨_, rfl, _, _, rfl, .inl (sqL eF), _, _, rfl, rfl, _, rfl, dd (fun h1 => ?_) (fun _ => B)⟩) (fun _ => B)⟩) ?_
    · refine (fun C => ⟨_, rfl, rfl, _, rfl, dd (fun h0 => ⟨_, rfl, _, rfl, C⟩) (fun _ => C)⟩) ?_
      refine ⟨_, rfl, rfl, _, rfl, dd (fun h0 => ?_) (fun _ => ?_)⟩
      · refine ⟨_, rfl, a4.ty, _, rfl, p, c, 12, rfl, a4.src, by omega, by omega, fun H5 k6 d6 k60 k61 => ⟨_, _, rfl, rfl, ?_⟩⟩
        have a5 := a4.draw fr_st d6
        refine ⟨_, rfl, p, c, 4, rfl, a5.src, by omega, by omega, fun H6 k7 d7 k70 k71 => ⟨_, _, rfl, rfl, ?_⟩⟩
        have a6 := a5.draw fr_st d7
        refine ⟨_, _, rfl, by omega, by omega, fun H7 u g7 hu => ?_⟩
        obtain ⟨xs6, e6, z6, x⟩ := Acc.push fr_st (a6.grow fr_st g7) (by omega) hu
        exact ⟨F, xs6, _, rfl, rfl, e6, z6, ⟨snoc x (mk_wf (by omega) (by omega) (by omega) (by omega)), _, _, rfl⟩⟩
      · refine ⟨_, rfl, a4.ty, _, rfl, p, c, 5, rfl, a4.src, by omega, by omega, fun H5 k6 d6 k60 k61 => ⟨_, _, rfl, rfl, sz (n := 2) (by omega), fun p2 hp2 => ?_⟩⟩
        have a5 := (a4.draw fr_st d6).grow fr_st (Gr.new (o := .tup [.int (1 + k6), .int 1]) hp2)
        obtain ⟨xs6, e6, z6, x⟩ := Acc.push (b := (1 + k6, 1)) fr_st a5 (by omega) ⟨p2, rfl, sqT upd_same⟩
        exact ⟨F, xs6, _, rfl, rfl, e6, z6, ⟨snoc x (wfs_one (by omega) (by omega)), _, _, rfl⟩⟩
    · refine ⟨_, rfl, a4.ty, _, rfl, _, rfl, p, c, F, xs, rfl, a4.src, sqL eF, a4.ne, fun z => ?_, by omega, fun H5 j v d6 hv => ?_⟩
      · rw [z] at h1
        exact absurd h1 (by decide)
      · obtain ⟨b, hb, hr⟩ := pgetL pF hv
        obtain ⟨xs6, e6, z6, x⟩ := Acc.push fr_st (a4.draw fr_st d6) (by omega) (hr.gr d6.1)
        exact ⟨F, xs6, _, rfl, rfl, e6, z6, ⟨snoc x (hw _ (List.mem_of_getElem? hb)), _, _, rfl⟩⟩
  · subst e2
    obtain ⟨xs, eF, pF⟩ := a.lst
    refine ⟨_, rfl, _, l, rfl, ⟨F, xs, rfl, sqL eF, pF⟩, by omega, by omega, hw, fun H5 u l' g5 hu wl => q _ _ l' ⟨(a.grow fr_st g5).gr.drop hF, (a.grow fr_st g5).src⟩ hu wl⟩
end K11
/-! part K11R5 -/
namespace K11
open PySem PySem.Spec PyProof.Rows L2
variable {K : PySem.W.Frag} {mg : Str → Option Value}
def leD (d : Int × Int) (s : Int × Int) : Bool := decide (s.1 * d.2 ≤ absI d.1 * s.2)
theorem cntF_snoc (l : List (Int × Int)) (d : Int × Int) (i : Nat) (s : Int × Int) (hs : l[i]? = some s) : ((l.take (i + 1)).filter (leD d)).length = ((l.take i).filter (leD d)).length + if leD d s = true then 1 else 0 := by
  rw [List.take_succ, hs, List.filter_append, List.length_append]
  congr 1
  show (List.filter _ [s]).length = _
  cases h : leD d s with
  | true =>
    rw [List.filter_cons, if_pos h]
    rfl
  | false =>
    rw [List.filter_cons, if_neg (by rw [h]; decide)]
    rfl
theorem pu__law_flow (T : Txt K mg) : PureOk (sp__law_flow K) ["_law_steps_here", "_law_drop_here"] N__law_flow fun E => t__law_flow K := by
  refine ⟨by rintro _ _ _ _ ⟨_, _, _, _, rfl, _⟩; rfl, ?_⟩
  rintro _ H Q E ⟨v, w, st, d, rfl, ⟨p, xs, rfl, h, hp⟩, ⟨pd, rfl, hd⟩, hw, d1, d2, q⟩
  have hn : xs.length = st.length := hp.length
  refine ⟨_, rfl, p, rfl, ⟨xs, h⟩, ?_⟩
  refine for_it (walk_tup (xs := xs)) (fun i σ H' => H' = H ∧ ∃ z, σ = [some (V.ref p), some (.ref pd), some (.int (((st.take i).filter (leD d)).length : Int)), z]) ⟨rfl, _, rfl⟩ (fun i σ H' _ z => by rw [z.1]; exact h) (fun i y σ H2 H3 hi ⟨e1, z, e2⟩ yy => ?_) (fun σ H2 ⟨e1, z, e2⟩ => ?_)
  · obtain ⟨rfl, hx⟩ := yy
    subst e1 e2
    obtain ⟨s, hs, ps, rfl, hss⟩ := pgetL hp hx
    have ws := hw _ (List.mem_of_getElem? hs)
    have b1 := ws.b1
    have b2 := ws.b2
    have cs := cntF_snoc st d i s hs
    refine ⟨_, rfl, _, _, _, _, rfl, rfl, hss, rfl, _, rfl, _, _, _, _, rfl, rfl, hd, rfl, _, _, rfl, rfl, .inr ⟨by omega, by omega⟩, _, rfl, _, _, _, _, rfl, rfl, hd, rfl, _, rfl, _, rfl, _, _, _, _, rfl, rfl, hss, rfl, _, _, rfl, rfl, .inr ⟨by omega, by omega⟩, _, _, rfl, rfl, _, rfl, ?_⟩
    show if leD d s = true then _ else _
    cases hl : leD d s with
    | true =>
      rw [hl, if_pos rfl] at cs
      refine ⟨_, rfl, _, _, rfl, rfl, rfl, some (.ref ps), ?_⟩
      rw [cs]
      rfl
    | false =>
      rw [hl, if_neg (by decide)] at cs
      refine ⟨rfl, some (.ref ps), ?_⟩
      rw [cs]
      rfl
  · subst e1 e2
    rw [hn, List.take_length]
    refine ⟨_, rfl, _, _, _, _, rfl, rfl, hd, rfl, _, _, rfl, rfl, _, rfl, ?_⟩
    have ec : ((st.filter (leD d)).length : Int) = cntL st d := rfl
    rw [ec]
    refine dd (fun h0 => ⟨_, rfl, _, rfl, ?_⟩) (fun h0 => ⟨_, rfl, ?_⟩)
    · refine qE ?_ q
      unfold flowL
      rw [if_pos h0]
    · refine qE ?_ q
      unfold flowL
      rw [if_neg h0]
theorem is_st {m : List Addr} (H H' : Hp) (y : V) (b : Int) (g : Gr m H H') (z : IsI y b) : IsI y b := z
theorem pi_st {m : List Addr} (H H' : Hp) (y : V) (b : PipeD) (g : Gr m H H') (z : Pi K H y b) : Pi K H' y b := z.gr g
theorem pu__law_widths (T : Txt K mg) : PureOk (sp__law_widths K) ["_law_source_here", "_law_many", "_law_seas"] N__law_widths fun E => t__law_widths K := by
  refine ⟨by rintro _ _ _ _ ⟨_, _, _, rfl, _⟩; rfl, ?_⟩
  rintro _ H Q E ⟨p, c, n, rfl, hs, n1, n2, q⟩
  refine ⟨_, rfl, p, c, 4, rfl, hs, by omega, by omega, fun H1 k1 d1 k10 k11 => ?_⟩
  refine ⟨_, rfl, p, c, 3, rfl, d1.2, by omega, by omega, fun H2 k2 d2 k20 k21 => ⟨_, _, rfl, rfl, sz (n := 0) (by omega), fun F hF => ?_⟩⟩
  have a0 : Acc K p c F (fun _ => IsI) H2 (upd H2 F (.lst [])) [] := Acc.start d2.2 hF
  refine ⟨_, rfl, _, rfl, by omega, by omega, ?_⟩
  refine for_it (walk_range0 (n := ((n : Nat) : Int).toNat)) (fun i σ H' => (∃ l, Acc K p c F (fun _ => IsI) H2 H' l ∧ l.length = i ∧ ∀ s ∈ l, 0 ≤ s ∧ s ≤ 12) ∧ ∃ z6, σ = [some (V.ref p), some (.int n), some (.bl true), some (.int k1), some (.int (1 + k2)), some (.ref F), z6]) ⟨⟨[], a0, rfl, by simp⟩, _, rfl⟩ (fun _ _ _ _ _ => trivial) (fun i v σ H3 H4 hi ⟨⟨l, a, hl, hw⟩, z6, e2⟩ yy => ?_) (fun σ H3 ⟨⟨l, a, hl, hw⟩, z6, e2⟩ => ?_)
  · obtain ⟨rfl, rfl⟩ := yy
    subst e2
    have snoc : ∀ {H5 : Hp} {b : Int}, Acc K p c F (fun _ => IsI) H2 H5 (l ++ [b]) → 0 ≤ b ∧ b ≤ 12 → (∃ l, Acc K p c F (fun _ => IsI) H2 H5 l ∧ l.length = i + 1 ∧ ∀ s ∈ l, 0 ≤ s ∧ s ≤ 12) := fun {H5 b} x w => ⟨_, x, by rw [List.length_append, hl]; rfl, fun s hs => (List.mem_append.mp hs).elim (hw s) fun e => by rw [List.mem_singleton.mp e]; exact w⟩
    have il : i < n := by omega
    refine ⟨_, rfl, _, rfl, _, rfl, p, c, 5, rfl, a.src, by omega, by omega, fun H5 k5 d5 k50 k51 => ⟨rfl, _, rfl, ?_⟩⟩
    have a5 := a.draw is_st d5
    refine dd (fun h0 => ?_) (fun h0 => ⟨_, rfl, rfl, _, rfl, dd (fun h1 => ?_) (fun h1 => ⟨_, rfl, rfl, _, rfl, dd (fun h2 => ?_) (fun h2 => ?_)⟩)⟩)
    · refine ⟨_, rfl, a5.ty, ?_⟩
      obtain ⟨xs6, e6, z6, x⟩ := Acc.push (b := (0 : Int)) is_st a5 (by omega) (rfl : IsI (V.int 0) 0)
      exact ⟨F, xs6, _, rfl, rfl, e6, z6, ⟨snoc x ⟨by omega, by omega⟩, _, rfl⟩⟩
    · refine ⟨_, rfl, a5.ty, _, rfl, p, c, 12, rfl, a5.src, by omega, by omega, fun H6 k6 d6 k60 k61 => ⟨_, _, rfl, rfl, ?_⟩⟩
      obtain ⟨xs6, e6, z6, x⟩ := Acc.push (b := 1 + k6) is_st (a5.draw is_st d6) (by omega) (rfl : IsI (V.int (1 + k6)) (1 + k6))
      exact ⟨F, xs6, _, rfl, rfl, e6, z6, ⟨snoc x ⟨by omega, by omega⟩, _, rfl⟩⟩
    · refine ⟨_, rfl, a5.ty, _, rfl, p, c, 3, rfl, a5.src, by omega, by omega, fun H6 k6 d6 k60 k61 => ⟨_, _, rfl, rfl, ?_⟩⟩
      obtain ⟨xs6, e6, z6, x⟩ := Acc.push (b := 1 + k6) is_st (a5.draw is_st d6) (by omega) (rfl : IsI (V.int (1 + k6)) (1 + k6))
      exact ⟨F, xs6, _, rfl, rfl, e6, z6, ⟨snoc x ⟨by omega, by omega⟩, _, rfl⟩⟩
    · refine ⟨_, rfl, a5.ty, _, rfl, ?_⟩
      obtain ⟨xs6, e6, z6, x⟩ := Acc.push (b := 1 + k2) is_st a5 (by omega) (rfl : IsI (V.int (1 + k2)) (1 + k2))
      exact ⟨F, xs6, _, rfl, rfl, e6, z6, ⟨snoc x ⟨by omega, by omega⟩, _, rfl⟩⟩
  · subst e2
    obtain ⟨xs, eF, pF⟩ := a.lst
    have hl' : l.length = n := by omega
    refine ⟨_, rfl, _, _, rfl, .inl ⟨sqL eF, fun t ht => q _ _ l ⟨?_, ?_⟩ ⟨t, xs, rfl, sqT upd_same, pF⟩ ⟨by omega, by omega, hw⟩ hl'⟩⟩
    · exact ((d1.1.trans d2.1).trans (a.gr.drop hF)).trans (Gr.new ht)
    · exact a.src.gr (Gr.new (m := []) ht) (by simp) (by simp)
theorem pu__law_pipe (T : Txt K mg) : PureOk (sp__law_pipe K) ["_law_source_here", "_law_vessels", "_law_most", "_law_wide"] N__law_pipe fun E => t__law_pipe K := by
  refine ⟨by rintro _ _ _ _ ⟨_, _, _, rfl, _⟩; rfl, ?_⟩
  rintro _ H Q E ⟨p, c, n, rfl, hs, n1, n2, q⟩
  refine ⟨_, rfl, _, rfl, _, _, rfl, rfl, p, c, _, rfl, hs, by omega, by omega, fun H1 k1 d1 k10 k11 => ⟨_, _, rfl, rfl, ?_⟩⟩
  refine ⟨_, rfl, _, rfl, p, c, _, rfl, d1.2, by omega, by omega, fun H2 k2 d2 k20 k21 => ⟨_, rfl, _, rfl, _, rfl, _, rfl, p, c, rfl, d2.2, fun H3 u l d3 hu wl => ⟨sz (n := 3) (by omega), fun t ht => ?_⟩⟩⟩
  obtain ⟨j1, rfl⟩ := Int.eq_ofNat_of_zero_le k10
  obtain ⟨j2, rfl⟩ := Int.eq_ofNat_of_zero_le k20
  have e1 : (1 + (j1 : Int)) = ((j1 + 1 : Nat) : Int) := by omega
  refine q _ _ ⟨j2, j1 + 1, l⟩ ⟨((d1.1.trans d2.1).trans d3.1).trans (Gr.new ht), d3.2.gr (Gr.new (m := []) ht) (by simp) (by simp)⟩ ⟨t, u, rfl, sqT (by rw [upd_same]; show some (HO.tup [V.int (j2 : Int), V.int (1 + (j1 : Int)), u]) = _; rw [e1]), hu.gr (Gr.new (m := []) ht)⟩ ⟨by show j2 < j1 + 1; omega, by show j1 + 1 < n; omega, wl⟩
theorem pu__law_water (T : Txt K mg) : PureOk (sp__law_water K) ["_law_source_here", "_law_high"] N__law_water fun E => t__law_water K := by
  refine ⟨by rintro _ _ _ _ ⟨_, _, rfl, _⟩; rfl, ?_⟩
  rintro _ H Q E ⟨p, c, rfl, hs, q⟩
  have c30 : CPow 10 30 := ⟨by decide, by decide, by decide⟩
  have c39 : CPow 10 39 := ⟨by decide, by decide, by decide⟩
  refine ⟨_, rfl, p, c, 12, rfl, hs, by omega, by omega, fun H1 k1 d1 k10 k11 => ?_⟩
  refine ⟨_, rfl, rfl, _, rfl, dd (fun h0 => ?_) (fun h0 => ⟨_, rfl, rfl, _, rfl, dd (fun h1 => ?_) (fun h1 => ⟨_, rfl, rfl, _, rfl, dd (fun h2 => ?_) (fun h2 => ?_)⟩)⟩)⟩
  · refine ⟨_, rfl, _, _, rfl, rfl, c30, _, _, rfl, rfl, .inl ⟨by omega, by omega⟩, _, _, rfl, rfl, p, c, _, rfl, d1.2, by decide +kernel, by decide +kernel, fun H2 k2 d2 k20 k21 => ⟨_, _, rfl, rfl, c30, _, _, rfl, rfl, q _ _ ⟨d1.1.trans d2.1, d2.2⟩⟩⟩
  · refine ⟨_, _, rfl, rfl, c39, _, rfl, p, c, 20, rfl, d1.2, by omega, by omega, fun H2 k2 d2 k20 k21 => ⟨_, _, rfl, rfl, q _ _ ⟨d1.1.trans d2.1, d2.2⟩⟩⟩
  · refine ⟨_, rfl, p, c, 20, rfl, d1.2, by omega, by omega, fun H2 k2 d2 k20 k21 => ⟨_, _, rfl, rfl, c39, _, _, rfl, rfl, q _ _ ⟨d1.1.trans d2.1, d2.2⟩⟩⟩
  · refine ⟨_, rfl, _, rfl, _, _, rfl, rfl, .inl ⟨by omega, by omega⟩, _, _, rfl, rfl, p, c, _, rfl, d1.2, by omega, by omega, fun H2 k2 d2 k20 k21 => ⟨_, rfl, _, _, rfl, rfl, q _ _ ⟨d1.1.trans d2.1, d2.2⟩⟩⟩
theorem pu__law_filling (T : Txt K mg) : PureOk (sp__law_filling K) ["_law_source_here", "_law_widths_here", "_law_high", "_law_wide"] N__law_filling fun E => t__law_filling K := by
  refine ⟨by rintro _ _ _ _ ⟨_, _, _, _, rfl, _⟩; rfl, ?_⟩
  rintro _ H Q E ⟨p, c, w, ws, rfl, hs, ⟨pw, xw, rfl, hw, pw2⟩, wn, q⟩
  have lw : xw.length = ws.length := pw2.length
  refine ⟨sz (n := 0) (by omega), fun F hF => ?_⟩
  have a0 : Acc K p c F (fun _ => IsI) H (upd H F (.lst [])) [] := Acc.start hs hF
  refine ⟨_, rfl, pw, rfl, ⟨xw, a0.gr.tup hw⟩, ?_⟩
  refine for_it (walk_tup (xs := xw)) (fun i σ H' => (∃ l, Acc K p c F (fun _ => IsI) H H' l ∧ l.length = i) ∧ ∃ z5, σ = [some (V.ref p), some (.ref pw), some (.int 30), some (.bl true), some (.ref F), z5]) ⟨⟨[], a0, rfl⟩, _, rfl⟩ (fun i σ H' _ z => let ⟨⟨l, a, _⟩, _⟩ := z; a.gr.tup hw) (fun i v σ H3 H4 hi ⟨⟨l, a, hl⟩, z5, e2⟩ yy => ?_) (fun σ H3 ⟨⟨l, a, hl⟩, z5, e2⟩ => ?_)
  · obtain ⟨rfl, hx⟩ := yy
    subst e2
    obtain ⟨rfl, hj⟩ := ti_at (H := H) pw2 hx
    have snoc : ∀ {H5 : Hp} {b : Int}, Acc K p c F (fun _ => IsI) H H5 (l ++ [b]) → (∃ l, Acc K p c F (fun _ => IsI) H H5 l ∧ l.length = i + 1) := fun {H5 b} x => ⟨_, x, by rw [List.length_append, hl]; rfl⟩
    refine ⟨_, rfl, rfl, _, rfl, dd (fun h0 => ?_) (fun h0 => ?_)⟩
    · refine ⟨_, rfl, a.ty, ?_⟩
      obtain ⟨xs6, e6, z6, x⟩ := Acc.push (b := (0 : Int)) is_st a (by omega) (rfl : IsI (V.int 0) 0)
      exact ⟨F, xs6, _, rfl, rfl, e6, z6, ⟨snoc x, _, rfl⟩⟩
    · refine ⟨_, rfl, _, rfl, _, rfl, a.ty, _, rfl, _, rfl, p, c, rfl, a.src, fun H5 k5 d5 => ?_⟩
      obtain ⟨xs6, e6, z6, x⟩ := Acc.push (b := k5) is_st (a.draw is_st d5) (by omega) (rfl : IsI (V.int k5) k5)
      exact ⟨F, xs6, _, rfl, rfl, e6, z6, ⟨snoc x, _, rfl⟩⟩
  · subst e2
    obtain ⟨xs, eF, pF⟩ := a.lst
    refine ⟨_, rfl, _, _, rfl, .inl ⟨sqL eF, fun t ht => q _ _ l ⟨(a.gr.drop hF).trans (Gr.new ht), a.src.gr (Gr.new (m := []) ht) (by simp) (by simp)⟩ ⟨t, xs, rfl, sqT upd_same, pF⟩ (by omega)⟩⟩
end K11
/-! part K11R6 -/
namespace K11
open PySem PySem.Spec PyProof.Rows L2
variable {K : PySem.W.Frag} {mg : Str → Option Value}
theorem pu__law_pipes (T : Txt K mg) : PureOk (sp__law_pipes K) ["_law_source_here", "_law_vessels", "_law_many", "_law_most", "_law_wide"] N__law_pipes fun E => t__law_pipes K := by
  refine ⟨by rintro _ _ _ _ ⟨_, _, _, _, rfl, _⟩; rfl, ?_⟩
  rintro _ H Q E ⟨p, c, n, k, rfl, hs, n1, n2, kk, q⟩
  refine ⟨sz (n := 0) (by omega), fun F hF => ?_⟩
  have a0 : Acc K p c F (Pi K) H (upd H F (.lst [])) [] := Acc.start hs hF
  refine ⟨_, rfl, _, rfl, by omega, by omega, ?_⟩
  refine for_it (walk_range0 (n := ((k : Nat) : Int).toNat)) (fun i σ H' => (∃ l, Acc K p c F (Pi K) H H' l ∧ l.length ≤ i ∧ (1 < n → l.length = i) ∧ ∀ s ∈ l, WfP n s) ∧ ∃ z6 z7 z8, σ = [some (V.ref p), some (.int n), some (.int k), some (.int 4), some (.bl false), some (.ref F), z6, z7, z8]) ⟨⟨[], a0, Nat.le_refl _, fun _ => rfl, by simp⟩, _, _, _, rfl⟩ (fun _ _ _ _ _ => trivial) (fun i v σ H3 H4 hi ⟨⟨l, a, hl, hl2, hw⟩, z6, z7, z8, e2⟩ yy => ?_) (fun σ H3 ⟨⟨l, a, hl, hl2, hw⟩, z6, z7, z8, e2⟩ => ?_)
  · obtain ⟨rfl, rfl⟩ := yy
    subst e2
    have ik : i < k := by omega
    refine ⟨_, rfl, _, _, rfl, rfl, _, rfl, dd (fun hn => ?_) (fun hn => ⟨⟨l, a, by omega, fun z => absurd z (by omega), hw⟩, _, _, _, rfl⟩)⟩
    have hn' : 1 < n := by omega
    have snoc : ∀ {H5 : Hp} {b : PipeD}, Acc K p c F (Pi K) H H5 (l ++ [b]) → WfP n b → (∃ l, Acc K p c F (Pi K) H H5 l ∧ l.length ≤ i + 1 ∧ (1 < n → l.length = i + 1) ∧ ∀ s ∈ l, WfP n s) := fun {H5 b} x w => ⟨_, x, by rw [List.length_append, hl2 hn']; exact Nat.le_refl _, fun _ => by rw [List.length_append, hl2 hn']; rfl, fun s hs => (List.mem_append.mp hs).elim (hw s) fun e => by rw [List.mem_singleton.mp e]; exact w⟩
    refine ⟨_, rfl, p, c, 6, rfl, a.src, by omega, by omega, fun H5 k5 d5 k50 k51 => ?_⟩
    have a5 := a.draw pi_st d5
    have l5 := hl2 hn'
    obtain ⟨xs, eF, pF⟩ := a5.lst
    have lx : xs.length = l.length := pF.length
    have fin : (tDrop (tBM K "list" rAppend (tVar 5) (tCons (tCall (sp__law_pipe K) [] E0 (tCons (tVar 0) (tCons (tVar 1) (tCons (tVar 3) (tCons (tVar 4) tNil))))) tNil))) { nx := fun σ H' => (∃ l, Acc K p c F (Pi K) H H' l ∧ l.length ≤ i + 1 ∧ (1 < n → l.length = i + 1) ∧ ∀ s ∈ l, WfP n s) ∧ ∃ z6 z7 z8, σ = [some (V.ref p), some (.int n), some (.int k), some (.int 4), some (.bl false), some (.ref F), z6, z7, z8], rt := Q } [some (V.ref p), some (.int n), some (.int k), some (.int 4), some (.bl false), some (.ref F), some (.int (i : Nat)), some (.int k5), z8] H5 := by
      refine ⟨_, rfl, a5.ty, _, rfl, _, rfl, _, rfl, _, rfl, p, c, n, rfl, a5.src, by omega, n2, fun H6 u P d6 hu wP => ?_⟩
      obtain ⟨xs6, e6, z6', x⟩ := Acc.push pi_st (a5.draw pi_st d6) (by omega) hu
      exact ⟨F, xs6, _, rfl, rfl, e6, z6', ⟨snoc x wP, _, _, _, rfl⟩⟩
    refine ⟨_, rfl, rfl, _, rfl, dd (fun h0 => ⟨_, rfl, _, _, rfl, rfl, _, rfl, dd (fun h1 => ?_) (fun h1 => ?_)⟩) (fun h0 => ?_)⟩
    · refine ⟨_, rfl, a5.ty, _, rfl, _, rfl, p, c, F, xs, rfl, a5.src, sqL eF, a5.ne, fun z => ?_, by omega, fun H6 j v d6 hv => ?_⟩
      · rw [z] at lx
        have : 0 = l.length := lx
        omega
      · obtain ⟨b, hb, hr⟩ := pgetL pF hv
        obtain ⟨xs6, e6, z6', x⟩ := Acc.push pi_st (a5.draw pi_st d6) (by omega) (hr.gr d6.1)
        exact ⟨F, xs6, _, rfl, rfl, e6, z6', ⟨snoc x (hw _ (List.mem_of_getElem? hb)), _, _, _, rfl⟩⟩
    · refine ⟨_, rfl, rfl, _, rfl, dd (fun h2 => ⟨_, rfl, _, _, rfl, rfl, _, rfl, dF h1 fin⟩) (fun h2 => fin)⟩
    · refine ⟨_, rfl, rfl, _, rfl, dd (fun h2 => ⟨_, rfl, _, _, rfl, rfl, _, rfl, dd (fun h3 => ?_) (fun _ => fin)⟩) (fun h2 => fin)⟩
      refine ⟨_, rfl, _, rfl, p, c, F, xs, rfl, a5.src, sqL eF, a5.ne, fun z => ?_, by omega, fun H6 j v d6 hv => ?_⟩
      · rw [z] at lx
        have : 0 = l.length := lx
        omega
      · obtain ⟨b, hb, hr⟩ := pgetL pF hv
        have a6 := a5.draw pi_st d6
        obtain ⟨pp, s, rfl, hpp, hss⟩ := hr.gr d6.1
        have wb := hw _ (List.mem_of_getElem? hb)
        refine ⟨_, rfl, a6.ty, _, rfl, _, _, _, _, rfl, rfl, hpp, rfl, _, rfl, _, _, _, _, rfl, rfl, hpp, rfl, _, rfl, _, rfl, _, rfl, p, c, rfl, a6.src, fun H7 u l' d7 hu wl => ⟨sz (n := 3) (by omega), fun t ht => ?_⟩⟩
        have a7 := (a6.draw pi_st d7).grow pi_st (Gr.new (o := .tup [.int b.one, .int b.other, u]) ht)
        obtain ⟨xs6, e6, z6', x⟩ := Acc.push (b := ⟨b.one, b.other, l'⟩) pi_st a7 (by omega) ⟨t, u, rfl, sqT upd_same, hu.gr (Gr.new (m := []) ht)⟩
        exact ⟨F, xs6, _, rfl, rfl, e6, z6', ⟨snoc x ⟨wb.lt, wb.u, wl⟩, _, _, _, rfl⟩⟩
  · subst e2
    obtain ⟨xs, eF, pF⟩ := a.lst
    refine ⟨_, rfl, _, _, rfl, .inl ⟨sqL eF, fun t ht => q _ _ l ⟨(a.gr.drop hF).trans (Gr.new ht), a.src.gr (Gr.new (m := []) ht) (by simp) (by simp)⟩ ⟨t, xs, rfl, sqT upd_same, L2.Paired.mapP pF fun _ _ z => z.gr (Gr.new (m := []) ht)⟩ ⟨by omega, hw⟩⟩⟩
theorem pu__law_opening (T : Txt K mg) : PureOk (sp__law_opening K) ["_law_source_here", "_law_many"] N__law_opening fun E => t__law_opening K := by
  refine ⟨by rintro _ _ _ _ ⟨_, _, _, rfl, _⟩; rfl, ?_⟩
  rintro _ H Q E ⟨p, c, n, rfl, hs, hn, q⟩
  refine ⟨_, rfl, p, c, 3, rfl, hs, by omega, by omega, fun H1 k1 d1 k10 k11 => ⟨rfl, _, rfl, dd (fun h0 => q _ _ [] d1 (.inl rfl)) (fun h0 => ?_)⟩⟩
  refine ⟨_, rfl, _, rfl, by omega, by omega, fun D hD => ?_⟩
  have a0 : Acc K p c D (fun _ => IsI) H1 (upd H1 D (.lst [])) [] := Acc.start d1.2 hD
  refine lc_it (walk_range0 (n := ((n : Nat) : Int).toNat)) (fun i H' => ∃ l, Acc K p c D (fun _ => IsI) H1 H' l ∧ l.length ≤ i) ⟨[], a0, Nat.le_refl _⟩ (fun _ _ _ _ => trivial) (fun i v H2 H3 hi ⟨l, a, hl⟩ yy => ?_) (fun H2 ⟨l, a, hl⟩ => ?_)
  · obtain ⟨rfl, rfl⟩ := yy
    refine ⟨rfl, _, rfl, p, c, 3, rfl, a.src, by omega, by omega, fun H4 k4 d4 k40 k41 => ⟨_, _, rfl, rfl, _, rfl, dd (fun h1 => ?_) (fun h1 => ⟨l, a.draw is_st d4, by omega⟩)⟩⟩
    obtain ⟨xs6, e6, z6, x⟩ := Acc.push (b := ((i : Nat) : Int)) is_st (a.draw is_st d4) (by omega) (rfl : IsI (V.int ((i : Nat) : Int)) _)
    exact ⟨_, rfl, xs6, e6, z6, _, x, by rw [List.length_append]; show l.length + 1 ≤ i + 1; omega⟩
  · obtain ⟨xs, eF, pF⟩ := a.lst
    exact ⟨D, xs, rfl, .inl ⟨sqL eF, fun t ht => q _ _ l ⟨(d1.1.trans (a.gr.drop hD)).trans (Gr.new ht), a.src.gr (Gr.new (m := []) ht) (by simp) (by simp)⟩ (.inr ⟨t, xs, rfl, sqT upd_same, pF⟩)⟩⟩
theorem pu__law_level (T : Txt K mg) : PureOk (sp__law_level K) ["_law_water_here", "_law_width"] N__law_level fun E => t__law_level K := by
  refine ⟨by rintro _ _ _ _ ⟨_, _, rfl, _⟩; rfl, ?_⟩
  rintro _ H Q E ⟨x, w, rfl, h1, h2, q⟩
  refine ⟨_, rfl, rfl, _, rfl, dd (fun h0 => ⟨sz (n := 2) (by omega), fun t ht => q _ _ (Gr.new ht) ⟨t, rfl, ?_⟩⟩) (fun h0 => ⟨_, rfl, _, rfl, _, _, rfl, ?_, by omega, fun H' v g hf => q _ _ g ?_⟩)⟩
  · have e0 : w = 0 := by
      injection h0
    have e : lvl w x = (0, 1) := by simp [lvl, e0]
    rw [e]
    exact sqT upd_same
  · have : w ≠ 0 := fun z => h0 (by rw [z])
    omega
  · have e0 : w ≠ 0 := fun z => h0 (by rw [z])
    have e : lvl w x = mk x w := by simp [lvl, e0]
    rw [e]
    exact hf
theorem mk_b {t b : Int} (h1 : 0 < b) : 0 < (mk t b).2 ∧ (mk t b).2 ≤ b := by
  have g1 := gcd_pos (a := t) h1
  exact ⟨Int.ediv_pos_of_pos_of_dvd h1 (by omega) (Int.gcd_dvd_right ..), Int.ediv_le_self _ (by omega)⟩
theorem lvl_b {w x : Int} (h1 : 0 ≤ w) (h2 : w ≤ 12) : 0 < (lvl w x).2 ∧ (lvl w x).2 ≤ 12 := by
  unfold lvl
  by_cases h : w = 0
  · rw [if_pos h]
    exact ⟨by decide, by decide⟩
  · rw [if_neg h]
    have := mk_b (t := x) (show 0 < w by omega)
    omega
theorem dropL_b {ws fl : List Int} {P : PipeD} (wf : WfW ws) : 0 < (dropL ws fl P).2 ∧ (dropL ws fl P).2 ≤ 144 := by
  have a1 := wf.at P.one
  have a2 := wf.at P.other
  have b1 := lvl_b (x := fl.getD P.one 0) a1.1 a1.2
  have b2 := lvl_b (x := fl.getD P.other 0) a2.1 a2.2
  have p1 : 0 < (lvl (ws.getD P.one 0) (fl.getD P.one 0)).2 * (lvl (ws.getD P.other 0) (fl.getD P.other 0)).2 := Int.mul_pos b1.1 b2.1
  have p2 : (lvl (ws.getD P.one 0) (fl.getD P.one 0)).2 * (lvl (ws.getD P.other 0) (fl.getD P.other 0)).2 ≤ 12 * 12 := Int.mul_le_mul b1.2 b2.2 (by omega) (by omega)
  unfold dropL addF
  have := mk_b (t := (lvl (ws.getD P.one 0) (fl.getD P.one 0)).1 * (lvl (ws.getD P.other 0) (fl.getD P.other 0)).2 + -(lvl (ws.getD P.other 0) (fl.getD P.other 0)).1 * (lvl (ws.getD P.one 0) (fl.getD P.one 0)).2) p1
  exact ⟨this.1, Int.le_trans this.2 p2⟩
theorem pu__law_drop (T : Txt K mg) : PureOk (sp__law_drop K) ["_law_widths_here", "_law_pipe_here", "_law_filling_here"] N__law_drop fun E => t__law_drop K := by
  refine ⟨by rintro _ _ _ _ ⟨_, _, _, _, _, _, rfl, _⟩; rfl, ?_⟩
  rintro _ H Q E ⟨w, u, v, ws, fl, P, rfl, ⟨⟨pw, xw, rfl, hw, pw2⟩, wf, ⟨pf, xf, rfl, hf, pf2⟩, lf⟩, ⟨pp, s, rfl, hp, hs⟩, wp, q⟩
  have w1 := wp.lt
  have w2 := wp.u
  have lw : xw.length = ws.length := pw2.length
  have a1 := wf.at P.one
  have a2 := wf.at P.other
  have i1 : xw[P.one]? = some (V.int (ws.getD P.one 0)) := ti_get (H := H) pw2 (by omega)
  have i2 : xw[P.other]? = some (V.int (ws.getD P.other 0)) := ti_get (H := H) pw2 (by omega)
  have j1 : xf[P.one]? = some (V.int (fl.getD P.one 0)) := ti_get (H := H) pf2 (by omega)
  have j2 : xf[P.other]? = some (V.int (fl.getD P.other 0)) := ti_get (H := H) pf2 (by omega)
  have b1 := lvl_b (x := fl.getD P.one 0) a1.1 a1.2
  have b2 := lvl_b (x := fl.getD P.other 0) a2.1 a2.2
  refine ⟨_, rfl, _, rfl, _, _, _, _, rfl, rfl, hp, rfl, _, _, _, _, rfl, rfl, hf, atI_nat j1, _, rfl, _, rfl, _, _, _, _, rfl, rfl, hp, rfl, _, _, _, _, rfl, rfl, hw, atI_nat i1, _, _, rfl, a1.1, a1.2, fun H1 z1 g1 hz1 => ?_⟩
  have hp1 := g1.tup hp
  have hf1 := g1.tup hf
  have hw1 := g1.tup hw
  refine ⟨_, rfl, _, rfl, _, _, _, _, rfl, rfl, hp1, rfl, _, _, _, _, rfl, rfl, hf1, atI_nat j2, _, rfl, _, rfl, _, _, _, _, rfl, rfl, hp1, rfl, _, _, _, _, rfl, rfl, hw1, atI_nat i2, _, _, rfl, a2.1, a2.2, fun H2 z2 g2 hz2 => ?_⟩
  obtain ⟨p2, rfl, h2⟩ := hz2
  refine ⟨_, rfl, _, rfl, _, _, _, _, rfl, rfl, h2, rfl, _, rfl, _, rfl, _, _, _, _, rfl, rfl, h2, rfl, sz (n := 2) (by omega), fun t ht => ⟨_, _, _, (-(lvl (ws.getD P.other 0) (fl.getD P.other 0)).1, (lvl (ws.getD P.other 0) (fl.getD P.other 0)).2), rfl, (hz1.gr g2).gr (Gr.new (m := []) ht), ⟨t, rfl, sqT upd_same⟩, b1.1, by omega, b2.1, by show (lvl _ _).2 ≤ 20; omega, fun H3 u3 g3 hu3 => q _ _ (((g1.trans g2).trans (Gr.new ht)).trans g3) hu3⟩⟩
end K11
/-! part K11R7 -/
namespace K11
open PySem PySem.Spec PyProof.Rows L2
variable {K : PySem.W.Frag} {mg : Str → Option Value}
/-! ### a list that grows -/
def AccN {α : Type} (F : Addr) (R : Hp → V → α → Prop) (H0 H : Hp) (l : List α) : Prop := H0 F = none ∧ Gr [F] H0 H ∧ ∃ xs, H F = some (.lst xs) ∧ Paired (R H) xs l
section
variable {α : Type} {F : Addr} {R : Hp → V → α → Prop} {H0 H H1 : Hp} {l : List α} {y : V} {b : α}
theorem AccN.start (h : H F = none) : AccN F R H (upd H F (.lst [])) [] := ⟨h, Gr.new h, [], upd_same, .nil⟩
theorem AccN.grow (hR : ∀ H H' y b, Gr [F] H H' → R H y b → R H' y b) (a : AccN F R H0 H l) (g1 : Gr [] H H1) : AccN F R H0 H1 l := by
  obtain ⟨h, g, xs, e, q⟩ := a
  exact ⟨h, g.trans g1.up, xs, g1.at e (by simp), L2.Paired.mapP q fun _ _ z => hR _ _ _ _ g1.up z⟩
theorem AccN.push (hR : ∀ H H' y b, Gr [F] H H' → R H y b → R H' y b) (a : AccN F R H0 H l) (hl : l.length ≤ 50000) (r : R H y b) : ∃ xs, H F = some (.lst xs) ∧ xs.length < sizeLine ∧ AccN F R H0 (upd H F (.lst (xs ++ [y]))) (l ++ [b]) := by
  obtain ⟨h, g, xs, e, q⟩ := a
  have gs : Gr [F] H (upd H F (.lst (xs ++ [y]))) := Gr.set e (by simp)
  have lx : xs.length = l.length := q.length
  exact ⟨xs, e, szl (by omega), h, g.trans gs, xs ++ [y], upd_same, PySem.Paired.snoc (L2.Paired.mapP q fun _ _ z => hR _ _ _ _ gs z) (hR _ _ _ _ gs r)⟩
theorem AccN.gr (a : AccN F R H0 H l) : Gr [] H0 H := a.2.1.drop a.1
theorem AccN.lst (a : AccN F R H0 H l) : ∃ xs, H F = some (.lst xs) ∧ Paired (R H) xs l := a.2.2
theorem AccN.ty (a : AccN F R H0 H l) : tyV K "list" (.ref F) H := let ⟨xs, e, _⟩ := a.lst; .inl ⟨rfl, xs, sqL e⟩
end
theorem take_snoc {α : Type} {l : List α} {i : Nat} {d : α} (h : i < l.length) : l.take i ++ [l.getD i d] = l.take (i + 1) := by
  rw [List.take_succ, get_lt (d := d) h]
  rfl
theorem pu__law_flows (T : Txt K mg) : PureOk (sp__law_flows K) ["_law_widths_here", "_law_pipes_here", "_law_filling_here", "_law_opening_here"] N__law_flows fun E => t__law_flows K := by
  refine ⟨by rintro _ _ _ _ ⟨_, _, _, _, _, _, _, _, rfl, _⟩; rfl, ?_⟩
  rintro _ H Q E ⟨w, u, v, x, ws, fl, ps, op, rfl, pre, ⟨pp, xp, rfl, hp, pp2⟩, wa, ho, q⟩
  have lp : xp.length = ps.length := pp2.length
  have wac := wa.c
  refine ⟨sz (n := 0) (by omega), fun F hF => ?_⟩
  have a0 : AccN F (fun _ => IsI) H (upd H F (.lst [])) [] := AccN.start hF
  refine ⟨_, rfl, _, _, rfl, .inr (a0.gr.tup hp), _, rfl, by omega, by omega, ?_⟩
  have ln : (numbersOf ws ps fl).length = ps.length := by
    unfold numbersOf
    rw [List.length_map]
  have lo : (openedOf (numbersOf ws ps fl) op).length = ps.length := by rw [opened_len, ln]
  refine for_it (walk_range0 (n := ((xp.length : Nat) : Int).toNat)) (fun i σ H' => AccN F (fun _ => IsI) H H' ((openedOf (numbersOf ws ps fl) op).take i) ∧ ∃ z5, σ = [some w, some (.ref pp), some v, some x, some (.ref F), z5]) ⟨a0, _, rfl⟩ (fun _ _ _ _ _ => trivial) (fun i y σ H3 H4 hi ⟨a, z5, e2⟩ yy => ?_) (fun σ H3 ⟨a, z5, e2⟩ => ?_)
  · obtain ⟨rfl, rfl⟩ := yy
    subst e2
    have hi' : i < ps.length := by omega
    obtain ⟨x1, hx1, hr⟩ := pget pp2 (get_lt (d := ⟨0, 0, []⟩) hi')
    have wP := wa.p _ (List.mem_of_getElem? (get_lt (d := ⟨0, 0, []⟩) hi'))
    have hr0 := hr.gr a.gr
    obtain ⟨p1, s1, rfl, hp1, hs1⟩ := id hr0
    have hp3 := a.gr.tup hp
    have nx : (numbersOf ws ps fl).getD i 0 = flowL (ps.getD i ⟨0, 0, []⟩).steps (dropL ws fl (ps.getD i ⟨0, 0, []⟩)) := by
      refine getD_of ?_
      unfold numbersOf
      rw [List.getElem?_map, get_lt (d := ⟨0, 0, []⟩) hi']
      rfl
    have db := dropL_b (fl := fl) (P := ps.getD i ⟨0, 0, []⟩) pre.2.1
    have key : ∀ b : Int, (openedOf (numbersOf ws ps fl) op).getD i 0 = b → ∀ H5, AccN F (fun _ => IsI) H H5 ((openedOf (numbersOf ws ps fl) op).take i ++ [b]) → AccN F (fun _ => IsI) H H5 ((openedOf (numbersOf ws ps fl) op).take (i + 1)) := fun b e H5 z => by
      rw [← e, take_snoc (by omega)] at z
      exact z
    have yes : (openedOf (numbersOf ws ps fl) op).getD i 0 = (numbersOf ws ps fl).getD i 0 → (tDrop (tBM K "list" rAppend (tVar 4) (tCons (tCall (sp__law_flow K) [] E0 (tCons (tOp (rIxT K) (tOp (rIxT K) (tVar 1) (tVar 5)) (tC (.int 2))) (tCons (tCall (sp__law_drop K) [] E0 (tCons (tVar 0) (tCons (tOp (rIxT K) (tVar 1) (tVar 5)) (tCons (tVar 2) tNil)))) tNil))) tNil))) { nx := fun σ H' => AccN F (fun _ => IsI) H H' ((openedOf (numbersOf ws ps fl) op).take (i + 1)) ∧ ∃ z5, σ = [some w, some (.ref pp), some v, some x, some (.ref F), z5], rt := Q } [some w, some (.ref pp), some v, some x, some (.ref F), some (.int (i : Nat))] H4 := by
      intro eo
      refine ⟨_, rfl, a.ty, _, rfl, _, rfl, _, _, _, _, rfl, rfl, hp3, atI_nat hx1, _, _, _, _, rfl, rfl, hp1, rfl, _, rfl, _, rfl, _, rfl, _, _, _, _, rfl, rfl, hp3, atI_nat hx1, _, rfl, _, _, _, ws, fl, _, rfl, ⟨pre.1.gr a.gr, pre.2.1, pre.2.2.1.gr a.gr, pre.2.2.2⟩, hr0, wP, fun H5 z g5 hz => ?_⟩
      refine ⟨_, _, _, _, rfl, hs1.gr g5, hz, wP.l.s, db.1, by omega, ?_⟩
      obtain ⟨xs6, e6, z6, x6⟩ := AccN.push (b := flowL (ps.getD i ⟨0, 0, []⟩).steps (dropL ws fl (ps.getD i ⟨0, 0, []⟩))) (y := .int (flowL (ps.getD i ⟨0, 0, []⟩).steps (dropL ws fl (ps.getD i ⟨0, 0, []⟩)))) is_st (a.grow is_st g5) (by rw [List.length_take]; omega) rfl
      exact ⟨F, xs6, _, rfl, rfl, e6, z6, ⟨key _ (by rw [eo, nx]) _ x6, _, rfl⟩⟩
    have no : (openedOf (numbersOf ws ps fl) op).getD i 0 = 0 → (tDrop (tBM K "list" rAppend (tVar 4) (tCons (tC (.int 0)) tNil))) { nx := fun σ H' => AccN F (fun _ => IsI) H H' ((openedOf (numbersOf ws ps fl) op).take (i + 1)) ∧ ∃ z5, σ = [some w, some (.ref pp), some v, some x, some (.ref F), z5], rt := Q } [some w, some (.ref pp), some v, some x, some (.ref F), some (.int (i : Nat))] H4 := by
      intro eo
      refine ⟨_, rfl, a.ty, ?_⟩
      obtain ⟨xs6, e6, z6, x6⟩ := AccN.push (b := (0 : Int)) (y := .int 0) is_st a (by rw [List.length_take]; omega) rfl
      exact ⟨F, xs6, _, rfl, rfl, e6, z6, ⟨key _ eo _ x6, _, rfl⟩⟩
    rcases ho with ⟨rfl, rfl⟩ | ⟨hv, lop, rfl, ⟨po, xo, rfl, hoo, po2⟩⟩
    · exact ⟨_, rfl, rfl, _, rfl, yes rfl⟩
    · have exo := isI_eq po2
      subst exo
      refine ⟨_, rfl, rfl, _, rfl, dF hv ⟨_, rfl, _, rfl, _, _, rfl, .inr (a.gr.tup hoo), rfl, flat_ints lop, _, rfl, ?_⟩⟩
      show if inV (V.int ((i : Nat) : Int)) (lop.map V.int) = true then _ else _
      rw [inV_ints]
      have eo : (openedOf (numbersOf ws ps fl) (some lop)).getD i 0 = if lop.contains (i : Int) then (numbersOf ws ps fl).getD i 0 else 0 := by
        refine getD_of ?_
        unfold openedOf
        simp [ln, hi']
      cases hc : lop.contains (i : Int) with
      | true => exact yes (by rw [eo, if_pos hc])
      | false => exact no (by rw [eo, if_neg (by rw [hc]; decide)])
  · subst e2
    obtain ⟨xs, eF, pF⟩ := a.lst
    rw [List.take_of_length_le (by omega)] at pF
    exact ⟨_, rfl, _, _, rfl, .inl ⟨sqL eF, fun t ht => q _ _ (a.gr.trans (Gr.new ht)) ⟨t, xs, rfl, sqT upd_same, pF⟩⟩⟩
theorem pu__law_nets (T : Txt K mg) : PureOk (sp__law_nets K) ["_law_vessels", "_law_pipes_here", "_law_numbers"] N__law_nets fun E => t__law_nets K := by
  refine ⟨by rintro _ _ _ _ ⟨_, _, _, _, _, rfl, _⟩; rfl, ?_⟩
  rintro _ H Q E ⟨n, u, v, ps, ns, rfl, n2, ⟨pp, xp, rfl, hp, pp2⟩, wa, ⟨pn, xn, rfl, hn, pn2⟩, ln, q⟩
  have lp : xp.length = ps.length := pp2.length
  have wac := wa.c
  refine ⟨sz (n := 1) (by omega), fun z hz => ?_⟩
  have gz : Gr [] H (upd H z (.lst [.int 0])) := Gr.new hz
  refine ⟨_, rfl, _, _, _, rfl, rfl, upd_same, by omega, by omega, sz (by show 1 * ((n : Int)).toNat ≤ 100000; omega), fun F hF => ?_⟩
  have hF0 := gz.fresh hF
  have e0 : (List.replicate ((n : Int)).toNat [V.int 0]).flatten = (netsTo n ps ns 0).map V.int := by
    rw [rep_flat]
    show List.replicate n (V.int 0) = (List.replicate n (0 : Int)).map V.int
    rw [List.map_replicate]
  rw [e0]
  have gF := Gr.trans gz (Gr.new (m := []) (o := .lst ((netsTo n ps ns 0).map V.int)) hF)
  refine ⟨_, rfl, _, _, rfl, .inr (gF.tup hp), _, rfl, by omega, by omega, ?_⟩
  refine for_it (walk_range0 (n := ((xp.length : Nat) : Int).toNat)) (fun i σ H' => Gr [F] H H' ∧ H' F = some (.lst ((netsTo n ps ns i).map V.int)) ∧ ∃ z4, σ = [some (V.int n), some (.ref pp), some (.ref pn), some (.ref F), z4]) ⟨gF.up, upd_same, _, rfl⟩ (fun _ _ _ _ _ => trivial) (fun i y σ H2 H3 hi ⟨g2, eF, z4, e2⟩ yy => ?_) (fun σ H2 ⟨g2, eF, z4, e2⟩ => ?_)
  · obtain ⟨rfl, rfl⟩ := yy
    subst e2
    have hi' : i < ps.length := by omega
    obtain ⟨x1, hx1, hr⟩ := pget pp2 (get_lt (d := ⟨0, 0, []⟩) hi')
    have wP := wa.p _ (List.mem_of_getElem? (get_lt (d := ⟨0, 0, []⟩) hi'))
    have w1 := wP.lt
    have w2 := wP.u
    obtain ⟨p1, s1, rfl, hp1, hs1⟩ := hr.gr g2
    have hp3 := g2.tup hp
    have hn3 := g2.tup hn
    have hxn : xn[i]? = some (V.int (ns.getD i 0)) := ti_get (H := H) pn2 (by omega)
    have ll := netsTo_len n ps ns i
    have i1 : ((netsTo n ps ns i).map V.int)[(ps.getD i ⟨0, 0, []⟩).one]? = some (V.int ((netsTo n ps ns i).getD (ps.getD i ⟨0, 0, []⟩).one 0)) := by
      rw [List.getElem?_map, get_lt (d := 0) (by omega)]
      rfl
    refine ⟨_, rfl, _, rfl, _, rfl, _, _, _, _, rfl, rfl, hp3, atI_nat hx1, _, _, _, _, rfl, rfl, hp1, rfl, _, _, _, _, rfl, rfl, sqL eF, atI_nat i1, _, rfl, _, rfl, _, _, _, _, rfl, rfl, hn3, atI_nat hxn, _, _, rfl, rfl, ?_⟩
    refine ⟨_, rfl, _, rfl, _, rfl, _, _, _, _, rfl, rfl, hp3, atI_nat hx1, _, _, _, _, rfl, rfl, hp1, rfl, _, _, _, (ps.getD i ⟨0, 0, []⟩).one, rfl, rfl, eF, Evl.ixN_nat (by rw [List.length_map]; omega), ?_⟩
    rw [map_addAt (by omega)]
    have g3 : Gr [F] H3 (upd H3 F (.lst ((addAt (netsTo n ps ns i) (ps.getD i ⟨0, 0, []⟩).one (ns.getD i 0)).map V.int))) := Gr.set eF (by simp)
    have hp4 := g3.tup hp3
    have hn4 := g3.tup hn3
    have hp14 := g3.tup hp1
    have i2 : ((addAt (netsTo n ps ns i) (ps.getD i ⟨0, 0, []⟩).one (ns.getD i 0)).map V.int)[(ps.getD i ⟨0, 0, []⟩).other]? = some (V.int ((addAt (netsTo n ps ns i) (ps.getD i ⟨0, 0, []⟩).one (ns.getD i 0)).getD (ps.getD i ⟨0, 0, []⟩).other 0)) := by
      rw [List.getElem?_map, get_lt (d := 0) (by rw [addAt_len]; omega)]
      rfl
    refine ⟨_, rfl, _, rfl, _, rfl, _, _, _, _, rfl, rfl, hp4, atI_nat hx1, _, _, _, _, rfl, rfl, hp14, rfl, _, _, _, _, rfl, rfl, sqL upd_same, atI_nat i2, _, rfl, _, rfl, _, _, _, _, rfl, rfl, hn4, atI_nat hxn, _, _, rfl, rfl, ?_⟩
    refine ⟨_, rfl, _, rfl, _, rfl, _, _, _, _, rfl, rfl, hp4, atI_nat hx1, _, _, _, _, rfl, rfl, hp14, rfl, _, _, _, (ps.getD i ⟨0, 0, []⟩).other, rfl, rfl, upd_same, Evl.ixN_nat (by rw [List.length_map, addAt_len]; omega), ?_⟩
    rw [map_subAt (by rw [addAt_len]; omega), upd_upd]
    refine ⟨g2.trans (Gr.set eF (by simp)), ?_, _, rfl⟩
    rw [upd_same, netsTo_succ]
    rfl
  · subst e2
    have e3 : ((xp.length : Nat) : Int).toNat = ps.length := by omega
    rw [e3] at eF
    exact ⟨_, rfl, _, _, rfl, .inl ⟨sqL eF, fun t ht => q _ _ ((g2.drop hF0).trans (Gr.new ht)) ⟨t, _, rfl, sqT upd_same, paired_isI⟩⟩⟩
theorem pu__law_behind (T : Txt K mg) : PureOk (sp__law_behind K) ["_law_widths_here", "_law_filling_here", "_law_lost"] N__law_behind fun E => t__law_behind K := by
  refine ⟨by rintro _ _ _ _ ⟨_, _, _, _, _, _, rfl, _⟩; rfl, ?_⟩
  rintro _ H Q E ⟨w, v, u, ws, fl, ns, rfl, ⟨⟨pw, xw, rfl, hw, pw2⟩, wf, ⟨pf, xf, rfl, hf, pf2⟩, lf⟩, ⟨pn, xn, rfl, hn, pn2⟩, ln, q⟩
  have lw : xw.length = ws.length := pw2.length
  have wn := wf.n2
  refine ⟨sz (n := 0) (by omega), fun F hF => ?_⟩
  have a0 : AccN F (fun _ => IsI) H (upd H F (.lst [])) [] := AccN.start hF
  refine ⟨_, rfl, _, _, rfl, .inr (a0.gr.tup hw), _, rfl, by omega, by omega, ?_⟩
  have lo : (movedOf ws fl ns).length = ws.length := by
    unfold movedOf
    rw [List.length_map, List.length_range]
  refine for_it (walk_range0 (n := ((xw.length : Nat) : Int).toNat)) (fun i σ H' => AccN F (fun _ => IsI) H H' ((movedOf ws fl ns).take i) ∧ ∃ z4, σ = [some (V.ref pw), some (.ref pf), some (.ref pn), some (.ref F), z4]) ⟨a0, _, rfl⟩ (fun _ _ _ _ _ => trivial) (fun i y σ H3 H4 hi ⟨a, z4, e2⟩ yy => ?_) (fun σ H3 ⟨a, z4, e2⟩ => ?_)
  · obtain ⟨rfl, rfl⟩ := yy
    subst e2
    have hi' : i < ws.length := by omega
    have h1 : xw[i]? = some (V.int (ws.getD i 0)) := ti_get (H := H) pw2 hi'
    have h2 : xf[i]? = some (V.int (fl.getD i 0)) := ti_get (H := H) pf2 (by omega)
    have h3 : xn[i]? = some (V.int (ns.getD i 0)) := ti_get (H := H) pn2 (by omega)
    have em : (movedOf ws fl ns).getD i 0 = if ws.getD i 0 = 0 then 0 else fl.getD i 0 - ns.getD i 0 := by
      refine getD_of ?_
      unfold movedOf
      simp [hi']
    have key : ∀ b : Int, (movedOf ws fl ns).getD i 0 = b → ∀ H5, AccN F (fun _ => IsI) H H5 ((movedOf ws fl ns).take i ++ [b]) → AccN F (fun _ => IsI) H H5 ((movedOf ws fl ns).take (i + 1)) := fun b e H5 z => by
      rw [← e, take_snoc (by omega)] at z
      exact z
    refine ⟨_, rfl, _, rfl, _, _, _, _, rfl, rfl, a.gr.tup hw, atI_nat h1, rfl, _, rfl, dd (fun h0 => ?_) (fun h0 => ?_)⟩
    · have h0' : ws.getD i 0 = 0 := by injection h0
      refine ⟨_, rfl, a.ty, ?_⟩
      obtain ⟨xs6, e6, z6, x6⟩ := AccN.push (b := (0 : Int)) (y := .int 0) is_st a (by rw [List.length_take]; omega) rfl
      exact ⟨F, xs6, _, rfl, rfl, e6, z6, ⟨key _ (by rw [em, if_pos h0']) _ x6, _, rfl⟩⟩
    · have h0' : ws.getD i 0 ≠ 0 := fun z => h0 (by rw [z])
      refine ⟨_, rfl, a.ty, _, rfl, _, rfl, _, _, _, _, rfl, rfl, a.gr.tup hf, atI_nat h2, _, rfl, _, rfl, _, _, _, _, rfl, rfl, a.gr.tup hn, atI_nat h3, _, _, rfl, rfl, ?_⟩
      obtain ⟨xs6, e6, z6, x6⟩ := AccN.push (b := fl.getD i 0 - ns.getD i 0) (y := .int (fl.getD i 0 - ns.getD i 0)) is_st a (by rw [List.length_take]; omega) rfl
      exact ⟨F, xs6, _, rfl, rfl, e6, z6, ⟨key _ (by rw [em, if_neg h0']) _ x6, _, rfl⟩⟩
  · subst e2
    obtain ⟨xs, eF, pF⟩ := a.lst
    rw [List.take_of_length_le (by omega)] at pF
    exact ⟨_, rfl, _, _, rfl, .inl ⟨sqL eF, fun t ht => q _ _ (a.gr.trans (Gr.new ht)) ⟨t, xs, rfl, sqT upd_same, pF⟩⟩⟩
end K11
/-! part K11R8 -/
namespace K11
open PySem PySem.Spec PyProof.Rows L2
variable {K : PySem.W.Frag} {mg : Str → Option Value}
theorem pu__law_is_filling (T : Txt K mg) : PureOk (sp__law_is_filling K) ["_law_widths_here", "_law_thing"] N__law_is_filling fun E => t__law_is_filling K := by
  refine ⟨by rintro _ _ _ _ ⟨_, _, _, _, rfl, _⟩; rfl, ?_⟩
  rintro _ H Q E ⟨w, v, ws, o, rfl, ⟨pw, xw, rfl, hw, pw2⟩, wf, hv, q⟩
  have lw : xw.length = ws.length := pw2.length
  have wn := wf.n2
  rcases hv with ⟨l, p, xs, rfl, rfl, h, hp⟩ | ⟨rfl, t, ty, k⟩
  · have lx : xs.length = l.length := hp.length
    refine ⟨_, rfl, _, _, _, _, _, rfl, ClsV.ty _, sqT_ty h, kTT, _, rfl, _, rfl, _, _, rfl, .inr h, _, rfl, _, _, rfl, .inr hw, rfl, _, rfl, ?_⟩
    by_cases he : (xs.length : Int) = (xw.length : Int)
    · refine dNT (by rw [he]) ?_
      refine ⟨_, rfl, _, _, rfl, .inr hw, _, rfl, by omega, by omega, ?_⟩
      have hll : l.length = ws.length := by omega
      refine for_it (walk_range0 (n := ((xw.length : Nat) : Int).toNat)) (fun i σ H' => H' = H ∧ (∀ j, j < i → ∃ y, l[j]? = some (some y) ∧ (y = 0 ∨ 0 < ws.getD j 0)) ∧ ∃ z2, σ = [some (V.ref pw), some (.ref p), z2]) ⟨rfl, fun j hj => absurd hj (by omega), _, rfl⟩ (fun _ _ _ _ _ => trivial) (fun i y σ H3 H4 hi ⟨e1, ok, z2, e2⟩ yy => ?_) (fun σ H3 ⟨e1, ok, z2, e2⟩ => ?_)
      · obtain ⟨rfl, rfl⟩ := yy
        subst e1 e2
        have hi' : i < ws.length := by omega
        obtain ⟨b, hb⟩ : ∃ b, l[i]? = some b := ⟨_, List.getElem?_eq_getElem (by omega)⟩
        obtain ⟨x1, hx1, hr⟩ := pget hp hb
        have h1 : xw[i]? = some (V.int (ws.getD i 0)) := ti_get (H := H4) pw2 hi'
        have wi := wf.at i
        refine ⟨_, rfl, _, rfl, _, _, _, _, rfl, rfl, h, atI_nat hx1, x1, b, rfl, hr, _, rfl, ?_⟩
        rcases hr with ⟨i0, rfl, rfl⟩ | ⟨rfl, _⟩
        · refine ⟨_, rfl, _, rfl, _, _, _, _, rfl, rfl, hw, atI_nat h1, rfl, _, rfl, dd (fun h0 => ⟨_, rfl, _, rfl, _, _, _, _, rfl, rfl, h, atI_nat hx1, rfl, _, rfl, ?_⟩) (fun h0 => ⟨rfl, fun j hj => ?_, _, rfl⟩)⟩
          · by_cases h2 : i0 = 0
            · subst h2
              refine dNT rfl ⟨rfl, fun j hj => ?_, _, rfl⟩
              by_cases hji : j = i
              · subst hji
                exact ⟨0, hb, .inl rfl⟩
              · exact ok j (by omega)
            · refine dNF (nI h2) ?_
              have h0' : ws.getD i 0 = 0 := by injection h0
              refine qE ?_ q
              have e : filOk ws (some l) = false := by
                unfold filOk
                rw [Bool.and_eq_false_iff]
                refine .inr ?_
                unfold dryOk
                rw [List.all_eq_false]
                refine ⟨i, List.mem_range.mpr hi', ?_⟩
                have e3 : (intsOf (some l)).getD i 0 = i0 := by
                  unfold intsOf
                  simp [List.getD, hb]
                rw [e3, h0', decide_eq_false h2]
                decide
              rw [e]
          · by_cases hji : j = i
            · subst hji
              have h0' : ws.getD j 0 ≠ 0 := fun z => h0 (by rw [z])
              exact ⟨i0, hb, .inr (by omega)⟩
            · exact ok j (by omega)
        · refine qE ?_ q
          have e : filOk ws (some l) = false := by
            unfold filOk rowOk
            rw [Bool.and_eq_false_iff]
            refine .inl ?_
            show (decide ((l.length : Int) = ws.length) && l.all Option.isSome) = false
            rw [Bool.and_eq_false_iff]
            refine .inr ?_
            rw [List.all_eq_false]
            exact ⟨none, List.mem_of_getElem? hb, by decide⟩
          rw [e]
      · subst e1 e2
        refine qE ?_ q
        have ok' : ∀ j, j < ws.length → ∃ y, l[j]? = some (some y) ∧ (y = 0 ∨ 0 < ws.getD j 0) := fun j hj => ok j (by omega)
        have e : filOk ws (some l) = true := by
          unfold filOk
          rw [Bool.and_eq_true]
          constructor
          · show (decide ((l.length : Int) = ws.length) && l.all Option.isSome) = true
            rw [Bool.and_eq_true, decide_eq_true_iff, List.all_eq_true]
            refine ⟨by omega, fun x hx => ?_⟩
            obtain ⟨j, hj, ej⟩ := List.mem_iff_getElem.mp hx
            obtain ⟨y, hy, _⟩ := ok' j (by omega)
            rw [List.getElem?_eq_getElem hj, ej] at hy
            rw [Option.some.inj hy]
            rfl
          · unfold dryOk
            rw [List.all_eq_true]
            intro j hj
            obtain ⟨y, hy, hc⟩ := ok' j (List.mem_range.mp hj)
            have e3 : (intsOf (some l)).getD j 0 = y := by
              unfold intsOf
              simp [List.getD, hy]
            rw [e3, Bool.or_eq_true, decide_eq_true_iff, decide_eq_true_iff]
            exact hc
        rw [e]
    · refine dNF (nI he) ?_
      refine qE ?_ q
      have e : filOk ws (some l) = false := by
        unfold filOk
        rw [Bool.and_eq_false_iff]
        refine .inl ?_
        show (decide ((l.length : Int) = ws.length) && l.all Option.isSome) = false
        rw [Bool.and_eq_false_iff]
        exact .inl (decide_eq_false (by omega))
      rw [e]
  · exact ⟨_, rfl, _, _, _, _, _, rfl, ClsV.ty _, ty, k, _, rfl, q⟩
theorem pu__law_is_opening (T : Txt K mg) : PureOk (sp__law_is_opening K) ["_law_many", "_law_thing"] N__law_is_opening fun E => t__law_is_opening K := by
  refine ⟨by rintro _ _ _ _ ⟨_, _, _, rfl, _⟩; rfl, ?_⟩
  rintro _ H Q E ⟨n, v, r, rfl, hr, hn, q⟩
  refine ⟨_, rfl, rfl, _, rfl, ?_⟩
  rcases hr with ⟨rfl, rfl⟩ | ⟨hv, o, ho, rfl⟩
  · exact q
  · have q' : Q (.bl (lotOk o n)) H := by
      refine qE ?_ q
      cases lotOk o n <;> rfl
    refine dF hv ?_
    rcases ho with ⟨l, p, xs, rfl, rfl, h, hp⟩ | ⟨rfl, t, ty, k⟩
    · refine ⟨_, rfl, _, _, _, _, _, rfl, ClsV.ty _, sqT_ty h, kTT, _, rfl, 1, rfl, _, rfl, _, rfl, ⟨xs, h⟩, ?_⟩
      have hl : xs.length = l.length := hp.length
      refine for_it (walk_tup (xs := xs)) (fun i σ H' => H' = H ∧ ∃ last z, σ = [some (.int n), some (V.ref p), some (.int last), z] ∧ lotL (l.drop i) last n = lotOk (some l) n) ⟨rfl, -1, _, rfl, rfl⟩ (fun i σ H' hi z => by rw [z.1]; exact h) (fun i x σ H1 H2 hi ⟨e1, last, z, e2, e3⟩ y => ?_) (fun σ H' ⟨e1, last, z, e2, e3⟩ => ?_)
      · obtain ⟨rfl, hx⟩ := y
        subst e1 e2
        obtain ⟨b, hb, hr⟩ := pgetL hp hx
        rw [drop_cons hb] at e3
        have e4 : (btw b (last + 1) (n - 1) && lotL (l.drop (i + 1)) (b.getD 0) n) = lotOk (some l) n := e3
        refine ⟨_, rfl, _, b, rfl, hr, _, rfl, ?_⟩
        rcases hr with ⟨i0, rfl, rfl⟩ | ⟨rfl, _⟩
        · have eb : btw (some i0) (last + 1) (n - 1) = (decide (last + 1 ≤ i0) && decide (i0 ≤ (n : Int) - 1)) := rfl
          refine ⟨_, rfl, _, rfl, _, _, rfl, rfl, _, rfl, dd (fun h1 => ?_) (fun h1 => ⟨_, rfl, _, rfl, _, _, rfl, rfl, _, rfl, dd (fun h2 => ?_) (fun h2 => ?_)⟩)⟩
          · rw [eb, decide_eq_false (by omega), Bool.false_and, Bool.false_and] at e4
            exact qE (by rw [e4]) q'
          · rw [eb, decide_eq_false (show ¬ i0 ≤ (n : Int) - 1 by omega), Bool.and_false, Bool.false_and] at e4
            exact qE (by rw [e4]) q'
          · rw [eb, decide_eq_true (show last + 1 ≤ i0 by omega), decide_eq_true (show i0 ≤ (n : Int) - 1 by omega), Bool.true_and, Bool.true_and] at e4
            exact ⟨_, rfl, rfl, i0, _, rfl, e4⟩
        · have e5 : false = lotOk (some l) n := e4
          exact qE (by rw [e5]) q'
      · subst e1 e2
        rw [hl, List.drop_length] at e3
        have e4 : true = lotOk (some l) n := e3
        exact qE (by rw [e4]) q'
    · exact ⟨_, rfl, _, _, _, _, _, rfl, ClsV.ty _, ty, k, _, rfl, q'⟩
theorem cut_take {xs : List V} {k : Nat} : cutV xs none (some (k : Int)) = xs.take k := by
  unfold cutV
  rw [HT.sIx_none, HT.sIx_nat, List.drop_zero, Nat.sub_zero]
  by_cases h : k ≤ xs.length
  · rw [Nat.min_eq_left h]
  · rw [Nat.min_eq_right (by omega), List.take_of_length_le (by omega), List.take_of_length_le (by omega)]
theorem cut_drop {xs : List V} {k : Nat} : cutV xs (some (k : Int)) none = xs.drop k := by
  unfold cutV
  rw [HT.sIx_none, HT.sIx_nat]
  by_cases h : k ≤ xs.length
  · rw [Nat.min_eq_left h, List.take_of_length_le (by rw [List.length_drop]; omega)]
  · rw [Nat.min_eq_right (by omega), List.drop_of_length_le (by omega), List.drop_of_length_le (by omega), List.take_nil]
theorem pu__law_with (T : Txt K mg) : PureOk (sp__law_with K) ["_law_row", "_law_place", "_law_thing"] N__law_with fun E => t__law_with K := by
  refine ⟨by rintro _ _ _ _ ⟨_, _, _, _, rfl, _⟩; rfl, ?_⟩
  rintro _ H Q E ⟨x, p, xs, k, rfl, h, hn, hk, q⟩
  refine ⟨_, rfl, _, rfl, _, rfl, p, xs, rfl, h, fun z => ?_, fun p1 hp1 => ⟨_, _, rfl, .inr (sqT upd_same), fun l1 hl1 => ?_⟩⟩
  · have z2 := z.2
    rw [HT.sIx_nat] at z2
    omega
  have g1 : Gr [] H (upd H p1 (.tup (cutV xs none (some (k : Int))))) := Gr.new hp1
  have g2 := g1.trans (Gr.new (m := []) (o := .lst (cutV xs none (some (k : Int)))) hl1)
  rw [cut_take] at g1 g2 ⊢
  refine ⟨_, rfl, sz (n := 1) (by omega), fun l2 hl2 => ?_⟩
  have g3 := Gr.new (m := []) (o := .lst [x]) hl2
  refine ⟨_, _, xs.take k, [x], rfl, rfl, g3.at upd_same (by simp), upd_same, sz (by rw [List.length_take]; show _ + 1 ≤ _; omega), fun l3 hl3 => ?_⟩
  have g4 := (g2.trans g3).trans (Gr.new (m := []) (o := .lst (xs.take k ++ [x])) hl3)
  have h4 := g4.tup h
  refine ⟨_, rfl, _, rfl, _, _, rfl, rfl, ((k + 1 : Nat) : Int), rfl, p, xs, rfl, h4, fun z => ?_, fun p5 hp5 => ⟨_, _, rfl, .inr (sqT upd_same), fun l5 hl5 => ?_⟩⟩
  · have z1 := z.1
    rw [HT.sIx_nat] at z1
    omega
  rw [cut_drop]
  have g5 := Gr.new (m := []) (o := .tup (xs.drop (k + 1))) hp5
  rw [cut_drop] at hl5
  have g6 := Gr.new (m := []) (o := .lst (xs.drop (k + 1))) hl5
  refine ⟨_, _, xs.take k ++ [x], xs.drop (k + 1), rfl, rfl, (g5.trans g6).at upd_same (by simp), upd_same, sz ?_, fun l7 hl7 => ?_⟩
  · rw [List.length_append, List.length_take, List.length_drop]
    show _ + 1 + _ ≤ _
    omega
  refine ⟨_, _, rfl, .inl ⟨sqL upd_same, fun t ht => q _ _ ((((g4.trans g5).trans g6).trans (Gr.new hl7)).trans (Gr.new ht)) (sqT ?_)⟩⟩
  rw [upd_same, List.set_eq_take_append_cons_drop, if_pos hk, List.append_assoc]
  rfl
theorem th_tup {H : Hp} {p : Addr} {xs : List V} (h : SqT K H p xs) (ha : ∀ x ∈ xs, ∃ o, Itm K H x o) : ∃ o, Th K H (.ref p) o := by
  obtain ⟨l, hl⟩ := pairs_of ha
  exact ⟨some l, .inl ⟨l, p, xs, rfl, rfl, h, hl⟩⟩
theorem th_lst {H : Hp} {p : Addr} {xs : List V} (h : H p = some (.lst xs)) : ∃ o, Th K H (.ref p) o := (any_lst h).1
theorem itm_ints {H : Hp} {l : List Int} : ∀ x ∈ l.map V.int, ∃ o, Itm K H x o := fun x hx => by
  obtain ⟨i, _, rfl⟩ := List.mem_map.mp hx
  exact ⟨_, itm_int⟩
end K11
/-! part K11R9 -/
namespace K11
open PySem PySem.Spec PyProof.Rows L2
variable {K : PySem.W.Frag} {mg : Str → Option Value}
theorem pu__law_bad_filling (T : Txt K mg) : PureOk (sp__law_bad_filling K) ["_law_source_here", "_law_kind", "_law_widths_here", "_law_filling_here"] N__law_bad_filling fun E => t__law_bad_filling K := by
  refine ⟨by rintro _ _ _ _ ⟨_, _, _, _, _, _, _, rfl, _⟩; rfl, ?_⟩
  rintro _ H Q E ⟨p, c, k, w, v, ws, fl, rfl, hs, ⟨_, wf, ⟨pf, xf, rfl, hf, pf2⟩, lf⟩, q⟩
  have n1 := wf.n1
  have n2 := wf.n2
  have lx : xf.length = fl.length := pf2.length
  have exf := isI_eq pf2
  have hsame : Drawn K p c H H := ⟨Gr.refl _ _, hs⟩
  have hnew : ∀ {H1 : Hp} {t : Addr} {o : HO}, Drawn K p c H H1 → H1 t = none → Drawn K p c H (upd H1 t o) := fun d h => ⟨d.1.trans (Gr.new h), d.2.gr (Gr.new (m := []) h) (by simp) (by simp)⟩
  have give : ∀ {H1 : Hp} {u : V}, Drawn K p c H H1 → (∃ o, Th K H1 u o) → Q u H1 := fun d ⟨o, h⟩ => q _ _ o d h
  refine ⟨_, rfl, rfl, _, rfl, dd (fun _ => ?_) (fun _ => ?_)⟩
  · exact ⟨_, rfl, p, c, rfl, hs, fun H1 u d a => give d a.1⟩
  refine ⟨_, rfl, rfl, _, rfl, dd (fun _ => ?_) (fun _ => ?_)⟩
  · exact ⟨_, rfl, _, _, rfl, .inr hf, fun l hl => give (hnew hsame hl) (th_lst upd_same)⟩
  refine ⟨_, rfl, rfl, _, rfl, dd (fun _ => ?_) (fun _ => ?_)⟩
  · refine ⟨_, rfl, sz (n := 1) (by omega), fun t ht => ⟨_, _, xf, [.int 0], rfl, rfl, (Gr.new (m := []) ht).tup hf, sqT upd_same, fun z => ?_, sz (by show _ + 1 ≤ _; omega), (fun z => nomatch z), fun _ t2 ht2 => give (hnew (hnew hsame ht) ht2) (th_tup (sqT upd_same) fun x hx => ?_)⟩⟩
    · rw [z] at lx
      have : 0 = fl.length := lx
      omega
    · rcases List.mem_append.mp hx with hx | hx
      · rw [exf] at hx
        exact itm_ints x hx
      · rw [List.mem_singleton.mp hx]
        exact ⟨_, itm_int⟩
  refine ⟨_, rfl, rfl, _, rfl, dd (fun _ => ?_) (fun _ => ?_)⟩
  · refine ⟨_, rfl, _, rfl, pf, xf, rfl, hf, fun z => ?_, fun t ht => give (hnew hsame ht) (th_tup (sqT upd_same) fun x hx => ?_)⟩
    · have z1 := z.1
      rw [show (some (1 : Int)) = some ((1 : Nat) : Int) from rfl, HT.sIx_nat] at z1
      omega
    · rw [cut1] at hx
      have hx2 := List.mem_of_mem_drop hx
      rw [exf] at hx2
      exact itm_ints x hx2
  have itm : ∀ {H1 : Hp} {x y : V} {j : Nat}, (∃ o, Itm K H1 x o) → y ∈ xf.set j x → ∃ o, Itm K H1 y o := fun hx hy => by
    rcases List.mem_or_eq_of_mem_set hy with h | h
    · rw [exf] at h
      exact itm_ints _ h
    · rw [h]
      exact hx
  refine ⟨_, rfl, rfl, _, rfl, dd (fun _ => ?_) (fun _ => ?_)⟩
  · refine ⟨_, rfl, _, rfl, _, rfl, _, _, rfl, .inr hf, p, c, _, rfl, hs, by omega, by omega, fun H1 j d j0 j1 => ?_⟩
    obtain ⟨j, rfl⟩ := Int.eq_ofNat_of_zero_le j0
    refine ⟨_, pf, xf, j, rfl, d.1.tup hf, by omega, by omega, fun H2 t g2 ht => give ⟨d.1.trans g2.up, d.2.gr g2 (by simp) (by simp)⟩ (th_tup ht fun x hx => itm ⟨_, itm_int⟩ hx)⟩
  · refine ⟨_, rfl, _, rfl, _, rfl, _, _, rfl, .inr hf, p, c, _, rfl, hs, by omega, by omega, fun H1 j d j0 j1 => ?_⟩
    obtain ⟨j, rfl⟩ := Int.eq_ofNat_of_zero_le j0
    refine ⟨_, rfl, p, c, rfl, d.2, fun H2 u d2 a2 => ⟨_, pf, xf, j, rfl, d2.1.tup (d.1.tup hf), by omega, by omega, fun H3 t g3 ht => give ⟨(d.1.trans d2.1).trans g3.up, d2.2.gr g3 (by simp) (by simp)⟩ (th_tup ht fun x hx => itm ((a2.gr g3).2) hx)⟩⟩
theorem pu__law_bad_opening (T : Txt K mg) : PureOk (sp__law_bad_opening K) ["_law_source_here", "_law_kind", "_law_many"] N__law_bad_opening fun E => t__law_bad_opening K := by
  refine ⟨by rintro _ _ _ _ ⟨_, _, _, _, rfl, _⟩; rfl, ?_⟩
  rintro _ H Q E ⟨p, c, k, n, rfl, hs, hn, q⟩
  refine ⟨_, rfl, _, rfl, _, _, rfl, rfl, p, c, _, rfl, hs, by omega, by omega, fun H1 j d j0 j1 => ?_⟩
  have hnew : ∀ {H1 : Hp} {t : Addr} {o : HO}, Drawn K p c H H1 → H1 t = none → Drawn K p c H (upd H1 t o) := fun d h => ⟨d.1.trans (Gr.new h), d.2.gr (Gr.new (m := []) h) (by simp) (by simp)⟩
  have give : ∀ {H1 : Hp} {u : V}, Drawn K p c H H1 → (∃ o, Th K H1 u o) → Q u H1 := fun d ⟨o, h⟩ => q _ _ o d h
  have two : ∀ {H1 : Hp} {a b : Int} {x : V}, x ∈ [V.int a, V.int b] → ∃ o, Itm K H1 x o := fun {H1 a b x} hx => by
    have h : x = V.int a ∨ x = V.int b := by simpa using hx
    rcases h with h | h <;> rw [h] <;> exact ⟨_, itm_int⟩
  refine ⟨_, rfl, rfl, _, rfl, dd (fun _ => ?_) (fun _ => ?_)⟩
  · exact ⟨_, rfl, p, c, rfl, d.2, fun H2 u d2 a => give ⟨d.1.trans d2.1, d2.2⟩ a.1⟩
  refine ⟨_, rfl, rfl, _, rfl, dd (fun _ => ?_) (fun _ => ?_)⟩
  · exact ⟨_, rfl, _, rfl, sz (n := 2) (by omega), fun t ht => give (hnew d ht) (th_tup (sqT upd_same) fun x hx => two hx)⟩
  refine ⟨_, rfl, rfl, _, rfl, dd (fun _ => ?_) (fun _ => ?_)⟩
  · exact ⟨_, rfl, _, rfl, _, _, rfl, rfl, sz (n := 2) (by omega), fun t ht => give (hnew d ht) (th_tup (sqT upd_same) fun x hx => two hx)⟩
  refine ⟨_, rfl, rfl, _, rfl, dd (fun _ => ?_) (fun _ => ?_)⟩
  · exact ⟨_, rfl, _, rfl, sz (n := 2) (by omega), fun t ht => give (hnew d ht) (th_tup (sqT upd_same) fun x hx => two hx)⟩
  refine ⟨_, rfl, rfl, _, rfl, dd (fun _ => ?_) (fun _ => ?_)⟩
  · refine ⟨_, rfl, _, rfl, ?_, fun t ht => give (hnew d ht) (th_lst upd_same)⟩
    unfold RgOk
    omega
  · refine ⟨_, rfl, _, rfl, p, c, rfl, d.2, fun H2 u d2 a => ⟨sz (n := 2) (by omega), fun t ht => give (hnew ⟨d.1.trans d2.1, d2.2⟩ ht) (th_tup (sqT upd_same) fun x hx => ?_)⟩⟩
    have h : x = V.int j ∨ x = u := by simpa using hx
    rcases h with h | h
    · rw [h]
      exact ⟨_, itm_int⟩
    · rw [h]
      exact (a.gr (Gr.new (m := []) ht)).2
end K11
/-! part K11S1 -/
namespace K11
open PySem PySem.Spec PyProof.Rows L2
variable {K : PySem.W.Frag} {mg : Str → Option Value}
theorem Told.gr {m : List Addr} {H H1 : Hp} {v : V} {R R' : V → Prop} (h : Told K H v R) (g : Gr m H H1) (r : ∀ x, R x → R' x) : Told K H1 v R' := let ⟨p, x, e, t, z⟩ := h; ⟨p, x, e, g.tup t, r x z⟩
theorem Refd.gr {H H1 : Hp} {v : V} {b1 b2 b3 : Bool} (h : Refd K H v b1 b2 b3) (g : Gr [] H H1) : Refd K H1 v b1 b2 b3 := let ⟨p, l, e, t, z⟩ := h; ⟨p, l, e, g.tup t, g.lst z (by simp)⟩
theorem pu__law_all_due (T : Txt K mg) : PureOk (sp__law_all_due K) ["_law_widths_here", "_law_pipes_here", "_law_filling_here", "_law_opening_here"] N__law_all_due fun E => t__law_all_due K := by
  refine ⟨by rintro _ _ _ _ ⟨_, _, _, _, _, _, _, _, rfl, _⟩; rfl, ?_⟩
  rintro _ H Q E ⟨w, u, v, x, ws, ps, o, r, rfl, hw, wf, hu, wa, hv, hx, q⟩
  obtain ⟨pw, xw, rfl, hw0, pw2⟩ := id hw
  obtain ⟨pu, xu, rfl, hu0, pu2⟩ := id hu
  have lw : xw.length = ws.length := pw2.length
  have lu : xu.length = ps.length := pu2.length
  have wn := wf.n2
  have wac := wa.c
  refine ⟨_, rfl, _, rfl, _, _, ws, o, rfl, hw, wf, hv, _, rfl, ?_⟩
  cases hf : filOk ws o with
  | false =>
    refine ⟨sz (n := 3) (by omega), fun l hl => ⟨sz (n := 3) (by omega), fun t ht => ⟨sz (n := 1) (by omega), fun m hm => ⟨m, 5, [.ref t], rfl, rfl, upd_same, by omega, by omega, sz (n := 5) (by omega), fun p hp => ?_⟩⟩⟩⟩
    have g1 := Gr.new (m := []) (o := .lst [.bl true, .bl false, .bl false]) hl
    have g2 := Gr.new (m := []) (o := .tup [.str "refused", .ref l, .int 0]) ht
    have g3 := Gr.new (m := []) (o := .lst [.ref t]) hm
    have g4 := Gr.new (m := []) (o := .lst [.ref t, .ref t, .ref t, .ref t, .ref t]) hp
    have rf := Refd.gr (K := K) (v := .ref t) (b1 := true) (b2 := false) (b3 := false) ⟨t, l, rfl, sqT upd_same, g2.lst (sqL upd_same) (by simp)⟩ (g3.trans g4)
    exact q _ p [.ref t, .ref t, .ref t, .ref t, .ref t] (((g1.trans g2).trans g3).trans g4) upd_same ⟨_, _, _, _, _, rfl, fun _ => ⟨rf, rf, rf, rf, rf⟩, fun z => by rw [hf] at z; cases z⟩
  | true =>
    obtain ⟨hff, lf⟩ := th_fil hv hf
    obtain ⟨pf, xf, rfl, hf0, pf2⟩ := id hff
    have lxf : xf.length = ws.length := by rw [pf2.length, lf]
    refine ⟨_, rfl, _, _, rfl, .inr hw0, _, rfl, by omega, by omega, fun D hD => ?_⟩
    refine lc_each (m := []) (walk_range0 (n := ((xw.length : Nat) : Int).toNat)) hD (by simp) (by omega) (fun H j y => Fr K H y ((levelsOf ws (intsOf o)).getD j (0, 1))) (fun _ _ => trivial) (fun i y H3 H' hi s yy => ?_) (fun H1 acc g1 e1 e2 e3 => ?_)
    · obtain ⟨rfl, rfl⟩ := yy
      have hi' : i < ws.length := by omega
      have i1 : xw[i]? = some (V.int (ws.getD i 0)) := ti_get (H := H) pw2 hi'
      have i2 : xf[i]? = some (V.int ((intsOf o).getD i 0)) := ti_get (H := H) pf2 (by omega)
      have wi := wf.at i
      refine ⟨rfl, _, rfl, _, rfl, _, _, _, _, rfl, rfl, s.gr.tup hf0, atI_nat i2, _, rfl, _, rfl, _, _, _, _, rfl, rfl, s.gr.tup hw0, atI_nat i1, _, _, rfl, wi.1, wi.2, fun H5 z g5 hz => s.leaf (fun _ _ _ _ g z => z.gr g) (by omega) g5 ?_⟩
      rw [getD_of (show (levelsOf ws (intsOf o))[i]? = some (lvl (ws.getD i 0) ((intsOf o).getD i 0)) by unfold levelsOf; simp [hi'])]
      exact hz
    have ll : (levelsOf ws (intsOf o)).length = ws.length := by
      unfold levelsOf
      rw [List.length_map, List.length_range]
    refine ⟨D, acc, rfl, .inl ⟨sqL e1, fun tl htl => ⟨sz (n := 2) (by omega), fun t1 ht1 => ⟨sz (n := 1) (by omega), fun F hF => ?_⟩⟩⟩⟩
    have g2 := Gr.new (m := []) (o := .tup acc) htl
    have g3 := Gr.new (m := []) (o := .tup [.str "told", .ref tl]) ht1
    have g4 := Gr.new (m := []) (o := .lst [.ref t1]) hF
    have tls : Ts K (upd H1 tl (.tup acc)) (.ref tl) (levelsOf ws (intsOf o)) := tuF_of (R := fun H => Fr K H) (d := (0, 1)) (sqT upd_same) (by rw [e2, ll]; omega) fun j y hy => (e3 j y hy).gr g2
    have tld1 : Told K (upd (upd (upd H1 tl (.tup acc)) t1 (.tup [.str "told", .ref tl])) F (.lst [.ref t1])) (.ref t1) (fun x => Ts K (upd (upd (upd H1 tl (.tup acc)) t1 (.tup [.str "told", .ref tl])) F (.lst [.ref t1])) x (levelsOf ws (intsOf o))) :=
      ⟨t1, .ref tl, rfl, g4.tup (sqT upd_same), (tls.gr g3).gr g4⟩
    have gF := ((g1.trans g2).trans g3).trans g4
    have hF0 : H F = none := ((g1.trans g2).trans g3).fresh hF
    have hFl : upd (upd (upd H1 tl (.tup acc)) t1 (.tup [.str "told", .ref tl])) F (.lst [.ref t1]) F = some (.lst [.ref t1]) := upd_same
    generalize upd (upd (upd H1 tl (.tup acc)) t1 (.tup [.str "told", .ref tl])) F (.lst [.ref t1]) = H4 at *
    refine ⟨_, rfl, .inl ⟨rfl, _, sqL hFl⟩, _, rfl, pu, rfl, ⟨xu, gF.tup hu0⟩, fun D2 hD2 => ?_⟩
    refine lc_each (m := []) (walk_tup (xs := xu)) hD2 (by simp) (by omega) (fun H j y => Fr K H y ((ps.map (dropL ws (intsOf o))).getD j (0, 1))) (fun H5 g5 => g5.tup (gF.tup hu0)) (fun i y H3 H' hi s yy => ?_) (fun H5 acc2 g5 e1' e2' e3' => ?_)
    · obtain ⟨rfl, hx1⟩ := yy
      obtain ⟨P, hP, hr⟩ := pgetL pu2 hx1
      have wP := wa.p _ (List.mem_of_getElem? hP)
      refine ⟨rfl, _, rfl, _, rfl, _, rfl, _, _, _, ws, _, P, rfl, ⟨(hw.gr gF).gr s.gr, wf, (hff.gr gF).gr s.gr, lf⟩, (hr.gr gF).gr s.gr, wP, fun H6 z g6 hz => s.leaf (fun _ _ _ _ g z => z.gr g) (by omega) g6 ?_⟩
      rw [getD_of (show (ps.map (dropL ws (intsOf o)))[i]? = some (dropL ws (intsOf o) P) by rw [List.getElem?_map, hP]; rfl)]
      exact hz
    have hF5 := g5.at hFl (by simp)
    refine ⟨D2, acc2, rfl, .inl ⟨sqL e1', fun t2 ht2 => ⟨sz (n := 2) (by omega), fun t3 ht3 => ⟨F, [.ref t1], _, rfl, rfl, ?_, (show 1 < sizeLine by decide), ?_⟩⟩⟩⟩
    · exact ((Gr.new (m := []) ht2).trans (Gr.new ht3)).at hF5 (by simp)
    have g6 := Gr.new (m := []) (o := .tup acc2) ht2
    have g7 := Gr.new (m := []) (o := .tup [.str "told", .ref t2]) ht3
    have hF7 := ((g5.trans g6).trans g7).at hFl (by simp)
    have g8 : Gr [F] (upd (upd H5 t2 (.tup acc2)) t3 (.tup [.str "told", .ref t2])) (upd (upd (upd H5 t2 (.tup acc2)) t3 (.tup [.str "told", .ref t2])) F (.lst [.ref t1, .ref t3])) := Gr.set hF7 (by simp)
    have dls : Ts K (upd H5 t2 (.tup acc2)) (.ref t2) (ps.map (dropL ws (intsOf o))) := tuF_of (R := fun H => Fr K H) (d := (0, 1)) (sqT upd_same) (by rw [e2', List.length_map, lu]) fun j y hy => (e3' j y hy).gr g6
    have tld1' := (((tld1.gr g5 fun x z => z.gr g5).gr g6 fun x z => z.gr g6).gr g7 fun x z => z.gr g7).gr g8 fun x z => z.gr g8
    have tld2 : Told K _ (.ref t3) (fun x => Ts K _ x (ps.map (dropL ws (intsOf o)))) := ⟨t3, .ref t2, rfl, g8.tup (sqT upd_same), (dls.gr g7).gr g8⟩
    have gA : Gr [] H (upd (upd (upd H5 t2 (.tup acc2)) t3 (.tup [.str "told", .ref t2])) F (.lst [.ref t1, .ref t3])) := (((gF.trans g5).trans g6).trans g7).wr hF0
    have hF8 : upd (upd (upd H5 t2 (.tup acc2)) t3 (.tup [.str "told", .ref t2])) F (.lst [.ref t1, .ref t3]) F = some (.lst [.ref t1, .ref t3]) := upd_same
    show tSeq _ _ _ _ (upd (upd (upd H5 t2 (.tup acc2)) t3 (.tup [.str "told", .ref t2])) F (.lst [.ref t1, .ref t3]))
    generalize upd (upd (upd H5 t2 (.tup acc2)) t3 (.tup [.str "told", .ref t2])) F (.lst [.ref t1, .ref t3]) = H8 at *
    have hu8 := gA.tup hu0
    refine ⟨_, rfl, _, _, rfl, .inr hu8, _, rfl, ps.length, _, r, by rw [lu]; rfl, hx.gr gA, by omega, _, rfl, ?_⟩
    cases r with
    | none =>
      refine ⟨_, rfl, sz (n := 3) (by omega), fun l hl => ⟨sz (n := 3) (by omega), fun t ht => ⟨sz (n := 1) (by omega), fun m hm => ⟨m, 3, [.ref t], rfl, rfl, upd_same, by omega, by omega, sz (n := 3) (by omega), fun p hp => ?_⟩⟩⟩⟩
      have k1 := Gr.new (m := []) (o := .lst [.bl false, .bl true, .bl false]) hl
      have k2 := Gr.new (m := []) (o := .tup [.str "refused", .ref l, .int 0]) ht
      have k3 := Gr.new (m := []) (o := .lst [.ref t]) hm
      have k4 := Gr.new (m := []) (o := .lst [.ref t, .ref t, .ref t]) hp
      have kk := ((k1.trans k2).trans k3).trans k4
      refine ⟨F, p, [.ref t1, .ref t3], [.ref t, .ref t, .ref t], rfl, rfl, kk.at hF8 (by simp), upd_same, sz (n := 5) (by omega), fun z hz => ?_⟩
      have k5 := Gr.new (m := []) (o := .lst [.ref t1, .ref t3, .ref t, .ref t, .ref t]) hz
      have rf := Refd.gr (K := K) (v := .ref t) (b1 := false) (b2 := true) (b3 := false) ⟨t, l, rfl, sqT upd_same, k2.lst (sqL upd_same) (by simp)⟩ ((k3.trans k4).trans k5)
      have k6 := kk.trans k5
      exact q _ z [.ref t1, .ref t3, .ref t, .ref t, .ref t] (gA.trans k6) upd_same ⟨_, _, _, _, _, rfl, (fun z => absurd z (by rw [hf]; decide)), fun _ => ⟨tld1'.gr k6 fun x z => z.gr k6, tld2.gr k6 fun x z => z.gr k6, fun _ => ⟨rf, rf, rf⟩, (fun op z => nomatch z)⟩⟩
    | some op =>
      refine ⟨_, rfl, _, rfl, _, rfl, _, rfl, _, _, _, _, ws, _, ps, op, rfl, ⟨hw.gr gA, wf, hff.gr gA, lf⟩, hu.gr gA, wa, (opn_r hx).gr gA, fun H9 zn g9 hzn => ?_⟩
      have gB := gA.trans g9
      have lnn : (openedOf (numbersOf ws ps (intsOf o)) op).length = ps.length := by
        rw [opened_len]
        unfold numbersOf
        rw [List.length_map]
      refine ⟨_, rfl, _, _, rfl, .inr (gB.tup hw0), _, rfl, _, rfl, ws.length, _, _, ps, _, by rw [lw]; rfl, wn, hu.gr gB, wa, hzn, lnn, fun H10 zt g10 hzt => ?_⟩
      have gC := gB.trans g10
      refine ⟨_, rfl, _, rfl, sz (n := 2) (by omega), fun s1 hs1 => ?_⟩
      have j1 := Gr.new (m := []) (o := .tup [.str "told", zn]) hs1
      have gD := gC.trans j1
      refine ⟨_, rfl, _, rfl, _, rfl, _, _, _, ws, _, _, rfl, ⟨hw.gr gD, wf, hff.gr gD, lf⟩, hzt.gr j1, netsTo_len _ _ _ _, fun H11 zb g11 hzb => ⟨sz (n := 2) (by omega), fun s2 hs2 => ⟨_, rfl, sz (n := 2) (by omega), fun s3 hs3 => ⟨sz (n := 3) (by omega), fun m hm => ?_⟩⟩⟩⟩
      have j2 := Gr.new (m := []) (o := .tup [.str "told", zb]) hs2
      have j3 := Gr.new (m := []) (o := .tup [.str "told", zt]) hs3
      have j4 := Gr.new (m := []) (o := .lst [.ref s1, .ref s2, .ref s3]) hm
      have jj := ((((g9.trans g10).trans j1).trans g11).trans j2).trans (j3.trans j4)
      refine ⟨F, m, [.ref t1, .ref t3], [.ref s1, .ref s2, .ref s3], rfl, rfl, jj.at hF8 (by simp), upd_same, sz (n := 5) (by omega), fun z hz => ?_⟩
      have j5 := Gr.new (m := []) (o := .lst [.ref t1, .ref t3, .ref s1, .ref s2, .ref s3]) hz
      have jf := jj.trans j5
      have a1 := (j4.trans j5)
      have a2 := j3.trans a1
      have a3 := j2.trans a2
      have a4 := g11.trans a3
      have a5 := j1.trans a4
      exact q _ z [.ref t1, .ref t3, .ref s1, .ref s2, .ref s3] (gA.trans jf) upd_same ⟨_, _, _, _, _, rfl, (fun z => absurd z (by rw [hf]; decide)), fun _ => ⟨tld1'.gr jf fun x z => z.gr jf, tld2.gr jf fun x z => z.gr jf, (fun z => nomatch z), fun op' e => by
        cases e
        exact ⟨⟨s1, zn, rfl, a4.tup (sqT upd_same), (hzn.gr g10).gr a5⟩, ⟨s2, zb, rfl, a2.tup (sqT upd_same), hzb.gr a3⟩, ⟨s3, zt, rfl, a1.tup (sqT upd_same), hzt.gr a5⟩⟩⟩⟩
end K11
/-! part K11S2 -/
namespace K11
open PySem PySem.Spec PyProof.Rows L2 LamX
variable {w : World} {K : PySem.W.Frag} {mg : Str → Option Value} {base : Heap}
abbrev s__law_all_told : Stmt := top 88
abbrev N__law_all_told : List Str := ["_law_web", "_law_filling_here", "_law_opening_here", "_law_found"]
theorem sc__law_all_told : FnScope N__law_all_told ["_law_web", "_law_filling_here", "_law_opening_here"] (defScope s__law_all_told) := ⟨rfl, rfl, rfl, by decide +kernel, rfl, by decide +kernel, by decide +kernel⟩
abbrev TT (K : PySem.W.Frag) : (XK → Hp → VK → Prop) → Hp → VK → Prop := TTl K (He.ga K "TidesError") (He.ga K "NoFilling") (He.ga K "NoOpening") (He.ga K "NoSorts")
abbrev tL2 (K : PySem.W.Frag) (sp : Sp) : TE := tLam (tabs K) (TT K) fun E => tCall sp [] E (tCons (tVar 0) (tCons (tVar 1) tNil))
abbrev tL3 (K : PySem.W.Frag) (sp : Sp) : TE := tLam (tabs K) (TT K) fun E => tCall sp [] E (tCons (tVar 0) (tCons (tVar 1) (tCons (tVar 2) tNil)))
def t__law_all_told (K : PySem.W.Frag) : TS :=
  (tSeq (tAsg (tLst (tCons (tL2 K (sp_levels K)) tNil)) (gName 3))
    (tSeq (tDrop (tBM K "list" rAppend (tVar 3) (tCons (tL2 K (sp_drops K)) tNil)))
    (tSeq (tDrop (tBM K "list" rAppend (tVar 3) (tCons (tL3 K (sp_flows K)) tNil)))
    (tSeq (tDrop (tBM K "list" rAppend (tVar 3) (tCons (tL3 K (sp_tick K)) tNil)))
    (tSeq (tDrop (tBM K "list" rAppend (tVar 3) (tCons (tL3 K (sp_nets K)) tNil)))
    (tRet (tVar 3)))))))
abbrev cAT (K : PySem.W.Frag) : Addr × Addr := He.cT K ("_law_all_told", none)
theorem ok__law_all_told (T : Txt K mg) (TB : TabB base mg (cAT K).1 (cAT K).2)
    (G_levels : FnOk PP w K mg base (L2.CX PP w) 6 (He.ga K "levels") (fdOf K ("levels", none)) ["web", "filling"] (sp_levels K))
    (G_drops : FnOk PP w K mg base (L2.CX PP w) 6 (He.ga K "drops") (fdOf K ("drops", none)) ["web", "filling"] (sp_drops K))
    (G_flows : FnOk PP w K mg base (L2.CX PP w) 7 (He.ga K "flows") (fdOf K ("flows", none)) ["web", "filling", "opening"] (sp_flows K))
    (G_tick : FnOk PP w K mg base (L2.CX PP w) 7 (He.ga K "tick") (fdOf K ("tick", none)) ["web", "filling", "opening"] (sp_tick K))
    (G_nets : FnOk PP w K mg base (L2.CX PP w) 7 (He.ga K "nets") (fdOf K ("nets", none)) ["web", "filling", "opening"] (sp_nets K))
    (hp : PureOk (sp__law_all_told K) ["_law_web", "_law_filling_here", "_law_opening_here"] N__law_all_told fun E => t__law_all_told K) :
    FnOk PP w K mg base CX0 10 (He.ga K "_law_all_told") (fdOf K ("_law_all_told", none)) ["_law_web", "_law_filling_here", "_law_opening_here"] (sp__law_all_told K) := by
  obtain ⟨oc, od, dV, kV, doc, pm, an, cdv, ct, osl, efd, lk, hcd, _, _⟩ := T.F__law_all_told.ex
  rw [efd] at lk ⊢
  obtain ⟨c, rfl⟩ := He.codeIn_ref hcd
  have ec : He.codeOf K ("_law_all_told", none) = c := He.codeOf_eq (p := ("_law_all_told", none)) lk rfl
  obtain ⟨oc2, od2, dV2, kV2, doc2, pm2, an2, cdv2, ct2, osl2, efd2, lk2, hcd2, _, _⟩ := T.F__law_told.ex
  have hb2 := bnd__law_told T
  rw [efd2] at lk2 hb2
  refine fn_of lk hcd sc__law_all_told hp.1 (fun A outer s H vs Q E hr h => ⟨t__law_all_told K, PSs.nox ?_, hp.2 vs H Q E h⟩)
  have TB' : TabB base mg c (cAT K).2 := by
    have e : (cAT K).1 = c := ec
    rw [← e]
    exact TB
  exact (pss_cons (ps_set (i := 3) sc__law_all_told.nd rfl (by first | exact Or.inl rfl | exact Or.inr rfl) (pe_lst (pa_cons (pe_lamcall (k := 7) (t := fun E => tCall (sp_levels K) [] E (tCons (tVar 0) (tCons (tVar 1) tNil))) (by rfl) T.g__law_told T.F__law_told.kp lk2 hcd2 hb2 sc__law_told rfl (Or.inl rfl) (told_it T.g_TidesError T.g_NoFilling T.g_NoOpening T.g_NoSorts T.b_isinstance) TB' rfl (List.mem_singleton.mpr rfl) (fun p hp _ => by rw [List.mem_singleton.mp hp] <;> rfl) hr (lamS_by (sc := defScope s__law_all_told) (by decide +kernel)) rfl (fun _ _ _ _ _ => rfl)
      (fun A outer s H E f c' hr2 => pe_call G_levels (hr2.mono (by decide)) rfl T.g_levels T.F_levels.kp (bnd_levels T) .nil (passes_call (takes_of rfl rfl rfl rfl) (fun _ _ _ _ h => h)) (pa_cons (pv 0) (pa_cons (pv 1) pa_nil)))) pa_nil)))
    (pss_cons (ps_expr (pe_bm PySem.F.plainAttrs_list PySem.F.slot_list_append PySem.F.type_list_append mt_append (pv 3) (pa_cons (pe_lamcall (k := 7) (t := fun E => tCall (sp_drops K) [] E (tCons (tVar 0) (tCons (tVar 1) tNil))) (by rfl) T.g__law_told T.F__law_told.kp lk2 hcd2 hb2 sc__law_told rfl (Or.inl rfl) (told_it T.g_TidesError T.g_NoFilling T.g_NoOpening T.g_NoSorts T.b_isinstance) TB' rfl (List.mem_singleton.mpr rfl) (fun p hp _ => by rw [List.mem_singleton.mp hp] <;> rfl) hr (lamS_by (sc := defScope s__law_all_told) (by decide +kernel)) rfl (fun _ _ _ _ _ => rfl)
      (fun A outer s H E f c' hr2 => pe_call G_drops (hr2.mono (by decide)) rfl T.g_drops T.F_drops.kp (bnd_drops T) .nil (passes_call (takes_of rfl rfl rfl rfl) (fun _ _ _ _ h => h)) (pa_cons (pv 0) (pa_cons (pv 1) pa_nil)))) pa_nil)))
    (pss_cons (ps_expr (pe_bm PySem.F.plainAttrs_list PySem.F.slot_list_append PySem.F.type_list_append mt_append (pv 3) (pa_cons (pe_lamcall (k := 7) (t := fun E => tCall (sp_flows K) [] E (tCons (tVar 0) (tCons (tVar 1) (tCons (tVar 2) tNil)))) (by rfl) T.g__law_told T.F__law_told.kp lk2 hcd2 hb2 sc__law_told rfl (Or.inl rfl) (told_it T.g_TidesError T.g_NoFilling T.g_NoOpening T.g_NoSorts T.b_isinstance) TB' rfl (List.mem_singleton.mpr rfl) (fun p hp _ => by rw [List.mem_singleton.mp hp] <;> rfl) hr (lamS_by (sc := defScope s__law_all_told) (by decide +kernel)) rfl (fun _ _ _ _ _ => rfl)
      (fun A outer s H E f c' hr2 => pe_call G_flows (hr2.mono (by decide)) rfl T.g_flows T.F_flows.kp (bnd_flows T) .nil (passes_call (takes_of rfl rfl rfl rfl) (fun _ _ _ _ h => h)) (pa_cons (pv 0) (pa_cons (pv 1) (pa_cons (pv 2) pa_nil))))) pa_nil)))
    (pss_cons (ps_expr (pe_bm PySem.F.plainAttrs_list PySem.F.slot_list_append PySem.F.type_list_append mt_append (pv 3) (pa_cons (pe_lamcall (k := 7) (t := fun E => tCall (sp_tick K) [] E (tCons (tVar 0) (tCons (tVar 1) (tCons (tVar 2) tNil)))) (by rfl) T.g__law_told T.F__law_told.kp lk2 hcd2 hb2 sc__law_told rfl (Or.inl rfl) (told_it T.g_TidesError T.g_NoFilling T.g_NoOpening T.g_NoSorts T.b_isinstance) TB' rfl (List.mem_singleton.mpr rfl) (fun p hp _ => by rw [List.mem_singleton.mp hp] <;> rfl) hr (lamS_by (sc := defScope s__law_all_told) (by decide +kernel)) rfl (fun _ _ _ _ _ => rfl)
      (fun A outer s H E f c' hr2 => pe_call G_tick (hr2.mono (by decide)) rfl T.g_tick T.F_tick.kp (bnd_tick T) .nil (passes_call (takes_of rfl rfl rfl rfl) (fun _ _ _ _ h => h)) (pa_cons (pv 0) (pa_cons (pv 1) (pa_cons (pv 2) pa_nil))))) pa_nil)))
    (pss_cons (ps_expr (pe_bm PySem.F.plainAttrs_list PySem.F.slot_list_append PySem.F.type_list_append mt_append (pv 3) (pa_cons (pe_lamcall (k := 7) (t := fun E => tCall (sp_nets K) [] E (tCons (tVar 0) (tCons (tVar 1) (tCons (tVar 2) tNil)))) (by rfl) T.g__law_told T.F__law_told.kp lk2 hcd2 hb2 sc__law_told rfl (Or.inl rfl) (told_it T.g_TidesError T.g_NoFilling T.g_NoOpening T.g_NoSorts T.b_isinstance) TB' rfl (List.mem_singleton.mpr rfl) (fun p hp _ => by rw [List.mem_singleton.mp hp] <;> rfl) hr (lamS_by (sc := defScope s__law_all_told) (by decide +kernel)) rfl (fun _ _ _ _ _ => rfl)
      (fun A outer s H E f c' hr2 => pe_call G_nets (hr2.mono (by decide)) rfl T.g_nets T.F_nets.kp (bnd_nets T) .nil (passes_call (takes_of rfl rfl rfl rfl) (fun _ _ _ _ h => h)) (pa_cons (pv 0) (pa_cons (pv 1) (pa_cons (pv 2) pa_nil))))) pa_nil)))
    (pss_one (ps_ret (pv 3))))))))
end K11
/-! part K11S3 -/
namespace K11
open PySem PySem.Spec PyProof.Rows L2 LamX
variable {K : PySem.W.Frag} {mg : Str → Option Value}
/-! ### .. the tables apart -/
def GrW (m : List Addr) (H H' : Hp) : Prop := ∀ b o, H b = some o → (∀ ps, o ≠ .tbl ps) → H' b = some o ∨ (b ∈ m ∧ ∃ xs ys, o = .lst xs ∧ H' b = some (.lst ys))
section
variable {m : List Addr} {H H1 H2 : Hp} {a p : Addr} {o : HO} {xs : List V} {v : V}
theorem Gr.w (g : Gr m H H1) : GrW m H H1 := fun b o h _ => g b o h
theorem GrW.ext (g : ExtN H H1) : GrW m H H1 := fun b o h n => .inl (g b o h n)
theorem GrW.trans (x : GrW m H H1) (y : GrW m H1 H2) : GrW m H H2 := fun b o h n => by
  rcases x b o h n with z | ⟨z1, xs, ys, z2, z3⟩
  · exact y b o z n
  · rcases y b _ z3 (fun _ z => nomatch z) with w | ⟨w1, xs', ys', w2, w3⟩
    · exact .inr ⟨z1, xs, ys, z2, w⟩
    · exact .inr ⟨z1, xs, ys', z2, w3⟩
theorem GrW.weak {m' : List Addr} (x : GrW m H H1) (h : ∀ b ∈ m, b ∈ m') : GrW m' H H1 := fun b o e n => (x b o e n).imp id fun ⟨z, w⟩ => ⟨h b z, w⟩
theorem GrW.at (x : GrW m H H1) (h : H a = some o) (t : ∀ ps, o ≠ .tbl ps) (n : a ∉ m) : H1 a = some o := (x a o h t).elim id fun z => absurd z.1 n
theorem GrW.nl (x : GrW m H H1) (h : H a = some o) (t : ∀ ps, o ≠ .tbl ps) (n : ∀ xs, o ≠ .lst xs) : H1 a = some o := (x a o h t).elim id fun ⟨_, xs, _, z, _⟩ => absurd z (n xs)
theorem GrW.ext_of (x : GrW [a] H H1) (h : H a = none) : ExtN H H1 := fun b o e n => (x b o e n).elim id fun ⟨z, _⟩ => by
  rw [List.mem_singleton.mp z, h] at e
  cases e
theorem GrW.ext0 (x : GrW [] H H1) : ExtN H H1 := fun b o e n => (x b o e n).elim id fun ⟨z, _⟩ => by simp at z
theorem GrW.tk (x : GrW m H H1) : Tk H H1 := fun b xs => ⟨fun h => x.nl h (fun _ z => nomatch z) (fun _ z => nomatch z), fun o h => x.nl h (fun _ z => nomatch z) (fun _ z => nomatch z)⟩
theorem GrW.lst (x : GrW m H H1) (h : SqL K H a xs) (n : a ∉ m) : SqL K H1 a xs := h.imp (fun z => z.imp (fun w => x.at w (fun _ z => nomatch z) n) fun ⟨o, w⟩ => ⟨o, x.nl w (fun _ e => nomatch e) (fun _ e => nomatch e)⟩) id
theorem GrW.lstN {D : Addr} (x : GrW (D :: m) H H1) (h : SqL K H a xs) (n : a ∉ m) (hD : H D = none) : SqL K H1 a xs := by
  rcases h with (h | ⟨o, h⟩) | h
  · exact .inl (.inl (x.at h (fun _ z => nomatch z) (fun z => (List.mem_cons.mp z).elim (ne_of_none h hD) n)))
  · exact .inl (.inr ⟨o, x.nl h (fun _ z => nomatch z) (fun _ z => nomatch z)⟩)
  · exact .inr h
theorem GrW.fresh (x : GrW m H H1) (h : H1 a = none) (t : ∀ ps, H a ≠ some (.tbl ps)) : H a = none := by
  cases q : H a with
  | none => rfl
  | some o =>
    rcases x a o q (fun ps e => t ps (by rw [q, e])) with z | ⟨_, _, _, _, z⟩ <;> rw [h] at z <;> cases z
theorem GrW.tyOf {x : V} {t : Value} (g : GrW m H H1) (h : TyOf K H x t) : TyOf K H1 x t := by
  cases h with
  | non => exact .non
  | bl x => exact .bl x
  | int i => exact .int i
  | str x => exact .str x
  | flt x => exact .flt x
  | lst e =>
    rcases g _ _ e (fun _ z => nomatch z) with z | ⟨_, _, ys, _, z⟩
    · exact .lst z
    · exact .lst z
  | frz e => exact .frz (g.nl e (fun _ z => nomatch z) (fun _ z => nomatch z))
  | tup e => exact .tup (g.nl e (fun _ z => nomatch z) (fun _ z => nomatch z))
  | dK e => exact .dK (g.nl e (fun _ z => nomatch z) (fun _ z => nomatch z))
  | dT e => exact .dT (g.nl e (fun _ z => nomatch z) (fun _ z => nomatch z))
  | ins e cl ha hn htk hm => exact .ins (g.nl e (fun _ z => nomatch z) (fun _ z => nomatch z)) cl ha hn htk hm
theorem GrW.tyX {x : V} {t : Value} (g : GrW m H H1) (h : TyX K H x t) : TyX K H1 x t := by
  cases h with
  | base h => exact .base (g.tyOf h)
  | byt b => exact .byt b
  | set e => exact .set (g.nl e (fun _ z => nomatch z) (fun _ z => nomatch z))
  | kList e c => exact .kList e c
  | kTuple e c => exact .kTuple e c
  | kDict e c => exact .kDict e c
  | fTuple e => exact .fTuple (g.nl e (fun _ z => nomatch z) (fun _ z => nomatch z))
  | fDict e => exact .fDict (g.nl e (fun _ z => nomatch z) (fun _ z => nomatch z))
theorem Itm.w {o : Option Int} (h : Itm K H v o) (g : GrW m H H1) : Itm K H1 v o := h.imp id fun ⟨e, t, b1, b2, ty, z⟩ => ⟨e, t, b1, b2, g.tyX ty, z⟩
theorem Th.w {o : Option (List (Option Int))} (h : Th K H v o) (g : GrW m H H1) : Th K H1 v o :=
  h.imp (fun ⟨l, p, xs, e, e2, q, z⟩ => ⟨l, p, xs, e, e2, g.tk.tup q, L2.Paired.mapP z fun _ _ w => w.w g⟩) fun ⟨e, t, ty, z⟩ => ⟨e, t, g.tyX ty, z⟩
theorem Opn.w {many : Int} {r : Option (Option (List Int))} (h : Opn K H v many r) (g : GrW m H H1) : Opn K H1 v many r := h.imp id fun ⟨e, o, t, z⟩ => ⟨e, o, t.w g, z⟩
theorem Wb.w {g : Addr} {ws : List Int} {ps : List PipeD} (h : Wb K H v g ws ps) (x : GrW m H H1) (n : g ∉ m) : Wb K H1 v g ws ps :=
  let ⟨a, dx, fs, wv, pv, xs, e, h1, h2, h3, h4, h5, h6, h7, h8, h9⟩ := h
  ⟨a, dx, fs, wv, pv, xs, e, x.nl h1 (fun _ z => nomatch z) (fun _ z => nomatch z), h2, h3, h4, h5, h6.tk x.tk, h7.tk x.tk, x.lst h8 n, L2.Paired.mapP h9 fun _ _ z => z.tk x.tk⟩
theorem PreT.w {w : V} {g : Addr} {ws : List Int} {ps : List PipeD} {o : Option (List (Option Int))} (h : PreT K H w v g ws ps o) (x : GrW m H H1) (n : g ∉ m) : PreT K H1 w v g ws ps o := ⟨h.1.w x n, h.2.1, h.2.2.1, h.2.2.2.w x⟩
end
theorem Wb.wN {F : Addr} {H H1 : Hp} {v : V} {g : Addr} {ws : List Int} {ps : List PipeD} (h : Wb K H v g ws ps) (x : GrW [F] H H1) (n : H F = none) : Wb K H1 v g ws ps :=
  let ⟨a, dx, fs, wv, pv, xs, e, h1, h2, h3, h4, h5, h6, h7, h8, h9⟩ := h
  ⟨a, dx, fs, wv, pv, xs, e, x.nl h1 (fun _ z => nomatch z) (fun _ z => nomatch z), h2, h3, h4, h5, h6.tk x.tk, h7.tk x.tk, x.lstN h8 (by simp) n, L2.Paired.mapP h9 fun _ _ z => z.tk x.tk⟩
theorem PreT.wN {F : Addr} {H H1 : Hp} {w v : V} {g : Addr} {ws : List Int} {ps : List PipeD} {o : Option (List (Option Int))} (h : PreT K H w v g ws ps o) (x : GrW [F] H H1) (n : H F = none) : PreT K H1 w v g ws ps o := ⟨h.1.wN x n, h.2.1, h.2.2.1, h.2.2.2.w x⟩
/-! ### the error that _law_told caught -/
abbrev rfdT (l : Addr) : HO := .tup [.str "refused", .ref l, .int 0]
theorem ech_F (T : Txt K mg) {Q : VK} {H' : Hp} (h : ∀ l p : Addr, H' l = none → upd H' l (.lst [.bl true, .bl false, .bl false]) p = none → Q (.ref p) (upd (upd H' l (.lst [.bl true, .bl false, .bl false])) p (rfdT l))) :
    ∃ (D : Addr) (b1 b2 b3 : Bool), Value.ref (He.ga K "NoFilling") = .ref D ∧ (none : Option Addr) = none ∧ ExcC K D ∧ PySem.W.exmOne K (.ref (He.ga K "NoFilling")) (.ref (He.ga K "TidesError")) = some true ∧
      PySem.W.kitOne K (.ref D) (.ref (He.ga K "NoFilling")) = some b1 ∧ PySem.W.kitOne K (.ref D) (.ref (He.ga K "NoOpening")) = some b2 ∧ PySem.W.kitOne K (.ref D) (.ref (He.ga K "NoSorts")) = some b3 ∧
      ∀ l p : Addr, H' l = none → upd H' l (.lst [.bl b1, .bl b2, .bl b3]) p = none → Q (.ref p) (upd (upd H' l (.lst [.bl b1, .bl b2, .bl b3])) p (.tup [.str "refused", .ref l, .int 0])) :=
  ⟨_, true, false, false, rfl, rfl, T.xF, T.mF, T.kFF, T.kFO, T.kFS, h⟩
theorem ech_O (T : Txt K mg) {Q : VK} {H' : Hp} (h : ∀ l p : Addr, H' l = none → upd H' l (.lst [.bl false, .bl true, .bl false]) p = none → Q (.ref p) (upd (upd H' l (.lst [.bl false, .bl true, .bl false])) p (rfdT l))) :
    ∃ (D : Addr) (b1 b2 b3 : Bool), Value.ref (He.ga K "NoOpening") = .ref D ∧ (none : Option Addr) = none ∧ ExcC K D ∧ PySem.W.exmOne K (.ref (He.ga K "NoOpening")) (.ref (He.ga K "TidesError")) = some true ∧
      PySem.W.kitOne K (.ref D) (.ref (He.ga K "NoFilling")) = some b1 ∧ PySem.W.kitOne K (.ref D) (.ref (He.ga K "NoOpening")) = some b2 ∧ PySem.W.kitOne K (.ref D) (.ref (He.ga K "NoSorts")) = some b3 ∧
      ∀ l p : Addr, H' l = none → upd H' l (.lst [.bl b1, .bl b2, .bl b3]) p = none → Q (.ref p) (upd (upd H' l (.lst [.bl b1, .bl b2, .bl b3])) p (.tup [.str "refused", .ref l, .int 0])) :=
  ⟨_, false, true, false, rfl, rfl, T.xO, T.mO, T.kOF, T.kOO, T.kOS, h⟩
/-- refused; its list is none of those that stood at H0 -/
def RfN (H0 H : Hp) (x : V) (b1 b2 b3 : Bool) : Prop := ∃ p l, x = .ref p ∧ H p = some (.tup [.str "refused", .ref l, .int 0]) ∧ H l = some (.lst [.bl b1, .bl b2, .bl b3]) ∧ ∀ F xs, H0 F = some (.lst xs) → l ≠ F
theorem rfn_of {m : List Addr} {H0 H : Hp} {l p : Addr} {b1 b2 b3 : Bool} (g : GrW m H0 H) (hl : H l = none) (hp : upd H l (.lst [.bl b1, .bl b2, .bl b3]) p = none) : RfN H0 (upd (upd H l (.lst [.bl b1, .bl b2, .bl b3])) p (rfdT l)) (.ref p) b1 b2 b3 :=
  ⟨p, l, rfl, upd_same, by rw [upd_ne (ne_of_none upd_same hp), upd_same], fun F xs h z => by
    rcases g F _ h (fun _ z => nomatch z) with w | ⟨_, _, ys, _, w⟩ <;> rw [← z, hl] at w <;> cases w⟩
/-- told | refused, at H -/
def ResA (H0 H : Hp) (ok : Bool) (K : PySem.W.Frag) (x : V) (L : List (Int × Int)) : Prop := (ok = true → Told K H x fun y => Ts K H y L) ∧ (ok = false → RfN H0 H x true false false)
def ResB (H0 H : Hp) (ok : Bool) (r : Option (Option (List Int))) (K : PySem.W.Frag) (x : V) (L : Option (List Int) → List Int) : Prop :=
  (ok = false → RfN H0 H x true false false) ∧ (ok = true → (r = none → RfN H0 H x false true false) ∧ ∀ op, r = some op → Told K H x fun y => Ti K H y (L op))
theorem stepA (T : Txt K mg) {sp : Sp} {L : List (Int × Int)} {σ : L2.St} {H : Hp} {Q : VK} {w v : V} {g : Addr} {ws : List Int} {ps : List PipeD} {o : Option (List (Option Int))}
    (hsp : ∀ H Q E, PreT K H w v g ws ps o → (filOk ws o = true → ∀ H' z, Gr [] H H' → Ts K H' z L → Q z H') → (filOk ws o = false → ∀ H', Gr [] H H' → E (.ref (He.ga K "NoFilling")) none H') → sp [w, v] H Q E)
    (h0 : σ[0]? = some (some w)) (h1 : σ[1]? = some (some v)) (hT : Tabs (tabs K) H) (pre : PreT K H w v g ws ps o)
    (k : ∀ x H2, ExtN H H2 → Tabs (tabs K) H2 → ResA H H2 (filOk ws o) K x L → Q x H2) : tL2 K sp σ H Q := by
  refine ⟨hT, fun H1 e1 t1 => ⟨w, h0, v, h1, hsp H1 _ _ (pre.w (GrW.ext (m := []) e1) (by simp)) (fun hf H2 z g2 hz => ⟨by decide, fun p hp => ⟨_, rfl, ?_⟩⟩) (fun hf H2 g2 => ech_F T fun l p hl hp => ?_)⟩⟩
  · have gp := Gr.new (m := []) (o := .tup [.str "told", z]) hp
    have gg := g2.trans gp
    exact k _ _ (e1.trans (ExtN.of gg.all)) (t1.ext gg.all) ⟨fun _ => ⟨p, z, rfl, sqT upd_same, hz.gr gp⟩, fun z => by rw [hf] at z; cases z⟩
  · have gg := (g2.trans (Gr.new (m := []) (o := .lst [.bl true, .bl false, .bl false]) hl)).trans (Gr.new (m := []) (o := rfdT l) hp)
    exact k _ _ (e1.trans (ExtN.of gg.all)) (t1.ext gg.all) ⟨fun z => absurd z (by rw [hf]; decide), fun _ => rfn_of ((GrW.ext (m := []) e1).trans g2.w) hl hp⟩
theorem stepB (T : Txt K mg) {sp : Sp} {L : Option (List Int) → List Int} {σ : L2.St} {H : Hp} {Q : VK} {w v x : V} {g : Addr} {ws : List Int} {ps : List PipeD} {o : Option (List (Option Int))} {r : Option (Option (List Int))}
    (hsp : ∀ H Q E, PreT K H w v g ws ps o → Opn K H x ps.length r → RunE K ws o r H E (fun op => ∀ H' z, Gr [] H H' → Ti K H' z (L op) → Q z H') → sp [w, v, x] H Q E)
    (h0 : σ[0]? = some (some w)) (h1 : σ[1]? = some (some v)) (h2 : σ[2]? = some (some x)) (hT : Tabs (tabs K) H) (pre : PreT K H w v g ws ps o) (hx : Opn K H x ps.length r)
    (k : ∀ y H2, ExtN H H2 → Tabs (tabs K) H2 → ResB H H2 (filOk ws o) r K y L → Q y H2) : tL3 K sp σ H Q := by
  refine ⟨hT, fun H1 e1 t1 => ⟨w, h0, v, h1, x, h2, hsp H1 _ _ (pre.w (GrW.ext (m := []) e1) (by simp)) (hx.w (GrW.ext (m := []) e1)) ⟨fun hf H2 g2 => ech_F T fun l p hl hp => ?_, fun hf => ⟨fun hr H2 g2 => ech_O T fun l p hl hp => ?_, fun op hr H2 z g2 hz => ⟨by decide, fun p hp => ⟨_, rfl, ?_⟩⟩⟩⟩⟩⟩
  · have gg := (g2.trans (Gr.new (m := []) (o := .lst [.bl true, .bl false, .bl false]) hl)).trans (Gr.new (m := []) (o := rfdT l) hp)
    exact k _ _ (e1.trans (ExtN.of gg.all)) (t1.ext gg.all) ⟨fun _ => rfn_of ((GrW.ext (m := []) e1).trans g2.w) hl hp, fun z => absurd z (by rw [hf]; decide)⟩
  · have gg := (g2.trans (Gr.new (m := []) (o := .lst [.bl false, .bl true, .bl false]) hl)).trans (Gr.new (m := []) (o := rfdT l) hp)
    exact k _ _ (e1.trans (ExtN.of gg.all)) (t1.ext gg.all) ⟨fun z => absurd z (by rw [hf]; decide), fun _ => ⟨fun _ => rfn_of ((GrW.ext (m := []) e1).trans g2.w) hl hp, fun op e => by rw [hr] at e; cases e⟩⟩
  · have gp := Gr.new (m := []) (o := .tup [.str "told", z]) hp
    have gg := g2.trans gp
    exact k _ _ (e1.trans (ExtN.of gg.all)) (t1.ext gg.all) ⟨fun z => absurd z (by rw [hf]; decide), fun _ => ⟨fun e => absurd (hr.symm.trans e) (by simp), fun op' e => by
      rw [hr] at e
      cases e
      exact ⟨p, z, rfl, sqT upd_same, hz.gr gp⟩⟩⟩
/-- .. as it stands beside the list at F -/
def RfF (F : Addr) (H : Hp) (x : V) (b1 b2 b3 : Bool) : Prop := ∃ p l, x = .ref p ∧ H p = some (.tup [.str "refused", .ref l, .int 0]) ∧ H l = some (.lst [.bl b1, .bl b2, .bl b3]) ∧ l ≠ F
theorem RfF.w {F : Addr} {H H1 : Hp} {x : V} {b1 b2 b3 : Bool} (h : RfF F H x b1 b2 b3) (g : GrW [F] H H1) : RfF F H1 x b1 b2 b3 := let ⟨p, l, e, a, b, c⟩ := h; ⟨p, l, e, g.nl a (fun _ z => nomatch z) (fun _ z => nomatch z), g.at b (fun _ z => nomatch z) (by simpa using c), c⟩
theorem RfF.rfd {F : Addr} {H : Hp} {x : V} {b1 b2 b3 : Bool} (h : RfF F H x b1 b2 b3) : Refd K H x b1 b2 b3 := let ⟨p, l, e, a, b, _⟩ := h; ⟨p, l, e, sqT a, sqL b⟩
theorem Told.w {m : List Addr} {H H1 : Hp} {v : V} {R R' : V → Prop} (h : Told K H v R) (g : GrW m H H1) (r : ∀ x, R x → R' x) : Told K H1 v R' := let ⟨p, x, e, t, z⟩ := h; ⟨p, x, e, g.tk.tup t, r x z⟩
def RA (F : Addr) (H : Hp) (ok : Bool) (K : PySem.W.Frag) (x : V) (L : List (Int × Int)) : Prop := (ok = true → Told K H x fun y => Ts K H y L) ∧ (ok = false → RfF F H x true false false)
def RB (F : Addr) (H : Hp) (ok : Bool) (r : Option (Option (List Int))) (K : PySem.W.Frag) (x : V) (L : Option (List Int) → List Int) : Prop :=
  (ok = false → RfF F H x true false false) ∧ (ok = true → (r = none → RfF F H x false true false) ∧ ∀ op, r = some op → Told K H x fun y => Ti K H y (L op))
theorem RA.w {F : Addr} {H H1 : Hp} {ok : Bool} {x : V} {L : List (Int × Int)} (h : RA F H ok K x L) (g : GrW [F] H H1) : RA F H1 ok K x L := ⟨fun e => (h.1 e).w g fun _ z => z.tk g.tk, fun e => (h.2 e).w g⟩
theorem RB.w {F : Addr} {H H1 : Hp} {ok : Bool} {r : Option (Option (List Int))} {x : V} {L : Option (List Int) → List Int} (h : RB F H ok r K x L) (g : GrW [F] H H1) : RB F H1 ok r K x L :=
  ⟨fun e => (h.1 e).w g, fun e => ⟨fun z => ((h.2 e).1 z).w g, fun op z => ((h.2 e).2 op z).w g fun _ z => z.tk g.tk⟩⟩
theorem RfN.f {H0 H : Hp} {F : Addr} {xs : List V} {x : V} {b1 b2 b3 : Bool} (h : RfN H0 H x b1 b2 b3) (hF : H0 F = some (.lst xs)) : RfF F H x b1 b2 b3 := let ⟨p, l, e, a, b, c⟩ := h; ⟨p, l, e, a, b, c F xs hF⟩
theorem ResA.f {H0 H : Hp} {F : Addr} {xs : List V} {ok : Bool} {x : V} {L : List (Int × Int)} (h : ResA H0 H ok K x L) (hF : H0 F = some (.lst xs)) : RA F H ok K x L := ⟨h.1, fun e => (h.2 e).f hF⟩
theorem ResB.f {H0 H : Hp} {F : Addr} {xs : List V} {ok : Bool} {r : Option (Option (List Int))} {x : V} {L : Option (List Int) → List Int} (h : ResB H0 H ok r K x L) (hF : H0 F = some (.lst xs)) : RB F H ok r K x L := ⟨fun e => (h.1 e).f hF, fun e => ⟨fun z => ((h.2 e).1 z).f hF, (h.2 e).2⟩⟩
theorem RfN.new {H0 H : Hp} {F : Addr} {o : HO} {x : V} {b1 b2 b3 : Bool} (h : RfN H0 H x b1 b2 b3) (hF : H F = none) : RfF F (upd H F o) x b1 b2 b3 := let ⟨p, l, e, a, b, c⟩ := h; ⟨p, l, e, by rw [upd_ne (ne_of_none a hF)]; exact a, by rw [upd_ne (ne_of_none b hF)]; exact b, ne_of_none b hF⟩
theorem ResA.new {H0 H : Hp} {F : Addr} {o : HO} {ok : Bool} {x : V} {L : List (Int × Int)} (h : ResA H0 H ok K x L) (hF : H F = none) : RA F (upd H F o) ok K x L :=
  ⟨fun e => (h.1 e).gr (Gr.new (m := []) hF) fun _ z => z.gr (Gr.new (m := []) hF), fun e => (h.2 e).new hF⟩
theorem Tabs.w {H : Hp} {F : Addr} {ys : List V} {xs : List V} (t : Tabs (tabs K) H) (hF : H F = some (.lst xs)) : Tabs (tabs K) (upd H F (.lst ys)) := fun p hp => by
  obtain ⟨ps, h1, h2, h3⟩ := t p hp
  have n : p.1 ≠ F := fun z => by
    rw [z, hF] at h1
    cases h1
  refine ⟨ps, by rw [upd_ne n]; exact h1, h2, fun pos cv hc => ?_⟩
  obtain ⟨c, e1, e2⟩ := h3 pos cv hc
  refine ⟨c, e1, ?_⟩
  have nc : c ≠ F := fun z => by
    rw [z, hF] at e2
    unfold CodeO at e2
    cases e2
  rw [upd_ne nc]
  exact e2
theorem pu__law_all_told (T : Txt K mg) : PureOk (sp__law_all_told K) ["_law_web", "_law_filling_here", "_law_opening_here"] N__law_all_told fun E => t__law_all_told K := by
  refine ⟨by rintro _ _ _ _ ⟨_, _, _, _, _, _, _, _, rfl, _⟩; rfl, ?_⟩
  rintro _ H Q E ⟨w, v, x, g, ws, ps, o, r, rfl, hT, pre, hx, q⟩
  unfold t__law_all_told
  refine stepA T (L := levelsOf ws (intsOf o)) (fun H Q E p a b => ⟨w, v, g, ws, ps, o, rfl, p, a, b⟩) rfl rfl hT pre fun x1 H1 e1 t1 r1 => ⟨sz (n := 1) (by omega), fun F hF => ?_⟩
  have gF := Gr.new (m := []) (o := .lst [x1]) hF
  have eF : upd H1 F (.lst [x1]) F = some (.lst [x1]) := upd_same
  have t2 := t1.ext gF.all
  have a1 := r1.new (o := .lst [x1]) hF
  have p1 := pre.w (GrW.ext (m := []) e1) (by simp)
  have q1 := hx.w (GrW.ext (m := []) e1)
  have G2 : GrW [F] H1 (upd H1 F (.lst [x1])) := gF.w.weak (by simp)
  generalize upd H1 F (.lst [x1]) = H2 at *
  refine ⟨_, rfl, .inl ⟨rfl, _, sqL eF⟩, stepA T (L := dropsP ws ps (intsOf o)) (fun H Q E p a b => ⟨w, v, g, ws, ps, o, rfl, p, a, b⟩) rfl rfl t2 (p1.wN G2 hF) fun x2 H3 e3 t3 r2 => ?_⟩
  have eF3 := e3 F _ eF (fun _ z => nomatch z)
  have s3 : GrW [F] H3 (upd H3 F (.lst [x1, x2])) := (Gr.set (m := [F]) eF3 (by simp)).w
  have w3 : GrW [F] H2 (upd H3 F (.lst [x1, x2])) := (GrW.ext e3).trans s3
  have b1 := a1.w w3
  have b2 := (r2.f eF).w s3
  have t4 := Tabs.w (ys := [x1, x2]) t3 eF3
  have G4 := G2.trans w3
  have eF4 : upd H3 F (.lst [x1, x2]) F = some (.lst [x1, x2]) := upd_same
  refine ⟨F, [x1], x2, rfl, rfl, eF3, (show 1 < sizeLine by decide), ?_⟩
  show tSeq _ _ _ _ (upd H3 F (.lst [x1, x2]))
  generalize upd H3 F (.lst [x1, x2]) = H4 at *
  refine ⟨_, rfl, .inl ⟨rfl, _, sqL eF4⟩, stepB T (L := fun op => openedOf (runsOf ws ps (intsOf o)) op) (fun H Q E p y a => ⟨w, v, x, g, ws, ps, o, r, rfl, p, y, a⟩) rfl rfl rfl t4 (p1.wN G4 hF) (q1.w G4) fun x3 H5 e5 t5 r3 => ?_⟩
  have eF5 := e5 F _ eF4 (fun _ z => nomatch z)
  have s5 : GrW [F] H5 (upd H5 F (.lst [x1, x2, x3])) := (Gr.set (m := [F]) eF5 (by simp)).w
  have w5 : GrW [F] H4 (upd H5 F (.lst [x1, x2, x3])) := (GrW.ext e5).trans s5
  have c1 := b1.w w5
  have c2 := b2.w w5
  have c3 := (r3.f eF4).w s5
  have t6 := Tabs.w (ys := [x1, x2, x3]) t5 eF5
  have G6 := G4.trans w5
  have eF6 : upd H5 F (.lst [x1, x2, x3]) F = some (.lst [x1, x2, x3]) := upd_same
  refine ⟨F, [x1, x2], x3, rfl, rfl, eF5, (show 2 < sizeLine by decide), ?_⟩
  show tSeq _ _ _ _ (upd H5 F (.lst [x1, x2, x3]))
  generalize upd H5 F (.lst [x1, x2, x3]) = H6 at *
  refine ⟨_, rfl, .inl ⟨rfl, _, sqL eF6⟩, stepB T (L := fun op => movedOf ws (intsOf o) (netsOf ws.length ps (openedOf (runsOf ws ps (intsOf o)) op))) (fun H Q E p y a => ⟨w, v, x, g, ws, ps, o, r, rfl, p, y, a⟩) rfl rfl rfl t6 (p1.wN G6 hF) (q1.w G6) fun x4 H7 e7 t7 r4 => ?_⟩
  have eF7 := e7 F _ eF6 (fun _ z => nomatch z)
  have s7 : GrW [F] H7 (upd H7 F (.lst [x1, x2, x3, x4])) := (Gr.set (m := [F]) eF7 (by simp)).w
  have w7 : GrW [F] H6 (upd H7 F (.lst [x1, x2, x3, x4])) := (GrW.ext e7).trans s7
  have d1 := c1.w w7
  have d2 := c2.w w7
  have d3 := c3.w w7
  have d4 := (r4.f eF6).w s7
  have t8 := Tabs.w (ys := [x1, x2, x3, x4]) t7 eF7
  have G8 := G6.trans w7
  have eF8 : upd H7 F (.lst [x1, x2, x3, x4]) F = some (.lst [x1, x2, x3, x4]) := upd_same
  refine ⟨F, [x1, x2, x3], x4, rfl, rfl, eF7, (show 3 < sizeLine by decide), ?_⟩
  show tSeq _ _ _ _ (upd H7 F (.lst [x1, x2, x3, x4]))
  generalize upd H7 F (.lst [x1, x2, x3, x4]) = H8 at *
  refine ⟨_, rfl, .inl ⟨rfl, _, sqL eF8⟩, stepB T (L := fun op => netsOf ws.length ps (openedOf (runsOf ws ps (intsOf o)) op)) (fun H Q E p y a => ⟨w, v, x, g, ws, ps, o, r, rfl, p, y, a⟩) rfl rfl rfl t8 (p1.wN G8 hF) (q1.w G8) fun x5 H9 e9 t9 r5 => ?_⟩
  have eF9 := e9 F _ eF8 (fun _ z => nomatch z)
  have s9 : GrW [F] H9 (upd H9 F (.lst [x1, x2, x3, x4, x5])) := (Gr.set (m := [F]) eF9 (by simp)).w
  have w9 : GrW [F] H8 (upd H9 F (.lst [x1, x2, x3, x4, x5])) := (GrW.ext e9).trans s9
  have f1 := d1.w w9
  have f2 := d2.w w9
  have f3 := d3.w w9
  have f4 := d4.w w9
  have f5 := (r5.f eF8).w s9
  have t10 := Tabs.w (ys := [x1, x2, x3, x4, x5]) t9 eF9
  have G10 := G8.trans w9
  refine ⟨F, [x1, x2, x3, x4], x5, rfl, rfl, eF9, (show 4 < sizeLine by decide), _, rfl, ?_⟩
  refine q _ F [x1, x2, x3, x4, x5] (e1.trans (G10.ext_of hF)) t10 upd_same ⟨_, _, _, _, _, rfl, fun hf => ⟨(f1.2 hf).rfd, (f2.2 hf).rfd, (f3.1 hf).rfd, (f4.1 hf).rfd, (f5.1 hf).rfd⟩, fun hf => ⟨f1.1 hf, f2.1 hf, fun hr => ⟨((f3.2 hf).1 hr).rfd, ((f4.2 hf).1 hr).rfd, ((f5.2 hf).1 hr).rfd⟩, fun op hr => ⟨(f3.2 hf).2 op hr, (f4.2 hf).2 op hr, (f5.2 hf).2 op hr⟩⟩⟩
end K11
/-! part K11T1 -/
namespace K11
open PySem PySem.Spec PyProof.Rows L2
/-! ### the two ways agree -/
theorem mk_spec {t b : Int} (hb : 0 < b) : ∃ g : Int, 0 < g ∧ t = g * (mk t b).1 ∧ b = g * (mk t b).2 ∧ 0 < (mk t b).2 ∧ Int.gcd (mk t b).1 (mk t b).2 = 1 := by
  have g1 := gcd_pos (a := t) hb
  have d1 : (Int.gcd t b : Int) ∣ t := Int.gcd_dvd_left ..
  have d2 : (Int.gcd t b : Int) ∣ b := Int.gcd_dvd_right ..
  exact ⟨(Int.gcd t b : Int), g1, (Int.mul_ediv_cancel' d1).symm, (Int.mul_ediv_cancel' d2).symm, (mk_b hb).1, Int.gcd_ediv_gcd_ediv_gcd (by omega)⟩
theorem coprime_dvd {a b c : Int} (h : Int.gcd a b = 1) (hd : b ∣ a * c) : b ∣ c := by
  rw [← Int.natAbs_dvd_natAbs] at hd ⊢
  rw [Int.natAbs_mul] at hd
  have hc : Nat.Coprime b.natAbs a.natAbs := by
    show Nat.gcd b.natAbs a.natAbs = 1
    rw [Nat.gcd_comm]
    exact h
  exact hc.dvd_of_dvd_mul_left hd
theorem mk_eq {t b t' b' : Int} (hb : 0 < b) (hb' : 0 < b') (h : t * b' = t' * b) : mk t b = mk t' b' := by
  obtain ⟨g, g0, e1, e2, p, c⟩ := mk_spec (t := t) hb
  obtain ⟨g', g0', e1', e2', p', c'⟩ := mk_spec (t := t') hb'
  generalize mk t b = f at *
  generalize mk t' b' = f' at *
  obtain ⟨x, y⟩ := f
  obtain ⟨x', y'⟩ := f'
  simp only at *
  have hx : x * y' = x' * y := by
    rw [e1, e2', e1', e2] at h
    have h2 : (g * g') * (x * y') = (g * g') * (x' * y) := by
      calc (g * g') * (x * y') = g * x * (g' * y') := by ac_rfl
        _ = g' * x' * (g * y) := h
        _ = (g * g') * (x' * y) := by ac_rfl
    exact Int.eq_of_mul_eq_mul_left (Int.ne_of_gt (Int.mul_pos g0 g0')) h2
  have d1 : y ∣ y' := coprime_dvd c ⟨x', by rw [hx, Int.mul_comm]⟩
  have d2 : y' ∣ y := coprime_dvd c' ⟨x, by rw [← hx, Int.mul_comm]⟩
  have ey : y = y' := Int.dvd_antisymm (by omega) (by omega) d1 d2
  subst ey
  have ex : x = x' := by
    have h3 : y * x = y * x' := by rw [Int.mul_comm y, Int.mul_comm y, hx]
    exact Int.eq_of_mul_eq_mul_left (by omega) h3
  rw [ex]
theorem mk_cross {t b : Int} (hb : 0 < b) : (mk t b).1 * b = t * (mk t b).2 := by
  obtain ⟨g, g0, e1, e2, p, c⟩ := mk_spec (t := t) hb
  generalize mk t b = f at *
  calc f.1 * b = f.1 * (g * f.2) := by rw [← e2]
    _ = (g * f.1) * f.2 := by ac_rfl
    _ = t * f.2 := by rw [← e1]
theorem max3_1 {w : Int} (h : 1 ≤ w) : max3 w 0 1 = w := by
  unfold max3
  split <;> split at * <;> omega
theorem max3_2 {w : Int} (h : 1 ≤ w) : max3 0 w 1 = w := by
  unfold max3
  split <;> split at * <;> omega
theorem pg_left {w o : Int} (h1 : 0 < w) (h2 : 0 ≤ o) : w ∣ pg w o := by
  by_cases ho : o = 0
  · subst ho
    have e : pg w 0 = max3 w 0 1 := by simp [pg]
    rw [e, max3_1 (by omega)]
    exact Int.dvd_refl _
  · have e : pg w o = w / (Int.gcd w o : Int) * o := by
      unfold pg
      rw [if_neg (by omega)]
    rw [e]
    have d1 : (Int.gcd w o : Int) ∣ w := Int.gcd_dvd_left ..
    have d2 : (Int.gcd w o : Int) ∣ o := Int.gcd_dvd_right ..
    refine ⟨o / (Int.gcd w o : Int), ?_⟩
    have k1 := Int.ediv_mul_cancel d1
    have k2 := Int.mul_ediv_cancel' d2
    calc w / (Int.gcd w o : Int) * o = w / (Int.gcd w o : Int) * ((Int.gcd w o : Int) * (o / (Int.gcd w o : Int))) := by rw [k2]
      _ = w / (Int.gcd w o : Int) * (Int.gcd w o : Int) * (o / (Int.gcd w o : Int)) := (Int.mul_assoc _ _ _).symm
      _ = w * (o / (Int.gcd w o : Int)) := by rw [k1]
theorem pg_right {w o : Int} (h1 : 0 ≤ w) (h2 : 0 < o) : o ∣ pg w o := by
  by_cases hw : w = 0
  · subst hw
    have e : pg 0 o = max3 0 o 1 := by simp [pg]
    rw [e, max3_2 (by omega)]
    exact Int.dvd_refl _
  · have e : pg w o = w / (Int.gcd w o : Int) * o := by
      unfold pg
      rw [if_neg (by omega)]
    rw [e]
    exact Int.dvd_mul_left _ _
/-- x / w as a fraction over G -/
theorem lvl_here {w x G : Int} (h1 : 0 ≤ w) (hd : 0 < w → w ∣ G) : x * (if w = 0 then 0 else G / w) * (lvl w x).2 = (lvl w x).1 * G := by
  by_cases h : w = 0
  · subst h
    simp [lvl]
  · rw [if_neg h]
    have hw : 0 < w := by omega
    have e : lvl w x = mk x w := by simp [lvl, h]
    rw [e]
    have c := mk_cross (t := x) hw
    have k := Int.mul_ediv_cancel' (hd hw)
    generalize mk x w = f at *
    calc x * (G / w) * f.2 = (x * f.2) * (G / w) := by ac_rfl
      _ = (f.1 * w) * (G / w) := by rw [c]
      _ = f.1 * (w * (G / w)) := Int.mul_assoc _ _ _
      _ = f.1 * G := by rw [k]
theorem drop_one {ws fl : List Int} {P : PipeD} (wf : WfW ws) : mk (dropN fl (gaugeOf ws P)) (gaugeOf ws P).grains = dropL ws fl P := by
  have a1 := wf.at P.one
  have a2 := wf.at P.other
  have gp := pg_pos a1.1 a1.2 a2.1 a2.2
  have b1 := lvl_b (x := fl.getD P.one 0) a1.1 a1.2
  have b2 := lvl_b (x := fl.getD P.other 0) a2.1 a2.2
  have k1 := lvl_here (x := fl.getD P.one 0) (G := pg (ws.getD P.one 0) (ws.getD P.other 0)) a1.1 (fun h => pg_left h a2.1)
  have k2 := lvl_here (x := fl.getD P.other 0) (G := pg (ws.getD P.one 0) (ws.getD P.other 0)) a2.1 (fun h => pg_right a1.1 h)
  have p1 : 0 < (lvl (ws.getD P.one 0) (fl.getD P.one 0)).2 * (lvl (ws.getD P.other 0) (fl.getD P.other 0)).2 := Int.mul_pos b1.1 b2.1
  unfold dropL addF
  refine mk_eq (show 0 < pg (ws.getD P.one 0) (ws.getD P.other 0) by omega) p1 ?_
  show (fl.getD P.one 0 * (if ws.getD P.one 0 = 0 then 0 else pg (ws.getD P.one 0) (ws.getD P.other 0) / ws.getD P.one 0) - fl.getD P.other 0 * (if ws.getD P.other 0 = 0 then 0 else pg (ws.getD P.one 0) (ws.getD P.other 0) / ws.getD P.other 0)) * ((lvl (ws.getD P.one 0) (fl.getD P.one 0)).2 * (lvl (ws.getD P.other 0) (fl.getD P.other 0)).2) =
    ((lvl (ws.getD P.one 0) (fl.getD P.one 0)).1 * (lvl (ws.getD P.other 0) (fl.getD P.other 0)).2 + -(lvl (ws.getD P.other 0) (fl.getD P.other 0)).1 * (lvl (ws.getD P.one 0) (fl.getD P.one 0)).2) * pg (ws.getD P.one 0) (ws.getD P.other 0)
  generalize fl.getD P.one 0 * (if ws.getD P.one 0 = 0 then 0 else pg (ws.getD P.one 0) (ws.getD P.other 0) / ws.getD P.one 0) = A at *
  generalize fl.getD P.other 0 * (if ws.getD P.other 0 = 0 then 0 else pg (ws.getD P.one 0) (ws.getD P.other 0) / ws.getD P.other 0) = B at *
  generalize lvl (ws.getD P.one 0) (fl.getD P.one 0) = f at *
  generalize lvl (ws.getD P.other 0) (fl.getD P.other 0) = g at *
  generalize pg (ws.getD P.one 0) (ws.getD P.other 0) = G at *
  have r1 : A * (f.2 * g.2) = f.1 * g.2 * G := by
    calc A * (f.2 * g.2) = A * f.2 * g.2 := (Int.mul_assoc _ _ _).symm
      _ = f.1 * G * g.2 := by rw [k1]
      _ = f.1 * g.2 * G := by ac_rfl
  have r2 : B * (f.2 * g.2) = g.1 * f.2 * G := by
    calc B * (f.2 * g.2) = B * g.2 * f.2 := by ac_rfl
      _ = g.1 * G * f.2 := by rw [k2]
      _ = g.1 * f.2 * G := by ac_rfl
  rw [Int.sub_mul, r1, r2, Int.add_mul, Int.neg_mul, Int.neg_mul, Int.sub_eq_add_neg]
theorem ceil_le {f : Int × Int} {k : Int} (h : 0 < f.2) : ceilF f ≤ k ↔ f.1 ≤ k * f.2 := by
  unfold ceilF
  constructor
  · intro z
    have z2 : -k ≤ -f.1 / f.2 := by omega
    have z3 := (Int.le_ediv_iff_mul_le h).mp z2
    rw [Int.neg_mul] at z3
    omega
  · intro z
    have z2 : -k * f.2 ≤ -f.1 := by
      rw [Int.neg_mul]
      omega
    have z3 := (Int.le_ediv_iff_mul_le h).mpr z2
    omega
theorem ceil_mk {t b k : Int} (hb : 0 < b) : ceilF (mk t b) ≤ k ↔ t ≤ k * b := by
  obtain ⟨g, g0, e1, e2, p, c⟩ := mk_spec (t := t) hb
  rw [ceil_le p]
  generalize mk t b = f at *
  have r : k * b = g * (k * f.2) := by
    rw [e2]
    ac_rfl
  rw [r, e1]
  exact (Int.mul_le_mul_left g0).symm
theorem absI_mul {g x : Int} (hg : 0 < g) : absI (g * x) = g * absI x := by
  unfold absI
  by_cases h : x < 0
  · have h2 : g * x < 0 := Int.mul_neg_of_pos_of_neg hg h
    rw [if_pos h, if_pos h2, Int.mul_neg]
  · have h2 : ¬ g * x < 0 := Int.not_lt.mpr (Int.mul_nonneg (by omega) (by omega))
    rw [if_neg h, if_neg h2]
theorem unit_le {s : Int × Int} {D G : Int} (hs : 0 < s.2) (hG : 0 < G) : decide (ceilF (mk (s.1 * G) s.2) ≤ absI D) = leD (mk D G) s := by
  unfold leD
  rw [Bool.eq_iff_iff, decide_eq_true_iff, decide_eq_true_iff, ceil_mk hs]
  obtain ⟨g, g0, e1, e2, p, c⟩ := mk_spec (t := D) hG
  generalize mk D G = d at *
  rw [e2, e1, absI_mul g0]
  have r1 : s.1 * (g * d.2) = g * (s.1 * d.2) := by ac_rfl
  have r2 : g * absI d.1 * s.2 = g * (absI d.1 * s.2) := by ac_rfl
  rw [r1, r2]
  exact Int.mul_le_mul_left g0
theorem run_one {ws fl : List Int} {P : PipeD} (wf : WfW ws) (hs : ∀ s ∈ P.steps, WfS s) : runsAt (gaugeOf ws P).units (dropN fl (gaugeOf ws P)) = flowL P.steps (dropL ws fl P) := by
  have a1 := wf.at P.one
  have a2 := wf.at P.other
  have gp := pg_pos a1.1 a1.2 a2.1 a2.2
  have hG : 0 < (gaugeOf ws P).grains := by show 0 < pg _ _; omega
  rw [← drop_one wf]
  generalize dropN fl (gaugeOf ws P) = D
  have eu : (gaugeOf ws P).units = P.steps.map fun s => ceilF (mk (s.1 * (gaugeOf ws P).grains) s.2) := rfl
  have ec : (((gaugeOf ws P).units.filter fun u => decide (u ≤ absI D)).length : Int) = cntL P.steps (mk D (gaugeOf ws P).grains) := by
    rw [eu, List.filter_map, List.length_map]
    unfold cntL
    congr 2
    refine List.filter_congr fun s h => ?_
    exact unit_le (by have := (hs s h).b1; omega) hG
  unfold runsAt flowL
  rw [ec]
  obtain ⟨g, g0, e1, e2, p, c⟩ := mk_spec (t := D) hG
  generalize hd : mk D (gaugeOf ws P).grains = d at *
  by_cases h1 : 0 < D
  · rw [if_pos h1]
    have : ¬ d.1 < 0 := fun z => by
      have := Int.mul_neg_of_pos_of_neg g0 z
      omega
    rw [if_neg this]
  · rw [if_neg h1]
    by_cases h2 : D = 0
    · have h3 : d.1 = 0 := by
        rw [h2] at e1
        rcases Int.mul_eq_zero.mp e1.symm with z | z
        · omega
        · exact z
      rw [if_neg (by omega)]
      have h0 : cntL P.steps d = 0 := by
        unfold cntL
        have e : (P.steps.filter fun s => decide (s.1 * d.2 ≤ absI d.1 * s.2)) = [] := by
          rw [List.filter_eq_nil_iff]
          intro s hsm
          rw [decide_eq_true_iff, h3]
          have t1 := (hs s hsm).t1
          have := Int.mul_pos (show 0 < s.1 by omega) p
          show ¬ _ ≤ 0 * s.2
          rw [Int.zero_mul]
          omega
        rw [e]
        rfl
      rw [h0]
      rfl
    · have h3 : d.1 < 0 := by
        apply Int.not_le.mp
        intro z
        have := Int.mul_nonneg (show 0 ≤ g by omega) z
        omega
      rw [if_pos h3]
theorem drops_eq {ws fl : List Int} {ps : List PipeD} (wf : WfW ws) : dropsP ws ps fl = ps.map (dropL ws fl) := by
  unfold dropsP
  rw [List.map_map]
  exact List.map_congr_left fun P _ => drop_one wf
theorem runs_eq {ws fl : List Int} {ps : List PipeD} (wf : WfW ws) (wa : WfA ws.length ps) : runsOf ws ps fl = numbersOf ws ps fl := by
  unfold runsOf numbersOf
  rw [List.map_map]
  exact List.map_congr_left fun P hP => run_one wf (wa.p P hP).l.s
end K11
/-! part K11T2 -/
namespace K11
open PySem PySem.Spec PyProof.Rows L2
variable {K : PySem.W.Frag} {mg : Str → Option Value}
theorem tr_int {H : Hp} {n : Nat} {x y : V} {i : Int} (hx : IsI x i) (hy : IsI y i) : Tr K H n x y := by
  have h : ∃ i, x = .int i ∧ y = .int i := ⟨i, hx, hy⟩
  cases n with
  | zero => exact h
  | succ n => exact .inl h
theorem pair_two {R S : V → V → Prop} {α : Type} {A B : V → α → Prop} (k : ∀ x y a, A x a → B y a → R x y) : ∀ {xs ys : List V} {l : List α}, Paired A xs l → Paired B ys l → Paired R xs ys
  | _, _, _, .nil, .nil => .nil
  | _, _, _, .cons a t, .cons b u => .cons (k _ _ _ a b) (pair_two (S := S) k t u)
theorem tr_ti {H : Hp} {n : Nat} {x y : V} {l : List Int} (hx : Ti K H x l) (hy : Ti K H y l) (hl : l.length ≤ 1000) : Tr K H (n + 1) x y := by
  obtain ⟨p, xs, e, h, hp⟩ := hx
  obtain ⟨p', ys, e', h', hp'⟩ := hy
  exact .inr ⟨p, p', xs, ys, e, e', h, h', by rw [hp.length]; exact hl, pair_two (R := Tr K H n) (A := IsI) (B := IsI) (S := fun _ _ => True) (fun _ _ _ a b => tr_int a b) hp hp'⟩
theorem tr_fr {H : Hp} {n : Nat} {x y : V} {f : Int × Int} (hx : Fr K H x f) (hy : Fr K H y f) : Tr K H (n + 1) x y := by
  obtain ⟨p, e, h⟩ := hx
  obtain ⟨p', e', h'⟩ := hy
  exact .inr ⟨p, p', _, _, e, e', h, h', (by show 2 ≤ 1000; decide), .cons (tr_int rfl rfl) (.cons (tr_int rfl rfl) .nil)⟩
theorem tr_ts {H : Hp} {n : Nat} {x y : V} {l : List (Int × Int)} (hx : Ts K H x l) (hy : Ts K H y l) (hl : l.length ≤ 1000) : Tr K H (n + 2) x y := by
  obtain ⟨p, xs, e, h, hp⟩ := hx
  obtain ⟨p', ys, e', h', hp'⟩ := hy
  exact .inr ⟨p, p', xs, ys, e, e', h, h', by rw [hp.length]; exact hl, pair_two (R := Tr K H (n + 1)) (A := Fr K H) (B := Fr K H) (S := fun _ _ => True) (fun _ _ _ a b => tr_fr a b) hp hp'⟩
theorem alike_told {H : Hp} {x y : V} {R S : V → Prop} (hx : Told K H x R) (hy : Told K H y S) (k : ∀ a b, R a → S b → Tr K H 3 a b) : Alike K H x y := by
  obtain ⟨p, a, e, h, r⟩ := hx
  obtain ⟨p', b, e', h', s⟩ := hy
  exact .inl ⟨p, p', a, b, e, e', h, h', k a b r s⟩
theorem alike_refd {H : Hp} {x y : V} {b1 b2 b3 : Bool} (hx : Refd K H x b1 b2 b3) (hy : Refd K H y b1 b2 b3) : Alike K H x y := by
  obtain ⟨p, l, e, h, r⟩ := hx
  obtain ⟨p', l', e', h', r'⟩ := hy
  exact .inr ⟨p, p', l, l', b1, b2, b3, e, e', h, h', r, r'⟩
theorem moved_len {ws fl ns : List Int} : (movedOf ws fl ns).length = ws.length := by
  unfold movedOf
  rw [List.length_map, List.length_range]
theorem levels_len {ws fl : List Int} : (levelsOf ws fl).length = ws.length := by
  unfold levelsOf
  rw [List.length_map, List.length_range]
theorem all5 {P : V → V → Prop} {a b c d e a' b' c' d' e' : V} (h1 : P a a') (h2 : P b b') (h3 : P c c') (h4 : P d d') (h5 : P e e') (i : Nat) (x y : V) (hx : [a, b, c, d, e][i]? = some x) (hy : [a', b', c', d', e'][i]? = some y) : P x y := by
  match i, hx, hy with
  | 0, hx, hy => cases hx; cases hy; exact h1
  | 1, hx, hy => cases hx; cases hy; exact h2
  | 2, hx, hy => cases hx; cases hy; exact h3
  | 3, hx, hy => cases hx; cases hy; exact h4
  | 4, hx, hy => cases hx; cases hy; exact h5
  | n + 5, hx, hy => cases hx
theorem five_alike {H H2 : Hp} {ws : List Int} {ps : List PipeD} {o : Option (List (Option Int))} {r : Option (Option (List Int))} {xs ys : List V} (wf : WfW ws) (wa : WfA ws.length ps) (f : FiveP K H ws ps o r xs) (g : Gr [] H H2) (f2 : FiveL K H2 ws ps o r ys) :
    xs.length = 5 ∧ ys.length = 5 ∧ ∀ (i : Nat) (x y : V), xs[i]? = some x → ys[i]? = some y → Alike K H2 x y := by
  obtain ⟨a, b, c, d, e, rfl, f0, f1⟩ := f
  obtain ⟨a', b', c', d', e', rfl, k0, k1⟩ := f2
  have wn := wf.n2
  have wac := wa.c
  refine ⟨rfl, rfl, ?_⟩
  cases hf : filOk ws o with
  | false =>
    obtain ⟨x1, x2, x3, x4, x5⟩ := f0 hf
    obtain ⟨y1, y2, y3, y4, y5⟩ := k0 hf
    exact all5 (alike_refd (x1.gr g) y1) (alike_refd (x2.gr g) y2) (alike_refd (x3.gr g) y3) (alike_refd (x4.gr g) y4) (alike_refd (x5.gr g) y5)
  | true =>
    obtain ⟨x1, x2, x3, x4⟩ := f1 hf
    obtain ⟨y1, y2, y3, y4⟩ := k1 hf
    have z1 := alike_told (x1.gr g fun _ z => z.gr g) y1 fun a b p q => tr_ts (n := 1) p q (by rw [levels_len]; omega)
    rw [drops_eq wf] at x2
    have z2 := alike_told (x2.gr g fun _ z => z.gr g) y2 fun a b p q => tr_ts (n := 1) p q (by rw [List.length_map]; omega)
    cases r with
    | none =>
      obtain ⟨x5, x6, x7⟩ := x3 rfl
      obtain ⟨y5, y6, y7⟩ := y3 rfl
      exact all5 z1 z2 (alike_refd (x5.gr g) y5) (alike_refd (x6.gr g) y6) (alike_refd (x7.gr g) y7)
    | some op =>
      obtain ⟨x5, x6, x7⟩ := x4 op rfl
      obtain ⟨y5, y6, y7⟩ := y4 op rfl
      rw [runs_eq wf wa] at x5 x6 x7
      have ln : (openedOf (numbersOf ws ps (intsOf o)) op).length = ps.length := by
        rw [opened_len]
        unfold numbersOf
        rw [List.length_map]
      exact all5 z1 z2 (alike_told (x5.gr g fun _ z => z.gr g) y5 fun a b p q => tr_ti (n := 2) p q (by rw [ln]; omega)) (alike_told (x6.gr g fun _ z => z.gr g) y6 fun a b p q => tr_ti (n := 2) p q (by rw [moved_len]; omega))
        (alike_told (x7.gr g fun _ z => z.gr g) y7 fun a b p q => tr_ti (n := 2) p q (by unfold netsOf; rw [netsTo_len]; omega))
theorem ti_th {H : Hp} {v : V} {l : List Int} (h : Ti K H v l) : ∃ o, Th K H v o := by
  obtain ⟨p, xs, rfl, h, hp⟩ := h
  have e := isI_eq hp
  subst e
  exact th_tup h itm_ints
theorem opn_of {H : Hp} {v : V} {n : Int} (h : v = .non ∨ ∃ o, Th K H v o) : ∃ r, Opn K H v n r := by
  by_cases hv : v = .non
  · exact ⟨some none, .inl ⟨hv, rfl⟩⟩
  · rcases h with h | ⟨o, h⟩
    · exact absurd h hv
    · exact ⟨_, .inr ⟨hv, o, h, rfl⟩⟩
end K11
/-! part K11T3 -/
set_option maxHeartbeats 4000000
namespace K11
open PySem PySem.Spec PyProof.Rows L2
abbrev s_law : Stmt := top 90
abbrev N_law : List Str := ["_law_script", "_law_source_here", "_law_kind", "_law_both", "_law_vessels", "_law_widths_here", "_law_pipes_here", "_law_filling_here", "_law_opening_here", "_law_web", "_law_cases", "_law_case", "_law_found", "_law_due", "_law_k"]
theorem sc_law : FnScope N_law ["_law_script"] (defScope s_law) := ⟨rfl, rfl, rfl, by decide +kernel, rfl, by decide +kernel, by decide +kernel⟩
def t_law (K : PySem.W.Frag) : TS :=
  (tSeq (tAsg (tCall (sp__law_source K) [] E0 (tCons (tVar 0) tNil)) (gName 1))
    (tSeq (tAsg (tCall (sp__law_draw K) [] E0 (tCons (tVar 1) (tCons (tC (.int 24)) tNil))) (gName 2))
    (tSeq (tAsg (tOp rEq (tCall (sp__law_draw K) [] E0 (tCons (tVar 1) (tCons (tC (.int 3)) tNil))) (tC (.int 0))) (gName 3))
    (tSeq (tAsg (tOp qAdd (tC (.int 1)) (tCall (sp__law_draw K) [] E0 (tCons (tVar 1) (tCons (tC (.int 7)) tNil)))) (gName 4))
    (tSeq (tAsg (tCall (sp__law_widths K) [] E0 (tCons (tVar 1) (tCons (tVar 4) (tCons (tC (.bl true)) tNil)))) (gName 5))
    (tSeq (tAsg (tCall (sp__law_pipes K) [] E0 (tCons (tVar 1) (tCons (tVar 4) (tCons (tCall (sp__law_draw K) [] E0 (tCons (tVar 1) (tCons (tC (.int 10)) tNil))) (tCons (tC (.int 4)) (tCons (tC (.bl false)) tNil)))))) (gName 6))
    (tSeq (tAsg (tCall (sp__law_filling K) [] E0 (tCons (tVar 1) (tCons (tVar 5) (tCons (tC (.int 30)) (tCons (tC (.bl true)) tNil))))) (gName 7))
    (tSeq (tAsg (tCall (sp__law_opening K) [] E0 (tCons (tVar 1) (tCons (tCB (qLen K) (tCons (tVar 6) tNil)) tNil))) (gName 8))
    (tSeq (tAsg (tMake (He.ga K "Web") (sp_init K) [] E0 (tCons (tVar 5) (tCons (tVar 6) tNil))) (gName 9))
    (tSeq (tAsg (tLst (tCons (tTup (tCons (tVar 7) (tCons (tVar 8) tNil))) tNil)) (gName 10))
    (tSeq (tIfS (tTest (tOp qLt (tVar 2) (tC (.int 6)))) (tAsg (tCall (sp__law_bad_filling K) [] E0 (tCons (tVar 1) (tCons (tVar 2) (tCons (tVar 5) (tCons (tVar 7) tNil))))) (gName 7)) tNext)
    (tSeq (tIfS (tOr (tTest (tChain qLt qLt (tC (.int 5)) (tVar 2) (tC (.int 12)))) (tAnd (tTest (tOp qLt (tVar 2) (tC (.int 6)))) (tB (tVar 3)))) (tAsg (tCall (sp__law_bad_opening K) [] E0 (tCons (tVar 1) (tCons (tOp qMod (tCB qInt1 (tCons (tVar 2) tNil)) (tC (.int 6))) (tCons (tCB (qLen K) (tCons (tVar 6) tNil)) tNil)))) (gName 8)) tNext)
    (tSeq (tAsg (tOp rCat (tLst (tCons (tTup (tCons (tVar 7) (tCons (tVar 8) tNil))) tNil)) (tVar 10)) (gName 10))
    (tSeq (tFor (iList K (tVar 10)) (gName 11) (tSeq (tAsg (tCall (sp__law_all_told K) [] E0 (tCons (tVar 9) (tCons (tOp (rIxT K) (tVar 11) (tC (.int 0))) (tCons (tOp (rIxT K) (tVar 11) (tC (.int 1))) tNil)))) (gName 12))
    (tSeq (tAsg (tCall (sp__law_all_due K) [] E0 (tCons (tVar 5) (tCons (tVar 6) (tCons (tOp (rIxT K) (tVar 11) (tC (.int 0))) (tCons (tOp (rIxT K) (tVar 11) (tC (.int 1))) tNil))))) (gName 13))
    (tIfS (tTest (tOp qGt (tCB (qLen K) (tCons (tLc (iRng1 (tCons (tC (.int 5)) tNil)) (gName 14) (tNot (tB (tCall (sp__law_met K) [] E0 (tCons (tOp (rIxL K) (tVar 12) (tVar 14)) (tCons (tOp (rIxL K) (tVar 13) (tVar 14)) tNil))))) (tVar 14) [14]) tNil)) (tC (.int 0)))) (tRet (tC (.bl false))) tNext))))
    (tRet (tC (.bl true)))))))))))))))))
variable {w : World} {K : PySem.W.Frag} {mg : Str → Option Value} {base : Heap}
theorem ok_law (T : Txt K mg) (G__law_source : FnOk PP w K mg base CX0 1 (He.ga K "_law_source") (fdOf K ("_law_source", none)) ["_law_script"] (sp__law_source K)) (G__law_draw : FnOk PP w K mg base CX0 2 (He.ga K "_law_draw") (fdOf K ("_law_draw", none)) ["_law_source_here", "_law_many"] (sp__law_draw K)) (G__law_widths : FnOk PP w K mg base CX0 3 (He.ga K "_law_widths") (fdOf K ("_law_widths", none)) ["_law_source_here", "_law_many", "_law_seas"] (sp__law_widths K)) (G__law_pipes : FnOk PP w K mg base CX0 6 (He.ga K "_law_pipes") (fdOf K ("_law_pipes", none)) ["_law_source_here", "_law_vessels", "_law_many", "_law_most", "_law_wide"] (sp__law_pipes K)) (G__law_filling : FnOk PP w K mg base CX0 4 (He.ga K "_law_filling") (fdOf K ("_law_filling", none)) ["_law_source_here", "_law_widths_here", "_law_high", "_law_wide"] (sp__law_filling K)) (G__law_opening : FnOk PP w K mg base CX0 3 (He.ga K "_law_opening") (fdOf K ("_law_opening", none)) ["_law_source_here", "_law_many"] (sp__law_opening K)) (G_init : FnOk PP w K mg base CX0 6 (He.ma K (He.ga K "Web") "__init__") (fdOf K ("Web", some "__init__")) ["self", "widths", "pipes"] (sp_init K)) (G__law_bad_filling : FnOk PP w K mg base CX0 9 (He.ga K "_law_bad_filling") (fdOf K ("_law_bad_filling", none)) ["_law_source_here", "_law_kind", "_law_widths_here", "_law_filling_here"] (sp__law_bad_filling K)) (G__law_bad_opening : FnOk PP w K mg base CX0 9 (He.ga K "_law_bad_opening") (fdOf K ("_law_bad_opening", none)) ["_law_source_here", "_law_kind", "_law_many"] (sp__law_bad_opening K)) (G__law_all_told : FnOk PP w K mg base CX0 10 (He.ga K "_law_all_told") (fdOf K ("_law_all_told", none)) ["_law_web", "_law_filling_here", "_law_opening_here"] (sp__law_all_told K)) (G__law_all_due : FnOk PP w K mg base CX0 6 (He.ga K "_law_all_due") (fdOf K ("_law_all_due", none)) ["_law_widths_here", "_law_pipes_here", "_law_filling_here", "_law_opening_here"] (sp__law_all_due K)) (G__law_met : FnOk PP w K mg base CX0 9 (He.ga K "_law_met") (fdOf K ("_law_met", none)) ["_law_found", "_law_due"] (sp__law_met K)) (hp : PureOk (sp_law K) ["_law_script"] N_law fun E => t_law K) : FnOk PP w K mg base CX0 11 (He.ga K "law") (fdOf K ("law", none)) ["_law_script"] (sp_law K) := by
  refine (T.F_law).ok (CX := CX0) (k := 10) sc_law hp.1 (fun cdv A outer s H vs Q E hr h => ⟨t_law K, PSs.nox ?_, hp.2 vs H Q E h⟩)
  exact (pss_cons (ps_set (i := 1) sc_law.nd rfl (by first | exact Or.inl rfl | exact Or.inr rfl) (pe_call G__law_source (hr.mono (by decide)) rfl T.g__law_source T.F__law_source.kp (bnd__law_source T) .nil pass0 (pa_cons (pv 0) pa_nil)))
      (pss_cons (ps_set (i := 2) sc_law.nd rfl (by first | exact Or.inl rfl | exact Or.inr rfl) (pe_call G__law_draw (hr.mono (by decide)) rfl T.g__law_draw T.F__law_draw.kp (bnd__law_draw T) .nil pass0 (pa_cons (pv 1) (pa_cons pe_int pa_nil))))
      (pss_cons (ps_set (i := 3) sc_law.nd rfl (by first | exact Or.inl rfl | exact Or.inr rfl) (pe_cmpR op_eq (pe_call G__law_draw (hr.mono (by decide)) rfl T.g__law_draw T.F__law_draw.kp (bnd__law_draw T) .nil pass0 (pa_cons (pv 1) (pa_cons pe_int pa_nil))) pe_int (nomark _)))
      (pss_cons (ps_set (i := 4) sc_law.nd rfl (by first | exact Or.inl rfl | exact Or.inr rfl) (pe_op op_add pe_int (pe_call G__law_draw (hr.mono (by decide)) rfl T.g__law_draw T.F__law_draw.kp (bnd__law_draw T) .nil pass0 (pa_cons (pv 1) (pa_cons pe_int pa_nil)))))
      (pss_cons (ps_set (i := 5) sc_law.nd rfl (by first | exact Or.inl rfl | exact Or.inr rfl) (pe_call G__law_widths (hr.mono (by decide)) rfl T.g__law_widths T.F__law_widths.kp (bnd__law_widths T) .nil pass0 (pa_cons (pv 1) (pa_cons (pv 4) (pa_cons pe_bl pa_nil)))))
      (pss_cons (ps_set (i := 6) sc_law.nd rfl (by first | exact Or.inl rfl | exact Or.inr rfl) (pe_call G__law_pipes (hr.mono (by decide)) rfl T.g__law_pipes T.F__law_pipes.kp (bnd__law_pipes T) .nil pass0 (pa_cons (pv 1) (pa_cons (pv 4) (pa_cons (pe_call G__law_draw (hr.mono (by decide)) rfl T.g__law_draw T.F__law_draw.kp (bnd__law_draw T) .nil pass0 (pa_cons (pv 1) (pa_cons pe_int pa_nil))) (pa_cons pe_int (pa_cons pe_bl pa_nil)))))))
      (pss_cons (ps_set (i := 7) sc_law.nd rfl (by first | exact Or.inl rfl | exact Or.inr rfl) (pe_call G__law_filling (hr.mono (by decide)) rfl T.g__law_filling T.F__law_filling.kp (bnd__law_filling T) .nil pass0 (pa_cons (pv 1) (pa_cons (pv 5) (pa_cons pe_int (pa_cons pe_bl pa_nil))))))
      (pss_cons (ps_set (i := 8) sc_law.nd rfl (by first | exact Or.inl rfl | exact Or.inr rfl) (pe_call G__law_opening (hr.mono (by decide)) rfl T.g__law_opening T.F__law_opening.kp (bnd__law_opening T) .nil pass0 (pa_cons (pv 1) (pa_cons (pe_callB call_len_seq (by rfl) T.b_len (by decide +kernel) (pa_cons (pv 6) pa_nil)) pa_nil))))
      (pss_cons (ps_set (i := 9) sc_law.nd rfl (by first | exact Or.inl rfl | exact Or.inr rfl) (pe_make T.webMk G_init (hr.mono (by decide)) rfl T.g_Web (bnd_init T) .nil pass0 (pa_cons (pv 5) (pa_cons (pv 6) pa_nil))))
      (pss_cons (ps_set (i := 10) sc_law.nd rfl (by first | exact Or.inl rfl | exact Or.inr rfl) (pe_lst (pa_cons (pe_tup (pa_cons (pv 7) (pa_cons (pv 8) pa_nil))) pa_nil)))
      (pss_cons (ps_if (pt_cmpR op_lt (pv 2) pe_int (nomark _)) (pss_one (ps_set (i := 7) sc_law.nd rfl (by first | exact Or.inl rfl | exact Or.inr rfl) (pe_call G__law_bad_filling (hr.mono (by decide)) rfl T.g__law_bad_filling T.F__law_bad_filling.kp (bnd__law_bad_filling T) .nil pass0 (pa_cons (pv 1) (pa_cons (pv 2) (pa_cons (pv 5) (pa_cons (pv 7) pa_nil))))))) pss_nil)
      (pss_cons (ps_if (PW.pt (pw_or (pt_chain op_lt op_lt pe_int (pv 2) pe_int) (pw_or1 (PW.pt (pw_and (pt_cmpR op_lt (pv 2) pe_int (nomark _)) (pw_and1 (pt_val (pv 3)))))))) (pss_one (ps_set (i := 8) sc_law.nd rfl (by first | exact Or.inl rfl | exact Or.inr rfl) (pe_call G__law_bad_opening (hr.mono (by decide)) rfl T.g__law_bad_opening T.F__law_bad_opening.kp (bnd__law_bad_opening T) .nil pass0 (pa_cons (pv 1) (pa_cons (pe_op op_mod (pe_callTy call_int1 (by rfl) T.b_int (by decide +kernel) (pa_cons (pv 2) pa_nil)) pe_int) (pa_cons (pe_callB call_len_seq (by rfl) T.b_len (by decide +kernel) (pa_cons (pv 6) pa_nil)) pa_nil)))))) pss_nil)
      (pss_cons (ps_set (i := 10) sc_law.nd rfl (by first | exact Or.inl rfl | exact Or.inr rfl) (pe_op op_cat (pe_lst (pa_cons (pe_tup (pa_cons (pv 7) (pa_cons (pv 8) pa_nil))) pa_nil)) (pv 10)))
      (pss_cons (ps_for PassesOwn.never rfl (pi_list (pv 10)) (pg_name (i := 11) sc_law.nd rfl (by first | exact Or.inl rfl | exact Or.inr rfl)) (pss_cons (ps_set (i := 12) sc_law.nd rfl (by first | exact Or.inl rfl | exact Or.inr rfl) (pe_call G__law_all_told (hr.mono (by decide)) rfl T.g__law_all_told T.F__law_all_told.kp (bnd__law_all_told T) .nil pass0 (pa_cons (pv 9) (pa_cons (pe_ix ix_tup (pv 11) pe_int (fun _ _ => rfl)) (pa_cons (pe_ix ix_tup (pv 11) pe_int (fun _ _ => rfl)) pa_nil)))))
      (pss_cons (ps_set (i := 13) sc_law.nd rfl (by first | exact Or.inl rfl | exact Or.inr rfl) (pe_call G__law_all_due (hr.mono (by decide)) rfl T.g__law_all_due T.F__law_all_due.kp (bnd__law_all_due T) .nil pass0 (pa_cons (pv 5) (pa_cons (pv 6) (pa_cons (pe_ix ix_tup (pv 11) pe_int (fun _ _ => rfl)) (pa_cons (pe_ix ix_tup (pv 11) pe_int (fun _ _ => rfl)) pa_nil))))))
      (pss_one (ps_if (pt_cmpR op_gt (pe_callB call_len_seq (by rfl) T.b_len (by decide +kernel) (pa_cons (pe_lc (own := [("_law_k", 14)]) (g := (gName 14)) (tt := (tNot (tB (tCall (sp__law_met K) [] E0 (tCons (tOp (rIxL K) (tVar 12) (tVar 14)) (tCons (tOp (rIxL K) (tVar 13) (tVar 14)) tNil)))))) rfl sc_law.nd (pi_range1 (by rfl) T.b_range (pa_cons pe_int pa_nil)) (blkOk_by (own := [("_law_k", 14)]) (N := N_law) (sc := defScope s_law) (by decide +kernel)) (fun _ _ _ _ _ => (pg_name (i := 14) sc_law.nd rfl (Or.inl rfl))) (fun _ _ _ _ _ => (pts_one (pt_not (pt_val (pe_call G__law_met (hr.mono (by decide)) rfl T.g__law_met T.F__law_met.kp (bnd__law_met T) .nil pass0 (pa_cons (pe_ix ix_list (pv 12) (pv 14) (fun _ _ => rfl)) (pa_cons (pe_ix ix_list (pv 13) (pv 14) (fun _ _ => rfl)) pa_nil))))))) (fun _ _ _ _ _ => (pv 14))) pa_nil)) pe_int (nomark _)) (pss_one (ps_ret pe_bl)) pss_nil)))))
      (pss_one (ps_ret pe_bl))))))))))))))))
end K11
/-! part K11T4 -/
set_option maxHeartbeats 1000000
namespace K11
open PySem PySem.Spec PyProof.Rows L2 LamX
variable {K : PySem.W.Frag} {mg : Str → Option Value}
theorem Tr.tk {H H1 : Hp} (g : Tk H H1) : ∀ (n : Nat) (x y : V), Tr K H n x y → Tr K H1 n x y
  | 0, _, _, h => h
  | n + 1, _, _, .inl h => .inl h
  | n + 1, _, _, .inr ⟨p, q, xs, ys, e, e', h, h', l, z⟩ => .inr ⟨p, q, xs, ys, e, e', g.tup h, g.tup h', l, L2.Paired.mapP z fun a b w => Tr.tk g n a b w⟩
theorem Alike.grN {H H1 : Hp} {D : Addr} {x y : V} (h : Alike K H x y) (g : Gr [D] H H1) (hD : H D = none) : Alike K H1 x y :=
  h.imp (fun ⟨p, q, a, b, e, e', h1, h2, t⟩ => ⟨p, q, a, b, e, e', g.tup h1, g.tup h2, Tr.tk g.tk 3 a b t⟩) fun ⟨p, q, l, r, b1, b2, b3, e, e', h1, h2, h3, h4⟩ => ⟨p, q, l, r, b1, b2, b3, e, e', g.tup h1, g.tup h2, g.lstN h3 (by simp) hD, g.lstN h4 (by simp) hD⟩
/-- a case: a filling, an opening -/
def Cas (K : PySem.W.Frag) (H : Hp) (n : Int) (t : V) : Prop := ∃ p v x, t = .ref p ∧ SqT K H p [v, x] ∧ (∃ o, Th K H v o) ∧ ∃ r, Opn K H x n r
theorem Cas.w {m : List Addr} {H H1 : Hp} {n : Int} {t : V} (h : Cas K H n t) (g : GrW m H H1) : Cas K H1 n t := let ⟨p, v, x, e, a, ⟨o, b⟩, ⟨r, c⟩⟩ := h; ⟨p, v, x, e, g.tk.tup a, ⟨o, b.w g⟩, ⟨r, c.w g⟩⟩
def t_law_loop (K : PySem.W.Frag) : TS :=
    (tSeq (tFor (iList K (tVar 10)) (gName 11) (tSeq (tAsg (tCall (sp__law_all_told K) [] E0 (tCons (tVar 9) (tCons (tOp (rIxT K) (tVar 11) (tC (.int 0))) (tCons (tOp (rIxT K) (tVar 11) (tC (.int 1))) tNil)))) (gName 12))
    (tSeq (tAsg (tCall (sp__law_all_due K) [] E0 (tCons (tVar 5) (tCons (tVar 6) (tCons (tOp (rIxT K) (tVar 11) (tC (.int 0))) (tCons (tOp (rIxT K) (tVar 11) (tC (.int 1))) tNil))))) (gName 13))
    (tIfS (tTest (tOp qGt (tCB (qLen K) (tCons (tLc (iRng1 (tCons (tC (.int 5)) tNil)) (gName 14) (tNot (tB (tCall (sp__law_met K) [] E0 (tCons (tOp (rIxL K) (tVar 12) (tVar 14)) (tCons (tOp (rIxL K) (tVar 13) (tVar 14)) tNil))))) (tVar 14) [14]) tNil)) (tC (.int 0)))) (tRet (tC (.bl false))) tNext))))
    (tRet (tC (.bl true))))
theorem law_loop {H : Hp} {D : Ends} {z0 z1 z2 z3 z4 z7 z8 z11 z12 z13 z14 : Option V} {w u web : V} {L g : Addr} {ts : List V} {ws : List Int} {ps : List PipeD}
    (hT : Tabs (tabs K) H) (hw : Ti K H w ws) (wf : WfW ws) (hu : Ps K H u ps) (wa : WfA ws.length ps) (wb : Wb K H web g ws ps) (hL : H L = some (.lst ts)) (hn : ts.length ≤ 100) (hc : ∀ t ∈ ts, Cas K H ps.length t) (q : ∀ H', D.rt (.bl true) H') :
    t_law_loop K D [z0, z1, z2, z3, z4, some w, some u, z7, z8, some web, some (.ref L), z11, z12, z13, z14] H := by
  refine ⟨_, rfl, L, rfl, ⟨ts, sqL hL⟩, ?_⟩
  refine for_it (walk_list (xs := ts)) (fun i σ H' => GrW [] H H' ∧ Tabs (tabs K) H' ∧ ∃ z11 z12 z13 z14, σ = [z0, z1, z2, z3, z4, some w, some u, z7, z8, some web, some (.ref L), z11, z12, z13, z14]) ⟨(Gr.refl [] H).w, hT, _, _, _, _, rfl⟩ (fun i σ H' _ z => z.1.lst (sqL hL) (by simp)) (fun i t σ H1 H2 hi ⟨gw, hT1, y11, y12, y13, y14, e2⟩ yy => ?_) (fun σ H1 _ => q H1)
  obtain ⟨rfl, ht⟩ := yy
  subst e2
  obtain ⟨p, v, x, rfl, hp, ⟨o, ho⟩, ⟨r, hr⟩⟩ := (hc t (List.mem_of_getElem? ht)).w gw
  refine ⟨_, rfl, _, rfl, _, _, _, _, rfl, rfl, hp, rfl, _, rfl, _, _, _, _, rfl, rfl, hp, rfl, web, v, x, g, ws, ps, o, r, rfl, hT1, ⟨wb.w gw (by simp), wf, wa, ho⟩, hr, fun H3 p1 xs e1 t1 eq1 f1 => ?_⟩
  have g3 : GrW [] H H3 := gw.trans (GrW.ext e1)
  have w3 : GrW [] H2 H3 := GrW.ext e1
  have hp3 := w3.tk.tup hp
  refine ⟨_, rfl, _, rfl, _, rfl, _, _, _, _, rfl, rfl, hp3, rfl, _, rfl, _, _, _, _, rfl, rfl, hp3, rfl, w, u, v, x, ws, ps, o, r, rfl, hw.tk g3.tk, wf, hu.tk g3.tk, wa, ho.w w3, hr.w w3, fun H4 p2 ys g4 eq2 f2 => ?_⟩
  obtain ⟨l1, l2, al⟩ := five_alike wf wa f1 g4 f2
  have eq1' := g4.at eq1 (by simp)
  refine ⟨_, rfl, by decide, by decide, fun D2 hD2 => ?_⟩
  refine lc_some (m := []) (walk_range0 (n := (5 : Int).toNat)) hD2 (by simp) (by decide) (fun _ acc => acc = []) rfl (fun _ _ => trivial) (fun i y H5 H6 hi s yy => ?_) (fun H5 acc g5 e5 _ e6 => ?_)
  · obtain ⟨rfl, rfl⟩ := yy
    have hi' : i < 5 := hi
    have a1 : xs[i]? = some (xs[i]'(by omega)) := List.getElem?_eq_getElem (by omega)
    have a2 : ys[i]? = some (ys[i]'(by omega)) := List.getElem?_eq_getElem (by omega)
    have al1 := al i _ _ a1 a2
    have q1 := s.gr.lstN (sqL (K := K) eq1') (by simp) hD2
    have q2 := s.gr.lstN (sqL (K := K) eq2) (by simp) hD2
    refine ⟨rfl, _, rfl, _, rfl, _, _, _, _, rfl, rfl, q1, atI_nat a1, _, rfl, _, rfl, _, _, _, _, rfl, rfl, q2, atI_nat a2, _, _, rfl, ?_, _, rfl, s.skip (by omega) (Gr.refl _ _) fun acc _ e => e⟩
    exact al1.grN s.gr hD2
  · subst e6
    refine ⟨D2, [], rfl, .inl (sqL e5), _, _, rfl, rfl, _, rfl, dF (by decide) ?_⟩
    exact ⟨(g3.trans g4.w).trans g5.w, (t1.ext g4.all).ext g5.all, _, _, _, _, rfl⟩
/-- .. from the point where the cases are joined -/
theorem law_end {H : Hp} {D : Ends} {z0 z1 z2 z3 z4 z11 z12 z13 z14 : Option V} {w u v x web : V} {L g : Addr} {t1 : V} {ws : List Int} {ps : List PipeD}
    (hT : Tabs (tabs K) H) (hw : Ti K H w ws) (wf : WfW ws) (hu : Ps K H u ps) (wa : WfA ws.length ps) (wb : Wb K H web g ws ps) (hL : H L = some (.lst [t1])) (hc : Cas K H ps.length t1) (hv : ∃ o, Th K H v o) (hx : ∃ r, Opn K H x ps.length r) (q : ∀ H', D.rt (.bl true) H') :
    tSeq (tAsg (tOp rCat (tLst (tCons (tTup (tCons (tVar 7) (tCons (tVar 8) tNil))) tNil)) (tVar 10)) (gName 10)) (t_law_loop K) D [z0, z1, z2, z3, z4, some w, some u, some v, some x, some web, some (.ref L), z11, z12, z13, z14] H := by
  refine ⟨_, rfl, _, rfl, sz (n := 2) (by omega), fun t ht => ⟨sz (n := 1) (by omega), fun m hm => ⟨_, rfl, m, L, [.ref t], [t1], rfl, rfl, upd_same, ?_, sz (n := 2) (by omega), fun L2 hL2 => ?_⟩⟩⟩
  · exact ((Gr.new (m := []) ht).trans (Gr.new hm)).at hL (by simp)
  have k1 := Gr.new (m := []) (o := .tup [v, x]) ht
  have k2 := Gr.new (m := []) (o := .lst [.ref t]) hm
  have k3 := Gr.new (m := []) (o := .lst ([.ref t] ++ [t1])) hL2
  have kk := (k1.trans k2).trans k3
  obtain ⟨o, ho⟩ := hv
  obtain ⟨r, hr⟩ := hx
  refine law_loop (hT.ext kk.all) (hw.gr kk) wf (hu.gr kk) wa (wb.gr kk (by simp)) upd_same (show 2 ≤ 100 by decide) (fun y hy => ?_) q
  have hy : y = .ref t ∨ y = t1 := by simpa using hy
  rcases hy with rfl | rfl
  · exact ⟨t, v, x, rfl, (k2.trans k3).tup (sqT upd_same), ⟨o, ho.gr kk⟩, ⟨r, hr.gr kk⟩⟩
  · exact hc.w kk.w
end K11
/-! part K11T5 -/
namespace K11
open PySem PySem.Spec PyProof.Rows L2 LamX
variable {K : PySem.W.Frag} {mg : Str → Option Value}
theorem tabs_g {m : List Addr} {H H1 : Hp} (t : Tabs (tabs K) H) (g : Gr m H H1) : Tabs (tabs K) H1 := fun p hp => by
  obtain ⟨ps, h1, h2, h3⟩ := t p hp
  refine ⟨ps, g.nl h1 (fun _ z => nomatch z), h2, fun pos cv hc => ?_⟩
  obtain ⟨c, e1, e2⟩ := h3 pos cv hc
  exact ⟨c, e1, g.nl e2 (fun xs z => by unfold CodeO at z; cases z)⟩
def t_law_op (K : PySem.W.Frag) : TS :=
    (tSeq (tIfS (tOr (tTest (tChain qLt qLt (tC (.int 5)) (tVar 2) (tC (.int 12)))) (tAnd (tTest (tOp qLt (tVar 2) (tC (.int 6)))) (tB (tVar 3)))) (tAsg (tCall (sp__law_bad_opening K) [] E0 (tCons (tVar 1) (tCons (tOp qMod (tCB qInt1 (tCons (tVar 2) tNil)) (tC (.int 6))) (tCons (tCB (qLen K) (tCons (tVar 6) tNil)) tNil)))) (gName 8)) tNext)
    (tSeq (tAsg (tOp rCat (tLst (tCons (tTup (tCons (tVar 7) (tCons (tVar 8) tNil))) tNil)) (tVar 10)) (gName 10)) (t_law_loop K)))
theorem law_op {H : Hp} {D : Ends} {z0 z4 z11 z12 z13 z14 : Option V} {w u v x web : V} {p c L g : Addr} {k : Int} {both : Bool} {t1 : V} {ws : List Int} {ps : List PipeD}
    (hT : Tabs (tabs K) H) (hs : Src K H p c) (gp : g ≠ p) (Lp : L ≠ p) (hw : Ti K H w ws) (wf : WfW ws) (hu : Ps K H u ps) (wa : WfA ws.length ps) (wb : Wb K H web g ws ps) (hL : H L = some (.lst [t1])) (hc : Cas K H ps.length t1) (hv : ∃ o, Th K H v o) (hx : ∃ r, Opn K H x ps.length r) (q : ∀ H', D.rt (.bl true) H') :
    t_law_op K D [z0, some (.ref p), some (.int k), some (.bl both), z4, some w, some u, some v, some x, some web, some (.ref L), z11, z12, z13, z14] H := by
  have no : tSeq (tAsg (tOp rCat (tLst (tCons (tTup (tCons (tVar 7) (tCons (tVar 8) tNil))) tNil)) (tVar 10)) (gName 10)) (t_law_loop K) D [z0, some (.ref p), some (.int k), some (.bl both), z4, some w, some u, some v, some x, some web, some (.ref L), z11, z12, z13, z14] H := law_end hT hw wf hu wa wb hL hc hv hx q
  have yes : (tAsg (tCall (sp__law_bad_opening K) [] E0 (tCons (tVar 1) (tCons (tOp qMod (tCB qInt1 (tCons (tVar 2) tNil)) (tC (.int 6))) (tCons (tCB (qLen K) (tCons (tVar 6) tNil)) tNil)))) (gName 8)) { D with nx := tSeq (tAsg (tOp rCat (tLst (tCons (tTup (tCons (tVar 7) (tCons (tVar 8) tNil))) tNil)) (tVar 10)) (gName 10)) (t_law_loop K) D } [z0, some (.ref p), some (.int k), some (.bl both), z4, some w, some u, some v, some x, some web, some (.ref L), z11, z12, z13, z14] H := by
    obtain ⟨pu, xu, rfl, hu0, pu2⟩ := id hu
    have lu : xu.length = ps.length := pu2.length
    have wac := wa.c
    refine ⟨_, rfl, _, rfl, .inl ⟨_, rfl, _, _, rfl, rfl, (by decide : (0 : Int) < 6), _, rfl, _, _, rfl, .inr hu0, p, c, _, xu.length, rfl, hs, by omega, fun H1 y o d hy => ?_⟩⟩
    obtain ⟨o0, ho0⟩ := hv
    refine law_end (tabs_g hT d.1) (hw.gr d.1) wf (hu.gr d.1) wa (wb.gr d.1 (by simpa using gp)) (d.1.at hL (by simpa using Lp)) (hc.w d.1.w) ⟨o0, ho0.gr d.1⟩ (opn_of (.inr ⟨o, hy⟩)) q
  refine ⟨_, rfl, _, _, rfl, rfl, _, rfl, ?_⟩
  refine (fun B => dd (fun h1 => ⟨_, _, rfl, rfl, _, rfl, dd (fun _ => yes) (fun _ => B)⟩) (fun _ => ⟨_, rfl, B⟩)) ?_
  refine ⟨_, rfl, _, _, rfl, rfl, _, rfl, dd (fun h2 => ⟨_, rfl, _, rfl, ?_⟩) (fun h2 => no)⟩
  cases both with
  | true => exact yes
  | false => exact no
theorem pu_law (T : Txt K mg) : PureOk (sp_law K) ["_law_script"] N_law fun E => t_law K := by
  refine ⟨by rintro _ _ _ _ ⟨_, _, rfl, _⟩; rfl, ?_⟩
  rintro _ H Q E ⟨a, ns, rfl, h, hn, hT, q⟩
  refine ⟨_, rfl, a, ns, rfl, h, hn, fun H1 p c g1 hp0 hc0 s1 => ?_⟩
  refine ⟨_, rfl, p, c, 24, rfl, s1, by omega, by omega, fun H2 k2 d2 k20 k21 => ?_⟩
  refine ⟨_, rfl, p, c, 3, rfl, d2.2, by omega, by omega, fun H3 k3 d3 k30 k31 => ⟨rfl, ?_⟩⟩
  refine ⟨_, rfl, p, c, 7, rfl, d3.2, by omega, by omega, fun H4 k4 d4 k40 k41 => ⟨_, _, rfl, rfl, ?_⟩⟩
  obtain ⟨n, en⟩ : ∃ n : Nat, 1 + k4 = (n : Int) := ⟨(1 + k4).toNat, by omega⟩
  show tSeq _ _ _ [some (V.ref a), some (.ref p), some (.int k2), some (.bl (decide (V.int k3 = V.int 0))), some (.int (1 + k4)), none, none, none, none, none, none, none, none, none, none] H4
  rw [en]
  refine ⟨_, rfl, _, rfl, p, c, n, rfl, d4.2, by omega, by omega, fun H5 w ws d5 hw wf lw => ?_⟩
  refine ⟨_, rfl, _, rfl, _, rfl, p, c, 10, rfl, d5.2, by omega, by omega, fun H6 k6 d6 k60 k61 => ?_⟩
  obtain ⟨j, rfl⟩ := Int.eq_ofNat_of_zero_le k60
  refine ⟨p, c, n, j, rfl, d6.2, by omega, by omega, by omega, fun H7 u ps d7 hu wa => ?_⟩
  have wac := wa.c
  have wn := wf.n2
  rw [← lw] at wa
  have hw7 := (hw.gr d6.1).gr d7.1
  refine ⟨_, rfl, _, rfl, p, c, w, ws, rfl, d7.2, hw7, by omega, fun H8 v fl d8 hv lf => ?_⟩
  have hu8 := hu.gr d8.1
  obtain ⟨pu, xu, rfl, hu0, pu2⟩ := id hu8
  have lu : xu.length = ps.length := pu2.length
  refine ⟨_, rfl, _, rfl, _, _, rfl, .inr hu0, p, c, xu.length, rfl, d8.2, by omega, fun H9 x l d9 hx => ?_⟩
  have hw9 := (hw7.gr d8.1).gr d9.1
  have hu9 := hu8.gr d9.1
  have s9 := d9.2
  refine ⟨_, rfl, _, rfl, fun y dy hy hdy hne => ?_⟩
  have m1 := Gr.new (m := []) (o := .own y) hdy
  have hy1 : upd H9 dy (.own y) y = none := by
    rw [upd_ne (Ne.symm hne)]
    exact hy
  have m2 := m1.trans (Gr.new (m := []) (o := .ins (webC K) dy []) hy1)
  refine ⟨y, w, _, ws, ps, rfl, ⟨⟨dy, upd_same⟩, hw9.gr m2, wf, hu9.gr m2, wa⟩, fun H10 g gX hg wb => ⟨rfl, ?_⟩⟩
  have m3 : Gr [] H9 H10 := fun b o hb => .inl (gX b o (ne_of_none hb hy) (m2.at hb (by simp)))
  have s10 := s9.gr m3 (by simp) (by simp)
  have gp : g ≠ p := fun z => by
    have z2 := m2.fresh hg
    rw [z] at z2
    exact (s9.ne z2).1 rfl
  have gpc := gp
  have hv10 := (hv.gr d9.1).gr m3
  have hw10 := hw9.gr m3
  have hu10 := hu9.gr m3
  have T10 : Tabs (tabs K) H10 := tabs_g (tabs_g (tabs_g (tabs_g (tabs_g (tabs_g (tabs_g (tabs_g (tabs_g (tabs_g hT g1) d2.1) d3.1) d4.1) d5.1) d6.1) d7.1) d8.1) d9.1) m3
  have hx10 : x = .non ∨ ∃ o, Th K H10 x o := hx.imp id fun z => ti_th (z.gr m3)
  refine ⟨_, rfl, _, rfl, sz (n := 2) (by omega), fun t1 ht1 => ⟨sz (n := 1) (by omega), fun L hL => ?_⟩⟩
  have m4 := Gr.new (m := []) (o := .tup [v, x]) ht1
  have m5 := Gr.new (m := []) (o := .lst [.ref t1]) hL
  have m6 := m4.trans m5
  have Lp : L ≠ p := fun z => by
    have z2 := m4.fresh hL
    rw [z] at z2
    exact (s10.ne z2).1 rfl
  have eL : upd (upd H10 t1 (.tup [v, x])) L (.lst [.ref t1]) L = some (.lst [.ref t1]) := upd_same
  have T11 := tabs_g T10 m6
  have s11 := s10.gr m6 (by simp) (by simp)
  have hw11 := hw10.gr m6
  have hu11 := hu10.gr m6
  have hv11 := hv10.gr m6
  have wb11 := wb.gr m6 (by simp)
  have hx11 : x = .non ∨ ∃ o, Th K (upd (upd H10 t1 (.tup [v, x])) L (.lst [.ref t1])) x o := hx10.imp id fun ⟨o, z⟩ => ⟨o, z.gr m6⟩
  have c11 : Cas K (upd (upd H10 t1 (.tup [v, x])) L (.lst [.ref t1])) ps.length (.ref t1) := ⟨t1, v, x, rfl, m5.tup (sqT upd_same), ti_th hv11, opn_of hx11⟩
  show tSeq _ _ _ [some (V.ref a), some (.ref p), some (.int k2), some (.bl (decide (V.int k3 = V.int 0))), some (.int n), some w, some (.ref pu), some v, some x, some (.ref y), some (.ref L), none, none, none, none] (upd (upd H10 t1 (.tup [v, x])) L (.lst [.ref t1]))
  generalize upd (upd H10 t1 (.tup [v, x])) L (.lst [.ref t1]) = H11 at *
  refine ⟨_, rfl, _, _, rfl, rfl, _, rfl, dd (fun h6 => ?_) (fun _ => law_op T11 s11 gp Lp hw11 wf hu11 wa wb11 eL c11 (ti_th hv11) (opn_of hx11) q)⟩
  refine ⟨_, rfl, _, rfl, _, rfl, _, rfl, p, c, k2, w, v, ws, fl, rfl, s11, ⟨hw11, wf, hv11, lf⟩, fun H12 v2 o2 d12 hv2 => ?_⟩
  have hx12 : x = .non ∨ ∃ o, Th K H12 x o := hx11.imp id fun ⟨o, z⟩ => ⟨o, z.gr d12.1⟩
  exact law_op (tabs_g T11 d12.1) d12.2 gp Lp (hw11.gr d12.1) wf (hu11.gr d12.1) wa (wb11.gr d12.1 (by simpa using gp)) (d12.1.at eL (by simpa using Lp)) (c11.w d12.1.w) ⟨o2, hv2⟩ (opn_of hx12) q
end K11
/-! part K11U4 -/
set_option maxHeartbeats 0
namespace K11
open PySem PySem.Spec PyProof.Rows L2
theorem web_ok {K : PySem.W.Frag} (h : webB K = true) : PySem.W.findIn K (.ref (He.ga K "Web")) "__class__" = some (some (.builtin "object.__class__")) ∧ PySem.W.mroIn K (He.ga K "Web") (.type "object") = some true ∧ PySem.W.kitOne K (.ref (He.ga K "Web")) (.type "tuple") = some false ∧ PySem.W.kitOne K (.ref (He.ga K "Web")) (.type "int") = some false ∧ PySem.W.kitOne K (.ref (He.ga K "Web")) (.type "bool") = some false := by
  obtain ⟨a, h⟩ := He.ba h
  obtain ⟨b, h⟩ := He.ba h
  obtain ⟨c, h⟩ := He.ba h
  obtain ⟨d, e⟩ := He.ba h
  exact ⟨He.eqO_ok a, of_decide_eq_true b, of_decide_eq_true c, of_decide_eq_true d, of_decide_eq_true e⟩
theorem exc_ok {K : PySem.W.Frag} {x : Str} (h : excB K x = true) : ExcC K (He.ga K x) ∧ PySem.W.specialIn K (.builtin "object.__class__") "__get__" = some (some (.builtin "getset_descriptor.__get__")) ∧ PySem.W.takesIn K (.builtin "object.__class__") = some true := by
  obtain ⟨h1, h⟩ := He.ba h
  obtain ⟨h2, h⟩ := He.ba h
  obtain ⟨h3, h⟩ := He.ba h
  obtain ⟨h4, h⟩ := He.ba h
  obtain ⟨h5, h⟩ := He.ba h
  obtain ⟨h6, h⟩ := He.ba h
  obtain ⟨h7, h8⟩ := He.ba h
  exact ⟨⟨He.eqO_ok h1, He.eqO_ok h2, of_decide_eq_true h3, h4, He.eqO_ok h5, He.eqO_ok h6, of_decide_eq_true h7, of_decide_eq_true h8⟩, He.eqO_ok h6, of_decide_eq_true h7⟩
theorem more_ok {K : PySem.W.Frag} (h : exB K = true) : webB K = true ∧ excB K "NoFilling" = true ∧ excB K "NoOpening" = true ∧ kitB2 K "NoFilling" "NoFilling" true = true ∧ kitB2 K "NoFilling" "NoOpening" false = true ∧ kitB2 K "NoFilling" "NoSorts" false = true ∧ kitB2 K "NoOpening" "NoFilling" false = true ∧ kitB2 K "NoOpening" "NoOpening" true = true ∧ kitB2 K "NoOpening" "NoSorts" false = true := by
  obtain ⟨_, h⟩ := He.ba h
  obtain ⟨a, h⟩ := He.ba h
  obtain ⟨b, h⟩ := He.ba h
  obtain ⟨c, h⟩ := He.ba h
  obtain ⟨d, h⟩ := He.ba h
  obtain ⟨e, h⟩ := He.ba h
  obtain ⟨f, h⟩ := He.ba h
  obtain ⟨g, h⟩ := He.ba h
  obtain ⟨i, j⟩ := He.ba h
  exact ⟨a, b, c, d, e, f, g, i, j⟩
theorem txt_of {w : World} {h : Heap} {K : PySem.W.Frag} {mg : Str → Option Value} (X : K.In h) (G : h.Ns mainGlobals mg) (c : SaysY w h K) : Txt K mg :=
  have M := more_ok c.x.more
  {
  g_TidesError := He.glo_ok X G (c.x.t.d.fact 0 (f := .glo "TidesError") rfl)
  g_NoSorts := He.glo_ok X G (c.x.t.d.fact 1 (f := .glo "NoSorts") rfl)
  g_NoFilling := He.glo_ok X G (c.x.t.d.fact 2 (f := .glo "NoFilling") rfl)
  g_NoOpening := He.glo_ok X G (c.x.t.d.fact 3 (f := .glo "NoOpening") rfl)
  g_is_integer := He.glo_ok X G (c.x.t.d.fact 4 (f := .glo "is_integer") rfl)
  g_is_between := He.glo_ok X G (c.x.t.d.fact 5 (f := .glo "is_between") rfl)
  g_is_pair := He.glo_ok X G (c.x.t.d.fact 6 (f := .glo "is_pair") rfl)
  g_is_triple := He.glo_ok X G (c.x.t.d.fact 7 (f := .glo "is_triple") rfl)
  g_is_row := He.glo_ok X G (c.x.t.d.fact 8 (f := .glo "is_row") rfl)
  g_is_lot := He.glo_ok X G (c.x.t.d.fact 9 (f := .glo "is_lot") rfl)
  g_divisor := He.glo_ok X G (c.x.t.d.fact 10 (f := .glo "divisor") rfl)
  g_multiple := He.glo_ok X G (c.x.t.d.fact 11 (f := .glo "multiple") rfl)
  g_made := He.glo_ok X G (c.x.t.d.fact 12 (f := .glo "made") rfl)
  g_is_fraction := He.glo_ok X G (c.x.t.d.fact 13 (f := .glo "is_fraction") rfl)
  g_is_below := He.glo_ok X G (c.x.t.d.fact 14 (f := .glo "is_below") rfl)
  g_next_whole := He.glo_ok X G (c.x.t.d.fact 15 (f := .glo "next_whole") rfl)
  g_is_threshold := He.glo_ok X G (c.x.t.d.fact 16 (f := .glo "is_threshold") rfl)
  g_is_list := He.glo_ok X G (c.x.t.d.fact 17 (f := .glo "is_list") rfl)
  g_is_width := He.glo_ok X G (c.x.t.d.fact 18 (f := .glo "is_width") rfl)
  g_parts_of_grain := He.glo_ok X G (c.x.t.d.fact 19 (f := .glo "parts_of_grain") rfl)
  g_in_grains := He.glo_ok X G (c.x.t.d.fact 20 (f := .glo "in_grains") rfl)
  g_part_of := He.glo_ok X G (c.x.t.d.fact 21 (f := .glo "part_of") rfl)
  g_is_filling := He.glo_ok X G (c.x.t.d.fact 22 (f := .glo "is_filling") rfl)
  g_check_filling := He.glo_ok X G (c.x.t.d.fact 23 (f := .glo "check_filling") rfl)
  g_check_opening := He.glo_ok X G (c.x.t.d.fact 24 (f := .glo "check_opening") rfl)
  g_drops_in_grains := He.glo_ok X G (c.x.t.d.fact 25 (f := .glo "drops_in_grains") rfl)
  g_runs_at := He.glo_ok X G (c.x.t.d.fact 26 (f := .glo "runs_at") rfl)
  g_flows_of := He.glo_ok X G (c.x.t.d.fact 27 (f := .glo "flows_of") rfl)
  g_opened := He.glo_ok X G (c.x.t.d.fact 28 (f := .glo "opened") rfl)
  g_nets_of := He.glo_ok X G (c.x.t.d.fact 29 (f := .glo "nets_of") rfl)
  g_moved := He.glo_ok X G (c.x.t.d.fact 30 (f := .glo "moved") rfl)
  g_levels := He.glo_ok X G (c.x.t.d.fact 31 (f := .glo "levels") rfl)
  g_drops := He.glo_ok X G (c.x.t.d.fact 32 (f := .glo "drops") rfl)
  g_running := He.glo_ok X G (c.x.t.d.fact 33 (f := .glo "running") rfl)
  g_flows := He.glo_ok X G (c.x.t.d.fact 34 (f := .glo "flows") rfl)
  g_tick := He.glo_ok X G (c.x.t.d.fact 35 (f := .glo "tick") rfl)
  g_nets := He.glo_ok X G (c.x.t.d.fact 36 (f := .glo "nets") rfl)
  g_are_widths := He.glo_ok X G (c.x.t.d.fact 37 (f := .glo "are_widths") rfl)
  g_is_pipe := He.glo_ok X G (c.x.t.d.fact 38 (f := .glo "is_pipe") rfl)
  g_gauge := He.glo_ok X G (c.x.t.d.fact 39 (f := .glo "gauge") rfl)
  g_Web := He.glo_ok X G (c.x.t.d.fact 40 (f := .glo "Web") rfl)
  g__law_source := He.glo_ok X G (c.x.t.d.fact 41 (f := .glo "_law_source") rfl)
  g__law_mixed := He.glo_ok X G (c.x.t.d.fact 42 (f := .glo "_law_mixed") rfl)
  g__law_draw := He.glo_ok X G (c.x.t.d.fact 43 (f := .glo "_law_draw") rfl)
  g__law_pick := He.glo_ok X G (c.x.t.d.fact 44 (f := .glo "_law_pick") rfl)
  g__law_divisor := He.glo_ok X G (c.x.t.d.fact 45 (f := .glo "_law_divisor") rfl)
  g__law_made := He.glo_ok X G (c.x.t.d.fact 46 (f := .glo "_law_made") rfl)
  g__law_added := He.glo_ok X G (c.x.t.d.fact 47 (f := .glo "_law_added") rfl)
  g__law_same := He.glo_ok X G (c.x.t.d.fact 48 (f := .glo "_law_same") rfl)
  g__law_met := He.glo_ok X G (c.x.t.d.fact 49 (f := .glo "_law_met") rfl)
  g__law_integer := He.glo_ok X G (c.x.t.d.fact 50 (f := .glo "_law_integer") rfl)
  g__law_deep := He.glo_ok X G (c.x.t.d.fact 51 (f := .glo "_law_deep") rfl)
  g__law_strange := He.glo_ok X G (c.x.t.d.fact 52 (f := .glo "_law_strange") rfl)
  g__law_in_order := He.glo_ok X G (c.x.t.d.fact 53 (f := .glo "_law_in_order") rfl)
  g__law_steps := He.glo_ok X G (c.x.t.d.fact 54 (f := .glo "_law_steps") rfl)
  g__law_flow := He.glo_ok X G (c.x.t.d.fact 55 (f := .glo "_law_flow") rfl)
  g__law_widths := He.glo_ok X G (c.x.t.d.fact 56 (f := .glo "_law_widths") rfl)
  g__law_pipe := He.glo_ok X G (c.x.t.d.fact 57 (f := .glo "_law_pipe") rfl)
  g__law_pipes := He.glo_ok X G (c.x.t.d.fact 58 (f := .glo "_law_pipes") rfl)
  g__law_water := He.glo_ok X G (c.x.t.d.fact 59 (f := .glo "_law_water") rfl)
  g__law_filling := He.glo_ok X G (c.x.t.d.fact 60 (f := .glo "_law_filling") rfl)
  g__law_opening := He.glo_ok X G (c.x.t.d.fact 61 (f := .glo "_law_opening") rfl)
  g__law_level := He.glo_ok X G (c.x.t.d.fact 62 (f := .glo "_law_level") rfl)
  g__law_drop := He.glo_ok X G (c.x.t.d.fact 63 (f := .glo "_law_drop") rfl)
  g__law_flows := He.glo_ok X G (c.x.t.d.fact 64 (f := .glo "_law_flows") rfl)
  g__law_nets := He.glo_ok X G (c.x.t.d.fact 65 (f := .glo "_law_nets") rfl)
  g__law_behind := He.glo_ok X G (c.x.t.d.fact 66 (f := .glo "_law_behind") rfl)
  g__law_is_filling := He.glo_ok X G (c.x.t.d.fact 67 (f := .glo "_law_is_filling") rfl)
  g__law_is_opening := He.glo_ok X G (c.x.t.d.fact 68 (f := .glo "_law_is_opening") rfl)
  g__law_with := He.glo_ok X G (c.x.t.d.fact 69 (f := .glo "_law_with") rfl)
  g__law_told := He.glo_ok X G (c.x.t.d.fact 70 (f := .glo "_law_told") rfl)
  g__law_bad_filling := He.glo_ok X G (c.x.t.d.fact 71 (f := .glo "_law_bad_filling") rfl)
  g__law_bad_opening := He.glo_ok X G (c.x.t.d.fact 72 (f := .glo "_law_bad_opening") rfl)
  g__law_all_told := He.glo_ok X G (c.x.t.d.fact 73 (f := .glo "_law_all_told") rfl)
  g__law_all_due := He.glo_ok X G (c.x.t.d.fact 74 (f := .glo "_law_all_due") rfl)
  g_law := He.glo_ok X G (c.x.t.d.fact 75 (f := .glo "law") rfl)
  g_NOUGHT := He.glo_ok X G (c.x.t.d.fact 76 (f := .glo "NOUGHT") rfl)
  c_MOST_THRESHOLDS := He.int_ok X G (c.x.t.d.fact 77)
  c_MOST_TOP := He.int_ok X G (c.x.t.d.fact 78)
  c_MOST_BOTTOM := He.int_ok X G (c.x.t.d.fact 79)
  c_MOST_WIDTH := He.int_ok X G (c.x.t.d.fact 80)
  c_MOST_VESSELS := He.int_ok X G (c.x.t.d.fact 81)
  c_MOST_PIPES := He.int_ok X G (c.x.t.d.fact 82)
  b_abs := He.free_ok X G (c.x.t.d.fact 83 (f := .free "abs") rfl)
  b_all := He.free_ok X G (c.x.t.d.fact 84 (f := .free "all") rfl)
  b_any := He.free_ok X G (c.x.t.d.fact 85 (f := .free "any") rfl)
  b_bool := He.free_ok X G (c.x.t.d.fact 86 (f := .free "bool") rfl)
  b_enumerate := He.free_ok X G (c.x.t.d.fact 87 (f := .free "enumerate") rfl)
  b_int := He.free_ok X G (c.x.t.d.fact 88 (f := .free "int") rfl)
  b_isinstance := He.free_ok X G (c.x.t.d.fact 89 (f := .free "isinstance") rfl)
  b_len := He.free_ok X G (c.x.t.d.fact 90 (f := .free "len") rfl)
  b_list := He.free_ok X G (c.x.t.d.fact 91 (f := .free "list") rfl)
  b_max := He.free_ok X G (c.x.t.d.fact 92 (f := .free "max") rfl)
  b_range := He.free_ok X G (c.x.t.d.fact 93 (f := .free "range") rfl)
  b_sorted := He.free_ok X G (c.x.t.d.fact 94 (f := .free "sorted") rfl)
  b_str := He.free_ok X G (c.x.t.d.fact 95 (f := .free "str") rfl)
  b_super := He.free_ok X G (c.x.t.d.fact 96 (f := .free "super") rfl)
  b_tuple := He.free_ok X G (c.x.t.d.fact 97 (f := .free "tuple") rfl)
  b_zip := He.free_ok X G (c.x.t.d.fact 98 (f := .free "zip") rfl)
  F_is_integer := by
    obtain ⟨fd, F⟩ := c.x.t.d.def_ 0
    have e := fdOf_eq (p := ("is_integer", none)) F
    rw [← e]
    exact F
  F_is_between := by
    obtain ⟨fd, F⟩ := c.x.t.d.def_ 1
    have e := fdOf_eq (p := ("is_between", none)) F
    rw [← e]
    exact F
  F_is_pair := by
    obtain ⟨fd, F⟩ := c.x.t.d.def_ 2
    have e := fdOf_eq (p := ("is_pair", none)) F
    rw [← e]
    exact F
  F_is_triple := by
    obtain ⟨fd, F⟩ := c.x.t.d.def_ 3
    have e := fdOf_eq (p := ("is_triple", none)) F
    rw [← e]
    exact F
  F_is_row := by
    obtain ⟨fd, F⟩ := c.x.t.d.def_ 4
    have e := fdOf_eq (p := ("is_row", none)) F
    rw [← e]
    exact F
  F_is_lot := by
    obtain ⟨fd, F⟩ := c.x.t.d.def_ 5
    have e := fdOf_eq (p := ("is_lot", none)) F
    rw [← e]
    exact F
  F_divisor := by
    obtain ⟨fd, F⟩ := c.x.t.d.def_ 6
    have e := fdOf_eq (p := ("divisor", none)) F
    rw [← e]
    exact F
  F_multiple := by
    obtain ⟨fd, F⟩ := c.x.t.d.def_ 7
    have e := fdOf_eq (p := ("multiple", none)) F
    rw [← e]
    exact F
  F_made := by
    obtain ⟨fd, F⟩ := c.x.t.d.def_ 8
    have e := fdOf_eq (p := ("made", none)) F
    rw [← e]
    exact F
  F_is_fraction := by
    obtain ⟨fd, F⟩ := c.x.t.d.def_ 9
    have e := fdOf_eq (p := ("is_fraction", none)) F
    rw [← e]
    exact F
  F_is_below := by
    obtain ⟨fd, F⟩ := c.x.t.d.def_ 10
    have e := fdOf_eq (p := ("is_below", none)) F
    rw [← e]
    exact F
  F_next_whole := by
    obtain ⟨fd, F⟩ := c.x.t.d.def_ 11
    have e := fdOf_eq (p := ("next_whole", none)) F
    rw [← e]
    exact F
  F_is_threshold := by
    obtain ⟨fd, F⟩ := c.x.t.d.def_ 12
    have e := fdOf_eq (p := ("is_threshold", none)) F
    rw [← e]
    exact F
  F_is_list := by
    obtain ⟨fd, F⟩ := c.x.t.d.def_ 13
    have e := fdOf_eq (p := ("is_list", none)) F
    rw [← e]
    exact F
  F_is_width := by
    obtain ⟨fd, F⟩ := c.x.t.d.def_ 14
    have e := fdOf_eq (p := ("is_width", none)) F
    rw [← e]
    exact F
  F_parts_of_grain := by
    obtain ⟨fd, F⟩ := c.x.t.d.def_ 15
    have e := fdOf_eq (p := ("parts_of_grain", none)) F
    rw [← e]
    exact F
  F_in_grains := by
    obtain ⟨fd, F⟩ := c.x.t.d.def_ 16
    have e := fdOf_eq (p := ("in_grains", none)) F
    rw [← e]
    exact F
  F_part_of := by
    obtain ⟨fd, F⟩ := c.x.t.d.def_ 17
    have e := fdOf_eq (p := ("part_of", none)) F
    rw [← e]
    exact F
  F_is_filling := by
    obtain ⟨fd, F⟩ := c.x.t.d.def_ 18
    have e := fdOf_eq (p := ("is_filling", none)) F
    rw [← e]
    exact F
  F_check_filling := by
    obtain ⟨fd, F⟩ := c.x.t.d.def_ 19
    have e := fdOf_eq (p := ("check_filling", none)) F
    rw [← e]
    exact F
  F_check_opening := by
    obtain ⟨fd, F⟩ := c.x.t.d.def_ 20
    have e := fdOf_eq (p := ("check_opening", none)) F
    rw [← e]
    exact F
  F_drops_in_grains := by
    obtain ⟨fd, F⟩ := c.x.t.d.def_ 21
    have e := fdOf_eq (p := ("drops_in_grains", none)) F
    rw [← e]
    exact F
  F_runs_at := by
    obtain ⟨fd, F⟩ := c.x.t.d.def_ 22
    have e := fdOf_eq (p := ("runs_at", none)) F
    rw [← e]
    exact F
  F_flows_of := by
    obtain ⟨fd, F⟩ := c.x.t.d.def_ 23
    have e := fdOf_eq (p := ("flows_of", none)) F
    rw [← e]
    exact F
  F_opened := by
    obtain ⟨fd, F⟩ := c.x.t.d.def_ 24
    have e := fdOf_eq (p := ("opened", none)) F
    rw [← e]
    exact F
  F_nets_of := by
    obtain ⟨fd, F⟩ := c.x.t.d.def_ 25
    have e := fdOf_eq (p := ("nets_of", none)) F
    rw [← e]
    exact F
  F_moved := by
    obtain ⟨fd, F⟩ := c.x.t.d.def_ 26
    have e := fdOf_eq (p := ("moved", none)) F
    rw [← e]
    exact F
  F_levels := by
    obtain ⟨fd, F⟩ := c.x.t.d.def_ 27
    have e := fdOf_eq (p := ("levels", none)) F
    rw [← e]
    exact F
  F_drops := by
    obtain ⟨fd, F⟩ := c.x.t.d.def_ 28
    have e := fdOf_eq (p := ("drops", none)) F
    rw [← e]
    exact F
  F_running := by
    obtain ⟨fd, F⟩ := c.x.t.d.def_ 29
    have e := fdOf_eq (p := ("running", none)) F
    rw [← e]
    exact F
  F_flows := by
    obtain ⟨fd, F⟩ := c.x.t.d.def_ 30
    have e := fdOf_eq (p := ("flows", none)) F
    rw [← e]
    exact F
  F_tick := by
    obtain ⟨fd, F⟩ := c.x.t.d.def_ 31
    have e := fdOf_eq (p := ("tick", none)) F
    rw [← e]
    exact F
  F_nets := by
    obtain ⟨fd, F⟩ := c.x.t.d.def_ 32
    have e := fdOf_eq (p := ("nets", none)) F
    rw [← e]
    exact F
  F_are_widths := by
    obtain ⟨fd, F⟩ := c.x.t.d.def_ 33
    have e := fdOf_eq (p := ("are_widths", none)) F
    rw [← e]
    exact F
  F_is_pipe := by
    obtain ⟨fd, F⟩ := c.x.t.d.def_ 34
    have e := fdOf_eq (p := ("is_pipe", none)) F
    rw [← e]
    exact F
  F_gauge := by
    obtain ⟨fd, F⟩ := c.x.t.d.def_ 35
    have e := fdOf_eq (p := ("gauge", none)) F
    rw [← e]
    exact F
  F__law_source := by
    obtain ⟨fd, F⟩ := c.x.t.d.def_ 36
    have e := fdOf_eq (p := ("_law_source", none)) F
    rw [← e]
    exact F
  F__law_mixed := by
    obtain ⟨fd, F⟩ := c.x.t.d.def_ 37
    have e := fdOf_eq (p := ("_law_mixed", none)) F
    rw [← e]
    exact F
  F__law_draw := by
    obtain ⟨fd, F⟩ := c.x.t.d.def_ 38
    have e := fdOf_eq (p := ("_law_draw", none)) F
    rw [← e]
    exact F
  F__law_pick := by
    obtain ⟨fd, F⟩ := c.x.t.d.def_ 39
    have e := fdOf_eq (p := ("_law_pick", none)) F
    rw [← e]
    exact F
  F__law_divisor := by
    obtain ⟨fd, F⟩ := c.x.t.d.def_ 40
    have e := fdOf_eq (p := ("_law_divisor", none)) F
    rw [← e]
    exact F
  F__law_made := by
    obtain ⟨fd, F⟩ := c.x.t.d.def_ 41
    have e := fdOf_eq (p := ("_law_made", none)) F
    rw [← e]
    exact F
  F__law_added := by
    obtain ⟨fd, F⟩ := c.x.t.d.def_ 42
    have e := fdOf_eq (p := ("_law_added", none)) F
    rw [← e]
    exact F
  F__law_same := by
    obtain ⟨fd, F⟩ := c.x.t.d.def_ 43
    have e := fdOf_eq (p := ("_law_same", none)) F
    rw [← e]
    exact F
  F__law_met := by
    obtain ⟨fd, F⟩ := c.x.t.d.def_ 44
    have e := fdOf_eq (p := ("_law_met", none)) F
    rw [← e]
    exact F
  F__law_integer := by
    obtain ⟨fd, F⟩ := c.x.t.d.def_ 45
    have e := fdOf_eq (p := ("_law_integer", none)) F
    rw [← e]
    exact F
  F__law_deep := by
    obtain ⟨fd, F⟩ := c.x.t.d.def_ 46
    have e := fdOf_eq (p := ("_law_deep", none)) F
    rw [← e]
    exact F
  F__law_strange := by
    obtain ⟨fd, F⟩ := c.x.t.d.def_ 47
    have e := fdOf_eq (p := ("_law_strange", none)) F
    rw [← e]
    exact F
  F__law_in_order := by
    obtain ⟨fd, F⟩ := c.x.t.d.def_ 48
    have e := fdOf_eq (p := ("_law_in_order", none)) F
    rw [← e]
    exact F
  F__law_steps := by
    obtain ⟨fd, F⟩ := c.x.t.d.def_ 49
    have e := fdOf_eq (p := ("_law_steps", none)) F
    rw [← e]
    exact F
  F__law_flow := by
    obtain ⟨fd, F⟩ := c.x.t.d.def_ 50
    have e := fdOf_eq (p := ("_law_flow", none)) F
    rw [← e]
    exact F
  F__law_widths := by
    obtain ⟨fd, F⟩ := c.x.t.d.def_ 51
    have e := fdOf_eq (p := ("_law_widths", none)) F
    rw [← e]
    exact F
  F__law_pipe := by
    obtain ⟨fd, F⟩ := c.x.t.d.def_ 52
    have e := fdOf_eq (p := ("_law_pipe", none)) F
    rw [← e]
    exact F
  F__law_pipes := by
    obtain ⟨fd, F⟩ := c.x.t.d.def_ 53
    have e := fdOf_eq (p := ("_law_pipes", none)) F
    rw [← e]
    exact F
  F__law_water := by
    obtain ⟨fd, F⟩ := c.x.t.d.def_ 54
    have e := fdOf_eq (p := ("_law_water", none)) F
    rw [← e]
    exact F
  F__law_filling := by
    obtain ⟨fd, F⟩ := c.x.t.d.def_ 55
    have e := fdOf_eq (p := ("_law_filling", none)) F
    rw [← e]
    exact F
  F__law_opening := by
    obtain ⟨fd, F⟩ := c.x.t.d.def_ 56
    have e := fdOf_eq (p := ("_law_opening", none)) F
    rw [← e]
    exact F
  F__law_level := by
    obtain ⟨fd, F⟩ := c.x.t.d.def_ 57
    have e := fdOf_eq (p := ("_law_level", none)) F
    rw [← e]
    exact F
  F__law_drop := by
    obtain ⟨fd, F⟩ := c.x.t.d.def_ 58
    have e := fdOf_eq (p := ("_law_drop", none)) F
    rw [← e]
    exact F
  F__law_flows := by
    obtain ⟨fd, F⟩ := c.x.t.d.def_ 59
    have e := fdOf_eq (p := ("_law_flows", none)) F
    rw [← e]
    exact F
  F__law_nets := by
    obtain ⟨fd, F⟩ := c.x.t.d.def_ 60
    have e := fdOf_eq (p := ("_law_nets", none)) F
    rw [← e]
    exact F
  F__law_behind := by
    obtain ⟨fd, F⟩ := c.x.t.d.def_ 61
    have e := fdOf_eq (p := ("_law_behind", none)) F
    rw [← e]
    exact F
  F__law_is_filling := by
    obtain ⟨fd, F⟩ := c.x.t.d.def_ 62
    have e := fdOf_eq (p := ("_law_is_filling", none)) F
    rw [← e]
    exact F
  F__law_is_opening := by
    obtain ⟨fd, F⟩ := c.x.t.d.def_ 63
    have e := fdOf_eq (p := ("_law_is_opening", none)) F
    rw [← e]
    exact F
  F__law_with := by
    obtain ⟨fd, F⟩ := c.x.t.d.def_ 64
    have e := fdOf_eq (p := ("_law_with", none)) F
    rw [← e]
    exact F
  F__law_told := by
    obtain ⟨fd, F⟩ := c.x.t.d.def_ 65
    have e := fdOf_eq (p := ("_law_told", none)) F
    rw [← e]
    exact F
  F__law_bad_filling := by
    obtain ⟨fd, F⟩ := c.x.t.d.def_ 66
    have e := fdOf_eq (p := ("_law_bad_filling", none)) F
    rw [← e]
    exact F
  F__law_bad_opening := by
    obtain ⟨fd, F⟩ := c.x.t.d.def_ 67
    have e := fdOf_eq (p := ("_law_bad_opening", none)) F
    rw [← e]
    exact F
  F__law_all_told := by
    obtain ⟨fd, F⟩ := c.x.t.d.def_ 68
    have e := fdOf_eq (p := ("_law_all_told", none)) F
    rw [← e]
    exact F
  F__law_all_due := by
    obtain ⟨fd, F⟩ := c.x.t.d.def_ 69
    have e := fdOf_eq (p := ("_law_all_due", none)) F
    rw [← e]
    exact F
  F_law := by
    obtain ⟨fd, F⟩ := c.x.t.d.def_ 70
    have e := fdOf_eq (p := ("law", none)) F
    rw [← e]
    exact F
  F_init := by
    obtain ⟨fd, F⟩ := c.x.t.d.def_ 71
    have e := fdOf_eq (p := ("Web", some "__init__")) F
    rw [← e]
    exact F
  F_begin := by
    obtain ⟨fd, F⟩ := c.x.t.d.def_ 72
    have e := fdOf_eq (p := ("Web", some "begin")) F
    rw [← e]
    exact F
  nought := fun H => He.tupB_ok (He.ba c.x.more).1 H
  webCls := He.cls_ok (x := "Web") (c.x.t.d.fact 99 (f := .cls "Web") rfl)
  noW := He.noat_ok (x := "Web") (f := "widths") (c.x.t.d.fact 100 (f := .noat "Web" "widths") rfl)
  noP := He.noat_ok (x := "Web") (f := "pipes") (c.x.t.d.fact 101 (f := .noat "Web" "pipes") rfl)
  noG := He.noat_ok (x := "Web") (f := "gauges") (c.x.t.d.fact 102 (f := .noat "Web" "gauges") rfl)
  webBegin := He.meth_ok (x := "Web") (m := "begin") (c.x.t.d.fact 103 (f := .meth "Web" "begin") rfl)
  webMk := He.mkr_ok (x := "Web") (c.x.t.d.fact 104 (f := .mkr "Web") rfl)
  iWc := (web_ok M.1).1
  iWm := (web_ok M.1).2.1
  kWt := (web_ok M.1).2.2.1
  kWi := (web_ok M.1).2.2.2.1
  kWb := (web_ok M.1).2.2.2.2
  iWn := (exc_ok M.2.1).2.1
  iWt := (exc_ok M.2.1).2.2
  eF := ⟨_, errT_of c.eF c.fF (He.glo_ok X G (c.x.t.d.fact 2 (f := .glo "NoFilling") rfl)) (He.free_ok X G (c.x.t.d.fact 96 (f := .free "super") rfl))⟩
  eO := ⟨_, errT_of c.eO c.fO (He.glo_ok X G (c.x.t.d.fact 3 (f := .glo "NoOpening") rfl)) (He.free_ok X G (c.x.t.d.fact 96 (f := .free "super") rfl))⟩
  xF := (exc_ok M.2.1).1
  xO := (exc_ok M.2.2.1).1
  mF := He.exm_ok (x := "NoFilling") (y := "TidesError") (c.x.t.d.fact 105 (f := .exm "NoFilling" "TidesError" true) rfl)
  mO := He.exm_ok (x := "NoOpening") (y := "TidesError") (c.x.t.d.fact 106 (f := .exm "NoOpening" "TidesError" true) rfl)
  kFF := of_decide_eq_true M.2.2.2.1
  kFO := of_decide_eq_true M.2.2.2.2.1
  kFS := of_decide_eq_true M.2.2.2.2.2.1
  kOF := of_decide_eq_true M.2.2.2.2.2.2.1
  kOO := of_decide_eq_true M.2.2.2.2.2.2.2.1
  kOS := of_decide_eq_true M.2.2.2.2.2.2.2.2
  }
end K11
/-! part K11U5 -/
namespace K11
open PySem PySem.Spec PyProof.Rows L2
variable {w : World} {K : PySem.W.Frag} {mg : Str → Option Value} {base : Heap}
theorem same_zero : FnOk PP w K mg base CX0 0 (He.ga K "_law_same") (fdOf K ("_law_same", none)) ["_law_actual", "_law_expected"] (sp__law_same K 0) :=
  ⟨fun vs H Q E h => (by obtain ⟨m, x, y, e, _⟩ := h; cases e), fun A outer s H args us vs Q E hr he hb hv h => (by obtain ⟨m, x, y, e, _⟩ := h; cases e)⟩
theorem same_at (T : Txt K mg) : ∀ n, FnOk PP w K mg base CX0 n (He.ga K "_law_same") (fdOf K ("_law_same", none)) ["_law_actual", "_law_expected"] (sp__law_same K n)
  | 0 => same_zero
  | n + 1 => ok__law_same T n (same_at T n) (pu__law_same T n)
theorem law_keeps (T : Txt K mg) (TB : LamX.TabB base mg (cAT K).1 (cAT K).2) : FnOk PP w K mg base CX0 11 (He.ga K "law") (fdOf K ("law", none)) ["_law_script"] (sp_law K) := by
  have G__law_same := same_at (w := w) (base := base) T 4
  have G__law_source := ok__law_source (w := w) (base := base) T  (pu__law_source T)
  have G__law_mixed := ok__law_mixed (w := w) (base := base) T  (pu__law_mixed T)
  have G__law_draw := ok__law_draw (w := w) (base := base) T G__law_mixed (pu__law_draw T)
  have G__law_widths := ok__law_widths (w := w) (base := base) T G__law_draw (pu__law_widths T)
  have G__law_pick := ok__law_pick (w := w) (base := base) T G__law_draw (pu__law_pick T)
  have G__law_in_order := ok__law_in_order (w := w) (base := base) T  (pu__law_in_order T)
  have G__law_divisor := ok__law_divisor (w := w) (base := base) T  (pu__law_divisor T)
  have G__law_made := ok__law_made (w := w) (base := base) T G__law_divisor (pu__law_made T)
  have G__law_steps := ok__law_steps (w := w) (base := base) T G__law_in_order G__law_draw G__law_pick G__law_made (pu__law_steps T)
  have G__law_pipe := ok__law_pipe (w := w) (base := base) T G__law_draw G__law_steps (pu__law_pipe T)
  have G__law_pipes := ok__law_pipes (w := w) (base := base) T G__law_draw G__law_pick G__law_pipe G__law_steps (pu__law_pipes T)
  have G__law_water := ok__law_water (w := w) (base := base) T G__law_draw (pu__law_water T)
  have G__law_filling := ok__law_filling (w := w) (base := base) T G__law_water G__law_draw (pu__law_filling T)
  have G__law_opening := ok__law_opening (w := w) (base := base) T G__law_draw (pu__law_opening T)
  have G_divisor := ok_divisor (w := w) (base := base) T  (pu_divisor T)
  have G_multiple := ok_multiple (w := w) (base := base) T G_divisor (pu_multiple T)
  have G_parts_of_grain := ok_parts_of_grain (w := w) (base := base) T G_multiple (pu_parts_of_grain T)
  have G_next_whole := ok_next_whole (w := w) (base := base) T  (pu_next_whole T)
  have G_made := ok_made (w := w) (base := base) T G_divisor (pu_made T)
  have G_in_grains := ok_in_grains (w := w) (base := base) T G_next_whole G_made (pu_in_grains T)
  have G_gauge := ok_gauge (w := w) (base := base) T G_parts_of_grain G_in_grains (pu_gauge T)
  have G_begin := ok_begin (w := w) (base := base) T G_gauge (pu_begin T)
  have G_is_integer := ok_is_integer (w := w) (base := base) T  (pu_is_integer T)
  have G_is_between := ok_is_between (w := w) (base := base) T G_is_integer (pu_is_between T)
  have G_is_width := ok_is_width (w := w) (base := base) T G_is_between (pu_is_width T)
  have G_are_widths := ok_are_widths (w := w) (base := base) T G_is_width (pu_are_widths T)
  have G_is_pair := ok_is_pair (w := w) (base := base) T  (pu_is_pair T)
  have G_is_fraction := ok_is_fraction (w := w) (base := base) T G_divisor G_is_pair G_is_integer (pu_is_fraction T)
  have G_is_threshold := ok_is_threshold (w := w) (base := base) T G_is_fraction (pu_is_threshold T)
  have G_is_below := ok_is_below (w := w) (base := base) T  (pu_is_below T)
  have G_is_list := ok_is_list (w := w) (base := base) T G_is_threshold G_is_below (pu_is_list T)
  have G_is_triple := ok_is_triple (w := w) (base := base) T  (pu_is_triple T)
  have G_is_pipe := ok_is_pipe (w := w) (base := base) T G_is_between G_is_list G_is_triple (pu_is_pipe T)
  have G_init := ok_init (w := w) (base := base) T G_begin G_are_widths G_is_pipe (pu_init T)
  have G__law_with := ok__law_with (w := w) (base := base) T  (pu__law_with T)
  have G__law_deep := ok__law_deep (w := w) (base := base) T  (pu__law_deep T)
  have G__law_strange := ok__law_strange (w := w) (base := base) T G__law_pick G__law_deep G_init (pu__law_strange T)
  have G__law_bad_filling := ok__law_bad_filling (w := w) (base := base) T G__law_with G__law_strange G__law_draw (pu__law_bad_filling T)
  have G__law_bad_opening := ok__law_bad_opening (w := w) (base := base) T G__law_draw G__law_strange (pu__law_bad_opening T)
  have G_is_row := ok_is_row (w := w) (base := base) T G_is_integer (pu_is_row T)
  have G_is_filling := ok_is_filling (w := w) (base := base) T G_is_row (pu_is_filling T)
  have G_check_filling := ok_check_filling (w := w) (base := base) T G_is_filling (pu_check_filling T)
  have G_part_of := ok_part_of (w := w) (base := base) T G_made (pu_part_of T)
  have G_levels := ok_levels (w := w) (base := base) T G_check_filling G_part_of (pu_levels T)
  have G_drops_in_grains := ok_drops_in_grains (w := w) (base := base) T  (pu_drops_in_grains T)
  have G_drops := ok_drops (w := w) (base := base) T G_check_filling G_made G_drops_in_grains (pu_drops T)
  have G_is_lot := ok_is_lot (w := w) (base := base) T G_is_between (pu_is_lot T)
  have G_check_opening := ok_check_opening (w := w) (base := base) T G_is_lot (pu_check_opening T)
  have G_opened := ok_opened (w := w) (base := base) T  (pu_opened T)
  have G_runs_at := ok_runs_at (w := w) (base := base) T  (pu_runs_at T)
  have G_flows_of := ok_flows_of (w := w) (base := base) T G_runs_at G_drops_in_grains (pu_flows_of T)
  have G_running := ok_running (w := w) (base := base) T G_check_filling G_check_opening G_opened G_flows_of (pu_running T)
  have G_flows := ok_flows (w := w) (base := base) T G_running (pu_flows T)
  have G_nets_of := ok_nets_of (w := w) (base := base) T  (pu_nets_of T)
  have G_moved := ok_moved (w := w) (base := base) T G_nets_of (pu_moved T)
  have G_tick := ok_tick (w := w) (base := base) T G_moved G_running (pu_tick T)
  have G_nets := ok_nets (w := w) (base := base) T G_nets_of G_running (pu_nets T)
  have G__law_all_told := ok__law_all_told (w := w) (base := base) T TB G_levels G_drops G_flows G_tick G_nets (pu__law_all_told T)
  have G__law_flow := ok__law_flow (w := w) (base := base) T  (pu__law_flow T)
  have G__law_level := ok__law_level (w := w) (base := base) T G__law_made (pu__law_level T)
  have G__law_added := ok__law_added (w := w) (base := base) T G__law_made (pu__law_added T)
  have G__law_drop := ok__law_drop (w := w) (base := base) T G__law_level G__law_added (pu__law_drop T)
  have G__law_flows := ok__law_flows (w := w) (base := base) T G__law_flow G__law_drop (pu__law_flows T)
  have G__law_nets := ok__law_nets (w := w) (base := base) T  (pu__law_nets T)
  have G__law_integer := ok__law_integer (w := w) (base := base) T  (pu__law_integer T)
  have G__law_is_filling := ok__law_is_filling (w := w) (base := base) T G__law_integer (pu__law_is_filling T)
  have G__law_is_opening := ok__law_is_opening (w := w) (base := base) T G__law_integer (pu__law_is_opening T)
  have G__law_behind := ok__law_behind (w := w) (base := base) T  (pu__law_behind T)
  have G__law_all_due := ok__law_all_due (w := w) (base := base) T G__law_flows G__law_nets G__law_is_filling G__law_is_opening G__law_behind G__law_level G__law_drop (pu__law_all_due T)
  have G__law_met := ok__law_met (w := w) (base := base) T G__law_same (pu__law_met T)
  have G_law := ok_law (w := w) (base := base) T G__law_source G__law_draw G__law_widths G__law_pipes G__law_filling G__law_opening G_init G__law_bad_filling G__law_bad_opening G__law_all_told G__law_all_due G__law_met (pu_law T)
  exact G_law
end K11
/-! part K11U6 -/
namespace K11
open PySem PySem.Spec PyProof.Rows L2
theorem law_at {w : World} {h : Heap} {K : PySem.W.Frag} {mg : Str → Option Value} {f : Addr} (X : K.In h) (G : h.Ns mainGlobals mg) (c : SaysY w h K) (hfa : mg ("law" : Str) = some (.ref f)) :
    LamX.LawAtS PySem.Challenge.rw_twotides_k11_whole_ticks w K CX0 11 63 "_law_script" mg f h := by
  have T : Txt K mg := txt_of X G c
  have e := hfa.symm.trans T.g_law
  cases e
  refine ⟨fdOf K ("law", none), [cAT K], sp_law K, fun p hp => ?_, fun p hp => ?_, fun p hp => ?_, fun s u => ?_, fun H a ns hl _ hT hS => ?_, fun base _ _ hTB => law_keeps T (hTB (cAT K) (List.mem_singleton.mpr rfl))⟩
  · cases List.mem_singleton.mp hp
    exact c.x.empty ("_law_all_told", none) (List.mem_singleton.mpr rfl)
  · cases List.mem_singleton.mp hp
    exact c.x.out ("_law_all_told", none) (List.mem_singleton.mpr rfl)
  · cases List.mem_singleton.mp hp
    exact PySem.W.codeHd_of_K X (c.x.hd ("_law_all_told", none) (List.mem_singleton.mpr rfl))
  · have b := FunD.bindsA (ps := ["_law_script"]) T.F_law fun _ _ _ _ _ _ us hl => match us, hl with | [_], _ => rfl
    exact b s [u] rfl
  · refine ⟨a, ns, rfl, hS, Nat.le_trans hl (by decide), fun p hp => ?_, fun _ => rfl⟩
    cases List.mem_singleton.mp hp
    exact LamX.TabS.nil (hT (cAT K) (List.mem_singleton.mpr rfl))
end K11
open PySem PySem.W PySem.Calls PyProof.Rows
theorem PySem.Challenge.cw_twotides_k11_whole_ticks_holds : PySem.Challenge.rw_twotides_k11_whole_ticks.Holds := by
  w_on; o_law
  refine HandSHeadRun.head_any (r := OpenLaw.row PySem.Challenge.rw_twotides_k11_whole_ticks) (q := view (OpenLaw.row PySem.Challenge.rw_twotides_k11_whole_ticks).prog [90]) (H := K11.hookY) (ob := K11.ob) (M := 6000) (loose := K11.loose) (d := HandSHeadRun.topDef (OpenLaw.row PySem.Challenge.rw_twotides_k11_whole_ticks).prog 90) (kwd := []) K11.ob_eq
    (by kernel_rfl) (fun s => by kernel_rfl) K11.run (by kernel_rfl) (by kernel_rfl) (by kernel_rfl) (by rfl) (by first | assumption | decide +kernel) (by decide +kernel) ⟨rfl, rfl, rfl, rfl, rfl, by decide +kernel⟩ ?hw ?hc
  case hw => w_witness2
  case hc =>
    refine LamX.walk_ofTsE (l := PySem.Challenge.rw_twotides_k11_whole_ticks) (n := 63) (k := 11) (x := "_law_script") (CX := fun _ => L2.CX0) rfl (by decide) (by kernel_rfl) ⟨rfl, by decide, by decide⟩ ?F (fun _ _ _ _ _ z => z)
    intro w mg fa h Y G hmg0
    obtain ⟨K, KX, c⟩ := Y
    have hmg : mg ("law" : PySem.Str) = some (.ref fa) := by
      have e : (HandSHeadRun.topDef (OpenLaw.row PySem.Challenge.rw_twotides_k11_whole_ticks).prog 90).name = ("law" : PySem.Str) := by kernel_rfl
      rw [← e]
      exact hmg0
    exact ⟨K, KX, K11.law_at KX G c hmg⟩
