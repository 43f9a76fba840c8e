import PyProof.Rows.All
import Wide.All
import OpenK.AllK
import Wide.FinOn
import PyProof.EqAt
import PyProof.EqKinds
import PyProof.TupleCall
import KE.GoesEnum
import HandS.Base
import HandS.Call
import HandS.List
import HandS.Iter
import HandS.Walk
import Open.SpecLaws
import KE.OsGo
import HandS.ForSpec
import HandS.Comp
import HandS.Style
import HandS.ExcInit
import HandS.ExcField
import HandS.Evl
import HandS.Text
import PyProof.NeData
import PySem.Challenge.RW_glowtiles_s01_answers
set_option Elab.async false
set_option linter.all false
section
set_option Elab.async false
set_option linter.all false
set_option maxRecDepth 100000
set_option maxHeartbeats 2000000
/-! zip of three lists, as the layer has it of two -/
namespace GT
open PySem PySem.Spec PyProof.Rows L2
/-- the lists at a, b, c as they stand at each turn, the items in new triples -/
def Itz3 (K : PySem.W.Frag) (a b c : Addr) : It :=
  ⟨fun i H => ∃ (xs ys zs : List V) (x y z : V), SqL K H a xs ∧ SqL K H b ys ∧ SqL K H c zs ∧ xs[i]? = some x ∧ ys[i]? = some y ∧ zs[i]? = some z,
    fun i H v H' => ∃ T x y z, v = .ref T ∧ H T = none ∧ H' = upd H T (.tup [x, y, z]) ∧ (∀ xs, SqL K H a xs → xs[i]? = some x) ∧ (∀ ys, SqL K H b ys → ys[i]? = some y) ∧ ∀ zs, SqL K H c zs → zs[i]? = some z,
    fun i H => ∃ xs ys zs : List V, SqL K H a xs ∧ SqL K H b ys ∧ SqL K H c zs ∧ xs.length = i ∧ ys.length = i ∧ zs.length = i⟩
theorem turn_zip3 {P : Program} {w : World} {K : PySem.W.Frag} {elts : List Expr} {kk : Nat} {tpos : Pos} {a b c z TI TO i1 i2 i3 : Addr} (D : ZipSep3 z TI TO i1 i2 i3 [i1, a] [i2, b] [i3, c]) (na : a ≠ i1) (nb : b ≠ i2) (nc : c ≠ i3) :
    Turn P w K (.Tuple elts kk tpos) (Itz3 K a b c) [z, TI, TO, i1, i2, i3] z (fun i h => IsZip h z TI TO .none ∧ IsTupOf3 h TI (.ref i1) (.ref i2) (.ref i3) ∧ (∃ x y u, IsTupOf3 h TO x y u) ∧ h.IsListIter i1 a i ∧ h.IsListIter i2 b i ∧ h.IsListIter i3 c i) where
  mem := by simp
  obj := fun i h st q hq => by
    obtain ⟨hz, hTI, ⟨x, y, u, hTO⟩, ⟨o1, e1, _, d1⟩, ⟨o2, e2, _, d2⟩, ⟨o3, e3, _, d3⟩⟩ := st
    have e' : q = z ∨ q = TI ∨ q = TO ∨ q = i1 ∨ q = i2 ∨ q = i3 := by simpa using hq
    rcases e' with q | q | q | q | q | q
    · rw [q]; exact ⟨_, hz, fun v q => nomatch q⟩
    · rw [q]; exact ⟨_, hTI, fun v q => nomatch q⟩
    · rw [q]; exact ⟨_, hTO, fun v q => nomatch q⟩
    · rw [q]; exact ⟨o1, e1, fun v q => by rw [d1] at q; cases q⟩
    · rw [q]; exact ⟨o2, e2, fun v q => by rw [d2] at q; cases q⟩
    · rw [q]; exact ⟨o3, e3, fun v q => by rw [d3] at q; cases q⟩
  keep := fun i h h' st k => by
    obtain ⟨hz, hTI, ⟨x, y, u, hTO⟩, h1, h2, h3⟩ := st
    exact ⟨k z (by simp) _ hz, k TI (by simp) _ hTI, ⟨x, y, u, k TO (by simp) _ hTO⟩, h1.at fun o q => k i1 (by simp) o q, h2.at fun o q => k i2 (by simp) o q, h3.at fun o q => k i3 (by simp) o q⟩
  item := by
    intro X hP hw hK hc i pins s σ H E I hf st hg
    subst hP hw hK
    obtain ⟨hz, hTI, ⟨x0, y0, u0, hTO⟩, h1, h2, h3⟩ := st
    obtain ⟨xs, ys, zs, x, y, u, hqx, hqy, hqz, hx, hy, hu⟩ := hg
    obtain ⟨its, rv, p, _⟩ := I.list hqx
    obtain ⟨its2, rv2, p2, _⟩ := I.list hqy
    obtain ⟨its3, rv3, p3, _⟩ := I.list hqz
    have l1 := rv.length
    have l2 := rv2.length
    have l3 := rv3.length
    have lx := (List.getElem?_eq_some_iff.mp hx).1
    have ly := (List.getElem?_eq_some_iff.mp hy).1
    have lu := (List.getElem?_eq_some_iff.mp hu).1
    have hzl : z < s.heap.objs.size := Heap.lt_size hz
    have hh : X.A.in1.handled = none := I.ok.hd hc
    refine wpAny_pyNext_zipD3_item D (Draws.list hh i1 a na its.toArray) (Draws.list hh i2 b nb its2.toArray) (Draws.list hh i3 c nc its3.toArray) hz hTI hTO ⟨h1, p.isList⟩ ⟨h2, p2.isList⟩ ⟨h3, p3.isList⟩
      (by simp; omega) (by simp; omega) (by simp; omega) fun v1 v2 v3 h' tk g1 g2 g3 z' TO' d1 d2 d3 hT hsz hk => ?_
    refine ⟨_, rfl, wpAny_letOwnedTupleGo_zip (s := { s with heap := h', toks := tk }) z' fun h'' z'' sb => ?_⟩
    have hT2 : h''.get? s.heap.objs.size = some { cls := .type "tuple", data := .seq #[v1, v2, v3] } := (sb.2 _ (Nat.ne_of_gt hzl)).trans hT
    obtain ⟨w1, e1, r1⟩ := rv.get hx
    obtain ⟨w2, e2, r2⟩ := rv2.get hy
    obtain ⟨w3, e3, r3⟩ := rv3.get hu
    have f1 : v1 = w1 := by
      have q : its[i]? = some v1 := by simpa using g1
      rw [e1] at q
      exact (Option.some.inj q).symm
    have f2 : v2 = w2 := by
      have q : its2[i]? = some v2 := by simpa using g2
      rw [e2] at q
      exact (Option.some.inj q).symm
    have f3 : v3 = w3 := by
      have q : its3[i]? = some v3 := by simpa using g3
      rw [e3] at q
      exact (Option.some.inj q).symm
    subst f1 f2 f3
    have new : ObjOk X.prog X.w (upd H s.heap.objs.size (.tup [x, y, u])) h'' s.heap.objs.size (.tup [x, y, u]) :=
      ⟨by show 3 ≤ sizeLine; decide, [v1, v2, v3], .cons r1 (.cons r2 (.cons r3 .nil)), ⟨_, hT2, rfl, _, rfl⟩⟩
    have I1 : Inv X pins σ (upd H s.heap.objs.size (.tup [x, y, u])) { s with heap := h'', toks := tk } :=
      I.turnedNew (t' := tk) (ch := [z, TI, TO, i1, i2, i3]) (fun q o hb e => (sb.2 q (fun q' => hb (by simp [q']))).trans (hk q o (fun q' => hb (by simp [q'])) (fun q' => hb (by simp [q'])) (fun q' => hb (by simp [q'])) (fun q' => hb (by simp [q'])) (fun q' => hb (by simp [q'])) e)) hf (Nat.le_refl _) new
    refine ⟨.ref s.heap.objs.size, _, I1, rfl, ⟨_, x, y, u, rfl, I.hok.fresh (Nat.le_refl _), rfl, fun l hl => by rw [I.list_inj hl hqx]; exact hx, fun l hl => by rw [I.list_inj hl hqy]; exact hy, fun l hl => by rw [I.list_inj hl hqz]; exact hu⟩, ⟨z'', ?_, ⟨v1, v2, v3, ?_⟩, ?_, ?_, ?_⟩, fun q hq => ?_⟩
    · exact (sb.2 _ D.TIz).trans (hk _ _ D.TIz D.TITO D.TIi1 D.TIi2 D.TIi3 hTI)
    · exact (sb.2 _ D.TOz).trans TO'
    · exact d1.1.at fun o q => (sb.2 _ (Ne.symm D.zi1)).trans q
    · exact d2.1.at fun o q => (sb.2 _ (Ne.symm D.zi2)).trans q
    · exact d3.1.at fun o q => (sb.2 _ (Ne.symm D.zi3)).trans q
    · have hlt : q < s.heap.objs.size := by
        have e' : q = z ∨ q = TI ∨ q = TO ∨ q = i1 ∨ q = i2 ∨ q = i3 := by simpa using hq
        rcases e' with q | q | q | q | q | q
        · rw [q]; exact hzl
        · rw [q]; exact Heap.lt_size hTI
        · rw [q]; exact Heap.lt_size hTO
        · rw [q]; obtain ⟨_, e1, _⟩ := h1; exact Heap.lt_size e1
        · rw [q]; obtain ⟨_, e2, _⟩ := h2; exact Heap.lt_size e2
        · rw [q]; obtain ⟨_, e3, _⟩ := h3; exact Heap.lt_size e3
      rw [upd_ne (Nat.ne_of_lt hlt)]
      exact (hf q hq).1
  done := by
    intro X hP hw hK hc i pins s σ H E I hf st hg
    subst hP hw hK
    obtain ⟨hz, hTI, ⟨x0, y0, u0, hTO⟩, h1, h2, h3⟩ := st
    obtain ⟨xs, ys, zs, hqx, hqy, hqz, e1, e2, e3⟩ := hg
    obtain ⟨its, rv, p, _⟩ := I.list hqx
    obtain ⟨its2, rv2, p2, _⟩ := I.list hqy
    obtain ⟨its3, rv3, p3, _⟩ := I.list hqz
    have l1 := rv.length
    have l2 := rv2.length
    have l3 := rv3.length
    have hh : X.A.in1.handled = none := I.ok.hd hc
    exact wpAny_pyNext_zipD3_end D (Draws.list hh i1 a na its.toArray) (Draws.list hh i2 b nb its2.toArray) (Draws.list hh i3 c nc its3.toArray) hz hTI hTO ⟨h1, p.isList⟩ ⟨h2, p2.isList⟩ ⟨h3, p3.isList⟩
      (by simp; omega) (by simp; omega) (by simp; omega) (.inl (by simp; omega)) fun h' tk hk => ⟨rfl, I.turnedL (t' := tk) (ch := [z, TI, TO, i1, i2, i3]) (fun q o hb e =>
      hk q o (fun q' => hb (by simp [q'])) (fun q' => hb (by simp [q'])) (fun q' => hb (by simp [q'])) (fun q' => hb (by simp [q'])) (fun q' => hb (by simp [q'])) e) hf⟩
  self := fun A i s Q E st h => wpAny_pyIter_zip st.1 h
def iZip3 (K : PySem.W.Frag) (ta : TA) : TI := fun σ H R => ta σ H fun vs H1 => ∃ a b c xs ys zs, vs = [.ref a, .ref b, .ref c] ∧ SqL K H1 a xs ∧ SqL K H1 b ys ∧ SqL K H1 c zs ∧ R (Itz3 K a b c) H1
theorem pi_zip3 {X : Cx} {e e2 e3 : Expr} {ta : TA} {p pos tpos : Pos} {elts : List Expr} {kk : Nat} (hg : Gl X "zip") (hm : X.mg "zip" = none) (ha : PA X [e, e2, e3] ta)
    (hs : starEach [e, e2, e3] X.env = (false, eval e X.env) :: starEach [e2, e3] X.env := by rfl) (hpl : (backTo pos (starEach [e2, e3] X.env)).any (·.1) = false := by rfl) :
    PI X (.Tuple elts kk tpos) (.Call (.Name "zip" p) [e, e2, e3] [] pos) (iZip3 X.K ta) := by
  refine ⟨fun pins s σ H R I h => ?_⟩
  refine Call_ (ld_blt I hg hm PyProof.Rows.boot_zip (PyProof.Rows.callWith_type1 (thn (ha.run pos pins s σ H _ I h) fun us s1 ⟨vs, H1, I1, r1, q1⟩ => ?_) hs hpl))
  obtain ⟨a, b, c, xs, ys, zs, ex, hqx, hqy, hqz, q⟩ := q1
  subst ex
  cases r1 with
  | cons r rr =>
    cases rr with
    | cons r' rr =>
      cases rr with
      | cons r'' rr =>
        cases rr
        cases r
        cases r'
        cases r''
        obtain ⟨its, rv, p1, _⟩ := I1.list hqx
        obtain ⟨its2, rv2, p2, _⟩ := I1.list hqy
        obtain ⟨its3, rv3, p3, _⟩ := I1.list hqz
        have la : a < s1.heap.objs.size := p1.lt
        have lb : b < s1.heap.objs.size := p2.lt
        have lc : c < s1.heap.objs.size := p3.lt
        refine zip_begins3 (begins_list a its.toArray) (begins_list b its2.toArray) (begins_list c its3.toArray) p1.isList p2.isList p3.isList fun h' hz hTI hTO h1 h2 h3 hsz hk => wpAny_pyIter_zip hz ?_
        have I2 : Inv X pins σ H1 { s1 with heap := h' } := I1.kept (t' := s1.toks) hk
        refine ⟨s1.heap.objs.size + 5, [s1.heap.objs.size + 5, s1.heap.objs.size + 3, s1.heap.objs.size + 4, s1.heap.objs.size, s1.heap.objs.size + 1, s1.heap.objs.size + 2], _, _, H1, rfl, I2,
          turn_zip3 (zip_sep3 (N := s1.heap.objs.size) (fp1 := [a]) (fp2 := [b]) (fp3 := [c]) (fun q hq => by rw [List.mem_singleton.mp hq]; exact la) (fun q hq => by rw [List.mem_singleton.mp hq]; exact lb) (fun q hq => by rw [List.mem_singleton.mp hq]; exact lc))
            (Nat.ne_of_lt la) (Nat.ne_of_lt (Nat.lt_succ_of_lt lb)) (Nat.ne_of_lt (Nat.lt_succ_of_lt (Nat.lt_succ_of_lt lc))), ⟨hz, hTI, ⟨_, _, _, hTO⟩, ⟨_, h1, rfl, rfl⟩, ⟨_, h2, rfl, rfl⟩, ⟨_, h3, rfl, rfl⟩⟩, fun q hq => ?_, q⟩
        have e' : q = s1.heap.objs.size + 5 ∨ q = s1.heap.objs.size + 3 ∨ q = s1.heap.objs.size + 4 ∨ q = s1.heap.objs.size ∨ q = s1.heap.objs.size + 1 ∨ q = s1.heap.objs.size + 2 := by simpa using hq
        have hle : s1.heap.objs.size ≤ q := by
          rcases e' with z | z | z | z | z | z
          · rw [z]; exact Nat.le_add_right _ _
          · rw [z]; exact Nat.le_add_right _ _
          · rw [z]; exact Nat.le_add_right _ _
          · rw [z]; exact Nat.le_refl _
          · rw [z]; exact Nat.le_add_right _ _
          · rw [z]; exact Nat.le_add_right _ _
        exact I1.fpOk hle (I1.hok.fresh hle)
/-- a new triple of the i-th of xs, ys, zs -/
def YTri (xs ys zs : Nat → Option V) : Nat → Hp → V → Hp → Prop := fun i H v H' => ∃ T x y z, v = .ref T ∧ H T = none ∧ H' = upd H T (.tup [x, y, z]) ∧ xs i = some x ∧ ys i = some y ∧ zs i = some z
theorem walk_zip3 {K : PySem.W.Frag} {a b c : Addr} {xs ys zs : List V} {n : Nat} (h1 : xs.length = n) (h2 : ys.length = n) (h3 : zs.length = n) :
    Walk (Itz3 K a b c) n (fun H => SqL K H a xs ∧ SqL K H b ys ∧ SqL K H c zs) (YTri (fun i => xs[i]?) (fun i => ys[i]?) (fun i => zs[i]?)) := by
  refine ⟨fun i _ hi q => ?_, fun _ q => ⟨xs, ys, zs, q.1, q.2.1, q.2.2, h1, h2, h3⟩, fun i H v H' _ q y => ?_⟩
  · have l1 : i < xs.length := by omega
    have l2 : i < ys.length := by omega
    have l3 : i < zs.length := by omega
    exact ⟨xs, ys, zs, xs[i], ys[i], zs[i], q.1, q.2.1, q.2.2, by simp [l1], by simp [l2], by simp [l3]⟩
  · obtain ⟨T, x, z, u, e1, e2, e3, e4, e5, e6⟩ := y
    exact ⟨T, x, z, u, e1, e2, e3, e4 xs q.1, e5 ys q.2.1, e6 zs q.2.2⟩
end GT
end
section
set_option Elab.async false
set_option linter.all false
set_option maxRecDepth 100000
set_option maxHeartbeats 2000000
namespace GT
open PySem PySem.Spec PyProof.Rows L2
/-! ### short names of operations -/
def oAdd : R2 := rI0 fun i j => .int (i + j)
def oSub : R2 := rI0 fun i j => .int (i - j)
def oMul : R2 := rI CMul fun i j => .int (i * j)
def oDiv : R2 := rI CDiv fun i j => .int (i / j)
def oMod : R2 := rI (fun _ j => 0 < j) fun i j => .int (i % j)
def oXor : R2 := rI0 fun i j => .int (Builtin.bitXor i j)
def oLt : R2 := rI0 fun i j => .bl (decide (i < j))
def oLe : R2 := rI0 fun i j => .bl (decide (i ≤ j))
def oGt : R2 := rI0 fun i j => .bl (decide (j < i))
def oGe : R2 := rI0 fun i j => .bl (decide (j ≤ i))
def oNeg : V → Hp → VK → Prop := rU fun i => .int (-i)
def oMin2 : List V → Hp → VK → Prop := fun xs H Q => ∃ i j, xs = [.int i, .int j] ∧ Q (.int (if j < i then j else i)) H
def oMax2 : List V → Hp → VK → Prop := fun xs H Q => ∃ i j, xs = [.int i, .int j] ∧ Q (.int (if j > i then j else i)) H
def oAbs : List V → Hp → VK → Prop := fun xs H Q => ∃ i, xs = [.int i] ∧ Q (.int (if i < 0 then -i else i)) H
/-! ### a list beside an empty one -/
def rEqE (K : PySem.W.Frag) : R2 := fun x y H Q => ∃ p q xs, x = .ref p ∧ y = .ref q ∧ SqL K H p xs ∧ SqL K H q [] ∧ Q (.bl xs.isEmpty) H
def rNeE (K : PySem.W.Frag) : R2 := fun x y H Q => ∃ p q xs, x = .ref p ∧ y = .ref q ∧ SqL K H p xs ∧ SqL K H q [] ∧ Q (.bl (!xs.isEmpty)) H
section
variable {X : Cx}
theorem op_eqE (hu : X.A.units < cLine) : OpR X (compareOp .Eq) (rEqE X.K) := by
  intro pins s σ H x y v u Q I rx ry h
  obtain ⟨p, q, xs, rfl, rfl, h1, h2, k⟩ := h
  cases rx
  cases ry
  obtain ⟨its, rv, pl, _⟩ := I.list h1
  obtain ⟨its2, rv2, pl2, _⟩ := I.list h2
  have l1 := rv.length
  have l2 := rv2.length
  simp at l2
  by_cases hx : xs.length = 0
  · have e : xs.isEmpty = true := by simpa using hx
    rw [e] at k
    refine SeqAt.eq_listAt (e := fun _ => true) pl.isList pl2.isList (by simp; omega) hu (fun j j1 j2 => by simp at j1; omega) ⟨.bl true, H, I, ?_, k⟩
    show _ = _
    rw [List.all_eq_true.mpr (fun _ _ => rfl)]
  · have e : xs.isEmpty = false := by
      cases xs with
      | nil => simp at hx
      | cons _ _ => rfl
    rw [e] at k
    exact SeqAt.eq_list_lengthsAt pl.isList pl2.isList (by simp; omega) hu ⟨.bl false, H, I, rfl, k⟩
theorem op_neE (hu : X.A.units < cLine) : OpR X (compareOp .NotEq) (rNeE X.K) := by
  intro pins s σ H x y v u Q I rx ry h
  obtain ⟨p, q, xs, rfl, rfl, h1, h2, k⟩ := h
  cases rx
  cases ry
  obtain ⟨its, rv, pl, _⟩ := I.list h1
  obtain ⟨its2, rv2, pl2, _⟩ := I.list h2
  have l1 := rv.length
  have l2 := rv2.length
  simp at l2
  by_cases hx : xs.length = 0
  · have e : xs.isEmpty = true := by simpa using hx
    rw [e] at k
    refine SeqAt.RcNeAt.lists (e := fun _ => true) pl.isList pl2.isList (by simp; omega) hu (fun j j1 j2 => by simp at j1; omega) _ _ _ _ ⟨.bl false, H, I, ?_, k⟩
    show _ = _
    rw [List.all_eq_true.mpr (fun _ _ => rfl)]
    rfl
  · have e : xs.isEmpty = false := by
      cases xs with
      | nil => simp at hx
      | cons _ _ => rfl
    rw [e] at k
    exact SeqAt.RcNeAt.lists_lengths pl.isList pl2.isList (by simp; omega) hu _ _ _ _ ⟨.bl true, H, I, rfl, k⟩
end
/-! ### the text by places -/
def topS (i : Nat) : Stmt := PySem.Challenge.pw_glowtiles_s01_answers.main.body.getD i (.Pass ⟨0, 0, 0, 0⟩)
/-! ### addresses of the classes and of the two written tuples -/
structure Ad where
  CS : Addr
  CL : Addr
  CD : Addr
  CR : Addr
  aS : Addr
  aG : Addr
def SCREENs : List V := [.int 0, .int 8, .int 2, .int 10, .int 12, .int 4, .int 14, .int 6, .int 3, .int 11, .int 1, .int 9, .int 15, .int 7, .int 13, .int 5]
def GIVENs : List V := [.int 0, .int 2, .int 4, .int 4, .int 9, .int 8, .int 3, .int 2, .int 1, .int 1, .int 2, .int 12, .int 3, .int 1, .int 0, .int 0, .int 2, .int 0, .int 0]
/-- a constant of the module -/
def Gc (mg : Str → Option Value) (x : Str) (n : Int) : Prop := ∃ t, mg x = some (.int n t)
/-- what the top has written -/
structure Txt (K : PySem.W.Frag) (mg : Str → Option Value) (A : Ad) : Prop where
  clSize : Cls K A.CS
  clLayer : Cls K A.CL
  clDesk : Cls K A.CD
  nWidth : NoAttr K A.CS "width"
  nHeight : NoAttr K A.CS "height"
  nSide : NoAttr K A.CL "side"
  nAcross : NoAttr K A.CL "across"
  nDown : NoAttr K A.CL "down"
  nCorners : NoAttr K A.CL "corners"
  nSizes : NoAttr K A.CD "sizes"
  nStack : NoAttr K A.CD "stack"
  cMOST : Gc mg "MOST" 65535
  cCHANNELS : Gc mg "CHANNELS" 4
  cCOLOURS : Gc mg "COLOURS" 3
  cUNIT : Gc mg "UNIT" 256
  cFULL : Gc mg "FULL" 65536
  cMIDDLE : Gc mg "MIDDLE" 32768
  cWORD : Gc mg "WORD" 4294967296
  cHALF : Gc mg "HALF" 65536
  cOUT : Gc mg "OUT" (-2)
  cTOO_FEW : Gc mg "TOO_FEW" (-4)
  cTOO_MANY : Gc mg "TOO_MANY" (-5)
  cNO_STACK : Gc mg "NO_STACK" (-7)
  cMOST_PICTURES : Gc mg "MOST_PICTURES" 8
  gSCREEN : mg "SCREEN" = some (.ref A.aS)
  gGIVEN : mg "GIVEN" = some (.ref A.aG)
  tSCREEN : ∀ H : Hp, SqT K H A.aS SCREENs
  tGIVEN : ∀ H : Hp, SqT K H A.aG GIVENs
  bLen : mg "len" = none
  bMin : mg "min" = none
  bMax : mg "max" = none
  bAbs : mg "abs" = none
  bSum : mg "sum" = none
  bZip : mg "zip" = none
  bRange : mg "range" = none
  bEnum : mg "enumerate" = none
  gRefused : mg "Refused" = some (.ref A.CR)
  xc : OexC K A.CR
  xf : XfC K A.CR
  noCode : PySem.W.findIn K (.ref A.CR) "code" = some none
  te : PySem.W.exmOne K (.ref A.CR) (.ref A.CR) = some true
/-! ### what is had of a def, a method, a class -/
def HvF (P : Program) (w : World) (K : PySem.W.Frag) (mg : Str → Option Value) (base : Heap) (CX : CXT) (k : Nat) (x : Str) (ps : List Str) (sp : Sp) : Prop :=
  ∃ f fd, FnOk P w K mg base CX k f fd ps sp ∧ mg x = some (.ref f) ∧ PySem.W.keepIn K (.ref f) = true ∧ Binds K fd ps []
def HvM (P : Program) (w : World) (K : PySem.W.Frag) (mg : Str → Option Value) (base : Heap) (CX : CXT) (k : Nat) (C : Addr) (m : Str) (ps : List Str) (sp : Sp) : Prop :=
  ∃ f fd, FnOk P w K mg base CX k f fd ps sp ∧ Meth K C m f ∧ Binds K fd ps []
def HvC (P : Program) (w : World) (K : PySem.W.Frag) (mg : Str → Option Value) (base : Heap) (CX : CXT) (k : Nat) (C : Addr) (x : Str) (ps : List Str) (sp : Sp) : Prop :=
  ∃ f fd, FnOk P w K mg base CX k f fd ps sp ∧ Mk K C f ∧ mg x = some (.ref C) ∧ Binds K fd ps []
def HvR (P : Program) (w : World) (K : PySem.W.Frag) (mg : Str → Option Value) (base : Heap) (CX : CXT) (k : Nat) (C : Addr) (x : Str) (ps : List Str) (sp : Sp) : Prop :=
  ∃ f fd, FnOk P w K mg base CX k f fd ps sp ∧ PySem.W.findIn K (.ref C) "__init__" = some (some (.ref f)) ∧ PySem.W.typeIn K (.ref f) = some (.type "function") ∧ Binds K fd ps []
/-- o.m(e, ..) within a try: what it raises is wished for at the slots as they stand -/
def tMethT (C : Addr) (m : Str) (sp : Sp) (E : L2.St → XK) (ta : TE) (t : TA) : TE := fun σ H Q => ta σ H fun x H1 => ∃ a dx fs, x = .ref a ∧ H1 a = some (.ins C dx fs) ∧ fs.lookup m = none ∧ t σ H1 fun vs H2 => sp (x :: vs) H2 Q (E σ)
def tRaiseR (C : Addr) (sp : Sp) (E : XK) (ta : TA) : TS := fun _ σ H => tMkO C sp [] ta σ H fun cls d H' => E cls d H'
def tTry (K : PySem.W.Frag) (A : Ad) (i : Nat) (tb : WX → TS) (ts : Addr → Value → Option Addr → TS) : TS := fun D σ H => tb (wAs K (.ref A.CR) i ts (fun _ _ _ _ => False) D) D σ H
theorem _root_.L2.Room.un0 {k : Nat} {A : Around} (hr : Room k A) : A.units < cLine := by
  have := hr.un
  omega
section
variable {X : Cx} {CX : CXT} {k : Nat} {C : Addr} {ps : List Str} {sp : Sp} {E : XK} {x m : Str} {p pos apos : Pos} {e o : Expr} {es : List Expr} {ta : TE} {t : TA}
theorem pe_gi {n : Int} (h : Gc X.mg x n) (hg : Gl X x := by rfl) (hd : (x == ("__debug__" : Str)) = false := by decide) : PE X (.Name x pos) (tC (.int n)) := by
  obtain ⟨u, hm⟩ := h
  exact pe_glob hg hm ⟨u, rfl⟩ hd
theorem pe_gr {a : Addr} (h : X.mg x = some (.ref a)) (hg : Gl X x := by rfl) (hd : (x == ("__debug__" : Str)) = false := by decide) : PE X (.Name x pos) (tC (.ref a)) := pe_glob hg h rfl hd
theorem pe_cF (h : HvF X.prog X.w X.K X.mg X.base CX k x ps sp) (hr : Room k X.A) (hx : Passes CX X E) (ha : PA X (e :: es) t) (hg : Gl X x := by rfl) (hdb : (x == ("__debug__" : Str)) = false := by decide)
    (he : starEach (e :: es) X.env = (false, eval e X.env) :: starEach es X.env := by rfl) (hpl : (backTo pos (starEach es X.env)).any (·.1) = false := by rfl) : PE X (.Call (.Name x p) (e :: es) [] pos) (tCall sp [] E t) := by
  obtain ⟨f, fd, F, mx, kp, b⟩ := h
  exact pe_call F hr hg mx kp b .nil hx ha hdb he hpl
theorem pe_cFS {E : L2.St → XK} (h : HvF X.prog X.w X.K X.mg X.base CX k x ps sp) (hr : Room k X.A) (hx : ∀ σ, PassesAt CX X σ (E σ)) (ha : PA X (e :: es) t) (hg : Gl X x := by rfl) (hdb : (x == ("__debug__" : Str)) = false := by decide)
    (he : starEach (e :: es) X.env = (false, eval e X.env) :: starEach es X.env := by rfl) (hpl : (backTo pos (starEach es X.env)).any (·.1) = false := by rfl) : PE X (.Call (.Name x p) (e :: es) [] pos) (tCallS sp E t) := by
  obtain ⟨f, fd, F, mx, kp, b⟩ := h
  exact pe_callS F hr hg mx kp b hx ha hdb he hpl
theorem pe_cM {pl : Sem Bool} (c : Cls X.K C) (h : HvM X.prog X.w X.K X.mg X.base CX k C m ps sp) (hr : Room k X.A) (hx : Passes CX X E) (ho : PE X o ta) (ha : PA X (e :: es) t)
    (hst : starEach (e :: es) X.env = (false, eval e X.env) :: starEach es X.env := by rfl) (hpl : (backTo pos (starEach es X.env)).any (·.1) = false := by rfl)
    (ht : eval (.Call (.Attribute o m apos) (e :: es) [] pos) X.env = (do
      let ov ← eval o X.env
      standAt apos.atName
      let (f, first) ← holding [ov] (getMethod ov m pl)
      callWith pos f first (backTo pos (starEach (e :: es) X.env)) (backToKw pos (keywordEach [] X.env))) := by rfl) : PE X (.Call (.Attribute o m apos) (e :: es) [] pos) (tMeth C m sp [] E ta t) := by
  obtain ⟨f, fd, F, mt, b⟩ := h
  exact pe_meth ho c mt F hr b .nil hx ha hst hpl ht
theorem pe_cM0 {pl : Sem Bool} (c : Cls X.K C) (h : HvM X.prog X.w X.K X.mg X.base CX k C m ps sp) (hr : Room k X.A) (hx : Passes CX X E) (ho : PE X o ta)
    (ht : eval (.Call (.Attribute o m apos) [] [] pos) X.env = (do
      let ov ← eval o X.env
      standAt apos.atName
      let (f, first) ← holding [ov] (getMethod ov m pl)
      callWith pos f first (backTo pos (starEach [] X.env)) (backToKw pos (keywordEach [] X.env))) := by rfl) : PE X (.Call (.Attribute o m apos) [] [] pos) (tMeth C m sp [] E ta tNil) := by
  obtain ⟨f, fd, F, mt, b⟩ := h
  exact pe_meth0 ho c mt F hr b .nil hx ht
theorem run_fnT {fd : FuncData} {f : Addr} {E : L2.St → XK} {pins : List (Addr × Obj)} {σ : L2.St} {H : Hp} {s : Shared} {Q : VK} {us : List Value} {vs : List V} (F : FnOk X.prog X.w X.K X.mg X.base CX k f fd ps sp) (hr : Room k X.A) (hb : Binds X.K fd ps []) (hx : PassesAt CX X σ (E σ))
    (I : Inv X pins σ H s) (r : Vals vs us) (h : sp vs H Q (E σ)) : wpAny (model X.prog X.w) X.A (call (.ref f) us) (EP X pins σ Q) X.xe s := run_fnS F hr hb hx I r h
theorem pe_cMT {E : L2.St → XK} {pl : Sem Bool} (c : Cls X.K C) (h : HvM X.prog X.w X.K X.mg X.base CX k C m ps sp) (hr : Room k X.A) (hx : ∀ σ, PassesAt CX X σ (E σ)) (ho : PE X o ta) (ha : PA X (e :: es) t)
    (hst : starEach (e :: es) X.env = (false, eval e X.env) :: starEach es X.env := by rfl) (hpl : (backTo pos (starEach es X.env)).any (·.1) = false := by rfl)
    (ht : eval (.Call (.Attribute o m apos) (e :: es) [] pos) X.env = (do
      let ov ← eval o X.env
      standAt apos.atName
      let (f, first) ← holding [ov] (getMethod ov m pl)
      callWith pos f first (backTo pos (starEach (e :: es) X.env)) (backToKw pos (keywordEach [] X.env))) := by rfl) : PE X (.Call (.Attribute o m apos) (e :: es) [] pos) (tMethT C m sp E ta t) := by
  obtain ⟨f, fd, F, mt, b⟩ := h
  refine ⟨fun pins s σ H Q I h => ?_⟩
  refine PySem.W.methodCall_KW (pl := pl) (thn (ho.run pins s σ H _ I h) fun u s1 ⟨x, H1, I1, rx, a, dx, fs, ex, ea, l, q⟩ => ?_) ht
  subst ex
  obtain rfl : u = Value.ref a := rx
  refine getmeth_ok I1 ea c mt l ?_
  refine PySem.W.callWith_K (first := [.ref a]) (h₀ := X.base) I.ok.mod.kin mt.kp (thn (ha.run pos pins s1 σ H1 _ I1 q) fun us s2 ⟨vs, H2, I2, r, q2⟩ => ⟨I2.kIn, ?_⟩) hst hpl
  exact run_fnS (us := .ref a :: us) (vs := .ref a :: vs) F hr b (hx σ) I2 (.cons rfl r) q2
theorem pe_cC (h : HvC X.prog X.w X.K X.mg X.base CX k C x ps sp) (hr : Room (k + 1) X.A) (hx : Passes CX X E) (ha : PA X (e :: es) t) (hg : Gl X x := by rfl) (hdb : (x == ("__debug__" : Str)) = false := by decide)
    (he : starEach (e :: es) X.env = (false, eval e X.env) :: starEach es X.env := by rfl) (hpl : (backTo pos (starEach es X.env)).any (·.1) = false := by rfl) : PE X (.Call (.Name x p) (e :: es) [] pos) (tMake C sp [] E t) := by
  obtain ⟨f, fd, F, mk, mx, b⟩ := h
  exact pe_make mk F hr hg mx b .nil hx ha hdb he hpl
theorem pe_cC0 (h : HvC X.prog X.w X.K X.mg X.base CX k C x ps sp) (hr : Room (k + 1) X.A) (hx : Passes CX X E) (hg : Gl X x := by rfl) (hdb : (x == ("__debug__" : Str)) = false := by decide) : PE X (.Call (.Name x p) [] [] pos) (tMake C sp [] E tNil) := by
  obtain ⟨f, fd, F, mk, mx, b⟩ := h
  exact pe_make0 mk F hr hg mx b .nil hx hdb
theorem ps_raiseR {A : Ad} {pos2 : Pos} {E : XK} (T : Txt X.K X.mg A) (hc : X.calm = true) (tk : Takes X (fun cls d _ H => E cls d H)) (h : HvR X.prog X.w X.K X.mg X.base CX0 k A.CR "Refused" ps sp) (hr : Room (k + 1) X.A) (ha : PA X (e :: es) t)
    (hg : Gl X "Refused" := by rfl) (he : starEach (e :: es) X.env = (false, eval e X.env) :: starEach es X.env := by rfl) (hpl : (backTo pos (starEach es X.env)).any (·.1) = false := by rfl) :
    PS X (.Raise (some (.Call (.Name "Refused" p) (e :: es) [] pos)) none pos2) (tRaiseR A.CR sp E t) := by
  obtain ⟨f, fd, F, iC, tI, b⟩ := h
  exact ps_raise hc tk (pmk_oex T.xc iC tI F hr b .nil (fun _ _ _ _ _ _ _ z => z.elim) hg T.gRefused ha (by decide) he hpl)
end
end GT
end
section
set_option Elab.async false
set_option linter.all false
set_option maxRecDepth 100000
set_option maxHeartbeats 2000000
/-! what a reading comes to: over Evl, with iterations and lists that grow -/
namespace GT
open PySem PySem.Spec PyProof.Rows L2
open Evl (Ex Ev EvL EvU EvT EvA EvO RV RU RC ev_var ev_c ev_op ev_un rv_I0 rv_I et_test et_B et_not ev_if ea_nil ea_cons eo_none eo_some ev_cb fresh_back sq_of st_of ev_andV)
variable {K : PySem.W.Frag} {A : Ad} {σ : L2.St} {H H1 H2 H' : Hp} {ta tb te tl : TE} {t u : TT} {x y z v : V} {D : Ends} {tu tw tz tbd : TS} {g : TG} {ar : TA}
/-! ### operations on ints -/
theorem rv_add {i j : Int} : RV oAdd (.int i) (.int j) H (.int (i + j)) := fun H1 _ _ q => ⟨i, j, rfl, rfl, q H1 (Ex.refl H1)⟩
theorem rv_sub {i j : Int} : RV oSub (.int i) (.int j) H (.int (i - j)) := fun H1 _ _ q => ⟨i, j, rfl, rfl, q H1 (Ex.refl H1)⟩
theorem rv_xor {i j : Int} : RV oXor (.int i) (.int j) H (.int (Builtin.bitXor i j)) := fun H1 _ _ q => ⟨i, j, rfl, rfl, q H1 (Ex.refl H1)⟩
theorem rv_mul {i j : Int} (h : CMul i j) : RV oMul (.int i) (.int j) H (.int (i * j)) := fun H1 _ _ q => ⟨i, j, rfl, rfl, h, q H1 (Ex.refl H1)⟩
theorem rv_div {i j : Int} (h : CDiv i j) : RV oDiv (.int i) (.int j) H (.int (i / j)) := fun H1 _ _ q => ⟨i, j, rfl, rfl, h, q H1 (Ex.refl H1)⟩
theorem rv_mod {i j : Int} (h : 0 < j) : RV oMod (.int i) (.int j) H (.int (i % j)) := fun H1 _ _ q => ⟨i, j, rfl, rfl, h, q H1 (Ex.refl H1)⟩
theorem rv_lt {i j : Int} : RV oLt (.int i) (.int j) H (.bl (decide (i < j))) := fun H1 _ _ q => ⟨i, j, rfl, rfl, q H1 (Ex.refl H1)⟩
theorem rv_le {i j : Int} : RV oLe (.int i) (.int j) H (.bl (decide (i ≤ j))) := fun H1 _ _ q => ⟨i, j, rfl, rfl, q H1 (Ex.refl H1)⟩
theorem rv_gt {i j : Int} : RV oGt (.int i) (.int j) H (.bl (decide (j < i))) := fun H1 _ _ q => ⟨i, j, rfl, rfl, q H1 (Ex.refl H1)⟩
theorem rv_ge {i j : Int} : RV oGe (.int i) (.int j) H (.bl (decide (j ≤ i))) := fun H1 _ _ q => ⟨i, j, rfl, rfl, q H1 (Ex.refl H1)⟩
theorem ru_neg {i : Int} : RU oNeg (.int i) H (.int (-i)) := fun H1 _ _ q => ⟨i, rfl, q H1 (Ex.refl H1)⟩
theorem rv_eqI {i j : Int} : RV rEq (.int i) (.int j) H (.bl (decide (i = j))) := fun H1 _ _ q => ⟨rfl, by
  have e : decide ((V.int i) = V.int j) = decide (i = j) := by
    by_cases h : i = j
    · subst h; simp
    · rw [decide_eq_false h, decide_eq_false (fun z => h (V.int.inj z))]
  rw [e]; exact q H1 (Ex.refl H1)⟩
theorem ev_min {i j : Int} (ha : Ev ta σ H (.int i)) (hb : Ev tb σ H (.int j)) : Ev (tCB oMin2 (tCons ta (tCons tb tNil))) σ H (.int (min i j)) := fun H1 e Q q =>
  ha H1 e _ fun H2 e2 => hb H2 (e.trans e2) _ fun H3 e3 => ⟨i, j, rfl, by
    have h : (if j < i then j else i) = min i j := by split <;> omega
    rw [h]; exact q H3 (e2.trans e3)⟩
theorem ev_max {i j : Int} (ha : Ev ta σ H (.int i)) (hb : Ev tb σ H (.int j)) : Ev (tCB oMax2 (tCons ta (tCons tb tNil))) σ H (.int (max i j)) := fun H1 e Q q =>
  ha H1 e _ fun H2 e2 => hb H2 (e.trans e2) _ fun H3 e3 => ⟨i, j, rfl, by
    have h : (if j > i then j else i) = max i j := by split <;> omega
    rw [h]; exact q H3 (e2.trans e3)⟩
theorem ev_abs {i : Int} (ha : Ev ta σ H (.int i)) : Ev (tCB oAbs (tCons ta tNil)) σ H (.int (if i < 0 then -i else i)) := fun H1 e Q q =>
  ha H1 e _ fun H2 e2 => ⟨i, rfl, q H2 e2⟩
theorem ev_eq (h : Ev te σ H v) (e : v = z) : Ev te σ H z := by rw [← e]; exact h
/-! ### a value of which something is known -/
def EvP (te : TE) (σ : L2.St) (H : Hp) (P : V → Hp → Prop) : Prop := ∀ H1, Ex H H1 → ∀ Q : VK, (∀ v H2, Ex H1 H2 → P v H2 → Q v H2) → te σ H1 Q
def EvAP (ta : TA) (σ : L2.St) (H : Hp) (P : List V → Hp → Prop) : Prop := ∀ H1, Ex H H1 → ∀ Q : List V → Hp → Prop, (∀ vs H2, Ex H1 H2 → P vs H2 → Q vs H2) → ta σ H1 Q
theorem p_of_ev (h : Ev te σ H v) : EvP te σ H (fun w _ => w = v) := fun H1 e Q q => h H1 e Q fun H2 e2 => q v H2 e2 rfl
theorem ev_of_p {P : V → Hp → Prop} (h : EvP te σ H P) (hp : ∀ w H', P w H' → w = v) : Ev te σ H v := fun H1 e Q q => h H1 e Q fun w H2 e2 p => by
  rw [hp w H2 p]; exact q H2 e2
theorem EvP.mono {P : V → Hp → Prop} (e : Ex H H') (h : EvP te σ H P) : EvP te σ H' P := fun H1 a Q q => h H1 (e.trans a) Q q
theorem EvP.imp {P P' : V → Hp → Prop} (h : EvP te σ H P) (k : ∀ v H', P v H' → P' v H') : EvP te σ H P' := fun H1 a Q q => h H1 a Q fun v H2 e2 p => q v H2 e2 (k v H2 p)
theorem pa_of_ea {vs : List V} (h : EvA ar σ H vs) : EvAP ar σ H (fun ws _ => ws = vs) := fun H1 e Q q => h H1 e Q fun H2 e2 => q vs H2 e2 rfl
theorem eap_cons {P : V → Hp → Prop} {R : List V → Hp → Prop} (h : EvP te σ H P) (hr : EvAP ar σ H R) (hP : ∀ v H1 H2, Ex H1 H2 → P v H1 → P v H2) :
    EvAP (tCons te ar) σ H (fun vs H' => ∃ v r, vs = v :: r ∧ P v H' ∧ R r H') := fun H1 e Q q =>
  h H1 e _ fun v H2 e2 p => hr H2 (e.trans e2) _ fun vs H3 e3 r => q _ H3 (e2.trans e3) ⟨v, vs, rfl, hP _ _ _ e3 p, r⟩
/-! ### fields, items -/
def SizeAt (A : Ad) (H : Hp) (a : Addr) (w h : Nat) : Prop := ∃ dx, H a = some (.ins A.CS dx [("width", .int (w : Int)), ("height", .int (h : Int))])
theorem SizeAt.mono {a : Addr} {w h : Nat} (s : SizeAt A H a w h) (e : Ex H H') : SizeAt A H' a w h := let ⟨dx, q⟩ := s; ⟨dx, e a _ q⟩
theorem lk_here {k : Str} {v : V} {r : List (Str × V)} : List.lookup k ((k, v) :: r) = some v := by
  have e : (k == k) = true := beq_self_eq_true k
  simp only [List.lookup, e]
theorem lk_past {k g : Str} {v : V} {r : List (Str × V)} (h : (k == g) = false) : List.lookup k ((g, v) :: r) = List.lookup k r := by
  simp only [List.lookup, h]
theorem put_here {f : Str} {v x : V} {r : List (Str × V)} : putF f v ((f, x) :: r) = (f, v) :: r := if_pos rfl
theorem put_past {f g : Str} {v x : V} {r : List (Str × V)} (h : ¬ g = f) : putF f v ((g, x) :: r) = (g, x) :: putF f v r := if_neg h
theorem ev_fld {f : Str} {a C dx : Addr} {fs : List (Str × V)} (ho : Ev ta σ H (.ref a)) (h : H a = some (.ins C dx fs)) (c : Cls K C) (n : NoAttr K C f) (l : fs.lookup f = some v) : Ev (tFld K ta f) σ H v := fun H1 e Q q =>
  ho H1 e _ fun H2 e2 => ⟨a, C, dx, fs, v, rfl, e2 a _ (e a _ h), c, n, l, q H2 e2⟩
section
variable {mg : Str → Option Value} {a : Addr} {w h : Nat}
theorem ev_width (T : Txt K mg A) (ho : Ev ta σ H (.ref a)) (s : SizeAt A H a w h) : Ev (tFld K ta "width") σ H (.int (w : Int)) := let ⟨_, q⟩ := s; ev_fld ho q T.clSize T.nWidth lk_here
theorem ev_height (T : Txt K mg A) (ho : Ev ta σ H (.ref a)) (s : SizeAt A H a w h) : Ev (tFld K ta "height") σ H (.int (h : Int)) := let ⟨_, q⟩ := s; ev_fld ho q T.clSize T.nHeight ((lk_past (by decide +kernel)).trans lk_here)
end
theorem ev_ixL {a : Addr} {xs : List V} {i : Int} (ha : Ev ta σ H (.ref a)) (hb : Ev tb σ H (.int i)) (h : H a = some (.lst xs)) (e : atI xs i = some v) : Ev (tOp (rIxL K) ta tb) σ H v :=
  ev_op ha hb (Evl.rv_ixL (sq_of h) e)
theorem ev_ixT {a : Addr} {xs : List V} {i : Int} (ha : Ev ta σ H (.ref a)) (hb : Ev tb σ H (.int i)) (h : SqT K H a xs) (e : atI xs i = some v) : Ev (tOp (rIxT K) ta tb) σ H v :=
  ev_op ha hb (Evl.rv_ixT h e)
/-- what a channel holds -/
def chV (n : Nat) (f : Nat → Int) : List V := (List.range n).map fun i => V.int (f i)
theorem chV_len {n : Nat} {f : Nat → Int} : (chV n f).length = n := by simp [chV]
theorem chV_get {n i : Nat} {f : Nat → Int} (h : i < n) : (chV n f)[i]? = some (.int (f i)) := by simp [chV, h]
theorem chV_at {n : Nat} {f : Nat → Int} {i : Int} (h0 : 0 ≤ i) (h : i.toNat < n) : atI (chV n f) i = some (.int (f i.toNat)) := by
  obtain ⟨j, rfl⟩ := Int.eq_ofNat_of_zero_le h0
  exact atI_nat (chV_get h)
theorem chV_congr {n : Nat} {f g : Nat → Int} (h : ∀ i, i < n → f i = g i) : chV n f = chV n g := by
  unfold chV
  exact List.map_congr_left fun i hi => by rw [h i (List.mem_range.mp hi)]
theorem chV_of {n : Nat} {f : Nat → Int} {acc : List V} (hl : acc.length = n) (h : ∀ (i : Nat) (v : V), acc[i]? = some v → v = V.int (f i)) : acc = chV n f := by
  apply List.ext_getElem?
  intro i
  by_cases hi : i < n
  · have e : acc[i]? = some acc[i] := List.getElem?_eq_getElem (by omega)
    rw [e, chV_get hi, h i _ e]
  · rw [List.getElem?_eq_none (by omega), List.getElem?_eq_none (by rw [chV_len]; omega)]
/-! ### lists that grow -/
/-- at p, not known to H, a list of k things of which R tells; the rest of H stands -/
def Grow (H : Hp) (p : Addr) (k : Nat) (R : Nat → V → Hp → Prop) (H' : Hp) : Prop :=
  H p = none ∧ Ex H H' ∧ ∃ acc : List V, acc.length = k ∧ H' p = some (.lst acc) ∧ ∀ (i : Nat) (v : V), acc[i]? = some v → R i v H'
/-- all but p stands -/
def ExB (p : Addr) (H H' : Hp) : Prop := ∀ b o, b ≠ p → H b = some o → H' b = some o
theorem Ex.b {p : Addr} (e : Ex H H') : ExB p H H' := fun b o _ h => e b o h
theorem ExB.upd {p : Addr} {o : HO} : ExB p H (L2.upd H p o) := fun b _ n h => by rw [upd_ne n]; exact h
theorem ExB.trans {p : Addr} (a : ExB p H H1) (b : ExB p H1 H2) : ExB p H H2 := fun c o n h => b c o n (a c o n h)
/-- R stands while all but p stands -/
def Stb (p : Addr) (R : Nat → V → Hp → Prop) : Prop := ∀ i v H H', ExB p H H' → R i v H → R i v H'
theorem stb_int {p : Addr} {f : Nat → Int} : Stb p (fun i v _ => v = .int (f i)) := fun _ _ _ _ _ h => h
/-- an object apart from p and u, of the content that c tells -/
def Obj1 (u p : Addr) (c : Nat → HO) (i : Nat) (v : V) (H : Hp) : Prop := ∃ a, v = .ref a ∧ a ≠ p ∧ a ≠ u ∧ H a = some (c i)
theorem stb_obj {u p : Addr} {c : Nat → HO} : Stb p (Obj1 u p c) := fun _ _ _ _ e ⟨a, h1, h2, h4, h3⟩ => ⟨a, h1, h2, h4, e a _ h2 h3⟩
theorem Grow.start {p : Addr} {R : Nat → V → Hp → Prop} (hn : H p = none) (e : Ex H H') (h : H' p = some (.lst [])) : Grow H p 0 R H' := ⟨hn, e, [], rfl, h, fun i v q => by simp at q⟩
theorem Grow.ex {p : Addr} {k : Nat} {R : Nat → V → Hp → Prop} (s : Stb p R) (gr : Grow H p k R H1) (e : Ex H1 H2) : Grow H p k R H2 := by
  obtain ⟨hn, e0, acc, hl, hp, hr⟩ := gr
  exact ⟨hn, e0.trans e, acc, hl, e p _ hp, fun i v q => s i v _ _ (Ex.b e) (hr i v q)⟩
theorem Grow.push {p : Addr} {k : Nat} {R : Nat → V → Hp → Prop} {acc : List V} (s : Stb p R) (gr : Grow H p k R H') (hp : H' p = some (.lst acc)) (hv : R k v H') : Grow H p (k + 1) R (upd H' p (.lst (acc ++ [v]))) := by
  obtain ⟨hn, e0, acc', hl, hp', hr⟩ := gr
  rw [hp'] at hp
  cases hp
  refine ⟨hn, e0.mut hn, acc ++ [v], by simp [hl], upd_same, fun i u q => s i u _ _ ExB.upd ?_⟩
  rw [List.getElem?_append] at q
  split at q
  · exact hr i u q
  · next h =>
    have hi : i = k := by
      have := (List.getElem?_eq_some_iff.mp q).1
      simp at this
      omega
    subst hi
    have e : i - acc.length = 0 := by omega
    rw [e] at q
    cases q
    exact hv
theorem Grow.ints {p : Addr} {n : Nat} {f : Nat → Int} (gr : Grow H p n (fun i v _ => v = .int (f i)) H') : H' p = some (.lst (chV n f)) := by
  obtain ⟨_, _, acc, hl, hp, hr⟩ := gr
  rw [hp, chV_of hl hr]
/-- xs.append(e) on a list that grows -/
theorem s_push {p : Addr} {k : Nat} {R : Nat → V → Hp → Prop} (s : Stb p R) (gr : Grow H p k R H') (hk : k < 100000) (ha : Ev ta σ H' (.ref p)) (h : EvP te σ H' (R k))
    (q : ∀ H2, Grow H p (k + 1) R H2 → D.nx σ H2) : tDrop (tBM K "list" rAppend ta (tCons te tNil)) D σ H' := by
  refine ha H' (Ex.refl H') _ fun H1 e1 => ?_
  obtain ⟨acc, hl, hp, _⟩ := (gr.ex s e1).2.2
  refine ⟨.inl ⟨rfl, acc, sq_of hp⟩, h H1 e1 _ fun v H2 e2 r => ?_⟩
  have g2 := (gr.ex s e1).ex s e2
  exact ⟨p, acc, v, rfl, rfl, e2 p _ hp, Evl.sz_lt (by omega), q _ (g2.push s (e2 p _ hp) r)⟩
/-! ### what is walked -/
/-- n turns from a heap that knows H; the i-th gives something of which Y tells -/
def EvI (wi : TI) (σ : L2.St) (H : Hp) (n : Nat) (Y : Nat → V → Hp → Prop) : Prop :=
  ∀ H1, Ex H H1 → ∀ R : It → Hp → Prop, (∀ (J : It) (Hg H2 : Hp) (Yj : Nat → Hp → V → Hp → Prop), Ex H1 H2 → Ex H Hg → Ex Hg H2 → (∀ b o, H1 b = some o → H b = none → Hg b = none) →
    Walk J n (fun H' => Ex Hg H') Yj → (∀ i x Ha Hb, i < n → Ex Hg Ha → Yj i Ha x Hb → Ex Ha Hb ∧ Y i x Hb) → R J H2) → wi σ H1 R
/-- the same for a comprehension, over all that stands -/
theorem EvI.mono {wi : TI} {n : Nat} {Y : Nat → V → Hp → Prop} (h : EvI wi σ H n Y) (hY : ∀ i x H', i < n → Y i x H' → True) : EvI wi σ H n Y := h
/-- the target takes x: the slots then -/
def Tg (g : TG) (x : V) (H : Hp) (σ σ2 : L2.St) : Prop := ∀ Q : L2.St → Hp → Prop, Q σ2 H → g x σ H Q
theorem tg_name {i : Nat} : Tg (gName i) x H σ (σ.set i (some x)) := fun _ q => q
theorem tg_tup2 {g1 g2 : TG} {T : Addr} {σ1 σ2 : L2.St} (h : H T = some (.tup [x, y])) (h1 : Tg g1 x H σ σ1) (h2 : Tg g2 y H σ1 σ2) : Tg (gTup K 2 (gCons g1 (gCons g2 gNil))) (.ref T) H σ σ2 := fun Q q =>
  ⟨T, [x, y], rfl, st_of h, rfl, x, [y], rfl, h1 _ ⟨y, [], rfl, h2 _ ⟨rfl, q⟩⟩⟩
theorem tg_tup3 {g1 g2 g3 : TG} {T : Addr} {σ1 σ2 σ3 : L2.St} (h : H T = some (.tup [x, y, z])) (h1 : Tg g1 x H σ σ1) (h2 : Tg g2 y H σ1 σ2) (h3 : Tg g3 z H σ2 σ3) : Tg (gTup K 3 (gCons g1 (gCons g2 (gCons g3 gNil)))) (.ref T) H σ σ3 := fun Q q =>
  ⟨T, [x, y, z], rfl, st_of h, rfl, x, [y, z], rfl, h1 _ ⟨y, [z], rfl, h2 _ ⟨z, [], rfl, h3 _ ⟨rfl, q⟩⟩⟩⟩
section
variable {wi : TI} {n : Nat} {Y : Nat → V → Hp → Prop}
/-- a for over it, from H1 that knows H -/
theorem s_forI (h : EvI wi σ H n Y) (e : Ex H H1) (Pv : Hp → Nat → L2.St → Hp → Prop)
    (h0 : ∀ Hg H2, Ex H Hg → Ex Hg H2 → Ex H1 H2 → (∀ b o, H1 b = some o → H b = none → Hg b = none) → Pv Hg 0 σ H2)
    (hg : ∀ Hg i σ' H', Pv Hg i σ' H' → Ex Hg H')
    (hs : ∀ Hg i x σ' Ha Hb, Ex H Hg → i < n → Pv Hg i σ' Ha → Ex Ha Hb → Y i x Hb → ∃ σ2, Tg g x Hb σ' σ2 ∧ tbd { D with nx := Pv Hg (i + 1), ct := Pv Hg (i + 1), bk := D.nx } σ2 Hb)
    (hd : ∀ Hg σ' H', Ex H Hg → Pv Hg n σ' H' → D.nx σ' H') : tFor wi g tbd D σ H1 := by
  refine h H1 e _ fun J Hg H2 Yj e12 eg eg2 hn w hy => ?_
  exact for_it w (Pv Hg) (h0 Hg H2 eg eg2 e12 hn) (fun i σ' H' _ p => hg Hg i σ' H' p) (fun i x σ' Ha Hb hi p y => by
    obtain ⟨e3, y3⟩ := hy i x Ha Hb hi (hg _ _ _ _ p) y
    obtain ⟨σ2, tg, q⟩ := hs Hg i x σ' Ha Hb eg hi p e3 y3
    exact tg _ q) fun σ' H' p => hd Hg σ' H' eg p
/-- a comprehension without a test: a new list, its items told by R -/
def EvG (te : TE) (σ : L2.St) (H : Hp) (n : Nat) (R : Addr → Nat → V → Hp → Prop) : Prop :=
  ∀ H1, Ex H H1 → ∀ Q : VK, (∀ p H2, H1 p = none → Ex H1 H2 → (∃ Hb, Ex H1 Hb ∧ Grow Hb p n (R p) H2) → Q (.ref p) H2) → te σ H1 Q
theorem eg_lc {vs : List Nat} {R : Addr → Nat → V → Hp → Prop} (h : EvI wi σ H n Y) (hn : n ≤ 90000) (hR : ∀ p, Stb p (R p))
    (hs : ∀ p i x Hb, Ex H Hb → H p = none → (∃ o, Hb p = some o) → i < n → Y i x Hb → ∃ σ2, Tg g x Hb (wipe σ vs) σ2 ∧ wipe σ2 vs = wipe σ vs ∧ EvP te σ2 Hb (R p i)) : EvG (tLc wi g tYes te vs) σ H n R := by
  intro H1 e Q q
  refine h H1 e _ fun J Hg H2 Yj e12 eg eg2 hnw w hy D hD => ?_
  refine lc_it w (Pv := fun i H' => Grow H2 D i (R D) H') (Grow.start hD (Ex.new hD) upd_same) (fun i H' _ p => eg2.trans p.2.1) (fun i x Ha Hb hi p y => ?_) fun H' p => ?_
  · obtain ⟨e3, y3⟩ := hy i x Ha Hb hi (eg2.trans p.2.1) y
    have p3 := p.ex (hR D) e3
    obtain ⟨σ2, tg, ew, ev⟩ := hs D i x Hb ((e.trans e12).trans p3.2.1) (fresh_back (e.trans e12) hD) (let ⟨acc, _, hp, _⟩ := p3.2.2; ⟨_, hp⟩) hi y3
    refine tg _ ⟨ew, ?_⟩
    refine iteT (A := te σ2 Hb _) (B := Grow H2 D (i + 1) (R D) Hb) ?_
    refine ev Hb (Ex.refl Hb) _ fun v H4 e5 r => ?_
    have p5 := p3.ex (hR D) e5
    obtain ⟨acc, hl, hp, _⟩ := p5.2.2
    exact ⟨acc, hp, Evl.sz_lt (by omega), p5.push (hR D) hp r⟩
  · exact q D H' (fresh_back e12 hD) (e12.trans p.2.1) ⟨H2, e12, p⟩
/-- .. of ints -/
theorem el_lcI {vs : List Nat} {f : Nat → Int} (h : EvI wi σ H n Y) (hn : n ≤ 90000)
    (hs : ∀ i x Hb, Ex H Hb → i < n → Y i x Hb → ∃ σ2, Tg g x Hb (wipe σ vs) σ2 ∧ wipe σ2 vs = wipe σ vs ∧ Ev te σ2 Hb (.int (f i))) : EvL (tLc wi g tYes te vs) σ H (chV n f) := fun H1 e Q q =>
  eg_lc (R := fun _ i v _ => v = .int (f i)) h hn (fun _ => stb_int) (fun p i x Hb e1 _ _ hi y => by
    obtain ⟨σ2, tg, ew, ev⟩ := hs i x Hb e1 hi y
    exact ⟨σ2, tg, ew, p_of_ev ev⟩) H1 e Q fun p H2 hp e2 ⟨_, _, gr⟩ => q p H2 hp e2 gr.ints
end
/-! ### iterations -/
theorem evi_self {wi : TI} {n : Nat} {Y : Nat → V → Hp → Prop}
    (h : ∀ H1, Ex H H1 → ∀ R : It → Hp → Prop, (∀ (J : It) (H2 : Hp) (Yj : Nat → Hp → V → Hp → Prop), Ex H1 H2 → Walk J n (fun H' => Ex H H') Yj → (∀ i x Ha Hb, i < n → Ex H Ha → Yj i Ha x Hb → Ex Ha Hb ∧ Y i x Hb) → R J H2) → wi σ H1 R) : EvI wi σ H n Y :=
  fun H1 e R k => h H1 e R fun J H2 Yj e2 w hy => k J H H2 Yj e2 (Ex.refl H) (e.trans e2) (fun b o _ q => q) w hy
/-- a list that stands -/
theorem evi_list {a : Addr} {xs : List V} (hl : Ev tl σ H (.ref a)) (h : H a = some (.lst xs)) : EvI (iList K tl) σ H xs.length (fun i v _ => xs[i]? = some v) :=
  evi_self fun H1 e R k => hl H1 e _ fun H2 e2 => ⟨a, rfl, ⟨xs, sq_of ((e.trans e2) a _ h)⟩, k _ H2 _ e2 (walk_list.mono (fun H' e' => sq_of (e' a _ h)) fun _ _ _ _ _ _ y => y) fun i x Ha Hb _ _ y => ⟨y.1 ▸ Ex.refl _, y.2⟩⟩
theorem evi_range1 {n : Nat} (h : EvA ar σ H [.int (n : Int)]) (hn : n ≤ 90000) : EvI (iRng1 ar) σ H n (fun i v _ => v = .int (i : Int)) :=
  evi_self fun H1 e R k => h H1 e _ fun H2 e2 => ⟨(n : Int), rfl, by omega, by omega, by
    have w := walk_range (lo := 0) (n := (n : Int).toNat)
    exact k _ H2 _ e2 (w.mono (fun _ _ => trivial) fun _ _ _ _ _ _ y => y) fun i x Ha Hb _ _ y => ⟨y.1 ▸ Ex.refl _, by rw [y.2]; simp⟩⟩
theorem evi_range2 {lo hi : Int} {n : Nat} (h : EvA ar σ H [.int lo, .int hi]) (h1 : -100000 ≤ lo ∧ lo ≤ 100000) (h2 : -100000 ≤ hi ∧ hi ≤ 100000) (hn : (hi - lo).toNat = n) : EvI (iRng2 ar) σ H n (fun i v _ => v = .int (lo + (i : Int))) :=
  evi_self fun H1 e R k => h H1 e _ fun H2 e2 => ⟨lo, hi, rfl, ⟨by omega, by omega, by omega, by omega⟩, by
    subst hn
    exact k _ H2 _ e2 (walk_range.mono (fun _ _ => trivial) fun _ _ _ _ _ _ y => y) fun i x Ha Hb _ _ y => ⟨y.1 ▸ Ex.refl _, y.2⟩⟩
/-- two lists that stand, side by side -/
theorem evi_zip {a b : Addr} {xs ys : List V} {n : Nat} (h : EvA ar σ H [.ref a, .ref b]) (ha : H a = some (.lst xs)) (hb : H b = some (.lst ys)) (hx : xs.length = n) (hy : ys.length = n) :
    EvI (iZip K ar) σ H n (fun i v H' => ∃ T x y, v = .ref T ∧ H' T = some (.tup [x, y]) ∧ xs[i]? = some x ∧ ys[i]? = some y) :=
  evi_self fun H1 e R k => h H1 e _ fun H2 e2 => ⟨a, b, xs, ys, rfl, sq_of ((e.trans e2) a _ ha), sq_of ((e.trans e2) b _ hb),
    k _ H2 _ e2 ((walk_zip (n := n) (by omega)).mono (fun H' e' => ⟨sq_of (e' a _ ha), sq_of (e' b _ hb)⟩) fun _ _ _ _ _ _ y => y) fun i x Ha Hb _ _ y => by
      obtain ⟨T, u, w, e1, e2, e3, e4, e5⟩ := y
      exact ⟨e3 ▸ Ex.new e2, T, u, w, e1, e3 ▸ upd_same, e4, e5⟩⟩
theorem evi_zip3 {a b c : Addr} {xs ys zs : List V} {n : Nat} (h : EvA ar σ H [.ref a, .ref b, .ref c]) (ha : H a = some (.lst xs)) (hb : H b = some (.lst ys)) (hc : H c = some (.lst zs)) (hx : xs.length = n) (hy : ys.length = n) (hz : zs.length = n) :
    EvI (iZip3 K ar) σ H n (fun i v H' => ∃ T x y z, v = .ref T ∧ H' T = some (.tup [x, y, z]) ∧ xs[i]? = some x ∧ ys[i]? = some y ∧ zs[i]? = some z) :=
  evi_self fun H1 e R k => h H1 e _ fun H2 e2 => ⟨a, b, c, xs, ys, zs, rfl, sq_of ((e.trans e2) a _ ha), sq_of ((e.trans e2) b _ hb), sq_of ((e.trans e2) c _ hc),
    k _ H2 _ e2 ((walk_zip3 hx hy hz).mono (fun H' e' => ⟨sq_of (e' a _ ha), sq_of (e' b _ hb), sq_of (e' c _ hc)⟩) fun _ _ _ _ _ _ y => y) fun i x Ha Hb _ _ y => by
      obtain ⟨T, u, w, s, e1, e2, e3, e4, e5, e6⟩ := y
      exact ⟨e3 ▸ Ex.new e2, T, u, w, s, e1, e3 ▸ upd_same, e4, e5, e6⟩⟩
theorem evi_enum {a : Addr} {xs : List V} (h : EvA ar σ H [.ref a]) (ha : H a = some (.lst xs)) :
    EvI (iEnum K ar) σ H xs.length (fun i v H' => ∃ T x, v = .ref T ∧ H' T = some (.tup [.int (i : Int), x]) ∧ xs[i]? = some x) :=
  evi_self fun H1 e R k => h H1 e _ fun H2 e2 => ⟨a, xs, rfl, sq_of ((e.trans e2) a _ ha),
    k _ H2 _ e2 (walk_enum.mono (fun H' e' => sq_of (e' a _ ha)) fun _ _ _ _ _ _ y => y) fun i x Ha Hb _ _ y => by
      obtain ⟨T, u, w, e1, e2, e3, e4, e5⟩ := y
      cases e4
      exact ⟨e3 ▸ Ex.new e2, T, w, e1, e3 ▸ upd_same, e5⟩⟩
end GT
end
section
set_option linter.all false
/-! what each def computes, in plain Lean (Int, as Python has it); a channel: f i, the i-th pixel row by row; a picture: F k i, k the channel -/
namespace GT
abbrev Chn := Nat → Int
abbrev Pct := Nat → Nat → Int
def mClamped (x : Int) : Int := max 0 (min x 65535)
def mNearest (a b : Int) : Int := (2 * a + b) / (2 * b)
def mGot (w h : Nat) (f : Chn) (x y : Int) : Int := f ((y % (h : Int) * (w : Int) + x % (w : Int)).toNat)
def mSample (w h : Nat) (f : Chn) (x y : Int) : Int :=
  ((mGot w h f (x / 256) (y / 256) * (256 - x % 256) + mGot w h f (x / 256 + 1) (y / 256) * (x % 256)) * (256 - y % 256) + (mGot w h f (x / 256) (y / 256 + 1) * (256 - x % 256) + mGot w h f (x / 256 + 1) (y / 256 + 1) * (x % 256)) * (y % 256)) / 65536
def SCR : List Int := [0, 8, 2, 10, 12, 4, 14, 6, 3, 11, 1, 9, 15, 7, 13, 5]
def mDither (v : Int) (n : Nat) (x y : Int) : Int :=
  min ((16 * (v * (2 ^ n - 1) / 65535) + v * (2 ^ n - 1) % 65535 * 16 / 65535 + 15 - SCR.getD (4 * (y % 4) + x % 4).toNat 0) / 16) (2 ^ n - 1)
/-- the strength of a glow, by t = u * u + v * v -/
def mPow (t : Int) : Nat → Int
  | 0 => 65536 - t
  | n + 1 => mPow t n * (65536 - t) / 65536
def mWay (n : Nat) (c x : Int) : Int := (x - c + (n : Int) / 2) % (n : Int) - (n : Int) / 2
def mT (w h : Nat) (x y cx cy rx ry : Int) : Int := 256 * mWay w cx x / rx * (256 * mWay w cx x / rx) + 256 * mWay h cy y / ry * (256 * mWay h cy y / ry)
def mStrength (w h : Nat) (x y cx cy rx ry : Int) (n : Nat) : Int := if 65536 ≤ mT w h x y cx cy rx ry then 0 else mPow (mT w h x y cx cy rx ry) (n - 1)
def px (w i : Nat) : Int := ((i % w : Nat) : Int)
def py (w i : Nat) : Int := ((i / w : Nat) : Int)
def mGlow (w h : Nat) (F : Pct) (cx cy rx ry : Int) (n : Nat) (col : Nat → Int) : Pct := fun k i => min 65535 (F k i + col k * mStrength w h (px w i) (py w i) cx cy rx ry n / 65536)
def mIn (w h : Nat) (x0 y0 sw sh : Int) (i : Nat) : Bool := decide ((px w i - x0) % (w : Int) < sw) && decide ((py w i - y0) % (h : Int) < sh)
def mBox (w h : Nat) (F : Pct) (x0 y0 sw sh : Int) (col : Nat → Int) : Pct := fun k i => if mIn w h x0 y0 sw sh i = true then col k else F k i
/-- the sum of 2 r + 1 values of a ring of m about j -/
def mRing (m : Nat) (f : Chn) (r : Nat) (j : Int) : Int := ((List.range (2 * r + 1)).map fun (k : Nat) => f ((j - (r : Int) + (k : Int)) % (m : Int)).toNat).sum
def mRow (m : Nat) (f : Chn) (r : Nat) : Chn := fun j => mRing m f r (j : Int) / (2 * (r : Int) + 1)
def mOver (w h : Nat) (f : Chn) : Chn := fun j => f (j % h * w + j / h)
def mRows (w : Nat) (f : Chn) (r : Nat) : Chn := fun j => mRow w (fun i => f (j / w * w + i)) r (j % w)
def mBlurred (w h : Nat) (f : Chn) (a d : Nat) : Chn := mOver h w (mRows h (mOver w h (mRows w f a)) d)
def mBlur (w h : Nat) (a d : Nat) : Nat → Pct → Pct
  | 0, F => F
  | n + 1, F => fun k => mBlurred w h (mBlur w h a d n F k) a d
def mSampled (w h : Nat) (F : Pct) (X Y : Nat → Int) : Pct := fun k i => mSample w h (F k) (X i) (Y i)
def mTurnX (w h : Nat) (c s : Int) (i : Nat) : Int := ((px w i - (w : Int) / 2) * c - (py w i - (h : Int) / 2) * s) / 64 + 128 * (w : Int)
def mTurnY (w h : Nat) (c s : Int) (i : Nat) : Int := ((px w i - (w : Int) / 2) * s + (py w i - (h : Int) / 2) * c) / 64 + 128 * (h : Int)
def mTurn (w h : Nat) (F : Pct) (c s : Int) : Pct := mSampled w h F (mTurnX w h c s) (mTurnY w h c s)
def mBend (w h : Nat) (F T : Pct) (n : Int) : Pct := mSampled w h F (fun i => 256 * px w i + (T 0 i - 32768) * n / 32768) (fun i => 256 * py w i + (T 1 i - 32768) * n / 32768)
def mLevelled (v lo hi : Int) : Int := if v ≤ lo then 0 else if hi ≤ v then 65535 else mNearest ((v - lo) * 65535) (hi - lo)
def mLevels (F : Pct) (lo hi : Int) : Pct := fun k i => if k < 3 then mLevelled (F k i) lo hi else F k i
def mColoured (F : Pct) (a b c d : Int) : Chn := fun i => mClamped ((a * F 0 i + b * F 1 i + c * F 2 i + 65536 * d) / 256)
def mRecoloured (F : Pct) (m : Nat → Int) : Pct := fun k i => if k < 3 then mColoured F (m (4 * k)) (m (4 * k + 1)) (m (4 * k + 2)) (m (4 * k + 3)) i else F k i
def mLit (w h : Nat) (f : Chn) (lx ly n : Int) : Chn := fun i => mClamped (32768 + ((mGot w h f (px w i + 1) (py w i) - mGot w h f (px w i - 1) (py w i)) * lx + (mGot w h f (px w i) (py w i + 1) - mGot w h f (px w i) (py w i - 1)) * ly) * n / 65536)
def mLight (w h : Nat) (F : Pct) (lx ly n : Int) : Pct := fun k i => if k < 3 then mLit w h (F 0) lx ly n i else F k i
def mJoinV (m b t k : Int) : Int :=
  if m = 0 then min (b + t) 65535 else if m = 1 then max (b - t) 0 else if m = 2 then mNearest (b * t) 65535 else if m = 3 then max b t else if m = 4 then min b t
  else if m = 5 then (b + t + 1) / 2 else if m = 6 then mNearest (b * (65535 - k) + t * k) 65535 else (if b - t < 0 then -(b - t) else b - t)
def mJoined (m : Int) (B T : Pct) : Pct := fun k i => mJoinV m (B k i) (T k i) (T 3 i)
/-- bits apart of two numbers that are not negative -/
def mXor (a b : Int) : Int := ((Nat.xor a.toNat b.toNat : Nat) : Int)
def mMixed (seed a b o : Int) : Int :=
  let n := (2654435761 * seed + 374761393 * a + 668265263 * b + 2246822519 * o) % 4294967296
  let m := mXor n (n / 32768) * 2246822519 % 4294967296
  mXor m (m / 8192) * 3266489917 % 4294967296 / 65536
def mSmooth (t : Int) : Int := t * t / 65536 * (196608 - 2 * t) / 65536
def mBetween (a b u : Int) : Int := (a * (65536 - u) + b * u) / 65536
/-- the number at a corner of a layer of cells of the side sd: down rows of across numbers -/
def mCorner (w h sd : Nat) (seed o : Int) (i j : Int) : Int := mMixed seed (i % ((w / sd : Nat) : Int)) (j % ((h / sd : Nat) : Int)) o
def mLayer (w h sd : Nat) (seed o : Int) (x y : Int) : Int :=
  let i := x / (sd : Int)
  let j := y / (sd : Int)
  let u := mSmooth (x % (sd : Int) * 65536 / (sd : Int))
  let v := mSmooth (y % (sd : Int) * 65536 / (sd : Int))
  mBetween (mBetween (mCorner w h sd seed o i j) (mCorner w h sd seed o (i + 1) j) u) (mBetween (mCorner w h sd seed o i (j + 1)) (mCorner w h sd seed o (i + 1) (j + 1)) u) v
def mLoud (fall : Int) : Nat → Int
  | 0 => 65535
  | o + 1 => mLoud fall o * fall / 65536
def mNoiseSum (w h : Nat) (seed : Int) (cell : Nat) (fall : Int) : Nat → Chn
  | 0 => fun _ => 0
  | o + 1 => fun i => mNoiseSum w h seed cell fall o i + mLayer w h (2 ^ (cell - o)) seed (o : Int) (px w i) (py w i) * mLoud fall o / 65536
def mNoise (w h : Nat) (seed : Int) (cell layers : Nat) (fall : Int) : Pct := fun k i => if k < 3 then min (mNoiseSum w h seed cell fall (min layers (cell + 1)) i) 65535 else 65535
end GT
end
section
set_option linter.all false
/-! the desk, in plain Lean -/
namespace GT
/-- the size of all pictures, and the pictures, the top first -/
structure Dk where
  w : Nat
  h : Nat
  pile : List Pct
/-- an error's code, or the desk then and the answer -/
abbrev Res := Except Int (Dk × List Int)
def within (n : Nat) (f lo hi : Nat → Int) : Bool := (List.range n).all fun i => decide (lo i ≤ f i) && decide (f i ≤ hi i)
def tab (l : List Int) : Nat → Int := fun i => l.getD i 0
def Dk.push (D : Dk) (G : Pct) : Res := if D.pile.length < 8 then .ok ({ D with pile := G :: D.pile }, [(D.pile.length : Int) + 1]) else .error (-5)
def Dk.change (D : Dk) (f : Pct → Pct) : Res := match D.pile with
  | [] => .error (-4)
  | t :: r => .ok ({ D with pile := f t :: r }, [(D.pile.length : Int)])
def Dk.two (D : Dk) (f : Pct → Pct → Pct) : Res := match D.pile with
  | t :: b :: r => .ok ({ D with pile := f b t :: r }, [(D.pile.length : Int) - 1])
  | _ => .error (-4)
def rFlat (D : Dk) (f : Nat → Int) : Res := D.push fun k _ => f k
def rNoise (D : Dk) (f : Nat → Int) : Res :=
  if within 4 f (tab [0, 0, 1, 0]) (tab [65535, 6, 7, 65535]) = true then (if 2 ^ (f 1).toNat ≤ min D.w D.h then D.push (mNoise D.w D.h (f 0) (f 1).toNat (f 2).toNat (f 3)) else .error (-2)) else .error (-2)
def rGlow (D : Dk) (f : Nat → Int) : Res :=
  if within 5 f (tab [0, 0, 1, 1, 1]) (tab [63, 63, 255, 255, 8]) = true then D.change fun t => mGlow D.w D.h t (f 0) (f 1) (f 2) (f 3) (f 4).toNat (fun k => f (5 + k)) else .error (-2)
def rBox (D : Dk) (f : Nat → Int) : Res :=
  if within 4 f (tab [0, 0, 0, 0]) (tab [63, 63, 64, 64]) = true then D.change fun t => mBox D.w D.h t (f 0) (f 1) (f 2) (f 3) (fun k => f (4 + k)) else .error (-2)
def rBlur (D : Dk) (f : Nat → Int) : Res :=
  if within 3 f (tab [0, 0, 1]) (tab [15, 15, 3]) = true then D.change (mBlur D.w D.h (f 0).toNat (f 1).toNat (f 2).toNat) else .error (-2)
def rTurn (D : Dk) (f : Nat → Int) : Res :=
  if within 2 f (tab [-65536, -65536]) (tab [65536, 65536]) = true then D.change fun t => mTurn D.w D.h t (f 0) (f 1) else .error (-2)
def rBend (D : Dk) (f : Nat → Int) : Res :=
  if within 1 f (tab [-8192]) (tab [8192]) = true then D.two fun b t => mBend D.w D.h b t (f 0) else .error (-2)
def rJoin (D : Dk) (f : Nat → Int) : Res :=
  if within 1 f (tab [0]) (tab [7]) = true then D.two fun b t => mJoined (f 0) b t else .error (-2)
def rLevels (D : Dk) (f : Nat → Int) : Res :=
  if within 2 f (tab [0, 0]) (tab [65535, 65535]) = true then (if f 0 < f 1 then D.change fun t => mLevels t (f 0) (f 1) else .error (-2)) else .error (-2)
def rColour (D : Dk) (f : Nat → Int) : Res := D.change fun t => mRecoloured t f
def rLight (D : Dk) (f : Nat → Int) : Res :=
  if within 3 f (tab [-256, -256, 0]) (tab [256, 256, 4096]) = true then D.change fun t => mLight D.w D.h t (f 0) (f 1) (f 2) else .error (-2)
def rCopy (D : Dk) (f : Nat → Int) : Res :=
  if 0 ≤ f 0 ∧ f 0 < (D.pile.length : Int) then D.push (D.pile.getD (f 0).toNat fun _ _ => 0) else .error (-2)
def rSwap (D : Dk) : Res := match D.pile with
  | t :: b :: r => .ok ({ D with pile := b :: t :: r }, [(D.pile.length : Int)])
  | _ => .error (-4)
def rDrop (D : Dk) : Res := match D.pile with
  | _ :: r => .ok ({ D with pile := r }, [(D.pile.length : Int) - 1])
  | [] => .error (-4)
def rPixel (D : Dk) (f : Nat → Int) : Res :=
  if within 2 f (tab [0, 0]) (tab [(D.w : Int) - 1, (D.h : Int) - 1]) = true then (match D.pile with
    | t :: _ => .ok (D, 0 :: (List.range 4).map fun k => mGot D.w D.h (t k) (f 0) (f 1))
    | [] => .error (-4)) else .error (-2)
def rBytes (D : Dk) : Res := match D.pile with
  | t :: _ => .ok (D, (4 * ((D.w * D.h : Nat) : Int)) :: (List.range (4 * (D.w * D.h))).map fun j => mDither (t (j % 4) (j / 4)) 8 (px D.w (j / 4)) (py D.w (j / 4)))
  | [] => .error (-4)
def rWords (D : Dk) : Res := match D.pile with
  | t :: _ => .ok (D, ((D.w * D.h : Nat) : Int) :: (List.range (D.w * D.h)).map fun i =>
      2048 * mDither (t 0 i) 5 (px D.w i) (py D.w i) + 32 * mDither (t 1 i) 6 (px D.w i) (py D.w i) + mDither (t 2 i) 5 (px D.w i) (py D.w i))
  | [] => .error (-4)
def rEarly (D : Dk) (p : Int) (f : Nat → Int) : Res :=
  if p = 2 then rFlat D f else if p = 3 then rNoise D f else if p = 4 then rGlow D f else if p = 5 then rBox D f else if p = 6 then rBlur D f else if p = 7 then rTurn D f else if p = 8 then rBend D f else rJoin D f
def rLater (D : Dk) (p : Int) (f : Nat → Int) : Res :=
  if p = 10 then rLevels D f else if p = 11 then rColour D f else if p = 12 then rLight D f else if p = 13 then rCopy D f else if p = 14 then rSwap D else if p = 15 then rDrop D else if p = 16 then rPixel D f
  else if p = 17 then rBytes D else rWords D
/-- a call: the state then and the answer -/
def rAns (st : Option Dk) (p : Int) (f : Nat → Int) : Option Dk × List Int :=
  if p = 1 then (if within 2 f (tab [2, 2]) (tab [6, 6]) = true then (some ⟨2 ^ (f 0).toNat, 2 ^ (f 1).toNat, []⟩, [0]) else (st, [-2])) else
  match st with
  | none => (none, [-7])
  | some D => match (if p < 10 then rEarly D p f else rLater D p f) with
    | .ok (D', a) => (some D', a)
    | .error c => (some D, [c])
def many (p : Int) : Nat := ([0, 2, 4, 4, 9, 8, 3, 2, 1, 1, 2, 12, 3, 1, 0, 0, 2, 0, 0] : List Nat).getD p.toNat 0
/-- what must hold of a call's numbers: colours and coefficients -/
def argsOk (p : Int) (f : Nat → Int) : Prop :=
  (p = 2 → ∀ k, k < 4 → 0 ≤ f k ∧ f k ≤ 65535) ∧ (p = 4 → ∀ k, k < 4 → 0 ≤ f (5 + k) ∧ f (5 + k) ≤ 65535) ∧ (p = 5 → ∀ k, k < 4 → 0 ≤ f (4 + k) ∧ f (4 + k) ≤ 65535) ∧ (p = 11 → ∀ k, k < 12 → -32768 ≤ f k ∧ f k ≤ 32767)
end GT
end
section
set_option linter.all false
/-! all channels stay from 0 to 65535 -/
namespace GT
def sizeOk (w h : Nat) : Prop := 1 ≤ w ∧ w ≤ 64 ∧ 1 ≤ h ∧ h ≤ 64
def Bd (n : Nat) (F : Pct) : Prop := ∀ k i, k < 4 → i < n → 0 ≤ F k i ∧ F k i ≤ 65535
def B1 (n : Nat) (f : Chn) : Prop := ∀ i, i < n → 0 ≤ f i ∧ f i ≤ 65535
theorem got_ix {w h : Nat} (hw : 1 ≤ w) (hh : 1 ≤ h) (x y : Int) : (y % (h : Int) * (w : Int) + x % (w : Int)).toNat < w * h := by
  have a1 := Int.emod_nonneg y (show (h : Int) ≠ 0 by omega)
  have a2 := Int.emod_lt_of_pos y (show (0 : Int) < h by omega)
  have b1 := Int.emod_nonneg x (show (w : Int) ≠ 0 by omega)
  have b2 := Int.emod_lt_of_pos x (show (0 : Int) < w by omega)
  obtain ⟨i, hi⟩ := Int.eq_ofNat_of_zero_le a1
  obtain ⟨j, hj⟩ := Int.eq_ofNat_of_zero_le b1
  rw [hi, hj]
  have i2 : i + 1 ≤ h := by omega
  have m1 : (i + 1) * w ≤ h * w := Nat.mul_le_mul_right w i2
  rw [Nat.add_mul, Nat.one_mul, Nat.mul_comm h w] at m1
  have e : ((i : Int) * (w : Int) + (j : Int)) = ((i * w + j : Nat) : Int) := by push_cast; rfl
  show ((i : Int) * (w : Int) + (j : Int)).toNat < w * h
  rw [e, Int.toNat_natCast]
  omega
theorem b_got {w h : Nat} {f : Chn} (hw : 1 ≤ w) (hh : 1 ≤ h) (b : B1 (w * h) f) (x y : Int) : 0 ≤ mGot w h f x y ∧ mGot w h f x y ≤ 65535 := b _ (got_ix hw hh x y)
/-- between two values -/
theorem b_mix {a b u m : Int} (hm : 0 < m) (ha : 0 ≤ a ∧ a ≤ 65535 * m) (hb : 0 ≤ b ∧ b ≤ 65535 * m) (hu : 0 ≤ u) (hu2 : u ≤ 256) : 0 ≤ a * (256 - u) + b * u ∧ a * (256 - u) + b * u ≤ 65535 * m * 256 := by
  have k1 : 0 ≤ a * (256 - u) := Int.mul_nonneg ha.1 (by omega)
  have k2 : 0 ≤ b * u := Int.mul_nonneg hb.1 hu
  have k3 : a * (256 - u) ≤ 65535 * m * (256 - u) := Int.mul_le_mul_of_nonneg_right ha.2 (by omega)
  have k4 : b * u ≤ 65535 * m * u := Int.mul_le_mul_of_nonneg_right hb.2 hu
  have k5 : 65535 * m * (256 - u) + 65535 * m * u = 65535 * m * 256 := by rw [← Int.mul_add]; congr 1; omega
  omega
theorem b_sample {w h : Nat} {f : Chn} (hw : 1 ≤ w) (hh : 1 ≤ h) (b : B1 (w * h) f) (x y : Int) : 0 ≤ mSample w h f x y ∧ mSample w h f x y ≤ 65535 := by
  unfold mSample
  have g := b_got hw hh b
  have e := b_mix (m := 1) (u := x % 256) (a := mGot w h f (x / 256) (y / 256)) (b := mGot w h f (x / 256 + 1) (y / 256)) (by decide) (by have := g (x / 256) (y / 256); omega) (by have := g (x / 256 + 1) (y / 256); omega) (by omega) (by omega)
  have f' := b_mix (m := 1) (u := x % 256) (a := mGot w h f (x / 256) (y / 256 + 1)) (b := mGot w h f (x / 256 + 1) (y / 256 + 1)) (by decide) (by have := g (x / 256) (y / 256 + 1); omega) (by have := g (x / 256 + 1) (y / 256 + 1); omega) (by omega) (by omega)
  have q := b_mix (m := 256) (u := y % 256) (by decide) (a := mGot w h f (x / 256) (y / 256) * (256 - x % 256) + mGot w h f (x / 256 + 1) (y / 256) * (x % 256)) (b := mGot w h f (x / 256) (y / 256 + 1) * (256 - x % 256) + mGot w h f (x / 256 + 1) (y / 256 + 1) * (x % 256)) (by omega) (by omega) (by omega) (by omega)
  omega
theorem b_clamped (x : Int) : 0 ≤ mClamped x ∧ mClamped x ≤ 65535 := by unfold mClamped; omega
theorem Bd.one {n : Nat} {F : Pct} (b : Bd n F) {k : Nat} (hk : k < 4) : B1 n (F k) := fun i hi => b k i hk hi
theorem bd_flat {n : Nat} {f : Nat → Int} (h : ∀ k, k < 4 → 0 ≤ f k ∧ f k ≤ 65535) : Bd n fun k _ => f k := fun k i hk _ => h k hk
theorem mPow_nn {t : Int} (h0 : 0 ≤ t) (h1 : t < 65536) : ∀ n, 0 ≤ mPow t n ∧ mPow t n ≤ 65536
  | 0 => by show 0 ≤ 65536 - t ∧ 65536 - t ≤ 65536; omega
  | n + 1 => by
    have ih := mPow_nn h0 h1 n
    show 0 ≤ mPow t n * (65536 - t) / 65536 ∧ mPow t n * (65536 - t) / 65536 ≤ 65536
    have a : 0 ≤ mPow t n * (65536 - t) := Int.mul_nonneg ih.1 (by omega)
    have b : mPow t n * (65536 - t) ≤ 65536 * (65536 - t) := Int.mul_le_mul_of_nonneg_right ih.2 (by omega)
    omega
theorem sq_nn (z : Int) : 0 ≤ z * z := by
  rcases Int.le_total 0 z with h | h
  · exact Int.mul_nonneg h h
  · exact Int.mul_nonneg_of_nonpos_of_nonpos h h
theorem mT_0 {w h : Nat} {x y cx cy rx ry : Int} : 0 ≤ mT w h x y cx cy rx ry := by
  unfold mT
  have := sq_nn (256 * mWay w cx x / rx)
  have := sq_nn (256 * mWay h cy y / ry)
  omega
theorem b_strength {w h : Nat} {x y cx cy rx ry : Int} {n : Nat} : 0 ≤ mStrength w h x y cx cy rx ry n ∧ mStrength w h x y cx cy rx ry n ≤ 65536 := by
  unfold mStrength
  split
  · decide
  · exact mPow_nn mT_0 (by omega) _
theorem bd_glow {w h n : Nat} {F : Pct} {cx cy rx ry : Int} {f : Nat → Int} (b : Bd (w * h) F) (hf : ∀ k, k < 4 → 0 ≤ f k ∧ f k ≤ 65535) : Bd (w * h) (mGlow w h F cx cy rx ry n f) := fun k i hk hi => by
  have a := b k i hk hi
  have c := hf k hk
  have s := b_strength (w := w) (h := h) (x := px w i) (y := py w i) (cx := cx) (cy := cy) (rx := rx) (ry := ry) (n := n)
  unfold mGlow
  have k1 : 0 ≤ f k * mStrength w h (px w i) (py w i) cx cy rx ry n := Int.mul_nonneg c.1 s.1
  omega
theorem bd_box {w h : Nat} {F : Pct} {x0 y0 sw sh : Int} {f : Nat → Int} (b : Bd (w * h) F) (hf : ∀ k, k < 4 → 0 ≤ f k ∧ f k ≤ 65535) : Bd (w * h) (mBox w h F x0 y0 sw sh f) := fun k i hk hi => by
  unfold mBox
  split
  · exact hf k hk
  · exact b k i hk hi
theorem sum_bd {α : Type} (f : α → Int) : ∀ l : List α, (∀ x ∈ l, 0 ≤ f x ∧ f x ≤ 65535) → 0 ≤ (l.map f).sum ∧ (l.map f).sum ≤ 65535 * (l.length : Int)
  | [], _ => by simp
  | x :: r, h => by
    have ih := sum_bd f r fun y hy => h y (List.mem_cons_of_mem _ hy)
    have hx := h x List.mem_cons_self
    rw [List.map_cons, List.sum_cons, List.length_cons]
    push_cast
    omega
theorem b_row {m r : Nat} {f : Chn} (hm : 1 ≤ m) (b : B1 m f) (j : Nat) : 0 ≤ mRow m f r j ∧ mRow m f r j ≤ 65535 := by
  unfold mRow mRing
  have s := sum_bd (fun k : Nat => f (((j : Int) - (r : Int) + (k : Int)) % (m : Int)).toNat) (List.range (2 * r + 1)) fun k _ => by
    have a1 := Int.emod_nonneg ((j : Int) - (r : Int) + (k : Int)) (show (m : Int) ≠ 0 by omega)
    have a2 := Int.emod_lt_of_pos ((j : Int) - (r : Int) + (k : Int)) (show (0 : Int) < m by omega)
    exact b _ (by omega)
  rw [List.length_range] at s
  push_cast at s
  constructor
  · exact Int.ediv_nonneg s.1 (by omega)
  · exact Int.ediv_le_of_le_mul (by omega) s.2
theorem over_ix {w h j : Nat} (hh : 1 ≤ h) (hj : j < w * h) : j % h * w + j / h < w * h := by
  have a : j % h < h := Nat.mod_lt _ hh
  have b : j / h < w := (Nat.div_lt_iff_lt_mul hh).mpr hj
  have m1 : (j % h + 1) * w ≤ h * w := Nat.mul_le_mul_right w a
  rw [Nat.add_mul, Nat.one_mul, Nat.mul_comm h w] at m1
  omega
theorem b_over {w h : Nat} {f : Chn} (hh : 1 ≤ h) (b : B1 (w * h) f) : B1 (w * h) (mOver w h f) := fun j hj => b _ (over_ix hh hj)
theorem b_rows {w h r : Nat} {f : Chn} (hw : 1 ≤ w) (b : B1 (w * h) f) : B1 (w * h) (mRows w f r) := fun j hj => by
  unfold mRows
  refine b_row hw (fun i hi => b _ ?_) _
  have a : j / w < h := (Nat.div_lt_iff_lt_mul hw).mpr (by rw [Nat.mul_comm]; exact hj)
  have m1 : (j / w + 1) * w ≤ h * w := Nat.mul_le_mul_right w a
  rw [Nat.add_mul, Nat.one_mul, Nat.mul_comm h w] at m1
  omega
theorem b_blurred {w h a d : Nat} {f : Chn} (hw : 1 ≤ w) (hh : 1 ≤ h) (b : B1 (w * h) f) : B1 (w * h) (mBlurred w h f a d) := by
  unfold mBlurred
  have b2 := b_over (w := w) (h := h) hh (b_rows (r := a) hw b)
  rw [Nat.mul_comm] at b2
  have b3 := b_over (w := h) (h := w) hw (b_rows (w := h) (h := w) (r := d) hh b2)
  rw [Nat.mul_comm] at b3
  exact b3
theorem bd_blur {w h a d : Nat} {F : Pct} (hw : 1 ≤ w) (hh : 1 ≤ h) (b : Bd (w * h) F) : ∀ n, Bd (w * h) (mBlur w h a d n F)
  | 0 => b
  | n + 1 => fun k i hk hi => b_blurred hw hh ((bd_blur hw hh b n).one hk) i hi
theorem bd_sampled {w h : Nat} {F : Pct} {X Y : Nat → Int} (hw : 1 ≤ w) (hh : 1 ≤ h) (b : Bd (w * h) F) : Bd (w * h) (mSampled w h F X Y) := fun k i hk hi => b_sample hw hh (b.one hk) _ _
theorem b_nearest {a b : Int} (hb : 0 < b) (h0 : 0 ≤ a) (h1 : a ≤ 65535 * b) : 0 ≤ mNearest a b ∧ mNearest a b ≤ 65535 := by
  unfold mNearest
  constructor
  · exact Int.ediv_nonneg (by omega) (by omega)
  · have : (2 * a + b) / (2 * b) < 65536 := Int.ediv_lt_of_lt_mul (by omega) (by omega)
    omega
theorem b_levelled {v lo hi : Int} (h : lo < hi) : 0 ≤ mLevelled v lo hi ∧ mLevelled v lo hi ≤ 65535 := by
  unfold mLevelled
  split
  · decide
  · split
    · decide
    · exact b_nearest (by omega) (by omega) (by omega)
theorem bd_levels {n : Nat} {F : Pct} {lo hi : Int} (h : lo < hi) (b : Bd n F) : Bd n (mLevels F lo hi) := fun k i hk hi => by
  unfold mLevels
  split
  · exact b_levelled h
  · exact b k i hk hi
theorem bd_recoloured {n : Nat} {F : Pct} {m : Nat → Int} (b : Bd n F) : Bd n (mRecoloured F m) := fun k i hk hi => by
  unfold mRecoloured
  split
  · exact b_clamped _
  · exact b k i hk hi
theorem bd_light {w h : Nat} {F : Pct} {lx ly n : Int} (b : Bd (w * h) F) : Bd (w * h) (mLight w h F lx ly n) := fun k i hk hi => by
  unfold mLight
  split
  · exact b_clamped _
  · exact b k i hk hi
theorem b_joined {m b t k : Int} (hb : 0 ≤ b ∧ b ≤ 65535) (ht : 0 ≤ t ∧ t ≤ 65535) (hk : 0 ≤ k ∧ k ≤ 65535) : 0 ≤ mJoinV m b t k ∧ mJoinV m b t k ≤ 65535 := by
  unfold mJoinV
  have p1 : 0 ≤ b * t := Int.mul_nonneg hb.1 ht.1
  have p2 : b * t ≤ 65535 * 65535 := by
    have := Int.mul_le_mul_of_nonneg_right hb.2 ht.1
    omega
  have p3 : 0 ≤ b * (65535 - k) := Int.mul_nonneg hb.1 (by omega)
  have p4 : 0 ≤ t * k := Int.mul_nonneg ht.1 hk.1
  have p5 : b * (65535 - k) ≤ 65535 * (65535 - k) := Int.mul_le_mul_of_nonneg_right hb.2 (by omega)
  have p6 : t * k ≤ 65535 * k := Int.mul_le_mul_of_nonneg_right ht.2 hk.1
  have q1 := b_nearest (a := b * t) (b := 65535) (by decide) p1 (by omega)
  have q2 := b_nearest (a := b * (65535 - k) + t * k) (b := 65535) (by decide) (by omega) (by omega)
  repeat' split
  all_goals omega
theorem bd_joined {n : Nat} {F U : Pct} {m : Int} (b : Bd n F) (c : Bd n U) : Bd n (mJoined m F U) := fun k i hk hi => b_joined (b k i hk hi) (c k i hk hi) (c 3 i (by decide) hi)
theorem mixed_nn (a b c d : Int) : 0 ≤ mMixed a b c d := by
  unfold mMixed
  simp only
  generalize mXor _ _ * 3266489917 = z
  omega
theorem cell_in {sd : Nat} (d1 : 1 ≤ sd) (x : Int) : 0 ≤ x % (sd : Int) * 65536 / (sd : Int) ∧ x % (sd : Int) * 65536 / (sd : Int) ≤ 65536 := by
  have a := Int.emod_nonneg x (show (sd : Int) ≠ 0 by omega)
  have b := Int.emod_lt_of_pos x (show (0 : Int) < sd by omega)
  exact ⟨Int.ediv_nonneg (by omega) (by omega), Int.ediv_le_of_le_mul (by omega) (by omega)⟩
theorem smooth_in {t : Int} (h0 : 0 ≤ t) (h1 : t ≤ 65536) : 0 ≤ mSmooth t ∧ mSmooth t ≤ 65536 := by
  unfold mSmooth
  have s0 : 0 ≤ t * t := Int.mul_nonneg h0 h0
  generalize ha : t * t / 65536 = a
  have a0 : 0 ≤ a := by omega
  have a1 : 65536 * a ≤ t * t := by omega
  have k0 : 0 ≤ a * (196608 - 2 * t) := Int.mul_nonneg a0 (by omega)
  have k1 : 65536 * a * (196608 - 2 * t) ≤ t * t * (196608 - 2 * t) := Int.mul_le_mul_of_nonneg_right a1 (by omega)
  have k2 : 0 ≤ (65536 - t) * (65536 - t) * (65536 + 2 * t) := Int.mul_nonneg (Int.mul_nonneg (by omega) (by omega)) (by omega)
  have k3 : t * t * (196608 - 2 * t) = 65536 * 65536 * 65536 - (65536 - t) * (65536 - t) * (65536 + 2 * t) := by grind
  have k4 : 65536 * a * (196608 - 2 * t) = 65536 * (a * (196608 - 2 * t)) := by grind
  omega
theorem between_nn {a b u : Int} (ha : 0 ≤ a) (hb : 0 ≤ b) (h0 : 0 ≤ u) (h1 : u ≤ 65536) : 0 ≤ mBetween a b u := by
  unfold mBetween
  have k1 : 0 ≤ a * (65536 - u) := Int.mul_nonneg ha (by omega)
  have k2 : 0 ≤ b * u := Int.mul_nonneg hb h0
  omega
theorem layer_nn {w h sd : Nat} (d1 : 1 ≤ sd) (seed o x y : Int) : 0 ≤ mLayer w h sd seed o x y := by
  have bx := smooth_in (cell_in d1 x).1 (cell_in d1 x).2
  have by_ := smooth_in (cell_in d1 y).1 (cell_in d1 y).2
  exact between_nn (between_nn (mixed_nn ..) (mixed_nn ..) bx.1 bx.2) (between_nn (mixed_nn ..) (mixed_nn ..) bx.1 bx.2) by_.1 by_.2
theorem loud_in {fall : Int} (h0 : 0 ≤ fall) (h1 : fall ≤ 65535) : ∀ o, 0 ≤ mLoud fall o ∧ mLoud fall o ≤ 65535
  | 0 => by show (0 : Int) ≤ 65535 ∧ (65535 : Int) ≤ 65535; decide
  | o + 1 => by
    have ih := loud_in h0 h1 o
    show 0 ≤ mLoud fall o * fall / 65536 ∧ mLoud fall o * fall / 65536 ≤ 65535
    have a : 0 ≤ mLoud fall o * fall := Int.mul_nonneg ih.1 h0
    have b : mLoud fall o * fall ≤ 65535 * fall := Int.mul_le_mul_of_nonneg_right ih.2 h0
    omega
theorem sum_nn {w h cell : Nat} {seed fall : Int} (h0 : 0 ≤ fall) (h1 : fall ≤ 65535) (i : Nat) : ∀ o, 0 ≤ mNoiseSum w h seed cell fall o i
  | 0 => Int.le_refl 0
  | o + 1 => by
    have ih := sum_nn (w := w) (h := h) (cell := cell) (seed := seed) h0 h1 i o
    have l := loud_in h0 h1 o
    have k := layer_nn (w := w) (h := h) (sd := 2 ^ (cell - o)) Nat.one_le_two_pow seed (o : Int) (px w i) (py w i)
    show 0 ≤ mNoiseSum w h seed cell fall o i + mLayer w h (2 ^ (cell - o)) seed (o : Int) (px w i) (py w i) * mLoud fall o / 65536
    have : 0 ≤ mLayer w h (2 ^ (cell - o)) seed (o : Int) (px w i) (py w i) * mLoud fall o := Int.mul_nonneg k l.1
    omega
theorem bd_noise {w h cell layers n : Nat} {seed fall : Int} (h0 : 0 ≤ fall) (h1 : fall ≤ 65535) : Bd n (mNoise w h seed cell layers fall) := fun k i _ _ => by
  unfold mNoise
  split
  · have := sum_nn (w := w) (h := h) (cell := cell) (seed := seed) h0 h1 i (min layers (cell + 1))
    omega
  · decide
end GT
end
section
set_option Elab.async false
set_option linter.all false
set_option maxRecDepth 100000
set_option maxHeartbeats 2000000
/-! how data lie in the heap, and the promise of each def -/
namespace GT
open PySem PySem.Spec PyProof.Rows L2
open Evl (Ex)
/-- at a a list of n objects, the i-th of content c i -/
def LsAt (H : Hp) (a : Addr) (n : Nat) (c : Nat → HO) : Prop := ∃ acc : List V, acc.length = n ∧ H a = some (.lst acc) ∧ ∀ (i : Nat) (v : V), acc[i]? = some v → ∃ T, v = .ref T ∧ H T = some (c i)
theorem LsAt.mono {H H' : Hp} {a : Addr} {n : Nat} {c : Nat → HO} (s : LsAt H a n c) (e : Ex H H') : LsAt H' a n c := by
  obtain ⟨acc, h1, h2, h3⟩ := s
  exact ⟨acc, h1, e a _ h2, fun i v q => let ⟨T, t1, t2⟩ := h3 i v q; ⟨T, t1, e T _ t2⟩⟩
/-- n pairs of whole numbers -/
def prC (f g : Nat → Int) (i : Nat) : HO := .tup [.int (f i), .int (g i)]
def chC (n : Nat) (F : Pct) (k : Nat) : HO := .lst (chV n (F k))
def PairsAt (H : Hp) (a : Addr) (n : Nat) (f g : Nat → Int) : Prop := LsAt H a n (prC f g)
/-- an address that is known -/
def Al (H : Hp) (u : Addr) : Prop := ∃ o, H u = some o
theorem Al.ex {H H' : Hp} {u : Addr} (h : Al H u) (e : Ex H H') : Al H' u := let ⟨o, q⟩ := h; ⟨o, e u o q⟩
theorem Al.ne {H : Hp} {u p : Addr} (h : Al H u) (n : H p = none) : p ≠ u := fun z => by
  obtain ⟨o, q⟩ := h
  rw [← z, n] at q
  cases q
theorem del_ex {H : Hp} {q : Addr} : Ex (L2.del H q) H := fun b o e => by
  by_cases h : b = q
  · rw [h, L2.del_same] at e; cases e
  · rwa [L2.del_ne h] at e
theorem del_in {H : Hp} {q b : Addr} {o : HO} (h : L2.del H q b = some o) : b ≠ q ∧ H b = some o := by
  by_cases z : b = q
  · rw [z, L2.del_same] at h; cases h
  · rw [L2.del_ne z] at h; exact ⟨z, h⟩
theorem del_of {H : Hp} {q b : Addr} {o : HO} (n : b ≠ q) (h : H b = some o) : L2.del H q b = some o := by rw [L2.del_ne n]; exact h
theorem ex_del {H H' : Hp} {q : Addr} (e : Ex H H') : Ex (L2.del H q) (L2.del H' q) := fun b o h => let ⟨n, g⟩ := del_in h; del_of n (e b o g)
/-- a picture of n pixels, all of it apart from u -/
def PicAt (u : Addr) (H : Hp) (a : Addr) (n : Nat) (F : Pct) : Prop := LsAt (L2.del H u) a 4 (chC n F)
theorem PicAt.mono {u : Addr} {H H' : Hp} {a : Addr} {n : Nat} {F : Pct} (s : PicAt u H a n F) (e : Ex H H') : PicAt u H' a n F := LsAt.mono s (ex_del e)
theorem PicAt.ls {u : Addr} {H : Hp} {a : Addr} {n : Nat} {F : Pct} (s : PicAt u H a n F) : LsAt H a 4 (chC n F) := LsAt.mono s del_ex
theorem LsAt.congr {H : Hp} {a : Addr} {n : Nat} {c d : Nat → HO} (s : LsAt H a n c) (h : ∀ i, i < n → c i = d i) : LsAt H a n d := by
  obtain ⟨acc, h1, h2, h3⟩ := s
  exact ⟨acc, h1, h2, fun i v q => by
    obtain ⟨T, t1, t2⟩ := h3 i v q
    rw [h i (by rw [← h1]; exact (List.getElem?_eq_some_iff.mp q).1)] at t2
    exact ⟨T, t1, t2⟩⟩
/-- new at p, what it holds is new too -/
def NewLs (H : Hp) (p : Addr) (n : Nat) (c : Nat → HO) (H' : Hp) : Prop :=
  H p = none ∧ Ex H H' ∧ ∃ acc : List V, acc.length = n ∧ H' p = some (.lst acc) ∧ ∀ (i : Nat) (v : V), acc[i]? = some v → ∃ T, v = .ref T ∧ H T = none ∧ H' T = some (c i)
theorem NewLs.at_ {H H' : Hp} {p : Addr} {n : Nat} {c : Nat → HO} (s : NewLs H p n c H') : LsAt H' p n c := by
  obtain ⟨_, _, acc, h1, h2, h3⟩ := s
  exact ⟨acc, h1, h2, fun i v q => let ⟨T, t1, _, t2⟩ := h3 i v q; ⟨T, t1, t2⟩⟩
/-- a layer of noise: its side, and the rows of its corners -/
def LayerAt (A : Ad) (H : Hp) (a : Addr) (w h sd : Nat) (seed o : Int) : Prop := ∃ dx c, H a = some (.ins A.CL dx [("side", .int (sd : Int)), ("across", .int ((w / sd : Nat) : Int)), ("down", .int ((h / sd : Nat) : Int)), ("corners", .ref c)]) ∧
  LsAt H c (h / sd) (fun b => .lst (chV (w / sd) fun a => mMixed seed (a : Int) (b : Int) o))
/-- the stack's list: the bottom first -/
def StackAt (H : Hp) (k : Addr) (n : Nat) (pile : List Pct) : Prop := ∃ as : List Addr, as.length = pile.length ∧ H k = some (.lst ((as.map V.ref).reverse)) ∧ ∀ (i : Nat) (a : Addr) (F : Pct), as[i]? = some a → pile[i]? = some F → LsAt H a 4 (chC n F)
def DeskO (A : Ad) (H : Hp) (d : Addr) : Option Dk → Prop
  | none => ∃ dx z k, H d = some (.ins A.CD dx [("sizes", .ref z), ("stack", .ref k)]) ∧ H z = some (.lst []) ∧ H k = some (.lst [])
  | some D => ∃ dx z k sz, H d = some (.ins A.CD dx [("sizes", .ref z), ("stack", .ref k)]) ∧ H z = some (.lst [.ref sz]) ∧ SizeAt A H sz D.w D.h ∧ sizeOk D.w D.h ∧ D.pile.length ≤ 8 ∧ (∀ F ∈ D.pile, Bd (D.w * D.h) F) ∧ StackAt H k (D.w * D.h) D.pile
/-- the desk, all of it apart from u -/
def DeskAt (A : Ad) (u : Addr) (H : Hp) (d : Addr) (st : Option Dk) : Prop := DeskO A (L2.del H u) d st
/-! ### promises of what changes nothing: from the values and the heap, what is handed back -/
/-- an int -/
def SpI (R : List V → Hp → Int → Prop) : Sp := fun vs H Q _ => ∃ z, R vs H z ∧ ∀ H', Ex H H' → Q (.int z) H'
/-- a new list of whole numbers -/
def SpN (R : List V → Hp → Nat → (Nat → Int) → Prop) : Sp := fun vs H Q _ => ∃ n f, R vs H n f ∧ ∀ p H', H p = none → Ex H H' → H' p = some (.lst (chV n f)) → Q (.ref p) H'
/-- a picture -/
def SpP (R : Addr → List V → Hp → Nat → Pct → Prop) : Sp := fun vs H Q _ => ∃ u n F, Al H u ∧ R u vs H n F ∧ ∀ p H', Ex H H' → PicAt u H' p n F → Q (.ref p) H'
def sp_clamped (K : PySem.W.Frag) (A : Ad) : Sp := SpI fun vs _ z => ∃ x : Int, vs = [.int x] ∧ z = mClamped x
def sp_nearest (K : PySem.W.Frag) (A : Ad) : Sp := SpI fun vs _ z => ∃ a b : Int, vs = [.int a, .int b] ∧ 0 < b ∧ b < 100000 ∧ z = mNearest a b
def sp_power_of_two (K : PySem.W.Frag) (A : Ad) : Sp := SpI fun vs _ z => ∃ k : Nat, vs = [.int (k : Int)] ∧ k ≤ 40 ∧ z = 2 ^ k
def sp_Size___init__ (K : PySem.W.Frag) (A : Ad) : Sp := fun vs H Q _ => ∃ (p dx : Addr) (w h : Nat), vs = [.ref p, .int (w : Int), .int (h : Int)] ∧ H p = some (.ins A.CS dx []) ∧ ∀ H' : Hp, SizeAt A H' p w h → ExB p H H' → Q .non H'
def sp_Size_spots (K : PySem.W.Frag) (A : Ad) : Sp := fun vs H Q _ => ∃ (s : Addr) (w h : Nat), vs = [.ref s] ∧ SizeAt A H s w h ∧ sizeOk w h ∧ ∀ p H', NewLs H p (w * h) (prC (px w) (py w)) H' → Q (.ref p) H'
def sp_Size_value (K : PySem.W.Frag) (A : Ad) : Sp := SpI fun vs H z => ∃ (s c : Addr) (w h : Nat) (f : Chn) (x y : Int), vs = [.ref s, .ref c, .int x, .int y] ∧ SizeAt A H s w h ∧ sizeOk w h ∧ H c = some (.lst (chV (w * h) f)) ∧ z = mGot w h f x y
def sp_Size_sample (K : PySem.W.Frag) (A : Ad) : Sp := SpI fun vs H z => ∃ (s c : Addr) (w h : Nat) (f : Chn) (x y : Int), vs = [.ref s, .ref c, .int x, .int y] ∧ SizeAt A H s w h ∧ sizeOk w h ∧ H c = some (.lst (chV (w * h) f)) ∧ z = mSample w h f x y
def sp_flat (K : PySem.W.Frag) (A : Ad) : Sp := SpP fun u vs H n F => ∃ (s c : Addr) (w h : Nat) (f : Chn), vs = [.ref s, .ref c] ∧ SizeAt A H s w h ∧ sizeOk w h ∧ H c = some (.lst (chV 4 f)) ∧ n = w * h ∧ F = fun k _ => f k
def sp_dithered (K : PySem.W.Frag) (A : Ad) : Sp := SpI fun vs _ z => ∃ (v x y : Int) (n : Nat), vs = [.int v, .int (n : Int), .int x, .int y] ∧ n ≤ 8 ∧ 0 ≤ v ∧ v ≤ 65535 ∧ z = mDither v n x y
def sp_strength_at (K : PySem.W.Frag) (A : Ad) : Sp := SpI fun vs H z => ∃ (s p m r : Addr) (w h : Nat) (x y cx cy rx ry : Int) (n : Nat), vs = [.ref s, .ref p, .ref m, .ref r, .int (n : Int)] ∧ SizeAt A H s w h ∧ sizeOk w h ∧ H p = some (.tup [.int x, .int y]) ∧ H m = some (.lst [.int cx, .int cy]) ∧ H r = some (.lst [.int rx, .int ry]) ∧
  1 ≤ rx ∧ rx ≤ 255 ∧ 1 ≤ ry ∧ ry ≤ 255 ∧ 1 ≤ n ∧ n ≤ 8 ∧ z = mStrength w h x y cx cy rx ry n
def sp_glow (K : PySem.W.Frag) (A : Ad) : Sp := SpP fun u vs H N G => ∃ (s p m r c : Addr) (w h : Nat) (F : Pct) (cx cy rx ry : Int) (n : Nat) (f : Chn), vs = [.ref s, .ref p, .ref m, .ref r, .int (n : Int), .ref c] ∧ SizeAt A H s w h ∧ sizeOk w h ∧ PicAt u H p (w * h) F ∧ H m = some (.lst [.int cx, .int cy]) ∧ H r = some (.lst [.int rx, .int ry]) ∧
  H c = some (.lst (chV 4 f)) ∧ (∀ k, k < 4 → 0 ≤ f k ∧ f k ≤ 65535) ∧ 1 ≤ rx ∧ rx ≤ 255 ∧ 1 ≤ ry ∧ ry ≤ 255 ∧ 1 ≤ n ∧ n ≤ 8 ∧ N = w * h ∧ G = mGlow w h F cx cy rx ry n f
def sp_box (K : PySem.W.Frag) (A : Ad) : Sp := SpP fun u vs H N G => ∃ (s p m r c : Addr) (w h : Nat) (F : Pct) (x0 y0 sw sh : Int) (f : Chn), vs = [.ref s, .ref p, .ref m, .ref r, .ref c] ∧ SizeAt A H s w h ∧ sizeOk w h ∧ PicAt u H p (w * h) F ∧ H m = some (.lst [.int x0, .int y0]) ∧ H r = some (.lst [.int sw, .int sh]) ∧
  H c = some (.lst (chV 4 f)) ∧ N = w * h ∧ G = mBox w h F x0 y0 sw sh f
def sp_blurred_row (K : PySem.W.Frag) (A : Ad) : Sp := SpN fun vs H n g => ∃ (c : Addr) (r : Nat) (f : Chn), vs = [.ref c, .int (r : Int)] ∧ 1 ≤ n ∧ n ≤ 64 ∧ r ≤ 100 ∧ H c = some (.lst (chV n f)) ∧ g = mRow n f r
def sp_turned_over (K : PySem.W.Frag) (A : Ad) : Sp := SpN fun vs H n g => ∃ (c : Addr) (w h : Nat) (f : Chn), vs = [.ref c, .int (w : Int), .int (h : Int)] ∧ sizeOk w h ∧ H c = some (.lst (chV (w * h) f)) ∧ n = w * h ∧ g = mOver w h f
def sp_blurred_rows (K : PySem.W.Frag) (A : Ad) : Sp := SpN fun vs H n g => ∃ (c : Addr) (w h r : Nat) (f : Chn), vs = [.ref c, .int (w : Int), .int (r : Int)] ∧ sizeOk w h ∧ r ≤ 100 ∧ H c = some (.lst (chV (w * h) f)) ∧ n = w * h ∧ g = mRows w f r
def sp_blurred (K : PySem.W.Frag) (A : Ad) : Sp := SpN fun vs H n g => ∃ (s c : Addr) (w h a d : Nat) (f : Chn), vs = [.ref s, .ref c, .int (a : Int), .int (d : Int)] ∧ SizeAt A H s w h ∧ sizeOk w h ∧ a ≤ 100 ∧ d ≤ 100 ∧ H c = some (.lst (chV (w * h) f)) ∧ n = w * h ∧ g = mBlurred w h f a d
def sp_blur (K : PySem.W.Frag) (A : Ad) : Sp := SpP fun u vs H N G => ∃ (s p : Addr) (w h a d n : Nat) (F : Pct), vs = [.ref s, .ref p, .int (a : Int), .int (d : Int), .int (n : Int)] ∧ SizeAt A H s w h ∧ sizeOk w h ∧ PicAt u H p (w * h) F ∧ a ≤ 100 ∧ d ≤ 100 ∧ n ≤ 100 ∧ N = w * h ∧ G = mBlur w h a d n F
def sp_turn (K : PySem.W.Frag) (A : Ad) : Sp := SpP fun u vs H N G => ∃ (s p : Addr) (w h : Nat) (F : Pct) (c t : Int), vs = [.ref s, .ref p, .int c, .int t] ∧ SizeAt A H s w h ∧ sizeOk w h ∧ PicAt u H p (w * h) F ∧ -100000 ≤ c ∧ c ≤ 100000 ∧ -100000 ≤ t ∧ t ≤ 100000 ∧ N = w * h ∧ G = mTurn w h F c t
def sp_sampled (K : PySem.W.Frag) (A : Ad) : Sp := SpP fun u vs H N G => ∃ (s p q : Addr) (w h : Nat) (F : Pct) (X Y : Nat → Int), vs = [.ref s, .ref p, .ref q] ∧ SizeAt A H s w h ∧ sizeOk w h ∧ PicAt u H p (w * h) F ∧ PairsAt H q (w * h) X Y ∧ N = w * h ∧ G = mSampled w h F X Y
def sp_bend (K : PySem.W.Frag) (A : Ad) : Sp := SpP fun u vs H N G => ∃ (s p q : Addr) (w h : Nat) (F T : Pct) (n : Int), vs = [.ref s, .ref p, .ref q, .int n] ∧ SizeAt A H s w h ∧ sizeOk w h ∧ PicAt u H p (w * h) F ∧ PicAt u H q (w * h) T ∧ -100000 ≤ n ∧ n ≤ 100000 ∧ N = w * h ∧ G = mBend w h F T n
def sp_levelled (K : PySem.W.Frag) (A : Ad) : Sp := SpI fun vs _ z => ∃ v lo hi : Int, vs = [.int v, .int lo, .int hi] ∧ lo < hi ∧ 0 ≤ lo ∧ hi ≤ 65535 ∧ z = mLevelled v lo hi
def sp_levels (K : PySem.W.Frag) (A : Ad) : Sp := SpP fun u vs H N G => ∃ (p : Addr) (F : Pct) (lo hi : Int), vs = [.ref p, .int lo, .int hi] ∧ N ≤ 5000 ∧ PicAt u H p N F ∧ lo < hi ∧ 0 ≤ lo ∧ hi ≤ 65535 ∧ G = mLevels F lo hi
def sp_coloured (K : PySem.W.Frag) (A : Ad) : Sp := SpN fun vs H n g => ∃ (p r : Addr) (F : Pct) (a b c d : Int), vs = [.ref p, .ref r] ∧ n ≤ 5000 ∧ LsAt H p 4 (chC n F) ∧ H r = some (.lst [.int a, .int b, .int c, .int d]) ∧ (-100000 ≤ a ∧ a ≤ 100000) ∧ (-100000 ≤ b ∧ b ≤ 100000) ∧ (-100000 ≤ c ∧ c ≤ 100000) ∧ g = mColoured F a b c d
def sp_recoloured (K : PySem.W.Frag) (A : Ad) : Sp := SpP fun u vs H N G => ∃ (p r : Addr) (F : Pct) (m : Nat → Int), vs = [.ref p, .ref r] ∧ N ≤ 5000 ∧ PicAt u H p N F ∧ H r = some (.lst (chV 12 m)) ∧ (∀ j, j < 12 → -100000 ≤ m j ∧ m j ≤ 100000) ∧ G = mRecoloured F m
def sp_light (K : PySem.W.Frag) (A : Ad) : Sp := SpP fun u vs H N G => ∃ (s p : Addr) (w h : Nat) (F : Pct) (lx ly n : Int), vs = [.ref s, .ref p, .int lx, .int ly, .int n] ∧ SizeAt A H s w h ∧ sizeOk w h ∧ PicAt u H p (w * h) F ∧ (-1000 ≤ lx ∧ lx ≤ 1000) ∧ (-1000 ≤ ly ∧ ly ≤ 1000) ∧ (0 ≤ n ∧ n ≤ 100000) ∧ N = w * h ∧ G = mLight w h F lx ly n
def sp_joined_value (K : PySem.W.Frag) (A : Ad) : Sp := SpI fun vs _ z => ∃ m b t k : Int, vs = [.int m, .int b, .int t, .int k] ∧ (0 ≤ b ∧ b ≤ 65535) ∧ (0 ≤ t ∧ t ≤ 65535) ∧ z = mJoinV m b t k
def sp_joined (K : PySem.W.Frag) (A : Ad) : Sp := SpP fun u vs H N G => ∃ (p q : Addr) (F T : Pct) (m : Int), vs = [.int m, .ref p, .ref q] ∧ N ≤ 5000 ∧ PicAt u H p N F ∧ PicAt u H q N T ∧ Bd N F ∧ Bd N T ∧ G = mJoined m F T
def sp_mixed (K : PySem.W.Frag) (A : Ad) : Sp := SpI fun vs _ z => ∃ a b c d : Int, vs = [.int a, .int b, .int c, .int d] ∧ z = mMixed a b c d
def sp_smooth (K : PySem.W.Frag) (A : Ad) : Sp := SpI fun vs _ z => ∃ t : Int, vs = [.int t] ∧ 0 ≤ t ∧ t ≤ 65536 ∧ z = mSmooth t
def sp_between (K : PySem.W.Frag) (A : Ad) : Sp := SpI fun vs _ z => ∃ a b u : Int, vs = [.int a, .int b, .int u] ∧ 0 ≤ u ∧ u ≤ 65536 ∧ z = mBetween a b u
def sp_Layer___init__ (K : PySem.W.Frag) (A : Ad) : Sp := fun vs H Q _ => ∃ (p s dx : Addr) (w h sd : Nat) (seed o : Int), vs = [.ref p, .ref s, .int seed, .int o, .int (sd : Int)] ∧ H p = some (.ins A.CL dx []) ∧ SizeAt A H s w h ∧ sizeOk w h ∧ 1 ≤ sd ∧ sd ≤ 64 ∧ ∀ H' : Hp, LayerAt A H' p w h sd seed o → ExB p H H' → Q .non H'
def sp_Layer_corner (K : PySem.W.Frag) (A : Ad) : Sp := SpI fun vs H z => ∃ (p : Addr) (w h sd : Nat) (seed o i j : Int), vs = [.ref p, .int i, .int j] ∧ LayerAt A H p w h sd seed o ∧ 1 ≤ sd ∧ sd ≤ w ∧ sd ≤ h ∧ z = mCorner w h sd seed o i j
def sp_Layer_value (K : PySem.W.Frag) (A : Ad) : Sp := SpI fun vs H z => ∃ (p : Addr) (w h sd : Nat) (seed o x y : Int), vs = [.ref p, .int x, .int y] ∧ LayerAt A H p w h sd seed o ∧ 1 ≤ sd ∧ sd ≤ 64 ∧ sd ≤ w ∧ sd ≤ h ∧ z = mLayer w h sd seed o x y
def sp_noise (K : PySem.W.Frag) (A : Ad) : Sp := SpP fun u vs H N G => ∃ (s : Addr) (w h : Nat) (seed fall : Int) (cell layers : Nat), vs = [.ref s, .int seed, .int (cell : Int), .int (layers : Int), .int fall] ∧ SizeAt A H s w h ∧ sizeOk w h ∧ cell ≤ 6 ∧ 2 ^ cell ≤ w ∧ 2 ^ cell ≤ h ∧ layers ≤ 7 ∧ 0 ≤ fall ∧ fall ≤ 65535 ∧
  N = w * h ∧ G = mNoise w h seed cell layers fall
/-! ### promises of what may raise, and of the desk -/
/-- an error of the code c is raised; all stands -/
def Fail (A : Ad) (H : Hp) (E : XK) (c : Int) : Prop := ∀ H' d, Ex H H' → H' d = some (.xd [("code", .int c)]) → E (.ref A.CR) (some d) H'
/-- the desk at d is as st says, and a new list of whole numbers is handed back -/
def Done (A : Ad) (u : Addr) (H : Hp) (d : Addr) (Q : VK) (st : Option Dk) (ans : List Int) : Prop := ∀ p H', H p = none → ExB d H H' → DeskAt A u H' d st → H' p = some (.lst (ans.map V.int)) → Q (.ref p) H'
def Out (A : Ad) (u : Addr) (H : Hp) (d : Addr) (Q : VK) (E : XK) : Res → Prop
  | .ok (D, ans) => Done A u H d Q (some D) ans
  | .error c => Fail A H E c
def sp_Refused___init__ (K : PySem.W.Frag) (A : Ad) : Sp := fun vs H Q _ => ∃ (a : Addr) (c : Int), vs = [.ref a, .int c] ∧ H a = some (exo a A.CR none) ∧ ∀ dx, H dx = none → dx ≠ a → Q .non (upd (upd H dx (exd dx [("code", .int c)])) a (exo a A.CR (some dx)))
def sp_need (K : PySem.W.Frag) (A : Ad) : Sp := fun vs H Q E => ∃ (b : Bool) (c : Int), vs = [.bl b, .int c] ∧ (b = true → ∀ H', Ex H H' → Q .non H') ∧ (b = false → Fail A H E c)
def sp_need_within (K : PySem.W.Frag) (A : Ad) : Sp := fun vs H Q E => ∃ (p q : Addr) (n : Nat) (f lo hi : Nat → Int), vs = [.ref p, .ref q] ∧ n ≤ 100 ∧ H p = some (.lst (chV n f)) ∧ PairsAt H q n lo hi ∧ (within n f lo hi = true → ∀ H', Ex H H' → Q .non H') ∧ (within n f lo hi = false → Fail A H E (-2))
def sp_Desk___init__ (K : PySem.W.Frag) (A : Ad) : Sp := fun vs H Q _ => ∃ (p dx : Addr), vs = [.ref p] ∧ H p = some (.ins A.CD dx []) ∧ ∀ H' : Hp, DeskO A H' p none → ExB p H H' → Q .non H'
def sp_Desk_open_stack (K : PySem.W.Frag) (A : Ad) : Sp := fun vs H Q E => ∃ (u d : Addr) (st : Option Dk) (a b : Int), vs = [.ref d, .int a, .int b] ∧ Al H u ∧ DeskAt A u H d st ∧
  (within 2 (tab [a, b]) (tab [2, 2]) (tab [6, 6]) = true → Done A u H d Q (some ⟨2 ^ a.toNat, 2 ^ b.toNat, []⟩) [0]) ∧ (within 2 (tab [a, b]) (tab [2, 2]) (tab [6, 6]) = false → Fail A H E (-2))
def sp_Desk_size (K : PySem.W.Frag) (A : Ad) : Sp := fun vs H Q _ => ∃ (d dx z k s : Addr), vs = [.ref d] ∧ H d = some (.ins A.CD dx [("sizes", .ref z), ("stack", .ref k)]) ∧ H z = some (.lst [.ref s]) ∧ ∀ H', Ex H H' → Q (.ref s) H'
def sp_Desk_need_pictures (K : PySem.W.Frag) (A : Ad) : Sp := fun vs H Q E => ∃ (u d : Addr) (D : Dk) (m : Nat), vs = [.ref d, .int (m : Int)] ∧ Al H u ∧ DeskAt A u H d (some D) ∧ (m ≤ D.pile.length → ∀ H', Ex H H' → Q .non H') ∧ (D.pile.length < m → Fail A H E (-4))
def sp_Desk_push (K : PySem.W.Frag) (A : Ad) : Sp := fun vs H Q _ => ∃ (u d p : Addr) (D : Dk) (G : Pct), vs = [.ref d, .ref p] ∧ Al H u ∧ DeskAt A u H d (some D) ∧ D.pile.length < 8 ∧ PicAt u H p (D.w * D.h) G ∧ Bd (D.w * D.h) G ∧ Done A u H d Q (some { D with pile := G :: D.pile }) [(D.pile.length : Int) + 1]
def sp_Desk_need_room (K : PySem.W.Frag) (A : Ad) : Sp := fun vs H Q E => ∃ (u d : Addr) (D : Dk), vs = [.ref d] ∧ Al H u ∧ DeskAt A u H d (some D) ∧ (D.pile.length < 8 → ∀ H', Ex H H' → Q .non H') ∧ (8 ≤ D.pile.length → Fail A H E (-5))
/-- pictures in a list, in its order -/
def PicsAt (u : Addr) (H : Hp) (k : Addr) (n : Nat) (Gs : List Pct) : Prop := ∃ as : List Addr, as.length = Gs.length ∧ H k = some (.lst (as.map V.ref)) ∧ ∀ (i : Nat) (a : Addr) (F : Pct), as[i]? = some a → Gs[i]? = some F → PicAt u H a n F
def sp_Desk_replace (K : PySem.W.Frag) (A : Ad) : Sp := fun vs H Q _ => ∃ (u d q : Addr) (D : Dk) (m : Nat) (Gs : List Pct), vs = [.ref d, .int (m : Int), .ref q] ∧ Al H u ∧ DeskAt A u H d (some D) ∧ m ≤ D.pile.length ∧ Gs.length ≤ m ∧ PicsAt u H q (D.w * D.h) Gs ∧ (∀ G ∈ Gs, Bd (D.w * D.h) G) ∧
  Done A u H d Q (some { D with pile := Gs.reverse ++ D.pile.drop m }) [((D.pile.length - m + Gs.length : Nat) : Int)]
/-- an operation with n numbers -/
def spOp (A : Ad) (n : Nat) (pre : (Nat → Int) → Prop) (r : Dk → (Nat → Int) → Res) : Sp := fun vs H Q E => ∃ (u d g : Addr) (D : Dk) (f : Nat → Int), vs = [.ref d, .ref g] ∧ Al H u ∧ DeskAt A u H d (some D) ∧ H g = some (.lst (chV n f)) ∧ pre f ∧ Out A u H d Q E (r D f)
/-- an operation without numbers -/
def spOp0 (A : Ad) (r : Dk → Res) : Sp := fun vs H Q E => ∃ (u d : Addr) (D : Dk), vs = [.ref d] ∧ Al H u ∧ DeskAt A u H d (some D) ∧ Out A u H d Q E (r D)
def sp_Desk_flat (K : PySem.W.Frag) (A : Ad) : Sp := spOp A 4 (argsOk 2) rFlat
def sp_Desk_noise (K : PySem.W.Frag) (A : Ad) : Sp := spOp A 4 (argsOk 3) rNoise
def sp_Desk_glow (K : PySem.W.Frag) (A : Ad) : Sp := spOp A 9 (argsOk 4) rGlow
def sp_Desk_box (K : PySem.W.Frag) (A : Ad) : Sp := spOp A 8 (argsOk 5) rBox
def sp_Desk_blur (K : PySem.W.Frag) (A : Ad) : Sp := spOp A 3 (argsOk 6) rBlur
def sp_Desk_turn (K : PySem.W.Frag) (A : Ad) : Sp := spOp A 2 (argsOk 7) rTurn
def sp_Desk_bend (K : PySem.W.Frag) (A : Ad) : Sp := spOp A 1 (argsOk 8) rBend
def sp_Desk_join (K : PySem.W.Frag) (A : Ad) : Sp := spOp A 1 (argsOk 9) rJoin
def sp_Desk_levels (K : PySem.W.Frag) (A : Ad) : Sp := spOp A 2 (argsOk 10) rLevels
def sp_Desk_colour (K : PySem.W.Frag) (A : Ad) : Sp := spOp A 12 (argsOk 11) rColour
def sp_Desk_light (K : PySem.W.Frag) (A : Ad) : Sp := spOp A 3 (argsOk 12) rLight
def sp_Desk_copy (K : PySem.W.Frag) (A : Ad) : Sp := spOp A 1 (argsOk 13) rCopy
def sp_Desk_swap (K : PySem.W.Frag) (A : Ad) : Sp := spOp0 A rSwap
def sp_Desk_drop (K : PySem.W.Frag) (A : Ad) : Sp := spOp0 A rDrop
def sp_Desk_pixel (K : PySem.W.Frag) (A : Ad) : Sp := spOp A 2 (argsOk 16) rPixel
def sp_Desk_read_bytes (K : PySem.W.Frag) (A : Ad) : Sp := spOp0 A rBytes
def sp_Desk_read_words (K : PySem.W.Frag) (A : Ad) : Sp := spOp0 A rWords
def sp_Desk_early (K : PySem.W.Frag) (A : Ad) : Sp := fun vs H Q E => ∃ (u d g : Addr) (D : Dk) (p : Int) (f : Nat → Int), vs = [.ref d, .int p, .ref g] ∧ Al H u ∧ DeskAt A u H d (some D) ∧ 2 ≤ p ∧ p ≤ 9 ∧ H g = some (.lst (chV (many p) f)) ∧ argsOk p f ∧ Out A u H d Q E (rEarly D p f)
def sp_Desk_later (K : PySem.W.Frag) (A : Ad) : Sp := fun vs H Q E => ∃ (u d g : Addr) (D : Dk) (p : Int) (f : Nat → Int), vs = [.ref d, .int p, .ref g] ∧ Al H u ∧ DeskAt A u H d (some D) ∧ 10 ≤ p ∧ p ≤ 18 ∧ H g = some (.lst (chV (many p) f)) ∧ argsOk p f ∧ Out A u H d Q E (rLater D p f)
def sp_Desk_answer (K : PySem.W.Frag) (A : Ad) : Sp := fun vs H Q _ => ∃ (u d g : Addr) (st : Option Dk) (p : Int) (f : Nat → Int), vs = [.ref d, .int p, .ref g] ∧ Al H u ∧ DeskAt A u H d st ∧ 1 ≤ p ∧ p ≤ 18 ∧ H g = some (.lst (chV (many p) f)) ∧ argsOk p f ∧ Done A u H d Q (rAns st p f).1 (rAns st p f).2
end GT
end
section
set_option Elab.async false
set_option linter.all false
set_option maxRecDepth 100000
set_option maxHeartbeats 4000000
namespace GT
open PySem PySem.Spec PyProof.Rows L2
/-- clamped (level 1); slots: value 0 -/
def t_clamped (K : PySem.W.Frag) (A : Ad) : TS := (tRet (tCB oMax2 (tCons (tC (.int 0)) (tCons (tCB oMin2 (tCons (tVar 0) (tCons (tC (.int 65535)) tNil))) tNil))))
/-- nearest (level 1); slots: top 0 bottom 1 -/
def t_nearest (K : PySem.W.Frag) (A : Ad) : TS := (tRet (tOp oDiv (tOp oAdd (tOp oMul (tC (.int 2)) (tVar 0)) (tVar 1)) (tOp oMul (tC (.int 2)) (tVar 1))))
/-- power_of_two (level 1); slots: many 0 found 1 turn 2 -/
def t_power_of_two (K : PySem.W.Frag) (A : Ad) : TS := (tSeq (tAsg (tC (.int 1)) (gName 1)) (tSeq (tFor (iRng1 (tCons (tVar 0) tNil)) (gName 2) (tAsg (tOp oMul (tC (.int 2)) (tVar 1)) (gName 1))) (tRet (tVar 1))))
/-- Size __init__ (level 1); slots: self 0 width 1 height 2 -/
def t_Size___init__ (K : PySem.W.Frag) (A : Ad) : TS := (tSeq (sFld K (tVar 0) (tVar 1) "width") (sFld K (tVar 0) (tVar 2) "height"))
/-- Size spots (level 1); slots: self 0 found 1 y 2 x 3 -/
def t_Size_spots (K : PySem.W.Frag) (A : Ad) : TS := (tSeq (tAsg (tLst tNil) (gName 1)) (tSeq (tFor (iRng1 (tCons (tFld K (tVar 0) "height") tNil)) (gName 2) (tDrop (tBM K "list" rExtend (tVar 1) (tCons (tLc (iRng1 (tCons (tFld K (tVar 0) "width") tNil)) (gName 3) tYes (tTup (tCons (tVar 3) (tCons (tVar 2) tNil))) [3]) tNil)))) (tRet (tVar 1))))
/-- Size value (level 1); slots: self 0 channel 1 x 2 y 3 -/
def t_Size_value (K : PySem.W.Frag) (A : Ad) : TS := (tRet (tOp (rIxL K) (tVar 1) (tOp oAdd (tOp oMul (tOp oMod (tVar 3) (tFld K (tVar 0) "height")) (tFld K (tVar 0) "width")) (tOp oMod (tVar 2) (tFld K (tVar 0) "width")))))
/-- Size sample (level 2); slots: self 0 channel 1 x 2 y 3 i 4 j 5 u 6 v 7 e 8 f 9 -/
def t_Size_sample (K : PySem.W.Frag) (A : Ad) : TS := (tSeq (tPar 4 5 (tCons (tOp oDiv (tVar 2) (tC (.int 256))) (tCons (tOp oDiv (tVar 3) (tC (.int 256))) tNil))) (tSeq (tPar 6 7 (tCons (tOp oMod (tVar 2) (tC (.int 256))) (tCons (tOp oMod (tVar 3) (tC (.int 256))) tNil))) (tSeq (tAsg (tOp oAdd (tOp oMul (tMeth A.CS "value" (sp_Size_value K A) [] E0 (tVar 0) (tCons (tVar 1) (tCons (tVar 4) (tCons (tVar 5) tNil)))) (tOp oSub (tC (.int 256)) (tVar 6))) (tOp oMul (tMeth A.CS "value" (sp_Size_value K A) [] E0 (tVar 0) (tCons (tVar 1) (tCons (tOp oAdd (tVar 4) (tC (.int 1))) (tCons (tVar 5) tNil)))) (tVar 6))) (gName 8)) (tSeq (tAsg (tOp oAdd (tOp oMul (tMeth A.CS "value" (sp_Size_value K A) [] E0 (tVar 0) (tCons (tVar 1) (tCons (tVar 4) (tCons (tOp oAdd (tVar 5) (tC (.int 1))) tNil)))) (tOp oSub (tC (.int 256)) (tVar 6))) (tOp oMul (tMeth A.CS "value" (sp_Size_value K A) [] E0 (tVar 0) (tCons (tVar 1) (tCons (tOp oAdd (tVar 4) (tC (.int 1))) (tCons (tOp oAdd (tVar 5) (tC (.int 1))) tNil)))) (tVar 6))) (gName 9)) (tRet (tOp oDiv (tOp oAdd (tOp oMul (tVar 8) (tOp oSub (tC (.int 256)) (tVar 7))) (tOp oMul (tVar 9) (tVar 7))) (tC (.int 65536))))))))
/-- flat (level 1); slots: size 0 colour 1 many 2 k 3 turn 4 -/
def t_flat (K : PySem.W.Frag) (A : Ad) : TS := (tSeq (tAsg (tOp oMul (tFld K (tVar 0) "width") (tFld K (tVar 0) "height")) (gName 2)) (tRet (tLc (iRng1 (tCons (tC (.int 4)) tNil)) (gName 3) tYes (tLc (iRng1 (tCons (tVar 2) tNil)) (gName 4) tYes (tOp (rIxL K) (tVar 1) (tVar 3)) [4]) [3])))
/-- dithered (level 2); slots: value 0 bits 1 x 2 y 3 top 4 whole 5 rest 6 found 7 -/
def t_dithered (K : PySem.W.Frag) (A : Ad) : TS := (tSeq (tAsg (tOp oSub (tCall (sp_power_of_two K A) [] E0 (tCons (tVar 1) tNil)) (tC (.int 1))) (gName 4)) (tSeq (tAsg (tOp oDiv (tOp oMul (tVar 0) (tVar 4)) (tC (.int 65535))) (gName 5)) (tSeq (tAsg (tOp oDiv (tOp oMul (tOp oMod (tOp oMul (tVar 0) (tVar 4)) (tC (.int 65535))) (tC (.int 16))) (tC (.int 65535))) (gName 6)) (tSeq (tAsg (tOp oDiv (tOp oSub (tOp oAdd (tOp oAdd (tOp oMul (tC (.int 16)) (tVar 5)) (tVar 6)) (tC (.int 15))) (tOp (rIxT K) (tC (.ref A.aS)) (tOp oAdd (tOp oMul (tC (.int 4)) (tOp oMod (tVar 3) (tC (.int 4)))) (tOp oMod (tVar 2) (tC (.int 4)))))) (tC (.int 16))) (gName 7)) (tRet (tCB oMin2 (tCons (tVar 7) (tCons (tVar 4) tNil))))))))
/-- strength_at (level 1); slots: size 0 spot 1 middle 2 radii 3 many 4 half 5 tall 6 dx 7 dy 8 u 9 v 10 t 11 found 12 turn 13 -/
def t_strength_at (K : PySem.W.Frag) (A : Ad) : TS := (tSeq (tPar 5 6 (tCons (tOp oDiv (tFld K (tVar 0) "width") (tC (.int 2))) (tCons (tOp oDiv (tFld K (tVar 0) "height") (tC (.int 2))) tNil))) (tSeq (tAsg (tOp oSub (tOp oMod (tOp oAdd (tOp oSub (tOp (rIxT K) (tVar 1) (tC (.int 0))) (tOp (rIxL K) (tVar 2) (tC (.int 0)))) (tVar 5)) (tFld K (tVar 0) "width")) (tVar 5)) (gName 7)) (tSeq (tAsg (tOp oSub (tOp oMod (tOp oAdd (tOp oSub (tOp (rIxT K) (tVar 1) (tC (.int 1))) (tOp (rIxL K) (tVar 2) (tC (.int 1)))) (tVar 6)) (tFld K (tVar 0) "height")) (tVar 6)) (gName 8)) (tSeq (tPar 9 10 (tCons (tOp oDiv (tOp oMul (tC (.int 256)) (tVar 7)) (tOp (rIxL K) (tVar 3) (tC (.int 0)))) (tCons (tOp oDiv (tOp oMul (tC (.int 256)) (tVar 8)) (tOp (rIxL K) (tVar 3) (tC (.int 1)))) tNil))) (tSeq (tAsg (tOp oAdd (tOp oMul (tVar 9) (tVar 9)) (tOp oMul (tVar 10) (tVar 10))) (gName 11)) (tSeq (tIfS (tTest (tOp oGe (tVar 11) (tC (.int 65536)))) (tRet (tC (.int 0))) tNext) (tSeq (tAsg (tOp oSub (tC (.int 65536)) (tVar 11)) (gName 12)) (tSeq (tFor (iRng1 (tCons (tOp oSub (tVar 4) (tC (.int 1))) tNil)) (gName 13) (tAsg (tOp oDiv (tOp oMul (tVar 12) (tOp oSub (tC (.int 65536)) (tVar 11))) (tC (.int 65536))) (gName 12))) (tRet (tVar 12))))))))))
/-- glow (level 2); slots: size 0 picture 1 middle 2 radii 3 many 4 colour 5 strengths 6 found 7 channel 8 own 9 spot 10 value 11 more 12 -/
def t_glow (K : PySem.W.Frag) (A : Ad) : TS := (tSeq (tAsg (tLc (iList K (tMeth A.CS "spots" (sp_Size_spots K A) [] E0 (tVar 0) tNil)) (gName 10) tYes (tCall (sp_strength_at K A) [] E0 (tCons (tVar 0) (tCons (tVar 10) (tCons (tVar 2) (tCons (tVar 3) (tCons (tVar 4) tNil)))))) [10]) (gName 6)) (tSeq (tAsg (tLst tNil) (gName 7)) (tSeq (tFor (iZip K (tCons (tVar 1) (tCons (tVar 5) tNil))) (gTup K 2 (gCons (gName 8) (gCons (gName 9) gNil))) (tDrop (tBM K "list" rAppend (tVar 7) (tCons (tLc (iZip K (tCons (tVar 8) (tCons (tVar 6) tNil))) (gTup K 2 (gCons (gName 11) (gCons (gName 12) gNil))) tYes (tCB oMin2 (tCons (tC (.int 65535)) (tCons (tOp oAdd (tVar 11) (tOp oDiv (tOp oMul (tVar 9) (tVar 12)) (tC (.int 65536)))) tNil))) [11, 12]) tNil)))) (tRet (tVar 7)))))
/-- box (level 2); slots: size 0 picture 1 corner 2 sides 3 colour 4 inside 5 x 6 y 7 is_across 8 found 9 channel 10 own 11 value 12 is_in 13 -/
def t_box (K : PySem.W.Frag) (A : Ad) : TS := (tSeq (tAsg (tLst tNil) (gName 5)) (tSeq (tFor (iList K (tMeth A.CS "spots" (sp_Size_spots K A) [] E0 (tVar 0) tNil)) (gTup K 2 (gCons (gName 6) (gCons (gName 7) gNil))) (tSeq (tAsg (tOp oLt (tOp oMod (tOp oSub (tVar 6) (tOp (rIxL K) (tVar 2) (tC (.int 0)))) (tFld K (tVar 0) "width")) (tOp (rIxL K) (tVar 3) (tC (.int 0)))) (gName 8)) (tDrop (tBM K "list" rAppend (tVar 5) (tCons (tAndV (tVar 8) (tOp oLt (tOp oMod (tOp oSub (tVar 7) (tOp (rIxL K) (tVar 2) (tC (.int 1)))) (tFld K (tVar 0) "height")) (tOp (rIxL K) (tVar 3) (tC (.int 1))))) tNil))))) (tSeq (tAsg (tLst tNil) (gName 9)) (tSeq (tFor (iZip K (tCons (tVar 1) (tCons (tVar 4) tNil))) (gTup K 2 (gCons (gName 10) (gCons (gName 11) gNil))) (tDrop (tBM K "list" rAppend (tVar 9) (tCons (tLc (iZip K (tCons (tVar 10) (tCons (tVar 5) tNil))) (gTup K 2 (gCons (gName 12) (gCons (gName 13) gNil))) tYes (tIf (tB (tVar 13)) (tVar 11) (tVar 12)) [12, 13]) tNil)))) (tRet (tVar 9))))))
/-- blurred_row (level 1); slots: row 0 radius 1 many 2 wide 3 total 4 found 5 place 6 k 7 -/
def t_blurred_row (K : PySem.W.Frag) (A : Ad) : TS := (tSeq (tAsg (tTup (tCons (tCB (Evl.rLenS K) (tCons (tVar 0) tNil)) (tCons (tOp oAdd (tOp oMul (tC (.int 2)) (tVar 1)) (tC (.int 1))) tNil))) (gTup K 2 (gCons (gName 2) (gCons (gName 3) gNil)))) (tSeq (tAsg (tCB (rSum K) (tCons (tLc (iRng2 (tCons (tOp oSub (tC (.int 0)) (tVar 1)) (tCons (tOp oAdd (tVar 1) (tC (.int 1))) tNil))) (gName 7) tYes (tOp (rIxL K) (tVar 0) (tOp oMod (tVar 7) (tVar 2))) [7]) tNil)) (gName 4)) (tSeq (tAsg (tLst tNil) (gName 5)) (tSeq (tFor (iRng1 (tCons (tVar 2) tNil)) (gName 6) (tSeq (tDrop (tBM K "list" rAppend (tVar 5) (tCons (tOp oDiv (tVar 4) (tVar 3)) tNil))) (tAsg (tOp oSub (tOp oAdd (tVar 4) (tOp (rIxL K) (tVar 0) (tOp oMod (tOp oAdd (tOp oAdd (tVar 6) (tVar 1)) (tC (.int 1))) (tVar 2)))) (tOp (rIxL K) (tVar 0) (tOp oMod (tOp oSub (tVar 6) (tVar 1)) (tVar 2)))) (gName 4)))) (tRet (tVar 5))))))
/-- turned_over (level 1); slots: channel 0 width 1 height 2 found 3 x 4 y 5 -/
def t_turned_over (K : PySem.W.Frag) (A : Ad) : TS := (tSeq (tAsg (tLst tNil) (gName 3)) (tSeq (tFor (iRng1 (tCons (tVar 1) tNil)) (gName 4) (tDrop (tBM K "list" rExtend (tVar 3) (tCons (tLc (iRng1 (tCons (tVar 2) tNil)) (gName 5) tYes (tOp (rIxL K) (tVar 0) (tOp oAdd (tOp oMul (tVar 5) (tVar 1)) (tVar 4))) [5]) tNil)))) (tRet (tVar 3))))
/-- blurred_rows (level 2); slots: channel 0 width 1 radius 2 found 3 at 4 -/
def t_blurred_rows (K : PySem.W.Frag) (A : Ad) : TS := (tSeq (tAsg (tLst tNil) (gName 3)) (tSeq (tFor (iRng3 (tCons (tC (.int 0)) (tCons (tCB (Evl.rLenS K) (tCons (tVar 0) tNil)) (tCons (tVar 1) tNil)))) (gName 4) (tDrop (tBM K "list" rExtend (tVar 3) (tCons (tCall (sp_blurred_row K A) [] E0 (tCons (tSl (rSlL K) (tVar 0) (tPart (tVar 4)) (tPart (tOp oAdd (tVar 4) (tVar 1)))) (tCons (tVar 2) tNil))) tNil)))) (tRet (tVar 3))))
/-- blurred (level 3); slots: size 0 channel 1 across 2 down 3 found 4 columns 5 -/
def t_blurred (K : PySem.W.Frag) (A : Ad) : TS := (tSeq (tAsg (tCall (sp_blurred_rows K A) [] E0 (tCons (tVar 1) (tCons (tFld K (tVar 0) "width") (tCons (tVar 2) tNil)))) (gName 4)) (tSeq (tAsg (tCall (sp_blurred_rows K A) [] E0 (tCons (tCall (sp_turned_over K A) [] E0 (tCons (tVar 4) (tCons (tFld K (tVar 0) "width") (tCons (tFld K (tVar 0) "height") tNil)))) (tCons (tFld K (tVar 0) "height") (tCons (tVar 3) tNil)))) (gName 5)) (tRet (tCall (sp_turned_over K A) [] E0 (tCons (tVar 5) (tCons (tFld K (tVar 0) "height") (tCons (tFld K (tVar 0) "width") tNil)))))))
/-- blur (level 4); slots: size 0 picture 1 across 2 down 3 many 4 found 5 turn 6 channel 7 -/
def t_blur (K : PySem.W.Frag) (A : Ad) : TS := (tSeq (tAsg (tVar 1) (gName 5)) (tSeq (tFor (iRng1 (tCons (tVar 4) tNil)) (gName 6) (tAsg (tLc (iList K (tVar 5)) (gName 7) tYes (tCall (sp_blurred K A) [] E0 (tCons (tVar 0) (tCons (tVar 7) (tCons (tVar 2) (tCons (tVar 3) tNil))))) [7]) (gName 5))) (tRet (tVar 5))))
/-- turn (level 4); slots: size 0 picture 1 c 2 s 3 places 4 x 5 y 6 u 7 v 8 -/
def t_turn (K : PySem.W.Frag) (A : Ad) : TS := (tSeq (tAsg (tLst tNil) (gName 4)) (tSeq (tFor (iList K (tMeth A.CS "spots" (sp_Size_spots K A) [] E0 (tVar 0) tNil)) (gTup K 2 (gCons (gName 5) (gCons (gName 6) gNil))) (tSeq (tPar 7 8 (tCons (tOp oSub (tVar 5) (tOp oDiv (tFld K (tVar 0) "width") (tC (.int 2)))) (tCons (tOp oSub (tVar 6) (tOp oDiv (tFld K (tVar 0) "height") (tC (.int 2)))) tNil))) (tDrop (tBM K "list" rAppend (tVar 4) (tCons (tTup (tCons (tOp oAdd (tOp oDiv (tOp oSub (tOp oMul (tVar 7) (tVar 2)) (tOp oMul (tVar 8) (tVar 3))) (tC (.int 64))) (tOp oMul (tC (.int 128)) (tFld K (tVar 0) "width"))) (tCons (tOp oAdd (tOp oDiv (tOp oAdd (tOp oMul (tVar 7) (tVar 3)) (tOp oMul (tVar 8) (tVar 2))) (tC (.int 64))) (tOp oMul (tC (.int 128)) (tFld K (tVar 0) "height"))) tNil))) tNil))))) (tRet (tCall (sp_sampled K A) [] E0 (tCons (tVar 0) (tCons (tVar 1) (tCons (tVar 4) tNil)))))))
/-- sampled (level 3); slots: size 0 picture 1 places 2 channel 3 x 4 y 5 -/
def t_sampled (K : PySem.W.Frag) (A : Ad) : TS := (tRet (tLc (iList K (tVar 1)) (gName 3) tYes (tLc (iList K (tVar 2)) (gTup K 2 (gCons (gName 4) (gCons (gName 5) gNil))) tYes (tMeth A.CS "sample" (sp_Size_sample K A) [] E0 (tVar 0) (tCons (tVar 3) (tCons (tVar 4) (tCons (tVar 5) tNil)))) [4, 5]) [3]))
/-- bend (level 4); slots: size 0 picture 1 top 2 many 3 places 4 spot 5 a 6 b 7 across 8 down 9 -/
def t_bend (K : PySem.W.Frag) (A : Ad) : TS := (tSeq (tAsg (tLst tNil) (gName 4)) (tSeq (tFor (iZip3 K (tCons (tMeth A.CS "spots" (sp_Size_spots K A) [] E0 (tVar 0) tNil) (tCons (tOp (rIxL K) (tVar 2) (tC (.int 0))) (tCons (tOp (rIxL K) (tVar 2) (tC (.int 1))) tNil)))) (gTup K 3 (gCons (gName 5) (gCons (gName 6) (gCons (gName 7) gNil)))) (tSeq (tPar 8 9 (tCons (tOp oDiv (tOp oMul (tOp oSub (tVar 6) (tC (.int 32768))) (tVar 3)) (tC (.int 32768))) (tCons (tOp oDiv (tOp oMul (tOp oSub (tVar 7) (tC (.int 32768))) (tVar 3)) (tC (.int 32768))) tNil))) (tDrop (tBM K "list" rAppend (tVar 4) (tCons (tTup (tCons (tOp oAdd (tOp oMul (tC (.int 256)) (tOp (rIxT K) (tVar 5) (tC (.int 0)))) (tVar 8)) (tCons (tOp oAdd (tOp oMul (tC (.int 256)) (tOp (rIxT K) (tVar 5) (tC (.int 1)))) (tVar 9)) tNil))) tNil))))) (tRet (tCall (sp_sampled K A) [] E0 (tCons (tVar 0) (tCons (tVar 1) (tCons (tVar 4) tNil)))))))
/-- levelled (level 2); slots: value 0 low 1 high 2 -/
def t_levelled (K : PySem.W.Frag) (A : Ad) : TS := (tSeq (tIfS (tTest (tOp oLe (tVar 0) (tVar 1))) (tRet (tC (.int 0))) tNext) (tRet (tIf (tTest (tOp oGe (tVar 0) (tVar 2))) (tC (.int 65535)) (tCall (sp_nearest K A) [] E0 (tCons (tOp oMul (tOp oSub (tVar 0) (tVar 1)) (tC (.int 65535))) (tCons (tOp oSub (tVar 2) (tVar 1)) tNil))))))
/-- levels (level 3); slots: picture 0 low 1 high 2 channel 3 value 4 -/
def t_levels (K : PySem.W.Frag) (A : Ad) : TS := (tRet (tOp rCat (tLc (iList K (tSl (rSlL K) (tVar 0) tNoPart (tPart (tC (.int 3))))) (gName 3) tYes (tLc (iList K (tVar 3)) (gName 4) tYes (tCall (sp_levelled K A) [] E0 (tCons (tVar 4) (tCons (tVar 1) (tCons (tVar 2) tNil)))) [4]) [3]) (tSl (rSlL K) (tVar 0) (tPart (tC (.int 3))) tNoPart)))
/-- coloured (level 2); slots: picture 0 row 1 found 2 r 3 g 4 b 5 -/
def t_coloured (K : PySem.W.Frag) (A : Ad) : TS := (tSeq (tAsg (tLst tNil) (gName 2)) (tSeq (tFor (iZip3 K (tCons (tOp (rIxL K) (tVar 0) (tC (.int 0))) (tCons (tOp (rIxL K) (tVar 0) (tC (.int 1))) (tCons (tOp (rIxL K) (tVar 0) (tC (.int 2))) tNil)))) (gTup K 3 (gCons (gName 3) (gCons (gName 4) (gCons (gName 5) gNil)))) (tDrop (tBM K "list" rAppend (tVar 2) (tCons (tCall (sp_clamped K A) [] E0 (tCons (tOp oDiv (tOp oAdd (tOp oAdd (tOp oAdd (tOp oMul (tOp (rIxL K) (tVar 1) (tC (.int 0))) (tVar 3)) (tOp oMul (tOp (rIxL K) (tVar 1) (tC (.int 1))) (tVar 4))) (tOp oMul (tOp (rIxL K) (tVar 1) (tC (.int 2))) (tVar 5))) (tOp oMul (tC (.int 65536)) (tOp (rIxL K) (tVar 1) (tC (.int 3))))) (tC (.int 256))) tNil)) tNil)))) (tRet (tVar 2))))
/-- recoloured (level 3); slots: picture 0 matrix 1 rows 2 k 3 row 4 -/
def t_recoloured (K : PySem.W.Frag) (A : Ad) : TS := (tSeq (tAsg (tLc (iRng1 (tCons (tC (.int 3)) tNil)) (gName 3) tYes (tSl (rSlL K) (tVar 1) (tPart (tOp oMul (tC (.int 4)) (tVar 3))) (tPart (tOp oAdd (tOp oMul (tC (.int 4)) (tVar 3)) (tC (.int 4))))) [3]) (gName 2)) (tRet (tOp rCat (tLc (iList K (tVar 2)) (gName 4) tYes (tCall (sp_coloured K A) [] E0 (tCons (tVar 0) (tCons (tVar 4) tNil))) [4]) (tSl (rSlL K) (tVar 0) (tPart (tC (.int 3))) tNoPart))))
/-- light (level 2); slots: size 0 picture 1 lx 2 ly 3 many 4 first 5 found 6 x 7 y 8 dx 9 dy 10 -/
def t_light (K : PySem.W.Frag) (A : Ad) : TS := (tSeq (tPar 5 6 (tCons (tOp (rIxL K) (tVar 1) (tC (.int 0))) (tCons (tLst tNil) tNil))) (tSeq (tFor (iList K (tMeth A.CS "spots" (sp_Size_spots K A) [] E0 (tVar 0) tNil)) (gTup K 2 (gCons (gName 7) (gCons (gName 8) gNil))) (tSeq (tAsg (tOp oSub (tMeth A.CS "value" (sp_Size_value K A) [] E0 (tVar 0) (tCons (tVar 5) (tCons (tOp oAdd (tVar 7) (tC (.int 1))) (tCons (tVar 8) tNil)))) (tMeth A.CS "value" (sp_Size_value K A) [] E0 (tVar 0) (tCons (tVar 5) (tCons (tOp oSub (tVar 7) (tC (.int 1))) (tCons (tVar 8) tNil))))) (gName 9)) (tSeq (tAsg (tOp oSub (tMeth A.CS "value" (sp_Size_value K A) [] E0 (tVar 0) (tCons (tVar 5) (tCons (tVar 7) (tCons (tOp oAdd (tVar 8) (tC (.int 1))) tNil)))) (tMeth A.CS "value" (sp_Size_value K A) [] E0 (tVar 0) (tCons (tVar 5) (tCons (tVar 7) (tCons (tOp oSub (tVar 8) (tC (.int 1))) tNil))))) (gName 10)) (tDrop (tBM K "list" rAppend (tVar 6) (tCons (tCall (sp_clamped K A) [] E0 (tCons (tOp oAdd (tC (.int 32768)) (tOp oDiv (tOp oMul (tOp oAdd (tOp oMul (tVar 9) (tVar 2)) (tOp oMul (tVar 10) (tVar 3))) (tVar 4)) (tC (.int 65536)))) tNil)) tNil)))))) (tRet (tOp rCat (tLst (tCons (tVar 6) (tCons (tVar 6) (tCons (tVar 6) tNil)))) (tSl (rSlL K) (tVar 1) (tPart (tC (.int 3))) tNoPart)))))
/-- joined_value (level 2); slots: mode 0 b 1 t 2 k 3 -/
def t_joined_value (K : PySem.W.Frag) (A : Ad) : TS := (tSeq (tIfS (tTest (tOp rEq (tVar 0) (tC (.int 0)))) (tRet (tCB oMin2 (tCons (tOp oAdd (tVar 1) (tVar 2)) (tCons (tC (.int 65535)) tNil)))) tNext) (tSeq (tIfS (tTest (tOp rEq (tVar 0) (tC (.int 1)))) (tRet (tCB oMax2 (tCons (tOp oSub (tVar 1) (tVar 2)) (tCons (tC (.int 0)) tNil)))) tNext) (tSeq (tIfS (tTest (tOp rEq (tVar 0) (tC (.int 2)))) (tRet (tCall (sp_nearest K A) [] E0 (tCons (tOp oMul (tVar 1) (tVar 2)) (tCons (tC (.int 65535)) tNil)))) tNext) (tSeq (tIfS (tTest (tOp rEq (tVar 0) (tC (.int 3)))) (tRet (tCB oMax2 (tCons (tVar 1) (tCons (tVar 2) tNil)))) tNext) (tSeq (tIfS (tTest (tOp rEq (tVar 0) (tC (.int 4)))) (tRet (tCB oMin2 (tCons (tVar 1) (tCons (tVar 2) tNil)))) tNext) (tSeq (tIfS (tTest (tOp rEq (tVar 0) (tC (.int 5)))) (tRet (tOp oDiv (tOp oAdd (tOp oAdd (tVar 1) (tVar 2)) (tC (.int 1))) (tC (.int 2)))) tNext) (tRet (tIf (tTest (tOp rEq (tVar 0) (tC (.int 6)))) (tCall (sp_nearest K A) [] E0 (tCons (tOp oAdd (tOp oMul (tVar 1) (tOp oSub (tC (.int 65535)) (tVar 3))) (tOp oMul (tVar 2) (tVar 3))) (tCons (tC (.int 65535)) tNil))) (tCB oAbs (tCons (tOp oSub (tVar 1) (tVar 2)) tNil))))))))))
/-- joined (level 3); slots: mode 0 below 1 top 2 found 3 one 4 other 5 b 6 t 7 k 8 -/
def t_joined (K : PySem.W.Frag) (A : Ad) : TS := (tSeq (tAsg (tLst tNil) (gName 3)) (tSeq (tFor (iZip K (tCons (tVar 1) (tCons (tVar 2) tNil))) (gTup K 2 (gCons (gName 4) (gCons (gName 5) gNil))) (tDrop (tBM K "list" rAppend (tVar 3) (tCons (tLc (iZip3 K (tCons (tVar 4) (tCons (tVar 5) (tCons (tOp (rIxL K) (tVar 2) (tC (.int 3))) tNil)))) (gTup K 3 (gCons (gName 6) (gCons (gName 7) (gCons (gName 8) gNil)))) tYes (tCall (sp_joined_value K A) [] E0 (tCons (tVar 0) (tCons (tVar 6) (tCons (tVar 7) (tCons (tVar 8) tNil))))) [6, 7, 8]) tNil)))) (tRet (tVar 3))))
/-- mixed (level 1); slots: seed 0 a 1 b 2 layer 3 n 4 m 5 -/
def t_mixed (K : PySem.W.Frag) (A : Ad) : TS := (tSeq (tAsg (tOp oMod (tOp oAdd (tOp oAdd (tOp oAdd (tOp oMul (tC (.int 2654435761)) (tVar 0)) (tOp oMul (tC (.int 374761393)) (tVar 1))) (tOp oMul (tC (.int 668265263)) (tVar 2))) (tOp oMul (tC (.int 2246822519)) (tVar 3))) (tC (.int 4294967296))) (gName 4)) (tSeq (tAsg (tOp oMod (tOp oMul (tOp oXor (tVar 4) (tOp oDiv (tVar 4) (tC (.int 32768)))) (tC (.int 2246822519))) (tC (.int 4294967296))) (gName 5)) (tRet (tOp oDiv (tOp oMod (tOp oMul (tOp oXor (tVar 5) (tOp oDiv (tVar 5) (tC (.int 8192)))) (tC (.int 3266489917))) (tC (.int 4294967296))) (tC (.int 65536))))))
/-- smooth (level 1); slots: t 0 -/
def t_smooth (K : PySem.W.Frag) (A : Ad) : TS := (tRet (tOp oDiv (tOp oMul (tOp oDiv (tOp oMul (tVar 0) (tVar 0)) (tC (.int 65536))) (tOp oSub (tC (.int 196608)) (tOp oMul (tC (.int 2)) (tVar 0)))) (tC (.int 65536))))
/-- between (level 1); slots: one 0 other 1 u 2 -/
def t_between (K : PySem.W.Frag) (A : Ad) : TS := (tRet (tOp oDiv (tOp oAdd (tOp oMul (tVar 0) (tOp oSub (tC (.int 65536)) (tVar 2))) (tOp oMul (tVar 1) (tVar 2))) (tC (.int 65536))))
/-- Layer __init__ (level 2); slots: self 0 size 1 seed 2 layer 3 side 4 b 5 a 6 -/
def t_Layer___init__ (K : PySem.W.Frag) (A : Ad) : TS := (tSeq (sFld K (tVar 0) (tVar 4) "side") (tSeq (sFld K (tVar 0) (tOp oDiv (tFld K (tVar 1) "width") (tVar 4)) "across") (tSeq (sFld K (tVar 0) (tOp oDiv (tFld K (tVar 1) "height") (tVar 4)) "down") (tSeq (sFld K (tVar 0) (tLst tNil) "corners") (tFor (iRng1 (tCons (tFld K (tVar 0) "down") tNil)) (gName 5) (tDrop (tBM K "list" rAppend (tFld K (tVar 0) "corners") (tCons (tLc (iRng1 (tCons (tFld K (tVar 0) "across") tNil)) (gName 6) tYes (tCall (sp_mixed K A) [] E0 (tCons (tVar 2) (tCons (tVar 6) (tCons (tVar 5) (tCons (tVar 3) tNil))))) [6]) tNil))))))))
/-- Layer corner (level 1); slots: self 0 i 1 j 2 -/
def t_Layer_corner (K : PySem.W.Frag) (A : Ad) : TS := (tRet (tOp (rIxL K) (tOp (rIxL K) (tFld K (tVar 0) "corners") (tOp oMod (tVar 2) (tFld K (tVar 0) "down"))) (tOp oMod (tVar 1) (tFld K (tVar 0) "across"))))
/-- Layer value (level 2); slots: self 0 x 1 y 2 i 3 j 4 u 5 v 6 p 7 q 8 -/
def t_Layer_value (K : PySem.W.Frag) (A : Ad) : TS := (tSeq (tPar 3 4 (tCons (tOp oDiv (tVar 1) (tFld K (tVar 0) "side")) (tCons (tOp oDiv (tVar 2) (tFld K (tVar 0) "side")) tNil))) (tSeq (tAsg (tCall (sp_smooth K A) [] E0 (tCons (tOp oDiv (tOp oMul (tOp oMod (tVar 1) (tFld K (tVar 0) "side")) (tC (.int 65536))) (tFld K (tVar 0) "side")) tNil)) (gName 5)) (tSeq (tAsg (tCall (sp_smooth K A) [] E0 (tCons (tOp oDiv (tOp oMul (tOp oMod (tVar 2) (tFld K (tVar 0) "side")) (tC (.int 65536))) (tFld K (tVar 0) "side")) tNil)) (gName 6)) (tSeq (tAsg (tCall (sp_between K A) [] E0 (tCons (tMeth A.CL "corner" (sp_Layer_corner K A) [] E0 (tVar 0) (tCons (tVar 3) (tCons (tVar 4) tNil))) (tCons (tMeth A.CL "corner" (sp_Layer_corner K A) [] E0 (tVar 0) (tCons (tOp oAdd (tVar 3) (tC (.int 1))) (tCons (tVar 4) tNil))) (tCons (tVar 5) tNil)))) (gName 7)) (tSeq (tAsg (tCall (sp_between K A) [] E0 (tCons (tMeth A.CL "corner" (sp_Layer_corner K A) [] E0 (tVar 0) (tCons (tVar 3) (tCons (tOp oAdd (tVar 4) (tC (.int 1))) tNil))) (tCons (tMeth A.CL "corner" (sp_Layer_corner K A) [] E0 (tVar 0) (tCons (tOp oAdd (tVar 3) (tC (.int 1))) (tCons (tOp oAdd (tVar 4) (tC (.int 1))) tNil))) (tCons (tVar 5) tNil)))) (gName 8)) (tRet (tCall (sp_between K A) [] E0 (tCons (tVar 7) (tCons (tVar 8) (tCons (tVar 6) tNil))))))))))
/-- noise (level 4); slots: size 0 seed 1 cell 2 layers 3 fall 4 found 5 strength 6 number 7 layer 8 values 9 grey 10 spot 11 x 12 y 13 one 14 other 15 value 16 -/
def t_noise (K : PySem.W.Frag) (A : Ad) : TS := (tSeq (tAsg (tTup (tCons (tLc (iList K (tMeth A.CS "spots" (sp_Size_spots K A) [] E0 (tVar 0) tNil)) (gName 11) tYes (tC (.int 0)) [11]) (tCons (tC (.int 65535)) tNil))) (gTup K 2 (gCons (gName 5) (gCons (gName 6) gNil)))) (tSeq (tFor (iRng1 (tCons (tCB oMin2 (tCons (tVar 3) (tCons (tOp oAdd (tVar 2) (tC (.int 1))) tNil))) tNil)) (gName 7) (tSeq (tAsg (tMake A.CL (sp_Layer___init__ K A) [] E0 (tCons (tVar 0) (tCons (tVar 1) (tCons (tVar 7) (tCons (tCall (sp_power_of_two K A) [] E0 (tCons (tOp oSub (tVar 2) (tVar 7)) tNil)) tNil))))) (gName 8)) (tSeq (tAsg (tLc (iList K (tMeth A.CS "spots" (sp_Size_spots K A) [] E0 (tVar 0) tNil)) (gTup K 2 (gCons (gName 12) (gCons (gName 13) gNil))) tYes (tOp oDiv (tOp oMul (tMeth A.CL "value" (sp_Layer_value K A) [] E0 (tVar 8) (tCons (tVar 12) (tCons (tVar 13) tNil))) (tVar 6)) (tC (.int 65536))) [12, 13]) (gName 9)) (tSeq (tAsg (tLc (iZip K (tCons (tVar 5) (tCons (tVar 9) tNil))) (gTup K 2 (gCons (gName 14) (gCons (gName 15) gNil))) tYes (tOp oAdd (tVar 14) (tVar 15)) [14, 15]) (gName 5)) (tAsg (tOp oDiv (tOp oMul (tVar 6) (tVar 4)) (tC (.int 65536))) (gName 6)))))) (tSeq (tAsg (tLc (iList K (tVar 5)) (gName 16) tYes (tCB oMin2 (tCons (tVar 16) (tCons (tC (.int 65535)) tNil))) [16]) (gName 10)) (tRet (tLst (tCons (tVar 10) (tCons (tVar 10) (tCons (tVar 10) (tCons (tLc (iList K (tVar 10)) (gName 16) tYes (tC (.int 65535)) [16]) tNil)))))))))
/-- Refused __init__ (level 1); slots: self 0 code 1 -/
def t_Refused___init__ (K : PySem.W.Frag) (A : Ad) : TS := (tOst K "code" (tVar 0) (tVar 1))
/-- need (level 3); slots: is_right 0 code 1 -/
def t_need (K : PySem.W.Frag) (A : Ad) (E : XK) : TS := (tIfS (tNot (tB (tVar 0))) (tRaiseR A.CR (sp_Refused___init__ K A) E (tCons (tVar 1) tNil)) tNext)
/-- need_within (level 4); slots: numbers 0 bounds 1 number 2 least 3 most 4 -/
def t_need_within (K : PySem.W.Frag) (A : Ad) (E : XK) : TS := (tDrop (tCall (sp_need K A) [] E (tCons (tOp (rEqE K) (tLc (iZip K (tCons (tVar 0) (tCons (tVar 1) tNil))) (gTup K 2 (gCons (gName 2) (gCons (gTup K 2 (gCons (gName 3) (gCons (gName 4) gNil))) gNil))) (tNot (tTest (tChain oLe oLe (tVar 3) (tVar 2) (tVar 4)))) (tC (.int 1)) [2, 3, 4]) (tLst tNil)) (tCons (tC (.int (-2))) tNil))))
/-- Desk __init__ (level 1); slots: self 0 -/
def t_Desk___init__ (K : PySem.W.Frag) (A : Ad) : TS := (tSeq (sFld K (tVar 0) (tLst tNil) "sizes") (sFld K (tVar 0) (tLst tNil) "stack"))
/-- Desk open_stack (level 5); slots: self 0 a 1 b 2 -/
def t_Desk_open_stack (K : PySem.W.Frag) (A : Ad) (E : XK) : TS := (tSeq (tDrop (tCall (sp_need_within K A) [] E (tCons (tLst (tCons (tVar 1) (tCons (tVar 2) tNil))) (tCons (tLst (tCons (tTup (tCons (tC (.int 2)) (tCons (tC (.int 6)) tNil))) (tCons (tTup (tCons (tC (.int 2)) (tCons (tC (.int 6)) tNil))) tNil))) tNil)))) (tSeq (sFld K (tVar 0) (tLst (tCons (tMake A.CS (sp_Size___init__ K A) [] E0 (tCons (tCall (sp_power_of_two K A) [] E0 (tCons (tVar 1) tNil)) (tCons (tCall (sp_power_of_two K A) [] E0 (tCons (tVar 2) tNil)) tNil))) tNil)) "sizes") (tSeq (sFld K (tVar 0) (tLst tNil) "stack") (tRet (tLst (tCons (tC (.int 0)) tNil))))))
/-- Desk size (level 1); slots: self 0 -/
def t_Desk_size (K : PySem.W.Frag) (A : Ad) : TS := (tRet (tOp (rIxL K) (tFld K (tVar 0) "sizes") (tC (.int 0))))
/-- Desk need_pictures (level 4); slots: self 0 many 1 -/
def t_Desk_need_pictures (K : PySem.W.Frag) (A : Ad) (E : XK) : TS := (tDrop (tCall (sp_need K A) [] E (tCons (tOp oGe (tCB (Evl.rLenS K) (tCons (tFld K (tVar 0) "stack") tNil)) (tVar 1)) (tCons (tC (.int (-4))) tNil))))
/-- Desk push (level 1); slots: self 0 picture 1 -/
def t_Desk_push (K : PySem.W.Frag) (A : Ad) : TS := (tSeq (sFld K (tVar 0) (tOp rCat (tFld K (tVar 0) "stack") (tLst (tCons (tVar 1) tNil))) "stack") (tRet (tLst (tCons (tCB (Evl.rLenS K) (tCons (tFld K (tVar 0) "stack") tNil)) tNil))))
/-- Desk need_room (level 4); slots: self 0 -/
def t_Desk_need_room (K : PySem.W.Frag) (A : Ad) (E : XK) : TS := (tDrop (tCall (sp_need K A) [] E (tCons (tOp oLt (tCB (Evl.rLenS K) (tCons (tFld K (tVar 0) "stack") tNil)) (tC (.int 8))) (tCons (tC (.int (-5))) tNil))))
/-- Desk replace (level 1); slots: self 0 many 1 pictures 2 -/
def t_Desk_replace (K : PySem.W.Frag) (A : Ad) : TS := (tSeq (sFld K (tVar 0) (tOp rCat (tSl (rSlL K) (tFld K (tVar 0) "stack") tNoPart (tPart (tOp oSub (tCB (Evl.rLenS K) (tCons (tFld K (tVar 0) "stack") tNil)) (tVar 1)))) (tVar 2)) "stack") (tRet (tLst (tCons (tCB (Evl.rLenS K) (tCons (tFld K (tVar 0) "stack") tNil)) tNil))))
/-- Desk flat (level 5); slots: self 0 colour 1 -/
def t_Desk_flat (K : PySem.W.Frag) (A : Ad) (E : XK) : TS := (tSeq (tDrop (tMeth A.CD "need_room" (sp_Desk_need_room K A) [] E (tVar 0) tNil)) (tRet (tMeth A.CD "push" (sp_Desk_push K A) [] E0 (tVar 0) (tCons (tCall (sp_flat K A) [] E0 (tCons (tMeth A.CD "size" (sp_Desk_size K A) [] E0 (tVar 0) tNil) (tCons (tVar 1) tNil))) tNil))))
/-- Desk noise (level 5); slots: self 0 given 1 -/
def t_Desk_noise (K : PySem.W.Frag) (A : Ad) (E : XK) : TS := (tSeq (tDrop (tCall (sp_need_within K A) [] E (tCons (tVar 1) (tCons (tLst (tCons (tTup (tCons (tC (.int 0)) (tCons (tC (.int 65535)) tNil))) (tCons (tTup (tCons (tC (.int 0)) (tCons (tC (.int 6)) tNil))) (tCons (tTup (tCons (tC (.int 1)) (tCons (tC (.int 7)) tNil))) (tCons (tTup (tCons (tC (.int 0)) (tCons (tC (.int 65535)) tNil))) tNil))))) tNil)))) (tSeq (tDrop (tCall (sp_need K A) [] E (tCons (tOp oLe (tCall (sp_power_of_two K A) [] E0 (tCons (tOp (rIxL K) (tVar 1) (tC (.int 1))) tNil)) (tCB oMin2 (tCons (tFld K (tMeth A.CD "size" (sp_Desk_size K A) [] E0 (tVar 0) tNil) "width") (tCons (tFld K (tMeth A.CD "size" (sp_Desk_size K A) [] E0 (tVar 0) tNil) "height") tNil)))) (tCons (tC (.int (-2))) tNil)))) (tSeq (tDrop (tMeth A.CD "need_room" (sp_Desk_need_room K A) [] E (tVar 0) tNil)) (tRet (tMeth A.CD "push" (sp_Desk_push K A) [] E0 (tVar 0) (tCons (tCall (sp_noise K A) [] E0 (tCons (tMeth A.CD "size" (sp_Desk_size K A) [] E0 (tVar 0) tNil) (tCons (tOp (rIxL K) (tVar 1) (tC (.int 0))) (tCons (tOp (rIxL K) (tVar 1) (tC (.int 1))) (tCons (tOp (rIxL K) (tVar 1) (tC (.int 2))) (tCons (tOp (rIxL K) (tVar 1) (tC (.int 3))) tNil)))))) tNil))))))
/-- Desk glow (level 5); slots: self 0 given 1 -/
def t_Desk_glow (K : PySem.W.Frag) (A : Ad) (E : XK) : TS := (tSeq (tDrop (tCall (sp_need_within K A) [] E (tCons (tSl (rSlL K) (tVar 1) tNoPart (tPart (tC (.int 5)))) (tCons (tLst (tCons (tTup (tCons (tC (.int 0)) (tCons (tC (.int 63)) tNil))) (tCons (tTup (tCons (tC (.int 0)) (tCons (tC (.int 63)) tNil))) (tCons (tTup (tCons (tC (.int 1)) (tCons (tC (.int 255)) tNil))) (tCons (tTup (tCons (tC (.int 1)) (tCons (tC (.int 255)) tNil))) (tCons (tTup (tCons (tC (.int 1)) (tCons (tC (.int 8)) tNil))) tNil)))))) tNil)))) (tSeq (tDrop (tMeth A.CD "need_pictures" (sp_Desk_need_pictures K A) [] E (tVar 0) (tCons (tC (.int 1)) tNil))) (tRet (tMeth A.CD "replace" (sp_Desk_replace K A) [] E0 (tVar 0) (tCons (tC (.int 1)) (tCons (tLst (tCons (tCall (sp_glow K A) [] E0 (tCons (tMeth A.CD "size" (sp_Desk_size K A) [] E0 (tVar 0) tNil) (tCons (tOp (rIxL K) (tFld K (tVar 0) "stack") (tUn oNeg (tC (.int 1)))) (tCons (tSl (rSlL K) (tVar 1) tNoPart (tPart (tC (.int 2)))) (tCons (tSl (rSlL K) (tVar 1) (tPart (tC (.int 2))) (tPart (tC (.int 4)))) (tCons (tOp (rIxL K) (tVar 1) (tC (.int 4))) (tCons (tSl (rSlL K) (tVar 1) (tPart (tC (.int 5))) tNoPart) tNil))))))) tNil)) tNil))))))
/-- Desk box (level 5); slots: self 0 given 1 -/
def t_Desk_box (K : PySem.W.Frag) (A : Ad) (E : XK) : TS := (tSeq (tDrop (tCall (sp_need_within K A) [] E (tCons (tSl (rSlL K) (tVar 1) tNoPart (tPart (tC (.int 4)))) (tCons (tLst (tCons (tTup (tCons (tC (.int 0)) (tCons (tC (.int 63)) tNil))) (tCons (tTup (tCons (tC (.int 0)) (tCons (tC (.int 63)) tNil))) (tCons (tTup (tCons (tC (.int 0)) (tCons (tC (.int 64)) tNil))) (tCons (tTup (tCons (tC (.int 0)) (tCons (tC (.int 64)) tNil))) tNil))))) tNil)))) (tSeq (tDrop (tMeth A.CD "need_pictures" (sp_Desk_need_pictures K A) [] E (tVar 0) (tCons (tC (.int 1)) tNil))) (tRet (tMeth A.CD "replace" (sp_Desk_replace K A) [] E0 (tVar 0) (tCons (tC (.int 1)) (tCons (tLst (tCons (tCall (sp_box K A) [] E0 (tCons (tMeth A.CD "size" (sp_Desk_size K A) [] E0 (tVar 0) tNil) (tCons (tOp (rIxL K) (tFld K (tVar 0) "stack") (tUn oNeg (tC (.int 1)))) (tCons (tSl (rSlL K) (tVar 1) tNoPart (tPart (tC (.int 2)))) (tCons (tSl (rSlL K) (tVar 1) (tPart (tC (.int 2))) (tPart (tC (.int 4)))) (tCons (tSl (rSlL K) (tVar 1) (tPart (tC (.int 4))) tNoPart) tNil)))))) tNil)) tNil))))))
/-- Desk blur (level 5); slots: self 0 given 1 -/
def t_Desk_blur (K : PySem.W.Frag) (A : Ad) (E : XK) : TS := (tSeq (tDrop (tCall (sp_need_within K A) [] E (tCons (tVar 1) (tCons (tLst (tCons (tTup (tCons (tC (.int 0)) (tCons (tC (.int 15)) tNil))) (tCons (tTup (tCons (tC (.int 0)) (tCons (tC (.int 15)) tNil))) (tCons (tTup (tCons (tC (.int 1)) (tCons (tC (.int 3)) tNil))) tNil)))) tNil)))) (tSeq (tDrop (tMeth A.CD "need_pictures" (sp_Desk_need_pictures K A) [] E (tVar 0) (tCons (tC (.int 1)) tNil))) (tRet (tMeth A.CD "replace" (sp_Desk_replace K A) [] E0 (tVar 0) (tCons (tC (.int 1)) (tCons (tLst (tCons (tCall (sp_blur K A) [] E0 (tCons (tMeth A.CD "size" (sp_Desk_size K A) [] E0 (tVar 0) tNil) (tCons (tOp (rIxL K) (tFld K (tVar 0) "stack") (tUn oNeg (tC (.int 1)))) (tCons (tOp (rIxL K) (tVar 1) (tC (.int 0))) (tCons (tOp (rIxL K) (tVar 1) (tC (.int 1))) (tCons (tOp (rIxL K) (tVar 1) (tC (.int 2))) tNil)))))) tNil)) tNil))))))
/-- Desk turn (level 5); slots: self 0 given 1 -/
def t_Desk_turn (K : PySem.W.Frag) (A : Ad) (E : XK) : TS := (tSeq (tDrop (tCall (sp_need_within K A) [] E (tCons (tVar 1) (tCons (tLst (tCons (tTup (tCons (tUn oNeg (tC (.int 65536))) (tCons (tC (.int 65536)) tNil))) (tCons (tTup (tCons (tUn oNeg (tC (.int 65536))) (tCons (tC (.int 65536)) tNil))) tNil))) tNil)))) (tSeq (tDrop (tMeth A.CD "need_pictures" (sp_Desk_need_pictures K A) [] E (tVar 0) (tCons (tC (.int 1)) tNil))) (tRet (tMeth A.CD "replace" (sp_Desk_replace K A) [] E0 (tVar 0) (tCons (tC (.int 1)) (tCons (tLst (tCons (tCall (sp_turn K A) [] E0 (tCons (tMeth A.CD "size" (sp_Desk_size K A) [] E0 (tVar 0) tNil) (tCons (tOp (rIxL K) (tFld K (tVar 0) "stack") (tUn oNeg (tC (.int 1)))) (tCons (tOp (rIxL K) (tVar 1) (tC (.int 0))) (tCons (tOp (rIxL K) (tVar 1) (tC (.int 1))) tNil))))) tNil)) tNil))))))
/-- Desk bend (level 5); slots: self 0 given 1 -/
def t_Desk_bend (K : PySem.W.Frag) (A : Ad) (E : XK) : TS := (tSeq (tDrop (tCall (sp_need_within K A) [] E (tCons (tVar 1) (tCons (tLst (tCons (tTup (tCons (tUn oNeg (tC (.int 8192))) (tCons (tC (.int 8192)) tNil))) tNil)) tNil)))) (tSeq (tDrop (tMeth A.CD "need_pictures" (sp_Desk_need_pictures K A) [] E (tVar 0) (tCons (tC (.int 2)) tNil))) (tRet (tMeth A.CD "replace" (sp_Desk_replace K A) [] E0 (tVar 0) (tCons (tC (.int 2)) (tCons (tLst (tCons (tCall (sp_bend K A) [] E0 (tCons (tMeth A.CD "size" (sp_Desk_size K A) [] E0 (tVar 0) tNil) (tCons (tOp (rIxL K) (tFld K (tVar 0) "stack") (tUn oNeg (tC (.int 2)))) (tCons (tOp (rIxL K) (tFld K (tVar 0) "stack") (tUn oNeg (tC (.int 1)))) (tCons (tOp (rIxL K) (tVar 1) (tC (.int 0))) tNil))))) tNil)) tNil))))))
/-- Desk join (level 5); slots: self 0 given 1 -/
def t_Desk_join (K : PySem.W.Frag) (A : Ad) (E : XK) : TS := (tSeq (tDrop (tCall (sp_need_within K A) [] E (tCons (tVar 1) (tCons (tLst (tCons (tTup (tCons (tC (.int 0)) (tCons (tC (.int 7)) tNil))) tNil)) tNil)))) (tSeq (tDrop (tMeth A.CD "need_pictures" (sp_Desk_need_pictures K A) [] E (tVar 0) (tCons (tC (.int 2)) tNil))) (tRet (tMeth A.CD "replace" (sp_Desk_replace K A) [] E0 (tVar 0) (tCons (tC (.int 2)) (tCons (tLst (tCons (tCall (sp_joined K A) [] E0 (tCons (tOp (rIxL K) (tVar 1) (tC (.int 0))) (tCons (tOp (rIxL K) (tFld K (tVar 0) "stack") (tUn oNeg (tC (.int 2)))) (tCons (tOp (rIxL K) (tFld K (tVar 0) "stack") (tUn oNeg (tC (.int 1)))) tNil)))) tNil)) tNil))))))
/-- Desk levels (level 5); slots: self 0 given 1 -/
def t_Desk_levels (K : PySem.W.Frag) (A : Ad) (E : XK) : TS := (tSeq (tDrop (tCall (sp_need_within K A) [] E (tCons (tVar 1) (tCons (tLst (tCons (tTup (tCons (tC (.int 0)) (tCons (tC (.int 65535)) tNil))) (tCons (tTup (tCons (tC (.int 0)) (tCons (tC (.int 65535)) tNil))) tNil))) tNil)))) (tSeq (tDrop (tCall (sp_need K A) [] E (tCons (tOp oLt (tOp (rIxL K) (tVar 1) (tC (.int 0))) (tOp (rIxL K) (tVar 1) (tC (.int 1)))) (tCons (tC (.int (-2))) tNil)))) (tSeq (tDrop (tMeth A.CD "need_pictures" (sp_Desk_need_pictures K A) [] E (tVar 0) (tCons (tC (.int 1)) tNil))) (tRet (tMeth A.CD "replace" (sp_Desk_replace K A) [] E0 (tVar 0) (tCons (tC (.int 1)) (tCons (tLst (tCons (tCall (sp_levels K A) [] E0 (tCons (tOp (rIxL K) (tFld K (tVar 0) "stack") (tUn oNeg (tC (.int 1)))) (tCons (tOp (rIxL K) (tVar 1) (tC (.int 0))) (tCons (tOp (rIxL K) (tVar 1) (tC (.int 1))) tNil)))) tNil)) tNil)))))))
/-- Desk colour (level 5); slots: self 0 given 1 -/
def t_Desk_colour (K : PySem.W.Frag) (A : Ad) (E : XK) : TS := (tSeq (tDrop (tMeth A.CD "need_pictures" (sp_Desk_need_pictures K A) [] E (tVar 0) (tCons (tC (.int 1)) tNil))) (tRet (tMeth A.CD "replace" (sp_Desk_replace K A) [] E0 (tVar 0) (tCons (tC (.int 1)) (tCons (tLst (tCons (tCall (sp_recoloured K A) [] E0 (tCons (tOp (rIxL K) (tFld K (tVar 0) "stack") (tUn oNeg (tC (.int 1)))) (tCons (tVar 1) tNil))) tNil)) tNil)))))
/-- Desk light (level 5); slots: self 0 given 1 -/
def t_Desk_light (K : PySem.W.Frag) (A : Ad) (E : XK) : TS := (tSeq (tDrop (tCall (sp_need_within K A) [] E (tCons (tVar 1) (tCons (tLst (tCons (tTup (tCons (tUn oNeg (tC (.int 256))) (tCons (tC (.int 256)) tNil))) (tCons (tTup (tCons (tUn oNeg (tC (.int 256))) (tCons (tC (.int 256)) tNil))) (tCons (tTup (tCons (tC (.int 0)) (tCons (tC (.int 4096)) tNil))) tNil)))) tNil)))) (tSeq (tDrop (tMeth A.CD "need_pictures" (sp_Desk_need_pictures K A) [] E (tVar 0) (tCons (tC (.int 1)) tNil))) (tRet (tMeth A.CD "replace" (sp_Desk_replace K A) [] E0 (tVar 0) (tCons (tC (.int 1)) (tCons (tLst (tCons (tCall (sp_light K A) [] E0 (tCons (tMeth A.CD "size" (sp_Desk_size K A) [] E0 (tVar 0) tNil) (tCons (tOp (rIxL K) (tFld K (tVar 0) "stack") (tUn oNeg (tC (.int 1)))) (tCons (tOp (rIxL K) (tVar 1) (tC (.int 0))) (tCons (tOp (rIxL K) (tVar 1) (tC (.int 1))) (tCons (tOp (rIxL K) (tVar 1) (tC (.int 2))) tNil)))))) tNil)) tNil))))))
/-- Desk copy (level 5); slots: self 0 given 1 -/
def t_Desk_copy (K : PySem.W.Frag) (A : Ad) (E : XK) : TS := (tSeq (tDrop (tCall (sp_need K A) [] E (tCons (tChain oLe oLt (tC (.int 0)) (tOp (rIxL K) (tVar 1) (tC (.int 0))) (tCB (Evl.rLenS K) (tCons (tFld K (tVar 0) "stack") tNil))) (tCons (tC (.int (-2))) tNil)))) (tSeq (tDrop (tMeth A.CD "need_room" (sp_Desk_need_room K A) [] E (tVar 0) tNil)) (tRet (tMeth A.CD "push" (sp_Desk_push K A) [] E0 (tVar 0) (tCons (tOp (rIxL K) (tFld K (tVar 0) "stack") (tOp oSub (tOp oSub (tCB (Evl.rLenS K) (tCons (tFld K (tVar 0) "stack") tNil)) (tC (.int 1))) (tOp (rIxL K) (tVar 1) (tC (.int 0))))) tNil)))))
/-- Desk swap (level 5); slots: self 0 -/
def t_Desk_swap (K : PySem.W.Frag) (A : Ad) (E : XK) : TS := (tSeq (tDrop (tMeth A.CD "need_pictures" (sp_Desk_need_pictures K A) [] E (tVar 0) (tCons (tC (.int 2)) tNil))) (tRet (tMeth A.CD "replace" (sp_Desk_replace K A) [] E0 (tVar 0) (tCons (tC (.int 2)) (tCons (tLst (tCons (tOp (rIxL K) (tFld K (tVar 0) "stack") (tUn oNeg (tC (.int 1)))) (tCons (tOp (rIxL K) (tFld K (tVar 0) "stack") (tUn oNeg (tC (.int 2)))) tNil))) tNil)))))
/-- Desk drop (level 5); slots: self 0 -/
def t_Desk_drop (K : PySem.W.Frag) (A : Ad) (E : XK) : TS := (tSeq (tDrop (tMeth A.CD "need_pictures" (sp_Desk_need_pictures K A) [] E (tVar 0) (tCons (tC (.int 1)) tNil))) (tRet (tMeth A.CD "replace" (sp_Desk_replace K A) [] E0 (tVar 0) (tCons (tC (.int 1)) (tCons (tLst tNil) tNil)))))
/-- Desk pixel (level 5); slots: self 0 given 1 channel 2 -/
def t_Desk_pixel (K : PySem.W.Frag) (A : Ad) (E : XK) : TS := (tSeq (tDrop (tCall (sp_need_within K A) [] E (tCons (tVar 1) (tCons (tLst (tCons (tTup (tCons (tC (.int 0)) (tCons (tOp oSub (tFld K (tMeth A.CD "size" (sp_Desk_size K A) [] E0 (tVar 0) tNil) "width") (tC (.int 1))) tNil))) (tCons (tTup (tCons (tC (.int 0)) (tCons (tOp oSub (tFld K (tMeth A.CD "size" (sp_Desk_size K A) [] E0 (tVar 0) tNil) "height") (tC (.int 1))) tNil))) tNil))) tNil)))) (tSeq (tDrop (tMeth A.CD "need_pictures" (sp_Desk_need_pictures K A) [] E (tVar 0) (tCons (tC (.int 1)) tNil))) (tRet (tOp rCat (tLst (tCons (tC (.int 0)) tNil)) (tLc (iList K (tOp (rIxL K) (tFld K (tVar 0) "stack") (tUn oNeg (tC (.int 1))))) (gName 2) tYes (tMeth A.CS "value" (sp_Size_value K A) [] E0 (tMeth A.CD "size" (sp_Desk_size K A) [] E0 (tVar 0) tNil) (tCons (tVar 2) (tCons (tOp (rIxL K) (tVar 1) (tC (.int 0))) (tCons (tOp (rIxL K) (tVar 1) (tC (.int 1))) tNil)))) [2])))))
/-- Desk read_bytes (level 5); slots: self 0 top 1 spots 2 found 3 place 4 x 5 y 6 channel 7 -/
def t_Desk_read_bytes (K : PySem.W.Frag) (A : Ad) (E : XK) : TS := (tSeq (tDrop (tMeth A.CD "need_pictures" (sp_Desk_need_pictures K A) [] E (tVar 0) (tCons (tC (.int 1)) tNil))) (tSeq (tPar 1 2 (tCons (tOp (rIxL K) (tFld K (tVar 0) "stack") (tUn oNeg (tC (.int 1)))) (tCons (tMeth A.CS "spots" (sp_Size_spots K A) [] E0 (tMeth A.CD "size" (sp_Desk_size K A) [] E0 (tVar 0) tNil) tNil) tNil))) (tSeq (tAsg (tLst (tCons (tOp oMul (tC (.int 4)) (tCB (Evl.rLenS K) (tCons (tVar 2) tNil))) tNil)) (gName 3)) (tSeq (tFor (iEnum K (tCons (tVar 2) tNil)) (gTup K 2 (gCons (gName 4) (gCons (gTup K 2 (gCons (gName 5) (gCons (gName 6) gNil))) gNil))) (tDrop (tBM K "list" rExtend (tVar 3) (tCons (tLc (iList K (tVar 1)) (gName 7) tYes (tCall (sp_dithered K A) [] E0 (tCons (tOp (rIxL K) (tVar 7) (tVar 4)) (tCons (tC (.int 8)) (tCons (tVar 5) (tCons (tVar 6) tNil))))) [7]) tNil)))) (tRet (tVar 3))))))
/-- Desk read_words (level 5); slots: self 0 top 1 spots 2 found 3 place 4 x 5 y 6 r 7 b 8 -/
def t_Desk_read_words (K : PySem.W.Frag) (A : Ad) (E : XK) : TS := (tSeq (tDrop (tMeth A.CD "need_pictures" (sp_Desk_need_pictures K A) [] E (tVar 0) (tCons (tC (.int 1)) tNil))) (tSeq (tPar 1 2 (tCons (tOp (rIxL K) (tFld K (tVar 0) "stack") (tUn oNeg (tC (.int 1)))) (tCons (tMeth A.CS "spots" (sp_Size_spots K A) [] E0 (tMeth A.CD "size" (sp_Desk_size K A) [] E0 (tVar 0) tNil) tNil) tNil))) (tSeq (tAsg (tLst (tCons (tCB (Evl.rLenS K) (tCons (tVar 2) tNil)) tNil)) (gName 3)) (tSeq (tFor (iEnum K (tCons (tVar 2) tNil)) (gTup K 2 (gCons (gName 4) (gCons (gTup K 2 (gCons (gName 5) (gCons (gName 6) gNil))) gNil))) (tSeq (tPar 7 8 (tCons (tCall (sp_dithered K A) [] E0 (tCons (tOp (rIxL K) (tOp (rIxL K) (tVar 1) (tC (.int 0))) (tVar 4)) (tCons (tC (.int 5)) (tCons (tVar 5) (tCons (tVar 6) tNil))))) (tCons (tCall (sp_dithered K A) [] E0 (tCons (tOp (rIxL K) (tOp (rIxL K) (tVar 1) (tC (.int 2))) (tVar 4)) (tCons (tC (.int 5)) (tCons (tVar 5) (tCons (tVar 6) tNil))))) tNil))) (tDrop (tBM K "list" rAppend (tVar 3) (tCons (tOp oAdd (tOp oAdd (tOp oMul (tC (.int 2048)) (tVar 7)) (tOp oMul (tC (.int 32)) (tCall (sp_dithered K A) [] E0 (tCons (tOp (rIxL K) (tOp (rIxL K) (tVar 1) (tC (.int 1))) (tVar 4)) (tCons (tC (.int 6)) (tCons (tVar 5) (tCons (tVar 6) tNil))))))) (tVar 8)) tNil))))) (tRet (tVar 3))))))
/-- Desk early (level 6); slots: self 0 place 1 given 2 -/
def t_Desk_early (K : PySem.W.Frag) (A : Ad) (E : XK) : TS := (tSeq (tIfS (tTest (tOp rEq (tVar 1) (tC (.int 2)))) (tRet (tMeth A.CD "flat" (sp_Desk_flat K A) [] E (tVar 0) (tCons (tVar 2) tNil))) tNext) (tSeq (tIfS (tTest (tOp rEq (tVar 1) (tC (.int 3)))) (tRet (tMeth A.CD "noise" (sp_Desk_noise K A) [] E (tVar 0) (tCons (tVar 2) tNil))) tNext) (tSeq (tIfS (tTest (tOp rEq (tVar 1) (tC (.int 4)))) (tRet (tMeth A.CD "glow" (sp_Desk_glow K A) [] E (tVar 0) (tCons (tVar 2) tNil))) tNext) (tSeq (tIfS (tTest (tOp rEq (tVar 1) (tC (.int 5)))) (tRet (tMeth A.CD "box" (sp_Desk_box K A) [] E (tVar 0) (tCons (tVar 2) tNil))) tNext) (tSeq (tIfS (tTest (tOp rEq (tVar 1) (tC (.int 6)))) (tRet (tMeth A.CD "blur" (sp_Desk_blur K A) [] E (tVar 0) (tCons (tVar 2) tNil))) tNext) (tSeq (tIfS (tTest (tOp rEq (tVar 1) (tC (.int 7)))) (tRet (tMeth A.CD "turn" (sp_Desk_turn K A) [] E (tVar 0) (tCons (tVar 2) tNil))) tNext) (tRet (tIf (tTest (tOp rEq (tVar 1) (tC (.int 8)))) (tMeth A.CD "bend" (sp_Desk_bend K A) [] E (tVar 0) (tCons (tVar 2) tNil)) (tMeth A.CD "join" (sp_Desk_join K A) [] E (tVar 0) (tCons (tVar 2) tNil))))))))))
/-- Desk later (level 6); slots: self 0 place 1 given 2 -/
def t_Desk_later (K : PySem.W.Frag) (A : Ad) (E : XK) : TS := (tSeq (tIfS (tTest (tOp rEq (tVar 1) (tC (.int 10)))) (tRet (tMeth A.CD "levels" (sp_Desk_levels K A) [] E (tVar 0) (tCons (tVar 2) tNil))) tNext) (tSeq (tIfS (tTest (tOp rEq (tVar 1) (tC (.int 11)))) (tRet (tMeth A.CD "colour" (sp_Desk_colour K A) [] E (tVar 0) (tCons (tVar 2) tNil))) tNext) (tSeq (tIfS (tTest (tOp rEq (tVar 1) (tC (.int 12)))) (tRet (tMeth A.CD "light" (sp_Desk_light K A) [] E (tVar 0) (tCons (tVar 2) tNil))) tNext) (tSeq (tIfS (tTest (tOp rEq (tVar 1) (tC (.int 13)))) (tRet (tMeth A.CD "copy" (sp_Desk_copy K A) [] E (tVar 0) (tCons (tVar 2) tNil))) tNext) (tSeq (tIfS (tTest (tOp rEq (tVar 1) (tC (.int 14)))) (tRet (tMeth A.CD "swap" (sp_Desk_swap K A) [] E (tVar 0) tNil)) tNext) (tSeq (tIfS (tTest (tOp rEq (tVar 1) (tC (.int 15)))) (tRet (tMeth A.CD "drop" (sp_Desk_drop K A) [] E (tVar 0) tNil)) tNext) (tSeq (tIfS (tTest (tOp rEq (tVar 1) (tC (.int 16)))) (tRet (tMeth A.CD "pixel" (sp_Desk_pixel K A) [] E (tVar 0) (tCons (tVar 2) tNil))) tNext) (tRet (tIf (tTest (tOp rEq (tVar 1) (tC (.int 17)))) (tMeth A.CD "read_bytes" (sp_Desk_read_bytes K A) [] E (tVar 0) tNil) (tMeth A.CD "read_words" (sp_Desk_read_words K A) [] E (tVar 0) tNil))))))))))
/-- Desk answer (level 7); slots: self 0 place 1 given 2 refused 3 -/
def t_Desk_answer (K : PySem.W.Frag) (A : Ad) : TS := (tTry K A 3 (fun W => (tSeq (tIfS (tTest (tOp rEq (tVar 1) (tC (.int 1)))) (tRet (tMethT A.CD "open_stack" (sp_Desk_open_stack K A) (WE W) (tVar 0) (tCons (tOp (rIxL K) (tVar 2) (tC (.int 0))) (tCons (tOp (rIxL K) (tVar 2) (tC (.int 1))) tNil)))) tNext) (tSeq (tDrop (tCallS (sp_need K A) (WE W) (tCons (tOp (rNeE K) (tFld K (tVar 0) "sizes") (tLst tNil)) (tCons (tC (.int (-7))) tNil)))) (tRet (tIf (tTest (tOp oLt (tVar 1) (tC (.int 10)))) (tMethT A.CD "early" (sp_Desk_early K A) (WE W) (tVar 0) (tCons (tVar 1) (tCons (tVar 2) tNil))) (tMethT A.CD "later" (sp_Desk_later K A) (WE W) (tVar 0) (tCons (tVar 1) (tCons (tVar 2) tNil)))))))) (fun a cls d => (tRet (tLst (tCons (tXf a cls d A.CR "code" (tVar 3)) tNil)))))
/-- answers (level 8); slots: calls 0 desk 1 at 2 found 3 many 4 answer 5 -/
def t_answers (K : PySem.W.Frag) (A : Ad) : TS := (tSeq (tPar3 1 2 3 (tCons (tMake A.CD (sp_Desk___init__ K A) [] E0 tNil) (tCons (tC (.int 0)) (tCons (tLst tNil) tNil)))) (tSeq (tWhile (tTest (tOp oLt (tVar 2) (tCB (Evl.rLenS K) (tCons (tVar 0) tNil)))) (tSeq (tAsg (tOp (rIxT K) (tC (.ref A.aG)) (tOp (rIxL K) (tVar 0) (tVar 2))) (gName 4)) (tSeq (tAsg (tMeth A.CD "answer" (sp_Desk_answer K A) [] E0 (tVar 1) (tCons (tOp (rIxL K) (tVar 0) (tVar 2)) (tCons (tSl (rSlL K) (tVar 0) (tPart (tOp oAdd (tVar 2) (tC (.int 1)))) (tPart (tOp oAdd (tOp oAdd (tVar 2) (tC (.int 1))) (tVar 4)))) tNil))) (gName 5)) (tSeq (tAsg (tOp oAdd (tOp oAdd (tVar 2) (tC (.int 1))) (tVar 4)) (gName 2)) (tSeq (tDrop (tBM K "list" rAppend (tVar 3) (tCons (tCB (Evl.rLenS K) (tCons (tVar 5) tNil)) tNil))) (tDrop (tBM K "list" rExtend (tVar 3) (tCons (tVar 5) tNil)))))))) (tRet (tVar 3))))
end GT
end
section
set_option Elab.async false
set_option linter.all false
set_option maxRecDepth 100000
set_option maxHeartbeats 4000000
namespace GT
open PySem PySem.Spec PyProof.Rows L2
section
variable {P : Program} {w : World} {K : PySem.W.Frag} {mg : Str → Option Value} {base : Heap} {A : Ad}
abbrev s_clamped : Stmt := topS 6
theorem sc_clamped : FnScope ["value"] ["value"] (defScope s_clamped) := ⟨rfl, rfl, rfl, by decide +kernel, rfl, by decide +kernel, by decide +kernel⟩
theorem has_clamped (T : Txt K mg A)  {f : Addr} {cdv : Value} {B : Around} {outer : List Env} {s : Shared} {H : Hp} {E : XK} (hr : Room 0 (B.deeper (envOfC "clamped" (defScope s_clamped) s.heap.objs.size f cdv))) :
    PSs (cxOf CX0 P w K mg base ["value"] "clamped" (defScope s_clamped) f cdv B outer s H E).nox (defBody s_clamped) (t_clamped K A) := by
  exact (pss_one (ps_ret (pe_callB (call_max2 rfl) (by rfl) T.bMax (by decide +kernel) (pa_cons pe_int (pa_cons (pe_callB (call_min2 rfl) (by rfl) T.bMin (by decide +kernel) (pa_cons (pv 0) (pa_cons (pe_gi T.cMOST) pa_nil))) pa_nil)))))
abbrev s_nearest : Stmt := topS 7
theorem sc_nearest : FnScope ["top", "bottom"] ["top", "bottom"] (defScope s_nearest) := ⟨rfl, rfl, rfl, by decide +kernel, rfl, by decide +kernel, by decide +kernel⟩
theorem has_nearest (T : Txt K mg A)  {f : Addr} {cdv : Value} {B : Around} {outer : List Env} {s : Shared} {H : Hp} {E : XK} (hr : Room 0 (B.deeper (envOfC "nearest" (defScope s_nearest) s.heap.objs.size f cdv))) :
    PSs (cxOf CX0 P w K mg base ["top", "bottom"] "nearest" (defScope s_nearest) f cdv B outer s H E).nox (defBody s_nearest) (t_nearest K A) := by
  exact (pss_one (ps_ret (pe_op op_fdiv (pe_op op_add (pe_op op_mul pe_int (pv 0)) (pv 1)) (pe_op op_mul pe_int (pv 1)))))
abbrev s_power_of_two : Stmt := topS 8
theorem sc_power_of_two : FnScope ["many", "found", "turn"] ["many"] (defScope s_power_of_two) := ⟨rfl, rfl, rfl, by decide +kernel, rfl, by decide +kernel, by decide +kernel⟩
theorem has_power_of_two (T : Txt K mg A)  {f : Addr} {cdv : Value} {B : Around} {outer : List Env} {s : Shared} {H : Hp} {E : XK} (hr : Room 0 (B.deeper (envOfC "power_of_two" (defScope s_power_of_two) s.heap.objs.size f cdv))) :
    PSs (cxOf CX0 P w K mg base ["many", "found", "turn"] "power_of_two" (defScope s_power_of_two) f cdv B outer s H E).nox (defBody s_power_of_two) (t_power_of_two K A) := by
  exact (pss_cons (ps_set (i := 1) sc_power_of_two.nd rfl (Or.inl rfl) pe_int) (pss_cons (ps_for PassesOwn.never rfl (pi_range1 (by rfl) T.bRange (pa_cons (pv 0) pa_nil)) (pg_name (i := 2) sc_power_of_two.nd rfl (Or.inl rfl)) (pss_one (ps_set (i := 1) sc_power_of_two.nd rfl (Or.inl rfl) (pe_op op_mul pe_int (pv 1))))) (pss_one (ps_ret (pv 1)))))
abbrev s_Size___init__ : Stmt := inClass (topS 9) 0
theorem sc_Size___init__ : FnScope ["self", "width", "height"] ["self", "width", "height"] (defScope s_Size___init__) := ⟨rfl, rfl, rfl, by decide +kernel, rfl, by decide +kernel, by decide +kernel⟩
theorem has_Size___init__ (T : Txt K mg A)  {f : Addr} {cdv : Value} {B : Around} {outer : List Env} {s : Shared} {H : Hp} {E : XK} (hr : Room 0 (B.deeper (envOfC "Size.__init__" (defScope s_Size___init__) s.heap.objs.size f cdv))) :
    PSs (cxOf CX0 P w K mg base ["self", "width", "height"] "Size.__init__" (defScope s_Size___init__) f cdv B outer s H E).nox (defBody s_Size___init__) (t_Size___init__ K A) := by
  exact (pss_cons (ps_fld (pv 0) (pv 1) rfl) (pss_one (ps_fld (pv 0) (pv 2) rfl)))
abbrev s_Size_spots : Stmt := inClass (topS 9) 1
theorem sc_Size_spots : FnScope ["self", "found", "y", "x"] ["self"] (defScope s_Size_spots) := ⟨rfl, rfl, rfl, by decide +kernel, rfl, by decide +kernel, by decide +kernel⟩
theorem has_Size_spots (T : Txt K mg A)  {f : Addr} {cdv : Value} {B : Around} {outer : List Env} {s : Shared} {H : Hp} {E : XK} (hr : Room 0 (B.deeper (envOfC "Size.spots" (defScope s_Size_spots) s.heap.objs.size f cdv))) :
    PSs (cxOf CX0 P w K mg base ["self", "found", "y", "x"] "Size.spots" (defScope s_Size_spots) f cdv B outer s H E).nox (defBody s_Size_spots) (t_Size_spots K A) := by
  exact (pss_cons (ps_set (i := 1) sc_Size_spots.nd rfl (Or.inl rfl) (pe_lst pa_nil)) (pss_cons (ps_for PassesOwn.never rfl (pi_range1 (by rfl) T.bRange (pa_cons (pe_fld (pv 0) rfl) pa_nil)) (pg_name (i := 2) sc_Size_spots.nd rfl (Or.inr rfl)) (pss_one (ps_expr (pe_bm PySem.F.plainAttrs_list PySem.F.slot_list_extend PySem.F.type_list_extend mt_extend (pv 1) (pa_cons (pe_lc (own := [("x", 3)]) (g := (gName 3)) (tt := tYes) rfl sc_Size_spots.nd (pi_range1 (by rfl) T.bRange (pa_cons (pe_fld (pv 0) rfl) pa_nil)) (blkOk_by (N := ["self", "found", "y", "x"]) (sc := defScope s_Size_spots) (by decide +kernel)) (fun _ _ _ _ _ => (pg_name (i := 3) sc_Size_spots.nd rfl (Or.inl rfl))) (fun _ _ _ _ _ => pts_nil) (fun _ _ _ _ _ => (pe_tup (pa_cons (pv 3) (pa_cons (pv 2) pa_nil))))) pa_nil))))) (pss_one (ps_ret (pv 1)))))
abbrev s_Size_value : Stmt := inClass (topS 9) 2
theorem sc_Size_value : FnScope ["self", "channel", "x", "y"] ["self", "channel", "x", "y"] (defScope s_Size_value) := ⟨rfl, rfl, rfl, by decide +kernel, rfl, by decide +kernel, by decide +kernel⟩
theorem has_Size_value (T : Txt K mg A)  {f : Addr} {cdv : Value} {B : Around} {outer : List Env} {s : Shared} {H : Hp} {E : XK} (hr : Room 0 (B.deeper (envOfC "Size.value" (defScope s_Size_value) s.heap.objs.size f cdv))) :
    PSs (cxOf CX0 P w K mg base ["self", "channel", "x", "y"] "Size.value" (defScope s_Size_value) f cdv B outer s H E).nox (defBody s_Size_value) (t_Size_value K A) := by
  exact (pss_one (ps_ret (pe_ix ix_list (pv 1) (pe_op op_add (pe_op op_mul (pe_op op_mod (pv 3) (pe_fld (pv 0) rfl)) (pe_fld (pv 0) rfl)) (pe_op op_mod (pv 2) (pe_fld (pv 0) rfl))) (fun _ _ => rfl))))
abbrev s_Size_sample : Stmt := inClass (topS 9) 3
theorem sc_Size_sample : FnScope ["self", "channel", "x", "y", "i", "j", "u", "v", "e", "f"] ["self", "channel", "x", "y"] (defScope s_Size_sample) := ⟨rfl, rfl, rfl, by decide +kernel, rfl, by decide +kernel, by decide +kernel⟩
theorem has_Size_sample (T : Txt K mg A) (h_Size_value : HvM P w K mg base CX0 1 A.CS "value" ["self", "channel", "x", "y"] (sp_Size_value K A)) {f : Addr} {cdv : Value} {B : Around} {outer : List Env} {s : Shared} {H : Hp} {E : XK} (hr : Room 1 (B.deeper (envOfC "Size.sample" (defScope s_Size_sample) s.heap.objs.size f cdv))) :
    PSs (cxOf CX0 P w K mg base ["self", "channel", "x", "y", "i", "j", "u", "v", "e", "f"] "Size.sample" (defScope s_Size_sample) f cdv B outer s H E).nox (defBody s_Size_sample) (t_Size_sample K A) := by
  exact (pss_cons (ps_par (i := 4) (j := 5) rfl sc_Size_sample.nd rfl rfl (by decide) rfl rfl (pa_cons (pe_op op_fdiv (pv 2) (pe_gi T.cUNIT)) (pa_cons (pe_op op_fdiv (pv 3) (pe_gi T.cUNIT)) pa_nil)) (by rfl)) (pss_cons (ps_par (i := 6) (j := 7) rfl sc_Size_sample.nd rfl rfl (by decide) rfl rfl (pa_cons (pe_op op_mod (pv 2) (pe_gi T.cUNIT)) (pa_cons (pe_op op_mod (pv 3) (pe_gi T.cUNIT)) pa_nil)) (by rfl)) (pss_cons (ps_set (i := 8) sc_Size_sample.nd rfl (Or.inl rfl) (pe_op op_add (pe_op op_mul (pe_cM T.clSize h_Size_value (hr.mono (by decide)) pass0 (pv 0) (pa_cons (pv 1) (pa_cons (pv 4) (pa_cons (pv 5) pa_nil)))) (pe_op op_sub (pe_gi T.cUNIT) (pv 6))) (pe_op op_mul (pe_cM T.clSize h_Size_value (hr.mono (by decide)) pass0 (pv 0) (pa_cons (pv 1) (pa_cons (pe_op op_add (pv 4) pe_int) (pa_cons (pv 5) pa_nil)))) (pv 6)))) (pss_cons (ps_set (i := 9) sc_Size_sample.nd rfl (Or.inl rfl) (pe_op op_add (pe_op op_mul (pe_cM T.clSize h_Size_value (hr.mono (by decide)) pass0 (pv 0) (pa_cons (pv 1) (pa_cons (pv 4) (pa_cons (pe_op op_add (pv 5) pe_int) pa_nil)))) (pe_op op_sub (pe_gi T.cUNIT) (pv 6))) (pe_op op_mul (pe_cM T.clSize h_Size_value (hr.mono (by decide)) pass0 (pv 0) (pa_cons (pv 1) (pa_cons (pe_op op_add (pv 4) pe_int) (pa_cons (pe_op op_add (pv 5) pe_int) pa_nil)))) (pv 6)))) (pss_one (ps_ret (pe_op op_fdiv (pe_op op_add (pe_op op_mul (pv 8) (pe_op op_sub (pe_gi T.cUNIT) (pv 7))) (pe_op op_mul (pv 9) (pv 7))) pe_int)))))))
abbrev s_flat : Stmt := topS 10
theorem sc_flat : FnScope ["size", "colour", "many", "k", "turn"] ["size", "colour"] (defScope s_flat) := ⟨rfl, rfl, rfl, by decide +kernel, rfl, by decide +kernel, by decide +kernel⟩
theorem has_flat (T : Txt K mg A)  {f : Addr} {cdv : Value} {B : Around} {outer : List Env} {s : Shared} {H : Hp} {E : XK} (hr : Room 0 (B.deeper (envOfC "flat" (defScope s_flat) s.heap.objs.size f cdv))) :
    PSs (cxOf CX0 P w K mg base ["size", "colour", "many", "k", "turn"] "flat" (defScope s_flat) f cdv B outer s H E).nox (defBody s_flat) (t_flat K A) := by
  exact (pss_cons (ps_set (i := 2) sc_flat.nd rfl (Or.inr rfl) (pe_op op_mul (pe_fld (pv 0) rfl) (pe_fld (pv 0) rfl))) (pss_one (ps_ret (pe_lc (own := [("k", 3)]) (g := (gName 3)) (tt := tYes) rfl sc_flat.nd (pi_range1 (by rfl) T.bRange (pa_cons (pe_gi T.cCHANNELS) pa_nil)) (blkOk_by (N := ["size", "colour", "many", "k", "turn"]) (sc := defScope s_flat) (by decide +kernel)) (fun _ _ _ _ _ => (pg_name (i := 3) sc_flat.nd rfl (Or.inr rfl))) (fun _ _ _ _ _ => pts_nil) (fun _ _ _ _ _ => (pe_lc (own := [("turn", 4)]) (g := (gName 4)) (tt := tYes) rfl sc_flat.nd (pi_range1 (by rfl) T.bRange (pa_cons (pv 2) pa_nil)) (blkOk_by (N := ["size", "colour", "many", "k", "turn"]) (sc := relS _ (defScope s_flat)) (by decide +kernel)) (fun _ _ _ _ _ => (pg_name (i := 4) sc_flat.nd rfl (Or.inl rfl))) (fun _ _ _ _ _ => pts_nil) (fun _ _ _ _ _ => (pe_ix ix_list (pv 1) (pv 3) (fun _ _ => rfl)))))))))
abbrev s_dithered : Stmt := topS 12
theorem sc_dithered : FnScope ["value", "bits", "x", "y", "top", "whole", "rest", "found"] ["value", "bits", "x", "y"] (defScope s_dithered) := ⟨rfl, rfl, rfl, by decide +kernel, rfl, by decide +kernel, by decide +kernel⟩
theorem has_dithered (T : Txt K mg A) (h_power_of_two : HvF P w K mg base CX0 1 "power_of_two" ["many"] (sp_power_of_two K A)) {f : Addr} {cdv : Value} {B : Around} {outer : List Env} {s : Shared} {H : Hp} {E : XK} (hr : Room 1 (B.deeper (envOfC "dithered" (defScope s_dithered) s.heap.objs.size f cdv))) :
    PSs (cxOf CX0 P w K mg base ["value", "bits", "x", "y", "top", "whole", "rest", "found"] "dithered" (defScope s_dithered) f cdv B outer s H E).nox (defBody s_dithered) (t_dithered K A) := by
  exact (pss_cons (ps_set (i := 4) sc_dithered.nd rfl (Or.inl rfl) (pe_op op_sub (pe_cF h_power_of_two (hr.mono (by decide)) pass0 (pa_cons (pv 1) pa_nil)) pe_int)) (pss_cons (ps_set (i := 5) sc_dithered.nd rfl (Or.inl rfl) (pe_op op_fdiv (pe_op op_mul (pv 0) (pv 4)) (pe_gi T.cMOST))) (pss_cons (ps_set (i := 6) sc_dithered.nd rfl (Or.inl rfl) (pe_op op_fdiv (pe_op op_mul (pe_op op_mod (pe_op op_mul (pv 0) (pv 4)) (pe_gi T.cMOST)) pe_int) (pe_gi T.cMOST))) (pss_cons (ps_set (i := 7) sc_dithered.nd rfl (Or.inl rfl) (pe_op op_fdiv (pe_op op_sub (pe_op op_add (pe_op op_add (pe_op op_mul pe_int (pv 5)) (pv 6)) pe_int) (pe_ix ix_tup (pe_gr T.gSCREEN) (pe_op op_add (pe_op op_mul pe_int (pe_op op_mod (pv 3) pe_int)) (pe_op op_mod (pv 2) pe_int)) (fun _ _ => rfl))) pe_int)) (pss_one (ps_ret (pe_callB (call_min2 rfl) (by rfl) T.bMin (by decide +kernel) (pa_cons (pv 7) (pa_cons (pv 4) pa_nil)))))))))
abbrev s_strength_at : Stmt := topS 16
theorem sc_strength_at : FnScope ["size", "spot", "middle", "radii", "many", "half", "tall", "dx", "dy", "u", "v", "t", "found", "turn"] ["size", "spot", "middle", "radii", "many"] (defScope s_strength_at) := ⟨rfl, rfl, rfl, by decide +kernel, rfl, by decide +kernel, by decide +kernel⟩
theorem has_strength_at (T : Txt K mg A)  {f : Addr} {cdv : Value} {B : Around} {outer : List Env} {s : Shared} {H : Hp} {E : XK} (hr : Room 0 (B.deeper (envOfC "strength_at" (defScope s_strength_at) s.heap.objs.size f cdv))) :
    PSs (cxOf CX0 P w K mg base ["size", "spot", "middle", "radii", "many", "half", "tall", "dx", "dy", "u", "v", "t", "found", "turn"] "strength_at" (defScope s_strength_at) f cdv B outer s H E).nox (defBody s_strength_at) (t_strength_at K A) := by
  exact (pss_cons (ps_par (i := 5) (j := 6) rfl sc_strength_at.nd rfl rfl (by decide) rfl rfl (pa_cons (pe_op op_fdiv (pe_fld (pv 0) rfl) pe_int) (pa_cons (pe_op op_fdiv (pe_fld (pv 0) rfl) pe_int) pa_nil)) (by rfl)) (pss_cons (ps_set (i := 7) sc_strength_at.nd rfl (Or.inl rfl) (pe_op op_sub (pe_op op_mod (pe_op op_add (pe_op op_sub (pe_ix ix_tup (pv 1) pe_int (fun _ _ => rfl)) (pe_ix ix_list (pv 2) pe_int (fun _ _ => rfl))) (pv 5)) (pe_fld (pv 0) rfl)) (pv 5))) (pss_cons (ps_set (i := 8) sc_strength_at.nd rfl (Or.inl rfl) (pe_op op_sub (pe_op op_mod (pe_op op_add (pe_op op_sub (pe_ix ix_tup (pv 1) pe_int (fun _ _ => rfl)) (pe_ix ix_list (pv 2) pe_int (fun _ _ => rfl))) (pv 6)) (pe_fld (pv 0) rfl)) (pv 6))) (pss_cons (ps_par (i := 9) (j := 10) rfl sc_strength_at.nd rfl rfl (by decide) rfl rfl (pa_cons (pe_op op_fdiv (pe_op op_mul pe_int (pv 7)) (pe_ix ix_list (pv 3) pe_int (fun _ _ => rfl))) (pa_cons (pe_op op_fdiv (pe_op op_mul pe_int (pv 8)) (pe_ix ix_list (pv 3) pe_int (fun _ _ => rfl))) pa_nil)) (by rfl)) (pss_cons (ps_set (i := 11) sc_strength_at.nd rfl (Or.inl rfl) (pe_op op_add (pe_op op_mul (pv 9) (pv 9)) (pe_op op_mul (pv 10) (pv 10)))) (pss_cons (ps_if (pt_cmpR op_ge (pv 11) (pe_gi T.cFULL) (nomark _)) (pss_one (ps_ret pe_int)) pss_nil) (pss_cons (ps_set (i := 12) sc_strength_at.nd rfl (Or.inl rfl) (pe_op op_sub (pe_gi T.cFULL) (pv 11))) (pss_cons (ps_for PassesOwn.never rfl (pi_range1 (by rfl) T.bRange (pa_cons (pe_op op_sub (pv 4) pe_int) pa_nil)) (pg_name (i := 13) sc_strength_at.nd rfl (Or.inl rfl)) (pss_one (ps_set (i := 12) sc_strength_at.nd rfl (Or.inl rfl) (pe_op op_fdiv (pe_op op_mul (pv 12) (pe_op op_sub (pe_gi T.cFULL) (pv 11))) (pe_gi T.cFULL))))) (pss_one (ps_ret (pv 12)))))))))))
abbrev s_glow : Stmt := topS 17
theorem sc_glow : FnScope ["size", "picture", "middle", "radii", "many", "colour", "strengths", "found", "channel", "own", "spot", "value", "more"] ["size", "picture", "middle", "radii", "many", "colour"] (defScope s_glow) := ⟨rfl, rfl, rfl, by decide +kernel, rfl, by decide +kernel, by decide +kernel⟩
theorem has_glow (T : Txt K mg A) (h_Size_spots : HvM P w K mg base CX0 1 A.CS "spots" ["self"] (sp_Size_spots K A)) (h_strength_at : HvF P w K mg base CX0 1 "strength_at" ["size", "spot", "middle", "radii", "many"] (sp_strength_at K A)) {f : Addr} {cdv : Value} {B : Around} {outer : List Env} {s : Shared} {H : Hp} {E : XK} (hr : Room 1 (B.deeper (envOfC "glow" (defScope s_glow) s.heap.objs.size f cdv))) :
    PSs (cxOf CX0 P w K mg base ["size", "picture", "middle", "radii", "many", "colour", "strengths", "found", "channel", "own", "spot", "value", "more"] "glow" (defScope s_glow) f cdv B outer s H E).nox (defBody s_glow) (t_glow K A) := by
  exact (pss_cons (ps_setLc (i := 6) (own := [("spot", 10)]) (g := (gName 10)) (tt := tYes) rfl sc_glow.nd rfl rfl (sw_true rfl rfl rfl (by decide +kernel)) (pi_list (pe_cM0 T.clSize h_Size_spots (hr.mono (by decide)) pass0 (pv 0))) (blkOk_by (N := ["size", "picture", "middle", "radii", "many", "colour", "strengths", "found", "channel", "own", "spot", "value", "more"]) (sc := defScope s_glow) (by decide +kernel)) (fun _ _ _ _ _ => (pg_name (i := 10) sc_glow.nd rfl (Or.inl rfl))) (fun _ _ _ _ _ => pts_nil) (fun _ _ _ _ _ => (pe_cF h_strength_at (hr.mono (by decide)) pass0 (pa_cons (pv 0) (pa_cons (pv 10) (pa_cons (pv 2) (pa_cons (pv 3) (pa_cons (pv 4) pa_nil)))))))) (pss_cons (ps_set (i := 7) sc_glow.nd rfl (Or.inl rfl) (pe_lst pa_nil)) (pss_cons (ps_for PassesOwn.never rfl (pi_zip (by rfl) T.bZip (pa_cons (pv 1) (pa_cons (pv 5) pa_nil))) (pg_tup rfl (pgs_cons (pg_name (i := 8) sc_glow.nd rfl (Or.inl rfl)) (pgs_cons (pg_name (i := 9) sc_glow.nd rfl (Or.inr rfl)) pgs_nil))) (pss_one (ps_expr (pe_bm PySem.F.plainAttrs_list PySem.F.slot_list_append PySem.F.type_list_append mt_append (pv 7) (pa_cons (pe_lc (own := [("value", 11), ("more", 12)]) (g := (gTup K 2 (gCons (gName 11) (gCons (gName 12) gNil)))) (tt := tYes) rfl sc_glow.nd (pi_zip (by rfl) T.bZip (pa_cons (pv 8) (pa_cons (pv 6) pa_nil))) (blkOk_by (N := ["size", "picture", "middle", "radii", "many", "colour", "strengths", "found", "channel", "own", "spot", "value", "more"]) (sc := defScope s_glow) (by decide +kernel)) (fun _ _ _ _ _ => (pg_tup rfl (pgs_cons (pg_name (i := 11) sc_glow.nd rfl (Or.inl rfl)) (pgs_cons (pg_name (i := 12) sc_glow.nd rfl (Or.inl rfl)) pgs_nil)))) (fun _ _ _ _ _ => pts_nil) (fun _ _ _ _ _ => (pe_callB (call_min2 rfl) (by rfl) T.bMin (by decide +kernel) (pa_cons (pe_gi T.cMOST) (pa_cons (pe_op op_add (pv 11) (pe_op op_fdiv (pe_op op_mul (pv 9) (pv 12)) (pe_gi T.cFULL))) pa_nil))))) pa_nil))))) (pss_one (ps_ret (pv 7))))))
abbrev s_box : Stmt := topS 19
theorem sc_box : FnScope ["size", "picture", "corner", "sides", "colour", "inside", "x", "y", "is_across", "found", "channel", "own", "value", "is_in"] ["size", "picture", "corner", "sides", "colour"] (defScope s_box) := ⟨rfl, rfl, rfl, by decide +kernel, rfl, by decide +kernel, by decide +kernel⟩
theorem has_box (T : Txt K mg A) (h_Size_spots : HvM P w K mg base CX0 1 A.CS "spots" ["self"] (sp_Size_spots K A)) {f : Addr} {cdv : Value} {B : Around} {outer : List Env} {s : Shared} {H : Hp} {E : XK} (hr : Room 1 (B.deeper (envOfC "box" (defScope s_box) s.heap.objs.size f cdv))) :
    PSs (cxOf CX0 P w K mg base ["size", "picture", "corner", "sides", "colour", "inside", "x", "y", "is_across", "found", "channel", "own", "value", "is_in"] "box" (defScope s_box) f cdv B outer s H E).nox (defBody s_box) (t_box K A) := by
  exact (pss_cons (ps_set (i := 5) sc_box.nd rfl (Or.inl rfl) (pe_lst pa_nil)) (pss_cons (ps_for PassesOwn.never rfl (pi_list (pe_cM0 T.clSize h_Size_spots (hr.mono (by decide)) pass0 (pv 0))) (pg_tup rfl (pgs_cons (pg_name (i := 6) sc_box.nd rfl (Or.inl rfl)) (pgs_cons (pg_name (i := 7) sc_box.nd rfl (Or.inl rfl)) pgs_nil))) (pss_cons (ps_set (i := 8) sc_box.nd rfl (Or.inl rfl) (pe_cmpR op_lt (pe_op op_mod (pe_op op_sub (pv 6) (pe_ix ix_list (pv 2) pe_int (fun _ _ => rfl))) (pe_fld (pv 0) rfl)) (pe_ix ix_list (pv 3) pe_int (fun _ _ => rfl)) (nomark _))) (pss_one (ps_expr (pe_bm PySem.F.plainAttrs_list PySem.F.slot_list_append PySem.F.type_list_append mt_append (pv 5) (pa_cons (pe_and (pv 8) (pe_one (pe_cmpR op_lt (pe_op op_mod (pe_op op_sub (pv 7) (pe_ix ix_list (pv 2) pe_int (fun _ _ => rfl))) (pe_fld (pv 0) rfl)) (pe_ix ix_list (pv 3) pe_int (fun _ _ => rfl)) (nomark _)))) pa_nil)))))) (pss_cons (ps_set (i := 9) sc_box.nd rfl (Or.inl rfl) (pe_lst pa_nil)) (pss_cons (ps_for PassesOwn.never rfl (pi_zip (by rfl) T.bZip (pa_cons (pv 1) (pa_cons (pv 4) pa_nil))) (pg_tup rfl (pgs_cons (pg_name (i := 10) sc_box.nd rfl (Or.inl rfl)) (pgs_cons (pg_name (i := 11) sc_box.nd rfl (Or.inr rfl)) pgs_nil))) (pss_one (ps_expr (pe_bm PySem.F.plainAttrs_list PySem.F.slot_list_append PySem.F.type_list_append mt_append (pv 9) (pa_cons (pe_lc (own := [("value", 12), ("is_in", 13)]) (g := (gTup K 2 (gCons (gName 12) (gCons (gName 13) gNil)))) (tt := tYes) rfl sc_box.nd (pi_zip (by rfl) T.bZip (pa_cons (pv 10) (pa_cons (pv 5) pa_nil))) (blkOk_by (N := ["size", "picture", "corner", "sides", "colour", "inside", "x", "y", "is_across", "found", "channel", "own", "value", "is_in"]) (sc := defScope s_box) (by decide +kernel)) (fun _ _ _ _ _ => (pg_tup rfl (pgs_cons (pg_name (i := 12) sc_box.nd rfl (Or.inl rfl)) (pgs_cons (pg_name (i := 13) sc_box.nd rfl (Or.inl rfl)) pgs_nil)))) (fun _ _ _ _ _ => pts_nil) (fun _ _ _ _ _ => (pe_ifExp (pt_val (pv 13)) (pv 11) (pv 12)))) pa_nil))))) (pss_one (ps_ret (pv 9)))))))
abbrev s_blurred_row : Stmt := topS 21
theorem sc_blurred_row : FnScope ["row", "radius", "many", "wide", "total", "found", "place", "k"] ["row", "radius"] (defScope s_blurred_row) := ⟨rfl, rfl, rfl, by decide +kernel, rfl, by decide +kernel, by decide +kernel⟩
theorem has_blurred_row (T : Txt K mg A)  {f : Addr} {cdv : Value} {B : Around} {outer : List Env} {s : Shared} {H : Hp} {E : XK} (hr : Room 0 (B.deeper (envOfC "blurred_row" (defScope s_blurred_row) s.heap.objs.size f cdv))) :
    PSs (cxOf CX0 P w K mg base ["row", "radius", "many", "wide", "total", "found", "place", "k"] "blurred_row" (defScope s_blurred_row) f cdv B outer s H E).nox (defBody s_blurred_row) (t_blurred_row K A) := by
  exact (pss_cons (ps_asg (pe_tup (pa_cons (pe_callB call_len_seq (by rfl) T.bLen PySem.boot_len (pa_cons (pv 0) pa_nil)) (pa_cons (pe_op op_add (pe_op op_mul pe_int (pv 1)) pe_int) pa_nil))) (pg_tup rfl (pgs_cons (pg_name (i := 2) sc_blurred_row.nd rfl (Or.inr rfl)) (pgs_cons (pg_name (i := 3) sc_blurred_row.nd rfl (Or.inl rfl)) pgs_nil)))) (pss_cons (ps_set (i := 4) sc_blurred_row.nd rfl (Or.inl rfl) (pe_callB (cr_sum rfl) (by rfl) T.bSum (by decide +kernel) (pa_cons (pe_lc (own := [("k", 7)]) (g := (gName 7)) (tt := tYes) rfl sc_blurred_row.nd (pi_range2 (by rfl) T.bRange (pa_cons (pe_op op_sub pe_int (pv 1)) (pa_cons (pe_op op_add (pv 1) pe_int) pa_nil))) (blkOk_by (N := ["row", "radius", "many", "wide", "total", "found", "place", "k"]) (sc := defScope s_blurred_row) (by decide +kernel)) (fun _ _ _ _ _ => (pg_name (i := 7) sc_blurred_row.nd rfl (Or.inl rfl))) (fun _ _ _ _ _ => pts_nil) (fun _ _ _ _ _ => (pe_ix ix_list (pv 0) (pe_op op_mod (pv 7) (pv 2)) (fun _ _ => rfl)))) pa_nil))) (pss_cons (ps_set (i := 5) sc_blurred_row.nd rfl (Or.inl rfl) (pe_lst pa_nil)) (pss_cons (ps_for PassesOwn.never rfl (pi_range1 (by rfl) T.bRange (pa_cons (pv 2) pa_nil)) (pg_name (i := 6) sc_blurred_row.nd rfl (Or.inl rfl)) (pss_cons (ps_expr (pe_bm PySem.F.plainAttrs_list PySem.F.slot_list_append PySem.F.type_list_append mt_append (pv 5) (pa_cons (pe_op op_fdiv (pv 4) (pv 3)) pa_nil))) (pss_one (ps_set (i := 4) sc_blurred_row.nd rfl (Or.inl rfl) (pe_op op_sub (pe_op op_add (pv 4) (pe_ix ix_list (pv 0) (pe_op op_mod (pe_op op_add (pe_op op_add (pv 6) (pv 1)) pe_int) (pv 2)) (fun _ _ => rfl))) (pe_ix ix_list (pv 0) (pe_op op_mod (pe_op op_sub (pv 6) (pv 1)) (pv 2)) (fun _ _ => rfl))))))) (pss_one (ps_ret (pv 5)))))))
abbrev s_turned_over : Stmt := topS 22
theorem sc_turned_over : FnScope ["channel", "width", "height", "found", "x", "y"] ["channel", "width", "height"] (defScope s_turned_over) := ⟨rfl, rfl, rfl, by decide +kernel, rfl, by decide +kernel, by decide +kernel⟩
theorem has_turned_over (T : Txt K mg A)  {f : Addr} {cdv : Value} {B : Around} {outer : List Env} {s : Shared} {H : Hp} {E : XK} (hr : Room 0 (B.deeper (envOfC "turned_over" (defScope s_turned_over) s.heap.objs.size f cdv))) :
    PSs (cxOf CX0 P w K mg base ["channel", "width", "height", "found", "x", "y"] "turned_over" (defScope s_turned_over) f cdv B outer s H E).nox (defBody s_turned_over) (t_turned_over K A) := by
  exact (pss_cons (ps_set (i := 3) sc_turned_over.nd rfl (Or.inl rfl) (pe_lst pa_nil)) (pss_cons (ps_for PassesOwn.never rfl (pi_range1 (by rfl) T.bRange (pa_cons (pv 1) pa_nil)) (pg_name (i := 4) sc_turned_over.nd rfl (Or.inr rfl)) (pss_one (ps_expr (pe_bm PySem.F.plainAttrs_list PySem.F.slot_list_extend PySem.F.type_list_extend mt_extend (pv 3) (pa_cons (pe_lc (own := [("y", 5)]) (g := (gName 5)) (tt := tYes) rfl sc_turned_over.nd (pi_range1 (by rfl) T.bRange (pa_cons (pv 2) pa_nil)) (blkOk_by (N := ["channel", "width", "height", "found", "x", "y"]) (sc := defScope s_turned_over) (by decide +kernel)) (fun _ _ _ _ _ => (pg_name (i := 5) sc_turned_over.nd rfl (Or.inl rfl))) (fun _ _ _ _ _ => pts_nil) (fun _ _ _ _ _ => (pe_ix ix_list (pv 0) (pe_op op_add (pe_op op_mul (pv 5) (pv 1)) (pv 4)) (fun _ _ => rfl)))) pa_nil))))) (pss_one (ps_ret (pv 3)))))
abbrev s_blurred_rows : Stmt := topS 23
theorem sc_blurred_rows : FnScope ["channel", "width", "radius", "found", "at"] ["channel", "width", "radius"] (defScope s_blurred_rows) := ⟨rfl, rfl, rfl, by decide +kernel, rfl, by decide +kernel, by decide +kernel⟩
theorem has_blurred_rows (T : Txt K mg A) (h_blurred_row : HvF P w K mg base CX0 1 "blurred_row" ["row", "radius"] (sp_blurred_row K A)) {f : Addr} {cdv : Value} {B : Around} {outer : List Env} {s : Shared} {H : Hp} {E : XK} (hr : Room 1 (B.deeper (envOfC "blurred_rows" (defScope s_blurred_rows) s.heap.objs.size f cdv))) :
    PSs (cxOf CX0 P w K mg base ["channel", "width", "radius", "found", "at"] "blurred_rows" (defScope s_blurred_rows) f cdv B outer s H E).nox (defBody s_blurred_rows) (t_blurred_rows K A) := by
  exact (pss_cons (ps_set (i := 3) sc_blurred_rows.nd rfl (Or.inl rfl) (pe_lst pa_nil)) (pss_cons (ps_for PassesOwn.never rfl (pi_range3 (by rfl) T.bRange (pa_cons pe_int (pa_cons (pe_callB call_len_seq (by rfl) T.bLen PySem.boot_len (pa_cons (pv 0) pa_nil)) (pa_cons (pv 1) pa_nil)))) (pg_name (i := 4) sc_blurred_rows.nd rfl (Or.inl rfl)) (pss_one (ps_expr (pe_bm PySem.F.plainAttrs_list PySem.F.slot_list_extend PySem.F.type_list_extend mt_extend (pv 3) (pa_cons (pe_cF h_blurred_row (hr.mono (by decide)) pass0 (pa_cons (pe_slice sl_list (pv 0) (po_some (pv 4)) (po_some (pe_op op_add (pv 4) (pv 1)))) (pa_cons (pv 2) pa_nil))) pa_nil))))) (pss_one (ps_ret (pv 3)))))
abbrev s_blurred : Stmt := topS 24
theorem sc_blurred : FnScope ["size", "channel", "across", "down", "found", "columns"] ["size", "channel", "across", "down"] (defScope s_blurred) := ⟨rfl, rfl, rfl, by decide +kernel, rfl, by decide +kernel, by decide +kernel⟩
theorem has_blurred (T : Txt K mg A) (h_blurred_rows : HvF P w K mg base CX0 2 "blurred_rows" ["channel", "width", "radius"] (sp_blurred_rows K A)) (h_turned_over : HvF P w K mg base CX0 1 "turned_over" ["channel", "width", "height"] (sp_turned_over K A)) {f : Addr} {cdv : Value} {B : Around} {outer : List Env} {s : Shared} {H : Hp} {E : XK} (hr : Room 2 (B.deeper (envOfC "blurred" (defScope s_blurred) s.heap.objs.size f cdv))) :
    PSs (cxOf CX0 P w K mg base ["size", "channel", "across", "down", "found", "columns"] "blurred" (defScope s_blurred) f cdv B outer s H E).nox (defBody s_blurred) (t_blurred K A) := by
  exact (pss_cons (ps_set (i := 4) sc_blurred.nd rfl (Or.inl rfl) (pe_cF h_blurred_rows (hr.mono (by decide)) pass0 (pa_cons (pv 1) (pa_cons (pe_fld (pv 0) rfl) (pa_cons (pv 2) pa_nil))))) (pss_cons (ps_set (i := 5) sc_blurred.nd rfl (Or.inl rfl) (pe_cF h_blurred_rows (hr.mono (by decide)) pass0 (pa_cons (pe_cF h_turned_over (hr.mono (by decide)) pass0 (pa_cons (pv 4) (pa_cons (pe_fld (pv 0) rfl) (pa_cons (pe_fld (pv 0) rfl) pa_nil)))) (pa_cons (pe_fld (pv 0) rfl) (pa_cons (pv 3) pa_nil))))) (pss_one (ps_ret (pe_cF h_turned_over (hr.mono (by decide)) pass0 (pa_cons (pv 5) (pa_cons (pe_fld (pv 0) rfl) (pa_cons (pe_fld (pv 0) rfl) pa_nil))))))))
abbrev s_blur : Stmt := topS 25
theorem sc_blur : FnScope ["size", "picture", "across", "down", "many", "found", "turn", "channel"] ["size", "picture", "across", "down", "many"] (defScope s_blur) := ⟨rfl, rfl, rfl, by decide +kernel, rfl, by decide +kernel, by decide +kernel⟩
theorem has_blur (T : Txt K mg A) (h_blurred : HvF P w K mg base CX0 3 "blurred" ["size", "channel", "across", "down"] (sp_blurred K A)) {f : Addr} {cdv : Value} {B : Around} {outer : List Env} {s : Shared} {H : Hp} {E : XK} (hr : Room 3 (B.deeper (envOfC "blur" (defScope s_blur) s.heap.objs.size f cdv))) :
    PSs (cxOf CX0 P w K mg base ["size", "picture", "across", "down", "many", "found", "turn", "channel"] "blur" (defScope s_blur) f cdv B outer s H E).nox (defBody s_blur) (t_blur K A) := by
  exact (pss_cons (ps_set (i := 5) sc_blur.nd rfl (Or.inl rfl) (pv 1)) (pss_cons (ps_for PassesOwn.never rfl (pi_range1 (by rfl) T.bRange (pa_cons (pv 4) pa_nil)) (pg_name (i := 6) sc_blur.nd rfl (Or.inl rfl)) (pss_one (ps_setLc (i := 5) (own := [("channel", 7)]) (g := (gName 7)) (tt := tYes) rfl sc_blur.nd rfl rfl (sw_true rfl rfl rfl (by decide +kernel)) (pi_list (pv 5)) (blkOk_by (N := ["size", "picture", "across", "down", "many", "found", "turn", "channel"]) (sc := defScope s_blur) (by decide +kernel)) (fun _ _ _ _ _ => (pg_name (i := 7) sc_blur.nd rfl (Or.inl rfl))) (fun _ _ _ _ _ => pts_nil) (fun _ _ _ _ _ => (pe_cF h_blurred (hr.mono (by decide)) pass0 (pa_cons (pv 0) (pa_cons (pv 7) (pa_cons (pv 2) (pa_cons (pv 3) pa_nil))))))))) (pss_one (ps_ret (pv 5)))))
abbrev s_turn : Stmt := topS 27
theorem sc_turn : FnScope ["size", "picture", "c", "s", "places", "x", "y", "u", "v"] ["size", "picture", "c", "s"] (defScope s_turn) := ⟨rfl, rfl, rfl, by decide +kernel, rfl, by decide +kernel, by decide +kernel⟩
theorem has_turn (T : Txt K mg A) (h_Size_spots : HvM P w K mg base CX0 1 A.CS "spots" ["self"] (sp_Size_spots K A)) (h_sampled : HvF P w K mg base CX0 3 "sampled" ["size", "picture", "places"] (sp_sampled K A)) {f : Addr} {cdv : Value} {B : Around} {outer : List Env} {s : Shared} {H : Hp} {E : XK} (hr : Room 3 (B.deeper (envOfC "turn" (defScope s_turn) s.heap.objs.size f cdv))) :
    PSs (cxOf CX0 P w K mg base ["size", "picture", "c", "s", "places", "x", "y", "u", "v"] "turn" (defScope s_turn) f cdv B outer s H E).nox (defBody s_turn) (t_turn K A) := by
  exact (pss_cons (ps_set (i := 4) sc_turn.nd rfl (Or.inl rfl) (pe_lst pa_nil)) (pss_cons (ps_for PassesOwn.never rfl (pi_list (pe_cM0 T.clSize h_Size_spots (hr.mono (by decide)) pass0 (pv 0))) (pg_tup rfl (pgs_cons (pg_name (i := 5) sc_turn.nd rfl (Or.inl rfl)) (pgs_cons (pg_name (i := 6) sc_turn.nd rfl (Or.inl rfl)) pgs_nil))) (pss_cons (ps_par (i := 7) (j := 8) rfl sc_turn.nd rfl rfl (by decide) rfl rfl (pa_cons (pe_op op_sub (pv 5) (pe_op op_fdiv (pe_fld (pv 0) rfl) pe_int)) (pa_cons (pe_op op_sub (pv 6) (pe_op op_fdiv (pe_fld (pv 0) rfl) pe_int)) pa_nil)) (by rfl)) (pss_one (ps_expr (pe_bm PySem.F.plainAttrs_list PySem.F.slot_list_append PySem.F.type_list_append mt_append (pv 4) (pa_cons (pe_tup (pa_cons (pe_op op_add (pe_op op_fdiv (pe_op op_sub (pe_op op_mul (pv 7) (pv 2)) (pe_op op_mul (pv 8) (pv 3))) pe_int) (pe_op op_mul pe_int (pe_fld (pv 0) rfl))) (pa_cons (pe_op op_add (pe_op op_fdiv (pe_op op_add (pe_op op_mul (pv 7) (pv 3)) (pe_op op_mul (pv 8) (pv 2))) pe_int) (pe_op op_mul pe_int (pe_fld (pv 0) rfl))) pa_nil))) pa_nil)))))) (pss_one (ps_ret (pe_cF h_sampled (hr.mono (by decide)) pass0 (pa_cons (pv 0) (pa_cons (pv 1) (pa_cons (pv 4) pa_nil))))))))
abbrev s_sampled : Stmt := topS 29
theorem sc_sampled : FnScope ["size", "picture", "places", "channel", "x", "y"] ["size", "picture", "places"] (defScope s_sampled) := ⟨rfl, rfl, rfl, by decide +kernel, rfl, by decide +kernel, by decide +kernel⟩
theorem has_sampled (T : Txt K mg A) (h_Size_sample : HvM P w K mg base CX0 2 A.CS "sample" ["self", "channel", "x", "y"] (sp_Size_sample K A)) {f : Addr} {cdv : Value} {B : Around} {outer : List Env} {s : Shared} {H : Hp} {E : XK} (hr : Room 2 (B.deeper (envOfC "sampled" (defScope s_sampled) s.heap.objs.size f cdv))) :
    PSs (cxOf CX0 P w K mg base ["size", "picture", "places", "channel", "x", "y"] "sampled" (defScope s_sampled) f cdv B outer s H E).nox (defBody s_sampled) (t_sampled K A) := by
  exact (pss_one (ps_ret (pe_lc (own := [("channel", 3)]) (g := (gName 3)) (tt := tYes) rfl sc_sampled.nd (pi_list (pv 1)) (blkOk_by (N := ["size", "picture", "places", "channel", "x", "y"]) (sc := defScope s_sampled) (by decide +kernel)) (fun _ _ _ _ _ => (pg_name (i := 3) sc_sampled.nd rfl (Or.inr rfl))) (fun _ _ _ _ _ => pts_nil) (fun _ _ _ _ _ => (pe_lc (own := [("x", 4), ("y", 5)]) (g := (gTup K 2 (gCons (gName 4) (gCons (gName 5) gNil)))) (tt := tYes) rfl sc_sampled.nd (pi_list (pv 2)) (blkOk_by (N := ["size", "picture", "places", "channel", "x", "y"]) (sc := relS _ (defScope s_sampled)) (by decide +kernel)) (fun _ _ _ _ _ => (pg_tup rfl (pgs_cons (pg_name (i := 4) sc_sampled.nd rfl (Or.inl rfl)) (pgs_cons (pg_name (i := 5) sc_sampled.nd rfl (Or.inl rfl)) pgs_nil)))) (fun _ _ _ _ _ => pts_nil) (fun _ _ _ _ _ => (pe_cM T.clSize h_Size_sample (hr.mono (by decide)) pass0 (pv 0) (pa_cons (pv 3) (pa_cons (pv 4) (pa_cons (pv 5) pa_nil))))))))))
abbrev s_bend : Stmt := topS 30
theorem sc_bend : FnScope ["size", "picture", "top", "many", "places", "spot", "a", "b", "across", "down"] ["size", "picture", "top", "many"] (defScope s_bend) := ⟨rfl, rfl, rfl, by decide +kernel, rfl, by decide +kernel, by decide +kernel⟩
theorem has_bend (T : Txt K mg A) (h_Size_spots : HvM P w K mg base CX0 1 A.CS "spots" ["self"] (sp_Size_spots K A)) (h_sampled : HvF P w K mg base CX0 3 "sampled" ["size", "picture", "places"] (sp_sampled K A)) {f : Addr} {cdv : Value} {B : Around} {outer : List Env} {s : Shared} {H : Hp} {E : XK} (hr : Room 3 (B.deeper (envOfC "bend" (defScope s_bend) s.heap.objs.size f cdv))) :
    PSs (cxOf CX0 P w K mg base ["size", "picture", "top", "many", "places", "spot", "a", "b", "across", "down"] "bend" (defScope s_bend) f cdv B outer s H E).nox (defBody s_bend) (t_bend K A) := by
  exact (pss_cons (ps_set (i := 4) sc_bend.nd rfl (Or.inl rfl) (pe_lst pa_nil)) (pss_cons (ps_for PassesOwn.never rfl (pi_zip3 (by rfl) T.bZip (pa_cons (pe_cM0 T.clSize h_Size_spots (hr.mono (by decide)) pass0 (pv 0)) (pa_cons (pe_ix ix_list (pv 2) pe_int (fun _ _ => rfl)) (pa_cons (pe_ix ix_list (pv 2) pe_int (fun _ _ => rfl)) pa_nil)))) (pg_tup rfl (pgs_cons (pg_name (i := 5) sc_bend.nd rfl (Or.inl rfl)) (pgs_cons (pg_name (i := 6) sc_bend.nd rfl (Or.inl rfl)) (pgs_cons (pg_name (i := 7) sc_bend.nd rfl (Or.inl rfl)) pgs_nil)))) (pss_cons (ps_par (i := 8) (j := 9) rfl sc_bend.nd rfl rfl (by decide) rfl rfl (pa_cons (pe_op op_fdiv (pe_op op_mul (pe_op op_sub (pv 6) (pe_gi T.cMIDDLE)) (pv 3)) (pe_gi T.cMIDDLE)) (pa_cons (pe_op op_fdiv (pe_op op_mul (pe_op op_sub (pv 7) (pe_gi T.cMIDDLE)) (pv 3)) (pe_gi T.cMIDDLE)) pa_nil)) (by rfl)) (pss_one (ps_expr (pe_bm PySem.F.plainAttrs_list PySem.F.slot_list_append PySem.F.type_list_append mt_append (pv 4) (pa_cons (pe_tup (pa_cons (pe_op op_add (pe_op op_mul pe_int (pe_ix ix_tup (pv 5) pe_int (fun _ _ => rfl))) (pv 8)) (pa_cons (pe_op op_add (pe_op op_mul pe_int (pe_ix ix_tup (pv 5) pe_int (fun _ _ => rfl))) (pv 9)) pa_nil))) pa_nil)))))) (pss_one (ps_ret (pe_cF h_sampled (hr.mono (by decide)) pass0 (pa_cons (pv 0) (pa_cons (pv 1) (pa_cons (pv 4) pa_nil))))))))
abbrev s_levelled : Stmt := topS 32
theorem sc_levelled : FnScope ["value", "low", "high"] ["value", "low", "high"] (defScope s_levelled) := ⟨rfl, rfl, rfl, by decide +kernel, rfl, by decide +kernel, by decide +kernel⟩
theorem has_levelled (T : Txt K mg A) (h_nearest : HvF P w K mg base CX0 1 "nearest" ["top", "bottom"] (sp_nearest K A)) {f : Addr} {cdv : Value} {B : Around} {outer : List Env} {s : Shared} {H : Hp} {E : XK} (hr : Room 1 (B.deeper (envOfC "levelled" (defScope s_levelled) s.heap.objs.size f cdv))) :
    PSs (cxOf CX0 P w K mg base ["value", "low", "high"] "levelled" (defScope s_levelled) f cdv B outer s H E).nox (defBody s_levelled) (t_levelled K A) := by
  exact (pss_cons (ps_if (pt_cmpR op_le (pv 0) (pv 1) (nomark _)) (pss_one (ps_ret pe_int)) pss_nil) (pss_one (ps_ret (pe_ifExp (pt_cmpR op_ge (pv 0) (pv 2) (nomark _)) (pe_gi T.cMOST) (pe_cF h_nearest (hr.mono (by decide)) pass0 (pa_cons (pe_op op_mul (pe_op op_sub (pv 0) (pv 1)) (pe_gi T.cMOST)) (pa_cons (pe_op op_sub (pv 2) (pv 1)) pa_nil)))))))
abbrev s_levels : Stmt := topS 33
theorem sc_levels : FnScope ["picture", "low", "high", "channel", "value"] ["picture", "low", "high"] (defScope s_levels) := ⟨rfl, rfl, rfl, by decide +kernel, rfl, by decide +kernel, by decide +kernel⟩
theorem has_levels (T : Txt K mg A) (h_levelled : HvF P w K mg base CX0 2 "levelled" ["value", "low", "high"] (sp_levelled K A)) {f : Addr} {cdv : Value} {B : Around} {outer : List Env} {s : Shared} {H : Hp} {E : XK} (hr : Room 2 (B.deeper (envOfC "levels" (defScope s_levels) s.heap.objs.size f cdv))) :
    PSs (cxOf CX0 P w K mg base ["picture", "low", "high", "channel", "value"] "levels" (defScope s_levels) f cdv B outer s H E).nox (defBody s_levels) (t_levels K A) := by
  exact (pss_one (ps_ret (pe_op op_cat (pe_lc (own := [("channel", 3)]) (g := (gName 3)) (tt := tYes) rfl sc_levels.nd (pi_list (pe_slice sl_list (pv 0) po_none (po_some (pe_gi T.cCOLOURS)))) (blkOk_by (N := ["picture", "low", "high", "channel", "value"]) (sc := defScope s_levels) (by decide +kernel)) (fun _ _ _ _ _ => (pg_name (i := 3) sc_levels.nd rfl (Or.inl rfl))) (fun _ _ _ _ _ => pts_nil) (fun _ _ _ _ _ => (pe_lc (own := [("value", 4)]) (g := (gName 4)) (tt := tYes) rfl sc_levels.nd (pi_list (pv 3)) (blkOk_by (N := ["picture", "low", "high", "channel", "value"]) (sc := relS _ (defScope s_levels)) (by decide +kernel)) (fun _ _ _ _ _ => (pg_name (i := 4) sc_levels.nd rfl (Or.inl rfl))) (fun _ _ _ _ _ => pts_nil) (fun _ _ _ _ _ => (pe_cF h_levelled (hr.mono (by decide)) pass0 (pa_cons (pv 4) (pa_cons (pv 1) (pa_cons (pv 2) pa_nil)))))))) (pe_slice sl_list (pv 0) (po_some (pe_gi T.cCOLOURS)) po_none))))
abbrev s_coloured : Stmt := topS 35
theorem sc_coloured : FnScope ["picture", "row", "found", "r", "g", "b"] ["picture", "row"] (defScope s_coloured) := ⟨rfl, rfl, rfl, by decide +kernel, rfl, by decide +kernel, by decide +kernel⟩
theorem has_coloured (T : Txt K mg A) (h_clamped : HvF P w K mg base CX0 1 "clamped" ["value"] (sp_clamped K A)) {f : Addr} {cdv : Value} {B : Around} {outer : List Env} {s : Shared} {H : Hp} {E : XK} (hr : Room 1 (B.deeper (envOfC "coloured" (defScope s_coloured) s.heap.objs.size f cdv))) :
    PSs (cxOf CX0 P w K mg base ["picture", "row", "found", "r", "g", "b"] "coloured" (defScope s_coloured) f cdv B outer s H E).nox (defBody s_coloured) (t_coloured K A) := by
  exact (pss_cons (ps_set (i := 2) sc_coloured.nd rfl (Or.inl rfl) (pe_lst pa_nil)) (pss_cons (ps_for PassesOwn.never rfl (pi_zip3 (by rfl) T.bZip (pa_cons (pe_ix ix_list (pv 0) pe_int (fun _ _ => rfl)) (pa_cons (pe_ix ix_list (pv 0) pe_int (fun _ _ => rfl)) (pa_cons (pe_ix ix_list (pv 0) pe_int (fun _ _ => rfl)) pa_nil)))) (pg_tup rfl (pgs_cons (pg_name (i := 3) sc_coloured.nd rfl (Or.inl rfl)) (pgs_cons (pg_name (i := 4) sc_coloured.nd rfl (Or.inl rfl)) (pgs_cons (pg_name (i := 5) sc_coloured.nd rfl (Or.inl rfl)) pgs_nil)))) (pss_one (ps_expr (pe_bm PySem.F.plainAttrs_list PySem.F.slot_list_append PySem.F.type_list_append mt_append (pv 2) (pa_cons (pe_cF h_clamped (hr.mono (by decide)) pass0 (pa_cons (pe_op op_fdiv (pe_op op_add (pe_op op_add (pe_op op_add (pe_op op_mul (pe_ix ix_list (pv 1) pe_int (fun _ _ => rfl)) (pv 3)) (pe_op op_mul (pe_ix ix_list (pv 1) pe_int (fun _ _ => rfl)) (pv 4))) (pe_op op_mul (pe_ix ix_list (pv 1) pe_int (fun _ _ => rfl)) (pv 5))) (pe_op op_mul (pe_gi T.cFULL) (pe_ix ix_list (pv 1) pe_int (fun _ _ => rfl)))) pe_int) pa_nil)) pa_nil))))) (pss_one (ps_ret (pv 2)))))
abbrev s_recoloured : Stmt := topS 36
theorem sc_recoloured : FnScope ["picture", "matrix", "rows", "k", "row"] ["picture", "matrix"] (defScope s_recoloured) := ⟨rfl, rfl, rfl, by decide +kernel, rfl, by decide +kernel, by decide +kernel⟩
theorem has_recoloured (T : Txt K mg A) (h_coloured : HvF P w K mg base CX0 2 "coloured" ["picture", "row"] (sp_coloured K A)) {f : Addr} {cdv : Value} {B : Around} {outer : List Env} {s : Shared} {H : Hp} {E : XK} (hr : Room 2 (B.deeper (envOfC "recoloured" (defScope s_recoloured) s.heap.objs.size f cdv))) :
    PSs (cxOf CX0 P w K mg base ["picture", "matrix", "rows", "k", "row"] "recoloured" (defScope s_recoloured) f cdv B outer s H E).nox (defBody s_recoloured) (t_recoloured K A) := by
  exact (pss_cons (ps_setLc (i := 2) (own := [("k", 3)]) (g := (gName 3)) (tt := tYes) rfl sc_recoloured.nd rfl rfl (sw_true rfl rfl rfl (by decide +kernel)) (pi_range1 (by rfl) T.bRange (pa_cons (pe_gi T.cCOLOURS) pa_nil)) (blkOk_by (N := ["picture", "matrix", "rows", "k", "row"]) (sc := defScope s_recoloured) (by decide +kernel)) (fun _ _ _ _ _ => (pg_name (i := 3) sc_recoloured.nd rfl (Or.inl rfl))) (fun _ _ _ _ _ => pts_nil) (fun _ _ _ _ _ => (pe_slice sl_list (pv 1) (po_some (pe_op op_mul pe_int (pv 3))) (po_some (pe_op op_add (pe_op op_mul pe_int (pv 3)) pe_int))))) (pss_one (ps_ret (pe_op op_cat (pe_lc (own := [("row", 4)]) (g := (gName 4)) (tt := tYes) rfl sc_recoloured.nd (pi_list (pv 2)) (blkOk_by (N := ["picture", "matrix", "rows", "k", "row"]) (sc := defScope s_recoloured) (by decide +kernel)) (fun _ _ _ _ _ => (pg_name (i := 4) sc_recoloured.nd rfl (Or.inl rfl))) (fun _ _ _ _ _ => pts_nil) (fun _ _ _ _ _ => (pe_cF h_coloured (hr.mono (by decide)) pass0 (pa_cons (pv 0) (pa_cons (pv 4) pa_nil))))) (pe_slice sl_list (pv 0) (po_some (pe_gi T.cCOLOURS)) po_none)))))
abbrev s_light : Stmt := topS 37
theorem sc_light : FnScope ["size", "picture", "lx", "ly", "many", "first", "found", "x", "y", "dx", "dy"] ["size", "picture", "lx", "ly", "many"] (defScope s_light) := ⟨rfl, rfl, rfl, by decide +kernel, rfl, by decide +kernel, by decide +kernel⟩
theorem has_light (T : Txt K mg A) (h_Size_spots : HvM P w K mg base CX0 1 A.CS "spots" ["self"] (sp_Size_spots K A)) (h_Size_value : HvM P w K mg base CX0 1 A.CS "value" ["self", "channel", "x", "y"] (sp_Size_value K A)) (h_clamped : HvF P w K mg base CX0 1 "clamped" ["value"] (sp_clamped K A)) {f : Addr} {cdv : Value} {B : Around} {outer : List Env} {s : Shared} {H : Hp} {E : XK} (hr : Room 1 (B.deeper (envOfC "light" (defScope s_light) s.heap.objs.size f cdv))) :
    PSs (cxOf CX0 P w K mg base ["size", "picture", "lx", "ly", "many", "first", "found", "x", "y", "dx", "dy"] "light" (defScope s_light) f cdv B outer s H E).nox (defBody s_light) (t_light K A) := by
  exact (pss_cons (ps_par (i := 5) (j := 6) rfl sc_light.nd rfl rfl (by decide) rfl rfl (pa_cons (pe_ix ix_list (pv 1) pe_int (fun _ _ => rfl)) (pa_cons (pe_lst pa_nil) pa_nil)) (by rfl)) (pss_cons (ps_for PassesOwn.never rfl (pi_list (pe_cM0 T.clSize h_Size_spots (hr.mono (by decide)) pass0 (pv 0))) (pg_tup rfl (pgs_cons (pg_name (i := 7) sc_light.nd rfl (Or.inl rfl)) (pgs_cons (pg_name (i := 8) sc_light.nd rfl (Or.inl rfl)) pgs_nil))) (pss_cons (ps_set (i := 9) sc_light.nd rfl (Or.inl rfl) (pe_op op_sub (pe_cM T.clSize h_Size_value (hr.mono (by decide)) pass0 (pv 0) (pa_cons (pv 5) (pa_cons (pe_op op_add (pv 7) pe_int) (pa_cons (pv 8) pa_nil)))) (pe_cM T.clSize h_Size_value (hr.mono (by decide)) pass0 (pv 0) (pa_cons (pv 5) (pa_cons (pe_op op_sub (pv 7) pe_int) (pa_cons (pv 8) pa_nil)))))) (pss_cons (ps_set (i := 10) sc_light.nd rfl (Or.inl rfl) (pe_op op_sub (pe_cM T.clSize h_Size_value (hr.mono (by decide)) pass0 (pv 0) (pa_cons (pv 5) (pa_cons (pv 7) (pa_cons (pe_op op_add (pv 8) pe_int) pa_nil)))) (pe_cM T.clSize h_Size_value (hr.mono (by decide)) pass0 (pv 0) (pa_cons (pv 5) (pa_cons (pv 7) (pa_cons (pe_op op_sub (pv 8) pe_int) pa_nil)))))) (pss_one (ps_expr (pe_bm PySem.F.plainAttrs_list PySem.F.slot_list_append PySem.F.type_list_append mt_append (pv 6) (pa_cons (pe_cF h_clamped (hr.mono (by decide)) pass0 (pa_cons (pe_op op_add (pe_gi T.cMIDDLE) (pe_op op_fdiv (pe_op op_mul (pe_op op_add (pe_op op_mul (pv 9) (pv 2)) (pe_op op_mul (pv 10) (pv 3))) (pv 4)) (pe_gi T.cFULL))) pa_nil)) pa_nil))))))) (pss_one (ps_ret (pe_op op_cat (pe_lst (pa_cons (pv 6) (pa_cons (pv 6) (pa_cons (pv 6) pa_nil)))) (pe_slice sl_list (pv 1) (po_some (pe_gi T.cCOLOURS)) po_none))))))
abbrev s_joined_value : Stmt := topS 40
theorem sc_joined_value : FnScope ["mode", "b", "t", "k"] ["mode", "b", "t", "k"] (defScope s_joined_value) := ⟨rfl, rfl, rfl, by decide +kernel, rfl, by decide +kernel, by decide +kernel⟩
theorem has_joined_value (T : Txt K mg A) (h_nearest : HvF P w K mg base CX0 1 "nearest" ["top", "bottom"] (sp_nearest K A)) {f : Addr} {cdv : Value} {B : Around} {outer : List Env} {s : Shared} {H : Hp} {E : XK} (hr : Room 1 (B.deeper (envOfC "joined_value" (defScope s_joined_value) s.heap.objs.size f cdv))) :
    PSs (cxOf CX0 P w K mg base ["mode", "b", "t", "k"] "joined_value" (defScope s_joined_value) f cdv B outer s H E).nox (defBody s_joined_value) (t_joined_value K A) := by
  exact (pss_cons (ps_if (pt_cmpR op_eq (pv 0) pe_int (nomark _)) (pss_one (ps_ret (pe_callB (call_min2 rfl) (by rfl) T.bMin (by decide +kernel) (pa_cons (pe_op op_add (pv 1) (pv 2)) (pa_cons (pe_gi T.cMOST) pa_nil))))) pss_nil) (pss_cons (ps_if (pt_cmpR op_eq (pv 0) pe_int (nomark _)) (pss_one (ps_ret (pe_callB (call_max2 rfl) (by rfl) T.bMax (by decide +kernel) (pa_cons (pe_op op_sub (pv 1) (pv 2)) (pa_cons pe_int pa_nil))))) pss_nil) (pss_cons (ps_if (pt_cmpR op_eq (pv 0) pe_int (nomark _)) (pss_one (ps_ret (pe_cF h_nearest (hr.mono (by decide)) pass0 (pa_cons (pe_op op_mul (pv 1) (pv 2)) (pa_cons (pe_gi T.cMOST) pa_nil))))) pss_nil) (pss_cons (ps_if (pt_cmpR op_eq (pv 0) pe_int (nomark _)) (pss_one (ps_ret (pe_callB (call_max2 rfl) (by rfl) T.bMax (by decide +kernel) (pa_cons (pv 1) (pa_cons (pv 2) pa_nil))))) pss_nil) (pss_cons (ps_if (pt_cmpR op_eq (pv 0) pe_int (nomark _)) (pss_one (ps_ret (pe_callB (call_min2 rfl) (by rfl) T.bMin (by decide +kernel) (pa_cons (pv 1) (pa_cons (pv 2) pa_nil))))) pss_nil) (pss_cons (ps_if (pt_cmpR op_eq (pv 0) pe_int (nomark _)) (pss_one (ps_ret (pe_op op_fdiv (pe_op op_add (pe_op op_add (pv 1) (pv 2)) pe_int) pe_int))) pss_nil) (pss_one (ps_ret (pe_ifExp (pt_cmpR op_eq (pv 0) pe_int (nomark _)) (pe_cF h_nearest (hr.mono (by decide)) pass0 (pa_cons (pe_op op_add (pe_op op_mul (pv 1) (pe_op op_sub (pe_gi T.cMOST) (pv 3))) (pe_op op_mul (pv 2) (pv 3))) (pa_cons (pe_gi T.cMOST) pa_nil))) (pe_callB call_abs (by rfl) T.bAbs (by decide +kernel) (pa_cons (pe_op op_sub (pv 1) (pv 2)) pa_nil)))))))))))
abbrev s_joined : Stmt := topS 41
theorem sc_joined : FnScope ["mode", "below", "top", "found", "one", "other", "b", "t", "k"] ["mode", "below", "top"] (defScope s_joined) := ⟨rfl, rfl, rfl, by decide +kernel, rfl, by decide +kernel, by decide +kernel⟩
theorem has_joined (T : Txt K mg A) (h_joined_value : HvF P w K mg base CX0 2 "joined_value" ["mode", "b", "t", "k"] (sp_joined_value K A)) {f : Addr} {cdv : Value} {B : Around} {outer : List Env} {s : Shared} {H : Hp} {E : XK} (hr : Room 2 (B.deeper (envOfC "joined" (defScope s_joined) s.heap.objs.size f cdv))) :
    PSs (cxOf CX0 P w K mg base ["mode", "below", "top", "found", "one", "other", "b", "t", "k"] "joined" (defScope s_joined) f cdv B outer s H E).nox (defBody s_joined) (t_joined K A) := by
  exact (pss_cons (ps_set (i := 3) sc_joined.nd rfl (Or.inl rfl) (pe_lst pa_nil)) (pss_cons (ps_for PassesOwn.never rfl (pi_zip (by rfl) T.bZip (pa_cons (pv 1) (pa_cons (pv 2) pa_nil))) (pg_tup rfl (pgs_cons (pg_name (i := 4) sc_joined.nd rfl (Or.inl rfl)) (pgs_cons (pg_name (i := 5) sc_joined.nd rfl (Or.inl rfl)) pgs_nil))) (pss_one (ps_expr (pe_bm PySem.F.plainAttrs_list PySem.F.slot_list_append PySem.F.type_list_append mt_append (pv 3) (pa_cons (pe_lc (own := [("b", 6), ("t", 7), ("k", 8)]) (g := (gTup K 3 (gCons (gName 6) (gCons (gName 7) (gCons (gName 8) gNil))))) (tt := tYes) rfl sc_joined.nd (pi_zip3 (by rfl) T.bZip (pa_cons (pv 4) (pa_cons (pv 5) (pa_cons (pe_ix ix_list (pv 2) pe_int (fun _ _ => rfl)) pa_nil)))) (blkOk_by (N := ["mode", "below", "top", "found", "one", "other", "b", "t", "k"]) (sc := defScope s_joined) (by decide +kernel)) (fun _ _ _ _ _ => (pg_tup rfl (pgs_cons (pg_name (i := 6) sc_joined.nd rfl (Or.inl rfl)) (pgs_cons (pg_name (i := 7) sc_joined.nd rfl (Or.inl rfl)) (pgs_cons (pg_name (i := 8) sc_joined.nd rfl (Or.inl rfl)) pgs_nil))))) (fun _ _ _ _ _ => pts_nil) (fun _ _ _ _ _ => (pe_cF h_joined_value (hr.mono (by decide)) pass0 (pa_cons (pv 0) (pa_cons (pv 6) (pa_cons (pv 7) (pa_cons (pv 8) pa_nil))))))) pa_nil))))) (pss_one (ps_ret (pv 3)))))
abbrev s_mixed : Stmt := topS 45
theorem sc_mixed : FnScope ["seed", "a", "b", "layer", "n", "m"] ["seed", "a", "b", "layer"] (defScope s_mixed) := ⟨rfl, rfl, rfl, by decide +kernel, rfl, by decide +kernel, by decide +kernel⟩
theorem has_mixed (T : Txt K mg A)  {f : Addr} {cdv : Value} {B : Around} {outer : List Env} {s : Shared} {H : Hp} {E : XK} (hr : Room 0 (B.deeper (envOfC "mixed" (defScope s_mixed) s.heap.objs.size f cdv))) :
    PSs (cxOf CX0 P w K mg base ["seed", "a", "b", "layer", "n", "m"] "mixed" (defScope s_mixed) f cdv B outer s H E).nox (defBody s_mixed) (t_mixed K A) := by
  exact (pss_cons (ps_set (i := 4) sc_mixed.nd rfl (Or.inl rfl) (pe_op op_mod (pe_op op_add (pe_op op_add (pe_op op_add (pe_op op_mul pe_int (pv 0)) (pe_op op_mul pe_int (pv 1))) (pe_op op_mul pe_int (pv 2))) (pe_op op_mul pe_int (pv 3))) (pe_gi T.cWORD))) (pss_cons (ps_set (i := 5) sc_mixed.nd rfl (Or.inl rfl) (pe_op op_mod (pe_op op_mul (pe_op op_xor (pv 4) (pe_op op_fdiv (pv 4) pe_int)) pe_int) (pe_gi T.cWORD))) (pss_one (ps_ret (pe_op op_fdiv (pe_op op_mod (pe_op op_mul (pe_op op_xor (pv 5) (pe_op op_fdiv (pv 5) pe_int)) pe_int) (pe_gi T.cWORD)) (pe_gi T.cHALF))))))
abbrev s_smooth : Stmt := topS 46
theorem sc_smooth : FnScope ["t"] ["t"] (defScope s_smooth) := ⟨rfl, rfl, rfl, by decide +kernel, rfl, by decide +kernel, by decide +kernel⟩
theorem has_smooth (T : Txt K mg A)  {f : Addr} {cdv : Value} {B : Around} {outer : List Env} {s : Shared} {H : Hp} {E : XK} (hr : Room 0 (B.deeper (envOfC "smooth" (defScope s_smooth) s.heap.objs.size f cdv))) :
    PSs (cxOf CX0 P w K mg base ["t"] "smooth" (defScope s_smooth) f cdv B outer s H E).nox (defBody s_smooth) (t_smooth K A) := by
  exact (pss_one (ps_ret (pe_op op_fdiv (pe_op op_mul (pe_op op_fdiv (pe_op op_mul (pv 0) (pv 0)) (pe_gi T.cHALF)) (pe_op op_sub pe_int (pe_op op_mul pe_int (pv 0)))) (pe_gi T.cHALF))))
abbrev s_between : Stmt := topS 47
theorem sc_between : FnScope ["one", "other", "u"] ["one", "other", "u"] (defScope s_between) := ⟨rfl, rfl, rfl, by decide +kernel, rfl, by decide +kernel, by decide +kernel⟩
theorem has_between (T : Txt K mg A)  {f : Addr} {cdv : Value} {B : Around} {outer : List Env} {s : Shared} {H : Hp} {E : XK} (hr : Room 0 (B.deeper (envOfC "between" (defScope s_between) s.heap.objs.size f cdv))) :
    PSs (cxOf CX0 P w K mg base ["one", "other", "u"] "between" (defScope s_between) f cdv B outer s H E).nox (defBody s_between) (t_between K A) := by
  exact (pss_one (ps_ret (pe_op op_fdiv (pe_op op_add (pe_op op_mul (pv 0) (pe_op op_sub (pe_gi T.cHALF) (pv 2))) (pe_op op_mul (pv 1) (pv 2))) (pe_gi T.cHALF))))
abbrev s_Layer___init__ : Stmt := inClass (topS 48) 0
theorem sc_Layer___init__ : FnScope ["self", "size", "seed", "layer", "side", "b", "a"] ["self", "size", "seed", "layer", "side"] (defScope s_Layer___init__) := ⟨rfl, rfl, rfl, by decide +kernel, rfl, by decide +kernel, by decide +kernel⟩
theorem has_Layer___init__ (T : Txt K mg A) (h_mixed : HvF P w K mg base CX0 1 "mixed" ["seed", "a", "b", "layer"] (sp_mixed K A)) {f : Addr} {cdv : Value} {B : Around} {outer : List Env} {s : Shared} {H : Hp} {E : XK} (hr : Room 1 (B.deeper (envOfC "Layer.__init__" (defScope s_Layer___init__) s.heap.objs.size f cdv))) :
    PSs (cxOf CX0 P w K mg base ["self", "size", "seed", "layer", "side", "b", "a"] "Layer.__init__" (defScope s_Layer___init__) f cdv B outer s H E).nox (defBody s_Layer___init__) (t_Layer___init__ K A) := by
  exact (pss_cons (ps_fld (pv 0) (pv 4) rfl) (pss_cons (ps_fld (pv 0) (pe_op op_fdiv (pe_fld (pv 1) rfl) (pv 4)) rfl) (pss_cons (ps_fld (pv 0) (pe_op op_fdiv (pe_fld (pv 1) rfl) (pv 4)) rfl) (pss_cons (ps_fld (pv 0) (pe_lst pa_nil) rfl) (pss_one (ps_for PassesOwn.never rfl (pi_range1 (by rfl) T.bRange (pa_cons (pe_fld (pv 0) rfl) pa_nil)) (pg_name (i := 5) sc_Layer___init__.nd rfl (Or.inr rfl)) (pss_one (ps_expr (pe_bm PySem.F.plainAttrs_list PySem.F.slot_list_append PySem.F.type_list_append mt_append (pe_fld (pv 0) rfl) (pa_cons (pe_lc (own := [("a", 6)]) (g := (gName 6)) (tt := tYes) rfl sc_Layer___init__.nd (pi_range1 (by rfl) T.bRange (pa_cons (pe_fld (pv 0) rfl) pa_nil)) (blkOk_by (N := ["self", "size", "seed", "layer", "side", "b", "a"]) (sc := defScope s_Layer___init__) (by decide +kernel)) (fun _ _ _ _ _ => (pg_name (i := 6) sc_Layer___init__.nd rfl (Or.inl rfl))) (fun _ _ _ _ _ => pts_nil) (fun _ _ _ _ _ => (pe_cF h_mixed (hr.mono (by decide)) pass0 (pa_cons (pv 2) (pa_cons (pv 6) (pa_cons (pv 5) (pa_cons (pv 3) pa_nil))))))) pa_nil))))))))))
abbrev s_Layer_corner : Stmt := inClass (topS 48) 1
theorem sc_Layer_corner : FnScope ["self", "i", "j"] ["self", "i", "j"] (defScope s_Layer_corner) := ⟨rfl, rfl, rfl, by decide +kernel, rfl, by decide +kernel, by decide +kernel⟩
theorem has_Layer_corner (T : Txt K mg A)  {f : Addr} {cdv : Value} {B : Around} {outer : List Env} {s : Shared} {H : Hp} {E : XK} (hr : Room 0 (B.deeper (envOfC "Layer.corner" (defScope s_Layer_corner) s.heap.objs.size f cdv))) :
    PSs (cxOf CX0 P w K mg base ["self", "i", "j"] "Layer.corner" (defScope s_Layer_corner) f cdv B outer s H E).nox (defBody s_Layer_corner) (t_Layer_corner K A) := by
  exact (pss_one (ps_ret (pe_ix ix_list (pe_ix ix_list (pe_fld (pv 0) rfl) (pe_op op_mod (pv 2) (pe_fld (pv 0) rfl)) (fun _ _ => rfl)) (pe_op op_mod (pv 1) (pe_fld (pv 0) rfl)) (fun _ _ => rfl))))
abbrev s_Layer_value : Stmt := inClass (topS 48) 2
theorem sc_Layer_value : FnScope ["self", "x", "y", "i", "j", "u", "v", "p", "q"] ["self", "x", "y"] (defScope s_Layer_value) := ⟨rfl, rfl, rfl, by decide +kernel, rfl, by decide +kernel, by decide +kernel⟩
theorem has_Layer_value (T : Txt K mg A) (h_smooth : HvF P w K mg base CX0 1 "smooth" ["t"] (sp_smooth K A)) (h_Layer_corner : HvM P w K mg base CX0 1 A.CL "corner" ["self", "i", "j"] (sp_Layer_corner K A)) (h_between : HvF P w K mg base CX0 1 "between" ["one", "other", "u"] (sp_between K A)) {f : Addr} {cdv : Value} {B : Around} {outer : List Env} {s : Shared} {H : Hp} {E : XK} (hr : Room 1 (B.deeper (envOfC "Layer.value" (defScope s_Layer_value) s.heap.objs.size f cdv))) :
    PSs (cxOf CX0 P w K mg base ["self", "x", "y", "i", "j", "u", "v", "p", "q"] "Layer.value" (defScope s_Layer_value) f cdv B outer s H E).nox (defBody s_Layer_value) (t_Layer_value K A) := by
  exact (pss_cons (ps_par (i := 3) (j := 4) rfl sc_Layer_value.nd rfl rfl (by decide) rfl rfl (pa_cons (pe_op op_fdiv (pv 1) (pe_fld (pv 0) rfl)) (pa_cons (pe_op op_fdiv (pv 2) (pe_fld (pv 0) rfl)) pa_nil)) (by rfl)) (pss_cons (ps_set (i := 5) sc_Layer_value.nd rfl (Or.inl rfl) (pe_cF h_smooth (hr.mono (by decide)) pass0 (pa_cons (pe_op op_fdiv (pe_op op_mul (pe_op op_mod (pv 1) (pe_fld (pv 0) rfl)) (pe_gi T.cHALF)) (pe_fld (pv 0) rfl)) pa_nil))) (pss_cons (ps_set (i := 6) sc_Layer_value.nd rfl (Or.inl rfl) (pe_cF h_smooth (hr.mono (by decide)) pass0 (pa_cons (pe_op op_fdiv (pe_op op_mul (pe_op op_mod (pv 2) (pe_fld (pv 0) rfl)) (pe_gi T.cHALF)) (pe_fld (pv 0) rfl)) pa_nil))) (pss_cons (ps_set (i := 7) sc_Layer_value.nd rfl (Or.inl rfl) (pe_cF h_between (hr.mono (by decide)) pass0 (pa_cons (pe_cM T.clLayer h_Layer_corner (hr.mono (by decide)) pass0 (pv 0) (pa_cons (pv 3) (pa_cons (pv 4) pa_nil))) (pa_cons (pe_cM T.clLayer h_Layer_corner (hr.mono (by decide)) pass0 (pv 0) (pa_cons (pe_op op_add (pv 3) pe_int) (pa_cons (pv 4) pa_nil))) (pa_cons (pv 5) pa_nil))))) (pss_cons (ps_set (i := 8) sc_Layer_value.nd rfl (Or.inl rfl) (pe_cF h_between (hr.mono (by decide)) pass0 (pa_cons (pe_cM T.clLayer h_Layer_corner (hr.mono (by decide)) pass0 (pv 0) (pa_cons (pv 3) (pa_cons (pe_op op_add (pv 4) pe_int) pa_nil))) (pa_cons (pe_cM T.clLayer h_Layer_corner (hr.mono (by decide)) pass0 (pv 0) (pa_cons (pe_op op_add (pv 3) pe_int) (pa_cons (pe_op op_add (pv 4) pe_int) pa_nil))) (pa_cons (pv 5) pa_nil))))) (pss_one (ps_ret (pe_cF h_between (hr.mono (by decide)) pass0 (pa_cons (pv 7) (pa_cons (pv 8) (pa_cons (pv 6) pa_nil)))))))))))
abbrev s_noise : Stmt := topS 49
theorem sc_noise : FnScope ["size", "seed", "cell", "layers", "fall", "found", "strength", "number", "layer", "values", "grey", "spot", "x", "y", "one", "other", "value"] ["size", "seed", "cell", "layers", "fall"] (defScope s_noise) := ⟨rfl, rfl, rfl, by decide +kernel, rfl, by decide +kernel, by decide +kernel⟩
theorem has_noise (T : Txt K mg A) (h_Size_spots : HvM P w K mg base CX0 1 A.CS "spots" ["self"] (sp_Size_spots K A)) (h_power_of_two : HvF P w K mg base CX0 1 "power_of_two" ["many"] (sp_power_of_two K A)) (h_Layer___init__ : HvC P w K mg base CX0 2 A.CL "Layer" ["self", "size", "seed", "layer", "side"] (sp_Layer___init__ K A)) (h_Layer_value : HvM P w K mg base CX0 2 A.CL "value" ["self", "x", "y"] (sp_Layer_value K A)) {f : Addr} {cdv : Value} {B : Around} {outer : List Env} {s : Shared} {H : Hp} {E : XK} (hr : Room 3 (B.deeper (envOfC "noise" (defScope s_noise) s.heap.objs.size f cdv))) :
    PSs (cxOf CX0 P w K mg base ["size", "seed", "cell", "layers", "fall", "found", "strength", "number", "layer", "values", "grey", "spot", "x", "y", "one", "other", "value"] "noise" (defScope s_noise) f cdv B outer s H E).nox (defBody s_noise) (t_noise K A) := by
  exact (pss_cons (ps_asg (pe_tup (pa_cons (pe_lc (own := [("spot", 11)]) (g := (gName 11)) (tt := tYes) rfl sc_noise.nd (pi_list (pe_cM0 T.clSize h_Size_spots (hr.mono (by decide)) pass0 (pv 0))) (blkOk_by (N := ["size", "seed", "cell", "layers", "fall", "found", "strength", "number", "layer", "values", "grey", "spot", "x", "y", "one", "other", "value"]) (sc := defScope s_noise) (by decide +kernel)) (fun _ _ _ _ _ => (pg_name (i := 11) sc_noise.nd rfl (Or.inl rfl))) (fun _ _ _ _ _ => pts_nil) (fun _ _ _ _ _ => pe_int)) (pa_cons (pe_gi T.cMOST) pa_nil))) (pg_tup rfl (pgs_cons (pg_name (i := 5) sc_noise.nd rfl (Or.inl rfl)) (pgs_cons (pg_name (i := 6) sc_noise.nd rfl (Or.inr rfl)) pgs_nil)))) (pss_cons (ps_for PassesOwn.never rfl (pi_range1 (by rfl) T.bRange (pa_cons (pe_callB (call_min2 rfl) (by rfl) T.bMin (by decide +kernel) (pa_cons (pv 3) (pa_cons (pe_op op_add (pv 2) pe_int) pa_nil))) pa_nil)) (pg_name (i := 7) sc_noise.nd rfl (Or.inl rfl)) (pss_cons (ps_set (i := 8) sc_noise.nd rfl (Or.inr rfl) (pe_cC h_Layer___init__ (hr.mono (by decide)) pass0 (pa_cons (pv 0) (pa_cons (pv 1) (pa_cons (pv 7) (pa_cons (pe_cF h_power_of_two (hr.mono (by decide)) pass0 (pa_cons (pe_op op_sub (pv 2) (pv 7)) pa_nil)) pa_nil)))))) (pss_cons (ps_setLc (i := 9) (own := [("x", 12), ("y", 13)]) (g := (gTup K 2 (gCons (gName 12) (gCons (gName 13) gNil)))) (tt := tYes) rfl sc_noise.nd rfl rfl (sw_true rfl rfl rfl (by decide +kernel)) (pi_list (pe_cM0 T.clSize h_Size_spots (hr.mono (by decide)) pass0 (pv 0))) (blkOk_by (N := ["size", "seed", "cell", "layers", "fall", "found", "strength", "number", "layer", "values", "grey", "spot", "x", "y", "one", "other", "value"]) (sc := defScope s_noise) (by decide +kernel)) (fun _ _ _ _ _ => (pg_tup rfl (pgs_cons (pg_name (i := 12) sc_noise.nd rfl (Or.inl rfl)) (pgs_cons (pg_name (i := 13) sc_noise.nd rfl (Or.inl rfl)) pgs_nil)))) (fun _ _ _ _ _ => pts_nil) (fun _ _ _ _ _ => (pe_op op_fdiv (pe_op op_mul (pe_cM T.clLayer h_Layer_value (hr.mono (by decide)) pass0 (pv 8) (pa_cons (pv 12) (pa_cons (pv 13) pa_nil))) (pv 6)) (pe_gi T.cHALF)))) (pss_cons (ps_setLc (i := 5) (own := [("one", 14), ("other", 15)]) (g := (gTup K 2 (gCons (gName 14) (gCons (gName 15) gNil)))) (tt := tYes) rfl sc_noise.nd rfl rfl (sw_true rfl rfl rfl (by decide +kernel)) (pi_zip (by rfl) T.bZip (pa_cons (pv 5) (pa_cons (pv 9) pa_nil))) (blkOk_by (N := ["size", "seed", "cell", "layers", "fall", "found", "strength", "number", "layer", "values", "grey", "spot", "x", "y", "one", "other", "value"]) (sc := defScope s_noise) (by decide +kernel)) (fun _ _ _ _ _ => (pg_tup rfl (pgs_cons (pg_name (i := 14) sc_noise.nd rfl (Or.inl rfl)) (pgs_cons (pg_name (i := 15) sc_noise.nd rfl (Or.inl rfl)) pgs_nil)))) (fun _ _ _ _ _ => pts_nil) (fun _ _ _ _ _ => (pe_op op_add (pv 14) (pv 15)))) (pss_one (ps_set (i := 6) sc_noise.nd rfl (Or.inr rfl) (pe_op op_fdiv (pe_op op_mul (pv 6) (pv 4)) (pe_gi T.cHALF)))))))) (pss_cons (ps_setLc (i := 10) (own := [("value", 16)]) (g := (gName 16)) (tt := tYes) rfl sc_noise.nd rfl rfl (sw_true rfl rfl rfl (by decide +kernel)) (pi_list (pv 5)) (blkOk_by (N := ["size", "seed", "cell", "layers", "fall", "found", "strength", "number", "layer", "values", "grey", "spot", "x", "y", "one", "other", "value"]) (sc := defScope s_noise) (by decide +kernel)) (fun _ _ _ _ _ => (pg_name (i := 16) sc_noise.nd rfl (Or.inl rfl))) (fun _ _ _ _ _ => pts_nil) (fun _ _ _ _ _ => (pe_callB (call_min2 rfl) (by rfl) T.bMin (by decide +kernel) (pa_cons (pv 16) (pa_cons (pe_gi T.cMOST) pa_nil))))) (pss_one (ps_ret (pe_lst (pa_cons (pv 10) (pa_cons (pv 10) (pa_cons (pv 10) (pa_cons (pe_lc (own := [("value", 16)]) (g := (gName 16)) (tt := tYes) rfl sc_noise.nd (pi_list (pv 10)) (blkOk_by (N := ["size", "seed", "cell", "layers", "fall", "found", "strength", "number", "layer", "values", "grey", "spot", "x", "y", "one", "other", "value"]) (sc := defScope s_noise) (by decide +kernel)) (fun _ _ _ _ _ => (pg_name (i := 16) sc_noise.nd rfl (Or.inl rfl))) (fun _ _ _ _ _ => pts_nil) (fun _ _ _ _ _ => (pe_gi T.cMOST))) pa_nil))))))))))
abbrev s_Refused___init__ : Stmt := inClass (topS 57) 0
theorem sc_Refused___init__ : FnScope ["self", "code"] ["self", "code"] (defScope s_Refused___init__) := ⟨rfl, rfl, rfl, by decide +kernel, rfl, by decide +kernel, by decide +kernel⟩
theorem has_Refused___init__ (T : Txt K mg A)  {f : Addr} {cdv : Value} {B : Around} {outer : List Env} {s : Shared} {H : Hp} {E : XK} (hr : Room 0 (B.deeper (envOfC "Refused.__init__" (defScope s_Refused___init__) s.heap.objs.size f cdv))) :
    PSs (cxOf CX0 P w K mg base ["self", "code"] "Refused.__init__" (defScope s_Refused___init__) f cdv B outer s H E).nox (defBody s_Refused___init__) (t_Refused___init__ K A) := by
  exact (pss_one (ps_ost (pv 0) (pv 1)))
abbrev s_need : Stmt := topS 58
theorem sc_need : FnScope ["is_right", "code"] ["is_right", "code"] (defScope s_need) := ⟨rfl, rfl, rfl, by decide +kernel, rfl, by decide +kernel, by decide +kernel⟩
theorem has_need (T : Txt K mg A) (h_Refused___init__ : HvR P w K mg base CX0 1 A.CR "Refused" ["self", "code"] (sp_Refused___init__ K A)) {f : Addr} {cdv : Value} {B : Around} {outer : List Env} {s : Shared} {H : Hp} {E : XK} (hr : Room 2 (B.deeper (envOfC "need" (defScope s_need) s.heap.objs.size f cdv))) :
    PSs (cxOf (L2.CX P w) P w K mg base ["is_right", "code"] "need" (defScope s_need) f cdv B outer s H E) (defBody s_need) (t_need K A E) := by
  exact (pss_one (ps_if (pt_not (pt_val (pv 0))) (pss_one (ps_raiseR T rfl (takes_of rfl rfl rfl rfl) h_Refused___init__ (hr.mono (by decide)) (pa_cons (pv 1) pa_nil))) pss_nil))
abbrev s_need_within : Stmt := topS 59
theorem sc_need_within : FnScope ["numbers", "bounds", "number", "least", "most"] ["numbers", "bounds"] (defScope s_need_within) := ⟨rfl, rfl, rfl, by decide +kernel, rfl, by decide +kernel, by decide +kernel⟩
theorem has_need_within (T : Txt K mg A) (h_need : HvF P w K mg base (L2.CX P w) 3 "need" ["is_right", "code"] (sp_need K A)) {f : Addr} {cdv : Value} {B : Around} {outer : List Env} {s : Shared} {H : Hp} {E : XK} (hr : Room 3 (B.deeper (envOfC "need_within" (defScope s_need_within) s.heap.objs.size f cdv))) :
    PSs (cxOf (L2.CX P w) P w K mg base ["numbers", "bounds", "number", "least", "most"] "need_within" (defScope s_need_within) f cdv B outer s H E) (defBody s_need_within) (t_need_within K A E) := by
  exact (pss_one (ps_expr (pe_cF h_need (hr.mono (by decide)) (passes_call (takes_of rfl rfl rfl rfl) (fun _ _ _ _ h => h)) (pa_cons (pe_cmpR (op_eqE hr.un0) (pe_lc (own := [("number", 2), ("least", 3), ("most", 4)]) (g := (gTup K 2 (gCons (gName 2) (gCons (gTup K 2 (gCons (gName 3) (gCons (gName 4) gNil))) gNil)))) (tt := (tNot (tTest (tChain oLe oLe (tVar 3) (tVar 2) (tVar 4))))) rfl sc_need_within.nd (pi_zip (by rfl) T.bZip (pa_cons (pv 0) (pa_cons (pv 1) pa_nil))) (blkOk_by (N := ["numbers", "bounds", "number", "least", "most"]) (sc := defScope s_need_within) (by decide +kernel)) (fun _ _ _ _ _ => (pg_tup rfl (pgs_cons (pg_name (i := 2) sc_need_within.nd rfl (Or.inl rfl)) (pgs_cons (pg_tup rfl (pgs_cons (pg_name (i := 3) sc_need_within.nd rfl (Or.inl rfl)) (pgs_cons (pg_name (i := 4) sc_need_within.nd rfl (Or.inl rfl)) pgs_nil))) pgs_nil)))) (fun _ _ _ _ _ => (pts_one (pt_not (pt_chain op_le op_le (pv 3) (pv 2) (pv 4))))) (fun _ _ _ _ _ => pe_int)) (pe_lst pa_nil) (nomark _)) (pa_cons (pe_gi T.cOUT) pa_nil)))))
abbrev s_Desk___init__ : Stmt := inClass (topS 60) 0
theorem sc_Desk___init__ : FnScope ["self"] ["self"] (defScope s_Desk___init__) := ⟨rfl, rfl, rfl, by decide +kernel, rfl, by decide +kernel, by decide +kernel⟩
theorem has_Desk___init__ (T : Txt K mg A)  {f : Addr} {cdv : Value} {B : Around} {outer : List Env} {s : Shared} {H : Hp} {E : XK} (hr : Room 0 (B.deeper (envOfC "Desk.__init__" (defScope s_Desk___init__) s.heap.objs.size f cdv))) :
    PSs (cxOf CX0 P w K mg base ["self"] "Desk.__init__" (defScope s_Desk___init__) f cdv B outer s H E).nox (defBody s_Desk___init__) (t_Desk___init__ K A) := by
  exact (pss_cons (ps_fld (pv 0) (pe_lst pa_nil) rfl) (pss_one (ps_fld (pv 0) (pe_lst pa_nil) rfl)))
abbrev s_Desk_open_stack : Stmt := inClass (topS 60) 1
theorem sc_Desk_open_stack : FnScope ["self", "a", "b"] ["self", "a", "b"] (defScope s_Desk_open_stack) := ⟨rfl, rfl, rfl, by decide +kernel, rfl, by decide +kernel, by decide +kernel⟩
theorem has_Desk_open_stack (T : Txt K mg A) (h_need_within : HvF P w K mg base (L2.CX P w) 4 "need_within" ["numbers", "bounds"] (sp_need_within K A)) (h_power_of_two : HvF P w K mg base CX0 1 "power_of_two" ["many"] (sp_power_of_two K A)) (h_Size___init__ : HvC P w K mg base CX0 1 A.CS "Size" ["self", "width", "height"] (sp_Size___init__ K A)) {f : Addr} {cdv : Value} {B : Around} {outer : List Env} {s : Shared} {H : Hp} {E : XK} (hr : Room 4 (B.deeper (envOfC "Desk.open_stack" (defScope s_Desk_open_stack) s.heap.objs.size f cdv))) :
    PSs (cxOf (L2.CX P w) P w K mg base ["self", "a", "b"] "Desk.open_stack" (defScope s_Desk_open_stack) f cdv B outer s H E) (defBody s_Desk_open_stack) (t_Desk_open_stack K A E) := by
  exact (pss_cons (ps_expr (pe_cF h_need_within (hr.mono (by decide)) (passes_call (takes_of rfl rfl rfl rfl) (fun _ _ _ _ h => h)) (pa_cons (pe_lst (pa_cons (pv 1) (pa_cons (pv 2) pa_nil))) (pa_cons (pe_lst (pa_cons (pe_tup (pa_cons pe_int (pa_cons pe_int pa_nil))) (pa_cons (pe_tup (pa_cons pe_int (pa_cons pe_int pa_nil))) pa_nil))) pa_nil)))) (pss_cons (ps_fld (pv 0) (pe_lst (pa_cons (pe_cC h_Size___init__ (hr.mono (by decide)) pass0 (pa_cons (pe_cF h_power_of_two (hr.mono (by decide)) pass0 (pa_cons (pv 1) pa_nil)) (pa_cons (pe_cF h_power_of_two (hr.mono (by decide)) pass0 (pa_cons (pv 2) pa_nil)) pa_nil))) pa_nil)) rfl) (pss_cons (ps_fld (pv 0) (pe_lst pa_nil) rfl) (pss_one (ps_ret (pe_lst (pa_cons pe_int pa_nil)))))))
abbrev s_Desk_size : Stmt := inClass (topS 60) 2
theorem sc_Desk_size : FnScope ["self"] ["self"] (defScope s_Desk_size) := ⟨rfl, rfl, rfl, by decide +kernel, rfl, by decide +kernel, by decide +kernel⟩
theorem has_Desk_size (T : Txt K mg A)  {f : Addr} {cdv : Value} {B : Around} {outer : List Env} {s : Shared} {H : Hp} {E : XK} (hr : Room 0 (B.deeper (envOfC "Desk.size" (defScope s_Desk_size) s.heap.objs.size f cdv))) :
    PSs (cxOf CX0 P w K mg base ["self"] "Desk.size" (defScope s_Desk_size) f cdv B outer s H E).nox (defBody s_Desk_size) (t_Desk_size K A) := by
  exact (pss_one (ps_ret (pe_ix ix_list (pe_fld (pv 0) rfl) pe_int (fun _ _ => rfl))))
abbrev s_Desk_need_pictures : Stmt := inClass (topS 60) 3
theorem sc_Desk_need_pictures : FnScope ["self", "many"] ["self", "many"] (defScope s_Desk_need_pictures) := ⟨rfl, rfl, rfl, by decide +kernel, rfl, by decide +kernel, by decide +kernel⟩
theorem has_Desk_need_pictures (T : Txt K mg A) (h_need : HvF P w K mg base (L2.CX P w) 3 "need" ["is_right", "code"] (sp_need K A)) {f : Addr} {cdv : Value} {B : Around} {outer : List Env} {s : Shared} {H : Hp} {E : XK} (hr : Room 3 (B.deeper (envOfC "Desk.need_pictures" (defScope s_Desk_need_pictures) s.heap.objs.size f cdv))) :
    PSs (cxOf (L2.CX P w) P w K mg base ["self", "many"] "Desk.need_pictures" (defScope s_Desk_need_pictures) f cdv B outer s H E) (defBody s_Desk_need_pictures) (t_Desk_need_pictures K A E) := by
  exact (pss_one (ps_expr (pe_cF h_need (hr.mono (by decide)) (passes_call (takes_of rfl rfl rfl rfl) (fun _ _ _ _ h => h)) (pa_cons (pe_cmpR op_ge (pe_callB call_len_seq (by rfl) T.bLen PySem.boot_len (pa_cons (pe_fld (pv 0) rfl) pa_nil)) (pv 1) (nomark _)) (pa_cons (pe_gi T.cTOO_FEW) pa_nil)))))
abbrev s_Desk_push : Stmt := inClass (topS 60) 4
theorem sc_Desk_push : FnScope ["self", "picture"] ["self", "picture"] (defScope s_Desk_push) := ⟨rfl, rfl, rfl, by decide +kernel, rfl, by decide +kernel, by decide +kernel⟩
theorem has_Desk_push (T : Txt K mg A)  {f : Addr} {cdv : Value} {B : Around} {outer : List Env} {s : Shared} {H : Hp} {E : XK} (hr : Room 0 (B.deeper (envOfC "Desk.push" (defScope s_Desk_push) s.heap.objs.size f cdv))) :
    PSs (cxOf CX0 P w K mg base ["self", "picture"] "Desk.push" (defScope s_Desk_push) f cdv B outer s H E).nox (defBody s_Desk_push) (t_Desk_push K A) := by
  exact (pss_cons (ps_fld (pv 0) (pe_op op_cat (pe_fld (pv 0) rfl) (pe_lst (pa_cons (pv 1) pa_nil))) rfl) (pss_one (ps_ret (pe_lst (pa_cons (pe_callB call_len_seq (by rfl) T.bLen PySem.boot_len (pa_cons (pe_fld (pv 0) rfl) pa_nil)) pa_nil)))))
abbrev s_Desk_need_room : Stmt := inClass (topS 60) 5
theorem sc_Desk_need_room : FnScope ["self"] ["self"] (defScope s_Desk_need_room) := ⟨rfl, rfl, rfl, by decide +kernel, rfl, by decide +kernel, by decide +kernel⟩
theorem has_Desk_need_room (T : Txt K mg A) (h_need : HvF P w K mg base (L2.CX P w) 3 "need" ["is_right", "code"] (sp_need K A)) {f : Addr} {cdv : Value} {B : Around} {outer : List Env} {s : Shared} {H : Hp} {E : XK} (hr : Room 3 (B.deeper (envOfC "Desk.need_room" (defScope s_Desk_need_room) s.heap.objs.size f cdv))) :
    PSs (cxOf (L2.CX P w) P w K mg base ["self"] "Desk.need_room" (defScope s_Desk_need_room) f cdv B outer s H E) (defBody s_Desk_need_room) (t_Desk_need_room K A E) := by
  exact (pss_one (ps_expr (pe_cF h_need (hr.mono (by decide)) (passes_call (takes_of rfl rfl rfl rfl) (fun _ _ _ _ h => h)) (pa_cons (pe_cmpR op_lt (pe_callB call_len_seq (by rfl) T.bLen PySem.boot_len (pa_cons (pe_fld (pv 0) rfl) pa_nil)) (pe_gi T.cMOST_PICTURES) (nomark _)) (pa_cons (pe_gi T.cTOO_MANY) pa_nil)))))
abbrev s_Desk_replace : Stmt := inClass (topS 60) 6
theorem sc_Desk_replace : FnScope ["self", "many", "pictures"] ["self", "many", "pictures"] (defScope s_Desk_replace) := ⟨rfl, rfl, rfl, by decide +kernel, rfl, by decide +kernel, by decide +kernel⟩
theorem has_Desk_replace (T : Txt K mg A)  {f : Addr} {cdv : Value} {B : Around} {outer : List Env} {s : Shared} {H : Hp} {E : XK} (hr : Room 0 (B.deeper (envOfC "Desk.replace" (defScope s_Desk_replace) s.heap.objs.size f cdv))) :
    PSs (cxOf CX0 P w K mg base ["self", "many", "pictures"] "Desk.replace" (defScope s_Desk_replace) f cdv B outer s H E).nox (defBody s_Desk_replace) (t_Desk_replace K A) := by
  exact (pss_cons (ps_fld (pv 0) (pe_op op_cat (pe_slice sl_list (pe_fld (pv 0) rfl) po_none (po_some (pe_op op_sub (pe_callB call_len_seq (by rfl) T.bLen PySem.boot_len (pa_cons (pe_fld (pv 0) rfl) pa_nil)) (pv 1)))) (pv 2)) rfl) (pss_one (ps_ret (pe_lst (pa_cons (pe_callB call_len_seq (by rfl) T.bLen PySem.boot_len (pa_cons (pe_fld (pv 0) rfl) pa_nil)) pa_nil)))))
abbrev s_Desk_flat : Stmt := inClass (topS 60) 7
theorem sc_Desk_flat : FnScope ["self", "colour"] ["self", "colour"] (defScope s_Desk_flat) := ⟨rfl, rfl, rfl, by decide +kernel, rfl, by decide +kernel, by decide +kernel⟩
theorem has_Desk_flat (T : Txt K mg A) (h_Desk_need_room : HvM P w K mg base (L2.CX P w) 4 A.CD "need_room" ["self"] (sp_Desk_need_room K A)) (h_Desk_size : HvM P w K mg base CX0 1 A.CD "size" ["self"] (sp_Desk_size K A)) (h_flat_pictures : HvF P w K mg base CX0 1 "flat_pictures" ["size", "colour"] (sp_flat K A)) (h_Desk_push : HvM P w K mg base CX0 1 A.CD "push" ["self", "picture"] (sp_Desk_push K A)) {f : Addr} {cdv : Value} {B : Around} {outer : List Env} {s : Shared} {H : Hp} {E : XK} (hr : Room 4 (B.deeper (envOfC "Desk.flat" (defScope s_Desk_flat) s.heap.objs.size f cdv))) :
    PSs (cxOf (L2.CX P w) P w K mg base ["self", "colour"] "Desk.flat" (defScope s_Desk_flat) f cdv B outer s H E) (defBody s_Desk_flat) (t_Desk_flat K A E) := by
  exact (pss_cons (ps_expr (pe_cM0 T.clDesk h_Desk_need_room (hr.mono (by decide)) (passes_call (takes_of rfl rfl rfl rfl) (fun _ _ _ _ h => h)) (pv 0))) (pss_one (ps_ret (pe_cM T.clDesk h_Desk_push (hr.mono (by decide)) pass0 (pv 0) (pa_cons (pe_cF h_flat_pictures (hr.mono (by decide)) pass0 (pa_cons (pe_cM0 T.clDesk h_Desk_size (hr.mono (by decide)) pass0 (pv 0)) (pa_cons (pv 1) pa_nil))) pa_nil)))))
abbrev s_Desk_noise : Stmt := inClass (topS 60) 8
theorem sc_Desk_noise : FnScope ["self", "given"] ["self", "given"] (defScope s_Desk_noise) := ⟨rfl, rfl, rfl, by decide +kernel, rfl, by decide +kernel, by decide +kernel⟩
theorem has_Desk_noise (T : Txt K mg A) (h_need_within : HvF P w K mg base (L2.CX P w) 4 "need_within" ["numbers", "bounds"] (sp_need_within K A)) (h_power_of_two : HvF P w K mg base CX0 1 "power_of_two" ["many"] (sp_power_of_two K A)) (h_Desk_size : HvM P w K mg base CX0 1 A.CD "size" ["self"] (sp_Desk_size K A)) (h_need : HvF P w K mg base (L2.CX P w) 3 "need" ["is_right", "code"] (sp_need K A)) (h_Desk_need_room : HvM P w K mg base (L2.CX P w) 4 A.CD "need_room" ["self"] (sp_Desk_need_room K A)) (h_noise_noises : HvF P w K mg base CX0 4 "noise_noises" ["size", "seed", "cell", "layers", "fall"] (sp_noise K A)) (h_Desk_push : HvM P w K mg base CX0 1 A.CD "push" ["self", "picture"] (sp_Desk_push K A)) {f : Addr} {cdv : Value} {B : Around} {outer : List Env} {s : Shared} {H : Hp} {E : XK} (hr : Room 4 (B.deeper (envOfC "Desk.noise" (defScope s_Desk_noise) s.heap.objs.size f cdv))) :
    PSs (cxOf (L2.CX P w) P w K mg base ["self", "given"] "Desk.noise" (defScope s_Desk_noise) f cdv B outer s H E) (defBody s_Desk_noise) (t_Desk_noise K A E) := by
  exact (pss_cons (ps_expr (pe_cF h_need_within (hr.mono (by decide)) (passes_call (takes_of rfl rfl rfl rfl) (fun _ _ _ _ h => h)) (pa_cons (pv 1) (pa_cons (pe_lst (pa_cons (pe_tup (pa_cons pe_int (pa_cons (pe_gi T.cMOST) pa_nil))) (pa_cons (pe_tup (pa_cons pe_int (pa_cons pe_int pa_nil))) (pa_cons (pe_tup (pa_cons pe_int (pa_cons pe_int pa_nil))) (pa_cons (pe_tup (pa_cons pe_int (pa_cons (pe_gi T.cMOST) pa_nil))) pa_nil))))) pa_nil)))) (pss_cons (ps_expr (pe_cF h_need (hr.mono (by decide)) (passes_call (takes_of rfl rfl rfl rfl) (fun _ _ _ _ h => h)) (pa_cons (pe_cmpR op_le (pe_cF h_power_of_two (hr.mono (by decide)) pass0 (pa_cons (pe_ix ix_list (pv 1) pe_int (fun _ _ => rfl)) pa_nil)) (pe_callB (call_min2 rfl) (by rfl) T.bMin (by decide +kernel) (pa_cons (pe_fld (pe_cM0 T.clDesk h_Desk_size (hr.mono (by decide)) pass0 (pv 0)) rfl) (pa_cons (pe_fld (pe_cM0 T.clDesk h_Desk_size (hr.mono (by decide)) pass0 (pv 0)) rfl) pa_nil))) (nomark _)) (pa_cons (pe_gi T.cOUT) pa_nil)))) (pss_cons (ps_expr (pe_cM0 T.clDesk h_Desk_need_room (hr.mono (by decide)) (passes_call (takes_of rfl rfl rfl rfl) (fun _ _ _ _ h => h)) (pv 0))) (pss_one (ps_ret (pe_cM T.clDesk h_Desk_push (hr.mono (by decide)) pass0 (pv 0) (pa_cons (pe_cF h_noise_noises (hr.mono (by decide)) pass0 (pa_cons (pe_cM0 T.clDesk h_Desk_size (hr.mono (by decide)) pass0 (pv 0)) (pa_cons (pe_ix ix_list (pv 1) pe_int (fun _ _ => rfl)) (pa_cons (pe_ix ix_list (pv 1) pe_int (fun _ _ => rfl)) (pa_cons (pe_ix ix_list (pv 1) pe_int (fun _ _ => rfl)) (pa_cons (pe_ix ix_list (pv 1) pe_int (fun _ _ => rfl)) pa_nil)))))) pa_nil)))))))
abbrev s_Desk_glow : Stmt := inClass (topS 60) 9
theorem sc_Desk_glow : FnScope ["self", "given"] ["self", "given"] (defScope s_Desk_glow) := ⟨rfl, rfl, rfl, by decide +kernel, rfl, by decide +kernel, by decide +kernel⟩
theorem has_Desk_glow (T : Txt K mg A) (h_need_within : HvF P w K mg base (L2.CX P w) 4 "need_within" ["numbers", "bounds"] (sp_need_within K A)) (h_Desk_need_pictures : HvM P w K mg base (L2.CX P w) 4 A.CD "need_pictures" ["self", "many"] (sp_Desk_need_pictures K A)) (h_Desk_size : HvM P w K mg base CX0 1 A.CD "size" ["self"] (sp_Desk_size K A)) (h_glow_changes : HvF P w K mg base CX0 2 "glow_changes" ["size", "picture", "middle", "radii", "many", "colour"] (sp_glow K A)) (h_Desk_replace : HvM P w K mg base CX0 1 A.CD "replace" ["self", "many", "pictures"] (sp_Desk_replace K A)) {f : Addr} {cdv : Value} {B : Around} {outer : List Env} {s : Shared} {H : Hp} {E : XK} (hr : Room 4 (B.deeper (envOfC "Desk.glow" (defScope s_Desk_glow) s.heap.objs.size f cdv))) :
    PSs (cxOf (L2.CX P w) P w K mg base ["self", "given"] "Desk.glow" (defScope s_Desk_glow) f cdv B outer s H E) (defBody s_Desk_glow) (t_Desk_glow K A E) := by
  exact (pss_cons (ps_expr (pe_cF h_need_within (hr.mono (by decide)) (passes_call (takes_of rfl rfl rfl rfl) (fun _ _ _ _ h => h)) (pa_cons (pe_slice sl_list (pv 1) po_none (po_some pe_int)) (pa_cons (pe_lst (pa_cons (pe_tup (pa_cons pe_int (pa_cons pe_int pa_nil))) (pa_cons (pe_tup (pa_cons pe_int (pa_cons pe_int pa_nil))) (pa_cons (pe_tup (pa_cons pe_int (pa_cons pe_int pa_nil))) (pa_cons (pe_tup (pa_cons pe_int (pa_cons pe_int pa_nil))) (pa_cons (pe_tup (pa_cons pe_int (pa_cons pe_int pa_nil))) pa_nil)))))) pa_nil)))) (pss_cons (ps_expr (pe_cM T.clDesk h_Desk_need_pictures (hr.mono (by decide)) (passes_call (takes_of rfl rfl rfl rfl) (fun _ _ _ _ h => h)) (pv 0) (pa_cons pe_int pa_nil))) (pss_one (ps_ret (pe_cM T.clDesk h_Desk_replace (hr.mono (by decide)) pass0 (pv 0) (pa_cons pe_int (pa_cons (pe_lst (pa_cons (pe_cF h_glow_changes (hr.mono (by decide)) pass0 (pa_cons (pe_cM0 T.clDesk h_Desk_size (hr.mono (by decide)) pass0 (pv 0)) (pa_cons (pe_ix ix_list (pe_fld (pv 0) rfl) (pe_un un_neg pe_int) (fun _ _ => rfl)) (pa_cons (pe_slice sl_list (pv 1) po_none (po_some pe_int)) (pa_cons (pe_slice sl_list (pv 1) (po_some pe_int) (po_some pe_int)) (pa_cons (pe_ix ix_list (pv 1) pe_int (fun _ _ => rfl)) (pa_cons (pe_slice sl_list (pv 1) (po_some pe_int) po_none) pa_nil))))))) pa_nil)) pa_nil)))))))
abbrev s_Desk_box : Stmt := inClass (topS 60) 10
theorem sc_Desk_box : FnScope ["self", "given"] ["self", "given"] (defScope s_Desk_box) := ⟨rfl, rfl, rfl, by decide +kernel, rfl, by decide +kernel, by decide +kernel⟩
theorem has_Desk_box (T : Txt K mg A) (h_need_within : HvF P w K mg base (L2.CX P w) 4 "need_within" ["numbers", "bounds"] (sp_need_within K A)) (h_Desk_need_pictures : HvM P w K mg base (L2.CX P w) 4 A.CD "need_pictures" ["self", "many"] (sp_Desk_need_pictures K A)) (h_Desk_size : HvM P w K mg base CX0 1 A.CD "size" ["self"] (sp_Desk_size K A)) (h_box_changes : HvF P w K mg base CX0 2 "box_changes" ["size", "picture", "corner", "sides", "colour"] (sp_box K A)) (h_Desk_replace : HvM P w K mg base CX0 1 A.CD "replace" ["self", "many", "pictures"] (sp_Desk_replace K A)) {f : Addr} {cdv : Value} {B : Around} {outer : List Env} {s : Shared} {H : Hp} {E : XK} (hr : Room 4 (B.deeper (envOfC "Desk.box" (defScope s_Desk_box) s.heap.objs.size f cdv))) :
    PSs (cxOf (L2.CX P w) P w K mg base ["self", "given"] "Desk.box" (defScope s_Desk_box) f cdv B outer s H E) (defBody s_Desk_box) (t_Desk_box K A E) := by
  exact (pss_cons (ps_expr (pe_cF h_need_within (hr.mono (by decide)) (passes_call (takes_of rfl rfl rfl rfl) (fun _ _ _ _ h => h)) (pa_cons (pe_slice sl_list (pv 1) po_none (po_some pe_int)) (pa_cons (pe_lst (pa_cons (pe_tup (pa_cons pe_int (pa_cons pe_int pa_nil))) (pa_cons (pe_tup (pa_cons pe_int (pa_cons pe_int pa_nil))) (pa_cons (pe_tup (pa_cons pe_int (pa_cons pe_int pa_nil))) (pa_cons (pe_tup (pa_cons pe_int (pa_cons pe_int pa_nil))) pa_nil))))) pa_nil)))) (pss_cons (ps_expr (pe_cM T.clDesk h_Desk_need_pictures (hr.mono (by decide)) (passes_call (takes_of rfl rfl rfl rfl) (fun _ _ _ _ h => h)) (pv 0) (pa_cons pe_int pa_nil))) (pss_one (ps_ret (pe_cM T.clDesk h_Desk_replace (hr.mono (by decide)) pass0 (pv 0) (pa_cons pe_int (pa_cons (pe_lst (pa_cons (pe_cF h_box_changes (hr.mono (by decide)) pass0 (pa_cons (pe_cM0 T.clDesk h_Desk_size (hr.mono (by decide)) pass0 (pv 0)) (pa_cons (pe_ix ix_list (pe_fld (pv 0) rfl) (pe_un un_neg pe_int) (fun _ _ => rfl)) (pa_cons (pe_slice sl_list (pv 1) po_none (po_some pe_int)) (pa_cons (pe_slice sl_list (pv 1) (po_some pe_int) (po_some pe_int)) (pa_cons (pe_slice sl_list (pv 1) (po_some pe_int) po_none) pa_nil)))))) pa_nil)) pa_nil)))))))
abbrev s_Desk_blur : Stmt := inClass (topS 60) 11
theorem sc_Desk_blur : FnScope ["self", "given"] ["self", "given"] (defScope s_Desk_blur) := ⟨rfl, rfl, rfl, by decide +kernel, rfl, by decide +kernel, by decide +kernel⟩
theorem has_Desk_blur (T : Txt K mg A) (h_need_within : HvF P w K mg base (L2.CX P w) 4 "need_within" ["numbers", "bounds"] (sp_need_within K A)) (h_Desk_need_pictures : HvM P w K mg base (L2.CX P w) 4 A.CD "need_pictures" ["self", "many"] (sp_Desk_need_pictures K A)) (h_Desk_size : HvM P w K mg base CX0 1 A.CD "size" ["self"] (sp_Desk_size K A)) (h_blur_changes : HvF P w K mg base CX0 4 "blur_changes" ["size", "picture", "across", "down", "many"] (sp_blur K A)) (h_Desk_replace : HvM P w K mg base CX0 1 A.CD "replace" ["self", "many", "pictures"] (sp_Desk_replace K A)) {f : Addr} {cdv : Value} {B : Around} {outer : List Env} {s : Shared} {H : Hp} {E : XK} (hr : Room 4 (B.deeper (envOfC "Desk.blur" (defScope s_Desk_blur) s.heap.objs.size f cdv))) :
    PSs (cxOf (L2.CX P w) P w K mg base ["self", "given"] "Desk.blur" (defScope s_Desk_blur) f cdv B outer s H E) (defBody s_Desk_blur) (t_Desk_blur K A E) := by
  exact (pss_cons (ps_expr (pe_cF h_need_within (hr.mono (by decide)) (passes_call (takes_of rfl rfl rfl rfl) (fun _ _ _ _ h => h)) (pa_cons (pv 1) (pa_cons (pe_lst (pa_cons (pe_tup (pa_cons pe_int (pa_cons pe_int pa_nil))) (pa_cons (pe_tup (pa_cons pe_int (pa_cons pe_int pa_nil))) (pa_cons (pe_tup (pa_cons pe_int (pa_cons pe_int pa_nil))) pa_nil)))) pa_nil)))) (pss_cons (ps_expr (pe_cM T.clDesk h_Desk_need_pictures (hr.mono (by decide)) (passes_call (takes_of rfl rfl rfl rfl) (fun _ _ _ _ h => h)) (pv 0) (pa_cons pe_int pa_nil))) (pss_one (ps_ret (pe_cM T.clDesk h_Desk_replace (hr.mono (by decide)) pass0 (pv 0) (pa_cons pe_int (pa_cons (pe_lst (pa_cons (pe_cF h_blur_changes (hr.mono (by decide)) pass0 (pa_cons (pe_cM0 T.clDesk h_Desk_size (hr.mono (by decide)) pass0 (pv 0)) (pa_cons (pe_ix ix_list (pe_fld (pv 0) rfl) (pe_un un_neg pe_int) (fun _ _ => rfl)) (pa_cons (pe_ix ix_list (pv 1) pe_int (fun _ _ => rfl)) (pa_cons (pe_ix ix_list (pv 1) pe_int (fun _ _ => rfl)) (pa_cons (pe_ix ix_list (pv 1) pe_int (fun _ _ => rfl)) pa_nil)))))) pa_nil)) pa_nil)))))))
abbrev s_Desk_turn : Stmt := inClass (topS 60) 12
theorem sc_Desk_turn : FnScope ["self", "given"] ["self", "given"] (defScope s_Desk_turn) := ⟨rfl, rfl, rfl, by decide +kernel, rfl, by decide +kernel, by decide +kernel⟩
theorem has_Desk_turn (T : Txt K mg A) (h_need_within : HvF P w K mg base (L2.CX P w) 4 "need_within" ["numbers", "bounds"] (sp_need_within K A)) (h_Desk_need_pictures : HvM P w K mg base (L2.CX P w) 4 A.CD "need_pictures" ["self", "many"] (sp_Desk_need_pictures K A)) (h_Desk_size : HvM P w K mg base CX0 1 A.CD "size" ["self"] (sp_Desk_size K A)) (h_turn_changes : HvF P w K mg base CX0 4 "turn_changes" ["size", "picture", "c", "s"] (sp_turn K A)) (h_Desk_replace : HvM P w K mg base CX0 1 A.CD "replace" ["self", "many", "pictures"] (sp_Desk_replace K A)) {f : Addr} {cdv : Value} {B : Around} {outer : List Env} {s : Shared} {H : Hp} {E : XK} (hr : Room 4 (B.deeper (envOfC "Desk.turn" (defScope s_Desk_turn) s.heap.objs.size f cdv))) :
    PSs (cxOf (L2.CX P w) P w K mg base ["self", "given"] "Desk.turn" (defScope s_Desk_turn) f cdv B outer s H E) (defBody s_Desk_turn) (t_Desk_turn K A E) := by
  exact (pss_cons (ps_expr (pe_cF h_need_within (hr.mono (by decide)) (passes_call (takes_of rfl rfl rfl rfl) (fun _ _ _ _ h => h)) (pa_cons (pv 1) (pa_cons (pe_lst (pa_cons (pe_tup (pa_cons (pe_un un_neg pe_int) (pa_cons pe_int pa_nil))) (pa_cons (pe_tup (pa_cons (pe_un un_neg pe_int) (pa_cons pe_int pa_nil))) pa_nil))) pa_nil)))) (pss_cons (ps_expr (pe_cM T.clDesk h_Desk_need_pictures (hr.mono (by decide)) (passes_call (takes_of rfl rfl rfl rfl) (fun _ _ _ _ h => h)) (pv 0) (pa_cons pe_int pa_nil))) (pss_one (ps_ret (pe_cM T.clDesk h_Desk_replace (hr.mono (by decide)) pass0 (pv 0) (pa_cons pe_int (pa_cons (pe_lst (pa_cons (pe_cF h_turn_changes (hr.mono (by decide)) pass0 (pa_cons (pe_cM0 T.clDesk h_Desk_size (hr.mono (by decide)) pass0 (pv 0)) (pa_cons (pe_ix ix_list (pe_fld (pv 0) rfl) (pe_un un_neg pe_int) (fun _ _ => rfl)) (pa_cons (pe_ix ix_list (pv 1) pe_int (fun _ _ => rfl)) (pa_cons (pe_ix ix_list (pv 1) pe_int (fun _ _ => rfl)) pa_nil))))) pa_nil)) pa_nil)))))))
abbrev s_Desk_bend : Stmt := inClass (topS 60) 13
theorem sc_Desk_bend : FnScope ["self", "given"] ["self", "given"] (defScope s_Desk_bend) := ⟨rfl, rfl, rfl, by decide +kernel, rfl, by decide +kernel, by decide +kernel⟩
theorem has_Desk_bend (T : Txt K mg A) (h_need_within : HvF P w K mg base (L2.CX P w) 4 "need_within" ["numbers", "bounds"] (sp_need_within K A)) (h_Desk_need_pictures : HvM P w K mg base (L2.CX P w) 4 A.CD "need_pictures" ["self", "many"] (sp_Desk_need_pictures K A)) (h_Desk_size : HvM P w K mg base CX0 1 A.CD "size" ["self"] (sp_Desk_size K A)) (h_bend_changes : HvF P w K mg base CX0 4 "bend_changes" ["size", "picture", "top", "many"] (sp_bend K A)) (h_Desk_replace : HvM P w K mg base CX0 1 A.CD "replace" ["self", "many", "pictures"] (sp_Desk_replace K A)) {f : Addr} {cdv : Value} {B : Around} {outer : List Env} {s : Shared} {H : Hp} {E : XK} (hr : Room 4 (B.deeper (envOfC "Desk.bend" (defScope s_Desk_bend) s.heap.objs.size f cdv))) :
    PSs (cxOf (L2.CX P w) P w K mg base ["self", "given"] "Desk.bend" (defScope s_Desk_bend) f cdv B outer s H E) (defBody s_Desk_bend) (t_Desk_bend K A E) := by
  exact (pss_cons (ps_expr (pe_cF h_need_within (hr.mono (by decide)) (passes_call (takes_of rfl rfl rfl rfl) (fun _ _ _ _ h => h)) (pa_cons (pv 1) (pa_cons (pe_lst (pa_cons (pe_tup (pa_cons (pe_un un_neg pe_int) (pa_cons pe_int pa_nil))) pa_nil)) pa_nil)))) (pss_cons (ps_expr (pe_cM T.clDesk h_Desk_need_pictures (hr.mono (by decide)) (passes_call (takes_of rfl rfl rfl rfl) (fun _ _ _ _ h => h)) (pv 0) (pa_cons pe_int pa_nil))) (pss_one (ps_ret (pe_cM T.clDesk h_Desk_replace (hr.mono (by decide)) pass0 (pv 0) (pa_cons pe_int (pa_cons (pe_lst (pa_cons (pe_cF h_bend_changes (hr.mono (by decide)) pass0 (pa_cons (pe_cM0 T.clDesk h_Desk_size (hr.mono (by decide)) pass0 (pv 0)) (pa_cons (pe_ix ix_list (pe_fld (pv 0) rfl) (pe_un un_neg pe_int) (fun _ _ => rfl)) (pa_cons (pe_ix ix_list (pe_fld (pv 0) rfl) (pe_un un_neg pe_int) (fun _ _ => rfl)) (pa_cons (pe_ix ix_list (pv 1) pe_int (fun _ _ => rfl)) pa_nil))))) pa_nil)) pa_nil)))))))
abbrev s_Desk_join : Stmt := inClass (topS 60) 14
theorem sc_Desk_join : FnScope ["self", "given"] ["self", "given"] (defScope s_Desk_join) := ⟨rfl, rfl, rfl, by decide +kernel, rfl, by decide +kernel, by decide +kernel⟩
theorem has_Desk_join (T : Txt K mg A) (h_need_within : HvF P w K mg base (L2.CX P w) 4 "need_within" ["numbers", "bounds"] (sp_need_within K A)) (h_Desk_need_pictures : HvM P w K mg base (L2.CX P w) 4 A.CD "need_pictures" ["self", "many"] (sp_Desk_need_pictures K A)) (h_joined : HvF P w K mg base CX0 3 "joined" ["mode", "below", "top"] (sp_joined K A)) (h_Desk_replace : HvM P w K mg base CX0 1 A.CD "replace" ["self", "many", "pictures"] (sp_Desk_replace K A)) {f : Addr} {cdv : Value} {B : Around} {outer : List Env} {s : Shared} {H : Hp} {E : XK} (hr : Room 4 (B.deeper (envOfC "Desk.join" (defScope s_Desk_join) s.heap.objs.size f cdv))) :
    PSs (cxOf (L2.CX P w) P w K mg base ["self", "given"] "Desk.join" (defScope s_Desk_join) f cdv B outer s H E) (defBody s_Desk_join) (t_Desk_join K A E) := by
  exact (pss_cons (ps_expr (pe_cF h_need_within (hr.mono (by decide)) (passes_call (takes_of rfl rfl rfl rfl) (fun _ _ _ _ h => h)) (pa_cons (pv 1) (pa_cons (pe_lst (pa_cons (pe_tup (pa_cons pe_int (pa_cons pe_int pa_nil))) pa_nil)) pa_nil)))) (pss_cons (ps_expr (pe_cM T.clDesk h_Desk_need_pictures (hr.mono (by decide)) (passes_call (takes_of rfl rfl rfl rfl) (fun _ _ _ _ h => h)) (pv 0) (pa_cons pe_int pa_nil))) (pss_one (ps_ret (pe_cM T.clDesk h_Desk_replace (hr.mono (by decide)) pass0 (pv 0) (pa_cons pe_int (pa_cons (pe_lst (pa_cons (pe_cF h_joined (hr.mono (by decide)) pass0 (pa_cons (pe_ix ix_list (pv 1) pe_int (fun _ _ => rfl)) (pa_cons (pe_ix ix_list (pe_fld (pv 0) rfl) (pe_un un_neg pe_int) (fun _ _ => rfl)) (pa_cons (pe_ix ix_list (pe_fld (pv 0) rfl) (pe_un un_neg pe_int) (fun _ _ => rfl)) pa_nil)))) pa_nil)) pa_nil)))))))
abbrev s_Desk_levels : Stmt := inClass (topS 60) 15
theorem sc_Desk_levels : FnScope ["self", "given"] ["self", "given"] (defScope s_Desk_levels) := ⟨rfl, rfl, rfl, by decide +kernel, rfl, by decide +kernel, by decide +kernel⟩
theorem has_Desk_levels (T : Txt K mg A) (h_need_within : HvF P w K mg base (L2.CX P w) 4 "need_within" ["numbers", "bounds"] (sp_need_within K A)) (h_need : HvF P w K mg base (L2.CX P w) 3 "need" ["is_right", "code"] (sp_need K A)) (h_Desk_need_pictures : HvM P w K mg base (L2.CX P w) 4 A.CD "need_pictures" ["self", "many"] (sp_Desk_need_pictures K A)) (h_levels_changes : HvF P w K mg base CX0 3 "levels_changes" ["picture", "low", "high"] (sp_levels K A)) (h_Desk_replace : HvM P w K mg base CX0 1 A.CD "replace" ["self", "many", "pictures"] (sp_Desk_replace K A)) {f : Addr} {cdv : Value} {B : Around} {outer : List Env} {s : Shared} {H : Hp} {E : XK} (hr : Room 4 (B.deeper (envOfC "Desk.levels" (defScope s_Desk_levels) s.heap.objs.size f cdv))) :
    PSs (cxOf (L2.CX P w) P w K mg base ["self", "given"] "Desk.levels" (defScope s_Desk_levels) f cdv B outer s H E) (defBody s_Desk_levels) (t_Desk_levels K A E) := by
  exact (pss_cons (ps_expr (pe_cF h_need_within (hr.mono (by decide)) (passes_call (takes_of rfl rfl rfl rfl) (fun _ _ _ _ h => h)) (pa_cons (pv 1) (pa_cons (pe_lst (pa_cons (pe_tup (pa_cons pe_int (pa_cons (pe_gi T.cMOST) pa_nil))) (pa_cons (pe_tup (pa_cons pe_int (pa_cons (pe_gi T.cMOST) pa_nil))) pa_nil))) pa_nil)))) (pss_cons (ps_expr (pe_cF h_need (hr.mono (by decide)) (passes_call (takes_of rfl rfl rfl rfl) (fun _ _ _ _ h => h)) (pa_cons (pe_cmpR op_lt (pe_ix ix_list (pv 1) pe_int (fun _ _ => rfl)) (pe_ix ix_list (pv 1) pe_int (fun _ _ => rfl)) (nomark _)) (pa_cons (pe_gi T.cOUT) pa_nil)))) (pss_cons (ps_expr (pe_cM T.clDesk h_Desk_need_pictures (hr.mono (by decide)) (passes_call (takes_of rfl rfl rfl rfl) (fun _ _ _ _ h => h)) (pv 0) (pa_cons pe_int pa_nil))) (pss_one (ps_ret (pe_cM T.clDesk h_Desk_replace (hr.mono (by decide)) pass0 (pv 0) (pa_cons pe_int (pa_cons (pe_lst (pa_cons (pe_cF h_levels_changes (hr.mono (by decide)) pass0 (pa_cons (pe_ix ix_list (pe_fld (pv 0) rfl) (pe_un un_neg pe_int) (fun _ _ => rfl)) (pa_cons (pe_ix ix_list (pv 1) pe_int (fun _ _ => rfl)) (pa_cons (pe_ix ix_list (pv 1) pe_int (fun _ _ => rfl)) pa_nil)))) pa_nil)) pa_nil))))))))
abbrev s_Desk_colour : Stmt := inClass (topS 60) 16
theorem sc_Desk_colour : FnScope ["self", "given"] ["self", "given"] (defScope s_Desk_colour) := ⟨rfl, rfl, rfl, by decide +kernel, rfl, by decide +kernel, by decide +kernel⟩
theorem has_Desk_colour (T : Txt K mg A) (h_Desk_need_pictures : HvM P w K mg base (L2.CX P w) 4 A.CD "need_pictures" ["self", "many"] (sp_Desk_need_pictures K A)) (h_recoloured : HvF P w K mg base CX0 3 "recoloured" ["picture", "matrix"] (sp_recoloured K A)) (h_Desk_replace : HvM P w K mg base CX0 1 A.CD "replace" ["self", "many", "pictures"] (sp_Desk_replace K A)) {f : Addr} {cdv : Value} {B : Around} {outer : List Env} {s : Shared} {H : Hp} {E : XK} (hr : Room 4 (B.deeper (envOfC "Desk.colour" (defScope s_Desk_colour) s.heap.objs.size f cdv))) :
    PSs (cxOf (L2.CX P w) P w K mg base ["self", "given"] "Desk.colour" (defScope s_Desk_colour) f cdv B outer s H E) (defBody s_Desk_colour) (t_Desk_colour K A E) := by
  exact (pss_cons (ps_expr (pe_cM T.clDesk h_Desk_need_pictures (hr.mono (by decide)) (passes_call (takes_of rfl rfl rfl rfl) (fun _ _ _ _ h => h)) (pv 0) (pa_cons pe_int pa_nil))) (pss_one (ps_ret (pe_cM T.clDesk h_Desk_replace (hr.mono (by decide)) pass0 (pv 0) (pa_cons pe_int (pa_cons (pe_lst (pa_cons (pe_cF h_recoloured (hr.mono (by decide)) pass0 (pa_cons (pe_ix ix_list (pe_fld (pv 0) rfl) (pe_un un_neg pe_int) (fun _ _ => rfl)) (pa_cons (pv 1) pa_nil))) pa_nil)) pa_nil))))))
abbrev s_Desk_light : Stmt := inClass (topS 60) 17
theorem sc_Desk_light : FnScope ["self", "given"] ["self", "given"] (defScope s_Desk_light) := ⟨rfl, rfl, rfl, by decide +kernel, rfl, by decide +kernel, by decide +kernel⟩
theorem has_Desk_light (T : Txt K mg A) (h_need_within : HvF P w K mg base (L2.CX P w) 4 "need_within" ["numbers", "bounds"] (sp_need_within K A)) (h_Desk_need_pictures : HvM P w K mg base (L2.CX P w) 4 A.CD "need_pictures" ["self", "many"] (sp_Desk_need_pictures K A)) (h_Desk_size : HvM P w K mg base CX0 1 A.CD "size" ["self"] (sp_Desk_size K A)) (h_light_changes : HvF P w K mg base CX0 2 "light_changes" ["size", "picture", "lx", "ly", "many"] (sp_light K A)) (h_Desk_replace : HvM P w K mg base CX0 1 A.CD "replace" ["self", "many", "pictures"] (sp_Desk_replace K A)) {f : Addr} {cdv : Value} {B : Around} {outer : List Env} {s : Shared} {H : Hp} {E : XK} (hr : Room 4 (B.deeper (envOfC "Desk.light" (defScope s_Desk_light) s.heap.objs.size f cdv))) :
    PSs (cxOf (L2.CX P w) P w K mg base ["self", "given"] "Desk.light" (defScope s_Desk_light) f cdv B outer s H E) (defBody s_Desk_light) (t_Desk_light K A E) := by
  exact (pss_cons (ps_expr (pe_cF h_need_within (hr.mono (by decide)) (passes_call (takes_of rfl rfl rfl rfl) (fun _ _ _ _ h => h)) (pa_cons (pv 1) (pa_cons (pe_lst (pa_cons (pe_tup (pa_cons (pe_un un_neg pe_int) (pa_cons pe_int pa_nil))) (pa_cons (pe_tup (pa_cons (pe_un un_neg pe_int) (pa_cons pe_int pa_nil))) (pa_cons (pe_tup (pa_cons pe_int (pa_cons pe_int pa_nil))) pa_nil)))) pa_nil)))) (pss_cons (ps_expr (pe_cM T.clDesk h_Desk_need_pictures (hr.mono (by decide)) (passes_call (takes_of rfl rfl rfl rfl) (fun _ _ _ _ h => h)) (pv 0) (pa_cons pe_int pa_nil))) (pss_one (ps_ret (pe_cM T.clDesk h_Desk_replace (hr.mono (by decide)) pass0 (pv 0) (pa_cons pe_int (pa_cons (pe_lst (pa_cons (pe_cF h_light_changes (hr.mono (by decide)) pass0 (pa_cons (pe_cM0 T.clDesk h_Desk_size (hr.mono (by decide)) pass0 (pv 0)) (pa_cons (pe_ix ix_list (pe_fld (pv 0) rfl) (pe_un un_neg pe_int) (fun _ _ => rfl)) (pa_cons (pe_ix ix_list (pv 1) pe_int (fun _ _ => rfl)) (pa_cons (pe_ix ix_list (pv 1) pe_int (fun _ _ => rfl)) (pa_cons (pe_ix ix_list (pv 1) pe_int (fun _ _ => rfl)) pa_nil)))))) pa_nil)) pa_nil)))))))
abbrev s_Desk_copy : Stmt := inClass (topS 60) 18
theorem sc_Desk_copy : FnScope ["self", "given"] ["self", "given"] (defScope s_Desk_copy) := ⟨rfl, rfl, rfl, by decide +kernel, rfl, by decide +kernel, by decide +kernel⟩
theorem has_Desk_copy (T : Txt K mg A) (h_need : HvF P w K mg base (L2.CX P w) 3 "need" ["is_right", "code"] (sp_need K A)) (h_Desk_need_room : HvM P w K mg base (L2.CX P w) 4 A.CD "need_room" ["self"] (sp_Desk_need_room K A)) (h_Desk_push : HvM P w K mg base CX0 1 A.CD "push" ["self", "picture"] (sp_Desk_push K A)) {f : Addr} {cdv : Value} {B : Around} {outer : List Env} {s : Shared} {H : Hp} {E : XK} (hr : Room 4 (B.deeper (envOfC "Desk.copy" (defScope s_Desk_copy) s.heap.objs.size f cdv))) :
    PSs (cxOf (L2.CX P w) P w K mg base ["self", "given"] "Desk.copy" (defScope s_Desk_copy) f cdv B outer s H E) (defBody s_Desk_copy) (t_Desk_copy K A E) := by
  exact (pss_cons (ps_expr (pe_cF h_need (hr.mono (by decide)) (passes_call (takes_of rfl rfl rfl rfl) (fun _ _ _ _ h => h)) (pa_cons (pe_chain op_le op_lt pe_int (pe_ix ix_list (pv 1) pe_int (fun _ _ => rfl)) (pe_callB call_len_seq (by rfl) T.bLen PySem.boot_len (pa_cons (pe_fld (pv 0) rfl) pa_nil))) (pa_cons (pe_gi T.cOUT) pa_nil)))) (pss_cons (ps_expr (pe_cM0 T.clDesk h_Desk_need_room (hr.mono (by decide)) (passes_call (takes_of rfl rfl rfl rfl) (fun _ _ _ _ h => h)) (pv 0))) (pss_one (ps_ret (pe_cM T.clDesk h_Desk_push (hr.mono (by decide)) pass0 (pv 0) (pa_cons (pe_ix ix_list (pe_fld (pv 0) rfl) (pe_op op_sub (pe_op op_sub (pe_callB call_len_seq (by rfl) T.bLen PySem.boot_len (pa_cons (pe_fld (pv 0) rfl) pa_nil)) pe_int) (pe_ix ix_list (pv 1) pe_int (fun _ _ => rfl))) (fun _ _ => rfl)) pa_nil))))))
abbrev s_Desk_swap : Stmt := inClass (topS 60) 19
theorem sc_Desk_swap : FnScope ["self"] ["self"] (defScope s_Desk_swap) := ⟨rfl, rfl, rfl, by decide +kernel, rfl, by decide +kernel, by decide +kernel⟩
theorem has_Desk_swap (T : Txt K mg A) (h_Desk_need_pictures : HvM P w K mg base (L2.CX P w) 4 A.CD "need_pictures" ["self", "many"] (sp_Desk_need_pictures K A)) (h_Desk_replace : HvM P w K mg base CX0 1 A.CD "replace" ["self", "many", "pictures"] (sp_Desk_replace K A)) {f : Addr} {cdv : Value} {B : Around} {outer : List Env} {s : Shared} {H : Hp} {E : XK} (hr : Room 4 (B.deeper (envOfC "Desk.swap" (defScope s_Desk_swap) s.heap.objs.size f cdv))) :
    PSs (cxOf (L2.CX P w) P w K mg base ["self"] "Desk.swap" (defScope s_Desk_swap) f cdv B outer s H E) (defBody s_Desk_swap) (t_Desk_swap K A E) := by
  exact (pss_cons (ps_expr (pe_cM T.clDesk h_Desk_need_pictures (hr.mono (by decide)) (passes_call (takes_of rfl rfl rfl rfl) (fun _ _ _ _ h => h)) (pv 0) (pa_cons pe_int pa_nil))) (pss_one (ps_ret (pe_cM T.clDesk h_Desk_replace (hr.mono (by decide)) pass0 (pv 0) (pa_cons pe_int (pa_cons (pe_lst (pa_cons (pe_ix ix_list (pe_fld (pv 0) rfl) (pe_un un_neg pe_int) (fun _ _ => rfl)) (pa_cons (pe_ix ix_list (pe_fld (pv 0) rfl) (pe_un un_neg pe_int) (fun _ _ => rfl)) pa_nil))) pa_nil))))))
abbrev s_Desk_drop : Stmt := inClass (topS 60) 20
theorem sc_Desk_drop : FnScope ["self"] ["self"] (defScope s_Desk_drop) := ⟨rfl, rfl, rfl, by decide +kernel, rfl, by decide +kernel, by decide +kernel⟩
theorem has_Desk_drop (T : Txt K mg A) (h_Desk_need_pictures : HvM P w K mg base (L2.CX P w) 4 A.CD "need_pictures" ["self", "many"] (sp_Desk_need_pictures K A)) (h_Desk_replace : HvM P w K mg base CX0 1 A.CD "replace" ["self", "many", "pictures"] (sp_Desk_replace K A)) {f : Addr} {cdv : Value} {B : Around} {outer : List Env} {s : Shared} {H : Hp} {E : XK} (hr : Room 4 (B.deeper (envOfC "Desk.drop" (defScope s_Desk_drop) s.heap.objs.size f cdv))) :
    PSs (cxOf (L2.CX P w) P w K mg base ["self"] "Desk.drop" (defScope s_Desk_drop) f cdv B outer s H E) (defBody s_Desk_drop) (t_Desk_drop K A E) := by
  exact (pss_cons (ps_expr (pe_cM T.clDesk h_Desk_need_pictures (hr.mono (by decide)) (passes_call (takes_of rfl rfl rfl rfl) (fun _ _ _ _ h => h)) (pv 0) (pa_cons pe_int pa_nil))) (pss_one (ps_ret (pe_cM T.clDesk h_Desk_replace (hr.mono (by decide)) pass0 (pv 0) (pa_cons pe_int (pa_cons (pe_lst pa_nil) pa_nil))))))
abbrev s_Desk_pixel : Stmt := inClass (topS 60) 21
theorem sc_Desk_pixel : FnScope ["self", "given", "channel"] ["self", "given"] (defScope s_Desk_pixel) := ⟨rfl, rfl, rfl, by decide +kernel, rfl, by decide +kernel, by decide +kernel⟩
theorem has_Desk_pixel (T : Txt K mg A) (h_Desk_size : HvM P w K mg base CX0 1 A.CD "size" ["self"] (sp_Desk_size K A)) (h_need_within : HvF P w K mg base (L2.CX P w) 4 "need_within" ["numbers", "bounds"] (sp_need_within K A)) (h_Desk_need_pictures : HvM P w K mg base (L2.CX P w) 4 A.CD "need_pictures" ["self", "many"] (sp_Desk_need_pictures K A)) (h_Size_value : HvM P w K mg base CX0 1 A.CS "value" ["self", "channel", "x", "y"] (sp_Size_value K A)) {f : Addr} {cdv : Value} {B : Around} {outer : List Env} {s : Shared} {H : Hp} {E : XK} (hr : Room 4 (B.deeper (envOfC "Desk.pixel" (defScope s_Desk_pixel) s.heap.objs.size f cdv))) :
    PSs (cxOf (L2.CX P w) P w K mg base ["self", "given", "channel"] "Desk.pixel" (defScope s_Desk_pixel) f cdv B outer s H E) (defBody s_Desk_pixel) (t_Desk_pixel K A E) := by
  exact (pss_cons (ps_expr (pe_cF h_need_within (hr.mono (by decide)) (passes_call (takes_of rfl rfl rfl rfl) (fun _ _ _ _ h => h)) (pa_cons (pv 1) (pa_cons (pe_lst (pa_cons (pe_tup (pa_cons pe_int (pa_cons (pe_op op_sub (pe_fld (pe_cM0 T.clDesk h_Desk_size (hr.mono (by decide)) pass0 (pv 0)) rfl) pe_int) pa_nil))) (pa_cons (pe_tup (pa_cons pe_int (pa_cons (pe_op op_sub (pe_fld (pe_cM0 T.clDesk h_Desk_size (hr.mono (by decide)) pass0 (pv 0)) rfl) pe_int) pa_nil))) pa_nil))) pa_nil)))) (pss_cons (ps_expr (pe_cM T.clDesk h_Desk_need_pictures (hr.mono (by decide)) (passes_call (takes_of rfl rfl rfl rfl) (fun _ _ _ _ h => h)) (pv 0) (pa_cons pe_int pa_nil))) (pss_one (ps_ret (pe_op op_cat (pe_lst (pa_cons pe_int pa_nil)) (pe_lc (own := [("channel", 2)]) (g := (gName 2)) (tt := tYes) rfl sc_Desk_pixel.nd (pi_list (pe_ix ix_list (pe_fld (pv 0) rfl) (pe_un un_neg pe_int) (fun _ _ => rfl))) (blkOk_by (N := ["self", "given", "channel"]) (sc := defScope s_Desk_pixel) (by decide +kernel)) (fun _ _ _ _ _ => (pg_name (i := 2) sc_Desk_pixel.nd rfl (Or.inl rfl))) (fun _ _ _ _ _ => pts_nil) (fun _ _ _ _ _ => (pe_cM T.clSize h_Size_value (hr.mono (by decide)) pass0 (pe_cM0 T.clDesk h_Desk_size (hr.mono (by decide)) pass0 (pv 0)) (pa_cons (pv 2) (pa_cons (pe_ix ix_list (pv 1) pe_int (fun _ _ => rfl)) (pa_cons (pe_ix ix_list (pv 1) pe_int (fun _ _ => rfl)) pa_nil)))))))))))
abbrev s_Desk_read_bytes : Stmt := inClass (topS 60) 22
theorem sc_Desk_read_bytes : FnScope ["self", "top", "spots", "found", "place", "x", "y", "channel"] ["self"] (defScope s_Desk_read_bytes) := ⟨rfl, rfl, rfl, by decide +kernel, rfl, by decide +kernel, by decide +kernel⟩
theorem has_Desk_read_bytes (T : Txt K mg A) (h_Desk_need_pictures : HvM P w K mg base (L2.CX P w) 4 A.CD "need_pictures" ["self", "many"] (sp_Desk_need_pictures K A)) (h_Desk_size : HvM P w K mg base CX0 1 A.CD "size" ["self"] (sp_Desk_size K A)) (h_Size_spots : HvM P w K mg base CX0 1 A.CS "spots" ["self"] (sp_Size_spots K A)) (h_dithered : HvF P w K mg base CX0 2 "dithered" ["value", "bits", "x", "y"] (sp_dithered K A)) {f : Addr} {cdv : Value} {B : Around} {outer : List Env} {s : Shared} {H : Hp} {E : XK} (hr : Room 4 (B.deeper (envOfC "Desk.read_bytes" (defScope s_Desk_read_bytes) s.heap.objs.size f cdv))) :
    PSs (cxOf (L2.CX P w) P w K mg base ["self", "top", "spots", "found", "place", "x", "y", "channel"] "Desk.read_bytes" (defScope s_Desk_read_bytes) f cdv B outer s H E) (defBody s_Desk_read_bytes) (t_Desk_read_bytes K A E) := by
  exact (pss_cons (ps_expr (pe_cM T.clDesk h_Desk_need_pictures (hr.mono (by decide)) (passes_call (takes_of rfl rfl rfl rfl) (fun _ _ _ _ h => h)) (pv 0) (pa_cons pe_int pa_nil))) (pss_cons (ps_par (i := 1) (j := 2) rfl sc_Desk_read_bytes.nd rfl rfl (by decide) rfl rfl (pa_cons (pe_ix ix_list (pe_fld (pv 0) rfl) (pe_un un_neg pe_int) (fun _ _ => rfl)) (pa_cons (pe_cM0 T.clSize h_Size_spots (hr.mono (by decide)) pass0 (pe_cM0 T.clDesk h_Desk_size (hr.mono (by decide)) pass0 (pv 0))) pa_nil)) (by rfl)) (pss_cons (ps_set (i := 3) sc_Desk_read_bytes.nd rfl (Or.inl rfl) (pe_lst (pa_cons (pe_op op_mul pe_int (pe_callB call_len_seq (by rfl) T.bLen PySem.boot_len (pa_cons (pv 2) pa_nil))) pa_nil))) (pss_cons (ps_for (passes_of rfl) rfl (pi_enum (by rfl) T.bEnum (pa_cons (pv 2) pa_nil)) (pg_tup rfl (pgs_cons (pg_name (i := 4) sc_Desk_read_bytes.nd rfl (Or.inr rfl)) (pgs_cons (pg_tup rfl (pgs_cons (pg_name (i := 5) sc_Desk_read_bytes.nd rfl (Or.inr rfl)) (pgs_cons (pg_name (i := 6) sc_Desk_read_bytes.nd rfl (Or.inr rfl)) pgs_nil))) pgs_nil))) (pss_one (ps_expr (pe_bm PySem.F.plainAttrs_list PySem.F.slot_list_extend PySem.F.type_list_extend mt_extend (pv 3) (pa_cons (pe_lc (own := [("channel", 7)]) (g := (gName 7)) (tt := tYes) rfl sc_Desk_read_bytes.nd (pi_list (pv 1)) (blkOk_by (N := ["self", "top", "spots", "found", "place", "x", "y", "channel"]) (sc := defScope s_Desk_read_bytes) (by decide +kernel)) (fun _ _ _ _ _ => (pg_name (i := 7) sc_Desk_read_bytes.nd rfl (Or.inl rfl))) (fun _ _ _ _ _ => pts_nil) (fun _ _ _ _ _ => (pe_cF h_dithered (hr.mono (by decide)) pass0 (pa_cons (pe_ix ix_list (pv 7) (pv 4) (fun _ _ => rfl)) (pa_cons pe_int (pa_cons (pv 5) (pa_cons (pv 6) pa_nil))))))) pa_nil))))) (pss_one (ps_ret (pv 3)))))))
abbrev s_Desk_read_words : Stmt := inClass (topS 60) 23
theorem sc_Desk_read_words : FnScope ["self", "top", "spots", "found", "place", "x", "y", "r", "b"] ["self"] (defScope s_Desk_read_words) := ⟨rfl, rfl, rfl, by decide +kernel, rfl, by decide +kernel, by decide +kernel⟩
theorem has_Desk_read_words (T : Txt K mg A) (h_Desk_need_pictures : HvM P w K mg base (L2.CX P w) 4 A.CD "need_pictures" ["self", "many"] (sp_Desk_need_pictures K A)) (h_Desk_size : HvM P w K mg base CX0 1 A.CD "size" ["self"] (sp_Desk_size K A)) (h_Size_spots : HvM P w K mg base CX0 1 A.CS "spots" ["self"] (sp_Size_spots K A)) (h_dithered : HvF P w K mg base CX0 2 "dithered" ["value", "bits", "x", "y"] (sp_dithered K A)) {f : Addr} {cdv : Value} {B : Around} {outer : List Env} {s : Shared} {H : Hp} {E : XK} (hr : Room 4 (B.deeper (envOfC "Desk.read_words" (defScope s_Desk_read_words) s.heap.objs.size f cdv))) :
    PSs (cxOf (L2.CX P w) P w K mg base ["self", "top", "spots", "found", "place", "x", "y", "r", "b"] "Desk.read_words" (defScope s_Desk_read_words) f cdv B outer s H E) (defBody s_Desk_read_words) (t_Desk_read_words K A E) := by
  exact (pss_cons (ps_expr (pe_cM T.clDesk h_Desk_need_pictures (hr.mono (by decide)) (passes_call (takes_of rfl rfl rfl rfl) (fun _ _ _ _ h => h)) (pv 0) (pa_cons pe_int pa_nil))) (pss_cons (ps_par (i := 1) (j := 2) rfl sc_Desk_read_words.nd rfl rfl (by decide) rfl rfl (pa_cons (pe_ix ix_list (pe_fld (pv 0) rfl) (pe_un un_neg pe_int) (fun _ _ => rfl)) (pa_cons (pe_cM0 T.clSize h_Size_spots (hr.mono (by decide)) pass0 (pe_cM0 T.clDesk h_Desk_size (hr.mono (by decide)) pass0 (pv 0))) pa_nil)) (by rfl)) (pss_cons (ps_set (i := 3) sc_Desk_read_words.nd rfl (Or.inl rfl) (pe_lst (pa_cons (pe_callB call_len_seq (by rfl) T.bLen PySem.boot_len (pa_cons (pv 2) pa_nil)) pa_nil))) (pss_cons (ps_for (passes_of rfl) rfl (pi_enum (by rfl) T.bEnum (pa_cons (pv 2) pa_nil)) (pg_tup rfl (pgs_cons (pg_name (i := 4) sc_Desk_read_words.nd rfl (Or.inl rfl)) (pgs_cons (pg_tup rfl (pgs_cons (pg_name (i := 5) sc_Desk_read_words.nd rfl (Or.inl rfl)) (pgs_cons (pg_name (i := 6) sc_Desk_read_words.nd rfl (Or.inl rfl)) pgs_nil))) pgs_nil))) (pss_cons (ps_par (i := 7) (j := 8) rfl sc_Desk_read_words.nd rfl rfl (by decide) rfl rfl (pa_cons (pe_cF h_dithered (hr.mono (by decide)) pass0 (pa_cons (pe_ix ix_list (pe_ix ix_list (pv 1) pe_int (fun _ _ => rfl)) (pv 4) (fun _ _ => rfl)) (pa_cons pe_int (pa_cons (pv 5) (pa_cons (pv 6) pa_nil))))) (pa_cons (pe_cF h_dithered (hr.mono (by decide)) pass0 (pa_cons (pe_ix ix_list (pe_ix ix_list (pv 1) pe_int (fun _ _ => rfl)) (pv 4) (fun _ _ => rfl)) (pa_cons pe_int (pa_cons (pv 5) (pa_cons (pv 6) pa_nil))))) pa_nil)) (by rfl)) (pss_one (ps_expr (pe_bm PySem.F.plainAttrs_list PySem.F.slot_list_append PySem.F.type_list_append mt_append (pv 3) (pa_cons (pe_op op_add (pe_op op_add (pe_op op_mul pe_int (pv 7)) (pe_op op_mul pe_int (pe_cF h_dithered (hr.mono (by decide)) pass0 (pa_cons (pe_ix ix_list (pe_ix ix_list (pv 1) pe_int (fun _ _ => rfl)) (pv 4) (fun _ _ => rfl)) (pa_cons pe_int (pa_cons (pv 5) (pa_cons (pv 6) pa_nil))))))) (pv 8)) pa_nil)))))) (pss_one (ps_ret (pv 3)))))))
abbrev s_Desk_early : Stmt := inClass (topS 60) 24
theorem sc_Desk_early : FnScope ["self", "place", "given"] ["self", "place", "given"] (defScope s_Desk_early) := ⟨rfl, rfl, rfl, by decide +kernel, rfl, by decide +kernel, by decide +kernel⟩
theorem has_Desk_early (T : Txt K mg A) (h_Desk_flat : HvM P w K mg base (L2.CX P w) 5 A.CD "flat" ["self", "colour"] (sp_Desk_flat K A)) (h_Desk_noise : HvM P w K mg base (L2.CX P w) 5 A.CD "noise" ["self", "given"] (sp_Desk_noise K A)) (h_Desk_glow : HvM P w K mg base (L2.CX P w) 5 A.CD "glow" ["self", "given"] (sp_Desk_glow K A)) (h_Desk_box : HvM P w K mg base (L2.CX P w) 5 A.CD "box" ["self", "given"] (sp_Desk_box K A)) (h_Desk_blur : HvM P w K mg base (L2.CX P w) 5 A.CD "blur" ["self", "given"] (sp_Desk_blur K A)) (h_Desk_turn : HvM P w K mg base (L2.CX P w) 5 A.CD "turn" ["self", "given"] (sp_Desk_turn K A)) (h_Desk_bend : HvM P w K mg base (L2.CX P w) 5 A.CD "bend" ["self", "given"] (sp_Desk_bend K A)) (h_Desk_join : HvM P w K mg base (L2.CX P w) 5 A.CD "join" ["self", "given"] (sp_Desk_join K A)) {f : Addr} {cdv : Value} {B : Around} {outer : List Env} {s : Shared} {H : Hp} {E : XK} (hr : Room 5 (B.deeper (envOfC "Desk.early" (defScope s_Desk_early) s.heap.objs.size f cdv))) :
    PSs (cxOf (L2.CX P w) P w K mg base ["self", "place", "given"] "Desk.early" (defScope s_Desk_early) f cdv B outer s H E) (defBody s_Desk_early) (t_Desk_early K A E) := by
  exact (pss_cons (ps_if (pt_cmpR op_eq (pv 1) pe_int (nomark _)) (pss_one (ps_ret (pe_cM T.clDesk h_Desk_flat (hr.mono (by decide)) (passes_call (takes_of rfl rfl rfl rfl) (fun _ _ _ _ h => h)) (pv 0) (pa_cons (pv 2) pa_nil)))) pss_nil) (pss_cons (ps_if (pt_cmpR op_eq (pv 1) pe_int (nomark _)) (pss_one (ps_ret (pe_cM T.clDesk h_Desk_noise (hr.mono (by decide)) (passes_call (takes_of rfl rfl rfl rfl) (fun _ _ _ _ h => h)) (pv 0) (pa_cons (pv 2) pa_nil)))) pss_nil) (pss_cons (ps_if (pt_cmpR op_eq (pv 1) pe_int (nomark _)) (pss_one (ps_ret (pe_cM T.clDesk h_Desk_glow (hr.mono (by decide)) (passes_call (takes_of rfl rfl rfl rfl) (fun _ _ _ _ h => h)) (pv 0) (pa_cons (pv 2) pa_nil)))) pss_nil) (pss_cons (ps_if (pt_cmpR op_eq (pv 1) pe_int (nomark _)) (pss_one (ps_ret (pe_cM T.clDesk h_Desk_box (hr.mono (by decide)) (passes_call (takes_of rfl rfl rfl rfl) (fun _ _ _ _ h => h)) (pv 0) (pa_cons (pv 2) pa_nil)))) pss_nil) (pss_cons (ps_if (pt_cmpR op_eq (pv 1) pe_int (nomark _)) (pss_one (ps_ret (pe_cM T.clDesk h_Desk_blur (hr.mono (by decide)) (passes_call (takes_of rfl rfl rfl rfl) (fun _ _ _ _ h => h)) (pv 0) (pa_cons (pv 2) pa_nil)))) pss_nil) (pss_cons (ps_if (pt_cmpR op_eq (pv 1) pe_int (nomark _)) (pss_one (ps_ret (pe_cM T.clDesk h_Desk_turn (hr.mono (by decide)) (passes_call (takes_of rfl rfl rfl rfl) (fun _ _ _ _ h => h)) (pv 0) (pa_cons (pv 2) pa_nil)))) pss_nil) (pss_one (ps_ret (pe_ifExp (pt_cmpR op_eq (pv 1) pe_int (nomark _)) (pe_cM T.clDesk h_Desk_bend (hr.mono (by decide)) (passes_call (takes_of rfl rfl rfl rfl) (fun _ _ _ _ h => h)) (pv 0) (pa_cons (pv 2) pa_nil)) (pe_cM T.clDesk h_Desk_join (hr.mono (by decide)) (passes_call (takes_of rfl rfl rfl rfl) (fun _ _ _ _ h => h)) (pv 0) (pa_cons (pv 2) pa_nil)))))))))))
abbrev s_Desk_later : Stmt := inClass (topS 60) 25
theorem sc_Desk_later : FnScope ["self", "place", "given"] ["self", "place", "given"] (defScope s_Desk_later) := ⟨rfl, rfl, rfl, by decide +kernel, rfl, by decide +kernel, by decide +kernel⟩
theorem has_Desk_later (T : Txt K mg A) (h_Desk_levels : HvM P w K mg base (L2.CX P w) 5 A.CD "levels" ["self", "given"] (sp_Desk_levels K A)) (h_Desk_colour : HvM P w K mg base (L2.CX P w) 5 A.CD "colour" ["self", "given"] (sp_Desk_colour K A)) (h_Desk_light : HvM P w K mg base (L2.CX P w) 5 A.CD "light" ["self", "given"] (sp_Desk_light K A)) (h_Desk_copy : HvM P w K mg base (L2.CX P w) 5 A.CD "copy" ["self", "given"] (sp_Desk_copy K A)) (h_Desk_swap : HvM P w K mg base (L2.CX P w) 5 A.CD "swap" ["self"] (sp_Desk_swap K A)) (h_Desk_drop : HvM P w K mg base (L2.CX P w) 5 A.CD "drop" ["self"] (sp_Desk_drop K A)) (h_Desk_pixel : HvM P w K mg base (L2.CX P w) 5 A.CD "pixel" ["self", "given"] (sp_Desk_pixel K A)) (h_Desk_read_bytes : HvM P w K mg base (L2.CX P w) 5 A.CD "read_bytes" ["self"] (sp_Desk_read_bytes K A)) (h_Desk_read_words : HvM P w K mg base (L2.CX P w) 5 A.CD "read_words" ["self"] (sp_Desk_read_words K A)) {f : Addr} {cdv : Value} {B : Around} {outer : List Env} {s : Shared} {H : Hp} {E : XK} (hr : Room 5 (B.deeper (envOfC "Desk.later" (defScope s_Desk_later) s.heap.objs.size f cdv))) :
    PSs (cxOf (L2.CX P w) P w K mg base ["self", "place", "given"] "Desk.later" (defScope s_Desk_later) f cdv B outer s H E) (defBody s_Desk_later) (t_Desk_later K A E) := by
  exact (pss_cons (ps_if (pt_cmpR op_eq (pv 1) pe_int (nomark _)) (pss_one (ps_ret (pe_cM T.clDesk h_Desk_levels (hr.mono (by decide)) (passes_call (takes_of rfl rfl rfl rfl) (fun _ _ _ _ h => h)) (pv 0) (pa_cons (pv 2) pa_nil)))) pss_nil) (pss_cons (ps_if (pt_cmpR op_eq (pv 1) pe_int (nomark _)) (pss_one (ps_ret (pe_cM T.clDesk h_Desk_colour (hr.mono (by decide)) (passes_call (takes_of rfl rfl rfl rfl) (fun _ _ _ _ h => h)) (pv 0) (pa_cons (pv 2) pa_nil)))) pss_nil) (pss_cons (ps_if (pt_cmpR op_eq (pv 1) pe_int (nomark _)) (pss_one (ps_ret (pe_cM T.clDesk h_Desk_light (hr.mono (by decide)) (passes_call (takes_of rfl rfl rfl rfl) (fun _ _ _ _ h => h)) (pv 0) (pa_cons (pv 2) pa_nil)))) pss_nil) (pss_cons (ps_if (pt_cmpR op_eq (pv 1) pe_int (nomark _)) (pss_one (ps_ret (pe_cM T.clDesk h_Desk_copy (hr.mono (by decide)) (passes_call (takes_of rfl rfl rfl rfl) (fun _ _ _ _ h => h)) (pv 0) (pa_cons (pv 2) pa_nil)))) pss_nil) (pss_cons (ps_if (pt_cmpR op_eq (pv 1) pe_int (nomark _)) (pss_one (ps_ret (pe_cM0 T.clDesk h_Desk_swap (hr.mono (by decide)) (passes_call (takes_of rfl rfl rfl rfl) (fun _ _ _ _ h => h)) (pv 0)))) pss_nil) (pss_cons (ps_if (pt_cmpR op_eq (pv 1) pe_int (nomark _)) (pss_one (ps_ret (pe_cM0 T.clDesk h_Desk_drop (hr.mono (by decide)) (passes_call (takes_of rfl rfl rfl rfl) (fun _ _ _ _ h => h)) (pv 0)))) pss_nil) (pss_cons (ps_if (pt_cmpR op_eq (pv 1) pe_int (nomark _)) (pss_one (ps_ret (pe_cM T.clDesk h_Desk_pixel (hr.mono (by decide)) (passes_call (takes_of rfl rfl rfl rfl) (fun _ _ _ _ h => h)) (pv 0) (pa_cons (pv 2) pa_nil)))) pss_nil) (pss_one (ps_ret (pe_ifExp (pt_cmpR op_eq (pv 1) pe_int (nomark _)) (pe_cM0 T.clDesk h_Desk_read_bytes (hr.mono (by decide)) (passes_call (takes_of rfl rfl rfl rfl) (fun _ _ _ _ h => h)) (pv 0)) (pe_cM0 T.clDesk h_Desk_read_words (hr.mono (by decide)) (passes_call (takes_of rfl rfl rfl rfl) (fun _ _ _ _ h => h)) (pv 0))))))))))))
abbrev s_Desk_answer : Stmt := inClass (topS 60) 26
theorem sc_Desk_answer : FnScope ["self", "place", "given", "refused"] ["self", "place", "given"] (defScope s_Desk_answer) := ⟨rfl, rfl, rfl, by decide +kernel, rfl, by decide +kernel, by decide +kernel⟩
theorem has_Desk_answer (T : Txt K mg A) (h_Desk_open_stack : HvM P w K mg base (L2.CX P w) 5 A.CD "open_stack" ["self", "a", "b"] (sp_Desk_open_stack K A)) (h_need : HvF P w K mg base (L2.CX P w) 3 "need" ["is_right", "code"] (sp_need K A)) (h_Desk_early : HvM P w K mg base (L2.CX P w) 6 A.CD "early" ["self", "place", "given"] (sp_Desk_early K A)) (h_Desk_later : HvM P w K mg base (L2.CX P w) 6 A.CD "later" ["self", "place", "given"] (sp_Desk_later K A)) {f : Addr} {cdv : Value} {B : Around} {outer : List Env} {s : Shared} {H : Hp} {E : XK} (hr : Room 6 (B.deeper (envOfC "Desk.answer" (defScope s_Desk_answer) s.heap.objs.size f cdv))) :
    PSs (cxOf CX0 P w K mg base ["self", "place", "given", "refused"] "Desk.answer" (defScope s_Desk_answer) f cdv B outer s H E).nox (defBody s_Desk_answer) (t_Desk_answer K A) := by
  exact (pss_one (ps_try_as (i := 3) (tb := fun W => (tSeq (tIfS (tTest (tOp rEq (tVar 1) (tC (.int 1)))) (tRet (tMethT A.CD "open_stack" (sp_Desk_open_stack K A) (WE W) (tVar 0) (tCons (tOp (rIxL K) (tVar 2) (tC (.int 0))) (tCons (tOp (rIxL K) (tVar 2) (tC (.int 1))) tNil)))) tNext) (tSeq (tDrop (tCallS (sp_need K A) (WE W) (tCons (tOp (rNeE K) (tFld K (tVar 0) "sizes") (tLst tNil)) (tCons (tC (.int (-7))) tNil)))) (tRet (tIf (tTest (tOp oLt (tVar 1) (tC (.int 10)))) (tMethT A.CD "early" (sp_Desk_early K A) (WE W) (tVar 0) (tCons (tVar 1) (tCons (tVar 2) tNil))) (tMethT A.CD "later" (sp_Desk_later K A) (WE W) (tVar 0) (tCons (tVar 1) (tCons (tVar 2) tNil)))))))) (ts := fun a cls d => (tRet (tLst (tCons (tXf a cls d A.CR "code" (tVar 3)) tNil)))) (Wout := fun _ _ _ _ => False) rfl rfl sc_Desk_answer.nd rfl rfl ⟨rfl, by decide, Or.inl T.gRefused⟩ takes0 (fun W pn xe tk _ => (pss_cons (ps_if (pt_cmpR op_eq (pv 1) pe_int (nomark _)) (pss_one (ps_ret (pe_cMT T.clDesk h_Desk_open_stack (hr.mono (by decide)) (fun σ => passAt tk σ) (pv 0) (pa_cons (pe_ix ix_list (pv 2) pe_int (fun _ _ => rfl)) (pa_cons (pe_ix ix_list (pv 2) pe_int (fun _ _ => rfl)) pa_nil))))) pss_nil) (pss_cons (ps_expr (pe_cFS h_need (hr.mono (by decide)) (fun σ => passAt tk σ) (pa_cons (pe_cmpR (op_neE hr.un0) (pe_fld (pv 0) rfl) (pe_lst pa_nil) (nomark _)) (pa_cons (pe_gi T.cNO_STACK) pa_nil)))) (pss_one (ps_ret (pe_ifExp (pt_cmpR op_lt (pv 1) pe_int (nomark _)) (pe_cMT T.clDesk h_Desk_early (hr.mono (by decide)) (fun σ => passAt tk σ) (pv 0) (pa_cons (pv 1) (pa_cons (pv 2) pa_nil))) (pe_cMT T.clDesk h_Desk_later (hr.mono (by decide)) (fun σ => passAt tk σ) (pv 0) (pa_cons (pv 1) (pa_cons (pv 2) pa_nil))))))))) (fun a oe cls d pn hz hf => (pss_one (ps_ret (pe_lst (pa_cons (pe_xf T.xf T.noCode hz hf (pv 3)) pa_nil)))))))
abbrev s_answers : Stmt := topS 63
theorem sc_answers : FnScope ["calls", "desk", "at", "found", "many", "answer"] ["calls"] (defScope s_answers) := ⟨rfl, rfl, rfl, by decide +kernel, rfl, by decide +kernel, by decide +kernel⟩
theorem has_answers (T : Txt K mg A) (h_Desk___init__ : HvC P w K mg base CX0 1 A.CD "Desk" ["self"] (sp_Desk___init__ K A)) (h_Desk_answer : HvM P w K mg base CX0 7 A.CD "answer" ["self", "place", "given"] (sp_Desk_answer K A)) {f : Addr} {cdv : Value} {B : Around} {outer : List Env} {s : Shared} {H : Hp} {E : XK} (hr : Room 7 (B.deeper (envOfC "answers" (defScope s_answers) s.heap.objs.size f cdv))) :
    PSs (cxOf CX0 P w K mg base ["calls", "desk", "at", "found", "many", "answer"] "answers" (defScope s_answers) f cdv B outer s H E).nox (defBody s_answers) (t_answers K A) := by
  exact (pss_cons (ps_par3 (i := 1) (j := 2) (l := 3) rfl sc_answers.nd rfl rfl rfl (by decide) (by decide) (by decide) rfl rfl rfl (pa_cons (pe_cC0 h_Desk___init__ (hr.mono (by decide)) pass0) (pa_cons pe_int (pa_cons (pe_lst pa_nil) pa_nil))) (by rfl)) (pss_cons (ps_while PassesOwn.never (pt_cmpR op_lt (pv 2) (pe_callB call_len_seq (by rfl) T.bLen PySem.boot_len (pa_cons (pv 0) pa_nil)) (nomark _)) (pss_cons (ps_set (i := 4) sc_answers.nd rfl (Or.inl rfl) (pe_ix ix_tup (pe_gr T.gGIVEN) (pe_ix ix_list (pv 0) (pv 2) (fun _ _ => rfl)) (fun _ _ => rfl))) (pss_cons (ps_set (i := 5) sc_answers.nd rfl (Or.inl rfl) (pe_cM T.clDesk h_Desk_answer (hr.mono (by decide)) pass0 (pv 1) (pa_cons (pe_ix ix_list (pv 0) (pv 2) (fun _ _ => rfl)) (pa_cons (pe_slice sl_list (pv 0) (po_some (pe_op op_add (pv 2) pe_int)) (po_some (pe_op op_add (pe_op op_add (pv 2) pe_int) (pv 4)))) pa_nil)))) (pss_cons (ps_set (i := 2) sc_answers.nd rfl (Or.inl rfl) (pe_op op_add (pe_op op_add (pv 2) pe_int) (pv 4))) (pss_cons (ps_expr (pe_bm PySem.F.plainAttrs_list PySem.F.slot_list_append PySem.F.type_list_append mt_append (pv 3) (pa_cons (pe_callB call_len_seq (by rfl) T.bLen PySem.boot_len (pa_cons (pv 5) pa_nil)) pa_nil))) (pss_one (ps_expr (pe_bm PySem.F.plainAttrs_list PySem.F.slot_list_extend PySem.F.type_list_extend mt_extend (pv 3) (pa_cons (pv 5) pa_nil))))))))) (pss_one (ps_ret (pv 3)))))
end
end GT
end
section
set_option Elab.async false
set_option linter.all false
set_option maxRecDepth 100000
set_option maxHeartbeats 2000000
/-! statements over a base: the heap H is known, the statement runs from H1, which knows it too -/
namespace GT
open PySem PySem.Spec PyProof.Rows L2
open Evl (Ex Ev EvL EvU EvT EvA EvO RV RU RC ev_var ev_c ev_op ev_un et_test et_B et_not ev_if ea_nil ea_cons eo_none eo_some ev_cb fresh_back sq_of st_of ev_andV)
variable {K : PySem.W.Frag} {A : Ad} {mg : Str → Option Value} {σ : L2.St} {H H1 H2 H' : Hp} {ta tb te tl tc : TE} {t u : TT} {x y z v w : V} {D : Ends} {tu tw tz tbd : TS} {g : TG} {ar : TA} {i j l : Nat}
theorem ea_one (h : Ev ta σ H x) : EvA (tCons ta tNil) σ H [x] := ea_cons h ea_nil
theorem ea_two (h : Ev ta σ H x) (h2 : Ev tb σ H y) : EvA (tCons ta (tCons tb tNil)) σ H [x, y] := ea_cons h (ea_one h2)
theorem ea_three (h : Ev ta σ H x) (h2 : Ev tb σ H y) (h3 : Ev tc σ H z) : EvA (tCons ta (tCons tb (tCons tc tNil))) σ H [x, y, z] := ea_cons h (ea_two h2 h3)
theorem b_asg (h : Ev te σ H v) (e : Ex H H1) (k : ∀ H2, Ex H H2 → tz D (σ.set i (some v)) H2) : tSeq (tAsg te (gName i)) tz D σ H1 := h H1 e _ fun H2 e2 => k H2 (e.trans e2)
theorem b_asgN (h : Ev te σ H v) (e : Ex H H1) (k : ∀ H2, Ex H H2 → D.nx (σ.set i (some v)) H2) : tAsg te (gName i) D σ H1 := h H1 e _ fun H2 e2 => k H2 (e.trans e2)
theorem b_asgL {xs : List V} (h : EvL te σ H xs) (e : Ex H H1) (k : ∀ p H2, H1 p = none → Ex H1 H2 → H2 p = some (.lst xs) → tz D (σ.set i (some (.ref p))) H2) : tSeq (tAsg te (gName i)) tz D σ H1 := h H1 e _ fun p H2 hp e2 h2 => k p H2 hp e2 h2
theorem b_ret (h : Ev te σ H v) (e : Ex H H1) (k : ∀ H2, Ex H H2 → D.rt v H2) : tRet te D σ H1 := h H1 e _ fun H2 e2 => k H2 (e.trans e2)
theorem b_retP {P : V → Hp → Prop} (h : EvP te σ H P) (e : Ex H H1) (k : ∀ v H2, Ex H H2 → P v H2 → D.rt v H2) : tRet te D σ H1 := h H1 e _ fun v H2 e2 p => k v H2 (e.trans e2) p
theorem b_retL {xs : List V} (h : EvL te σ H xs) (e : Ex H H1) (k : ∀ p H2, H p = none → Ex H H2 → H2 p = some (.lst xs) → D.rt (.ref p) H2) : tRet te D σ H1 := h H1 e _ fun p H2 hp e2 h2 => k p H2 (fresh_back e hp) (e.trans e2) h2
theorem b_par (h : Ev ta σ H v) (h2 : Ev tb σ H w) (e : Ex H H1) (k : ∀ H2, Ex H H2 → tz D ((σ.set i (some v)).set j (some w)) H2) : tSeq (tPar i j (tCons ta (tCons tb tNil))) tz D σ H1 := by
  show tCons ta (tCons tb tNil) σ H1 fun vs H2 => ∃ v w, vs = [v, w] ∧ tz D ((σ.set i (some v)).set j (some w)) H2
  exact (ea_two h h2) H1 e _ fun H2 e2 => ⟨v, w, rfl, k H2 (e.trans e2)⟩
theorem b_drop {tz : TS} (h : Ev te σ H v) (e : Ex H H1) (k : ∀ H2, Ex H H2 → tz D σ H2) : tSeq (tDrop te) tz D σ H1 := h H1 e _ fun H2 e2 => k H2 (e.trans e2)
/-- if c: return .. (no else) -/
theorem b_when {b : Bool} (h : EvT t σ H b) (e : Ex H H1) (h1 : b = true → ∀ H2, Ex H H2 → tu { D with nx := tz D } σ H2) (h2 : b = false → ∀ H2, Ex H H2 → tz D σ H2) : tSeq (tIfS t tu tNext) tz D σ H1 :=
  h H1 e _ fun H2 e2 => by
    cases b with
    | true => exact h1 rfl H2 (e.trans e2)
    | false => exact h2 rfl H2 (e.trans e2)
theorem et_lt {i j : Int} (ha : Ev ta σ H (.int i)) (hb : Ev tb σ H (.int j)) : EvT (tTest (tOp oLt ta tb)) σ H (decide (i < j)) := et_test (ev_op ha hb rv_lt)
theorem et_le {i j : Int} (ha : Ev ta σ H (.int i)) (hb : Ev tb σ H (.int j)) : EvT (tTest (tOp oLe ta tb)) σ H (decide (i ≤ j)) := et_test (ev_op ha hb rv_le)
theorem et_ge {i j : Int} (ha : Ev ta σ H (.int i)) (hb : Ev tb σ H (.int j)) : EvT (tTest (tOp oGe ta tb)) σ H (decide (j ≤ i)) := et_test (ev_op ha hb rv_ge)
theorem et_eq {i j : Int} (ha : Ev ta σ H (.int i)) (hb : Ev tb σ H (.int j)) : EvT (tTest (tOp rEq ta tb)) σ H (decide (i = j)) := et_test (ev_op ha hb rv_eqI)
/-- calls that hand back an int -/
theorem ev_spI {R : List V → Hp → Int → Prop} {E : XK} {vs : List V} {n : Int} (h : EvA ar σ H vs) (hr : ∀ H1, Ex H H1 → R vs H1 n) : Ev (tCall (SpI R) [] E ar) σ H (.int n) := fun H1 e Q q =>
  h H1 e _ fun H2 e2 => ⟨n, by rw [List.append_nil]; exact hr H2 (e.trans e2), fun H3 e3 => q H3 (e2.trans e3)⟩
theorem ev_spIm {R : List V → Hp → Int → Prop} {E : XK} {vs : List V} {n : Int} {a C dx : Addr} {fs : List (Str × V)} {m : Str} (ho : Ev ta σ H (.ref a)) (h : EvA ar σ H vs) (hI : H a = some (.ins C dx fs)) (hm : fs.lookup m = none) (hr : ∀ H1, Ex H H1 → R (.ref a :: vs) H1 n) :
    Ev (tMeth C m (SpI R) [] E ta ar) σ H (.int n) := fun H1 e Q q =>
  ho H1 e _ fun H2 e2 => ⟨a, dx, fs, rfl, e2 a _ (e a _ hI), hm, h H2 (e.trans e2) _ fun H3 e3 => ⟨n, by rw [List.append_nil]; exact hr H3 ((e.trans e2).trans e3), fun H4 e4 => q H4 ((e2.trans e3).trans e4)⟩⟩
theorem el_spN {R : List V → Hp → Nat → (Nat → Int) → Prop} {E : XK} {vs : List V} {n : Nat} {f : Nat → Int} (h : EvA ar σ H vs) (hr : ∀ H1, Ex H H1 → R vs H1 n f) : EvL (tCall (SpN R) [] E ar) σ H (chV n f) := fun H1 e Q q =>
  h H1 e _ fun H2 e2 => ⟨n, f, by rw [List.append_nil]; exact hr H2 (e.trans e2), fun p H3 hp e3 h3 => q p H3 (fresh_back e2 hp) (e2.trans e3) h3⟩
theorem ep_spP {R : Addr → List V → Hp → Nat → Pct → Prop} {E : XK} {vs : List V} {u : Addr} {n : Nat} {F : Pct} (hu : Al H u) (h : EvA ar σ H vs) (hr : ∀ H1, Ex H H1 → R u vs H1 n F) : EvP (tCall (SpP R) [] E ar) σ H (fun v H' => ∃ p, v = .ref p ∧ PicAt u H' p n F) := fun H1 e Q q =>
  h H1 e _ fun H2 e2 => ⟨u, n, F, hu.ex (e.trans e2), by rw [List.append_nil]; exact hr H2 (e.trans e2), fun p H3 e3 h3 => q _ H3 (e2.trans e3) ⟨p, rfl, h3⟩⟩
end GT
end
section
set_option Elab.async false
set_option linter.all false
set_option maxRecDepth 100000
set_option maxHeartbeats 2000000
/-! the promise of each def gives its reading: the defs that reckon one number -/
namespace GT
open PySem PySem.Spec PyProof.Rows L2
open Evl (Ex Ev EvL EvU EvT EvA EvO RV RU RC ev_var ev_c ev_op ev_un et_test et_B et_not ev_if ea_nil ea_cons eo_none eo_some ev_cb fresh_back sq_of st_of ev_andV)
variable {K : PySem.W.Frag} {A : Ad} {mg : Str → Option Value} {vs : List V} {H : Hp} {Q : VK} {E : XK}
abbrev DE (Q : VK) : Ends := { nx := fun _ H' => Q .non H', rt := Q }
theorem len_clamped (h : sp_clamped K A vs H Q E) : vs.length = 1 := by obtain ⟨_, ⟨_, rfl, _⟩, _⟩ := h; rfl
theorem pure_clamped (T : Txt K mg A) (h : sp_clamped K A vs H Q E) : t_clamped K A (DE Q) (start ["value"] vs) H := by
  obtain ⟨z, ⟨x, rfl, rfl⟩, q⟩ := h
  exact b_ret (ev_max ev_c (ev_min (ev_var rfl) ev_c)) (Ex.refl H) q
theorem len_nearest (h : sp_nearest K A vs H Q E) : vs.length = 2 := by obtain ⟨_, ⟨_, _, rfl, _⟩, _⟩ := h; rfl
theorem pure_nearest (T : Txt K mg A) (h : sp_nearest K A vs H Q E) : t_nearest K A (DE Q) (start ["top", "bottom"] vs) H := by
  obtain ⟨z, ⟨a, b, rfl, h1, h2, rfl⟩, q⟩ := h
  exact b_ret (ev_op (ev_op (ev_op ev_c (ev_var rfl) (rv_mul (by unfold CMul; omega))) (ev_var rfl) rv_add) (ev_op ev_c (ev_var rfl) (rv_mul (by unfold CMul; omega))) (rv_div (by unfold CDiv; omega))) (Ex.refl H) q
theorem len_between (h : sp_between K A vs H Q E) : vs.length = 3 := by obtain ⟨_, ⟨_, _, _, rfl, _⟩, _⟩ := h; rfl
theorem pure_between (T : Txt K mg A) (h : sp_between K A vs H Q E) : t_between K A (DE Q) (start ["one", "other", "u"] vs) H := by
  obtain ⟨z, ⟨a, b, u, rfl, h1, h2, rfl⟩, q⟩ := h
  exact b_ret (ev_op (ev_op (ev_op (ev_var rfl) (ev_op ev_c (ev_var rfl) rv_sub) (rv_mul (by unfold CMul; omega))) (ev_op (ev_var rfl) (ev_var rfl) (rv_mul (by unfold CMul; omega))) rv_add) ev_c (rv_div (by unfold CDiv; omega))) (Ex.refl H) q
theorem len_smooth (h : sp_smooth K A vs H Q E) : vs.length = 1 := by obtain ⟨_, ⟨_, rfl, _⟩, _⟩ := h; rfl
theorem pure_smooth (T : Txt K mg A) (h : sp_smooth K A vs H Q E) : t_smooth K A (DE Q) (start ["t"] vs) H := by
  obtain ⟨z, ⟨t, rfl, h1, h2, rfl⟩, q⟩ := h
  exact b_ret (ev_op (ev_op (ev_op (ev_op (ev_var rfl) (ev_var rfl) (rv_mul (by unfold CMul; omega))) ev_c (rv_div (by unfold CDiv; omega))) (ev_op ev_c (ev_op ev_c (ev_var rfl) (rv_mul (by unfold CMul; omega))) rv_sub) (rv_mul (by unfold CMul; omega))) ev_c (rv_div (by unfold CDiv; omega))) (Ex.refl H) q
theorem len_mixed (h : sp_mixed K A vs H Q E) : vs.length = 4 := by obtain ⟨_, ⟨_, _, _, _, rfl, _⟩, _⟩ := h; rfl
theorem xor_nat {a b : Int} (h : 0 ≤ a) (h2 : 0 ≤ b) : Builtin.bitXor a b = mXor a b := by
  rw [Bits.bitXor_pp h h2]
  rfl
theorem pure_mixed (T : Txt K mg A) (h : sp_mixed K A vs H Q E) : t_mixed K A (DE Q) (start ["seed", "a", "b", "layer", "n", "m"] vs) H := by
  obtain ⟨z, ⟨a, b, c, d, rfl, rfl⟩, q⟩ := h
  refine b_asg (ev_op (ev_op (ev_op (ev_op (ev_op ev_c (ev_var rfl) (rv_mul (by unfold CMul; omega))) (ev_op ev_c (ev_var rfl) (rv_mul (by unfold CMul; omega))) rv_add) (ev_op ev_c (ev_var rfl) (rv_mul (by unfold CMul; omega))) rv_add) (ev_op ev_c (ev_var rfl) (rv_mul (by unfold CMul; omega))) rv_add) ev_c (rv_mod (by omega))) (Ex.refl H) fun H1 e1 => ?_
  generalize hn : (2654435761 * a + 374761393 * b + 668265263 * c + 2246822519 * d) % 4294967296 = n
  have n0 : 0 ≤ n := by omega
  refine b_asg (ev_op (ev_op (ev_op (ev_var rfl) (ev_op (ev_var rfl) ev_c (rv_div (by unfold CDiv; omega))) rv_xor) ev_c (rv_mul (by unfold CMul; omega))) ev_c (rv_mod (by omega))) e1 fun H2 e2 => ?_
  rw [xor_nat n0 (by omega)]
  generalize hm : mXor n (n / 32768) * 2246822519 % 4294967296 = m
  have m0 : 0 ≤ m := by omega
  refine b_ret (ev_op (ev_op (ev_op (ev_op (ev_var rfl) (ev_op (ev_var rfl) ev_c (rv_div (by unfold CDiv; omega))) rv_xor) ev_c (rv_mul (by unfold CMul; omega))) ev_c (rv_mod (by omega))) ev_c (rv_div (by unfold CDiv; omega))) e2 fun H3 e3 => ?_
  rw [xor_nat m0 (by omega)]
  have g := q H3 e3
  unfold mMixed at g
  rw [hn] at g
  simp only [hm] at g
  exact g
theorem len_levelled (h : sp_levelled K A vs H Q E) : vs.length = 3 := by obtain ⟨_, ⟨_, _, _, rfl, _⟩, _⟩ := h; rfl
theorem pure_levelled (T : Txt K mg A) (h : sp_levelled K A vs H Q E) : t_levelled K A (DE Q) (start ["value", "low", "high"] vs) H := by
  obtain ⟨z, ⟨v, lo, hi, rfl, h1, h2, h3, rfl⟩, q⟩ := h
  unfold mLevelled at q
  refine b_when (et_le (ev_var rfl) (ev_var rfl)) (Ex.refl H) (fun hb H1 e1 => ?_) fun hb H1 e1 => ?_
  · rw [if_pos (of_decide_eq_true hb)] at q
    exact b_ret ev_c e1 q
  · rw [if_neg (of_decide_eq_false hb)] at q
    refine b_ret (ev_if (et_ge (ev_var rfl) (ev_var rfl)) (fun c => ?_) fun c => ?_) e1 q
    · rw [if_pos (of_decide_eq_true c)]
      exact ev_c
    · rw [if_neg (of_decide_eq_false c)]
      exact (ev_spI (ea_two (ev_op (ev_op (ev_var rfl) (ev_var rfl) rv_sub) ev_c (rv_mul (by unfold CMul; omega))) (ev_op (ev_var rfl) (ev_var rfl) rv_sub)) fun H1 e1 => ⟨_, _, rfl, by omega, by omega, rfl⟩)
theorem len_joined_value (h : sp_joined_value K A vs H Q E) : vs.length = 4 := by obtain ⟨_, ⟨_, _, _, _, rfl, _⟩, _⟩ := h; rfl
theorem pure_joined_value (T : Txt K mg A) (h : sp_joined_value K A vs H Q E) : t_joined_value K A (DE Q) (start ["mode", "b", "t", "k"] vs) H := by
  obtain ⟨z, ⟨m, b, t, k, rfl, hb, ht, rfl⟩, q⟩ := h
  unfold mJoinV at q
  refine b_when (et_eq (ev_var rfl) ev_c) (Ex.refl H) (fun c H1 e1 => ?_) fun c H1 e1 => ?_
  · rw [if_pos (of_decide_eq_true c)] at q
    exact b_ret (ev_min (ev_op (ev_var rfl) (ev_var rfl) rv_add) ev_c) e1 q
  rw [if_neg (of_decide_eq_false c)] at q
  refine b_when (et_eq (ev_var rfl) ev_c) e1 (fun c H1 e1 => ?_) fun c H1 e1 => ?_
  · rw [if_pos (of_decide_eq_true c)] at q
    exact b_ret (ev_max (ev_op (ev_var rfl) (ev_var rfl) rv_sub) ev_c) e1 q
  rw [if_neg (of_decide_eq_false c)] at q
  refine b_when (et_eq (ev_var rfl) ev_c) e1 (fun c H1 e1 => ?_) fun c H1 e1 => ?_
  · rw [if_pos (of_decide_eq_true c)] at q
    exact b_ret (ev_spI (ea_two (ev_op (ev_var rfl) (ev_var rfl) (rv_mul (by unfold CMul; omega))) ev_c) fun H1 e1 => ⟨_, _, rfl, by omega, by omega, rfl⟩) e1 q
  rw [if_neg (of_decide_eq_false c)] at q
  refine b_when (et_eq (ev_var rfl) ev_c) e1 (fun c H1 e1 => ?_) fun c H1 e1 => ?_
  · rw [if_pos (of_decide_eq_true c)] at q
    exact b_ret (ev_max (ev_var rfl) (ev_var rfl)) e1 q
  rw [if_neg (of_decide_eq_false c)] at q
  refine b_when (et_eq (ev_var rfl) ev_c) e1 (fun c H1 e1 => ?_) fun c H1 e1 => ?_
  · rw [if_pos (of_decide_eq_true c)] at q
    exact b_ret (ev_min (ev_var rfl) (ev_var rfl)) e1 q
  rw [if_neg (of_decide_eq_false c)] at q
  refine b_when (et_eq (ev_var rfl) ev_c) e1 (fun c H1 e1 => ?_) fun c H1 e1 => ?_
  · rw [if_pos (of_decide_eq_true c)] at q
    exact b_ret (ev_op (ev_op (ev_op (ev_var rfl) (ev_var rfl) rv_add) ev_c rv_add) ev_c (rv_div (by unfold CDiv; omega))) e1 q
  rw [if_neg (of_decide_eq_false c)] at q
  refine b_ret (ev_if (et_eq (ev_var rfl) ev_c) (fun c => ?_) fun c => ?_) e1 q
  · rw [if_pos (of_decide_eq_true c)]
    exact (ev_spI (ea_two (ev_op (ev_op (ev_var rfl) (ev_op ev_c (ev_var rfl) rv_sub) (rv_mul (by unfold CMul; omega))) (ev_op (ev_var rfl) (ev_var rfl) (rv_mul (by unfold CMul; omega))) rv_add) ev_c) fun H1 e1 => ⟨_, _, rfl, by omega, by omega, rfl⟩)
  · rw [if_neg (of_decide_eq_false c)]
    exact (ev_abs (ev_op (ev_var rfl) (ev_var rfl) rv_sub))
theorem len_power_of_two (h : sp_power_of_two K A vs H Q E) : vs.length = 1 := by obtain ⟨_, ⟨_, rfl, _⟩, _⟩ := h; rfl
theorem pure_power_of_two (T : Txt K mg A) (h : sp_power_of_two K A vs H Q E) : t_power_of_two K A (DE Q) (start ["many", "found", "turn"] vs) H := by
  obtain ⟨z, ⟨k, rfl, h1, rfl⟩, q⟩ := h
  refine b_asg ev_c (Ex.refl H) fun H1 e1 => ?_
  refine s_forI (evi_range1 (n := k) (ea_cons (ev_var rfl) ea_nil) (by omega)) e1 (fun Hg i σ' H' => Ex Hg H' ∧ ∃ v : Option V, σ' = [some (.int (k : Int)), some (.int (2 ^ i)), v])
    (fun Hg H2 eg eg2 e2 _ => ⟨eg2, none, rfl⟩) (fun Hg i σ' H' p => p.1) (fun Hg i x σ' Ha Hb eg hi p e3 y => ?_) fun Hg σ' H' eg p => ?_
  · obtain ⟨p2, v, rfl⟩ := p
    subst y
    refine ⟨_, tg_name, b_asgN (ev_op ev_c (ev_var rfl) (rv_mul (by unfold CMul; omega))) (p2.trans e3) fun H2 e2 => ⟨e2, some (.int (i : Int)), ?_⟩⟩
    rw [Int.pow_succ, Int.mul_comm]
    rfl
  · obtain ⟨p2, v, rfl⟩ := p
    exact b_ret (ev_var rfl) (eg.trans p2) q
theorem len_Size___init__ (h : sp_Size___init__ K A vs H Q E) : vs.length = 3 := by obtain ⟨_, _, _, _, rfl, _⟩ := h; rfl
theorem pure_Size___init__ (T : Txt K mg A) (h : sp_Size___init__ K A vs H Q E) : t_Size___init__ K A (DE Q) (start ["self", "width", "height"] vs) H := by
  obtain ⟨p, dx, w, h, rfl, hp, q⟩ := h
  refine ⟨_, rfl, _, rfl, p, A.CS, dx, [], rfl, hp, T.clSize, T.nWidth, (by show 0 < 1000; decide), ?_⟩
  refine ⟨_, rfl, _, rfl, p, A.CS, dx, _, rfl, upd_same, T.clSize, T.nHeight, (by show 1 < 1000; decide), ?_⟩
  refine q _ ⟨dx, ?_⟩ fun b o e hb => ?_
  · rw [upd_same]
    have e1 : putF ("width" : Str) (V.int (w : Int)) [] = ([("width", .int (w : Int))] : List (Str × V)) := rfl
    have e2 : putF ("height" : Str) (V.int (h : Int)) ([("width", .int (w : Int))] : List (Str × V)) = ([("width", .int (w : Int)), ("height", .int (h : Int))] : List (Str × V)) := (put_past (by decide +kernel)).trans rfl
    rw [e1, e2]
  · rw [upd_ne e, upd_ne e]
    exact hb
theorem len_Size_value (h : sp_Size_value K A vs H Q E) : vs.length = 4 := by obtain ⟨_, ⟨_, _, _, _, _, _, _, rfl, _⟩, _⟩ := h; rfl
theorem got_lt {w h : Nat} (hw : 1 ≤ w) (hh : 1 ≤ h) (x y : Int) : 0 ≤ y % (h : Int) * (w : Int) + x % (w : Int) ∧ (y % (h : Int) * (w : Int) + x % (w : Int)).toNat < w * h := by
  have a1 := Int.emod_nonneg y (show (h : Int) ≠ 0 by omega)
  have a2 := Int.emod_lt_of_pos y (show (0 : Int) < h by omega)
  have b1 := Int.emod_nonneg x (show (w : Int) ≠ 0 by omega)
  have b2 := Int.emod_lt_of_pos x (show (0 : Int) < w by omega)
  obtain ⟨i, hi⟩ := Int.eq_ofNat_of_zero_le a1
  obtain ⟨j, hj⟩ := Int.eq_ofNat_of_zero_le b1
  rw [hi, hj]
  have i2 : i + 1 ≤ h := by omega
  have j2 : j < w := by omega
  have m1 : (i + 1) * w ≤ h * w := Nat.mul_le_mul_right w i2
  rw [Nat.add_mul, Nat.one_mul, Nat.mul_comm h w] at m1
  have e : ((i : Int) * (w : Int) + (j : Int)) = ((i * w + j : Nat) : Int) := by push_cast; rfl
  show 0 ≤ (i : Int) * (w : Int) + (j : Int) ∧ ((i : Int) * (w : Int) + (j : Int)).toNat < w * h
  rw [e]
  constructor
  · omega
  · rw [Int.toNat_natCast]; omega
theorem pure_Size_value (T : Txt K mg A) (h : sp_Size_value K A vs H Q E) : t_Size_value K A (DE Q) (start ["self", "channel", "x", "y"] vs) H := by
  obtain ⟨z, ⟨s, c, w, h, f, x, y, rfl, hs, ⟨w1, w2, h1, h2⟩, hc, rfl⟩, q⟩ := h
  have lt := got_lt w1 h1 x y
  exact b_ret (ev_ixL (ev_var rfl) (ev_op (ev_op (ev_op (ev_var rfl) (ev_height T (ev_var rfl) hs) (rv_mod (by omega))) (ev_width T (ev_var rfl) hs) (rv_mul (by unfold CMul; omega))) (ev_op (ev_var rfl) (ev_width T (ev_var rfl) hs) (rv_mod (by omega))) rv_add) hc (chV_at lt.1 lt.2)) (Ex.refl H) q
theorem ev_value {ta tc tx ty : TE} {σ : L2.St} {s c : Addr} {w h : Nat} {f : Chn} {x y : Int} {E' : XK} (ho : Ev ta σ H (.ref s)) (h1 : Ev tc σ H (.ref c)) (h2 : Ev tx σ H (.int x)) (h3 : Ev ty σ H (.int y)) (hs : SizeAt A H s w h) (ok : sizeOk w h) (hc : H c = some (.lst (chV (w * h) f))) :
    Ev (tMeth A.CS "value" (sp_Size_value K A) [] E' ta (tCons tc (tCons tx (tCons ty tNil)))) σ H (.int (mGot w h f x y)) := by
  obtain ⟨dx, hI⟩ := id hs
  exact ev_spIm ho (ea_three h1 h2 h3) hI ((lk_past (by decide +kernel)).trans ((lk_past (by decide +kernel)).trans rfl)) fun H1 e1 => ⟨s, c, w, h, f, x, y, rfl, hs.mono e1, ok, e1 c _ hc, rfl⟩
theorem len_Size_sample (h : sp_Size_sample K A vs H Q E) : vs.length = 4 := by obtain ⟨_, ⟨_, _, _, _, _, _, _, rfl, _⟩, _⟩ := h; rfl
theorem pure_Size_sample (T : Txt K mg A) (h : sp_Size_sample K A vs H Q E) : t_Size_sample K A (DE Q) (start ["self", "channel", "x", "y", "i", "j", "u", "v", "e", "f"] vs) H := by
  obtain ⟨z, ⟨s, c, w, h, f, x, y, rfl, hs, ok, hc, rfl⟩, q⟩ := h
  refine b_par (ev_op (ev_var rfl) ev_c (rv_div (by unfold CDiv; omega))) (ev_op (ev_var rfl) ev_c (rv_div (by unfold CDiv; omega))) (Ex.refl H) fun H1 e1 => ?_
  refine b_par (ev_op (ev_var rfl) ev_c (rv_mod (by omega))) (ev_op (ev_var rfl) ev_c (rv_mod (by omega))) e1 fun H2 e2 => ?_
  refine b_asg (ev_op (ev_op (ev_value (ev_var rfl) (ev_var rfl) (ev_var rfl) (ev_var rfl) hs ok hc) (ev_op ev_c (ev_var rfl) rv_sub) (rv_mul (by unfold CMul; omega))) (ev_op (ev_value (ev_var rfl) (ev_var rfl) (ev_op (ev_var rfl) ev_c rv_add) (ev_var rfl) hs ok hc) (ev_var rfl) (rv_mul (by unfold CMul; omega))) rv_add) e2 fun H3 e3 => ?_
  refine b_asg (ev_op (ev_op (ev_value (ev_var rfl) (ev_var rfl) (ev_var rfl) (ev_op (ev_var rfl) ev_c rv_add) hs ok hc) (ev_op ev_c (ev_var rfl) rv_sub) (rv_mul (by unfold CMul; omega))) (ev_op (ev_value (ev_var rfl) (ev_var rfl) (ev_op (ev_var rfl) ev_c rv_add) (ev_op (ev_var rfl) ev_c rv_add) hs ok hc) (ev_var rfl) (rv_mul (by unfold CMul; omega))) rv_add) e3 fun H4 e4 => ?_
  exact b_ret (ev_op (ev_op (ev_op (ev_var rfl) (ev_op ev_c (ev_var rfl) rv_sub) (rv_mul (by unfold CMul; omega))) (ev_op (ev_var rfl) (ev_var rfl) (rv_mul (by unfold CMul; omega))) rv_add) ev_c (rv_div (by unfold CDiv; omega))) e4 q
theorem ev_sample {ta tc tx ty : TE} {σ : L2.St} {s c : Addr} {w h : Nat} {f : Chn} {x y : Int} {E' : XK} (ho : Ev ta σ H (.ref s)) (h1 : Ev tc σ H (.ref c)) (h2 : Ev tx σ H (.int x)) (h3 : Ev ty σ H (.int y)) (hs : SizeAt A H s w h) (ok : sizeOk w h) (hc : H c = some (.lst (chV (w * h) f))) :
    Ev (tMeth A.CS "sample" (sp_Size_sample K A) [] E' ta (tCons tc (tCons tx (tCons ty tNil)))) σ H (.int (mSample w h f x y)) := by
  obtain ⟨dx, hI⟩ := id hs
  exact ev_spIm ho (ea_three h1 h2 h3) hI ((lk_past (by decide +kernel)).trans ((lk_past (by decide +kernel)).trans rfl)) fun H1 e1 => ⟨s, c, w, h, f, x, y, rfl, hs.mono e1, ok, e1 c _ hc, rfl⟩
theorem len_dithered (h : sp_dithered K A vs H Q E) : vs.length = 4 := by obtain ⟨_, ⟨_, _, _, _, rfl, _⟩, _⟩ := h; rfl
theorem scr_all : ∀ j : Nat, j < 16 → atI SCREENs (j : Int) = some (.int (SCR.getD j 0)) := by decide
theorem scr_at (y x : Int) : atI SCREENs (4 * (y % 4) + x % 4) = some (.int (SCR.getD (4 * (y % 4) + x % 4).toNat 0)) := by
  have h := scr_all (4 * (y % 4) + x % 4).toNat (by omega)
  have e : (((4 * (y % 4) + x % 4).toNat : Nat) : Int) = 4 * (y % 4) + x % 4 := by omega
  rw [e] at h
  exact h
theorem pow_bits {n : Nat} (h : n ≤ 8) : (2 : Int) ^ n - 1 ≤ 255 ∧ 0 ≤ (2 : Int) ^ n - 1 := by
  have : n = 0 ∨ n = 1 ∨ n = 2 ∨ n = 3 ∨ n = 4 ∨ n = 5 ∨ n = 6 ∨ n = 7 ∨ n = 8 := by omega
  rcases this with rfl | rfl | rfl | rfl | rfl | rfl | rfl | rfl | rfl <;> decide
theorem pure_dithered (T : Txt K mg A) (h : sp_dithered K A vs H Q E) : t_dithered K A (DE Q) (start ["value", "bits", "x", "y", "top", "whole", "rest", "found"] vs) H := by
  obtain ⟨z, ⟨v, x, y, n, rfl, hn, h0, h1, rfl⟩, q⟩ := h
  refine b_asg (ev_op (ev_spI (ea_one (ev_var rfl)) fun H1 e1 => ⟨n, rfl, by omega, rfl⟩) ev_c rv_sub) (Ex.refl H) fun H1 e1 => ?_
  have tb := pow_bits hn
  refine b_asg (ev_op (ev_op (ev_var rfl) (ev_var rfl) (rv_mul (by unfold CMul; omega))) ev_c (rv_div (by unfold CDiv; omega))) e1 fun H2 e2 => ?_
  refine b_asg (ev_op (ev_op (ev_op (ev_op (ev_var rfl) (ev_var rfl) (rv_mul (by unfold CMul; omega))) ev_c (rv_mod (by omega))) ev_c (rv_mul (by unfold CMul; omega))) ev_c (rv_div (by unfold CDiv; omega))) e2 fun H3 e3 => ?_
  refine b_asg (ev_op (ev_op (ev_op (ev_op (ev_op ev_c (ev_var rfl) (rv_mul (by unfold CMul; omega))) (ev_var rfl) rv_add) ev_c rv_add) (ev_ixT ev_c (ev_op (ev_op ev_c (ev_op (ev_var rfl) ev_c (rv_mod (by omega))) (rv_mul (by unfold CMul; omega))) (ev_op (ev_var rfl) ev_c (rv_mod (by omega))) rv_add) (T.tSCREEN H) (scr_at y x)) rv_sub) ev_c (rv_div (by unfold CDiv; omega))) e3 fun H4 e4 => ?_
  exact b_ret (ev_min (ev_var rfl) (ev_var rfl)) e4 q
theorem len_strength_at (h : sp_strength_at K A vs H Q E) : vs.length = 5 := by obtain ⟨_, ⟨_, _, _, _, _, _, _, _, _, _, _, _, _, rfl, _⟩, _⟩ := h; rfl
theorem way_bd {w : Nat} (hw : 1 ≤ w) (hw2 : w ≤ 64) (c x : Int) : -64 ≤ mWay w c x ∧ mWay w c x ≤ 64 := by
  unfold mWay
  have b1 := Int.emod_nonneg (x - c + (w : Int) / 2) (show (w : Int) ≠ 0 by omega)
  have b2 := Int.emod_lt_of_pos (x - c + (w : Int) / 2) (show (0 : Int) < w by omega)
  omega
theorem div_bd {a b : Int} {m : Nat} (hb : 1 ≤ b) (h1 : -(m : Int) ≤ a) (h2 : a ≤ m) : -(m : Int) ≤ a / b ∧ a / b ≤ m := by
  constructor
  · refine (Int.le_ediv_iff_mul_le (by omega)).mpr ?_
    have : -(m : Int) * b ≤ -(m : Int) * 1 := Int.mul_le_mul_of_nonpos_left (by omega) hb
    omega
  · have h3 : a / b < (m : Int) + 1 := by
      refine Int.ediv_lt_of_lt_mul (by omega) ?_
      have : ((m : Int) + 1) * 1 ≤ ((m : Int) + 1) * b := Int.mul_le_mul_of_nonneg_left hb (by omega)
      omega
    omega
theorem pure_strength_at (T : Txt K mg A) (h : sp_strength_at K A vs H Q E) : t_strength_at K A (DE Q) (start ["size", "spot", "middle", "radii", "many", "half", "tall", "dx", "dy", "u", "v", "t", "found", "turn"] vs) H := by
  obtain ⟨z, ⟨s, p, m, r, w, h, x, y, cx, cy, rx, ry, n, rfl, hs, ⟨w1, w2, h1, h2⟩, hp, hm, hr, r1, r2, r3, r4, n1, n2, rfl⟩, q⟩ := h
  refine b_par (ev_op (ev_width T (ev_var rfl) hs) ev_c (rv_div (by unfold CDiv; omega))) (ev_op (ev_height T (ev_var rfl) hs) ev_c (rv_div (by unfold CDiv; omega))) (Ex.refl H) fun H1 e1 => ?_
  refine b_asg (ev_op (ev_op (ev_op (ev_op (ev_ixT (ev_var rfl) ev_c (st_of hp) rfl) (ev_ixL (ev_var rfl) ev_c hm rfl) rv_sub) (ev_var rfl) rv_add) (ev_width T (ev_var rfl) hs) (rv_mod (by omega))) (ev_var rfl) rv_sub) e1 fun H2 e2 => ?_
  refine b_asg (ev_op (ev_op (ev_op (ev_op (ev_ixT (ev_var rfl) ev_c (st_of hp) rfl) (ev_ixL (ev_var rfl) ev_c hm rfl) rv_sub) (ev_var rfl) rv_add) (ev_height T (ev_var rfl) hs) (rv_mod (by omega))) (ev_var rfl) rv_sub) e2 fun H3 e3 => ?_
  have bx := way_bd w1 w2 cx x
  have by_ := way_bd h1 h2 cy y
  have eX : (x - cx + (w : Int) / 2) % (w : Int) - (w : Int) / 2 = mWay w cx x := rfl
  have eY : (y - cy + (h : Int) / 2) % (h : Int) - (h : Int) / 2 = mWay h cy y := rfl
  rw [eX, eY]
  refine b_par (ev_op (ev_op ev_c (ev_var rfl) (rv_mul (by unfold CMul; omega))) (ev_ixL (ev_var rfl) ev_c hr rfl) (rv_div (by unfold CDiv; omega))) (ev_op (ev_op ev_c (ev_var rfl) (rv_mul (by unfold CMul; omega))) (ev_ixL (ev_var rfl) ev_c hr rfl) (rv_div (by unfold CDiv; omega))) e3 fun H4 e4 => ?_
  have bu := div_bd (a := 256 * mWay w cx x) (b := rx) (m := 16384) r1 (by omega) (by omega)
  have bv := div_bd (a := 256 * mWay h cy y) (b := ry) (m := 16384) r3 (by omega) (by omega)
  refine b_asg (ev_op (ev_op (ev_var rfl) (ev_var rfl) (rv_mul (by unfold CMul; omega))) (ev_op (ev_var rfl) (ev_var rfl) (rv_mul (by unfold CMul; omega))) rv_add) e4 fun H5 e5 => ?_
  have eT : 256 * mWay w cx x / rx * (256 * mWay w cx x / rx) + 256 * mWay h cy y / ry * (256 * mWay h cy y / ry) = mT w h x y cx cy rx ry := rfl
  rw [eT]
  have t0 : 0 ≤ mT w h x y cx cy rx ry := by
    unfold mT
    have a1 : ∀ z : Int, 0 ≤ z * z := fun z => by
      rcases Int.le_total 0 z with h | h
      · exact Int.mul_nonneg h h
      · exact Int.mul_nonneg_of_nonpos_of_nonpos h h
    have := a1 (256 * mWay w cx x / rx)
    have := a1 (256 * mWay h cy y / ry)
    omega
  unfold mStrength at q
  generalize mT w h x y cx cy rx ry = t at t0 q ⊢
  refine b_when (et_ge (ev_var rfl) ev_c) e5 (fun hb H6 e6 => ?_) fun hb H6 e6 => ?_
  · rw [if_pos (of_decide_eq_true hb)] at q
    exact b_ret ev_c e6 q
  · have hb := of_decide_eq_false hb
    rw [if_neg hb] at q
    refine b_asg (ev_op ev_c (ev_var rfl) rv_sub) e6 fun H7 e7 => ?_
    refine s_forI (evi_range1 (n := n - 1) (ea_one (ev_eq (ev_op (ev_var rfl) ev_c rv_sub) (by rw [show ((n : Int) - 1) = ((n - 1 : Nat) : Int) by omega]))) (by omega)) e7
      (fun Hg i σ' H' => Ex Hg H' ∧ ∃ (o : Option V) (hl tl dx dy u v : V), σ' = [some (.ref s), some (.ref p), some (.ref m), some (.ref r), some (.int (n : Int)), some hl, some tl, some dx, some dy, some u, some v, some (.int t), some (.int (mPow t i)), o])
      (fun Hg H2 eg eg2 e2 _ => ⟨eg2, none, _, _, _, _, _, _, rfl⟩) (fun Hg i σ' H' p => p.1) (fun Hg i x σ' Ha Hb eg hi p e3 y => ?_) fun Hg σ' H' eg p => ?_
    · obtain ⟨p2, o, hl, tl, dx, dy, u, v, rfl⟩ := p
      subst y
      exact ⟨_, tg_name, b_asgN (ev_op (ev_op (ev_var rfl) (ev_op ev_c (ev_var rfl) rv_sub) (rv_mul (by unfold CMul; omega))) ev_c (rv_div (by unfold CDiv; omega))) (p2.trans e3) fun H2 e2 => ⟨e2, _, _, _, _, _, _, _, rfl⟩⟩
    · obtain ⟨p2, o, hl, tl, dx, dy, u, v, rfl⟩ := p
      exact b_ret (ev_var rfl) (eg.trans p2) q
end GT
end
section
set_option Elab.async false
set_option linter.all false
set_option maxRecDepth 100000
set_option maxHeartbeats 2000000
/-! lists made, extended, handed back -/
namespace GT
open PySem PySem.Spec PyProof.Rows L2
open Evl (Ex Ev EvL EvU EvT EvA EvO RV RU RC ev_var ev_c ev_op ev_un et_test et_B et_not ev_if ea_nil ea_cons eo_none eo_some ev_cb fresh_back sq_of st_of ev_andV)
variable {K : PySem.W.Frag} {A : Ad} {mg : Str → Option Value} {σ : L2.St} {H H1 H2 H' : Hp} {ta tb te tl tc : TE} {t u : TT} {x y z v : V} {D : Ends} {tu tw tz tbd : TS} {g : TG} {ar : TA} {i j l k n m : Nat} {p : Addr}
theorem el_nil : EvL (tLst tNil) σ H [] := Evl.el_lst ea_nil (by decide)
theorem sz_ok {w h : Nat} (ok : sizeOk w h) : 1 ≤ w * h ∧ w * h ≤ 4096 := by
  obtain ⟨a, b, c, d⟩ := ok
  have h1 : 1 * 1 ≤ w * h := Nat.mul_le_mul a c
  have h2 : w * h ≤ 64 * 64 := Nat.mul_le_mul b d
  omega
/-- a new list of m things of which P tells -/
def EvX (te : TE) (σ : L2.St) (H : Hp) (m : Nat) (P : List V → Hp → Prop) : Prop := ∀ H1, Ex H H1 → ∀ Q : VK, (∀ b zs H2, H1 b = none → Ex H1 H2 → H2 b = some (.lst zs) → zs.length = m → P zs H2 → Q (.ref b) H2) → te σ H1 Q
theorem ex_of_el {xs : List V} {P : List V → Hp → Prop} (h : EvL te σ H xs) (hm : xs.length = m) (hp : ∀ H2, P xs H2) : EvX te σ H m P := fun H1 e Q q => h H1 e _ fun b H2 hb e2 h2 => q b xs H2 hb e2 h2 hm (hp H2)
theorem ex_of_eg {R : Addr → Nat → V → Hp → Prop} {P : List V → Hp → Prop} (h : EvG te σ H m R) (hp : ∀ b zs H2, zs.length = m → (∀ (j : Nat) (v : V), zs[j]? = some v → R b j v H2) → P zs H2) : EvX te σ H m P := fun H1 e Q q =>
  h H1 e _ fun b H2 hb e2 ⟨_, _, gr⟩ => by
    obtain ⟨_, _, acc, h1, h2, h3⟩ := gr
    exact q b acc H2 hb e2 h2 h1 (hp b acc H2 h1 h3)
theorem Grow.ext {R : Nat → V → Hp → Prop} {acc zs : List V} (s : Stb p R) (gr : Grow H p k R H') (hp : H' p = some (.lst acc)) (hm : zs.length = m) (hz : ∀ (j : Nat) (v : V), zs[j]? = some v → R (k + j) v H') : Grow H p (k + m) R (upd H' p (.lst (acc ++ zs))) := by
  obtain ⟨hn, e0, acc', hl, hp', hr⟩ := gr
  rw [hp'] at hp
  cases hp
  refine ⟨hn, e0.mut hn, acc ++ zs, by simp [hl, hm], upd_same, fun i u q => s i u _ _ ExB.upd ?_⟩
  rw [List.getElem?_append] at q
  split at q
  · exact hr i u q
  · next h =>
    have := hz (i - acc.length) u q
    rw [hl] at this
    rw [show k + (i - k) = i by omega] at this
    exact this
/-- xs.extend(e) on a list that grows -/
theorem s_ext {R : Nat → V → Hp → Prop} (s : Stb p R) (gr : Grow H p k R H') (hk : k + m ≤ 1000000) (ha : Ev ta σ H' (.ref p)) (h : EvX te σ H' m (fun zs H2 => ∀ (j : Nat) (v : V), zs[j]? = some v → R (k + j) v H2))
    (q : ∀ H2, Grow H p (k + m) R H2 → D.nx σ H2) : tDrop (tBM K "list" rExtend ta (tCons te tNil)) D σ H' := by
  refine ha H' (Ex.refl H') _ fun H1 e1 => ?_
  obtain ⟨acc, hl, hp, _⟩ := (gr.ex s e1).2.2
  refine ⟨.inl ⟨rfl, acc, sq_of hp⟩, h H1 e1 _ fun b zs H2 hb e2 hz hm r => ?_⟩
  have g2 := (gr.ex s e1).ex s e2
  exact ⟨p, b, acc, zs, rfl, rfl, e2 p _ hp, hz, by rw [sizeLine_eq]; omega, q _ (g2.ext s (e2 p _ hp) hm r)⟩
theorem Grow.ls {u : Addr} {c : Nat → HO} (gr : Grow H p n (Obj1 u p c) H') : LsAt H' p n c := by
  obtain ⟨_, _, acc, h1, h2, h3⟩ := gr
  exact ⟨acc, h1, h2, fun i v q => let ⟨a, a1, _, _, a3⟩ := h3 i v q; ⟨a, a1, a3⟩⟩
theorem Grow.lsX {u : Addr} {c : Nat → HO} (gr : Grow H p n (Obj1 u p c) H') (np : p ≠ u) : LsAt (L2.del H' u) p n c := by
  obtain ⟨_, _, acc, h1, h2, h3⟩ := gr
  exact ⟨acc, h1, del_of np h2, fun i v q => let ⟨a, a1, _, a2, a3⟩ := h3 i v q; ⟨a, a1, del_of a2 a3⟩⟩
theorem ep_ls {c : Nat → HO} (h : EvG te σ H n (fun p => Obj1 p p c)) : EvP te σ H (fun v H' => ∃ p, v = .ref p ∧ LsAt H' p n c) := fun H1 e Q q => h H1 e _ fun p H2 hp e2 ⟨_, _, gr⟩ => q _ H2 e2 ⟨p, rfl, gr.ls⟩
theorem ep_lsX {u : Addr} {c : Nat → HO} (hu : Al H u) (h : EvG te σ H n (fun p => Obj1 u p c)) : EvP te σ H (fun v H' => ∃ p, v = .ref p ∧ LsAt (L2.del H' u) p n c) := fun H1 e Q q => h H1 e _ fun p H2 hp e2 ⟨_, _, gr⟩ => q _ H2 e2 ⟨p, rfl, gr.lsX ((hu.ex e).ne hp)⟩
theorem ep_obj {u : Addr} {xs : List V} {c : Nat → HO} (h : EvL te σ H xs) (hp : ∃ o, H p = some o) (hu : ∃ o, H u = some o) (hc : c i = .lst xs) : EvP te σ H (Obj1 u p c i) := fun H1 e Q q => by
  obtain ⟨o, ho⟩ := hp
  obtain ⟨o2, ho2⟩ := hu
  exact h H1 e _ fun a H2 ha e2 h2 => q _ H2 e2 ⟨a, rfl, (fun z => by rw [z, e p _ ho] at ha; cases ha), (fun z => by rw [z, e u _ ho2] at ha; cases ha), (by rw [hc]; exact h2)⟩
theorem ep_tup {xs : List V} {c : Nat → HO} (h : EvU te σ H xs) (hp : ∃ o, H p = some o) (hc : c i = .tup xs) : EvP te σ H (Obj1 p p c i) := fun H1 e Q q => by
  obtain ⟨o, ho⟩ := hp
  have ne : ∀ a H1, Ex H H1 → H1 a = none → a ≠ p := fun a H1 e ha z => by rw [z, e p _ ho] at ha; cases ha
  exact h H1 e _ fun a H2 ha e2 h2 => q _ H2 e2 ⟨a, rfl, ne a H1 e ha, ne a H1 e ha, (by rw [hc]; exact h2)⟩
theorem eu_two (h : Ev ta σ H x) (h2 : Ev tb σ H y) : EvU (tTup (tCons ta (tCons tb tNil))) σ H [x, y] := Evl.eu_tup (ea_two h h2) (by show 2 ≤ 100000; decide)
/-- a value, what made it being in a heap of its own that stands -/
def EvH (te : TE) (σ : L2.St) (H : Hp) (P : V → Hp → Prop) : Prop := ∀ H1, Ex H H1 → ∀ Q : VK, (∀ v Hg H2, Ex H1 H2 → Ex H Hg → Ex Hg H2 → (∀ b o, H1 b = some o → H b = none → Hg b = none) → P v Hg → Q v H2) → te σ H1 Q
theorem evi_listH {Y : Nat → V → Hp → Prop} (h : EvH tl σ H (fun v Hg => ∃ a xs, v = .ref a ∧ Hg a = some (.lst xs) ∧ xs.length = n ∧ ∀ (i : Nat) (x : V), xs[i]? = some x → Y i x Hg)) (hY : ∀ i x Ha Hb, Ex Ha Hb → Y i x Ha → Y i x Hb) : EvI (iList K tl) σ H n Y := fun H1 e R k =>
  h H1 e _ fun v Hg H2 e2 eg eg2 hn ⟨a, xs, ev, ha, hl, hx⟩ => by
    subst hl
    have w : Walk (Itl K a) xs.length (fun H' => Ex Hg H') (YAt xs) := walk_list.mono (fun H' e' => sq_of (e' a _ ha)) fun _ _ _ _ _ _ y => y
    refine ⟨a, ev, ⟨xs, sq_of (eg2 a _ ha)⟩, k _ Hg H2 _ e2 eg eg2 hn w fun i x Ha Hb _ ea y => ?_⟩
    obtain ⟨y1, y2⟩ := y
    subst y1
    exact ⟨Ex.refl _, hY i x _ _ ea (hx i x y2)⟩
/-- size.spots() -/
theorem eh_spots {s : Addr} {w h : Nat} {E' : XK} (ho : Ev ta σ H (.ref s)) (hs : SizeAt A H s w h) (ok : sizeOk w h) :
    EvH (tMeth A.CS "spots" (sp_Size_spots K A) [] E' ta tNil) σ H (fun v Hg => ∃ a xs, v = .ref a ∧ Hg a = some (.lst xs) ∧ xs.length = w * h ∧ ∀ (i : Nat) (x : V), xs[i]? = some x → ∃ T, x = .ref T ∧ Hg T = some (prC (px w) (py w) i)) := by
  intro H1 e Q q
  obtain ⟨dx, hI⟩ := id hs
  refine ho H1 e _ fun H2 e2 => ⟨s, dx, _, rfl, e2 s _ (e s _ hI), (lk_past (by decide +kernel)).trans ((lk_past (by decide +kernel)).trans rfl), s, w, h, rfl, hs.mono (e.trans e2), ok, fun p H3 nl => ?_⟩
  obtain ⟨hp, e3, acc, hl, hp3, hx⟩ := nl
  refine q _ (fun b => if (H1 b).isSome = true ∧ (H b).isNone = true then none else H3 b) H3 (e2.trans e3) (fun b o hb => ?_) (fun b o hb => ?_) (fun b o h1 h2 => ?_) ⟨p, acc, rfl, ?_, hl, fun i x hi => ?_⟩
  · show (if _ then _ else _) = _
    rw [if_neg (by rw [hb]; simp)]
    exact e3 b _ (e2 b _ (e b _ hb))
  · replace hb : (if (H1 b).isSome = true ∧ (H b).isNone = true then none else H3 b) = some o := hb
    split at hb
    · cases hb
    · exact hb
  · show (if _ then _ else _) = _
    rw [if_pos (by rw [h1, h2]; simp)]
  · show (if _ then _ else _) = _
    rw [if_neg (by rw [fresh_back e2 hp]; simp)]
    exact hp3
  · obtain ⟨T, t1, t2, t3⟩ := hx i x hi
    refine ⟨T, t1, ?_⟩
    show (if _ then _ else _) = _
    rw [if_neg (by rw [fresh_back e2 t2]; simp)]
    exact t3
theorem evi_spots {s : Addr} {w h : Nat} {E' : XK} (ho : Ev ta σ H (.ref s)) (hs : SizeAt A H s w h) (ok : sizeOk w h) :
    EvI (iList K (tMeth A.CS "spots" (sp_Size_spots K A) [] E' ta tNil)) σ H (w * h) (fun i v H' => ∃ T, v = .ref T ∧ H' T = some (.tup [.int (px w i), .int (py w i)])) :=
  evi_listH (eh_spots ho hs ok) fun i x Ha Hb e ⟨T, t1, t2⟩ => ⟨T, t1, e T _ t2⟩
end GT
end
section
set_option Elab.async false
set_option linter.all false
set_option maxRecDepth 100000
set_option maxHeartbeats 2000000
/-! spots, flat, glow, box -/
namespace GT
open PySem PySem.Spec PyProof.Rows L2
open Evl (Ex Ev EvL EvU EvT EvA EvO RV RU RC ev_var ev_c ev_op ev_un et_test et_B et_not ev_if ea_nil ea_cons eo_none eo_some ev_cb fresh_back sq_of st_of ev_andV)
variable {K : PySem.W.Frag} {A : Ad} {mg : Str → Option Value} {vs : List V} {H : Hp} {Q : VK} {E : XK}
theorem len_Size_spots (h : sp_Size_spots K A vs H Q E) : vs.length = 1 := by obtain ⟨_, _, _, rfl, _⟩ := h; rfl
theorem stb_new {H : Hp} {p : Addr} {c : Nat → HO} : Stb p (fun i v H' => ∃ T, v = .ref T ∧ T ≠ p ∧ H T = none ∧ H' T = some (c i)) := fun i v Ha Hb e ⟨T, t1, t2, t3, t4⟩ => ⟨T, t1, t2, t3, e T _ t2 t4⟩
theorem row_px {w y j : Nat} (hj : j < w) : px w (y * w + j) = (j : Int) ∧ py w (y * w + j) = (y : Int) := by
  unfold px py
  have e1 : (y * w + j) % w = j := by rw [Nat.mul_comm, Nat.mul_add_mod]; exact Nat.mod_eq_of_lt hj
  have e2 : (y * w + j) / w = y := by rw [Nat.mul_comm, Nat.mul_add_div (by omega), Nat.div_eq_of_lt hj, Nat.add_zero]
  rw [e1, e2]
  exact ⟨rfl, rfl⟩
theorem pure_Size_spots (T : Txt K mg A) (h : sp_Size_spots K A vs H Q E) : t_Size_spots K A (DE Q) (start ["self", "found", "y", "x"] vs) H := by
  obtain ⟨s, w, h, rfl, hs, ok, q⟩ := h
  have sz := sz_ok ok
  obtain ⟨w1, w2, h1, h2⟩ := id ok
  refine b_asgL el_nil (Ex.refl H) fun p H1 hp e1 hp1 => ?_
  refine s_forI (evi_range1 (n := h) (ea_one (ev_height T (ev_var rfl) hs)) (by omega)) e1
    (fun Hg i σ' H' => Grow Hg p (i * w) (fun i v H' => ∃ T, v = .ref T ∧ T ≠ p ∧ H T = none ∧ H' T = some (prC (px w) (py w) i)) H' ∧ ∃ o o2 : Option V, σ' = [some (.ref s), some (.ref p), o, o2])
    (fun Hg H2 eg eg2 e2 hn => ⟨by rw [Nat.zero_mul]; exact Grow.start (hn p _ hp1 hp) eg2 (e2 p _ hp1), none, none, rfl⟩) (fun Hg i σ' H' p => p.1.2.1) (fun Hg i x σ' Ha Hb eg hi pv e3 y => ?_) fun Hg σ' H' eg pv => ?_
  · obtain ⟨gr, o, o2, rfl⟩ := pv
    subst y
    have gb := gr.ex stb_new e3
    have eb : Ex H Hb := eg.trans gb.2.1
    have hpb : ∃ o, Hb p = some o := let ⟨acc, _, q, _⟩ := gb.2.2; ⟨_, q⟩
    have im : i * w + w ≤ h * w := by
      have := Nat.mul_le_mul_right w (show i + 1 ≤ h from hi)
      rw [Nat.add_mul, Nat.one_mul] at this
      exact this
    have hw : h * w = w * h := Nat.mul_comm h w
    refine ⟨_, tg_name, s_ext (m := w) stb_new gb (by omega) (ev_var rfl) (ex_of_eg (R := fun q j v H' => ∃ T, v = .ref T ∧ T ≠ q ∧ T ≠ p ∧ H T = none ∧ H' T = some (.tup [.int (j : Int), .int (i : Int)])) ?_ ?_) fun H2 g2 => ⟨?_, some (.int (i : Int)), o2, rfl⟩⟩
    · refine eg_lc (evi_range1 (n := w) (ea_one (ev_width T (ev_var rfl) (hs.mono eb))) (by omega)) (by omega) (fun q j v Ha Hb e ⟨T, t1, t2, t3, t4, t5⟩ => ⟨T, t1, t2, t3, t4, e T _ t2 t5⟩) fun q j x Hc ec hq hqc hj y => ⟨_, tg_name, rfl, ?_⟩
      subst y
      refine fun H4 e4 Q4 k4 => (eu_two (ev_var rfl) (ev_var rfl)) H4 e4 Q4 fun T H5 hT e5 h5 => k4 _ H5 e5 ⟨T, rfl, ?_, ?_, ?_, h5⟩
      · obtain ⟨o, ho⟩ := hqc
        rintro rfl
        rw [e4 _ _ ho] at hT
        cases hT
      · obtain ⟨o, ho⟩ := hpb
        rintro rfl
        rw [e4 _ _ (ec _ _ ho)] at hT
        cases hT
      · exact fresh_back (eb.trans (ec.trans e4)) hT
    · intro b zs H2 hz hr j v hv
      obtain ⟨T, t1, t2, t3, t4, t5⟩ := hr j v hv
      have hj : j < w := by rw [← hz]; exact (List.getElem?_eq_some_iff.mp hv).1
      refine ⟨T, t1, t3, t4, ?_⟩
      rw [t5]
      have := row_px (y := i) hj
      show _ = some (HO.tup [.int (px w (i * w + j)), .int (py w (i * w + j))])
      rw [this.1, this.2]
    · rw [Nat.add_mul, Nat.one_mul]
      exact g2
  · obtain ⟨gr, o, o2, rfl⟩ := pv
    refine b_ret (ev_var rfl) (Ex.refl H') fun H2 e2 => q p H2 ?_
    obtain ⟨hn, e0, acc, a1, a2, a3⟩ := gr.ex stb_new e2
    exact ⟨hp, eg.trans e0, acc, by rw [a1, Nat.mul_comm], a2, fun i v hv => let ⟨T, t1, _, t3, t4⟩ := a3 i v hv; ⟨T, t1, t3, t4⟩⟩
theorem len_flat (h : sp_flat K A vs H Q E) : vs.length = 2 := by obtain ⟨_, _, _, _, ⟨_, _, _, _, _, rfl, _⟩, _⟩ := h; rfl
theorem pure_flat (T : Txt K mg A) (h : sp_flat K A vs H Q E) : t_flat K A (DE Q) (start ["size", "colour", "many", "k", "turn"] vs) H := by
  obtain ⟨u, n, F, hu, ⟨s, c, w, h, f, rfl, hs, ok, hc, rfl, rfl⟩, q⟩ := h
  have sz := sz_ok ok
  obtain ⟨w1, w2, h1, h2⟩ := id ok
  refine b_asg (v := .int ((w * h : Nat) : Int)) (ev_eq (ev_op (ev_width T (ev_var rfl) hs) (ev_height T (ev_var rfl) hs) (rv_mul (by unfold CMul; omega))) (by rw [Int.natCast_mul])) (Ex.refl H) fun H1 e1 => ?_
  refine b_retP (ep_lsX hu (n := 4) (c := chC (w * h) fun k _ => f k) ?_) e1 fun v H2 e2 ⟨p, ev, hp⟩ => by subst ev; exact q p H2 e2 hp
  refine eg_lc (evi_range1 (n := 4) (ea_one ev_c) (by decide)) (by decide) (fun p => stb_obj) fun p k x Hb eb hp hpb hk y => ⟨_, tg_name, rfl, ep_obj (xs := chV (w * h) fun _ => f k) ?_ hpb (hu.ex eb) rfl⟩
  subst y
  exact el_lcI (evi_range1 (n := w * h) (ea_one (ev_var rfl)) (by omega)) (by omega) fun i x Hc ec hi y => ⟨_, tg_name, rfl, ev_ixL (ev_var rfl) (ev_var rfl) (ec _ _ (eb _ _ hc)) (chV_at (by omega) (by rw [Int.toNat_natCast]; exact hk))⟩
theorem len_glow (h : sp_glow K A vs H Q E) : vs.length = 6 := by obtain ⟨_, _, _, _, ⟨_, _, _, _, _, _, _, _, _, _, _, _, _, _, rfl, _⟩, _⟩ := h; rfl
theorem zip_ch {n i : Nat} {f : Nat → Int} {x : V} (h : (chV n f)[i]? = some x) : x = .int (f i) ∧ i < n := by
  have hi : i < n := by
    have := (List.getElem?_eq_some_iff.mp h).1
    rw [chV_len] at this
    exact this
  rw [chV_get hi] at h
  exact ⟨(Option.some.inj h).symm, hi⟩
theorem pow_nn {t : Int} (h0 : 0 ≤ t) (h1 : t < 65536) : ∀ n, 0 ≤ mPow t n ∧ mPow t n ≤ 65536
  | 0 => by show 0 ≤ 65536 - t ∧ 65536 - t ≤ 65536; omega
  | n + 1 => by
    have ih := pow_nn h0 h1 n
    show 0 ≤ mPow t n * (65536 - t) / 65536 ∧ mPow t n * (65536 - t) / 65536 ≤ 65536
    have a : 0 ≤ mPow t n * (65536 - t) := Int.mul_nonneg ih.1 (by omega)
    have b : mPow t n * (65536 - t) ≤ 65536 * (65536 - t) := Int.mul_le_mul_of_nonneg_right ih.2 (by omega)
    omega
theorem mT_nn {w h : Nat} {x y cx cy rx ry : Int} : 0 ≤ mT w h x y cx cy rx ry := by
  unfold mT
  have a1 : ∀ z : Int, 0 ≤ z * z := fun z => by
    rcases Int.le_total 0 z with h | h
    · exact Int.mul_nonneg h h
    · exact Int.mul_nonneg_of_nonpos_of_nonpos h h
  have := a1 (256 * mWay w cx x / rx)
  have := a1 (256 * mWay h cy y / ry)
  omega
theorem strength_bd {w h : Nat} {x y cx cy rx ry : Int} {n : Nat} : 0 ≤ mStrength w h x y cx cy rx ry n ∧ mStrength w h x y cx cy rx ry n ≤ 65536 := by
  unfold mStrength
  split
  · decide
  · exact pow_nn mT_nn (by omega) _
theorem pure_glow (T : Txt K mg A) (h : sp_glow K A vs H Q E) : t_glow K A (DE Q) (start ["size", "picture", "middle", "radii", "many", "colour", "strengths", "found", "channel", "own", "spot", "value", "more"] vs) H := by
  obtain ⟨u, N, G, hu, ⟨s, a, m, r, c, w, h, F, cx, cy, rx, ry, n, f, rfl, hs, ok, hF, hm, hr, hc, hf, r1, r2, r3, r4, n1, n2, rfl, rfl⟩, q⟩ := h
  obtain ⟨acc, hl, ha, hcs⟩ := hF.ls
  have sz := sz_ok ok
  refine b_asgL (el_lcI (f := fun i => mStrength w h (px w i) (py w i) cx cy rx ry n) (evi_spots (ev_var rfl) hs ok) (by omega) fun i x Hb eb hi ⟨Tp, t1, t2⟩ => ⟨_, tg_name, rfl, ?_⟩) (Ex.refl H) fun S H1 hS e1 hS1 => ?_
  · subst t1
    exact ev_spI (ea_cons (ev_var rfl) (ea_cons (ev_var rfl) (ea_three (ev_var rfl) (ev_var rfl) (ev_var rfl)))) fun H1 e1 => ⟨s, Tp, m, r, w, h, _, _, cx, cy, rx, ry, n, rfl, hs.mono (eb.trans e1), ok, e1 _ _ t2, (eb.trans e1) _ _ hm, (eb.trans e1) _ _ hr, r1, r2, r3, r4, n1, n2, rfl⟩
  refine b_asgL el_nil (Ex.refl H1) fun p H2 hp e2 hp2 => ?_
  refine s_forI (evi_zip (n := 4) (ea_two (ev_var rfl) (ev_var rfl)) (e1 _ _ ha) (e1 _ _ hc) hl chV_len) e2
    (fun Hg i σ' H' => Grow Hg p i (Obj1 u p (chC (w * h) (mGlow w h F cx cy rx ry n f))) H' ∧ ∃ o1 o2 o3 o4 o5 : Option V, σ' = [some (.ref s), some (.ref a), some (.ref m), some (.ref r), some (.int (n : Int)), some (.ref c), some (.ref S), some (.ref p), o1, o2, o3, o4, o5])
    (fun Hg H3 eg eg2 e3 hn => ⟨Grow.start (hn p _ hp2 hp) eg2 (e3 p _ hp2), none, none, none, none, none, rfl⟩) (fun Hg i σ' H' p => p.1.2.1) (fun Hg i x σ' Ha Hb eg hi pv e3 y => ?_) fun Hg σ' H' eg pv => ?_
  · obtain ⟨gr, o1, o2, o3, o4, o5, rfl⟩ := pv
    obtain ⟨Tp, x1, x2, rfl, hT, hx, hy⟩ := y
    obtain ⟨cc, rfl, hcc⟩ := hcs i x1 hx
    obtain ⟨rfl, _⟩ := zip_ch hy
    have gb := gr.ex stb_obj e3
    have eb : Ex H1 Hb := eg.trans gb.2.1
    refine ⟨_, tg_tup2 hT tg_name tg_name, s_push stb_obj gb (by omega) (ev_var rfl) (ep_obj (xs := chV (w * h) (mGlow w h F cx cy rx ry n f i)) ?_ (let ⟨acc, _, q, _⟩ := gb.2.2; ⟨_, q⟩) (hu.ex (e1.trans eb)) rfl) fun H4 g4 => ⟨g4, _, _, _, _, _, rfl⟩⟩
    refine el_lcI (evi_zip (n := w * h) (ea_two (ev_var rfl) (ev_var rfl)) (eb _ _ (e1 _ _ hcc)) (eb _ _ hS1) chV_len chV_len) (by omega) fun j x Hc ec hj ⟨T2, y1, y2, z1, z2, z3, z4⟩ => ?_
    obtain ⟨rfl, _⟩ := zip_ch z3
    obtain ⟨rfl, _⟩ := zip_ch z4
    subst z1
    refine ⟨_, tg_tup2 z2 tg_name tg_name, rfl, ?_⟩
    have := hf i hi
    exact (ev_min ev_c (ev_op (ev_var rfl) (ev_op (ev_op (ev_var rfl) (ev_var rfl) (rv_mul (by unfold CMul; omega))) ev_c (rv_div (by unfold CDiv; omega))) rv_add))
  · obtain ⟨gr, o1, o2, o3, o4, o5, rfl⟩ := pv
    exact b_ret (ev_var rfl) (Ex.refl H') fun H5 e5 => q p H5 (e1.trans (eg.trans (gr.2.1.trans e5))) (PicAt.mono (gr.lsX ((hu.ex e1).ne hp)) e5)
theorem len_box (h : sp_box K A vs H Q E) : vs.length = 5 := by obtain ⟨_, _, _, _, ⟨_, _, _, _, _, _, _, _, _, _, _, _, _, rfl, _⟩, _⟩ := h; rfl
def bV (n : Nat) (f : Nat → Bool) : List V := (List.range n).map fun i => V.bl (f i)
theorem bV_len {n : Nat} {f : Nat → Bool} : (bV n f).length = n := by simp [bV]
theorem zip_b {n i : Nat} {f : Nat → Bool} {x : V} (h : (bV n f)[i]? = some x) : x = .bl (f i) ∧ i < n := by
  have hi : i < n := by
    have := (List.getElem?_eq_some_iff.mp h).1
    rw [bV_len] at this
    exact this
  have e : (bV n f)[i]? = some (.bl (f i)) := by simp [bV, hi]
  rw [e] at h
  exact ⟨(Option.some.inj h).symm, hi⟩
theorem bV_of {n : Nat} {f : Nat → Bool} {acc : List V} (hl : acc.length = n) (h : ∀ (i : Nat) (v : V), acc[i]? = some v → v = V.bl (f i)) : acc = bV n f := by
  apply List.ext_getElem?
  intro i
  by_cases hi : i < n
  · have e : acc[i]? = some acc[i] := List.getElem?_eq_getElem (by omega)
    rw [e, h i _ e]
    simp [bV, hi]
  · rw [List.getElem?_eq_none (by omega), List.getElem?_eq_none (by rw [bV_len]; omega)]
theorem pure_box (T : Txt K mg A) (h : sp_box K A vs H Q E) : t_box K A (DE Q) (start ["size", "picture", "corner", "sides", "colour", "inside", "x", "y", "is_across", "found", "channel", "own", "value", "is_in"] vs) H := by
  obtain ⟨u, N, G, hu, ⟨s, a, m, r, c, w, h, F, x0, y0, sw, sh, f, rfl, hs, ok, hF, hm, hr, hc, rfl, rfl⟩, q⟩ := h
  obtain ⟨acc, hl, ha, hcs⟩ := hF.ls
  have sz := sz_ok ok
  obtain ⟨w1, w2, h1, h2⟩ := id ok
  refine b_asgL el_nil (Ex.refl H) fun S H1 hS e1 hS1 => ?_
  refine s_forI (D := { nx := _, rt := _ }) (evi_spots (ev_var rfl) hs ok) e1
    (fun Hg i σ' H' => Grow Hg S i (fun i v _ => v = .bl (mIn w h x0 y0 sw sh i)) H' ∧ ∃ o1 o2 o3 o4 o5 o6 o7 o8 : Option V, σ' = [some (.ref s), some (.ref a), some (.ref m), some (.ref r), some (.ref c), some (.ref S), o1, o2, o3, o4, o5, o6, o7, o8])
    (fun Hg H3 eg eg2 e3 hn => ⟨Grow.start (hn S _ hS1 hS) eg2 (e3 S _ hS1), _, _, _, _, _, _, _, _, rfl⟩) (fun Hg i σ' H' p => p.1.2.1) (fun Hg i x σ' Ha Hb eg hi pv e3 y => ?_) fun Hg σ' H' eg pv => ?_
  · obtain ⟨gr, o1, o2, o3, o4, o5, o6, o7, o8, rfl⟩ := pv
    obtain ⟨Tp, rfl, hT⟩ := y
    have gb := gr.ex (fun _ _ _ _ _ h => h) e3
    have eb : Ex H Hb := eg.trans gb.2.1
    refine ⟨_, tg_tup2 hT tg_name tg_name, b_asg (ev_op (ev_op (ev_op (ev_var rfl) (ev_ixL (ev_var rfl) ev_c (eb _ _ hm) rfl) rv_sub) (ev_width T (ev_var rfl) (hs.mono eb)) (rv_mod (by omega))) (ev_ixL (ev_var rfl) ev_c (eb _ _ hr) rfl) rv_lt) (Ex.refl Hb) fun H6 e6 => ?_⟩
    have g6 := gb.ex (fun _ _ _ _ _ h => h) e6
    replace e6 := eb.trans e6
    refine s_push (fun _ _ _ _ _ h => h) g6 (by omega) (ev_var rfl) (p_of_ev (ev_andV (ev_var rfl) fun _ => (ev_op (ev_op (ev_op (ev_var rfl) (ev_ixL (ev_var rfl) ev_c (e6 _ _ hm) rfl) rv_sub) (ev_height T (ev_var rfl) (hs.mono e6)) (rv_mod (by omega))) (ev_ixL (ev_var rfl) ev_c (e6 _ _ hr) rfl) rv_lt))) fun H4 g4 => ⟨g4, _, _, _, _, _, _, _, _, rfl⟩
  obtain ⟨gr, o1, o2, o3, o4, o5, o6, o7, o8, rfl⟩ := pv
  have hS2 : H' S = some (.lst (bV (w * h) (mIn w h x0 y0 sw sh))) := by
    obtain ⟨_, _, acc', a1, a2, a3⟩ := gr
    rw [a2, bV_of a1 a3]
  have e2 : Ex H H' := eg.trans gr.2.1
  clear gr
  refine b_asgL el_nil (Ex.refl H') fun p H2 hp e3 hp2 => ?_
  refine s_forI (evi_zip (n := 4) (ea_two (ev_var rfl) (ev_var rfl)) (e2 _ _ ha) (e2 _ _ hc) hl chV_len) e3
    (fun Hg i σ' H' => Grow Hg p i (Obj1 u p (chC (w * h) (mBox w h F x0 y0 sw sh f))) H' ∧ ∃ o1 o2 o3 o4 o5 o6 o7 : Option V, σ' = [some (.ref s), some (.ref a), some (.ref m), some (.ref r), some (.ref c), some (.ref S), o1, o2, o3, some (.ref p), o4, o5, o6, o7])
    (fun Hg H3 eg eg2 e3 hn => ⟨Grow.start (hn p _ hp2 hp) eg2 (e3 p _ hp2), _, _, _, _, _, _, _, rfl⟩) (fun Hg i σ' H' p => p.1.2.1) (fun Hg i x σ' Ha Hb eg hi pv e3 y => ?_) fun Hg σ' H' eg pv => ?_
  · obtain ⟨gr, o1, o2, o3, o4, o5, o6, o7, rfl⟩ := pv
    obtain ⟨Tp, x1, x2, rfl, hT, hx, hy⟩ := y
    obtain ⟨cc, rfl, hcc⟩ := hcs i x1 hx
    obtain ⟨rfl, _⟩ := zip_ch hy
    have gb := gr.ex stb_obj e3
    have eb := eg.trans gb.2.1
    refine ⟨_, tg_tup2 hT tg_name tg_name, s_push stb_obj gb (by omega) (ev_var rfl) (ep_obj (xs := chV (w * h) (mBox w h F x0 y0 sw sh f i)) ?_ (let ⟨acc, _, q, _⟩ := gb.2.2; ⟨_, q⟩) (hu.ex (e2.trans eb)) rfl) fun H4 g4 => ⟨g4, _, _, _, _, _, _, _, rfl⟩⟩
    refine el_lcI (evi_zip (n := w * h) (ea_two (ev_var rfl) (ev_var rfl)) (eb _ _ (e2 _ _ hcc)) (eb _ _ hS2) chV_len bV_len) (by omega) fun j x Hc ec hj ⟨T2, y1, y2, z1, z2, z3, z4⟩ => ?_
    obtain ⟨rfl, _⟩ := zip_ch z3
    obtain ⟨rfl, _⟩ := zip_b z4
    subst z1
    refine ⟨_, tg_tup2 z2 tg_name tg_name, rfl, ev_if (et_B (ev_var rfl)) (fun c => ?_) fun c => ?_⟩
    · unfold mBox
      rw [if_pos c]
      exact ev_var rfl
    · unfold mBox
      rw [if_neg (by rw [c]; decide)]
      exact ev_var rfl
  · obtain ⟨gr, o1, o2, o3, o4, o5, o6, o7, rfl⟩ := pv
    exact b_ret (ev_var rfl) (Ex.refl H') fun H5 e5 => q p H5 (e2.trans (eg.trans (gr.2.1.trans e5))) (PicAt.mono (gr.lsX ((hu.ex e2).ne hp)) e5)
end GT
end
section
set_option Elab.async false
set_option linter.all false
set_option maxRecDepth 100000
set_option maxHeartbeats 2000000
/-! blurring -/
namespace GT
open PySem PySem.Spec PyProof.Rows L2
open Evl (Ex Ev EvL EvU EvT EvA EvO RV RU RC ev_var ev_c ev_op ev_un et_test et_B et_not ev_if ea_nil ea_cons eo_none eo_some ev_cb fresh_back sq_of st_of ev_andV)
section
variable {K : PySem.W.Frag} {A : Ad} {mg : Str → Option Value} {σ : L2.St} {H H1 H2 H' : Hp} {ta tb te tl tc : TE} {x y v : V} {D : Ends} {tz : TS} {ar : TA} {i j l k n m : Nat} {p : Addr}
theorem b_tup2 (h1 : Ev ta σ H x) (h2 : Ev tb σ H y) (e : Ex H H1) (k : ∀ H2, Ex H H2 → tz D ((σ.set i (some x)).set j (some y)) H2) : tSeq (tAsg (tTup (tCons ta (tCons tb tNil))) (gTup K 2 (gCons (gName i) (gCons (gName j) gNil)))) tz D σ H1 := by
  show tTup (tCons ta (tCons tb tNil)) σ H1 fun v H2 => gTup K 2 (gCons (gName i) (gCons (gName j) gNil)) v σ H2 (tz D)
  refine (eu_two h1 h2) H1 e _ fun T H2 hT e2 hT2 => ?_
  exact tg_tup2 hT2 tg_name tg_name _ (k H2 (e.trans e2))
theorem b_push {R : Nat → V → Hp → Prop} (s : Stb p R) (gr : Grow H p k R H') (hk : k < 100000) (ha : Ev ta σ H' (.ref p)) (h : EvP te σ H' (R k)) (q : ∀ H2, Grow H p (k + 1) R H2 → tz D σ H2) : tSeq (tDrop (tBM K "list" rAppend ta (tCons te tNil))) tz D σ H' :=
  s_push (D := { D with nx := tz D }) s gr hk ha h q
theorem ev_sum {ns : List Int} (h : EvL te σ H (ns.map V.int)) : Ev (tCB (rSum K) (tCons te tNil)) σ H (.int ns.sum) := fun H1 e Q q =>
  h H1 e _ fun p H2 _ e2 hp => ⟨p, ns, rfl, sq_of hp, q H2 e2⟩
theorem el_spN1 {R : List V → Hp → Nat → (Nat → Int) → Prop} {E : XK} {xs vs : List V} {f : Nat → Int} (hl : EvL ta σ H xs) (h : EvA ar σ H vs) (hr : ∀ b H1, Ex H H1 → H1 b = some (.lst xs) → R (.ref b :: vs) H1 n f) : EvL (tCall (SpN R) [] E (tCons ta ar)) σ H (chV n f) := fun H1 e Q q =>
  hl H1 e _ fun b H2 _ e2 hb => h H2 (e.trans e2) _ fun H3 e3 => ⟨n, f, by rw [List.append_nil]; exact hr b H3 ((e.trans e2).trans e3) (e3 b _ hb), fun p H4 hp e4 h4 => q p H4 (fresh_back (e2.trans e3) hp) ((e2.trans e3).trans e4) h4⟩
theorem evi_range3 {lo hi c : Int} {n : Nat} (h : EvA ar σ H [.int lo, .int hi, .int c]) (hr : RgC lo hi c n) : EvI (iRng3 ar) σ H n (fun i v _ => v = .int (lo + (i : Int) * c)) :=
  evi_self fun H1 e R k => h H1 e _ fun H2 e2 => ⟨lo, hi, c, n, rfl, hr, by
    have w : Walk (Itc lo c n) n (fun H' => Ex H H') (YFn fun i => .int (lo + (i : Nat) * c)) := walk_rangeC.mono (fun _ _ => trivial) fun _ _ _ _ _ _ y => y
    exact k _ H2 _ e2 w fun i x Ha Hb _ _ y => ⟨y.1 ▸ Ex.refl _, y.2⟩⟩
theorem rgc_rows {w h : Nat} (ok : sizeOk w h) : RgC 0 ((w * h : Nat) : Int) (w : Int) h := by
  obtain ⟨a, b, c, d⟩ := id ok
  have sz := sz_ok ok
  have rs : Builtin.Range.rangeSize 0 ((w * h : Nat) : Int) (w : Int) = (h : Int) := by
    unfold Builtin.Range.rangeSize
    rw [if_pos (by omega), if_pos (by omega)]
    have e : ((w * h : Nat) : Int) - 0 - 1 = (w : Int) * ((h : Int) - 1) + ((w : Int) - 1) := by
      rw [Int.natCast_mul, Int.mul_sub]; omega
    rw [e, Int.mul_add_ediv_left _ _ (by omega), Int.ediv_eq_zero_of_lt (by omega) (by omega)]
    omega
  refine ⟨by omega, by omega, ?_, rs⟩
  unfold Builtin.Range.small
  rw [rs, if_pos (show (w : Int) > 0 by omega)]
  simp only [Builtin.Range.rangeFitsLong, Bool.and_eq_true, Bool.or_eq_true, decide_eq_true_eq, beq_iff_eq]
  omega
theorem cut_chV {N a m : Nat} {f : Nat → Int} (h : a + m ≤ N) : cutV (chV N f) (some (a : Int)) (some ((a : Int) + (m : Int))) = chV m fun i => f (a + i) := by
  unfold cutV
  have e : ((a : Int) + (m : Int)) = ((a + m : Nat) : Int) := by push_cast; rfl
  rw [e, HT.sIx_nat, HT.sIx_nat, chV_len, Nat.min_eq_left h, Nat.min_eq_left (show a ≤ N by omega)]
  apply List.ext_getElem?
  intro i
  rw [List.getElem?_take]
  by_cases hi : i < m
  · rw [if_pos (by omega), List.getElem?_drop, chV_get (by omega), chV_get hi]
  · rw [if_neg (by omega), List.getElem?_eq_none (by rw [chV_len]; omega)]
end
variable {K : PySem.W.Frag} {A : Ad} {mg : Str → Option Value} {vs : List V} {H : Hp} {Q : VK} {E : XK}
theorem len_blurred_row (h : sp_blurred_row K A vs H Q E) : vs.length = 2 := by obtain ⟨_, _, ⟨_, _, _, rfl, _⟩, _⟩ := h; rfl
theorem ring_at {n : Nat} {f : Nat → Int} (hn : 1 ≤ n) (z : Int) : atI (chV n f) (z % (n : Int)) = some (.int (f (z % (n : Int)).toNat)) := by
  have a1 := Int.emod_nonneg z (show (n : Int) ≠ 0 by omega)
  have a2 := Int.emod_lt_of_pos z (show (0 : Int) < n by omega)
  exact chV_at a1 (by omega)
theorem sum_shift (g : Int → Int) (a : Int) : ∀ m : Nat, ((List.range m).map fun (k : Nat) => g (a + 1 + (k : Int))).sum = ((List.range m).map fun (k : Nat) => g (a + (k : Int))).sum + g (a + (m : Int)) - g a
  | 0 => by simp
  | m + 1 => by
    rw [List.range_succ, List.map_append, List.map_append, List.sum_append, List.sum_append, sum_shift g a m]
    simp only [List.map_cons, List.map_nil, List.sum_cons, List.sum_nil]
    have e : a + 1 + (m : Int) = a + ((m + 1 : Nat) : Int) := by push_cast; omega
    rw [e]
    omega
theorem ring_next (n : Nat) (f : Chn) (r : Nat) (j : Int) : mRing n f r (j + 1) = mRing n f r j + f ((j + (r : Int) + 1) % (n : Int)).toNat - f ((j - (r : Int)) % (n : Int)).toNat := by
  have h := sum_shift (fun z => f (z % (n : Int)).toNat) (j - (r : Int)) (2 * r + 1)
  unfold mRing
  have e1 : j + 1 - (r : Int) = j - (r : Int) + 1 := by omega
  have e2 : j - (r : Int) + ((2 * r + 1 : Nat) : Int) = j + (r : Int) + 1 := by push_cast; omega
  rw [e1, h, e2]
theorem pure_blurred_row (T : Txt K mg A) (h : sp_blurred_row K A vs H Q E) : t_blurred_row K A (DE Q) (start ["row", "radius", "many", "wide", "total", "found", "place", "k"] vs) H := by
  obtain ⟨n, g, ⟨c, r, f, rfl, n1, n2, hr, hc, rfl⟩, q⟩ := h
  refine b_tup2 (x := .int (n : Int)) (ev_eq (Evl.ev_len (ev_var rfl) (sq_of hc)) (by rw [chV_len])) (ev_op (ev_op ev_c (ev_var rfl) (rv_mul (by unfold CMul; omega))) ev_c rv_add) (Ex.refl H) fun H1 e1 => ?_
  refine b_asg (v := .int (mRing n f r 0)) (ev_sum (ns := (List.range (2 * r + 1)).map fun (k : Nat) => f (((0 : Int) - (r : Int) + (k : Int)) % (n : Int)).toNat) ?_) e1 fun H2 e2 => ?_
  · have e : ((List.range (2 * r + 1)).map fun (k : Nat) => f (((0 : Int) - (r : Int) + (k : Int)) % (n : Int)).toNat).map V.int = chV (2 * r + 1) fun k => f (((0 : Int) - (r : Int) + (k : Int)) % (n : Int)).toNat := by
      unfold chV
      rw [List.map_map]
      rfl
    rw [e]
    refine el_lcI (evi_range2 (n := 2 * r + 1) (lo := 0 - (r : Int)) (hi := (r : Int) + 1) (ea_cons (ev_op ev_c (ev_var rfl) rv_sub) (ea_cons (ev_op (ev_var rfl) ev_c rv_add) ea_nil)) (by omega) (by omega) (by omega)) (by omega) fun i x Hb ec hi y => ⟨_, tg_name, rfl, ?_⟩
    subst y
    have hc1 := hc
    exact (ev_ixL (ev_var rfl) (ev_op (ev_var rfl) (ev_var rfl) (rv_mod (by omega))) (ec _ _ (hc1)) (ring_at n1 _))
  refine b_asgL el_nil (Ex.refl H2) fun p H3 hp e3 hp3 => ?_
  refine s_forI (H := H2) (evi_range1 (n := n) (ea_one (ev_var rfl)) (by omega)) e3
    (fun Hg i σ' H' => Grow Hg p i (fun i v _ => v = .int (mRow n f r i)) H' ∧ ∃ o1 o2 : Option V, σ' = [some (.ref c), some (.int (r : Int)), some (.int (n : Int)), some (.int (2 * (r : Int) + 1)), some (.int (mRing n f r (i : Int))), some (.ref p), o1, o2])
    (fun Hg H4 eg eg2 e4 hn => ⟨Grow.start (hn p _ hp3 hp) eg2 (e4 p _ hp3), _, _, rfl⟩) (fun Hg i σ' H' p => p.1.2.1) (fun Hg i x σ' Ha Hb eg hi pv e4 y => ?_) fun Hg σ' H' eg pv => ?_
  · obtain ⟨gr, o1, o2, rfl⟩ := pv
    subst y
    have gb := gr.ex stb_int e4
    refine ⟨_, tg_name, b_push stb_int gb (by omega) (ev_var rfl) (p_of_ev (ev_op (ev_var rfl) (ev_var rfl) (rv_div (by unfold CDiv; omega)))) fun H5 g5 => ?_⟩
    have e6 : Ex H H5 := e2.trans (eg.trans g5.2.1)
    refine b_asgN (ev_op (ev_op (ev_var rfl) (ev_ixL (ev_var rfl) (ev_op (ev_op (ev_op (ev_var rfl) (ev_var rfl) rv_add) ev_c rv_add) (ev_var rfl) (rv_mod (by omega))) (e6 _ _ hc) (ring_at n1 _)) rv_add) (ev_ixL (ev_var rfl) (ev_op (ev_op (ev_var rfl) (ev_var rfl) rv_sub) (ev_var rfl) (rv_mod (by omega))) (e6 _ _ hc) (ring_at n1 _)) rv_sub) (Ex.refl H5) fun H6 e7 => ⟨g5.ex stb_int e7, some (.int (i : Int)), o2, ?_⟩
    have := ring_next n f r (i : Int)
    rw [show (((i + 1 : Nat) : Int)) = (i : Int) + 1 by push_cast; rfl, this]
    rfl
  · obtain ⟨gr, o1, o2, rfl⟩ := pv
    exact b_ret (ev_var rfl) (Ex.refl H') fun H5 e5 => q p H5 (fresh_back e2 hp) (e2.trans (eg.trans (gr.2.1.trans e5))) (e5 _ _ gr.ints)
theorem len_turned_over (h : sp_turned_over K A vs H Q E) : vs.length = 3 := by obtain ⟨_, _, ⟨_, _, _, _, rfl, _⟩, _⟩ := h; rfl
theorem pure_turned_over (T : Txt K mg A) (h : sp_turned_over K A vs H Q E) : t_turned_over K A (DE Q) (start ["channel", "width", "height", "found", "x", "y"] vs) H := by
  obtain ⟨n, g, ⟨c, w, h, f, rfl, ok, hc, rfl, rfl⟩, q⟩ := h
  have sz := sz_ok ok
  obtain ⟨w1, w2, h1, h2⟩ := id ok
  refine b_asgL el_nil (Ex.refl H) fun p H1 hp e1 hp1 => ?_
  refine s_forI (evi_range1 (n := w) (ea_one (ev_var rfl)) (by omega)) e1
    (fun Hg i σ' H' => Grow Hg p (i * h) (fun i v _ => v = .int (mOver w h f i)) H' ∧ ∃ o o2 : Option V, σ' = [some (.ref c), some (.int (w : Int)), some (.int (h : Int)), some (.ref p), o, o2])
    (fun Hg H2 eg eg2 e2 hn => ⟨by rw [Nat.zero_mul]; exact Grow.start (hn p _ hp1 hp) eg2 (e2 p _ hp1), none, none, rfl⟩) (fun Hg i σ' H' p => p.1.2.1) (fun Hg i x σ' Ha Hb eg hi pv e3 y => ?_) fun Hg σ' H' eg pv => ?_
  · obtain ⟨gr, o, o2, rfl⟩ := pv
    subst y
    have gb := gr.ex stb_int e3
    have im : i * h + h ≤ w * h := by
      have := Nat.mul_le_mul_right h (show i + 1 ≤ w from hi)
      rw [Nat.add_mul, Nat.one_mul] at this
      exact this
    refine ⟨_, tg_name, s_ext (m := h) stb_int gb (by omega) (ev_var rfl) (ex_of_el (xs := chV h fun j => mOver w h f (i * h + j)) ?_ chV_len ?_) fun H2 g2 => ⟨?_, _, o2, rfl⟩⟩
    · refine el_lcI (evi_range1 (n := h) (ea_one (ev_var rfl)) (by omega)) (by omega) fun j x Hc ec hj y => ⟨_, tg_name, rfl, ?_⟩
      subst y
      have eb : Ex H Hc := eg.trans (gb.2.1.trans ec)
      have e1 : (i * h + j) % h = j := by rw [Nat.mul_comm, Nat.mul_add_mod]; exact Nat.mod_eq_of_lt hj
      have e2 : (i * h + j) / h = i := by rw [Nat.mul_comm, Nat.mul_add_div (by omega), Nat.div_eq_of_lt hj, Nat.add_zero]
      have jm : j * w + w ≤ w * h := by
        have := Nat.mul_le_mul_right w (show j + 1 ≤ h from hj)
        rw [Nat.add_mul, Nat.one_mul, Nat.mul_comm h w] at this
        exact this
      have ez : (j : Int) * (w : Int) + (i : Int) = ((j * w + i : Nat) : Int) := by push_cast; rfl
      have at_ : atI (chV (w * h) f) ((j : Int) * (w : Int) + (i : Int)) = some (.int (mOver w h f (i * h + j))) := by
        rw [ez]
        refine atI_nat ?_
        rw [chV_get (by omega)]
        unfold mOver
        rw [e1, e2]
      exact (ev_ixL (ev_var rfl) (ev_op (ev_op (ev_var rfl) (ev_var rfl) (rv_mul (by unfold CMul; omega))) (ev_var rfl) rv_add) (eb _ _ hc) at_)
    · intro H2 j v hv
      exact (zip_ch hv).1
    · rw [Nat.add_mul, Nat.one_mul]
      exact g2
  · obtain ⟨gr, o, o2, rfl⟩ := pv
    exact b_ret (ev_var rfl) (Ex.refl H') fun H5 e5 => q p H5 hp (eg.trans (gr.2.1.trans e5)) (e5 _ _ gr.ints)
theorem len_blurred_rows (h : sp_blurred_rows K A vs H Q E) : vs.length = 3 := by obtain ⟨_, _, ⟨_, _, _, _, _, rfl, _⟩, _⟩ := h; rfl
theorem pure_blurred_rows (T : Txt K mg A) (h : sp_blurred_rows K A vs H Q E) : t_blurred_rows K A (DE Q) (start ["channel", "width", "radius", "found", "at"] vs) H := by
  obtain ⟨n, g, ⟨c, w, h, r, f, rfl, ok, hr, hc, rfl, rfl⟩, q⟩ := h
  have sz := sz_ok ok
  obtain ⟨w1, w2, h1, h2⟩ := id ok
  refine b_asgL el_nil (Ex.refl H) fun p H1 hp e1 hp1 => ?_
  refine s_forI (evi_range3 (lo := 0) (n := h) (ea_three ev_c (ev_eq (Evl.ev_len (ev_var rfl) (sq_of hc)) (by rw [chV_len])) (ev_var rfl)) (rgc_rows ok)) e1
    (fun Hg i σ' H' => Grow Hg p (i * w) (fun i v _ => v = .int (mRows w f r i)) H' ∧ ∃ o : Option V, σ' = [some (.ref c), some (.int (w : Int)), some (.int (r : Int)), some (.ref p), o])
    (fun Hg H2 eg eg2 e2 hn => ⟨by rw [Nat.zero_mul]; exact Grow.start (hn p _ hp1 hp) eg2 (e2 p _ hp1), none, rfl⟩) (fun Hg i σ' H' p => p.1.2.1) (fun Hg i x σ' Ha Hb eg hi pv e3 y => ?_) fun Hg σ' H' eg pv => ?_
  · obtain ⟨gr, o, rfl⟩ := pv
    have ez : (0 : Int) + (i : Int) * (w : Int) = ((i * w : Nat) : Int) := by push_cast; omega
    rw [ez] at y
    subst y
    have gb := gr.ex stb_int e3
    have im : i * w + w ≤ h * w := by
      have := Nat.mul_le_mul_right w (show i + 1 ≤ h from hi)
      rw [Nat.add_mul, Nat.one_mul] at this
      exact this
    rw [Nat.mul_comm h w] at im
    have hcb : Hb c = some (.lst (chV (w * h) f)) := gb.2.1 _ _ (eg _ _ hc)
    refine ⟨_, tg_name, s_ext (m := w) stb_int gb (by omega) (ev_var rfl) (ex_of_el (xs := chV w (mRow w (fun j => f (i * w + j)) r)) ?_ chV_len ?_) fun H2 g2 => ⟨?_, _, rfl⟩⟩
    · refine el_spN1 (Evl.el_sl (ev_var rfl) (eo_some (ev_var rfl)) (eo_some (ev_op (ev_var rfl) (ev_var rfl) rv_add)) (sq_of hcb)) (ea_one (ev_var rfl)) fun b H5 e5 hb => ⟨b, r, _, rfl, w1, w2, hr, ?_, rfl⟩
      rw [hb, cut_chV im]
    · intro H2 j v hv
      obtain ⟨rfl, hj⟩ := zip_ch hv
      have e1 : (i * w + j) % w = j := by rw [Nat.mul_comm, Nat.mul_add_mod]; exact Nat.mod_eq_of_lt hj
      have e2 : (i * w + j) / w = i := by rw [Nat.mul_comm, Nat.mul_add_div (by omega), Nat.div_eq_of_lt hj, Nat.add_zero]
      unfold mRows
      rw [e1, e2]
    · rw [Nat.add_mul, Nat.one_mul]
      exact g2
  · obtain ⟨gr, o, rfl⟩ := pv
    rw [Nat.mul_comm h w] at gr
    exact b_ret (ev_var rfl) (Ex.refl H') fun H5 e5 => q p H5 hp (eg.trans (gr.2.1.trans e5)) (e5 _ _ gr.ints)
theorem len_blurred (h : sp_blurred K A vs H Q E) : vs.length = 4 := by obtain ⟨_, _, ⟨_, _, _, _, _, _, _, rfl, _⟩, _⟩ := h; rfl
theorem ok_swap {w h : Nat} (ok : sizeOk w h) : sizeOk h w := ⟨ok.2.2.1, ok.2.2.2, ok.1, ok.2.1⟩
theorem pure_blurred (T : Txt K mg A) (h : sp_blurred K A vs H Q E) : t_blurred K A (DE Q) (start ["size", "channel", "across", "down", "found", "columns"] vs) H := by
  obtain ⟨n, g, ⟨s, c, w, h, a, d, f, rfl, hs, ok, ha, hd, hc, rfl, rfl⟩, q⟩ := h
  refine b_asgL (el_spN (n := w * h) (f := mRows w f a) (ea_three (ev_var rfl) (ev_width T (ev_var rfl) hs) (ev_var rfl)) fun H1 e1 => ⟨c, w, h, a, f, rfl, ok, ha, e1 _ _ hc, rfl, rfl⟩) (Ex.refl H) fun p H1 hp e1 hp1 => ?_
  refine b_asgL (el_spN1 (n := h * w) (f := mRows h (mOver w h (mRows w f a)) d) (xs := chV (w * h) (mOver w h (mRows w f a))) (el_spN (ea_three (ev_var rfl) (ev_width T (ev_var rfl) (hs.mono e1)) (ev_height T (ev_var rfl) (hs.mono e1))) fun H2 e2 => ⟨p, w, h, _, rfl, ok, e2 _ _ hp1, rfl, rfl⟩)
    (ea_two (ev_height T (ev_var rfl) (hs.mono e1)) (ev_var rfl)) fun b H2 e2 hb => ⟨b, h, w, d, _, rfl, ok_swap ok, hd, by rw [Nat.mul_comm h w]; exact hb, rfl, rfl⟩) (Ex.refl H1) fun p2 H2 hp2 e2 hp22 => ?_
  have e := e1.trans e2
  refine b_retL (el_spN (n := w * h) (f := mBlurred w h f a d) (ea_three (ev_var rfl) (ev_height T (ev_var rfl) (hs.mono e)) (ev_width T (ev_var rfl) (hs.mono e))) fun H3 e3 => ⟨p2, h, w, _, rfl, ok_swap ok, e3 _ _ hp22, Nat.mul_comm w h, rfl⟩) (Ex.refl H2) fun p3 H3 hp3 e3 h3 => ?_
  exact q p3 H3 (fresh_back e hp3) (e.trans e3) h3
theorem len_blur (h : sp_blur K A vs H Q E) : vs.length = 5 := by obtain ⟨_, _, _, _, ⟨_, _, _, _, _, _, _, _, rfl, _⟩, _⟩ := h; rfl
theorem pure_blur (T : Txt K mg A) (h : sp_blur K A vs H Q E) : t_blur K A (DE Q) (start ["size", "picture", "across", "down", "many", "found", "turn", "channel"] vs) H := by
  obtain ⟨u, N, G, hu, ⟨s, p, w, h, a, d, n, F, rfl, hs, ok, hp, ha, hd, hn, rfl, rfl⟩, q⟩ := h
  have sz := sz_ok ok
  refine b_asg (ev_var rfl) (Ex.refl H) fun H1 e1 => ?_
  refine s_forI (H := H) (evi_range1 (n := n) (ea_one (ev_var rfl)) (by omega)) e1
    (fun Hg i σ' H' => Ex Hg H' ∧ ∃ (o1 o2 : Option V) (b : Addr), σ' = [some (.ref s), some (.ref p), some (.int (a : Int)), some (.int (d : Int)), some (.int (n : Int)), some (.ref b), o1, o2] ∧ PicAt u H' b (w * h) (mBlur w h a d i F))
    (fun Hg H2 eg eg2 e2 hn => ⟨eg2, none, none, p, rfl, hp.mono (eg.trans eg2)⟩) (fun Hg i σ' H' p => p.1) (fun Hg i x σ' Ha Hb eg hi pv e3 y => ?_) fun Hg σ' H' eg pv => ?_
  · obtain ⟨eh, o1, o2, b, rfl, hb⟩ := pv
    subst y
    obtain ⟨acc, hl, hacc, hcs⟩ := (hb.mono e3).ls
    have eb : Ex H Hb := eg.trans (eh.trans e3)
    refine ⟨_, tg_name, ?_⟩
    refine (ep_lsX (hu.ex eb) (n := 4) (c := chC (w * h) (mBlur w h a d (i + 1) F)) ?_) Hb (Ex.refl Hb) _ fun v H4 e4 ⟨b2, ev, hb2⟩ => ?_
    · rw [← hl]
      refine eg_lc (evi_list (ev_var rfl) hacc) (by omega) (fun _ => stb_obj) fun p2 j x Hc ec _ hpc hj y => ⟨_, tg_name, rfl, ?_⟩
      obtain ⟨cc, rfl, hcc⟩ := hcs j x y
      exact ep_obj (xs := chV (w * h) (mBlurred w h (mBlur w h a d i F j) a d)) (el_spN (ea_cons (ev_var rfl) (ea_three (ev_var rfl) (ev_var rfl) (ev_var rfl))) fun H5 e5 => ⟨s, cc, w, h, a, d, _, rfl, hs.mono (eb.trans (ec.trans e5)), ok, ha, hd, (ec.trans e5) _ _ hcc, rfl, rfl⟩) hpc (hu.ex (eb.trans ec)) rfl
    · subst ev
      exact ⟨eh.trans (e3.trans e4), some (.int (i : Int)), o2, b2, rfl, hb2⟩
  · obtain ⟨eh, o1, o2, b, rfl, hb⟩ := pv
    exact b_ret (ev_var rfl) (Ex.refl H') fun H5 e5 => q b H5 (eg.trans (eh.trans e5)) (hb.mono e5)
end GT
end
section
set_option Elab.async false
set_option linter.all false
set_option maxRecDepth 100000
set_option maxHeartbeats 2000000
/-! sampling, turning, bending, levels, colours, light, joining -/
namespace GT
open PySem PySem.Spec PyProof.Rows L2
open Evl (Ex Ev EvL EvU EvT EvA EvO RV RU RC ev_var ev_c ev_op ev_un et_test et_B et_not ev_if ea_nil ea_cons eo_none eo_some ev_cb fresh_back sq_of st_of ev_andV)
section
variable {K : PySem.W.Frag} {A : Ad} {mg : Str → Option Value} {σ : L2.St} {H H1 H2 H' : Hp} {ta tb te tl tc : TE} {x y v : V} {D : Ends} {tz : TS} {ar : TA} {i j l k n m : Nat} {p : Addr}
/-- a new list, in a heap of its own -/
theorem eh_of_el {xs : List V} (h : EvL te σ H xs) : EvH te σ H (fun v Hg => ∃ a, v = .ref a ∧ Hg a = some (.lst xs)) := by
  intro H1 e Q q
  refine h H1 e _ fun p H3 hp e3 hp3 => ?_
  refine q _ (fun b => if (H1 b).isSome = true ∧ (H b).isNone = true then none else H3 b) H3 e3 (fun b o hb => ?_) (fun b o hb => ?_) (fun b o h1 h2 => ?_) ⟨p, rfl, ?_⟩
  · show (if _ then _ else _) = _
    rw [if_neg (by rw [hb]; simp)]
    exact e3 b _ (e b _ hb)
  · replace hb : (if (H1 b).isSome = true ∧ (H b).isNone = true then none else H3 b) = some o := hb
    split at hb
    · cases hb
    · exact hb
  · show (if _ then _ else _) = _
    rw [if_pos (by rw [h1, h2]; simp)]
  · show (if _ then _ else _) = _
    rw [if_neg (by rw [hp]; simp)]
    exact hp3
theorem evi_listN {xs : List V} (h : EvL tl σ H xs) : EvI (iList K tl) σ H xs.length (fun i v _ => xs[i]? = some v) :=
  evi_listH (fun H1 e Q q => eh_of_el h H1 e Q fun v Hg H2 e2 eg eg2 hn ⟨a, ev, ha⟩ => q v Hg H2 e2 eg eg2 hn ⟨a, xs, ev, ha, rfl, fun i x hx => hx⟩) fun i x Ha Hb e y => y
/-- pixels, beside two channels -/
theorem evi_zip3S {s b c : Addr} {w h : Nat} {ys zs : List V} {E' : XK} (ho : Ev ta σ H (.ref s)) (hs : SizeAt A H s w h) (ok : sizeOk w h) (h1 : Ev tb σ H (.ref b)) (h2 : Ev tc σ H (.ref c)) (hb : H b = some (.lst ys)) (hc : H c = some (.lst zs)) (ly : ys.length = w * h) (lz : zs.length = w * h) :
    EvI (iZip3 K (tCons (tMeth A.CS "spots" (sp_Size_spots K A) [] E' ta tNil) (tCons tb (tCons tc tNil)))) σ H (w * h) (fun i v H' => ∃ T x y z, v = .ref T ∧ H' T = some (.tup [x, y, z]) ∧ (∃ Tp, x = .ref Tp ∧ H' Tp = some (.tup [.int (px w i), .int (py w i)])) ∧ ys[i]? = some y ∧ zs[i]? = some z) := fun H1 e R k =>
  eh_spots (K := K) (E' := E') ho hs ok H1 e _ fun v Hg H2 e2 eg eg2 hn ⟨a, xs, ev, ha, hl, hx⟩ => h1 H2 (e.trans e2) _ fun H3 e3 => h2 H3 ((e.trans e2).trans e3) _ fun H4 e4 => by
    subst ev
    have eg4 := eg2.trans (e3.trans e4)
    refine ⟨a, b, c, xs, ys, zs, rfl, sq_of (eg4 _ _ ha), sq_of (eg4 _ _ (eg _ _ hb)), sq_of (eg4 _ _ (eg _ _ hc)), k _ Hg H4 _ (e2.trans (e3.trans e4)) eg eg4 hn
      ((walk_zip3 hl ly lz).mono (fun H' e' => ⟨sq_of (e' _ _ ha), sq_of (e' _ _ (eg _ _ hb)), sq_of (e' _ _ (eg _ _ hc))⟩) fun _ _ _ _ _ _ y => y) fun i x Ha Hb _ ea y => ?_⟩
    obtain ⟨T, u, w', s', f1, f2, f3, f4, f5, f6⟩ := y
    subst f3
    obtain ⟨Tp, t1, t2⟩ := hx i u f4
    exact ⟨Ex.new f2, T, u, w', s', f1, upd_same, ⟨Tp, t1, (Ex.new f2) _ _ (ea _ _ t2)⟩, f5, f6⟩
theorem LsAt.four {c : Nat → HO} {a : Addr} (h : LsAt H a 4 c) : ∃ c0 c1 c2 c3 : Addr, H a = some (.lst [.ref c0, .ref c1, .ref c2, .ref c3]) ∧ H c0 = some (c 0) ∧ H c1 = some (c 1) ∧ H c2 = some (c 2) ∧ H c3 = some (c 3) := by
  obtain ⟨acc, hl, ha, hc⟩ := h
  match acc, hl with
  | [a0, a1, a2, a3], _ =>
    obtain ⟨c0, rfl, h0⟩ := hc 0 a0 rfl
    obtain ⟨c1, rfl, h1⟩ := hc 1 a1 rfl
    obtain ⟨c2, rfl, h2⟩ := hc 2 a2 rfl
    obtain ⟨c3, rfl, h3⟩ := hc 3 a3 rfl
    exact ⟨c0, c1, c2, c3, ha, h0, h1, h2, h3⟩
theorem PicAt.four {u a : Addr} {F : Pct} (h : PicAt u H a n F) : ∃ c0 c1 c2 c3 : Addr, H a = some (.lst [.ref c0, .ref c1, .ref c2, .ref c3]) ∧ H c0 = some (chC n F 0) ∧ H c1 = some (chC n F 1) ∧ H c2 = some (chC n F 2) ∧ H c3 = some (chC n F 3) ∧ c3 ≠ u := by
  obtain ⟨c0, c1, c2, c3, ha, h0, h1, h2, h3⟩ := LsAt.four h
  exact ⟨c0, c1, c2, c3, (del_in ha).2, (del_in h0).2, (del_in h1).2, (del_in h2).2, (del_in h3).2, (del_in h3).1⟩
theorem ls_four {c : Nat → HO} {a c0 c1 c2 c3 : Addr} (ha : H a = some (.lst [.ref c0, .ref c1, .ref c2, .ref c3])) (h0 : H c0 = some (c 0)) (h1 : H c1 = some (c 1)) (h2 : H c2 = some (c 2)) (h3 : H c3 = some (c 3)) : LsAt H a 4 c := by
  refine ⟨_, rfl, ha, fun i v hv => ?_⟩
  match i with
  | 0 => cases hv; exact ⟨c0, rfl, h0⟩
  | 1 => cases hv; exact ⟨c1, rfl, h1⟩
  | 2 => cases hv; exact ⟨c2, rfl, h2⟩
  | 3 => cases hv; exact ⟨c3, rfl, h3⟩
  | k + 4 => simp at hv
theorem el_cat {xs zs : List V} (ha : EvL ta σ H xs) (hb : EvL tb σ H zs) (hl : xs.length + zs.length ≤ 100000) : EvL (tOp rCat ta tb) σ H (xs ++ zs) := fun H1 e Q q =>
  ha H1 e _ fun a H2 h2 e2 hx => hb H2 (e.trans e2) _ fun b H3 h3 e3 hz => ⟨a, b, xs, zs, rfl, rfl, e3 _ _ hx, hz, Evl.sz_of hl, fun p hp => q p _ (fresh_back (e2.trans e3) hp) ((e2.trans e3).trans (Ex.new hp)) upd_same⟩
/-- new things and old ones, one behind the other -/
theorem ep_cat {u : Addr} {c : Nat → HO} {zs : List V} (hu : Al H u) (ha : EvG ta σ H n (fun p => Obj1 u p c)) (hb : EvL tb σ H zs) (hz : zs.length = m) (hc : ∀ (j : Nat) (v : V), zs[j]? = some v → ∃ T, v = .ref T ∧ T ≠ u ∧ H T = some (c (n + j))) (hl : n + m ≤ 100000) :
    EvP (tOp rCat ta tb) σ H (fun v H' => ∃ p, v = .ref p ∧ LsAt (L2.del H' u) p (n + m) c) := fun H1 e Q q =>
  ha H1 e _ fun a H2 h2 e2 ⟨_, _, gr⟩ => hb H2 (e.trans e2) _ fun b H3 h3 e3 hz3 => by
    obtain ⟨acc, a1, a2, a3⟩ := (gr.lsX ((hu.ex e).ne h2)).mono (ex_del e3)
    have hu3 := hu.ex (e.trans (e2.trans e3))
    refine ⟨a, b, acc, zs, rfl, rfl, (del_in a2).2, hz3, Evl.sz_of (by omega), fun p hp => q _ _ ((e2.trans e3).trans (Ex.new hp)) ⟨p, rfl, acc ++ zs, by simp [a1, hz], del_of (hu3.ne hp) upd_same, fun i v hv => ?_⟩⟩
    rw [List.getElem?_append] at hv
    split at hv
    · obtain ⟨T, t1, t2⟩ := a3 i v hv
      exact ⟨T, t1, del_of (del_in t2).1 ((Ex.new hp) _ _ (del_in t2).2)⟩
    · next hi =>
      obtain ⟨T, t1, tn, t2⟩ := hc _ v hv
      rw [a1, show n + (i - n) = i by omega] at t2
      exact ⟨T, t1, del_of tn ((Ex.new hp) _ _ (e3 _ _ (e2 _ _ (e _ _ t2))))⟩
theorem evi_listL {a : Addr} {xs : List V} (hn : xs.length = n) (hl : Ev tl σ H (.ref a)) (h : H a = some (.lst xs)) : EvI (iList K tl) σ H n (fun i v _ => xs[i]? = some v) := by
  subst hn
  exact evi_list hl h
theorem b_asgP {P : V → Hp → Prop} (h : EvP te σ H P) (e : Ex H H1) (k : ∀ v H2, Ex H1 H2 → P v H2 → tz D (σ.set i (some v)) H2) : tSeq (tAsg te (gName i)) tz D σ H1 := h H1 e _ fun v H2 e2 p => k v H2 e2 p
theorem el_sl_ch {lo hi : Int} {t1 t2 : TE} {a : Addr} {N : Nat} {f : Nat → Int} (h : Ev te σ H (.ref a)) (h1 : Ev t1 σ H (.int lo)) (h2 : Ev t2 σ H (.int hi)) (hs : H a = some (.lst (chV N f))) (e1 : lo = (i : Int)) (e2 : hi = (i : Int) + (m : Int)) (hle : i + m ≤ N) :
    EvL (tSl (rSlL K) te (tPart t1) (tPart t2)) σ H (chV m fun j => f (i + j)) := by
  subst e1 e2
  have := Evl.el_sl (K := K) h (eo_some h1) (eo_some h2) (sq_of hs)
  rw [cut_chV hle] at this
  exact this
theorem b_parL {xs : List V} (h : Ev ta σ H v) (h2 : EvL tb σ H xs) (e : Ex H H1) (k : ∀ p H2, H1 p = none → Ex H1 H2 → H2 p = some (.lst xs) → tz D ((σ.set i (some v)).set j (some (.ref p))) H2) : tSeq (tPar i j (tCons ta (tCons tb tNil))) tz D σ H1 := by
  show tCons ta (tCons tb tNil) σ H1 fun vs H2 => ∃ v w, vs = [v, w] ∧ tz D ((σ.set i (some v)).set j (some w)) H2
  exact h H1 e _ fun H2 e2 => h2 H2 (e.trans e2) _ fun p H3 hp e3 h3 => ⟨v, .ref p, rfl, k p H3 (fresh_back e2 hp) (e2.trans e3) h3⟩
end
variable {K : PySem.W.Frag} {A : Ad} {mg : Str → Option Value} {vs : List V} {H : Hp} {Q : VK} {E : XK}
theorem len_sampled (h : sp_sampled K A vs H Q E) : vs.length = 3 := by obtain ⟨_, _, _, _, ⟨_, _, _, _, _, _, _, _, rfl, _⟩, _⟩ := h; rfl
theorem pure_sampled (T : Txt K mg A) (h : sp_sampled K A vs H Q E) : t_sampled K A (DE Q) (start ["size", "picture", "places", "channel", "x", "y"] vs) H := by
  obtain ⟨u, N, G, hu, ⟨s, p, q', w, h, F, X, Y, rfl, hs, ok, hF, ⟨acc2, hl2, ha2, hps⟩, rfl, rfl⟩, q⟩ := h
  obtain ⟨acc, hl, ha, hcs⟩ := hF.ls
  have sz := sz_ok ok
  refine b_retP (ep_lsX hu (n := 4) (c := chC (w * h) (mSampled w h F X Y)) ?_) (Ex.refl H) fun v H2 e2 ⟨p, ev, hp⟩ => by subst ev; exact q p H2 e2 hp
  refine eg_lc (evi_listL hl (ev_var rfl) ha) (by omega) (fun p => stb_obj) fun p k x Hb eb hp hpb hk y => ⟨_, tg_name, rfl, ?_⟩
  obtain ⟨cc, rfl, hcc⟩ := hcs k x y
  refine ep_obj (xs := chV (w * h) (mSampled w h F X Y k)) ?_ hpb (hu.ex eb) rfl
  refine el_lcI (evi_listL hl2 (ev_var rfl) (eb _ _ ha2)) (by omega) fun i x Hc ec hi y => ?_
  obtain ⟨Tp, rfl, hT⟩ := hps i x y
  exact ⟨_, tg_tup2 (ec _ _ (eb _ _ hT)) tg_name tg_name, rfl, ev_sample (ev_var rfl) (ev_var rfl) (ev_var rfl) (ev_var rfl) (hs.mono (eb.trans ec)) ok (ec _ _ (eb _ _ hcc))⟩
theorem len_turn (h : sp_turn K A vs H Q E) : vs.length = 4 := by obtain ⟨_, _, _, _, ⟨_, _, _, _, _, _, _, rfl, _⟩, _⟩ := h; rfl
theorem pure_turn (T : Txt K mg A) (h : sp_turn K A vs H Q E) : t_turn K A (DE Q) (start ["size", "picture", "c", "s", "places", "x", "y", "u", "v"] vs) H := by
  obtain ⟨u, N, G, hu, ⟨s, a, w, h, F, c, t, rfl, hs, ok, hF, c1, c2, t1, t2, rfl, rfl⟩, q⟩ := h
  have sz := sz_ok ok
  refine b_asgL el_nil (Ex.refl H) fun p H1 hp e1 hp1 => ?_
  refine s_forI (D := { nx := _, rt := _ }) (evi_spots (ev_var rfl) hs ok) e1
    (fun Hg i σ' H' => Grow Hg p i (Obj1 p p (prC (mTurnX w h c t) (mTurnY w h c t))) H' ∧ ∃ o1 o2 o3 o4 : Option V, σ' = [some (.ref s), some (.ref a), some (.int c), some (.int t), some (.ref p), o1, o2, o3, o4])
    (fun Hg H3 eg eg2 e3 hn => ⟨Grow.start (hn p _ hp1 hp) eg2 (e3 p _ hp1), _, _, _, _, rfl⟩) (fun Hg i σ' H' p => p.1.2.1) (fun Hg i x σ' Ha Hb eg hi pv e3 y => ?_) fun Hg σ' H' eg pv => ?_
  · obtain ⟨gr, o1, o2, o3, o4, rfl⟩ := pv
    obtain ⟨Tp, rfl, hT⟩ := y
    have gb := gr.ex stb_obj e3
    have eb : Ex H Hb := eg.trans gb.2.1
    refine ⟨_, tg_tup2 hT tg_name tg_name, b_par (ev_op (ev_var rfl) (ev_op (ev_width T (ev_var rfl) (hs.mono eb)) ev_c (rv_div (by unfold CDiv; omega))) rv_sub) (ev_op (ev_var rfl) (ev_op (ev_height T (ev_var rfl) (hs.mono eb)) ev_c (rv_div (by unfold CDiv; omega))) rv_sub) (Ex.refl Hb) fun H6 e6 => ?_⟩
    have g6 := gb.ex stb_obj e6
    replace eb := eb.trans e6
    refine s_push stb_obj g6 (by omega) (ev_var rfl) (ep_tup (xs := [.int (mTurnX w h c t i), .int (mTurnY w h c t i)]) ?_ (let ⟨acc, _, q, _⟩ := g6.2.2; ⟨_, q⟩) rfl) fun H4 g4 => ⟨g4, _, _, _, _, rfl⟩
    exact eu_two (ev_op (ev_op (ev_op (ev_op (ev_var rfl) (ev_var rfl) (rv_mul (by unfold CMul; omega))) (ev_op (ev_var rfl) (ev_var rfl) (rv_mul (by unfold CMul; omega))) rv_sub) ev_c (rv_div (by unfold CDiv; omega))) (ev_op ev_c (ev_width T (ev_var rfl) (hs.mono eb)) (rv_mul (by unfold CMul; omega))) rv_add) (ev_op (ev_op (ev_op (ev_op (ev_var rfl) (ev_var rfl) (rv_mul (by unfold CMul; omega))) (ev_op (ev_var rfl) (ev_var rfl) (rv_mul (by unfold CMul; omega))) rv_add) ev_c (rv_div (by unfold CDiv; omega))) (ev_op ev_c (ev_height T (ev_var rfl) (hs.mono eb)) (rv_mul (by unfold CMul; omega))) rv_add)
  · obtain ⟨gr, o1, o2, o3, o4, rfl⟩ := pv
    have e2 := eg.trans gr.2.1
    refine b_retP (ep_spP (hu.ex e2) (n := w * h) (F := mTurn w h F c t) (ea_three (ev_var rfl) (ev_var rfl) (ev_var rfl)) fun H5 e5 => ⟨s, a, p, w, h, F, _, _, rfl, hs.mono (e2.trans e5), ok, hF.mono (e2.trans e5), gr.ls.mono e5, rfl, rfl⟩) (Ex.refl H') fun v H5 e5 ⟨p, ev, hp⟩ => ?_
    subst ev
    exact q p H5 (e2.trans e5) hp
theorem len_bend (h : sp_bend K A vs H Q E) : vs.length = 4 := by obtain ⟨_, _, _, _, ⟨_, _, _, _, _, _, _, _, rfl, _⟩, _⟩ := h; rfl
theorem pure_bend (T : Txt K mg A) (h : sp_bend K A vs H Q E) : t_bend K A (DE Q) (start ["size", "picture", "top", "many", "places", "spot", "a", "b", "across", "down"] vs) H := by
  obtain ⟨u, N, G, hu, ⟨s, a, b, w, h, F, U, n, rfl, hs, ok, hF, hU, n1, n2, rfl, rfl⟩, q⟩ := h
  have sz := sz_ok ok
  obtain ⟨d0, d1, d2, d3, ht, hd0, hd1, _, _⟩ := hU.ls.four
  refine b_asgL el_nil (Ex.refl H) fun p H1 hp e1 hp1 => ?_
  refine s_forI (D := { nx := _, rt := _ }) (evi_zip3S (ev_var rfl) hs ok (ev_ixL (ev_var rfl) ev_c ht rfl) (ev_ixL (ev_var rfl) ev_c ht rfl) hd0 hd1 chV_len chV_len) e1
    (fun Hg i σ' H' => Grow Hg p i (Obj1 p p (prC (fun i => 256 * px w i + (U 0 i - 32768) * n / 32768) (fun i => 256 * py w i + (U 1 i - 32768) * n / 32768))) H' ∧ ∃ o1 o2 o3 o4 o5 : Option V, σ' = [some (.ref s), some (.ref a), some (.ref b), some (.int n), some (.ref p), o1, o2, o3, o4, o5])
    (fun Hg H3 eg eg2 e3 hn => ⟨Grow.start (hn p _ hp1 hp) eg2 (e3 p _ hp1), _, _, _, _, _, rfl⟩) (fun Hg i σ' H' p => p.1.2.1) (fun Hg i x σ' Ha Hb eg hi pv e3 y => ?_) fun Hg σ' H' eg pv => ?_
  · obtain ⟨gr, o1, o2, o3, o4, o5, rfl⟩ := pv
    obtain ⟨Tp, x1, x2, x3, rfl, hT, ⟨T2, rfl, hT2⟩, hy, hz⟩ := y
    obtain ⟨rfl, _⟩ := zip_ch hy
    obtain ⟨rfl, _⟩ := zip_ch hz
    have gb := gr.ex stb_obj e3
    refine ⟨_, tg_tup3 hT tg_name tg_name tg_name, b_par (ev_op (ev_op (ev_op (ev_var rfl) ev_c rv_sub) (ev_var rfl) (rv_mul (by unfold CMul; omega))) ev_c (rv_div (by unfold CDiv; omega))) (ev_op (ev_op (ev_op (ev_var rfl) ev_c rv_sub) (ev_var rfl) (rv_mul (by unfold CMul; omega))) ev_c (rv_div (by unfold CDiv; omega))) (Ex.refl Hb) fun H6 e6 => ?_⟩
    have g6 := gb.ex stb_obj e6
    refine s_push stb_obj g6 (by omega) (ev_var rfl) (ep_tup (xs := [.int (256 * px w i + (U 0 i - 32768) * n / 32768), .int (256 * py w i + (U 1 i - 32768) * n / 32768)]) ?_ (let ⟨acc, _, q, _⟩ := g6.2.2; ⟨_, q⟩) rfl) fun H4 g4 => ⟨g4, _, _, _, _, _, rfl⟩
    exact eu_two (ev_op (ev_op ev_c (ev_ixT (ev_var rfl) ev_c (st_of (e6 _ _ hT2)) rfl) (rv_mul (by unfold CMul; omega))) (ev_var rfl) rv_add) (ev_op (ev_op ev_c (ev_ixT (ev_var rfl) ev_c (st_of (e6 _ _ hT2)) rfl) (rv_mul (by unfold CMul; omega))) (ev_var rfl) rv_add)
  · obtain ⟨gr, o1, o2, o3, o4, o5, rfl⟩ := pv
    have e2 := eg.trans gr.2.1
    refine b_retP (ep_spP (hu.ex e2) (n := w * h) (F := mBend w h F U n) (ea_three (ev_var rfl) (ev_var rfl) (ev_var rfl)) fun H5 e5 => ⟨s, a, p, w, h, F, _, _, rfl, hs.mono (e2.trans e5), ok, hF.mono (e2.trans e5), gr.ls.mono e5, rfl, rfl⟩) (Ex.refl H') fun v H5 e5 ⟨p, ev, hp⟩ => ?_
    subst ev
    exact q p H5 (e2.trans e5) hp
theorem len_levels (h : sp_levels K A vs H Q E) : vs.length = 3 := by obtain ⟨_, _, _, _, ⟨_, _, _, _, rfl, _⟩, _⟩ := h; rfl
theorem three_of {P : Nat → V → Prop} {a b c : V} (h0 : P 0 a) (h1 : P 1 b) (h2 : P 2 c) : ∀ (i : Nat) (v : V), ([a, b, c] : List V)[i]? = some v → P i v ∧ i < 3 := fun i v hv => by
  match i with
  | 0 => cases hv; exact ⟨h0, by decide⟩
  | 1 => cases hv; exact ⟨h1, by decide⟩
  | 2 => cases hv; exact ⟨h2, by decide⟩
  | k + 3 => simp at hv
theorem one_of {P : Nat → V → Prop} {a : V} (h0 : P 0 a) : ∀ (i : Nat) (v : V), ([a] : List V)[i]? = some v → P i v := fun i v hv => by
  match i with
  | 0 => cases hv; exact h0
  | k + 1 => simp at hv
theorem pure_levels (T : Txt K mg A) (h : sp_levels K A vs H Q E) : t_levels K A (DE Q) (start ["picture", "low", "high", "channel", "value"] vs) H := by
  obtain ⟨u, N, G, hu, ⟨a, F, lo, hi, rfl, hN, hF, l1, l2, l3, rfl⟩, q⟩ := h
  obtain ⟨c0, c1, c2, c3, ha, h0, h1, h2, h3, n3⟩ := hF.four
  refine b_retP (ep_cat hu (n := 3) (m := 1) (c := chC N (mLevels F lo hi)) (zs := [.ref c3]) ?_ (Evl.el_sl (ev_var rfl) (eo_some ev_c) eo_none (sq_of ha)) rfl (one_of ⟨c3, rfl, n3, h3⟩) (by decide)) (Ex.refl H) fun v H2 e2 ⟨p, ev, hp⟩ => by subst ev; exact q p H2 e2 hp
  refine eg_lc (evi_listN (xs := [.ref c0, .ref c1, .ref c2]) (Evl.el_sl (ev_var rfl) eo_none (eo_some ev_c) (sq_of ha))) (by decide) (fun p => stb_obj) fun p k x Hb eb hp hpb hk y => ⟨_, tg_name, rfl, ?_⟩
  obtain ⟨⟨cc, rfl, hcc⟩, k3⟩ := three_of (P := fun k v => ∃ cc, v = V.ref cc ∧ H cc = some (chC N F k)) ⟨c0, rfl, h0⟩ ⟨c1, rfl, h1⟩ ⟨c2, rfl, h2⟩ k x y
  refine ep_obj (xs := chV N (mLevels F lo hi k)) ?_ hpb (hu.ex eb) rfl
  refine el_lcI (evi_listL chV_len (ev_var rfl) (eb _ _ hcc)) (by omega) fun i x Hc ec hi y => ⟨_, tg_name, rfl, ?_⟩
  obtain ⟨rfl, _⟩ := zip_ch y
  unfold mLevels
  rw [if_pos k3]
  exact ev_spI (ea_three (ev_var rfl) (ev_var rfl) (ev_var rfl)) fun H5 e5 => ⟨_, lo, _, rfl, l1, l2, l3, rfl⟩
theorem len_coloured (h : sp_coloured K A vs H Q E) : vs.length = 2 := by obtain ⟨_, _, ⟨_, _, _, _, _, _, _, rfl, _⟩, _⟩ := h; rfl
theorem pure_coloured (T : Txt K mg A) (h : sp_coloured K A vs H Q E) : t_coloured K A (DE Q) (start ["picture", "row", "found", "r", "g", "b"] vs) H := by
  obtain ⟨N, G, ⟨a, ro, F, k0, k1, k2, k3, rfl, hN, hF, hr, ⟨b1, b2⟩, ⟨b3, b4⟩, ⟨b5, b6⟩, rfl⟩, q⟩ := h
  obtain ⟨c0, c1, c2, c3, ha, h0, h1, h2, h3⟩ := hF.four
  refine b_asgL el_nil (Ex.refl H) fun p H1 hp e1 hp1 => ?_
  refine s_forI (D := { nx := _, rt := _ }) (evi_zip3 (n := N) (ea_three (ev_ixL (ev_var rfl) ev_c ha rfl) (ev_ixL (ev_var rfl) ev_c ha rfl) (ev_ixL (ev_var rfl) ev_c ha rfl)) h0 h1 h2 chV_len chV_len chV_len) e1
    (fun Hg i σ' H' => Grow Hg p i (fun i v _ => v = .int (mColoured F k0 k1 k2 k3 i)) H' ∧ ∃ o1 o2 o3 : Option V, σ' = [some (.ref a), some (.ref ro), some (.ref p), o1, o2, o3])
    (fun Hg H3 eg eg2 e3 hn => ⟨Grow.start (hn p _ hp1 hp) eg2 (e3 p _ hp1), _, _, _, rfl⟩) (fun Hg i σ' H' p => p.1.2.1) (fun Hg i x σ' Ha Hb eg hi pv e3 y => ?_) fun Hg σ' H' eg pv => ?_
  · obtain ⟨gr, o1, o2, o3, rfl⟩ := pv
    obtain ⟨Tp, x1, x2, x3, rfl, hT, hx, hy, hz⟩ := y
    obtain ⟨rfl, _⟩ := zip_ch hx
    obtain ⟨rfl, _⟩ := zip_ch hy
    obtain ⟨rfl, _⟩ := zip_ch hz
    have gb := gr.ex stb_int e3
    have eb : Ex H Hb := eg.trans gb.2.1
    refine ⟨_, tg_tup3 hT tg_name tg_name tg_name, s_push stb_int gb (by omega) (ev_var rfl) (p_of_ev (ev_spI (n := mColoured F k0 k1 k2 k3 i) (ea_one (ev_op (ev_op (ev_op (ev_op (ev_op (ev_ixL (ev_var rfl) ev_c (eb _ _ hr) rfl) (ev_var rfl) (rv_mul (by unfold CMul; omega))) (ev_op (ev_ixL (ev_var rfl) ev_c (eb _ _ hr) rfl) (ev_var rfl) (rv_mul (by unfold CMul; omega))) rv_add) (ev_op (ev_ixL (ev_var rfl) ev_c (eb _ _ hr) rfl) (ev_var rfl) (rv_mul (by unfold CMul; omega))) rv_add) (ev_op ev_c (ev_ixL (ev_var rfl) ev_c (eb _ _ hr) rfl) (rv_mul (by unfold CMul; omega))) rv_add) ev_c (rv_div (by unfold CDiv; omega)))) fun H5 e5 => ⟨_, rfl, rfl⟩)) fun H4 g4 => ⟨g4, _, _, _, rfl⟩⟩
  · obtain ⟨gr, o1, o2, o3, rfl⟩ := pv
    exact b_ret (ev_var rfl) (Ex.refl H') fun H5 e5 => q p H5 hp (eg.trans (gr.2.1.trans e5)) (e5 _ _ gr.ints)
theorem len_recoloured (h : sp_recoloured K A vs H Q E) : vs.length = 2 := by obtain ⟨_, _, _, _, ⟨_, _, _, _, rfl, _⟩, _⟩ := h; rfl
theorem pure_recoloured (T : Txt K mg A) (h : sp_recoloured K A vs H Q E) : t_recoloured K A (DE Q) (start ["picture", "matrix", "rows", "k", "row"] vs) H := by
  obtain ⟨u, N, G, hu, ⟨a, r, F, m, rfl, hN, hF, hr, hm, rfl⟩, q⟩ := h
  obtain ⟨c0, c1, c2, c3, ha, h0, h1, h2, h3, n3⟩ := hF.four
  refine b_asgP (ep_ls (n := 3) (c := fun k => .lst (chV 4 fun i => m (4 * k + i))) ?_) (Ex.refl H) fun v H2 e2 ⟨rs, ev, hrs⟩ => ?_
  · refine eg_lc (evi_range1 (n := 3) (ea_one ev_c) (by decide)) (by decide) (fun p => stb_obj) fun p k x Hb eb hp hpb hk y => ⟨_, tg_name, rfl, ?_⟩
    subst y
    refine ep_obj (xs := chV 4 fun i => m (4 * k + i)) ?_ hpb hpb rfl
    exact el_sl_ch (i := 4 * k) (m := 4) (ev_var rfl) (ev_op ev_c (ev_var rfl) (rv_mul (by unfold CMul; omega))) (ev_op (ev_op ev_c (ev_var rfl) (rv_mul (by unfold CMul; omega))) ev_c rv_add) (eb _ _ hr) (by push_cast; rfl) (by push_cast; rfl) (by omega)
  subst ev
  obtain ⟨acc, hl, hacc, hcs⟩ := hrs
  refine b_retP (ep_cat (hu.ex e2) (n := 3) (m := 1) (c := chC N (mRecoloured F m)) (zs := [.ref c3]) ?_ (Evl.el_sl (ev_var rfl) (eo_some ev_c) eo_none (sq_of (e2 _ _ ha))) rfl (one_of ⟨c3, rfl, n3, e2 _ _ h3⟩) (by decide)) (Ex.refl H2) fun v H4 e4 ⟨p, ev, hp⟩ => by subst ev; exact q p H4 (e2.trans e4) hp
  refine eg_lc (evi_listL hl (ev_var rfl) hacc) (by omega) (fun p => stb_obj) fun p k x Hb eb hp hpb hk y => ⟨_, tg_name, rfl, ?_⟩
  obtain ⟨cc, rfl, hcc⟩ := hcs k x y
  have k3 : k < 3 := by omega
  have m0 := hm (4 * k) (by omega)
  have m1 := hm (4 * k + 1) (by omega)
  have m2 := hm (4 * k + 2) (by omega)
  refine ep_obj (xs := chV N (mRecoloured F m k)) ?_ hpb (hu.ex (e2.trans eb)) rfl
  have e : mRecoloured F m k = mColoured F (m (4 * k)) (m (4 * k + 1)) (m (4 * k + 2)) (m (4 * k + 3)) := by
    funext i
    unfold mRecoloured
    rw [if_pos k3]
  rw [e]
  exact el_spN (ea_two (ev_var rfl) (ev_var rfl)) fun H5 e5 => ⟨a, cc, F, _, _, _, _, rfl, hN, hF.ls.mono (e2.trans (eb.trans e5)), e5 _ _ (eb _ _ hcc), m0, m1, m2, rfl⟩
theorem len_light (h : sp_light K A vs H Q E) : vs.length = 5 := by obtain ⟨_, _, _, _, ⟨_, _, _, _, _, _, _, _, rfl, _⟩, _⟩ := h; rfl
theorem pure_light (T : Txt K mg A) (h : sp_light K A vs H Q E) : t_light K A (DE Q) (start ["size", "picture", "lx", "ly", "many", "first", "found", "x", "y", "dx", "dy"] vs) H := by
  obtain ⟨u, N, G, hu, ⟨s, a, w, h, F, lx, ly, n, rfl, hs, ok, hF, ⟨x1, x2⟩, ⟨y1, y2⟩, ⟨n1, n2⟩, rfl, rfl⟩, q⟩ := h
  have sz := sz_ok ok
  obtain ⟨c0, c1, c2, c3, ha, h0, h1, h2, h3, n3⟩ := hF.four
  refine b_parL (ev_ixL (ev_var rfl) ev_c ha rfl) el_nil (Ex.refl H) fun p H1 hp e1 hp1 => ?_
  refine s_forI (D := { nx := _, rt := _ }) (evi_spots (ev_var rfl) hs ok) e1
    (fun Hg i σ' H' => Grow Hg p i (fun i v _ => v = .int (mLit w h (F 0) lx ly n i)) H' ∧ ∃ o1 o2 o3 o4 : Option V, σ' = [some (.ref s), some (.ref a), some (.int lx), some (.int ly), some (.int n), some (.ref c0), some (.ref p), o1, o2, o3, o4])
    (fun Hg H3 eg eg2 e3 hn => ⟨Grow.start (hn p _ hp1 hp) eg2 (e3 p _ hp1), _, _, _, _, rfl⟩) (fun Hg i σ' H' p => p.1.2.1) (fun Hg i x σ' Ha Hb eg hi pv e3 y => ?_) fun Hg σ' H' eg pv => ?_
  · obtain ⟨gr, o1, o2, o3, o4, rfl⟩ := pv
    obtain ⟨Tp, rfl, hT⟩ := y
    have gb := gr.ex stb_int e3
    have eb : Ex H Hb := eg.trans gb.2.1
    refine ⟨_, tg_tup2 hT tg_name tg_name, b_asg (ev_op (ev_value (ev_var rfl) (ev_var rfl) (ev_op (ev_var rfl) ev_c rv_add) (ev_var rfl) (hs.mono eb) ok (eb _ _ h0)) (ev_value (ev_var rfl) (ev_var rfl) (ev_op (ev_var rfl) ev_c rv_sub) (ev_var rfl) (hs.mono eb) ok (eb _ _ h0)) rv_sub) (Ex.refl Hb) fun H6 e6 => ?_⟩
    refine b_asg (ev_op (ev_value (ev_var rfl) (ev_var rfl) (ev_var rfl) (ev_op (ev_var rfl) ev_c rv_add) (hs.mono eb) ok (eb _ _ h0)) (ev_value (ev_var rfl) (ev_var rfl) (ev_var rfl) (ev_op (ev_var rfl) ev_c rv_sub) (hs.mono eb) ok (eb _ _ h0)) rv_sub) e6 fun H7 e7 => ?_
    have g7 := gb.ex stb_int e7
    exact s_push stb_int g7 (by omega) (ev_var rfl) (p_of_ev (ev_spI (n := mLit w h (F 0) lx ly n i) (ea_one (ev_op ev_c (ev_op (ev_op (ev_op (ev_op (ev_var rfl) (ev_var rfl) (rv_mul (by unfold CMul; omega))) (ev_op (ev_var rfl) (ev_var rfl) (rv_mul (by unfold CMul; omega))) rv_add) (ev_var rfl) (rv_mul (by unfold CMul; omega))) ev_c (rv_div (by unfold CDiv; omega))) rv_add)) fun H5 e5 => ⟨_, rfl, rfl⟩)) fun H4 g4 => ⟨g4, _, _, _, _, rfl⟩
  · obtain ⟨gr, o1, o2, o3, o4, rfl⟩ := pv
    have e2 := eg.trans gr.2.1
    have hp2 := gr.ints
    refine b_retL (el_cat (xs := [.ref p, .ref p, .ref p]) (zs := [.ref c3]) (Evl.el_lst (ea_three (ev_var rfl) (ev_var rfl) (ev_var rfl)) (by show 3 ≤ 100000; decide)) (Evl.el_sl (ev_var rfl) (eo_some ev_c) eo_none (sq_of (e2 _ _ ha))) (by show 3 + 1 ≤ 100000; decide)) (Ex.refl H') fun p4 H4 hp4 e4 h4 => ?_
    exact q p4 H4 (e2.trans e4) (ls_four (c := chC (w * h) (mLight w h F lx ly n)) (del_of ((hu.ex e2).ne hp4) h4) (del_of (hu.ne hp) (e4 _ _ hp2)) (del_of (hu.ne hp) (e4 _ _ hp2)) (del_of (hu.ne hp) (e4 _ _ hp2)) (del_of n3 (e4 _ _ (e2 _ _ h3))))
theorem len_joined (h : sp_joined K A vs H Q E) : vs.length = 3 := by obtain ⟨_, _, _, _, ⟨_, _, _, _, _, rfl, _⟩, _⟩ := h; rfl
theorem pure_joined (T : Txt K mg A) (h : sp_joined K A vs H Q E) : t_joined K A (DE Q) (start ["mode", "below", "top", "found", "one", "other", "b", "t", "k"] vs) H := by
  obtain ⟨u, N, G, hu, ⟨a, b, F, U, m, rfl, hN, hF, hU, bF, bU, rfl⟩, q⟩ := h
  obtain ⟨acc, hl, ha, hcs⟩ := hF.ls
  obtain ⟨d0, d1, d2, d3, ht, hd0, hd1, hd2, hd3⟩ := hU.ls.four
  obtain ⟨acc2, hl2, ha2, hcs2⟩ := hU.ls
  refine b_asgL el_nil (Ex.refl H) fun p H1 hp e1 hp1 => ?_
  refine s_forI (D := { nx := _, rt := _ }) (evi_zip (n := 4) (ea_two (ev_var rfl) (ev_var rfl)) ha ha2 hl hl2) e1
    (fun Hg i σ' H' => Grow Hg p i (Obj1 u p (chC N (mJoined m F U))) H' ∧ ∃ o1 o2 o3 o4 o5 : Option V, σ' = [some (.int m), some (.ref a), some (.ref b), some (.ref p), o1, o2, o3, o4, o5])
    (fun Hg H3 eg eg2 e3 hn => ⟨Grow.start (hn p _ hp1 hp) eg2 (e3 p _ hp1), _, _, _, _, _, rfl⟩) (fun Hg i σ' H' p => p.1.2.1) (fun Hg i x σ' Ha Hb eg hi pv e3 y => ?_) fun Hg σ' H' eg pv => ?_
  · obtain ⟨gr, o1, o2, o3, o4, o5, rfl⟩ := pv
    obtain ⟨Tp, x1, x2, rfl, hT, hx, hy⟩ := y
    obtain ⟨cc, rfl, hcc⟩ := hcs i x1 hx
    obtain ⟨cd, rfl, hcd⟩ := hcs2 i x2 hy
    have gb := gr.ex stb_obj e3
    have eb : Ex H Hb := eg.trans gb.2.1
    refine ⟨_, tg_tup2 hT tg_name tg_name, s_push stb_obj gb (by omega) (ev_var rfl) (ep_obj (xs := chV N (mJoined m F U i)) ?_ (let ⟨acc, _, q, _⟩ := gb.2.2; ⟨_, q⟩) (hu.ex eb) rfl) fun H4 g4 => ⟨g4, _, _, _, _, _, rfl⟩⟩
    refine el_lcI (evi_zip3 (n := N) (ea_three (ev_var rfl) (ev_var rfl) (ev_ixL (ev_var rfl) ev_c (eb _ _ ht) rfl)) (eb _ _ hcc) (eb _ _ hcd) (eb _ _ hd3) chV_len chV_len chV_len) (by omega) fun j x Hc ec hj ⟨T2, y1, y2, y3, z1, z2, z3, z4, z5⟩ => ?_
    obtain ⟨rfl, _⟩ := zip_ch z3
    obtain ⟨rfl, _⟩ := zip_ch z4
    obtain ⟨rfl, _⟩ := zip_ch z5
    subst z1
    exact ⟨_, tg_tup3 z2 tg_name tg_name tg_name, rfl, ev_spI (ea_cons (ev_var rfl) (ea_three (ev_var rfl) (ev_var rfl) (ev_var rfl))) fun H5 e5 => ⟨_, _, _, _, rfl, bF i j hi hj, bU i j hi hj, rfl⟩⟩
  · obtain ⟨gr, o1, o2, o3, o4, o5, rfl⟩ := pv
    exact b_ret (ev_var rfl) (Ex.refl H') fun H5 e5 => q p H5 (eg.trans (gr.2.1.trans e5)) (PicAt.mono (gr.lsX (hu.ne hp)) e5)
end GT
end
section
set_option Elab.async false
set_option linter.all false
set_option maxRecDepth 100000
set_option maxHeartbeats 2000000
/-! noise -/
namespace GT
open PySem PySem.Spec PyProof.Rows L2
open Evl (Ex Ev EvL EvU EvT EvA EvO RV RU RC ev_var ev_c ev_op ev_un et_test et_B et_not ev_if ea_nil ea_cons eo_none eo_some ev_cb fresh_back sq_of st_of ev_andV)
section
variable {K : PySem.W.Frag} {A : Ad} {mg : Str → Option Value} {σ : L2.St} {H H1 H2 H' : Hp} {ta tb te tl tc td tv : TE} {x y z v : V} {D : Ends} {tz : TS} {ar : TA} {i j l k n m : Nat} {p : Addr}
theorem SizeAt.monoB {a : Addr} {w h : Nat} (s : SizeAt A H a w h) (n : a ≠ p) (e : ExB p H H') : SizeAt A H' a w h := let ⟨dx, q⟩ := s; ⟨dx, e a _ n q⟩
theorem b_fld {f : Str} {a C dx : Addr} {fs : List (Str × V)} (hv : Ev tv σ H v) (ho : Ev ta σ H (.ref a)) (hI : H a = some (.ins C dx fs)) (c : Cls K C) (n : NoAttr K C f) (l : fs.length < 1000) (k : ∀ H2, Ex H H2 → tz D σ (upd H2 a (.ins C dx (putF f v fs)))) : tSeq (sFld K ta tv f) tz D σ H :=
  hv H (Ex.refl H) _ fun H1 e1 => ho H1 e1 _ fun H2 e2 => ⟨a, C, dx, fs, rfl, e2 _ _ (e1 _ _ hI), c, n, l, k H2 (e1.trans e2)⟩
theorem b_fldL {f : Str} {a C dx : Addr} {fs : List (Str × V)} {xs : List V} (hv : EvL tv σ H xs) (ho : Ev ta σ H (.ref a)) (hI : H a = some (.ins C dx fs)) (c : Cls K C) (n : NoAttr K C f) (l : fs.length < 1000) (k : ∀ q H2, H q = none → Ex H H2 → H2 q = some (.lst xs) → tz D σ (upd H2 a (.ins C dx (putF f (.ref q) fs)))) : tSeq (sFld K ta tv f) tz D σ H :=
  hv H (Ex.refl H) _ fun q H1 hq e1 h1 => ho H1 e1 _ fun H2 e2 => ⟨a, C, dx, fs, rfl, e2 _ _ (e1 _ _ hI), c, n, l, k q H2 hq (e1.trans e2) (e2 _ _ h1)⟩
theorem b_tupL2 {xs : List V} (h1 : EvL ta σ H xs) (h2 : Ev tb σ H y) (e : Ex H H1) (k : ∀ p H2, H1 p = none → Ex H1 H2 → H2 p = some (.lst xs) → tz D ((σ.set i (some (.ref p))).set j (some y)) H2) : tSeq (tAsg (tTup (tCons ta (tCons tb tNil))) (gTup K 2 (gCons (gName i) (gCons (gName j) gNil)))) tz D σ H1 := by
  show tTup (tCons ta (tCons tb tNil)) σ H1 fun v H2 => gTup K 2 (gCons (gName i) (gCons (gName j) gNil)) v σ H2 (tz D)
  exact h1 H1 e _ fun p H2 hp e2 hp2 => h2 H2 (e.trans e2) _ fun H3 e3 => ⟨by show 2 ≤ sizeLine; decide, fun T hT => tg_tup2 upd_same tg_name tg_name _ (k p _ hp (e2.trans (e3.trans (Ex.new hT))) ((Ex.new hT) _ _ (e3 _ _ hp2)))⟩
theorem ep_four {u : Addr} {xs : List V} (hu : Al H u) (h1 : Ev ta σ H x) (h2 : Ev tb σ H y) (h3 : Ev tc σ H z) (h4 : EvL td σ H xs) : EvP (tLst (tCons ta (tCons tb (tCons tc (tCons td tNil))))) σ H (fun v H' => ∃ p d, v = .ref p ∧ p ≠ u ∧ d ≠ u ∧ H' p = some (.lst [x, y, z, .ref d]) ∧ H' d = some (.lst xs)) := fun H1 e Q q =>
  h1 H1 e _ fun H2 e2 => h2 H2 (e.trans e2) _ fun H3 e3 => h3 H3 ((e.trans e2).trans e3) _ fun H4 e4 => h4 H4 (((e.trans e2).trans e3).trans e4) _ fun d H5 hd e5 h5 =>
    ⟨by show 4 ≤ sizeLine; decide, fun p hp => q _ _ (e2.trans (e3.trans (e4.trans (e5.trans (Ex.new hp))))) ⟨p, d, rfl, (hu.ex ((((e.trans e2).trans e3).trans e4).trans e5)).ne hp, (hu.ex (((e.trans e2).trans e3).trans e4)).ne hd, upd_same, (Ex.new hp) _ _ h5⟩⟩
/-- Layer(..) -/
theorem ep_layer {s : Addr} {w h sd : Nat} {seed o : Int} (ha : EvA ar σ H [.ref s, .int seed, .int o, .int (sd : Int)]) (hs : SizeAt A H s w h) (ok : sizeOk w h) (h1 : 1 ≤ sd) (h2 : sd ≤ 64) :
    EvP (tMake A.CL (sp_Layer___init__ K A) [] E0 ar) σ H (fun v H' => ∃ p, v = .ref p ∧ LayerAt A H' p w h sd seed o) := fun H1 e Q q =>
  ha H1 e _ fun H2 e2 => fun x dx hx hd ne => ⟨x, s, dx, w, h, sd, seed, o, rfl, upd_same, (hs.mono (e.trans (e2.trans ((Ex.new hd).trans (Ex.new (by rw [upd_ne (Ne.symm ne)]; exact hx)))))), ok, h1, h2, fun H' la eb => ⟨rfl, q _ H' (e2.trans fun b u hb => eb b u (ne_of_none hb hx) (by rw [upd_ne (ne_of_none hb hx), upd_ne (ne_of_none hb hd)]; exact hb)) ⟨x, rfl, la⟩⟩⟩
end
variable {K : PySem.W.Frag} {A : Ad} {mg : Str → Option Value} {vs : List V} {H : Hp} {Q : VK} {E : XK}
theorem len_Layer___init__ (h : sp_Layer___init__ K A vs H Q E) : vs.length = 5 := by obtain ⟨_, _, _, _, _, _, _, _, rfl, _⟩ := h; rfl
abbrev lyF1 (sd : Nat) : List (Str × V) := [("side", .int (sd : Int))]
abbrev lyF2 (w sd : Nat) : List (Str × V) := [("side", .int (sd : Int)), ("across", .int ((w / sd : Nat) : Int))]
abbrev lyF3 (w h sd : Nat) : List (Str × V) := [("side", .int (sd : Int)), ("across", .int ((w / sd : Nat) : Int)), ("down", .int ((h / sd : Nat) : Int))]
abbrev lyF4 (w h sd : Nat) (c : Addr) : List (Str × V) := [("side", .int (sd : Int)), ("across", .int ((w / sd : Nat) : Int)), ("down", .int ((h / sd : Nat) : Int)), ("corners", .ref c)]
theorem pure_Layer___init__ (T : Txt K mg A) (h : sp_Layer___init__ K A vs H Q E) : t_Layer___init__ K A (DE Q) (start ["self", "size", "seed", "layer", "side", "b", "a"] vs) H := by
  obtain ⟨p, s, dx, w, h, sd, seed, o, rfl, hp, hs, ok, d1, d2, q⟩ := h
  obtain ⟨w1, w2, h1, h2⟩ := id ok
  have nsp : s ≠ p := by
    rintro rfl
    obtain ⟨_, z⟩ := hs
    rw [hp] at z
    exact nomatch (HO.ins.inj (Option.some.inj z)).2.2
  refine b_fld (ev_var rfl) (ev_var rfl) hp T.clLayer T.nSide (by decide) fun H2 e2 => ?_
  have hs2 := (hs.mono e2).monoB (p := p) nsp (ExB.upd (o := .ins A.CL dx (putF "side" (.int (sd : Int)) [])))
  have eb2 : ExB p H (upd H2 p (.ins A.CL dx (putF "side" (.int (sd : Int)) []))) := (Ex.b e2).trans ExB.upd
  have hp2 : (upd H2 p (.ins A.CL dx (putF "side" (.int (sd : Int)) []))) p = some (.ins A.CL dx (lyF1 sd)) := upd_same
  generalize upd H2 p (.ins A.CL dx (putF "side" (.int (sd : Int)) [])) = Ha at hs2 eb2 hp2 ⊢
  clear e2 H2
  have edw : (w : Int) / (sd : Int) = ((w / sd : Nat) : Int) := rfl
  have edh : (h : Int) / (sd : Int) = ((h / sd : Nat) : Int) := rfl
  refine b_fld (v := .int ((w / sd : Nat) : Int)) (ev_op (ev_width T (ev_var rfl) hs2) (ev_var rfl) (rv_div (by unfold CDiv; omega))) (ev_var rfl) hp2 T.clLayer T.nAcross (by show 1 < 1000; decide) fun H2 e2 => ?_
  have hs3 := (hs2.mono e2).monoB (p := p) nsp (ExB.upd (o := .ins A.CL dx (putF "across" (.int ((w / sd : Nat) : Int)) (lyF1 sd))))
  have eb3 : ExB p H (upd H2 p (.ins A.CL dx (putF "across" (.int ((w / sd : Nat) : Int)) (lyF1 sd)))) := eb2.trans ((Ex.b e2).trans ExB.upd)
  have hp3 : (upd H2 p (.ins A.CL dx (putF "across" (.int ((w / sd : Nat) : Int)) (lyF1 sd)))) p = some (.ins A.CL dx (lyF2 w sd)) := by
    rw [upd_same, show putF "across" (V.int ((w / sd : Nat) : Int)) (lyF1 sd) = lyF2 w sd from (put_past (by decide +kernel)).trans rfl]
  generalize upd H2 p (.ins A.CL dx (putF "across" (.int ((w / sd : Nat) : Int)) (lyF1 sd))) = Hb at hs3 eb3 hp3 ⊢
  clear e2 H2 hs2 eb2 hp2
  refine b_fld (v := .int ((h / sd : Nat) : Int)) (ev_op (ev_height T (ev_var rfl) hs3) (ev_var rfl) (rv_div (by unfold CDiv; omega))) (ev_var rfl) hp3 T.clLayer T.nDown (by show 2 < 1000; decide) fun H2 e2 => ?_
  have eb4 : ExB p H (upd H2 p (.ins A.CL dx (putF "down" (.int ((h / sd : Nat) : Int)) (lyF2 w sd)))) := eb3.trans ((Ex.b e2).trans ExB.upd)
  have hp4 : (upd H2 p (.ins A.CL dx (putF "down" (.int ((h / sd : Nat) : Int)) (lyF2 w sd)))) p = some (.ins A.CL dx (lyF3 w h sd)) := by
    rw [upd_same, show putF "down" (V.int ((h / sd : Nat) : Int)) (lyF2 w sd) = lyF3 w h sd from (put_past (by decide +kernel)).trans (congrArg _ ((put_past (by decide +kernel)).trans rfl))]
  generalize upd H2 p (.ins A.CL dx (putF "down" (.int ((h / sd : Nat) : Int)) (lyF2 w sd))) = Hc at eb4 hp4 ⊢
  clear e2 H2 hs3 eb3 hp3
  refine b_fldL el_nil (ev_var rfl) hp4 T.clLayer T.nCorners (by show 3 < 1000; decide) fun c H2 hc e2 hc2 => ?_
  have ncp : c ≠ p := fun z => by rw [z, hp4] at hc; cases hc
  have eb5 : ExB p H (upd H2 p (.ins A.CL dx (putF "corners" (.ref c) (lyF3 w h sd)))) := eb4.trans ((Ex.b e2).trans ExB.upd)
  have hp5 : (upd H2 p (.ins A.CL dx (putF "corners" (.ref c) (lyF3 w h sd)))) p = some (.ins A.CL dx (lyF4 w h sd c)) := by
    rw [upd_same, show putF "corners" (V.ref c) (lyF3 w h sd) = lyF4 w h sd c from (put_past (by decide +kernel)).trans (congrArg _ ((put_past (by decide +kernel)).trans (congrArg _ ((put_past (by decide +kernel)).trans rfl))))]
  have hc5 : (upd H2 p (.ins A.CL dx (putF "corners" (.ref c) (lyF3 w h sd)))) c = some (.lst []) := by rw [upd_ne ncp]; exact hc2
  generalize upd H2 p (.ins A.CL dx (putF "corners" (.ref c) (lyF3 w h sd))) = He at eb5 hp5 hc5 ⊢
  have hcn : ∀ o, H c = some o → False := fun o z => by rw [eb4 c o ncp z] at hc; cases hc
  clear e2 H2 eb4 hp4 hc hc2
  have hdp : L2.del He c p = some (.ins A.CL dx (lyF4 w h sd c)) := by rw [L2.del_ne (Ne.symm ncp)]; exact hp5
  have fC : ∀ {σ : L2.St} {t : TE} {Hx : Hp}, Hx p = some (.ins A.CL dx (lyF4 w h sd c)) → Ev t σ Hx (.ref p) → Ev (tFld K t "corners") σ Hx (.ref c) := fun h ht => ev_fld ht h T.clLayer T.nCorners ((lk_past (by decide +kernel)).trans ((lk_past (by decide +kernel)).trans ((lk_past (by decide +kernel)).trans lk_here)))
  have fD : ∀ {σ : L2.St} {t : TE} {Hx : Hp}, Hx p = some (.ins A.CL dx (lyF4 w h sd c)) → Ev t σ Hx (.ref p) → Ev (tFld K t "down") σ Hx (.int ((h / sd : Nat) : Int)) := fun h ht => ev_fld ht h T.clLayer T.nDown ((lk_past (by decide +kernel)).trans ((lk_past (by decide +kernel)).trans lk_here))
  have fA : ∀ {σ : L2.St} {t : TE} {Hx : Hp}, Hx p = some (.ins A.CL dx (lyF4 w h sd c)) → Ev t σ Hx (.ref p) → Ev (tFld K t "across") σ Hx (.int ((w / sd : Nat) : Int)) := fun h ht => ev_fld ht h T.clLayer T.nAcross ((lk_past (by decide +kernel)).trans lk_here)
  have hw : w / sd ≤ 64 := Nat.le_trans (Nat.div_le_self w sd) w2
  have hh : h / sd ≤ 64 := Nat.le_trans (Nat.div_le_self h sd) h2
  refine s_forI (evi_range1 (n := h / sd) (ea_one (fD hdp (ev_var rfl))) (by omega)) (del_ex (H := He) (q := c))
    (fun Hg i σ' H' => Grow Hg c i (Obj1 c c (fun b => .lst (chV (w / sd) fun a => mMixed seed (a : Int) (b : Int) o))) H' ∧ ∃ o1 o2 : Option V, σ' = [some (.ref p), some (.ref s), some (.int seed), some (.int o), some (.int (sd : Int)), o1, o2])
    (fun Hg H3 eg eg2 e3 hn => ⟨Grow.start (hn c _ hc5 L2.del_same) eg2 (e3 c _ hc5), _, _, rfl⟩) (fun Hg i σ' H' p => p.1.2.1) (fun Hg i x σ' Ha Hb eg hi pv e3 y => ?_) fun Hg σ' H' eg pv => ?_
  · obtain ⟨gr, o1, o2, rfl⟩ := pv
    subst y
    have gb := gr.ex stb_obj e3
    have hpb : Hb p = some (.ins A.CL dx (lyF4 w h sd c)) := gb.2.1 _ _ (eg _ _ hdp)
    refine ⟨_, tg_name, s_push stb_obj gb (by omega) (fC hpb (ev_var rfl)) (ep_obj (xs := chV (w / sd) fun a => mMixed seed (a : Int) (i : Int) o) ?_ (let ⟨acc, _, q, _⟩ := gb.2.2; ⟨_, q⟩) (let ⟨acc, _, q, _⟩ := gb.2.2; ⟨_, q⟩) rfl) fun H4 g4 => ⟨g4, _, _, rfl⟩⟩
    refine el_lcI (evi_range1 (n := w / sd) (ea_one (fA hpb (ev_var rfl))) (by omega)) (by omega) fun j x Hx ec hj y => ⟨_, tg_name, rfl, ?_⟩
    subst y
    exact ev_spI (ea_cons (ev_var rfl) (ea_three (ev_var rfl) (ev_var rfl) (ev_var rfl))) fun H5 e5 => ⟨_, _, _, _, rfl, rfl⟩
  · obtain ⟨gr, o1, o2, rfl⟩ := pv
    refine q H' ⟨dx, c, gr.2.1 _ _ (eg _ _ hdp), gr.ls⟩ fun b u nb hb => gr.2.1 _ _ (eg _ _ ?_)
    rw [L2.del_ne (fun z => hcn u (by rw [← z]; exact hb))]
    exact eb5 b u nb hb
theorem len_Layer_corner (h : sp_Layer_corner K A vs H Q E) : vs.length = 3 := by obtain ⟨_, ⟨_, _, _, _, _, _, _, _, rfl, _⟩, _⟩ := h; rfl
theorem div_pos' {a b : Nat} (h1 : 1 ≤ b) (h2 : b ≤ a) : 1 ≤ a / b := by
  have := Nat.div_le_div_right (c := b) h2
  rw [Nat.div_self (by omega)] at this
  exact this
theorem pure_Layer_corner (T : Txt K mg A) (h : sp_Layer_corner K A vs H Q E) : t_Layer_corner K A (DE Q) (start ["self", "i", "j"] vs) H := by
  obtain ⟨z, ⟨p, w, h, sd, seed, o, i, j, rfl, ⟨dx, c, hp, acc, hl, hc, hrs⟩, d1, d2, d3, rfl⟩, q⟩ := h
  have fC : ∀ {σ : L2.St} {t : TE}, Ev t σ H (.ref p) → Ev (tFld K t "corners") σ H (.ref c) := fun ht => ev_fld ht hp T.clLayer T.nCorners ((lk_past (by decide +kernel)).trans ((lk_past (by decide +kernel)).trans ((lk_past (by decide +kernel)).trans lk_here)))
  have fD : ∀ {σ : L2.St} {t : TE}, Ev t σ H (.ref p) → Ev (tFld K t "down") σ H (.int ((h / sd : Nat) : Int)) := fun ht => ev_fld ht hp T.clLayer T.nDown ((lk_past (by decide +kernel)).trans ((lk_past (by decide +kernel)).trans lk_here))
  have fA : ∀ {σ : L2.St} {t : TE}, Ev t σ H (.ref p) → Ev (tFld K t "across") σ H (.int ((w / sd : Nat) : Int)) := fun ht => ev_fld ht hp T.clLayer T.nAcross ((lk_past (by decide +kernel)).trans lk_here)
  have h1 := div_pos' d1 d3
  have w1 := div_pos' d1 d2
  have j0 := Int.emod_nonneg j (show ((h / sd : Nat) : Int) ≠ 0 by omega)
  have j1 := Int.emod_lt_of_pos j (show (0 : Int) < ((h / sd : Nat) : Int) by omega)
  obtain ⟨b, hb⟩ := Int.eq_ofNat_of_zero_le j0
  have hbl : b < acc.length := by rw [hl]; omega
  obtain ⟨Tr, hT, hrow⟩ := hrs b acc[b] (List.getElem?_eq_getElem hbl)
  have at_ : atI acc (j % ((h / sd : Nat) : Int)) = some (.ref Tr) := by
    rw [hb, ← hT]
    exact atI_nat (List.getElem?_eq_getElem hbl)
  refine b_ret (ev_ixL (ev_ixL (fC (ev_var rfl)) (ev_op (ev_var rfl) (fD (ev_var rfl)) (rv_mod (by omega))) hc at_) (ev_op (ev_var rfl) (fA (ev_var rfl)) (rv_mod (by omega))) hrow (ring_at (by omega) i)) (Ex.refl H) fun H' e' => ?_
  have e : mCorner w h sd seed o i j = mMixed seed (((i % ((w / sd : Nat) : Int)).toNat : Nat) : Int) (b : Int) o := by
    unfold mCorner
    rw [hb, Int.toNat_of_nonneg (Int.emod_nonneg i (show ((w / sd : Nat) : Int) ≠ 0 by omega))]
  rw [← e]
  exact q H' e'
theorem ev_corner {ta tx ty : TE} {σ : L2.St} {p : Addr} {w h sd : Nat} {seed o x y : Int} (ho : Ev ta σ H (.ref p)) (h2 : Ev tx σ H (.int x)) (h3 : Ev ty σ H (.int y)) (hL : LayerAt A H p w h sd seed o) (d1 : 1 ≤ sd) (d2 : sd ≤ w) (d3 : sd ≤ h) :
    Ev (tMeth A.CL "corner" (sp_Layer_corner K A) [] E0 ta (tCons tx (tCons ty tNil))) σ H (.int (mCorner w h sd seed o x y)) := by
  obtain ⟨dx, c, hI, hc⟩ := id hL
  exact ev_spIm ho (ea_two h2 h3) hI ((lk_past (by decide +kernel)).trans ((lk_past (by decide +kernel)).trans ((lk_past (by decide +kernel)).trans ((lk_past (by decide +kernel)).trans rfl)))) fun H1 e1 => ⟨p, w, h, sd, seed, o, x, y, rfl, ⟨dx, c, e1 _ _ hI, hc.mono e1⟩, d1, d2, d3, rfl⟩
theorem len_Layer_value (h : sp_Layer_value K A vs H Q E) : vs.length = 3 := by obtain ⟨_, ⟨_, _, _, _, _, _, _, _, rfl, _⟩, _⟩ := h; rfl
theorem cell_bd {sd : Nat} (d1 : 1 ≤ sd) (d2 : sd ≤ 64) (x : Int) : 0 ≤ x % (sd : Int) * 65536 / (sd : Int) ∧ x % (sd : Int) * 65536 / (sd : Int) ≤ 65536 := by
  have a := Int.emod_nonneg x (show (sd : Int) ≠ 0 by omega)
  have b := Int.emod_lt_of_pos x (show (0 : Int) < sd by omega)
  exact ⟨Int.ediv_nonneg (by omega) (by omega), Int.ediv_le_of_le_mul (by omega) (by omega)⟩
theorem smooth_bd {t : Int} (h0 : 0 ≤ t) (h1 : t ≤ 65536) : 0 ≤ mSmooth t ∧ mSmooth t ≤ 65536 := by
  unfold mSmooth
  have s0 : 0 ≤ t * t := Int.mul_nonneg h0 h0
  generalize ha : t * t / 65536 = a
  have a0 : 0 ≤ a := by omega
  have a1 : 65536 * a ≤ t * t := by omega
  have k0 : 0 ≤ a * (196608 - 2 * t) := Int.mul_nonneg a0 (by omega)
  have k1 : 65536 * a * (196608 - 2 * t) ≤ t * t * (196608 - 2 * t) := Int.mul_le_mul_of_nonneg_right a1 (by omega)
  have k2 : 0 ≤ (65536 - t) * (65536 - t) * (65536 + 2 * t) := Int.mul_nonneg (Int.mul_nonneg (by omega) (by omega)) (by omega)
  have k3 : t * t * (196608 - 2 * t) = 65536 * 65536 * 65536 - (65536 - t) * (65536 - t) * (65536 + 2 * t) := by grind
  have k4 : 65536 * a * (196608 - 2 * t) = 65536 * (a * (196608 - 2 * t)) := by grind
  omega
theorem pure_Layer_value (T : Txt K mg A) (h : sp_Layer_value K A vs H Q E) : t_Layer_value K A (DE Q) (start ["self", "x", "y", "i", "j", "u", "v", "p", "q"] vs) H := by
  obtain ⟨z, ⟨p, w, h, sd, seed, o, x, y, rfl, hL, d1, d2, d3, d4, rfl⟩, q⟩ := h
  have fS : ∀ {σ : L2.St} {t : TE}, Ev t σ H (.ref p) → Ev (tFld K t "side") σ H (.int (sd : Int)) := fun ht => by
    obtain ⟨dx, c, hp, _⟩ := hL
    exact ev_fld ht hp T.clLayer T.nSide lk_here
  have bx := smooth_bd (cell_bd d1 d2 x).1 (cell_bd d1 d2 x).2
  have by_ := smooth_bd (cell_bd d1 d2 y).1 (cell_bd d1 d2 y).2
  refine b_par (ev_op (ev_var rfl) (fS (ev_var rfl)) (rv_div (by unfold CDiv; omega))) (ev_op (ev_var rfl) (fS (ev_var rfl)) (rv_div (by unfold CDiv; omega))) (Ex.refl H) fun H1 e1 => ?_
  refine b_asg (ev_spI (ea_one (ev_op (ev_op (ev_op (ev_var rfl) (fS (ev_var rfl)) (rv_mod (by omega))) ev_c (rv_mul (by unfold CMul; omega))) (fS (ev_var rfl)) (rv_div (by unfold CDiv; omega)))) fun H1 e1 => ⟨_, rfl, (cell_bd d1 d2 x).1, (cell_bd d1 d2 x).2, rfl⟩) e1 fun H2 e2 => ?_
  refine b_asg (ev_spI (ea_one (ev_op (ev_op (ev_op (ev_var rfl) (fS (ev_var rfl)) (rv_mod (by omega))) ev_c (rv_mul (by unfold CMul; omega))) (fS (ev_var rfl)) (rv_div (by unfold CDiv; omega)))) fun H1 e1 => ⟨_, rfl, (cell_bd d1 d2 y).1, (cell_bd d1 d2 y).2, rfl⟩) e2 fun H3 e3 => ?_
  refine b_asg (ev_spI (ea_three (ev_corner (ev_var rfl) (ev_var rfl) (ev_var rfl) hL d1 d3 d4) (ev_corner (ev_var rfl) (ev_op (ev_var rfl) ev_c rv_add) (ev_var rfl) hL d1 d3 d4) (ev_var rfl)) fun H1 e1 => ⟨_, _, _, rfl, bx.1, bx.2, rfl⟩) e3 fun H4 e4 => ?_
  refine b_asg (ev_spI (ea_three (ev_corner (ev_var rfl) (ev_var rfl) (ev_op (ev_var rfl) ev_c rv_add) hL d1 d3 d4) (ev_corner (ev_var rfl) (ev_op (ev_var rfl) ev_c rv_add) (ev_op (ev_var rfl) ev_c rv_add) hL d1 d3 d4) (ev_var rfl)) fun H1 e1 => ⟨_, _, _, rfl, bx.1, bx.2, rfl⟩) e4 fun H5 e5 => ?_
  exact b_ret (ev_spI (ea_three (ev_var rfl) (ev_var rfl) (ev_var rfl)) fun H1 e1 => ⟨_, _, _, rfl, by_.1, by_.2, rfl⟩) e5 q
theorem LayerAt.mono {H' : Hp} {p : Addr} {w h sd : Nat} {seed o : Int} (l : LayerAt A H p w h sd seed o) (e : Ex H H') : LayerAt A H' p w h sd seed o := let ⟨dx, c, h1, h2⟩ := l; ⟨dx, c, e _ _ h1, h2.mono e⟩
theorem ev_layer {ta tx ty : TE} {σ : L2.St} {p : Addr} {w h sd : Nat} {seed o x y : Int} (ho : Ev ta σ H (.ref p)) (h2 : Ev tx σ H (.int x)) (h3 : Ev ty σ H (.int y)) (hL : LayerAt A H p w h sd seed o) (d1 : 1 ≤ sd) (d0 : sd ≤ 64) (d2 : sd ≤ w) (d3 : sd ≤ h) :
    Ev (tMeth A.CL "value" (sp_Layer_value K A) [] E0 ta (tCons tx (tCons ty tNil))) σ H (.int (mLayer w h sd seed o x y)) := by
  obtain ⟨dx, c, hI, hc⟩ := id hL
  exact ev_spIm ho (ea_two h2 h3) hI ((lk_past (by decide +kernel)).trans ((lk_past (by decide +kernel)).trans ((lk_past (by decide +kernel)).trans ((lk_past (by decide +kernel)).trans rfl)))) fun H1 e1 => ⟨p, w, h, sd, seed, o, x, y, rfl, hL.mono e1, d1, d0, d2, d3, rfl⟩
theorem len_noise (h : sp_noise K A vs H Q E) : vs.length = 5 := by obtain ⟨_, _, _, _, ⟨_, _, _, _, _, _, _, rfl, _⟩, _⟩ := h; rfl
theorem loud_bd {fall : Int} (h0 : 0 ≤ fall) (h1 : fall ≤ 65535) : ∀ o, 0 ≤ mLoud fall o ∧ mLoud fall o ≤ 65535
  | 0 => by show (0 : Int) ≤ 65535 ∧ (65535 : Int) ≤ 65535; decide
  | o + 1 => by
    have ih := loud_bd h0 h1 o
    show 0 ≤ mLoud fall o * fall / 65536 ∧ mLoud fall o * fall / 65536 ≤ 65535
    have a : 0 ≤ mLoud fall o * fall := Int.mul_nonneg ih.1 h0
    have b : mLoud fall o * fall ≤ 65535 * fall := Int.mul_le_mul_of_nonneg_right ih.2 h0
    omega
theorem pure_noise (T : Txt K mg A) (h : sp_noise K A vs H Q E) : t_noise K A (DE Q) (start ["size", "seed", "cell", "layers", "fall", "found", "strength", "number", "layer", "values", "grey", "spot", "x", "y", "one", "other", "value"] vs) H := by
  obtain ⟨u, N, G, hu, ⟨s, w, h, seed, fall, cell, layers, rfl, hs, ok, c6, cw, ch, l7, f0, f1, rfl, rfl⟩, q⟩ := h
  have sz := sz_ok ok
  refine b_tupL2 (xs := chV (w * h) (mNoiseSum w h seed cell fall 0)) (el_lcI (evi_spots (ev_var rfl) hs ok) (by omega) fun i x Hb eb hi y => ⟨_, tg_name, rfl, ev_c⟩) ev_c (Ex.refl H) fun p H1 hp e1 hp1 => ?_
  refine s_forI (H := H1) (evi_range1 (n := min layers (cell + 1)) (ea_one (ev_eq (ev_min (ev_var rfl) (ev_op (ev_var rfl) ev_c rv_add)) (by rw [show min (layers : Int) ((cell : Int) + 1) = ((min layers (cell + 1) : Nat) : Int) by omega]))) (by omega)) (Ex.refl H1)
    (fun Hg i σ' H' => Ex Hg H' ∧ ∃ (b : Addr) (o1 o2 o3 o4 o5 o6 o7 o8 o9 o10 : Option V), σ' = [some (.ref s), some (.int seed), some (.int (cell : Int)), some (.int (layers : Int)), some (.int fall), some (.ref b), some (.int (mLoud fall i)), o1, o2, o3, o4, o5, o6, o7, o8, o9, o10] ∧ H' b = some (.lst (chV (w * h) (mNoiseSum w h seed cell fall i))))
    (fun Hg H2 eg eg2 e2 hn => ⟨eg2, p, _, _, _, _, _, _, _, _, _, _, rfl, e2 _ _ hp1⟩) (fun Hg i σ' H' p => p.1) (fun Hg i x σ' Ha Hb eg hi pv e3 y => ?_) fun Hg σ' H' eg pv => ?_
  · obtain ⟨eh, b, o1, o2, o3, o4, o5, o6, o7, o8, o9, o10, rfl, hb⟩ := pv
    subst y
    have hic : i ≤ cell := by omega
    have lb := loud_bd f0 f1 i
    have p1 : 1 ≤ 2 ^ (cell - i) := Nat.one_le_two_pow
    have pc : 2 ^ (cell - i) ≤ 2 ^ cell := Nat.pow_le_pow_right (by decide) (by omega)
    have p3 := Nat.le_trans pc cw
    have p4 := Nat.le_trans pc ch
    have p2 : 2 ^ (cell - i) ≤ 64 := Nat.le_trans p3 ok.2.1
    have eb : Ex H Hb := e1.trans (eg.trans (eh.trans e3))
    have hb3 := e3 _ _ hb
    refine ⟨_, tg_name, b_asgP (ep_layer (w := w) (h := h) (sd := 2 ^ (cell - i)) (seed := seed) (o := (i : Int)) (ea_cons (ev_var rfl) (ea_three (ev_var rfl) (ev_var rfl) (ev_eq (ev_spI (ea_one (ev_op (ev_var rfl) (ev_var rfl) rv_sub)) fun H5 e5 => ⟨cell - i, by rw [show (cell : Int) - (i : Int) = ((cell - i : Nat) : Int) by omega], by omega, rfl⟩) (by push_cast; rfl)))) (hs.mono eb) ok p1 p2) (Ex.refl Hb) fun v H4 e4 ⟨L, ev, hL⟩ => ?_⟩
    subst ev
    refine b_asgL (el_lcI (f := fun j => mLayer w h (2 ^ (cell - i)) seed (i : Int) (px w j) (py w j) * mLoud fall i / 65536) (evi_spots (ev_var rfl) (hs.mono (eb.trans e4)) ok) (by omega) fun j x Hc ec hj ⟨T2, z1, z2⟩ => ?_) (Ex.refl H4) fun vl H5 hvl e5 hv5 => ?_
    · subst z1
      exact ⟨_, tg_tup2 z2 tg_name tg_name, rfl, (ev_op (ev_op (ev_layer (ev_var rfl) (ev_var rfl) (ev_var rfl) (hL.mono ec) p1 p2 p3 p4) (ev_var rfl) (rv_mul (by unfold CMul; omega))) ev_c (rv_div (by unfold CDiv; omega)))⟩
    refine b_asgL (el_lcI (f := mNoiseSum w h seed cell fall (i + 1)) (evi_zip (n := w * h) (ea_two (ev_var rfl) (ev_var rfl)) (e5 _ _ (e4 _ _ hb3)) hv5 chV_len chV_len) (by omega) fun j x Hc ec hj ⟨T2, y1, y2, z1, z2, z3, z4⟩ => ?_) (Ex.refl H5) fun fd H6 hfd e6 hf6 => ?_
    · obtain ⟨rfl, _⟩ := zip_ch z3
      obtain ⟨rfl, _⟩ := zip_ch z4
      subst z1
      exact ⟨_, tg_tup2 z2 tg_name tg_name, rfl, (ev_op (ev_var rfl) (ev_var rfl) rv_add)⟩
    exact b_asgN (ev_op (ev_op (ev_var rfl) (ev_var rfl) (rv_mul (by unfold CMul; omega))) ev_c (rv_div (by unfold CDiv; omega))) (Ex.refl H6) fun H7 e7 => ⟨eh.trans (e3.trans (e4.trans (e5.trans (e6.trans e7)))), fd, _, _, _, _, _, _, _, _, _, _, rfl, e7 _ _ hf6⟩
  · obtain ⟨eh, b, o1, o2, o3, o4, o5, o6, o7, o8, o9, o10, rfl, hb⟩ := pv
    have eb : Ex H H' := e1.trans (eg.trans eh)
    refine b_asgL (el_lcI (f := fun i => min (mNoiseSum w h seed cell fall (min layers (cell + 1)) i) 65535) (evi_listL chV_len (ev_var rfl) hb) (by omega) fun j x Hc ec hj y => ⟨_, tg_name, rfl, ?_⟩) (Ex.refl H') fun gy H4 hgy e4 hg4 => ?_
    · obtain ⟨rfl, _⟩ := zip_ch y
      exact (ev_min (ev_var rfl) ev_c)
    refine b_retP (ep_four (hu.ex (eb.trans e4)) (ev_var rfl) (ev_var rfl) (ev_var rfl) (el_lcI (f := fun _ => 65535) (evi_listL chV_len (ev_var rfl) hg4) (by omega) fun j x Hc ec hj y => ⟨_, tg_name, rfl, ev_c⟩)) (Ex.refl H4) fun v H5 e5 ⟨p5, d, ev, n5, nd, h5, hd⟩ => ?_
    subst ev
    have ng := (hu.ex eb).ne hgy
    exact q p5 H5 (eb.trans (e4.trans e5)) (ls_four (c := chC (w * h) (mNoise w h seed cell layers fall)) (del_of n5 h5) (del_of ng (e5 _ _ hg4)) (del_of ng (e5 _ _ hg4)) (del_of ng (e5 _ _ hg4)) (del_of nd hd))
end GT
end
section
set_option Elab.async false
set_option linter.all false
set_option maxRecDepth 100000
set_option maxHeartbeats 2000000
/-! errors, and the desk's own helpers -/
namespace GT
open PySem PySem.Spec PyProof.Rows L2
open Evl (Ex Ev EvL EvU EvT EvA EvO RV RU RC ev_var ev_c ev_op ev_un et_test et_B et_not ev_if ea_nil ea_cons eo_none eo_some ev_cb fresh_back sq_of st_of ev_andV)
theorem Fail.mono {A : Ad} {H H2 : Hp} {E : XK} {c : Int} (f : Fail A H E c) (e : Ex H H2) : Fail A H2 E c := fun H' d e' h => f H' d (e.trans e') h
theorem Done.mono {A : Ad} {u : Addr} {H H2 : Hp} {d : Addr} {Q : VK} {st : Option Dk} {ans : List Int} (f : Done A u H d Q st ans) (e : Ex H H2) : Done A u H2 d Q st ans := fun p H' hn e' h1 h2 => f p H' (fresh_back e hn) (fun b o n hb => e' b o n (e b o hb)) h1 h2
theorem DeskO.mono {A : Ad} {H H' : Hp} {d : Addr} {st : Option Dk} (h : DeskO A H d st) (e : Ex H H') : DeskO A H' d st := by
  cases st with
  | none =>
    obtain ⟨dx, z, k, h1, h2, h3⟩ := h
    exact ⟨dx, z, k, e _ _ h1, e _ _ h2, e _ _ h3⟩
  | some D =>
    obtain ⟨dx, z, k, sz, hd, hz, hs, ok, h8, hb, as, hl, hk, hp⟩ := h
    exact ⟨dx, z, k, sz, e _ _ hd, e _ _ hz, hs.mono e, ok, h8, hb, as, hl, e _ _ hk, fun i a F h1 h2 => (hp i a F h1 h2).mono e⟩
theorem DeskAt.mono {A : Ad} {u : Addr} {H H' : Hp} {d : Addr} {st : Option Dk} (h : DeskAt A u H d st) (e : Ex H H') : DeskAt A u H' d st := DeskO.mono h (ex_del e)
theorem DeskAt.o {A : Ad} {u : Addr} {H : Hp} {d : Addr} {st : Option Dk} (h : DeskAt A u H d st) : DeskO A H d st := DeskO.mono h del_ex
theorem DeskAt.obj {A : Ad} {u : Addr} {H : Hp} {d : Addr} {st : Option Dk} (h : DeskAt A u H d st) : d ≠ u ∧ ∃ dx z k, H d = some (.ins A.CD dx [("sizes", .ref z), ("stack", .ref k)]) := by
  cases st with
  | none =>
    obtain ⟨dx, z, k, h1, _⟩ := h
    exact ⟨(del_in h1).1, dx, z, k, (del_in h1).2⟩
  | some D =>
    obtain ⟨dx, z, k, sz, h1, _⟩ := h
    exact ⟨(del_in h1).1, dx, z, k, (del_in h1).2⟩
theorem del_upd {H : Hp} {u d : Addr} {o : HO} (n : d ≠ u) : L2.del (L2.upd H d o) u = L2.upd (L2.del H u) d o := by
  funext b
  by_cases h : b = u
  · rw [h, L2.del_same, upd_ne (Ne.symm n), L2.del_same]
  · rw [L2.del_ne h]
    by_cases g : b = d
    · rw [g, upd_same, upd_same]
    · rw [upd_ne g, upd_ne g, L2.del_ne h]
theorem fresh_b {H H2 : Hp} {d r : Addr} {o : HO} (e : ExB d H H2) (hd : H2 d = some o) (hr : H2 r = none) : H r = none := by
  cases h : H r with
  | none => rfl
  | some u =>
    have n : r ≠ d := fun z => by rw [z, hd] at hr; cases hr
    rw [e r u n h] at hr
    cases hr
theorem LsAt.monoB {H H' : Hp} {a d C dx : Addr} {fs : List (Str × V)} {n : Nat} {c : Nat → HO} (s : LsAt H a n c) (hd : H d = some (.ins C dx fs)) (hc : ∀ i, i < n → c i ≠ .ins C dx fs) (e : ExB d H H') : LsAt H' a n c := by
  obtain ⟨acc, h1, h2, h3⟩ := s
  refine ⟨acc, h1, e a _ (fun z => by rw [z, hd] at h2; cases h2) h2, fun i v q => ?_⟩
  obtain ⟨T, t1, t2⟩ := h3 i v q
  refine ⟨T, t1, e T _ (fun z => ?_) t2⟩
  rw [z, hd] at t2
  exact hc i (by rw [← h1]; exact (List.getElem?_eq_some_iff.mp q).1) (Option.some.inj t2).symm
theorem LsAt.monoP {H H' : Hp} {a d C dx : Addr} {fs : List (Str × V)} {n : Nat} {F : Pct} (s : LsAt H a 4 (chC n F)) (hd : H d = some (.ins C dx fs)) (e : ExB d H H') : LsAt H' a 4 (chC n F) := LsAt.monoB s hd (fun i _ z => nomatch z) e
section
variable {K : PySem.W.Frag} {A : Ad} {mg : Str → Option Value} {σ : L2.St} {H H1 H2 H' : Hp} {ta tb te tl tc td tv : TE} {tt : TT} {g : TG} {x y z v : V} {D : Ends} {tz : TS} {ar tr : TA} {i j l k n m : Nat} {p : Addr} {E : XK}
theorem ev_chain {i j k : Int} (ha : Ev ta σ H (.int i)) (hb : Ev tb σ H (.int j)) (hc : Ev tc σ H (.int k)) {r : R2} {q : Bool} (hr : ∀ H1, Ex H H1 → RV r (.int j) (.int k) H1 (.bl q)) : Ev (tChain oLe r ta tb tc) σ H (.bl (decide (i ≤ j) && q)) := fun H1 e Q k' =>
  ha H1 e _ fun H2 e2 => hb H2 (e.trans e2) _ fun H3 e3 => ⟨i, j, rfl, rfl, _, rfl, by
    have k2 := k'
    generalize decide (i ≤ j) = b at k2 ⊢
    cases b with
    | true =>
      refine iteT (A := tc σ H3 _) (B := Q (.bl false) H3) ?_
      exact hc H3 ((e.trans e2).trans e3) _ fun H4 e4 => hr H4 (((e.trans e2).trans e3).trans e4) H4 (Ex.refl H4) _ fun H5 e5 => k2 H5 (e2.trans (e3.trans (e4.trans e5)))
    | false => exact iteF (A := tc σ H3 _) (k2 H3 (e2.trans e3))⟩
/-- a comprehension with a test: whether nothing passes it -/
theorem eg_lcT {wi : TI} {Y : Nat → V → Hp → Prop} {vs : List Nat} {b : Nat → Bool} (h : EvI wi σ H n Y) (hn : n ≤ 90000)
    (hs : ∀ i x Hb, Ex H Hb → i < n → Y i x Hb → ∃ σ2, Tg g x Hb (wipe σ vs) σ2 ∧ wipe σ2 vs = wipe σ vs ∧ EvT tt σ2 Hb (b i) ∧ ∃ v, Ev te σ2 Hb v) :
    ∀ H1, Ex H H1 → ∀ Q : VK, (∀ p acc H2, H1 p = none → Ex H1 H2 → H2 p = some (.lst acc) → acc.isEmpty = (List.range n).all (fun i => !b i) → Q (.ref p) H2) → tLc wi g tt te vs σ H1 Q := by
  intro H1 e Q q
  refine h H1 e _ fun J Hg H2 Yj e12 eg eg2 hnw w hy D hD => ?_
  refine lc_it w (Pv := fun i H' => Ex H2 H' ∧ ∃ acc, H' D = some (.lst acc) ∧ acc.length ≤ i ∧ acc.isEmpty = (List.range i).all (fun i => !b i)) ⟨Ex.new hD, [], upd_same, Nat.le_refl 0, rfl⟩ (fun i H' _ p => eg2.trans p.1) (fun i x Ha Hb hi p y => ?_) fun H' p => ?_
  · obtain ⟨pe, acc, pD, pl, pa⟩ := p
    obtain ⟨e3, y3⟩ := hy i x Ha Hb hi (eg2.trans pe) y
    obtain ⟨σ2, tg, ew, et, v, ev⟩ := hs i x Hb ((e.trans e12).trans (pe.trans e3)) hi y3
    refine tg _ ⟨ew, et Hb (Ex.refl Hb) _ fun H3 e4 => ?_⟩
    cases hb : b i with
    | true =>
      refine iteT (A := te σ2 H3 _) (B := _) ?_
      refine ev H3 e4 _ fun H4 e5 => ⟨acc, e5 _ _ (e4 _ _ (e3 _ _ pD)), Evl.sz_lt (by omega), (pe.trans (e3.trans (e4.trans e5))).mut hD, acc ++ [v], upd_same, by rw [List.length_append]; show acc.length + 1 ≤ i + 1; omega, ?_⟩
      rw [List.range_succ, List.all_append]
      simp [hb]
    | false =>
      refine iteF (A := te σ2 H3 _) (B := _) ?_
      refine ⟨pe.trans (e3.trans e4), acc, e4 _ _ (e3 _ _ pD), by omega, ?_⟩
      rw [List.range_succ, List.all_append, pa]
      simp [hb]
  · obtain ⟨pe, acc, pD, pl, pa⟩ := p
    exact q D acc H' (fresh_back e12 hD) (e12.trans pe) pD pa
theorem b_ifN {t : TT} {tu : TS} {b : Bool} (h : EvT t σ H b) (e : Ex H H1) (h1 : b = true → ∀ H2, Ex H H2 → tu D σ H2) (h2 : b = false → ∀ H2, Ex H H2 → D.nx σ H2) : tIfS t tu tNext D σ H1 :=
  h H1 e _ fun H2 e2 => by
    cases b with
    | true => exact h1 rfl H2 (e.trans e2)
    | false => exact h2 rfl H2 (e.trans e2)
theorem b_fldP {f : Str} {a C dx : Addr} {fs : List (Str × V)} {P : V → Hp → Prop} (hv : EvP tv σ H P) (hP : ∀ v H1 H2, Ex H1 H2 → P v H1 → P v H2) (ho : Ev ta σ H (.ref a)) (hI : H a = some (.ins C dx fs)) (c : Cls K C) (n : NoAttr K C f) (l : fs.length < 1000) (e : Ex H H1) (k : ∀ v H2, Ex H H2 → P v H2 → tz D σ (upd H2 a (.ins C dx (putF f v fs)))) : tSeq (sFld K ta tv f) tz D σ H1 :=
  hv H1 e _ fun v H2 e1 p => ho H2 (e.trans e1) _ fun H3 e2 => ⟨a, C, dx, fs, rfl, e2 _ _ (e1 _ _ (e _ _ hI)), c, n, l, k v H3 (e.trans (e1.trans e2)) (hP _ _ _ e2 p)⟩
theorem ep_lst1 {u : Addr} {P : V → Hp → Prop} (hu : Al H u) (h : EvP te σ H P) (hP : ∀ v H1 H2, Ex H1 H2 → P v H1 → P v H2) : EvP (tLst (tCons te tNil)) σ H (fun v H' => ∃ b x, v = .ref b ∧ b ≠ u ∧ H' b = some (.lst [x]) ∧ P x H') := fun H1 e Q q =>
  h H1 e _ fun x H2 e2 p => ⟨by show 1 ≤ sizeLine; decide, fun b hb => q _ _ (e2.trans (Ex.new hb)) ⟨b, x, rfl, (hu.ex (e.trans e2)).ne hb, upd_same, hP _ _ _ (Ex.new hb) p⟩⟩
/-- need(..): goes on, or raises -/
theorem b_need {b : Bool} {c : Int} (hb : Ev tb σ H (.bl b)) (hc : Ev tc σ H (.int c)) (e : Ex H H1) (k1 : b = true → ∀ H2, Ex H H2 → tz D σ H2) (k2 : b = false → Fail A H E c) : tSeq (tDrop (tCall (sp_need K A) [] E (tCons tb (tCons tc tNil)))) tz D σ H1 := by
  show tCons tb (tCons tc tNil) σ H1 fun vs H2 => sp_need K A (vs ++ []) H2 (fun _ H3 => tz D σ H3) E
  exact (ea_two hb hc) H1 e _ fun H2 e2 => ⟨b, c, rfl, fun h H3 e3 => k1 h H3 (e.trans (e2.trans e3)), fun h => (k2 h).mono (e.trans e2)⟩
theorem b_needN {b : Bool} {c : Int} (hb : Ev tb σ H (.bl b)) (hc : Ev tc σ H (.int c)) (e : Ex H H1) (k1 : b = true → ∀ H2, Ex H H2 → D.nx σ H2) (k2 : b = false → Fail A H E c) : tDrop (tCall (sp_need K A) [] E (tCons tb (tCons tc tNil))) D σ H1 := by
  show tCons tb (tCons tc tNil) σ H1 fun vs H2 => sp_need K A (vs ++ []) H2 (fun _ H3 => D.nx σ H3) E
  exact (ea_two hb hc) H1 e _ fun H2 e2 => ⟨b, c, rfl, fun h H3 e3 => k1 h H3 (e.trans (e2.trans e3)), fun h => (k2 h).mono (e.trans e2)⟩
/-- bounds, written out -/
def EvPs (ta : TA) (σ : L2.St) (H : Hp) (los his : List Int) : Prop := ∀ H1, Ex H H1 → ∀ Q : List V → Hp → Prop, (∀ vs H2, Ex H1 H2 → vs.length = los.length → (∀ (i : Nat) (v : V), vs[i]? = some v → ∃ T, v = .ref T ∧ H2 T = some (prC (tab los) (tab his) i)) → Q vs H2) → ta σ H1 Q
theorem eps_nil : EvPs tNil σ H [] [] := fun H1 e Q q => q [] H1 (Ex.refl H1) rfl fun i v h => by simp at h
theorem eps_cons {a b : Int} {los his : List Int} (h1 : Ev ta σ H (.int a)) (h2 : Ev tb σ H (.int b)) (hr : EvPs tr σ H los his) : EvPs (tCons (tTup (tCons ta (tCons tb tNil))) tr) σ H (a :: los) (b :: his) := fun H1 e Q q =>
  (eu_two h1 h2) H1 e _ fun T H2 hT e2 h2 => hr H2 (e.trans e2) _ fun vs H3 e3 hl hv => q _ H3 (e2.trans e3) (by rw [List.length_cons, hl, List.length_cons]) fun i v hi => by
    cases i with
    | zero =>
      cases hi
      exact ⟨T, rfl, e3 _ _ h2⟩
    | succ i => exact hv i v hi
theorem ep_pairs {los his : List Int} (h : EvPs ar σ H los his) (hl : los.length ≤ 1000) : EvP (tLst ar) σ H (fun v H' => ∃ p, v = .ref p ∧ PairsAt H' p los.length (tab los) (tab his)) := fun H1 e Q q =>
  h H1 e _ fun vs H2 e2 hv hx => ⟨Evl.sz_of (by omega), fun p hp => q _ _ (e2.trans (Ex.new hp)) ⟨p, rfl, vs, hv, upd_same, fun i v hi => let ⟨T, t1, t2⟩ := hx i v hi; ⟨T, t1, (Ex.new hp) _ _ t2⟩⟩⟩
/-- need_within(..): goes on, or raises -/
theorem b_within {g : Addr} {f : Nat → Int} {los his : List Int} (hg : Ev tb σ H (.ref g)) (hf : H g = some (.lst (chV los.length f))) (h : EvPs ar σ H los his) (hl : los.length ≤ 100) (e : Ex H H1)
    (k1 : within los.length f (tab los) (tab his) = true → ∀ H2, Ex H H2 → tz D σ H2) (k2 : within los.length f (tab los) (tab his) = false → Fail A H E (-2)) : tSeq (tDrop (tCall (sp_need_within K A) [] E (tCons tb (tCons (tLst ar) tNil)))) tz D σ H1 := by
  show tCons tb (tCons (tLst ar) tNil) σ H1 fun vs H2 => sp_need_within K A (vs ++ []) H2 (fun _ H3 => tz D σ H3) E
  exact hg H1 e _ fun H2 e2 => (ep_pairs h (by omega)) H2 (e.trans e2) _ fun v H3 e3 ⟨p, ev, hp⟩ => by
    subst ev
    exact ⟨g, p, los.length, f, tab los, tab his, rfl, hl, (e.trans (e2.trans e3)) _ _ hf, hp, fun h H4 e4 => k1 h H4 (e.trans (e2.trans (e3.trans e4))), fun h => (k2 h).mono (e.trans (e2.trans e3))⟩
theorem b_withinL {f : Nat → Int} {los his : List Int} (hg : EvL tb σ H (chV los.length f)) (h : EvPs ar σ H los his) (hl : los.length ≤ 100) (e : Ex H H1)
    (k1 : within los.length f (tab los) (tab his) = true → ∀ H2, Ex H H2 → tz D σ H2) (k2 : within los.length f (tab los) (tab his) = false → Fail A H E (-2)) : tSeq (tDrop (tCall (sp_need_within K A) [] E (tCons tb (tCons (tLst ar) tNil)))) tz D σ H1 := by
  show tCons tb (tCons (tLst ar) tNil) σ H1 fun vs H2 => sp_need_within K A (vs ++ []) H2 (fun _ H3 => tz D σ H3) E
  exact hg H1 e _ fun g H2 _ e2 hf => (ep_pairs h (by omega)) H2 (e.trans e2) _ fun v H3 e3 ⟨p, ev, hp⟩ => by
    subst ev
    exact ⟨g, p, los.length, f, tab los, tab his, rfl, hl, e3 _ _ hf, hp, fun h H4 e4 => k1 h H4 (e.trans (e2.trans (e3.trans e4))), fun h => (k2 h).mono (e.trans (e2.trans e3))⟩
/-- the desk's fields -/
abbrev dkF (z k : Addr) : List (Str × V) := [("sizes", .ref z), ("stack", .ref k)]
theorem ev_stack {d dx z k : Addr} (T : Txt K mg A) (ho : Ev ta σ H (.ref d)) (h : H d = some (.ins A.CD dx (dkF z k))) : Ev (tFld K ta "stack") σ H (.ref k) := ev_fld ho h T.clDesk T.nStack ((lk_past (by decide +kernel)).trans lk_here)
theorem ev_sizes {d dx z k : Addr} (T : Txt K mg A) (ho : Ev ta σ H (.ref d)) (h : H d = some (.ins A.CD dx (dkF z k))) : Ev (tFld K ta "sizes") σ H (.ref z) := ev_fld ho h T.clDesk T.nSizes lk_here
theorem lk_dk {z k : Addr} {m : Str} (h1 : (m == ("sizes" : Str)) = false) (h2 : (m == ("stack" : Str)) = false) : List.lookup m (dkF z k) = none := (lk_past h1).trans ((lk_past h2).trans rfl)
theorem ev_lenS {a : Addr} {xs : List V} (ha : Ev ta σ H (.ref a)) (h : H a = some (.lst xs)) : Ev (tCB (Evl.rLenS K) (tCons ta tNil)) σ H (.int (xs.length : Int)) := Evl.ev_len ha (sq_of h)
end
variable {K : PySem.W.Frag} {A : Ad} {mg : Str → Option Value} {vs : List V} {H : Hp} {Q : VK} {E : XK}
theorem len_Refused___init__ (h : sp_Refused___init__ K A vs H Q E) : vs.length = 2 := by obtain ⟨_, _, rfl, _⟩ := h; rfl
theorem pure_Refused___init__ (T : Txt K mg A) (h : sp_Refused___init__ K A vs H Q E) : t_Refused___init__ K A (DE Q) (start ["self", "code"] vs) H := by
  obtain ⟨a, c, rfl, ha, q⟩ := h
  exact ⟨_, rfl, _, rfl, a, A.CR, rfl, T.xc, T.noCode, .inl ⟨ha, fun dx h1 h2 => q dx h1 h2⟩⟩
theorem len_need (h : sp_need K A vs H Q E) : vs.length = 2 := by obtain ⟨_, _, rfl, _⟩ := h; rfl
theorem pure_need (T : Txt K mg A) (h : sp_need K A vs H Q E) : t_need K A E (DE Q) (start ["is_right", "code"] vs) H := by
  obtain ⟨b, c, rfl, kT, kF⟩ := h
  refine b_ifN (et_not (et_B (ev_var rfl))) (Ex.refl H) (fun hb H1 e1 => ?_) fun hb H1 e1 => kT (by cases b <;> simp_all) H1 e1
  · have kF := kF (by cases b <;> simp_all)
    show tRaiseR A.CR (sp_Refused___init__ K A) E (tCons (tVar 1) tNil) _ _ H1
    refine ⟨_, rfl, by show 1 ≤ 1000; decide, fun a ha => ⟨a, c, rfl, upd_same, fun dx h1 h2 => ⟨rfl, dx, [("code", .int c)], upd_same, ?_, ?_, ?_⟩⟩⟩
    · rw [upd_ne h2, upd_same]
    · rw [upd_ne h2] at h1
      exact h1
    · refine kF _ dx (fun b o hb => ?_) upd_same
      have hb1 := e1 b o hb
      have nb : b ≠ a := ne_of_none hb1 ha
      have nd : b ≠ dx := ne_of_none hb1 (by rw [upd_ne h2] at h1; exact h1)
      rw [upd_ne nd, L2.del_ne nb, upd_ne nb, upd_ne nd, upd_ne nb]
      exact hb1
theorem len_need_within (h : sp_need_within K A vs H Q E) : vs.length = 2 := by obtain ⟨_, _, _, _, _, _, rfl, _⟩ := h; rfl
theorem pure_need_within (T : Txt K mg A) (h : sp_need_within K A vs H Q E) : t_need_within K A E (DE Q) (start ["numbers", "bounds", "number", "least", "most"] vs) H := by
  obtain ⟨p, q', n, f, lo, hi, rfl, hn, hp, ⟨acc, hl, ha, hps⟩, kT, kF⟩ := h
  show tOp (rEqE K) _ (tLst tNil) _ H fun x H1 => tC (.int (-2)) _ H1 fun y H2 => sp_need K A [x, y] H2 (fun _ H3 => Q .non H3) E
  refine eg_lcT (b := fun i => !(decide (lo i ≤ f i) && decide (f i ≤ hi i))) (evi_zip (n := n) (ea_two (ev_var rfl) (ev_var rfl)) hp ha chV_len hl) (by omega) (fun i x Hb eb hi y => ?_) H (Ex.refl H) _ fun p acc H2 hp e2 hp2 hacc => ?_
  · obtain ⟨T1, x1, x2, rfl, hT, hx, hy⟩ := y
    obtain ⟨rfl, _⟩ := zip_ch hx
    obtain ⟨T2, rfl, hT2⟩ := hps i x2 hy
    exact ⟨_, tg_tup2 hT tg_name (tg_tup2 (eb _ _ hT2) tg_name tg_name), rfl, et_not (et_test (ev_chain (ev_var rfl) (ev_var rfl) (ev_var rfl) fun _ _ => rv_le)), _, ev_c⟩
  · refine el_nil H2 (Ex.refl H2) _ fun r H3 hr e3 hr3 => ⟨p, r, acc, rfl, rfl, sq_of (e3 _ _ hp2), sq_of hr3, acc.isEmpty, -2, rfl, fun h H4 e4 => ?_, fun h => ?_⟩
    · refine kT ?_ H4 (e2.trans (e3.trans e4))
      rw [hacc] at h
      unfold within
      rw [← h]
      simp
    · refine (kF ?_).mono (e2.trans e3)
      rw [hacc] at h
      unfold within
      rw [← h]
      simp
theorem len_Desk___init__ (h : sp_Desk___init__ K A vs H Q E) : vs.length = 1 := by obtain ⟨_, _, rfl, _⟩ := h; rfl
theorem pure_Desk___init__ (T : Txt K mg A) (h : sp_Desk___init__ K A vs H Q E) : t_Desk___init__ K A (DE Q) (start ["self"] vs) H := by
  obtain ⟨p, dx, rfl, hp, q⟩ := h
  refine b_fldL el_nil (ev_var rfl) hp T.clDesk T.nSizes (by decide) fun z H2 hz e2 hz2 => ?_
  have nz : z ≠ p := fun e => by rw [e, hp] at hz; cases hz
  have eb2 : ExB p H (upd H2 p (.ins A.CD dx (putF "sizes" (.ref z) []))) := (Ex.b e2).trans ExB.upd
  have hz3 : (upd H2 p (.ins A.CD dx (putF "sizes" (.ref z) []))) z = some (.lst []) := by rw [upd_ne nz]; exact hz2
  have hp2 : (upd H2 p (.ins A.CD dx (putF "sizes" (.ref z) []))) p = some (.ins A.CD dx ([("sizes", .ref z)] : List (Str × V))) := upd_same
  generalize upd H2 p (.ins A.CD dx (putF "sizes" (.ref z) [])) = Ha at eb2 hz3 hp2 ⊢
  refine (el_nil (σ := [some (.ref p)])) Ha (Ex.refl Ha) _ fun k H3 hk e3 hk3 => ⟨_, rfl, p, A.CD, dx, _, rfl, e3 _ _ hp2, T.clDesk, T.nStack, (by show 1 < 1000; decide), ?_⟩
  have nk : k ≠ p := fun e => by rw [e, hp2] at hk; cases hk
  have nkz : z ≠ k := fun e => by rw [← e, hz3] at hk; cases hk
  refine q _ ⟨dx, z, k, ?_, ?_, ?_⟩ (eb2.trans ((Ex.b e3).trans ExB.upd))
  · rw [upd_same, show putF "stack" (V.ref k) ([("sizes", .ref z)] : List (Str × V)) = dkF z k from (put_past (by decide +kernel)).trans rfl]
  · rw [upd_ne nz]; exact e3 _ _ hz3
  · rw [upd_ne nk]; exact hk3
theorem len_Desk_size (h : sp_Desk_size K A vs H Q E) : vs.length = 1 := by obtain ⟨_, _, _, _, _, rfl, _⟩ := h; rfl
theorem pure_Desk_size (T : Txt K mg A) (h : sp_Desk_size K A vs H Q E) : t_Desk_size K A (DE Q) (start ["self"] vs) H := by
  obtain ⟨d, dx, z, k, s, rfl, hd, hz, q⟩ := h
  exact b_ret (ev_ixL (ev_sizes T (ev_var rfl) hd) ev_c hz rfl) (Ex.refl H) q
theorem ev_size {ta : TE} {σ : L2.St} {d dx z k s : Addr} (ho : Ev ta σ H (.ref d)) (hd : H d = some (.ins A.CD dx (dkF z k))) (hz : H z = some (.lst [.ref s])) : Ev (tMeth A.CD "size" (sp_Desk_size K A) [] E0 ta tNil) σ H (.ref s) := fun H1 e Q q =>
  ho H1 e _ fun H2 e2 => ⟨d, dx, _, rfl, e2 _ _ (e _ _ hd), lk_dk (by decide +kernel) (by decide +kernel), d, dx, z, k, s, rfl, e2 _ _ (e _ _ hd), e2 _ _ (e _ _ hz), fun H3 e3 => q H3 (e2.trans e3)⟩
theorem len_Desk_need_pictures (h : sp_Desk_need_pictures K A vs H Q E) : vs.length = 2 := by obtain ⟨_, _, _, _, rfl, _⟩ := h; rfl
theorem pure_Desk_need_pictures (T : Txt K mg A) (h : sp_Desk_need_pictures K A vs H Q E) : t_Desk_need_pictures K A E (DE Q) (start ["self", "many"] vs) H := by
  obtain ⟨u, d, D, m, rfl, hu, hD, kT, kF⟩ := h
  obtain ⟨dx, z, k, sz, hd, hz, hs, ok, h8, hb, as, hl, hk, hp⟩ := hD.o
  have le : ((as.map V.ref).reverse.length : Int) = (D.pile.length : Int) := by simp [hl]
  refine b_needN (b := decide ((m : Int) ≤ (D.pile.length : Int))) (ev_op (ev_eq (ev_lenS (ev_stack T (ev_var rfl) hd) hk) (by rw [le])) (ev_var rfl) rv_ge) ev_c (Ex.refl H) (fun h H2 e2 => kT ?_ H2 e2) fun h => kF ?_
  · have := of_decide_eq_true h; omega
  · have := of_decide_eq_false h; omega
theorem len_Desk_need_room (h : sp_Desk_need_room K A vs H Q E) : vs.length = 1 := by obtain ⟨_, _, _, rfl, _⟩ := h; rfl
theorem pure_Desk_need_room (T : Txt K mg A) (h : sp_Desk_need_room K A vs H Q E) : t_Desk_need_room K A E (DE Q) (start ["self"] vs) H := by
  obtain ⟨u, d, D, rfl, hu, hD, kT, kF⟩ := h
  obtain ⟨dx, z, k, sz, hd, hz, hs, ok, h8, hb, as, hl, hk, hp⟩ := hD.o
  have le : ((as.map V.ref).reverse.length : Int) = (D.pile.length : Int) := by simp [hl]
  refine b_needN (b := decide ((D.pile.length : Int) < 8)) (ev_op (ev_eq (ev_lenS (ev_stack T (ev_var rfl) hd) hk) (by rw [le])) ev_c rv_lt) ev_c (Ex.refl H) (fun h H2 e2 => kT ?_ H2 e2) fun h => kF ?_
  · have := of_decide_eq_true h; omega
  · have := of_decide_eq_false h; omega
/-- the stack's list is stored: the desk then -/
theorem desk_stored {H H2 : Hp} {d dx z k k2 sz : Addr} {D : Dk} {pile : List Pct} (hd : H d = some (.ins A.CD dx (dkF z k))) (hz : H z = some (.lst [.ref sz])) (hs : SizeAt A H sz D.w D.h) (ok : sizeOk D.w D.h) (h8 : pile.length ≤ 8) (hb : ∀ F ∈ pile, Bd (D.w * D.h) F)
    (e2 : Ex H H2) (hk : StackAt H2 k2 (D.w * D.h) pile) : DeskO A (upd H2 d (.ins A.CD dx (putF "stack" (.ref k2) (dkF z k)))) d (some { D with pile := pile }) := by
  have hd2 := e2 _ _ hd
  have eb : ExB d H2 (upd H2 d (.ins A.CD dx (putF "stack" (.ref k2) (dkF z k)))) := ExB.upd
  refine ⟨dx, z, k2, sz, ?_, ?_, ?_, ok, h8, hb, ?_⟩
  · rw [upd_same, show putF "stack" (V.ref k2) (dkF z k) = dkF z k2 from (put_past (by decide +kernel)).trans (congrArg _ put_here)]
  · exact eb z _ (fun e => by rw [e, hd] at hz; cases hz) (e2 _ _ hz)
  · refine (hs.mono e2).monoB (fun e => ?_) eb
    obtain ⟨dy, q⟩ := hs
    rw [e, hd] at q
    have := (HO.ins.inj (Option.some.inj q)).2.2
    injection this with h1 h2
    injection h1 with h3 h4
    exact absurd h3 (by decide +kernel)
  · obtain ⟨as, hl, hk, hp⟩ := hk
    exact ⟨as, hl, eb _ _ (fun e => by rw [e, hd2] at hk; cases hk) hk, fun i a F h1 h2 => LsAt.monoP (hp i a F h1 h2) hd2 eb⟩
theorem len_Desk_push (h : sp_Desk_push K A vs H Q E) : vs.length = 2 := by obtain ⟨_, _, _, _, _, rfl, _⟩ := h; rfl
theorem pure_Desk_push (T : Txt K mg A) (h : sp_Desk_push K A vs H Q E) : t_Desk_push K A (DE Q) (start ["self", "picture"] vs) H := by
  obtain ⟨u, d, p, D, G, rfl, hu, hD, h7, hG, bG, q⟩ := h
  obtain ⟨dx, z, k, sz, hd', hz', hs', ok, h8, hb, as, hl, hk', hp'⟩ := id hD
  have du := (del_in hd').1
  have hd := (del_in hd').2
  have hk := (del_in hk').2
  have hk1 : ((as.map V.ref).reverse ++ [V.ref p]) = ((p :: as).map V.ref).reverse := by simp
  -- the new list
  have new : EvL (tOp rCat (tFld K (tVar 0) "stack") (tLst (tCons (tVar 1) tNil))) [some (.ref d), some (.ref p)] H ((as.map V.ref).reverse ++ [V.ref p]) := fun H1 e Q' q' =>
    (ev_stack T (ev_var rfl) hd) H1 e _ fun H2 e2 => (Evl.el_lst (ea_one (ev_var rfl)) (by show 1 ≤ 100000; decide)) H2 (e.trans e2) _ fun b H3 hb3 e3 h3 =>
      ⟨k, b, _, [.ref p], rfl, rfl, e3 _ _ (e2 _ _ (e _ _ hk)), h3, Evl.sz_of (by simp; omega), fun r hr => q' r _ (fresh_back (e2.trans e3) hr) (e2.trans (e3.trans (Ex.new hr))) upd_same⟩
  refine b_fldL new (ev_var rfl) hd T.clDesk T.nStack (by show 2 < 1000; decide) fun k2 H2 hk2 e2 hk22 => ?_
  have hd3 := desk_stored (k2 := k2) (pile := G :: D.pile) hd' hz' hs' ok (by show D.pile.length + 1 ≤ 8; omega) (fun F hF => by
      rcases List.mem_cons.mp hF with rfl | hF
      · exact bG
      · exact hb F hF) (ex_del e2) ⟨p :: as, by simp [hl], by rw [← hk1]; exact del_of (hu.ne hk2) hk22, fun i a F h1 h2 => by
        cases i with
        | zero => cases h1; cases h2; exact hG.mono e2
        | succ i => exact (hp' i a F h1 h2).mono (ex_del e2)⟩
  rw [← del_upd du] at hd3
  replace hd3 : DeskAt A u (upd H2 d (.ins A.CD dx (putF "stack" (.ref k2) (dkF z k)))) d _ := hd3
  have eb : ExB d H (upd H2 d (.ins A.CD dx (putF "stack" (.ref k2) (dkF z k)))) := (Ex.b e2).trans ExB.upd
  generalize upd H2 d (.ins A.CD dx (putF "stack" (.ref k2) (dkF z k))) = Ha at hd3 eb ⊢
  obtain ⟨dx', z', k', sz', hd4, hz4, hs4, ok4, h84, hb4, as4, hl4, hk4, hp4⟩ := hd3.o
  have le : ((as4.map V.ref).reverse.length : Int) = (D.pile.length : Int) + 1 := by simp [hl4]
  refine b_retL (xs := [.int ((D.pile.length : Int) + 1)]) (Evl.el_lst (ea_one (ev_eq (ev_lenS (ev_stack T (ev_var rfl) hd4) hk4) (by rw [le]))) (by show 1 ≤ 100000; decide)) (Ex.refl Ha) fun r H5 hr e5 h5 => ?_
  exact q r H5 (fresh_b eb hd4 hr) (eb.trans (Ex.b e5)) (hd3.mono e5) h5
theorem len_Desk_replace (h : sp_Desk_replace K A vs H Q E) : vs.length = 3 := by obtain ⟨_, _, _, _, _, _, rfl, _⟩ := h; rfl
theorem cut_head {xs : List V} {m : Nat} (hm : m ≤ xs.length) : cutV xs none (some ((xs.length : Int) - (m : Int))) = xs.take (xs.length - m) := by
  unfold cutV
  rw [show ((xs.length : Int) - (m : Int)) = ((xs.length - m : Nat) : Int) by omega, HT.sIx_none, HT.sIx_nat, Nat.min_eq_left (by omega), List.drop_zero, Nat.sub_zero]
theorem pure_Desk_replace (T : Txt K mg A) (h : sp_Desk_replace K A vs H Q E) : t_Desk_replace K A (DE Q) (start ["self", "many", "pictures"] vs) H := by
  obtain ⟨u, d, qa, D, m, Gs, rfl, hu, hD, hm, hGm, ⟨bs, hbl, hbk, hbp⟩, bG, q⟩ := h
  obtain ⟨dx, z, k, sz, hd', hz', hs', ok, h8, hb, as, hl, hk', hp'⟩ := id hD
  have du := (del_in hd').1
  have hd := (del_in hd').2
  have hk := (del_in hk').2
  have hk1 : (((as.map V.ref).reverse.take ((as.map V.ref).reverse.length - m)) ++ bs.map V.ref) = ((bs.reverse ++ as.drop m).map V.ref).reverse := by
    rw [List.map_append, List.reverse_append, List.map_reverse, List.reverse_reverse, List.map_drop]
    congr 1
    rw [List.length_reverse, List.reverse_drop]
  have ml : m ≤ (as.map V.ref).reverse.length := by simp [hl]; exact hm
  have new : EvL (tOp rCat (tSl (rSlL K) (tFld K (tVar 0) "stack") tNoPart (tPart (tOp oSub (tCB (Evl.rLenS K) (tCons (tFld K (tVar 0) "stack") tNil)) (tVar 1)))) (tVar 2)) [some (.ref d), some (.int (m : Int)), some (.ref qa)] H (((as.map V.ref).reverse.take ((as.map V.ref).reverse.length - m)) ++ bs.map V.ref) := fun H1 e Q' q' => by
    have sl : EvL (tSl (rSlL K) (tFld K (tVar 0) "stack") tNoPart (tPart (tOp oSub (tCB (Evl.rLenS K) (tCons (tFld K (tVar 0) "stack") tNil)) (tVar 1)))) [some (.ref d), some (.int (m : Int)), some (.ref qa)] H (cutV (as.map V.ref).reverse none (some (((as.map V.ref).reverse.length : Int) - (m : Int)))) := Evl.el_sl (ev_stack T (ev_var rfl) hd) eo_none (eo_some (ev_op (ev_lenS (ev_stack T (ev_var rfl) hd) hk) (ev_var rfl) rv_sub)) (sq_of hk)
    rw [cut_head ml] at sl
    exact sl H1 e _ fun b H2 hb2 e2 h2 => ⟨_, rfl, b, qa, _, _, rfl, rfl, h2, e2 _ _ (e _ _ hbk), Evl.sz_of (by simp [hbl, hl]; omega), fun r hr => q' r _ (fresh_back e2 hr) (e2.trans (Ex.new hr)) upd_same⟩
  refine b_fldL new (ev_var rfl) hd T.clDesk T.nStack (by show 2 < 1000; decide) fun k2 H2 hk2 e2 hk22 => ?_
  have hd3 := desk_stored (k2 := k2) (pile := Gs.reverse ++ D.pile.drop m) hd' hz' hs' ok (by simp; omega) (fun F hF => by
      rcases List.mem_append.mp hF with hF | hF
      · exact bG F (List.mem_reverse.mp hF)
      · exact hb F (List.mem_of_mem_drop hF)) (ex_del e2) ⟨bs.reverse ++ as.drop m, by simp [hl, hbl], by rw [← hk1]; exact del_of (hu.ne hk2) hk22, fun i a F h1 h2 => by
        rw [List.getElem?_append] at h1 h2
        rw [List.length_reverse] at h1 h2
        by_cases hi : i < bs.length
        · rw [if_pos hi, List.getElem?_reverse hi] at h1
          rw [if_pos (by omega), List.getElem?_reverse (by omega), ← hbl] at h2
          exact (hbp _ a F h1 h2).mono e2
        · rw [if_neg hi, List.getElem?_drop] at h1
          rw [if_neg (by omega), List.getElem?_drop, ← hbl] at h2
          exact (hp' _ a F h1 h2).mono (ex_del e2)⟩
  rw [← del_upd du] at hd3
  replace hd3 : DeskAt A u (upd H2 d (.ins A.CD dx (putF "stack" (.ref k2) (dkF z k)))) d _ := hd3
  have eb : ExB d H (upd H2 d (.ins A.CD dx (putF "stack" (.ref k2) (dkF z k)))) := (Ex.b e2).trans ExB.upd
  generalize upd H2 d (.ins A.CD dx (putF "stack" (.ref k2) (dkF z k))) = Ha at hd3 eb ⊢
  obtain ⟨dx', z', k', sz', hd4, hz4, hs4, ok4, h84, hb4, as4, hl4, hk4, hp4⟩ := hd3.o
  have le : ((as4.map V.ref).reverse.length : Int) = ((D.pile.length - m + Gs.length : Nat) : Int) := by
    simp at hl4
    simp [hl4]
    omega
  refine b_retL (xs := [.int ((D.pile.length - m + Gs.length : Nat) : Int)]) (Evl.el_lst (ea_one (ev_eq (ev_lenS (ev_stack T (ev_var rfl) hd4) hk4) (by rw [le]))) (by show 1 ≤ 100000; decide)) (Ex.refl Ha) fun r H5 hr e5 h5 => ?_
  exact q r H5 (fresh_b eb hd4 hr) (eb.trans (Ex.b e5)) (hd3.mono e5) h5
theorem len_Desk_open_stack (h : sp_Desk_open_stack K A vs H Q E) : vs.length = 3 := by obtain ⟨_, _, _, _, _, rfl, _⟩ := h; rfl
/-- Size(..) -/
theorem ep_Size {ar : TA} {σ : L2.St} {u : Addr} {w h : Nat} (hu : Al H u) (ha : EvA ar σ H [.int (w : Int), .int (h : Int)]) : EvP (tMake A.CS (sp_Size___init__ K A) [] E0 ar) σ H (fun v H' => ∃ p, v = .ref p ∧ p ≠ u ∧ SizeAt A H' p w h) := fun H1 e Q q =>
  ha H1 e _ fun H2 e2 => fun x dx hx hd ne => ⟨x, dx, w, h, rfl, upd_same, fun H' la eb => ⟨rfl, q _ H' (e2.trans fun b u hb => eb b u (ne_of_none hb hx) (by rw [upd_ne (ne_of_none hb hx), upd_ne (ne_of_none hb hd)]; exact hb)) ⟨x, rfl, (hu.ex (e.trans e2)).ne hx, la⟩⟩⟩
theorem ev_pow2 {ta : TE} {σ : L2.St} {x : Int} (h : Ev ta σ H (.int x)) (h0 : 0 ≤ x) (h1 : x ≤ 40) : Ev (tCall (sp_power_of_two K A) [] E0 (tCons ta tNil)) σ H (.int ((2 ^ x.toNat : Nat) : Int)) :=
  ev_eq (ev_spI (ea_one h) fun H1 e1 => ⟨x.toNat, by rw [Int.toNat_of_nonneg h0], by omega, rfl⟩) (by push_cast; rfl)
theorem within2 {f lo hi : Nat → Int} (h : within 2 f lo hi = true) : (lo 0 ≤ f 0 ∧ f 0 ≤ hi 0) ∧ (lo 1 ≤ f 1 ∧ f 1 ≤ hi 1) := by
  unfold within at h
  rw [List.all_eq_true] at h
  have h0 := h 0 (by decide)
  have h1 := h 1 (by decide)
  simp only [Bool.and_eq_true, decide_eq_true_eq] at h0 h1
  exact ⟨h0, h1⟩
theorem pow_in {x : Int} (h0 : 2 ≤ x) (h1 : x ≤ 6) : 1 ≤ 2 ^ x.toNat ∧ 2 ^ x.toNat ≤ 64 := by
  have : x = 2 ∨ x = 3 ∨ x = 4 ∨ x = 5 ∨ x = 6 := by omega
  rcases this with rfl | rfl | rfl | rfl | rfl <;> decide
theorem pure_Desk_open_stack (T : Txt K mg A) (h : sp_Desk_open_stack K A vs H Q E) : t_Desk_open_stack K A E (DE Q) (start ["self", "a", "b"] vs) H := by
  obtain ⟨u, d, st, a, b, rfl, hu, hD, kT, kF⟩ := h
  obtain ⟨du, dx, z, k, hd⟩ := hD.obj
  refine b_withinL (los := [2, 2]) (his := [6, 6]) (f := tab [a, b]) (Evl.el_lst (ea_two (ev_var rfl) (ev_var rfl)) (by show 2 ≤ 100000; decide)) (eps_cons ev_c ev_c (eps_cons ev_c ev_c eps_nil)) (by decide) (Ex.refl H) (fun h H1 e1 => ?_) kF
  have kT := kT h
  have w2 : (2 ≤ a ∧ a ≤ 6) ∧ (2 ≤ b ∧ b ≤ 6) := within2 h
  have pa := pow_in w2.1.1 w2.1.2
  have pb := pow_in w2.2.1 w2.2.2
  have hd1 := e1 _ _ hd
  -- self.sizes = [Size(..)]
  refine b_fldP (ep_lst1 hu (ep_Size (w := 2 ^ a.toNat) (h := 2 ^ b.toNat) hu (ea_two (ev_pow2 (x := a) (ev_var rfl) (by omega) (by omega)) (ev_pow2 (x := b) (ev_var rfl) (by omega) (by omega)))) fun v H1 H2 e ⟨p, h1, h3, h2⟩ => ⟨p, h1, h3, h2.mono e⟩) (fun v H1 H2 e ⟨b, x, h1, h5, h2, p, h3, h6, h4⟩ => ⟨b, x, h1, h5, e _ _ h2, p, h3, h6, h4.mono e⟩) (ev_var rfl) hd T.clDesk T.nSizes (by show 2 < 1000; decide) e1 fun v H2 e2 ⟨z2, x, ev, nzu, hz2, sz, ex, nsu, hsz⟩ => ?_
  subst ev
  subst ex
  have hd2 := e2 _ _ hd
  have nz : z2 ≠ d := fun e => by rw [e, hd2] at hz2; cases hz2
  have nsz : sz ≠ d := fun e => by
    obtain ⟨dy, q⟩ := hsz
    rw [e, hd2] at q
    have := (HO.ins.inj (Option.some.inj q)).2.2
    injection this with h1 h2
    injection h1 with h3 h4
    exact absurd h3 (by decide +kernel)
  have eb3 : ExB d H (upd H2 d (.ins A.CD dx (putF "sizes" (.ref z2) (dkF z k)))) := (Ex.b e2).trans ExB.upd
  have hs3 := hsz.monoB (p := d) nsz (ExB.upd (o := .ins A.CD dx (putF "sizes" (.ref z2) (dkF z k))))
  have hz3 : (upd H2 d (.ins A.CD dx (putF "sizes" (.ref z2) (dkF z k)))) z2 = some (.lst [.ref sz]) := by rw [upd_ne nz]; exact hz2
  have hd3 : (upd H2 d (.ins A.CD dx (putF "sizes" (.ref z2) (dkF z k)))) d = some (.ins A.CD dx (dkF z2 k)) := by
    rw [upd_same, show putF "sizes" (V.ref z2) (dkF z k) = dkF z2 k from put_here]
  have hu3 : Al (upd H2 d (.ins A.CD dx (putF "sizes" (.ref z2) (dkF z k)))) u := by
    obtain ⟨o, ho⟩ := hu
    exact ⟨o, by rw [upd_ne (Ne.symm du)]; exact e2 _ _ ho⟩
  generalize upd H2 d (.ins A.CD dx (putF "sizes" (.ref z2) (dkF z k))) = Ha at eb3 hs3 hz3 hd3 hu3 ⊢
  refine b_fldL el_nil (ev_var rfl) hd3 T.clDesk T.nStack (by show 2 < 1000; decide) fun k2 H4 hk2 e4 hk4 => ?_
  have hs4 : SizeAt A (L2.del Ha u) sz (2 ^ a.toNat) (2 ^ b.toNat) := let ⟨dy, q⟩ := hs3; ⟨dy, del_of nsu q⟩
  have hD4 := desk_stored (D := ⟨2 ^ a.toNat, 2 ^ b.toNat, []⟩) (k2 := k2) (pile := []) (del_of du hd3) (del_of nzu hz3) hs4 ⟨pa.1, pa.2, pb.1, pb.2⟩ (by decide) (fun F hF => by cases hF) (ex_del e4) ⟨[], rfl, del_of (hu3.ne hk2) hk4, fun i a F h1 _ => by simp at h1⟩
  rw [← del_upd du] at hD4
  replace hD4 : DeskAt A u (upd H4 d (.ins A.CD dx (putF "stack" (.ref k2) (dkF z2 k)))) d _ := hD4
  have eb5 : ExB d H (upd H4 d (.ins A.CD dx (putF "stack" (.ref k2) (dkF z2 k)))) := eb3.trans ((Ex.b e4).trans ExB.upd)
  generalize upd H4 d (.ins A.CD dx (putF "stack" (.ref k2) (dkF z2 k))) = Hb at hD4 eb5 ⊢
  refine b_retL (xs := [.int 0]) (Evl.el_lst (ea_one ev_c) (by show 1 ≤ 100000; decide)) (Ex.refl Hb) fun r H5 hr e5 h5 => ?_
  obtain ⟨_, _, _, _, ho⟩ := hD4.obj
  exact kT r H5 (fresh_b eb5 ho hr) (eb5.trans (Ex.b e5)) (hD4.mono e5) h5
end GT
end
section
set_option Elab.async false
set_option linter.all false
set_option maxRecDepth 100000
set_option maxHeartbeats 2000000
/-! what the desk's operations share -/
namespace GT
open PySem PySem.Spec PyProof.Rows L2
open Evl (Ex Ev EvL EvU EvT EvA EvO RV RU RC ev_var ev_c ev_op ev_un et_test et_B et_not ev_if ea_nil ea_cons eo_none eo_some ev_cb fresh_back sq_of st_of ev_andV)
variable {K : PySem.W.Frag} {A : Ad} {mg : Str → Option Value} {σ : L2.St} {H H1 H2 H' : Hp} {ta tb te tl tc td tv : TE} {tt : TT} {g : TG} {x y z v : V} {D : Ends} {tz : TS} {ar tr : TA} {i j l k n m : Nat} {p u : Addr} {E : XK} {Q : VK}
/-- arguments of which something is known -/
theorem ax_nil : EvAP tNil σ H (fun vs _ => vs = []) := pa_of_ea ea_nil
theorem ax_v {R : List V → Hp → Prop} (h : Ev te σ H v) (hr : EvAP ar σ H R) : EvAP (tCons te ar) σ H (fun vs H' => ∃ r, vs = v :: r ∧ R r H') := fun H1 e Q q =>
  h H1 e _ fun H2 e2 => hr H2 (e.trans e2) _ fun vs H3 e3 r => q _ H3 (e2.trans e3) ⟨vs, rfl, r⟩
theorem ax_l {R : List V → Hp → Prop} {xs : List V} (h : EvL te σ H xs) (hr : EvAP ar σ H R) : EvAP (tCons te ar) σ H (fun vs H' => ∃ a r, vs = .ref a :: r ∧ H' a = some (.lst xs) ∧ R r H') := fun H1 e Q q =>
  h H1 e _ fun a H2 _ e2 h2 => hr H2 (e.trans e2) _ fun vs H3 e3 r => q _ H3 (e2.trans e3) ⟨a, vs, rfl, e3 _ _ h2, r⟩
theorem ep_spPX {R : Addr → List V → Hp → Nat → Pct → Prop} {E : XK} {P : List V → Hp → Prop} {n : Nat} {F : Pct} (hu : Al H u) (h : EvAP ar σ H P) (hr : ∀ vs H1, Ex H H1 → P vs H1 → R u vs H1 n F) : EvP (tCall (SpP R) [] E ar) σ H (fun v H' => ∃ p, v = .ref p ∧ PicAt u H' p n F) := fun H1 e Q q =>
  h H1 e _ fun vs H2 e2 hp => ⟨u, n, F, hu.ex (e.trans e2), by rw [List.append_nil]; exact hr vs H2 (e.trans e2) hp, fun p H3 e3 h3 => q _ H3 (e2.trans e3) ⟨p, rfl, h3⟩⟩
/-- slices of what is given -/
theorem el_slc {a : Addr} {n m : Nat} {f g : Nat → Int} {tl th : TO} {lo hi : Option Int} (h : Ev te σ H (.ref a)) (hs : H a = some (.lst (chV n f))) (h1 : EvO tl σ H lo) (h2 : EvO th σ H hi) (hc : cutV (chV n f) lo hi = chV m g) : EvL (tSl (rSlL K) te tl th) σ H (chV m g) := by
  rw [← hc]
  exact Evl.el_sl h h1 h2 (sq_of hs)
/-- the stack's list from its end -/
theorem atI_rev {as : List Addr} {j : Nat} {a : Addr} (h : as[j]? = some a) {i : Int} (hi : i = (as.length : Int) - 1 - (j : Int) ∨ i = -1 - (j : Int)) : atI (as.map V.ref).reverse i = some (.ref a) := by
  have hj : j < as.length := (List.getElem?_eq_some_iff.mp h).1
  have hl : (as.map V.ref).reverse.length = as.length := by simp
  have e : ixN (as.map V.ref).reverse.length i = some (as.length - 1 - j) := by
    unfold ixN
    rw [hl]
    rcases hi with hi | hi
    · rw [if_pos (by omega), if_pos (by omega)]
      congr 1
      omega
    · rw [if_neg (by omega), if_pos (by omega)]
      congr 1
      omega
  unfold atI
  rw [e]
  show (as.map V.ref).reverse[as.length - 1 - j]? = some (.ref a)
  rw [List.getElem?_reverse (by simp; omega), List.length_map, List.getElem?_map, show as.length - 1 - (as.length - 1 - j) = j by omega, h]
  rfl
/-- need_room() -/
theorem b_room {d : Addr} {M : Dk} (ho : Ev ta σ H (.ref d)) (hu : Al H u) (hD : DeskAt A u H d (some M)) (e : Ex H H1) (k1 : M.pile.length < 8 → ∀ H2, Ex H H2 → tz D σ H2) (k2 : 8 ≤ M.pile.length → Fail A H E (-5)) :
    tSeq (tDrop (tMeth A.CD "need_room" (sp_Desk_need_room K A) [] E ta tNil)) tz D σ H1 := by
  obtain ⟨du, dx, z, k, hd⟩ := hD.obj
  refine ho H1 e _ fun H2 e2 => ⟨d, dx, _, rfl, e2 _ _ (e _ _ hd), lk_dk (by decide +kernel) (by decide +kernel), ?_⟩
  exact ⟨u, d, M, rfl, hu.ex (e.trans e2), hD.mono (e.trans e2), fun h H3 e3 => k1 h H3 ((e.trans e2).trans e3), fun h => (k2 h).mono (e.trans e2)⟩
/-- need_pictures(m) -/
theorem b_pics {d : Addr} {M : Dk} {m : Nat} (ho : Ev ta σ H (.ref d)) (hu : Al H u) (hD : DeskAt A u H d (some M)) (hm : Ev tb σ H (.int (m : Int))) (e : Ex H H1) (k1 : m ≤ M.pile.length → ∀ H2, Ex H H2 → tz D σ H2) (k2 : M.pile.length < m → Fail A H E (-4)) :
    tSeq (tDrop (tMeth A.CD "need_pictures" (sp_Desk_need_pictures K A) [] E ta (tCons tb tNil))) tz D σ H1 := by
  obtain ⟨du, dx, z, k, hd⟩ := hD.obj
  refine ho H1 e _ fun H2 e2 => ⟨d, dx, _, rfl, e2 _ _ (e _ _ hd), lk_dk (by decide +kernel) (by decide +kernel), ?_⟩
  refine (ea_one hm) H2 (e.trans e2) _ fun H3 e3 => ?_
  exact ⟨u, d, M, m, rfl, hu.ex (e.trans (e2.trans e3)), hD.mono (e.trans (e2.trans e3)), fun h H4 e4 => k1 h H4 ((e.trans (e2.trans e3)).trans e4), fun h => (k2 h).mono (e.trans (e2.trans e3))⟩
/-- return self.push(..) -/
theorem b_pushD {d : Addr} {M : Dk} {G : Pct} (ho : Ev ta σ H (.ref d)) (hu : Al H u) (hD : DeskAt A u H d (some M)) (h : EvP te σ H (fun v H' => ∃ p, v = .ref p ∧ PicAt u H' p (M.w * M.h) G)) (bG : Bd (M.w * M.h) G) (h8 : M.pile.length < 8) (e : Ex H H1)
    (q : Done A u H d Q (some { M with pile := G :: M.pile }) [(M.pile.length : Int) + 1]) : tRet (tMeth A.CD "push" (sp_Desk_push K A) [] E0 ta (tCons te tNil)) (DE Q) σ H1 := by
  obtain ⟨du, dx, z, k, hd⟩ := hD.obj
  refine ho H1 e _ fun H2 e2 => ⟨d, dx, _, rfl, e2 _ _ (e _ _ hd), lk_dk (by decide +kernel) (by decide +kernel), ?_⟩
  refine h H2 (e.trans e2) _ fun v H3 e3 ⟨p, ev, hp⟩ => ?_
  subst ev
  exact ⟨u, d, p, M, G, rfl, hu.ex (e.trans (e2.trans e3)), hD.mono (e.trans (e2.trans e3)), h8, hp, bG, q.mono (e.trans (e2.trans e3))⟩
/-- return self.replace(m, ..) -/
theorem b_repl {d : Addr} {M : Dk} {m : Nat} {Gs : List Pct} (ho : Ev ta σ H (.ref d)) (hu : Al H u) (hD : DeskAt A u H d (some M)) (hm : Ev tb σ H (.int (m : Int))) (h : EvP te σ H (fun v H' => ∃ p, v = .ref p ∧ PicsAt u H' p (M.w * M.h) Gs)) (bG : ∀ G ∈ Gs, Bd (M.w * M.h) G) (hl : m ≤ M.pile.length) (hg : Gs.length ≤ m) (e : Ex H H1)
    (q : Done A u H d Q (some { M with pile := Gs.reverse ++ M.pile.drop m }) [((M.pile.length - m + Gs.length : Nat) : Int)]) : tRet (tMeth A.CD "replace" (sp_Desk_replace K A) [] E0 ta (tCons tb (tCons te tNil))) (DE Q) σ H1 := by
  obtain ⟨du, dx, z, k, hd⟩ := hD.obj
  refine ho H1 e _ fun H2 e2 => ⟨d, dx, _, rfl, e2 _ _ (e _ _ hd), lk_dk (by decide +kernel) (by decide +kernel), ?_⟩
  refine hm H2 (e.trans e2) _ fun H3 e3 => h H3 (e.trans (e2.trans e3)) _ fun v H4 e4 ⟨p, ev, hp⟩ => ?_
  subst ev
  exact ⟨u, d, p, M, m, Gs, rfl, hu.ex (e.trans (e2.trans (e3.trans e4))), hD.mono (e.trans (e2.trans (e3.trans e4))), hl, hg, hp, bG, q.mono (e.trans (e2.trans (e3.trans e4)))⟩
theorem ep_pics0 {n : Nat} : EvP (tLst tNil) σ H (fun v H' => ∃ p, v = .ref p ∧ PicsAt u H' p n []) := fun H1 e Q q =>
  el_nil H1 e _ fun p H2 _ e2 h2 => q _ H2 e2 ⟨p, rfl, [], rfl, h2, fun i a F h _ => by simp at h⟩
theorem ep_pics1 {n : Nat} {G : Pct} (hu : Al H u) (h : EvP te σ H (fun v H' => ∃ p, v = .ref p ∧ PicAt u H' p n G)) : EvP (tLst (tCons te tNil)) σ H (fun v H' => ∃ p, v = .ref p ∧ PicsAt u H' p n [G]) := fun H1 e Q q =>
  (ep_lst1 hu h fun v H1 H2 e ⟨p, h1, h2⟩ => ⟨p, h1, h2.mono e⟩) H1 e Q fun v H2 e2 ⟨b, x, ev, _, hb, p, ex, hp⟩ => q v H2 e2 (by
    subst ex
    exact ⟨b, ev, [p], rfl, hb, fun i a F h1 h2 => by
      cases i with
      | zero =>
        cases h1
        cases h2
        exact hp
      | succ i => simp at h1⟩)
theorem ep_pics2 {n : Nat} {a b : Addr} {F G : Pct} (h1 : Ev ta σ H (.ref a)) (h2 : Ev tb σ H (.ref b)) (ha : PicAt u H a n F) (hb : PicAt u H b n G) : EvP (tLst (tCons ta (tCons tb tNil))) σ H (fun v H' => ∃ p, v = .ref p ∧ PicsAt u H' p n [F, G]) := fun H1 e Q q =>
  (Evl.el_lst (ea_two h1 h2) (by show 2 ≤ 100000; decide)) H1 e _ fun p H2 _ e2 h2 => q _ H2 e2 ⟨p, rfl, [a, b], rfl, h2, fun i c U h1 h2 => by
    match i with
    | 0 =>
      cases h1
      cases h2
      exact ha.mono (e.trans e2)
    | 1 =>
      cases h1
      cases h2
      exact hb.mono (e.trans e2)
    | i + 2 => simp at h1⟩
/-- what stands below: the j-th from the top -/
theorem stk {d : Addr} {M : Dk} (T : Txt K mg A) (ho : Ev ta σ H (.ref d)) (hu : Al H u) (hD : DeskAt A u H d (some M)) {j : Nat} {F : Pct} (hj : M.pile[j]? = some F) :
    Bd (M.w * M.h) F ∧ ∃ a, PicAt u H a (M.w * M.h) F ∧ ∀ {tb : TE} {i : Int}, Ev tb σ H (.int i) → (i = (M.pile.length : Int) - 1 - (j : Int) ∨ i = -1 - (j : Int)) → Ev (tOp (rIxL K) (tFld K ta "stack") tb) σ H (.ref a) := by
  obtain ⟨dx, z, k, sz, hd, hz, hs, ok, h8, hb, as, hl, hk, hp⟩ := hD
  replace hd := (del_in hd).2
  replace hk := (del_in hk).2
  have hj2 : j < as.length := by rw [hl]; exact (List.getElem?_eq_some_iff.mp hj).1
  refine ⟨hb F (List.mem_of_getElem? hj), as[j], hp j _ F (List.getElem?_eq_getElem hj2) hj, fun {tb i} hi hc => ?_⟩
  exact ev_ixL (ev_stack T ho hd) hi hk (atI_rev (List.getElem?_eq_getElem hj2) (by rw [hl]; exact hc))
theorem szD {d : Addr} {M : Dk} (ho : Ev ta σ H (.ref d)) (hu : Al H u) (hD : DeskAt A u H d (some M)) : sizeOk M.w M.h ∧ M.pile.length ≤ 8 ∧ ∃ s, SizeAt A H s M.w M.h ∧ Ev (tMeth A.CD "size" (sp_Desk_size K A) [] E0 ta tNil) σ H (.ref s) := by
  obtain ⟨dx, z, k, sz, hd, hz, hs, ok, h8, hb, as, hl, hk, hp⟩ := hD.o
  exact ⟨ok, h8, sz, hs, ev_size ho hd hz⟩
theorem ev_lenStk {d : Addr} {M : Dk} (T : Txt K mg A) (ho : Ev ta σ H (.ref d)) (hu : Al H u) (hD : DeskAt A u H d (some M)) : Ev (tCB (Evl.rLenS K) (tCons (tFld K ta "stack") tNil)) σ H (.int (M.pile.length : Int)) := by
  obtain ⟨dx, z, k, sz, hd, hz, hs, ok, h8, hb, as, hl, hk, hp⟩ := hD.o
  exact ev_eq (ev_lenS (ev_stack T ho hd) hk) (by simp [hl])
/-- the top is changed -/
theorem b_change {d : Addr} {M : Dk} {f : Pct → Pct} (T : Txt K mg A) (ho : Ev ta σ H (.ref d)) (hu : Al H u) (hD : DeskAt A u H d (some M)) (e : Ex H H1) (q : Out A u H d Q E (M.change f))
    (key : ∀ t a s, sizeOk M.w M.h → SizeAt A H s M.w M.h → Ev (tMeth A.CD "size" (sp_Desk_size K A) [] E0 ta tNil) σ H (.ref s) → Bd (M.w * M.h) t → PicAt u H a (M.w * M.h) t → Ev (tOp (rIxL K) (tFld K ta "stack") (tUn oNeg (tC (.int 1)))) σ H (.ref a) →
      EvP te σ H (fun v H' => ∃ p, v = .ref p ∧ PicAt u H' p (M.w * M.h) (f t)) ∧ Bd (M.w * M.h) (f t)) :
    tSeq (tDrop (tMeth A.CD "need_pictures" (sp_Desk_need_pictures K A) [] E ta (tCons (tC (.int 1)) tNil))) (tRet (tMeth A.CD "replace" (sp_Desk_replace K A) [] E0 ta (tCons (tC (.int 1)) (tCons (tLst (tCons te tNil)) tNil)))) (DE Q) σ H1 := by
  refine b_pics (m := 1) ho hu hD ev_c e (fun h1 H2 e2 => ?_) (fun h0 => ?_)
  · obtain ⟨t, r, hp⟩ : ∃ t r, M.pile = t :: r := by
      cases hm : M.pile with
      | nil => rw [hm] at h1; cases h1
      | cons t r => exact ⟨t, r, rfl⟩
    obtain ⟨ok, h8, s, hs, es⟩ := szD (K := K) ho hu hD
    obtain ⟨bt, a, ha, ea⟩ := stk T ho hu hD (j := 0) (F := t) (by rw [hp]; rfl)
    obtain ⟨k1, k2⟩ := key t a s ok hs es bt ha (ea (ev_un ev_c ru_neg) (Or.inr (by decide)))
    unfold Dk.change at q
    rw [hp] at q
    refine b_repl (m := 1) (Gs := [f t]) ho hu hD ev_c (ep_pics1 hu k1) (fun G hG => by rcases List.mem_singleton.mp hG with rfl; exact k2) h1 (Nat.le_refl 1) e2 ?_
    have hn : M.pile.length - 1 + [f t].length = (t :: r).length := by rw [hp]; simp
    rw [hn, hp]
    exact q
  · have hp : M.pile = [] := List.eq_nil_of_length_eq_zero (by omega)
    unfold Dk.change at q
    rw [hp] at q
    exact q
theorem b_two {d : Addr} {M : Dk} {f : Pct → Pct → Pct} (T : Txt K mg A) (ho : Ev ta σ H (.ref d)) (hu : Al H u) (hD : DeskAt A u H d (some M)) (e : Ex H H1) (q : Out A u H d Q E (M.two f))
    (key : ∀ b t c a s, sizeOk M.w M.h → SizeAt A H s M.w M.h → Ev (tMeth A.CD "size" (sp_Desk_size K A) [] E0 ta tNil) σ H (.ref s) → Bd (M.w * M.h) b → Bd (M.w * M.h) t → PicAt u H c (M.w * M.h) b → PicAt u H a (M.w * M.h) t → Ev (tOp (rIxL K) (tFld K ta "stack") (tUn oNeg (tC (.int 2)))) σ H (.ref c) → Ev (tOp (rIxL K) (tFld K ta "stack") (tUn oNeg (tC (.int 1)))) σ H (.ref a) →
      EvP te σ H (fun v H' => ∃ p, v = .ref p ∧ PicAt u H' p (M.w * M.h) (f b t)) ∧ Bd (M.w * M.h) (f b t)) :
    tSeq (tDrop (tMeth A.CD "need_pictures" (sp_Desk_need_pictures K A) [] E ta (tCons (tC (.int 2)) tNil))) (tRet (tMeth A.CD "replace" (sp_Desk_replace K A) [] E0 ta (tCons (tC (.int 2)) (tCons (tLst (tCons te tNil)) tNil)))) (DE Q) σ H1 := by
  refine b_pics (m := 2) ho hu hD ev_c e (fun h1 H2 e2 => ?_) (fun h0 => ?_)
  · obtain ⟨t, b, r, hp⟩ : ∃ t b r, M.pile = t :: b :: r := by
      match hm : M.pile with
      | [] => rw [hm] at h1; simp at h1
      | [t] => rw [hm] at h1; simp at h1
      | t :: b :: r => exact ⟨t, b, r, rfl⟩
    obtain ⟨ok, h8, s, hs, es⟩ := szD (K := K) ho hu hD
    obtain ⟨bt, a, ha, ea⟩ := stk T ho hu hD (j := 0) (F := t) (by rw [hp]; rfl)
    obtain ⟨bb, c, hc, ec⟩ := stk T ho hu hD (j := 1) (F := b) (by rw [hp]; rfl)
    obtain ⟨k1, k2⟩ := key b t c a s ok hs es bb bt hc ha (ec (ev_un ev_c ru_neg) (Or.inr (by decide))) (ea (ev_un ev_c ru_neg) (Or.inr (by decide)))
    unfold Dk.two at q
    rw [hp] at q
    refine b_repl (m := 2) (Gs := [f b t]) ho hu hD ev_c (ep_pics1 hu k1) (fun G hG => by rcases List.mem_singleton.mp hG with rfl; exact k2) h1 (by show 1 ≤ 2; decide) e2 ?_
    have hn : (((M.pile.length - 2 + [f b t].length : Nat)) : Int) = (((t :: b :: r).length : Nat) : Int) - 1 := by rw [hp]; simp
    rw [hn, hp]
    exact q
  · have hp : Out A u H d Q E (.error (-4)) := by
      unfold Dk.two at q
      match hm : M.pile with
      | [] => rw [hm] at q; exact q
      | [t] => rw [hm] at q; exact q
      | t :: b :: r => rw [hm] at h0; simp at h0; omega
    exact hp
/-- a picture is laid on top -/
theorem b_lay {d : Addr} {M : Dk} {G : Pct} (ho : Ev ta σ H (.ref d)) (hu : Al H u) (hD : DeskAt A u H d (some M)) (e : Ex H H1) (q : Out A u H d Q E (M.push G))
    (h : EvP te σ H (fun v H' => ∃ p, v = .ref p ∧ PicAt u H' p (M.w * M.h) G)) (bG : Bd (M.w * M.h) G) :
    tSeq (tDrop (tMeth A.CD "need_room" (sp_Desk_need_room K A) [] E ta tNil)) (tRet (tMeth A.CD "push" (sp_Desk_push K A) [] E0 ta (tCons te tNil))) (DE Q) σ H1 := by
  refine b_room ho hu hD e (fun h8 H2 e2 => b_pushD ho hu hD h bG h8 e2 ?_) fun h8 => ?_
  · unfold Dk.push at q
    rw [if_pos h8] at q
    exact q
  · unfold Dk.push at q
    rw [if_neg (by omega)] at q
    exact q
end GT
end
section
set_option Elab.async false
set_option linter.all false
set_option maxRecDepth 100000
set_option maxHeartbeats 2000000
/-! the desk's operations -/
namespace GT
open PySem PySem.Spec PyProof.Rows L2
open Evl (Ex Ev EvL EvU EvT EvA EvO RV RU RC ev_var ev_c ev_op ev_un et_test et_B et_not ev_if ea_nil ea_cons eo_none eo_some ev_cb fresh_back sq_of st_of ev_andV)
variable {K : PySem.W.Frag} {A : Ad} {mg : Str → Option Value} {vs : List V} {H : Hp} {Q : VK} {E : XK}
theorem len_op {n : Nat} {pre : (Nat → Int) → Prop} {r : Dk → (Nat → Int) → Res} (h : spOp A n pre r vs H Q E) : vs.length = 2 := by obtain ⟨_, _, _, _, _, rfl, _⟩ := h; rfl
theorem len_op0 {r : Dk → Res} (h : spOp0 A r vs H Q E) : vs.length = 1 := by obtain ⟨_, _, _, rfl, _⟩ := h; rfl
theorem within_get {n : Nat} {f lo hi : Nat → Int} (h : within n f lo hi = true) {i : Nat} (hi' : i < n) : lo i ≤ f i ∧ f i ≤ hi i := by
  unfold within at h
  rw [List.all_eq_true] at h
  have := h i (List.mem_range.mpr hi')
  simpa using this
theorem ev_giv {σ : L2.St} {ta tb : TE} {g : Addr} {n : Nat} {f : Nat → Int} (k : Nat) (ha : Ev ta σ H (.ref g)) (hb : Ev tb σ H (.int (k : Int))) (hg : H g = some (.lst (chV n f))) (hk : k < n) : Ev (tOp (rIxL K) ta tb) σ H (.int (f k)) := ev_ixL ha hb hg (atI_nat (chV_get hk))
theorem out_pos {c : Prop} [Decidable c] {a b : Res} {d u : Addr} (h : c) (q : Out A u H d Q E (if c then a else b)) : Out A u H d Q E a := by rwa [if_pos h] at q
theorem out_negB {c : Bool} {a b : Res} {d u : Addr} (h : c = false) (q : Out A u H d Q E (if c = true then a else b)) : Out A u H d Q E b := by
  subst h
  exact q
theorem len_Desk_flat (h : sp_Desk_flat K A vs H Q E) : vs.length = 2 := len_op h
theorem pure_Desk_flat (T : Txt K mg A) (h : sp_Desk_flat K A vs H Q E) : t_Desk_flat K A E (DE Q) (start ["self", "colour"] vs) H := by
  obtain ⟨u, d, g, D, f, rfl, hu, hD, hg, pre, q⟩ := h
  obtain ⟨ok, h8, s, hs, es⟩ := szD (K := K) (σ := start ["self", "colour"] [.ref d, .ref g]) (ta := tVar 0) (ev_var rfl) hu hD
  exact b_lay (G := fun k _ => f k) (ev_var rfl) hu hD (Ex.refl H) q (ep_spP hu (ea_two es (ev_var rfl)) fun H1 e1 => ⟨s, g, D.w, D.h, f, rfl, hs.mono e1, ok, e1 _ _ hg, rfl, rfl⟩) (bd_flat (pre.1 rfl))
theorem len_Desk_noise (h : sp_Desk_noise K A vs H Q E) : vs.length = 2 := len_op h
theorem pure_Desk_noise (T : Txt K mg A) (h : sp_Desk_noise K A vs H Q E) : t_Desk_noise K A E (DE Q) (start ["self", "given"] vs) H := by
  obtain ⟨u, d, g, D, f, rfl, hu, hD, hg, pre, q⟩ := h
  obtain ⟨ok, h8, s, hs, es⟩ := szD (K := K) (σ := start ["self", "given"] [.ref d, .ref g]) (ta := tVar 0) (ev_var rfl) hu hD
  refine b_within (los := [0, 0, 1, 0]) (his := [65535, 6, 7, 65535]) (ev_var rfl) hg (eps_cons ev_c ev_c (eps_cons ev_c ev_c (eps_cons ev_c ev_c (eps_cons ev_c ev_c eps_nil)))) (by decide) (Ex.refl H) (fun w H1 e1 => ?_) fun w => ?_
  · have w0 : 0 ≤ f 0 ∧ f 0 ≤ 65535 := within_get w (i := 0) (by decide)
    have w1 : 0 ≤ f 1 ∧ f 1 ≤ 6 := within_get w (i := 1) (by decide)
    have w2 : 1 ≤ f 2 ∧ f 2 ≤ 7 := within_get w (i := 2) (by decide)
    have w3 : 0 ≤ f 3 ∧ f 3 ≤ 65535 := within_get w (i := 3) (by decide)
    have c1 : ((f 1).toNat : Int) = f 1 := Int.toNat_of_nonneg w1.1
    have c2 : ((f 2).toNat : Int) = f 2 := Int.toNat_of_nonneg (by omega)
    unfold rNoise at q
    replace q := out_pos w q
    refine b_need (b := decide ((((2 ^ (f 1).toNat : Nat)) : Int) ≤ min (D.w : Int) (D.h : Int))) (ev_op (ev_pow2 (ev_giv 1 (ev_var rfl) ev_c hg (by decide)) w1.1 (by omega)) (ev_min (ev_width T es hs) (ev_height T es hs)) rv_le) ev_c e1 (fun b H2 e2 => ?_) fun b => ?_
    · have b2 : 2 ^ (f 1).toNat ≤ min D.w D.h := by
        have := of_decide_eq_true b
        omega
      rw [if_pos b2] at q
      refine b_lay (ev_var rfl) hu hD e2 q (ep_spP hu (ea_cons es (ea_cons (ev_giv 0 (ev_var rfl) ev_c hg (by decide)) (ea_cons (ev_giv 1 (ev_var rfl) ev_c hg (by decide)) (ea_cons (ev_giv 2 (ev_var rfl) ev_c hg (by decide)) (ea_cons (ev_giv 3 (ev_var rfl) ev_c hg (by decide)) ea_nil))))) fun H3 e3 => ?_) (bd_noise w3.1 w3.2)
      exact ⟨s, D.w, D.h, f 0, f 3, (f 1).toNat, (f 2).toNat, by rw [c1, c2], hs.mono e3, ok, by omega, by omega, by omega, by omega, w3.1, w3.2, rfl, rfl⟩
    · have b2 : ¬ 2 ^ (f 1).toNat ≤ min D.w D.h := by
        have := of_decide_eq_false b
        omega
      rw [if_neg b2] at q
      exact q
  · unfold rNoise at q
    exact out_negB w q
theorem len_Desk_glow (h : sp_Desk_glow K A vs H Q E) : vs.length = 2 := len_op h
theorem pure_Desk_glow (T : Txt K mg A) (h : sp_Desk_glow K A vs H Q E) : t_Desk_glow K A E (DE Q) (start ["self", "given"] vs) H := by
  obtain ⟨u, d, g, D, f, rfl, hu, hD, hg, pre, q⟩ := h
  refine b_withinL (f := f) (los := [0, 0, 1, 1, 1]) (his := [63, 63, 255, 255, 8]) (el_slc (ev_var rfl) hg eo_none (eo_some ev_c) rfl) (eps_cons ev_c ev_c (eps_cons ev_c ev_c (eps_cons ev_c ev_c (eps_cons ev_c ev_c (eps_cons ev_c ev_c eps_nil))))) (by decide) (Ex.refl H) (fun w H1 e1 => ?_) fun w => ?_
  · have w2 : 1 ≤ f 2 ∧ f 2 ≤ 255 := within_get w (i := 2) (by decide)
    have w3 : 1 ≤ f 3 ∧ f 3 ≤ 255 := within_get w (i := 3) (by decide)
    have w4 : 1 ≤ f 4 ∧ f 4 ≤ 8 := within_get w (i := 4) (by decide)
    have c4 : ((f 4).toNat : Int) = f 4 := Int.toNat_of_nonneg (by omega)
    unfold rGlow at q
    replace q := out_pos w q
    refine b_change T (ev_var rfl) hu hD e1 q fun t a s ok hs es bt ha et => ⟨?_, bd_glow bt (pre.2.1 rfl)⟩
    refine ep_spPX hu (ax_v es (ax_v et (ax_l (el_slc (g := f) (m := 2) (ev_var rfl) hg eo_none (eo_some ev_c) rfl) (ax_l (el_slc (g := fun k => f (2 + k)) (m := 2) (ev_var rfl) hg (eo_some ev_c) (eo_some ev_c) rfl) (ax_v (ev_giv 4 (ev_var rfl) ev_c hg (by decide)) (ax_l (el_slc (g := fun k => f (5 + k)) (m := 4) (ev_var rfl) hg (eo_some ev_c) eo_none rfl) ax_nil)))))) fun vs H2 e2 x => ?_
    obtain ⟨_, rfl, _, rfl, m, _, rfl, hm, r, _, rfl, hr, _, rfl, c, _, rfl, hc, rfl⟩ := x
    exact ⟨s, a, m, r, c, D.w, D.h, t, f 0, f 1, f 2, f 3, (f 4).toNat, fun k => f (5 + k), by rw [c4], hs.mono e2, ok, ha.mono e2, hm, hr, hc, pre.2.1 rfl, w2.1, w2.2, w3.1, w3.2, by omega, by omega, rfl, rfl⟩
  · unfold rGlow at q
    exact out_negB w q
theorem len_Desk_box (h : sp_Desk_box K A vs H Q E) : vs.length = 2 := len_op h
theorem pure_Desk_box (T : Txt K mg A) (h : sp_Desk_box K A vs H Q E) : t_Desk_box K A E (DE Q) (start ["self", "given"] vs) H := by
  obtain ⟨u, d, g, D, f, rfl, hu, hD, hg, pre, q⟩ := h
  refine b_withinL (f := f) (los := [0, 0, 0, 0]) (his := [63, 63, 64, 64]) (el_slc (ev_var rfl) hg eo_none (eo_some ev_c) rfl) (eps_cons ev_c ev_c (eps_cons ev_c ev_c (eps_cons ev_c ev_c (eps_cons ev_c ev_c eps_nil)))) (by decide) (Ex.refl H) (fun w H1 e1 => ?_) fun w => ?_
  · unfold rBox at q
    replace q := out_pos w q
    refine b_change T (ev_var rfl) hu hD e1 q fun t a s ok hs es bt ha et => ⟨?_, bd_box bt (pre.2.2.1 rfl)⟩
    refine ep_spPX hu (ax_v es (ax_v et (ax_l (el_slc (g := f) (m := 2) (ev_var rfl) hg eo_none (eo_some ev_c) rfl) (ax_l (el_slc (g := fun k => f (2 + k)) (m := 2) (ev_var rfl) hg (eo_some ev_c) (eo_some ev_c) rfl) (ax_l (el_slc (g := fun k => f (4 + k)) (m := 4) (ev_var rfl) hg (eo_some ev_c) eo_none rfl) ax_nil))))) fun vs H2 e2 x => ?_
    obtain ⟨_, rfl, _, rfl, m, _, rfl, hm, r, _, rfl, hr, c, _, rfl, hc, rfl⟩ := x
    exact ⟨s, a, m, r, c, D.w, D.h, t, f 0, f 1, f 2, f 3, fun k => f (4 + k), rfl, hs.mono e2, ok, ha.mono e2, hm, hr, hc, rfl, rfl⟩
  · unfold rBox at q
    exact out_negB w q
theorem len_Desk_blur (h : sp_Desk_blur K A vs H Q E) : vs.length = 2 := len_op h
theorem pure_Desk_blur (T : Txt K mg A) (h : sp_Desk_blur K A vs H Q E) : t_Desk_blur K A E (DE Q) (start ["self", "given"] vs) H := by
  obtain ⟨u, d, g, D, f, rfl, hu, hD, hg, pre, q⟩ := h
  refine b_within (los := [0, 0, 1]) (his := [15, 15, 3]) (ev_var rfl) hg (eps_cons ev_c ev_c (eps_cons ev_c ev_c (eps_cons ev_c ev_c eps_nil))) (by decide) (Ex.refl H) (fun w H1 e1 => ?_) fun w => ?_
  · have w0 : 0 ≤ f 0 ∧ f 0 ≤ 15 := within_get w (i := 0) (by decide)
    have w1 : 0 ≤ f 1 ∧ f 1 ≤ 15 := within_get w (i := 1) (by decide)
    have w2 : 1 ≤ f 2 ∧ f 2 ≤ 3 := within_get w (i := 2) (by decide)
    have c0 : ((f 0).toNat : Int) = f 0 := Int.toNat_of_nonneg (by omega)
    have c1 : ((f 1).toNat : Int) = f 1 := Int.toNat_of_nonneg (by omega)
    have c2 : ((f 2).toNat : Int) = f 2 := Int.toNat_of_nonneg (by omega)
    unfold rBlur at q
    replace q := out_pos w q
    refine b_change T (ev_var rfl) hu hD e1 q fun t a s ok hs es bt ha et => ⟨?_, bd_blur ok.1 ok.2.2.1 bt _⟩
    refine ep_spP hu (ea_cons es (ea_cons et (ea_cons (ev_giv 0 (ev_var rfl) ev_c hg (by decide)) (ea_cons (ev_giv 1 (ev_var rfl) ev_c hg (by decide)) (ea_cons (ev_giv 2 (ev_var rfl) ev_c hg (by decide)) ea_nil))))) fun H2 e2 => ?_
    exact ⟨s, a, D.w, D.h, (f 0).toNat, (f 1).toNat, (f 2).toNat, t, by rw [c0, c1, c2], hs.mono e2, ok, ha.mono e2, by omega, by omega, by omega, rfl, rfl⟩
  · unfold rBlur at q
    exact out_negB w q
theorem len_Desk_turn (h : sp_Desk_turn K A vs H Q E) : vs.length = 2 := len_op h
theorem pure_Desk_turn (T : Txt K mg A) (h : sp_Desk_turn K A vs H Q E) : t_Desk_turn K A E (DE Q) (start ["self", "given"] vs) H := by
  obtain ⟨u, d, g, D, f, rfl, hu, hD, hg, pre, q⟩ := h
  refine b_within (los := [-65536, -65536]) (his := [65536, 65536]) (ev_var rfl) hg (eps_cons (ev_un ev_c ru_neg) ev_c (eps_cons (ev_un ev_c ru_neg) ev_c eps_nil)) (by decide) (Ex.refl H) (fun w H1 e1 => ?_) fun w => ?_
  · have w0 : -65536 ≤ f 0 ∧ f 0 ≤ 65536 := within_get w (i := 0) (by decide)
    have w1 : -65536 ≤ f 1 ∧ f 1 ≤ 65536 := within_get w (i := 1) (by decide)
    unfold rTurn at q
    replace q := out_pos w q
    refine b_change T (ev_var rfl) hu hD e1 q fun t a s ok hs es bt ha et => ⟨?_, bd_sampled ok.1 ok.2.2.1 bt⟩
    refine ep_spP hu (ea_cons es (ea_cons et (ea_cons (ev_giv 0 (ev_var rfl) ev_c hg (by decide)) (ea_cons (ev_giv 1 (ev_var rfl) ev_c hg (by decide)) ea_nil)))) fun H2 e2 => ?_
    exact ⟨s, a, D.w, D.h, t, f 0, f 1, rfl, hs.mono e2, ok, ha.mono e2, by omega, by omega, by omega, by omega, rfl, rfl⟩
  · unfold rTurn at q
    exact out_negB w q
theorem len_Desk_bend (h : sp_Desk_bend K A vs H Q E) : vs.length = 2 := len_op h
theorem pure_Desk_bend (T : Txt K mg A) (h : sp_Desk_bend K A vs H Q E) : t_Desk_bend K A E (DE Q) (start ["self", "given"] vs) H := by
  obtain ⟨u, d, g, D, f, rfl, hu, hD, hg, pre, q⟩ := h
  refine b_within (los := [-8192]) (his := [8192]) (ev_var rfl) hg (eps_cons (ev_un ev_c ru_neg) ev_c eps_nil) (by decide) (Ex.refl H) (fun w H1 e1 => ?_) fun w => ?_
  · have w0 : -8192 ≤ f 0 ∧ f 0 ≤ 8192 := within_get w (i := 0) (by decide)
    unfold rBend at q
    replace q := out_pos w q
    refine b_two T (ev_var rfl) hu hD e1 q fun b t c a s ok hs es bb bt hc ha ec et => ⟨?_, bd_sampled ok.1 ok.2.2.1 bb⟩
    refine ep_spP hu (ea_cons es (ea_cons ec (ea_cons et (ea_cons (ev_giv 0 (ev_var rfl) ev_c hg (by decide)) ea_nil)))) fun H2 e2 => ?_
    exact ⟨s, c, a, D.w, D.h, b, t, f 0, rfl, hs.mono e2, ok, hc.mono e2, ha.mono e2, by omega, by omega, rfl, rfl⟩
  · unfold rBend at q
    exact out_negB w q
theorem len_Desk_join (h : sp_Desk_join K A vs H Q E) : vs.length = 2 := len_op h
theorem pure_Desk_join (T : Txt K mg A) (h : sp_Desk_join K A vs H Q E) : t_Desk_join K A E (DE Q) (start ["self", "given"] vs) H := by
  obtain ⟨u, d, g, D, f, rfl, hu, hD, hg, pre, q⟩ := h
  refine b_within (los := [0]) (his := [7]) (ev_var rfl) hg (eps_cons ev_c ev_c eps_nil) (by decide) (Ex.refl H) (fun w H1 e1 => ?_) fun w => ?_
  · unfold rJoin at q
    replace q := out_pos w q
    refine b_two T (ev_var rfl) hu hD e1 q fun b t c a s ok hs es bb bt hc ha ec et => ⟨?_, bd_joined bb bt⟩
    have := sz_ok ok
    refine ep_spP hu (ea_cons (ev_giv 0 (ev_var rfl) ev_c hg (by decide)) (ea_cons ec (ea_cons et ea_nil))) fun H2 e2 => ?_
    exact ⟨c, a, b, t, f 0, rfl, by omega, hc.mono e2, ha.mono e2, bb, bt, rfl⟩
  · unfold rJoin at q
    exact out_negB w q
theorem len_Desk_levels (h : sp_Desk_levels K A vs H Q E) : vs.length = 2 := len_op h
theorem pure_Desk_levels (T : Txt K mg A) (h : sp_Desk_levels K A vs H Q E) : t_Desk_levels K A E (DE Q) (start ["self", "given"] vs) H := by
  obtain ⟨u, d, g, D, f, rfl, hu, hD, hg, pre, q⟩ := h
  refine b_within (los := [0, 0]) (his := [65535, 65535]) (ev_var rfl) hg (eps_cons ev_c ev_c (eps_cons ev_c ev_c eps_nil)) (by decide) (Ex.refl H) (fun w H1 e1 => ?_) fun w => ?_
  · have w0 : 0 ≤ f 0 ∧ f 0 ≤ 65535 := within_get w (i := 0) (by decide)
    have w1 : 0 ≤ f 1 ∧ f 1 ≤ 65535 := within_get w (i := 1) (by decide)
    unfold rLevels at q
    replace q := out_pos w q
    refine b_need (b := decide (f 0 < f 1)) (ev_op (ev_giv 0 (ev_var rfl) ev_c hg (by decide)) (ev_giv 1 (ev_var rfl) ev_c hg (by decide)) rv_lt) ev_c e1 (fun b H2 e2 => ?_) fun b => ?_
    · have b := of_decide_eq_true b
      rw [if_pos b] at q
      refine b_change T (ev_var rfl) hu hD e2 q fun t a s ok hs es bt ha et => ⟨?_, bd_levels b bt⟩
      have := sz_ok ok
      refine ep_spP hu (ea_cons et (ea_cons (ev_giv 0 (ev_var rfl) ev_c hg (by decide)) (ea_cons (ev_giv 1 (ev_var rfl) ev_c hg (by decide)) ea_nil))) fun H2 e2 => ?_
      exact ⟨a, t, f 0, f 1, rfl, by omega, ha.mono e2, b, w0.1, w1.2, rfl⟩
    · rw [if_neg (of_decide_eq_false b)] at q
      exact q
  · unfold rLevels at q
    exact out_negB w q
theorem len_Desk_colour (h : sp_Desk_colour K A vs H Q E) : vs.length = 2 := len_op h
theorem pure_Desk_colour (T : Txt K mg A) (h : sp_Desk_colour K A vs H Q E) : t_Desk_colour K A E (DE Q) (start ["self", "given"] vs) H := by
  obtain ⟨u, d, g, D, f, rfl, hu, hD, hg, pre, q⟩ := h
  unfold rColour at q
  refine b_change T (ev_var rfl) hu hD (Ex.refl H) q fun t a s ok hs es bt ha et => ⟨?_, bd_recoloured bt⟩
  have := sz_ok ok
  refine ep_spP hu (ea_cons et (ea_cons (ev_var rfl) ea_nil)) fun H2 e2 => ?_
  exact ⟨a, g, t, f, rfl, by omega, ha.mono e2, e2 _ _ hg, fun j hj => by have := pre.2.2.2 rfl j hj; omega, rfl⟩
theorem len_Desk_light (h : sp_Desk_light K A vs H Q E) : vs.length = 2 := len_op h
theorem pure_Desk_light (T : Txt K mg A) (h : sp_Desk_light K A vs H Q E) : t_Desk_light K A E (DE Q) (start ["self", "given"] vs) H := by
  obtain ⟨u, d, g, D, f, rfl, hu, hD, hg, pre, q⟩ := h
  refine b_within (los := [-256, -256, 0]) (his := [256, 256, 4096]) (ev_var rfl) hg (eps_cons (ev_un ev_c ru_neg) ev_c (eps_cons (ev_un ev_c ru_neg) ev_c (eps_cons ev_c ev_c eps_nil))) (by decide) (Ex.refl H) (fun w H1 e1 => ?_) fun w => ?_
  · have w0 : -256 ≤ f 0 ∧ f 0 ≤ 256 := within_get w (i := 0) (by decide)
    have w1 : -256 ≤ f 1 ∧ f 1 ≤ 256 := within_get w (i := 1) (by decide)
    have w2 : 0 ≤ f 2 ∧ f 2 ≤ 4096 := within_get w (i := 2) (by decide)
    unfold rLight at q
    replace q := out_pos w q
    refine b_change T (ev_var rfl) hu hD e1 q fun t a s ok hs es bt ha et => ⟨?_, bd_light bt⟩
    refine ep_spP hu (ea_cons es (ea_cons et (ea_cons (ev_giv 0 (ev_var rfl) ev_c hg (by decide)) (ea_cons (ev_giv 1 (ev_var rfl) ev_c hg (by decide)) (ea_cons (ev_giv 2 (ev_var rfl) ev_c hg (by decide)) ea_nil))))) fun H2 e2 => ?_
    exact ⟨s, a, D.w, D.h, t, f 0, f 1, f 2, rfl, hs.mono e2, ok, ha.mono e2, by omega, by omega, by omega, rfl, rfl⟩
  · unfold rLight at q
    exact out_negB w q
theorem len_Desk_copy (h : sp_Desk_copy K A vs H Q E) : vs.length = 2 := len_op h
theorem pure_Desk_copy (T : Txt K mg A) (h : sp_Desk_copy K A vs H Q E) : t_Desk_copy K A E (DE Q) (start ["self", "given"] vs) H := by
  obtain ⟨u, d, g, D, f, rfl, hu, hD, hg, pre, q⟩ := h
  refine b_need (b := decide (0 ≤ f 0) && decide (f 0 < (D.pile.length : Int))) (ev_chain ev_c (ev_giv 0 (ev_var rfl) ev_c hg (by decide)) (ev_lenStk T (ev_var rfl) hu hD) fun _ _ => rv_lt) ev_c (Ex.refl H) (fun b H1 e1 => ?_) fun b => ?_
  · have b : 0 ≤ f 0 ∧ f 0 < (D.pile.length : Int) := by simpa using b
    unfold rCopy at q
    rw [if_pos b] at q
    have hj : (f 0).toNat < D.pile.length := by omega
    have hp : D.pile[(f 0).toNat]? = some (D.pile.getD (f 0).toNat fun _ _ => 0) := by
      rw [List.getD_eq_getElem?_getD, List.getElem?_eq_getElem hj]
      rfl
    obtain ⟨bt, a, ha, ea⟩ := stk (ta := tVar 0) (σ := start ["self", "given"] [.ref d, .ref g]) T (ev_var rfl) hu hD hp
    refine b_lay (ev_var rfl) hu hD e1 q (fun H2 e2 Q' k => ea (i := (D.pile.length : Int) - 1 - f 0) (ev_op (ev_op (ev_lenStk T (ev_var rfl) hu hD) ev_c rv_sub) (ev_giv 0 (ev_var rfl) ev_c hg (by decide)) rv_sub) (Or.inl (by omega)) H2 e2 Q' fun H3 e3 => k _ H3 e3 ⟨a, rfl, ha.mono (e2.trans e3)⟩) bt
  · have b : ¬ (0 ≤ f 0 ∧ f 0 < (D.pile.length : Int)) := by
      intro z
      rw [decide_eq_true z.1, decide_eq_true z.2] at b
      cases b
    unfold rCopy at q
    rw [if_neg b] at q
    exact q
theorem len_Desk_swap (h : sp_Desk_swap K A vs H Q E) : vs.length = 1 := len_op0 h
theorem pure_Desk_swap (T : Txt K mg A) (h : sp_Desk_swap K A vs H Q E) : t_Desk_swap K A E (DE Q) (start ["self"] vs) H := by
  obtain ⟨u, d, D, rfl, hu, hD, q⟩ := h
  unfold rSwap at q
  refine b_pics (m := 2) (ev_var rfl) hu hD ev_c (Ex.refl H) (fun h1 H2 e2 => ?_) fun h0 => ?_
  · obtain ⟨t, b, r, hp⟩ : ∃ t b r, D.pile = t :: b :: r := by
      match hm : D.pile with
      | [] => rw [hm] at h1; simp at h1
      | [t] => rw [hm] at h1; simp at h1
      | t :: b :: r => exact ⟨t, b, r, rfl⟩
    obtain ⟨bt, a, ha, ea⟩ := stk (ta := tVar 0) (σ := start ["self"] [.ref d]) T (ev_var rfl) hu hD (j := 0) (F := t) (by rw [hp]; rfl)
    obtain ⟨bb, c, hc, ec⟩ := stk (ta := tVar 0) (σ := start ["self"] [.ref d]) T (ev_var rfl) hu hD (j := 1) (F := b) (by rw [hp]; rfl)
    rw [hp] at q
    refine b_repl (m := 2) (Gs := [t, b]) (ev_var rfl) hu hD ev_c (ep_pics2 (ea (ev_un ev_c ru_neg) (Or.inr (by decide))) (ec (ev_un ev_c ru_neg) (Or.inr (by decide))) ha hc) (fun G hG => by
      rcases List.mem_cons.mp hG with rfl | hG
      · exact bt
      · rcases List.mem_singleton.mp hG with rfl
        exact bb) h1 (Nat.le_refl 2) e2 ?_
    have hn : D.pile.length - 2 + [t, b].length = (t :: b :: r).length := by rw [hp]; simp
    rw [hn, hp]
    exact q
  · match hm : D.pile with
    | [] => rw [hm] at q; exact q
    | [t] => rw [hm] at q; exact q
    | t :: b :: r => rw [hm] at h0; simp at h0; omega
theorem len_Desk_drop (h : sp_Desk_drop K A vs H Q E) : vs.length = 1 := len_op0 h
theorem pure_Desk_drop (T : Txt K mg A) (h : sp_Desk_drop K A vs H Q E) : t_Desk_drop K A E (DE Q) (start ["self"] vs) H := by
  obtain ⟨u, d, D, rfl, hu, hD, q⟩ := h
  unfold rDrop at q
  refine b_pics (m := 1) (ev_var rfl) hu hD ev_c (Ex.refl H) (fun h1 H2 e2 => ?_) fun h0 => ?_
  · obtain ⟨t, r, hp⟩ : ∃ t r, D.pile = t :: r := by
      match hm : D.pile with
      | [] => rw [hm] at h1; simp at h1
      | t :: r => exact ⟨t, r, rfl⟩
    rw [hp] at q
    refine b_repl (m := 1) (Gs := []) (ev_var rfl) hu hD ev_c ep_pics0 (fun G hG => by cases hG) h1 (by decide) e2 ?_
    have hn : (((D.pile.length - 1 + ([] : List Pct).length : Nat)) : Int) = (((t :: r).length : Nat) : Int) - 1 := by rw [hp]; simp
    rw [hn, hp]
    exact q
  · match hm : D.pile with
    | [] => rw [hm] at q; exact q
    | t :: r => rw [hm] at h0; simp at h0
end GT
end
section
set_option Elab.async false
set_option linter.all false
set_option maxRecDepth 100000
set_option maxHeartbeats 2000000
/-! what is read of the desk -/
namespace GT
open PySem PySem.Spec PyProof.Rows L2
open Evl (Ex Ev EvL EvU EvT EvA EvO RV RU RC ev_var ev_c ev_op ev_un et_test et_B et_not ev_if ea_nil ea_cons eo_none eo_some ev_cb fresh_back sq_of st_of ev_andV)
section
variable {K : PySem.W.Frag} {A : Ad} {mg : Str → Option Value} {σ : L2.St} {H H1 H2 H' : Hp} {ta tb te tl tc td tv : TE} {tt : TT} {g : TG} {x y z v : V} {D : Ends} {tz : TS} {ar tr : TA} {i j l k n m : Nat} {p : Addr} {E : XK} {Q : VK}
theorem ep_spots {s : Addr} {w h : Nat} {E' : XK} (ho : Ev ta σ H (.ref s)) (hs : SizeAt A H s w h) (ok : sizeOk w h) :
    EvP (tMeth A.CS "spots" (sp_Size_spots K A) [] E' ta tNil) σ H (fun v H' => ∃ p, v = .ref p ∧ LsAt H' p (w * h) (prC (px w) (py w))) := by
  intro H1 e Q q
  obtain ⟨dx, hI⟩ := id hs
  exact ho H1 e _ fun H2 e2 => ⟨s, dx, _, rfl, e2 s _ (e s _ hI), (lk_past (by decide +kernel)).trans ((lk_past (by decide +kernel)).trans rfl), s, w, h, rfl, hs.mono (e.trans e2), ok, fun p H3 nl => q _ H3 (e2.trans nl.2.1) ⟨p, rfl, nl.at_⟩⟩
theorem b_parP {P : V → Hp → Prop} (h : Ev ta σ H v) (h2 : EvP tb σ H P) (e : Ex H H1) (k : ∀ w H2, Ex H H2 → P w H2 → tz D ((σ.set i (some v)).set j (some w)) H2) : tSeq (tPar i j (tCons ta (tCons tb tNil))) tz D σ H1 := by
  show tCons ta (tCons tb tNil) σ H1 fun vs H2 => ∃ v w, vs = [v, w] ∧ tz D ((σ.set i (some v)).set j (some w)) H2
  exact h H1 e _ fun H2 e2 => h2 H2 (e.trans e2) _ fun w H3 e3 p => ⟨v, w, rfl, k w H3 (e.trans (e2.trans e3)) p⟩
theorem evi_enumL {a : Addr} {xs : List V} (hl : xs.length = n) (h : EvA ar σ H [.ref a]) (ha : H a = some (.lst xs)) :
    EvI (iEnum K ar) σ H n (fun i v H' => ∃ T x, v = .ref T ∧ H' T = some (.tup [.int (i : Int), x]) ∧ xs[i]? = some x) := by
  subst hl
  exact evi_enum h ha
theorem Grow.one {p : Addr} {R : Nat → V → Hp → Prop} (hn : H p = none) (e : Ex H H') (h : H' p = some (.lst [x])) (hr : R 0 x H') : Grow H p 1 R H' := ⟨hn, e, [x], rfl, h, fun i v q => by
  cases i with
  | zero => cases q; exact hr
  | succ i => simp at q⟩
theorem chV_succ {f : Nat → Int} {c : Int} {g : Nat → Int} (h0 : f 0 = c) (hs : ∀ j, f (j + 1) = g j) : chV (1 + n) f = (c :: (List.range n).map g).map V.int := by
  unfold chV
  rw [Nat.add_comm, List.range_succ_eq_map, List.map_cons, h0, List.map_cons, List.map_map, List.map_map]
  congr 1
  exact List.map_congr_left fun j _ => congrArg V.int (hs j)
/-- dithered(..) -/
theorem ev_dith {v x y : Int} {n : Nat} (h : EvA ar σ H [.int v, .int (n : Int), .int x, .int y]) (hn : n ≤ 8) (hv : 0 ≤ v ∧ v ≤ 65535) : Ev (tCall (sp_dithered K A) [] E ar) σ H (.int (mDither v n x y)) :=
  ev_spI h fun H1 e1 => ⟨v, x, y, n, rfl, hn, hv.1, hv.2, rfl⟩
end
variable {K : PySem.W.Frag} {A : Ad} {mg : Str → Option Value} {vs : List V} {H : Hp} {Q : VK} {E : XK}
theorem len_Desk_pixel (h : sp_Desk_pixel K A vs H Q E) : vs.length = 2 := len_op h
theorem pure_Desk_pixel (T : Txt K mg A) (h : sp_Desk_pixel K A vs H Q E) : t_Desk_pixel K A E (DE Q) (start ["self", "given", "channel"] vs) H := by
  obtain ⟨u, d, g, D, f, rfl, hu, hD, hg, pre, q⟩ := h
  obtain ⟨ok, h8, s, hs, es⟩ := szD (K := K) (σ := start ["self", "given", "channel"] [.ref d, .ref g]) (ta := tVar 0) (ev_var rfl) hu hD
  unfold rPixel at q
  refine b_within (los := [0, 0]) (his := [(D.w : Int) - 1, (D.h : Int) - 1]) (ev_var rfl) hg (eps_cons ev_c (ev_op (ev_width T es hs) ev_c rv_sub) (eps_cons ev_c (ev_op (ev_height T es hs) ev_c rv_sub) eps_nil)) (by show 2 ≤ 100; decide) (Ex.refl H) (fun w H1 e1 => ?_) fun w => ?_
  · replace q := out_pos w q
    refine b_pics (m := 1) (ev_var rfl) hu hD ev_c e1 (fun h1 H2 e2 => ?_) fun h0 => ?_
    · obtain ⟨t, r, hp⟩ : ∃ t r, D.pile = t :: r := by
        match hm : D.pile with
        | [] => rw [hm] at h1; simp at h1
        | t :: r => exact ⟨t, r, rfl⟩
      obtain ⟨bt, a, ha, ea⟩ := stk (ta := tVar 0) (σ := start ["self", "given", "channel"] [.ref d, .ref g]) T (ev_var rfl) hu hD (j := 0) (F := t) (by rw [hp]; rfl)
      rw [hp] at q
      obtain ⟨acc, hl, hacc, hcs⟩ := ha.ls
      obtain ⟨dxd, zd, kd, sd, hd, hz, hsd, okd, _⟩ := hD.o
      obtain ⟨dx, hI⟩ := id hsd
      refine b_retL (el_cat (xs := [.int 0]) (zs := chV 4 fun k => mGot D.w D.h (t k) (f 0) (f 1)) (Evl.el_lst (ea_one ev_c) (by show 1 ≤ 100000; decide)) (el_lcI (evi_listL hl (ea (ev_un ev_c ru_neg) (Or.inr (by decide))) hacc) (by decide) fun k x Hb eb hk y => ⟨_, tg_name, rfl, ?_⟩) (by show 1 + 4 ≤ 100000; decide)) e2 fun p H3 hp3 e3 h3 => q p H3 hp3 (Ex.b e3) (hD.mono e3) h3
      obtain ⟨c, rfl, hc⟩ := hcs k x y
      refine ev_spIm (C := A.CS) (a := sd) (ev_size (ev_var rfl) (eb _ _ hd) (eb _ _ hz)) (ea_three (ev_var rfl) (ev_giv 0 (ev_var rfl) ev_c (eb _ _ hg) (by decide)) (ev_giv 1 (ev_var rfl) ev_c (eb _ _ hg) (by decide))) (eb _ _ hI) ((lk_past (by decide +kernel)).trans ((lk_past (by decide +kernel)).trans rfl)) fun H4 e4 => ?_
      exact ⟨sd, c, D.w, D.h, t k, f 0, f 1, rfl, hsd.mono (eb.trans e4), ok, e4 _ _ (eb _ _ hc), rfl⟩
    · match hm : D.pile with
      | [] => rw [hm] at q; exact q
      | t :: r => rw [hm] at h0; simp at h0
  · exact out_negB w q
theorem len_Desk_read_bytes (h : sp_Desk_read_bytes K A vs H Q E) : vs.length = 1 := len_op0 h
def bytesV (t : Pct) (w n : Nat) : Nat → Int
  | 0 => 4 * (n : Int)
  | j + 1 => mDither (t (j % 4) (j / 4)) 8 (px w (j / 4)) (py w (j / 4))
theorem pure_Desk_read_bytes (T : Txt K mg A) (h : sp_Desk_read_bytes K A vs H Q E) : t_Desk_read_bytes K A E (DE Q) (start ["self", "top", "spots", "found", "place", "x", "y", "channel"] vs) H := by
  obtain ⟨u, d, D, rfl, hu, hD, q⟩ := h
  obtain ⟨ok, h8, s, hs, es⟩ := szD (K := K) (σ := start ["self", "top", "spots", "found", "place", "x", "y", "channel"] [.ref d]) (ta := tVar 0) (ev_var rfl) hu hD
  have sz := sz_ok ok
  unfold rBytes at q
  refine b_pics (m := 1) (ev_var rfl) hu hD ev_c (Ex.refl H) (fun h1 H2 e2 => ?_) fun h0 => ?_
  · obtain ⟨t, r, hp⟩ : ∃ t r, D.pile = t :: r := by
      match hm : D.pile with
      | [] => rw [hm] at h1; simp at h1
      | t :: r => exact ⟨t, r, rfl⟩
    obtain ⟨bt, a, ha, ea⟩ := stk (ta := tVar 0) (σ := start ["self", "top", "spots", "found", "place", "x", "y", "channel"] [.ref d]) T (ev_var rfl) hu hD (j := 0) (F := t) (by rw [hp]; rfl)
    rw [hp] at q
    refine b_parP (ea (ev_un ev_c ru_neg) (Or.inr (by decide))) (ep_spots es hs ok) e2 fun v H3 e3 ⟨sp, ev, hsp⟩ => ?_
    subst ev
    have ha3 := ha.mono e3
    obtain ⟨acc, hl, hacc, hcs⟩ := ha3.ls
    obtain ⟨acs, sl, hsa, hss⟩ := id hsp
    refine b_asgL (xs := [.int (4 * ((D.w * D.h : Nat) : Int))]) (Evl.el_lst (ea_one (ev_op ev_c (ev_eq (Evl.ev_len (ev_var rfl) (sq_of hsa)) (by rw [sl])) (rv_mul (by unfold CMul; omega)))) (by show 1 ≤ 100000; decide)) (Ex.refl H3) fun p H4 hp4 e4 h4 => ?_
    refine s_forI (D := { nx := _, rt := _ }) (evi_enumL sl (ea_one (ev_var rfl)) hsa) e4
      (fun Hg i σ' H' => Grow Hg p (1 + 4 * i) (fun j v _ => v = .int (bytesV t D.w (D.w * D.h) j)) H' ∧ ∃ o1 o2 o3 o4 : Option V, σ' = [some (.ref d), some (.ref a), some (.ref sp), some (.ref p), o1, o2, o3, o4])
      (fun Hg H5 eg eg2 e5 hn => ⟨Grow.one (hn p _ h4 hp4) eg2 (e5 p _ h4) rfl, none, none, none, none, rfl⟩) (fun Hg i σ' H' p => p.1.2.1) (fun Hg i x σ' Ha Hb eg hi pv e3 y => ?_) fun Hg σ' H' eg pv => ?_
    · obtain ⟨gr, o1, o2, o3, o4, rfl⟩ := pv
      obtain ⟨Tp, x2, rfl, hT, hx⟩ := y
      obtain ⟨T2, rfl, hT2⟩ := hss i x2 hx
      have gb := gr.ex stb_int e3
      have eb : Ex H3 Hb := eg.trans gb.2.1
      refine ⟨_, tg_tup2 hT tg_name (tg_tup2 (eb _ _ hT2) tg_name tg_name), s_ext (m := 4) stb_int gb (by omega) (ev_var rfl) (ex_of_el (xs := chV 4 fun k => mDither (t k i) 8 (px D.w i) (py D.w i)) ?_ chV_len ?_) fun H6 g6 => ⟨?_, _, _, _, _, rfl⟩⟩
      · refine el_lcI (evi_listL hl (ev_var rfl) (eb _ _ hacc)) (by omega) fun k x Hc ec hk y => ⟨_, tg_name, rfl, ?_⟩
        obtain ⟨c, rfl, hc⟩ := hcs k x y
        exact ev_dith (ea_cons (ev_giv i (ev_var rfl) (ev_var rfl) (ec _ _ (eb _ _ hc)) hi) (ea_three ev_c (ev_var rfl) (ev_var rfl))) (Nat.le_refl 8) (bt k i hk hi)
      · intro H7 j v hv
        have hj : j < 4 := by
          have := (List.getElem?_eq_some_iff.mp hv).1
          rw [chV_len] at this
          exact this
        rw [chV_get hj] at hv
        cases hv
        rw [show 1 + 4 * i + j = (4 * i + j) + 1 by omega]
        show _ = V.int (mDither (t ((4 * i + j) % 4) ((4 * i + j) / 4)) 8 (px D.w ((4 * i + j) / 4)) (py D.w ((4 * i + j) / 4)))
        rw [show (4 * i + j) % 4 = j by omega, show (4 * i + j) / 4 = i by omega]
      · rw [show 1 + 4 * (i + 1) = 1 + 4 * i + 4 by omega]
        exact g6
    · obtain ⟨gr, o1, o2, o3, o4, rfl⟩ := pv
      have eb := e3.trans (eg.trans gr.2.1)
      refine b_ret (ev_var rfl) (Ex.refl H') fun H5 e5 => q p H5 (fresh_back e3 hp4) (Ex.b (eb.trans e5)) (hD.mono (eb.trans e5)) ?_
      rw [e5 _ _ gr.ints, chV_succ rfl fun j => rfl]
      rfl
  · match hm : D.pile with
    | [] => rw [hm] at q; exact q
    | t :: r => rw [hm] at h0; simp at h0
theorem len_Desk_read_words (h : sp_Desk_read_words K A vs H Q E) : vs.length = 1 := len_op0 h
def wordV (t : Pct) (w i : Nat) : Int := 2048 * mDither (t 0 i) 5 (px w i) (py w i) + 32 * mDither (t 1 i) 6 (px w i) (py w i) + mDither (t 2 i) 5 (px w i) (py w i)
def wordsV (t : Pct) (w n : Nat) : Nat → Int
  | 0 => (n : Int)
  | j + 1 => wordV t w j
theorem pure_Desk_read_words (T : Txt K mg A) (h : sp_Desk_read_words K A vs H Q E) : t_Desk_read_words K A E (DE Q) (start ["self", "top", "spots", "found", "place", "x", "y", "r", "b"] vs) H := by
  obtain ⟨u, d, D, rfl, hu, hD, q⟩ := h
  obtain ⟨ok, h8, s, hs, es⟩ := szD (K := K) (σ := start ["self", "top", "spots", "found", "place", "x", "y", "r", "b"] [.ref d]) (ta := tVar 0) (ev_var rfl) hu hD
  have sz := sz_ok ok
  unfold rWords at q
  refine b_pics (m := 1) (ev_var rfl) hu hD ev_c (Ex.refl H) (fun h1 H2 e2 => ?_) fun h0 => ?_
  · obtain ⟨t, r, hp⟩ : ∃ t r, D.pile = t :: r := by
      match hm : D.pile with
      | [] => rw [hm] at h1; simp at h1
      | t :: r => exact ⟨t, r, rfl⟩
    obtain ⟨bt, a, ha, ea⟩ := stk (ta := tVar 0) (σ := start ["self", "top", "spots", "found", "place", "x", "y", "r", "b"] [.ref d]) T (ev_var rfl) hu hD (j := 0) (F := t) (by rw [hp]; rfl)
    rw [hp] at q
    refine b_parP (ea (ev_un ev_c ru_neg) (Or.inr (by decide))) (ep_spots es hs ok) e2 fun v H3 e3 ⟨sp, ev, hsp⟩ => ?_
    subst ev
    have ha3 := ha.mono e3
    obtain ⟨c0, c1, c2, c3, hacc, hc0, hc1, hc2, hc3⟩ := LsAt.four ha3.ls
    obtain ⟨acs, sl, hsa, hss⟩ := id hsp
    refine b_asgL (xs := [.int ((D.w * D.h : Nat) : Int)]) (Evl.el_lst (ea_one (ev_eq (Evl.ev_len (ev_var rfl) (sq_of hsa)) (by rw [sl]))) (by show 1 ≤ 100000; decide)) (Ex.refl H3) fun p H4 hp4 e4 h4 => ?_
    refine s_forI (D := { nx := _, rt := _ }) (evi_enumL sl (ea_one (ev_var rfl)) hsa) e4
      (fun Hg i σ' H' => Grow Hg p (1 + i) (fun j v _ => v = .int (wordsV t D.w (D.w * D.h) j)) H' ∧ ∃ o1 o2 o3 o4 o5 : Option V, σ' = [some (.ref d), some (.ref a), some (.ref sp), some (.ref p), o1, o2, o3, o4, o5])
      (fun Hg H5 eg eg2 e5 hn => ⟨Grow.one (hn p _ h4 hp4) eg2 (e5 p _ h4) rfl, none, none, none, none, none, rfl⟩) (fun Hg i σ' H' p => p.1.2.1) (fun Hg i x σ' Ha Hb eg hi pv e3 y => ?_) fun Hg σ' H' eg pv => ?_
    · obtain ⟨gr, o1, o2, o3, o4, o5, rfl⟩ := pv
      obtain ⟨Tp, x2, rfl, hT, hx⟩ := y
      obtain ⟨T2, rfl, hT2⟩ := hss i x2 hx
      have gb := gr.ex stb_int e3
      have eb : Ex H3 Hb := eg.trans gb.2.1
      have d0 := bt 0 i (by decide) hi
      have d1 := bt 1 i (by decide) hi
      have d2 := bt 2 i (by decide) hi
      refine ⟨_, tg_tup2 hT tg_name (tg_tup2 (eb _ _ hT2) tg_name tg_name), b_par (v := .int (mDither (t 0 i) 5 (px D.w i) (py D.w i))) (w := .int (mDither (t 2 i) 5 (px D.w i) (py D.w i))) ?_ ?_ (Ex.refl Hb) fun H6 e6 => ?_⟩
      · exact ev_dith (ea_cons (ev_giv i (ev_ixL (ev_var rfl) ev_c (eb _ _ hacc) rfl) (ev_var rfl) (eb _ _ hc0) hi) (ea_three ev_c (ev_var rfl) (ev_var rfl))) (by decide) d0
      · exact ev_dith (ea_cons (ev_giv i (ev_ixL (ev_var rfl) ev_c (eb _ _ hacc) rfl) (ev_var rfl) (eb _ _ hc2) hi) (ea_three ev_c (ev_var rfl) (ev_var rfl))) (by decide) d2
      · have g6 := gb.ex stb_int e6
        refine s_push stb_int g6 (by omega) (ev_var rfl) (EvP.imp (p_of_ev (v := .int (wordV t D.w i)) ?_) fun v H' h => by rw [h, Nat.add_comm]; rfl) fun H7 g7 => ⟨?_, _, _, _, _, _, rfl⟩
        · refine ev_op (ev_op (ev_op ev_c (ev_var rfl) (rv_mul (by unfold CMul; omega))) (ev_op ev_c (ev_dith (v := t 1 i) (n := 6) (x := px D.w i) (y := py D.w i) (ea_cons (ev_giv i (ev_ixL (ev_var rfl) ev_c (e6 _ _ (eb _ _ hacc)) rfl) (ev_var rfl) (e6 _ _ (eb _ _ hc1)) hi) (ea_three ev_c (ev_var rfl) (ev_var rfl))) (by decide) d1) (rv_mul (by unfold CMul; omega))) rv_add) (ev_var rfl) rv_add
        · rw [show 1 + (i + 1) = 1 + i + 1 by omega]
          exact g7
    · obtain ⟨gr, o1, o2, o3, o4, o5, rfl⟩ := pv
      have eb := e3.trans (eg.trans gr.2.1)
      refine b_ret (ev_var rfl) (Ex.refl H') fun H5 e5 => q p H5 (fresh_back e3 hp4) (Ex.b (eb.trans e5)) (hD.mono (eb.trans e5)) ?_
      rw [e5 _ _ gr.ints, chV_succ rfl fun j => rfl]
      rfl
  · match hm : D.pile with
    | [] => rw [hm] at q; exact q
    | t :: r => rw [hm] at h0; simp at h0
end GT
end
section
set_option linter.all false
/-! all calls, in plain Lean -/
namespace GT
def mAll : Nat → Option Dk → List Int → List Int
  | 0, _, _ => []
  | _ + 1, _, [] => []
  | n + 1, st, p :: r => ((rAns st p (tab r)).2.length : Int) :: (rAns st p (tab r)).2 ++ mAll n (rAns st p (tab r)).1 (r.drop (many p))
def mOk : Nat → List Int → Prop
  | _, [] => True
  | 0, _ :: _ => False
  | n + 1, p :: r => 1 ≤ p ∧ p ≤ 18 ∧ many p ≤ r.length ∧ argsOk p (tab r) ∧ mOk n (r.drop (many p))
theorem mAll_nil : ∀ n st, mAll n st [] = []
  | 0, _ => rfl
  | _ + 1, _ => rfl
theorem rAns_none {p : Int} {f : Nat → Int} (b : ¬ p = 1) : rAns none p f = (none, [-7]) := by
  unfold rAns
  rw [if_neg b]
theorem rAns_ok {p : Int} {f : Nat → Int} {D D' : Dk} {a : List Int} (b : ¬ p = 1) (h : (if p < 10 then rEarly D p f else rLater D p f) = .ok (D', a)) : rAns (some D) p f = (some D', a) := by
  unfold rAns
  rw [if_neg b]
  simp only [h]
theorem rAns_err {p : Int} {f : Nat → Int} {D : Dk} {c : Int} (b : ¬ p = 1) (h : (if p < 10 then rEarly D p f else rLater D p f) = .error c) : rAns (some D) p f = (some D, [c]) := by
  unfold rAns
  rw [if_neg b]
  simp only [h]
theorem rAns_open {st : Option Dk} {f : Nat → Int} (h : within 2 f (tab [2, 2]) (tab [6, 6]) = true) : rAns st 1 f = (some ⟨2 ^ (f 0).toNat, 2 ^ (f 1).toNat, []⟩, [0]) := by
  unfold rAns
  rw [if_pos rfl, if_pos h]
theorem rAns_open0 {st : Option Dk} {f : Nat → Int} (h : within 2 f (tab [2, 2]) (tab [6, 6]) = false) : rAns st 1 f = (st, [-2]) := by
  unfold rAns
  rw [if_pos rfl, if_neg (by rw [h]; decide)]
end GT
end
section
set_option Elab.async false
set_option linter.all false
set_option maxRecDepth 100000
set_option maxHeartbeats 2000000
/-! a call's answer, and all of them -/
namespace GT
open PySem PySem.Spec PyProof.Rows L2
open Evl (Ex Ev EvL EvU EvT EvA EvO RV RU RC ev_var ev_c ev_op ev_un et_test et_B et_not ev_if ea_nil ea_cons eo_none eo_some ev_cb fresh_back sq_of st_of ev_andV)
def sp_ans (K : PySem.W.Frag) : Sp := fun vs H Q _ => ∃ (a : Addr) (ns : List Int), vs = [.ref a] ∧ SqL K H a (ns.map V.int) ∧ ns.length ≤ 100000 ∧ mOk ns.length ns ∧ (mAll ns.length none ns).length ≤ 16000000 ∧
  ∀ p H', Ex H H' → H' p = some (.lst ((mAll ns.length none ns).map V.int)) → Q (.ref p) H'
def sp_answers (K : PySem.W.Frag) (_ : Ad) : Sp := sp_ans K
section
variable {K : PySem.W.Frag} {A : Ad} {mg : Str → Option Value} {σ : L2.St} {H H1 H2 H' : Hp} {ta tb te tl tc td tv : TE} {tt : TT} {g : TG} {x y z v : V} {D : Ends} {tz : TS} {ar tr : TA} {i j l k m : Nat} {p d q u : Addr} {E : XK} {Q : VK} {M : Dk}
theorem Out.mono {r : Res} (f : Out A u H d Q E r) (e : Ex H H2) : Out A u H2 d Q E r := by
  cases r with
  | ok x => exact Done.mono f e
  | error c => exact Fail.mono f e
/-- return self.m(given) -/
theorem b_retOp {n : Nat} {g : Addr} {f : Nat → Int} {pre : (Nat → Int) → Prop} {r : Dk → (Nat → Int) → Res} {m : Str} (ho : Ev ta σ H (.ref d)) (hg : Ev tb σ H (.ref g)) (hu : Al H u) (hD : DeskAt A u H d (some M)) (hf : H g = some (.lst (chV n f))) (hp : pre f) (e : Ex H H1) (q : Out A u H d D.rt E (r M f))
    (m1 : (m == ("sizes" : Str)) = false) (m2 : (m == ("stack" : Str)) = false) : tRet (tMeth A.CD m (spOp A n pre r) [] E ta (tCons tb tNil)) D σ H1 := by
  obtain ⟨du, dx, z, k, hd⟩ := hD.obj
  refine ho H1 e _ fun H2 e2 => ⟨d, dx, _, rfl, e2 _ _ (e _ _ hd), lk_dk m1 m2, ?_⟩
  exact hg H2 (e.trans e2) _ fun H3 e3 => ⟨u, d, g, M, f, rfl, hu.ex (e.trans (e2.trans e3)), hD.mono (e.trans (e2.trans e3)), e3 _ _ (e2 _ _ (e _ _ hf)), hp, q.mono (e.trans (e2.trans e3))⟩
theorem b_retOp0 {r : Dk → Res} {m : Str} (ho : Ev ta σ H (.ref d)) (hu : Al H u) (hD : DeskAt A u H d (some M)) (e : Ex H H1) (q : Out A u H d D.rt E (r M))
    (m1 : (m == ("sizes" : Str)) = false) (m2 : (m == ("stack" : Str)) = false) : tRet (tMeth A.CD m (spOp0 A r) [] E ta tNil) D σ H1 := by
  obtain ⟨du, dx, z, k, hd⟩ := hD.obj
  exact ho H1 e _ fun H2 e2 => ⟨d, dx, _, rfl, e2 _ _ (e _ _ hd), lk_dk m1 m2, u, d, M, rfl, hu.ex (e.trans e2), hD.mono (e.trans e2), q.mono (e.trans e2)⟩
theorem b_retIf {t : TT} {b : Bool} (h : EvT t σ H b) (e : Ex H H1) (h1 : b = true → ∀ H2, Ex H H2 → tRet ta D σ H2) (h2 : b = false → ∀ H2, Ex H H2 → tRet tb D σ H2) : tRet (tIf t ta tb) D σ H1 :=
  h H1 e _ fun H2 e2 => by
    cases b with
    | true => exact h1 rfl H2 (e.trans e2)
    | false => exact h2 rfl H2 (e.trans e2)
/-- what is caught is answered by its code -/
theorem fail_caught {v0 v1 v2 : V} {c : Int} (T : Txt K mg A) (q : ∀ p H', H p = none → Ex H H' → H' p = some (.lst [.int c]) → Q (.ref p) H') :
    Fail A H (WE (wAs K (.ref A.CR) 3 (fun a cls d => tRet (tLst (tCons (tXf a cls d A.CR "code" (tVar 3)) tNil))) (fun _ _ _ _ => False) (DE Q)) [some v0, some v1, some v2, none]) c := fun H' dd e hd =>
  ⟨true, T.te, fun _ a ha => ⟨.ref a, rfl, rfl, rfl, dd, _, _, rfl, hd, lk_here, by show 1 ≤ sizeLine; decide, fun p hp => q p _ (fresh_back e hp) (e.trans (Ex.new hp)) upd_same⟩, fun h => Bool.noConfusion h⟩
theorem out_caught {v0 v1 v2 : V} {r : Res} (T : Txt K mg A) (hD : DeskAt A u H d (some M)) (q1 : ∀ D' a, r = .ok (D', a) → Done A u H d Q (some D') a) (q2 : ∀ c, r = .error c → Done A u H d Q (some M) [c]) :
    Out A u H d Q (WE (wAs K (.ref A.CR) 3 (fun a cls d => tRet (tLst (tCons (tXf a cls d A.CR "code" (tVar 3)) tNil))) (fun _ _ _ _ => False) (DE Q)) [some v0, some v1, some v2, none]) r := by
  cases r with
  | ok x => exact q1 x.1 x.2 rfl
  | error c => exact fail_caught T fun p H' hp e h => q2 c rfl p H' hp (Ex.b e) (hD.mono e) h
/-- return self.m(..) in a try -/
theorem b_retMT {E : L2.St → XK} {sp : Sp} {C dx : Addr} {fs : List (Str × V)} {m : Str} {vs : List V} (ho : Ev ta σ H (.ref d)) (hI : H d = some (.ins C dx fs)) (hm : fs.lookup m = none) (ha : EvA ar σ H vs) (e : Ex H H1) (k : ∀ H2, Ex H H2 → sp (.ref d :: vs) H2 D.rt (E σ)) : tRet (tMethT C m sp E ta ar) D σ H1 :=
  ho H1 e _ fun H2 e2 => ⟨d, dx, fs, rfl, e2 _ _ (e _ _ hI), hm, ha H2 (e.trans e2) _ fun H3 e3 => k H3 (e.trans (e2.trans e3))⟩
theorem rv_neE {p q : Addr} {xs : List V} (h1 : SqL K H p xs) (h2 : SqL K H q []) : RV (rNeE K) (.ref p) (.ref q) H (.bl (!xs.isEmpty)) := fun H1 e _ k => ⟨p, q, xs, rfl, rfl, Evl.ex_l e h1, Evl.ex_l e h2, k H1 (Ex.refl H1)⟩
theorem ev_neE {p : Addr} {xs : List V} (ha : Ev ta σ H (.ref p)) (h1 : SqL K H p xs) : Ev (tOp (rNeE K) ta (tLst tNil)) σ H (.bl (!xs.isEmpty)) := fun H1 e Q k =>
  ha H1 e _ fun H2 e2 => el_nil H2 (e.trans e2) _ fun r H3 _ e3 hr => rv_neE (Evl.ex_l (e.trans (e2.trans e3)) h1) (sq_of hr) H3 (Ex.refl H3) _ fun H4 e4 => k H4 (e2.trans (e3.trans e4))
/-- need(..) in a try -/
theorem b_needS {E : L2.St → XK} {b : Bool} {c : Int} (hb : Ev tb σ H (.bl b)) (hc : Ev tc σ H (.int c)) (e : Ex H H1) (k1 : b = true → ∀ H2, Ex H H2 → tz D σ H2) (k2 : b = false → Fail A H (E σ) c) : tSeq (tDrop (tCallS (sp_need K A) E (tCons tb (tCons tc tNil)))) tz D σ H1 := by
  show tCons tb (tCons tc tNil) σ H1 fun vs H2 => sp_need K A vs H2 (fun _ H3 => tz D σ H3) (E σ)
  exact (ea_two hb hc) H1 e _ fun H2 e2 => ⟨b, c, rfl, fun h H3 e3 => k1 h H3 (e.trans (e2.trans e3)), fun h => (k2 h).mono (e.trans e2)⟩
/-- xs.append(e) on a list that is held alone -/
theorem b_app {xs : List V} (hp : H p = some (.lst xs)) (ha : Ev ta σ H (.ref p)) (hv : Ev te σ H v) (hl : xs.length < 16777216) (k : ∀ H2, ExB p H H2 → H2 p = some (.lst (xs ++ [v])) → tz D σ H2) : tSeq (tDrop (tBM K "list" rAppend ta (tCons te tNil))) tz D σ H := by
  refine ha H (Ex.refl H) _ fun H1 e1 => ⟨.inl ⟨rfl, xs, sq_of (e1 _ _ hp)⟩, hv H1 e1 _ fun H2 e2 => ?_⟩
  exact ⟨p, xs, v, rfl, rfl, e2 _ _ (e1 _ _ hp), by rw [sizeLine_eq]; exact hl, k _ ((Ex.b (e1.trans e2)).trans ExB.upd) upd_same⟩
theorem s_extN {xs zs : List V} (hp : H p = some (.lst xs)) (hz : H q = some (.lst zs)) (ha : Ev ta σ H (.ref p)) (hv : Ev te σ H (.ref q)) (hl : xs.length + zs.length ≤ 16777216) (k : ∀ H2, ExB p H H2 → H2 p = some (.lst (xs ++ zs)) → D.nx σ H2) : tDrop (tBM K "list" rExtend ta (tCons te tNil)) D σ H := by
  refine ha H (Ex.refl H) _ fun H1 e1 => ⟨.inl ⟨rfl, xs, sq_of (e1 _ _ hp)⟩, hv H1 e1 _ fun H2 e2 => ?_⟩
  exact ⟨p, q, xs, zs, rfl, rfl, e2 _ _ (e1 _ _ hp), e2 _ _ (e1 _ _ hz), by rw [sizeLine_eq]; exact hl, k _ ((Ex.b (e1.trans e2)).trans ExB.upd) upd_same⟩
end
variable {K : PySem.W.Frag} {A : Ad} {mg : Str → Option Value} {vs : List V} {H : Hp} {Q : VK} {E : XK}
theorem len_Desk_early (h : sp_Desk_early K A vs H Q E) : vs.length = 3 := by obtain ⟨_, _, _, _, _, _, rfl, _⟩ := h; rfl
theorem pure_Desk_early (T : Txt K mg A) (h : sp_Desk_early K A vs H Q E) : t_Desk_early K A E (DE Q) (start ["self", "place", "given"] vs) H := by
  obtain ⟨u, d, g, D, p, f, rfl, hu, hD, p1, p2, hg, ok, q⟩ := h
  refine b_when (et_eq (i := p) (ev_var rfl) ev_c) (Ex.refl H) (fun b H1 e1 => ?_) fun b H1 e1 => ?_
  · have b := of_decide_eq_true b
    subst b
    exact b_retOp (ev_var rfl) (ev_var rfl) hu hD hg ok e1 q (by decide +kernel) (by decide +kernel)
  have b2 := of_decide_eq_false b
  refine b_when (et_eq (i := p) (ev_var rfl) ev_c) e1 (fun b H1 e1 => ?_) fun b H1 e1 => ?_
  · have b := of_decide_eq_true b
    subst b
    exact b_retOp (ev_var rfl) (ev_var rfl) hu hD hg ok e1 q (by decide +kernel) (by decide +kernel)
  have b3 := of_decide_eq_false b
  refine b_when (et_eq (i := p) (ev_var rfl) ev_c) e1 (fun b H1 e1 => ?_) fun b H1 e1 => ?_
  · have b := of_decide_eq_true b
    subst b
    exact b_retOp (ev_var rfl) (ev_var rfl) hu hD hg ok e1 q (by decide +kernel) (by decide +kernel)
  have b4 := of_decide_eq_false b
  refine b_when (et_eq (i := p) (ev_var rfl) ev_c) e1 (fun b H1 e1 => ?_) fun b H1 e1 => ?_
  · have b := of_decide_eq_true b
    subst b
    exact b_retOp (ev_var rfl) (ev_var rfl) hu hD hg ok e1 q (by decide +kernel) (by decide +kernel)
  have b5 := of_decide_eq_false b
  refine b_when (et_eq (i := p) (ev_var rfl) ev_c) e1 (fun b H1 e1 => ?_) fun b H1 e1 => ?_
  · have b := of_decide_eq_true b
    subst b
    exact b_retOp (ev_var rfl) (ev_var rfl) hu hD hg ok e1 q (by decide +kernel) (by decide +kernel)
  have b6 := of_decide_eq_false b
  refine b_when (et_eq (i := p) (ev_var rfl) ev_c) e1 (fun b H1 e1 => ?_) fun b H1 e1 => ?_
  · have b := of_decide_eq_true b
    subst b
    exact b_retOp (ev_var rfl) (ev_var rfl) hu hD hg ok e1 q (by decide +kernel) (by decide +kernel)
  have b7 := of_decide_eq_false b
  refine b_retIf (et_eq (i := p) (ev_var rfl) ev_c) e1 (fun b H1 e1 => ?_) fun b H1 e1 => ?_
  · have b := of_decide_eq_true b
    subst b
    exact b_retOp (ev_var rfl) (ev_var rfl) hu hD hg ok e1 q (by decide +kernel) (by decide +kernel)
  · have b8 := of_decide_eq_false b
    have b9 : p = 9 := by omega
    subst b9
    exact b_retOp (ev_var rfl) (ev_var rfl) hu hD hg ok e1 q (by decide +kernel) (by decide +kernel)
theorem len_Desk_later (h : sp_Desk_later K A vs H Q E) : vs.length = 3 := by obtain ⟨_, _, _, _, _, _, rfl, _⟩ := h; rfl
theorem pure_Desk_later (T : Txt K mg A) (h : sp_Desk_later K A vs H Q E) : t_Desk_later K A E (DE Q) (start ["self", "place", "given"] vs) H := by
  obtain ⟨u, d, g, D, p, f, rfl, hu, hD, p1, p2, hg, ok, q⟩ := h
  refine b_when (et_eq (i := p) (ev_var rfl) ev_c) (Ex.refl H) (fun b H1 e1 => ?_) fun b H1 e1 => ?_
  · have b := of_decide_eq_true b
    subst b
    exact b_retOp (ev_var rfl) (ev_var rfl) hu hD hg ok e1 q (by decide +kernel) (by decide +kernel)
  have b2 := of_decide_eq_false b
  refine b_when (et_eq (i := p) (ev_var rfl) ev_c) e1 (fun b H1 e1 => ?_) fun b H1 e1 => ?_
  · have b := of_decide_eq_true b
    subst b
    exact b_retOp (ev_var rfl) (ev_var rfl) hu hD hg ok e1 q (by decide +kernel) (by decide +kernel)
  have b3 := of_decide_eq_false b
  refine b_when (et_eq (i := p) (ev_var rfl) ev_c) e1 (fun b H1 e1 => ?_) fun b H1 e1 => ?_
  · have b := of_decide_eq_true b
    subst b
    exact b_retOp (ev_var rfl) (ev_var rfl) hu hD hg ok e1 q (by decide +kernel) (by decide +kernel)
  have b4 := of_decide_eq_false b
  refine b_when (et_eq (i := p) (ev_var rfl) ev_c) e1 (fun b H1 e1 => ?_) fun b H1 e1 => ?_
  · have b := of_decide_eq_true b
    subst b
    exact b_retOp (ev_var rfl) (ev_var rfl) hu hD hg ok e1 q (by decide +kernel) (by decide +kernel)
  have b5 := of_decide_eq_false b
  refine b_when (et_eq (i := p) (ev_var rfl) ev_c) e1 (fun b H1 e1 => ?_) fun b H1 e1 => ?_
  · have b := of_decide_eq_true b
    subst b
    exact b_retOp0 (ev_var rfl) hu hD e1 q (by decide +kernel) (by decide +kernel)
  have b6 := of_decide_eq_false b
  refine b_when (et_eq (i := p) (ev_var rfl) ev_c) e1 (fun b H1 e1 => ?_) fun b H1 e1 => ?_
  · have b := of_decide_eq_true b
    subst b
    exact b_retOp0 (ev_var rfl) hu hD e1 q (by decide +kernel) (by decide +kernel)
  have b7 := of_decide_eq_false b
  refine b_when (et_eq (i := p) (ev_var rfl) ev_c) e1 (fun b H1 e1 => ?_) fun b H1 e1 => ?_
  · have b := of_decide_eq_true b
    subst b
    exact b_retOp (ev_var rfl) (ev_var rfl) hu hD hg ok e1 q (by decide +kernel) (by decide +kernel)
  have b8 := of_decide_eq_false b
  refine b_retIf (et_eq (i := p) (ev_var rfl) ev_c) e1 (fun b H1 e1 => ?_) fun b H1 e1 => ?_
  · have b := of_decide_eq_true b
    subst b
    exact b_retOp0 (ev_var rfl) hu hD e1 q (by decide +kernel) (by decide +kernel)
  · have b9 := of_decide_eq_false b
    have b10 : p = 18 := by omega
    subst b10
    exact b_retOp0 (ev_var rfl) hu hD e1 q (by decide +kernel) (by decide +kernel)
theorem len_Desk_answer (h : sp_Desk_answer K A vs H Q E) : vs.length = 3 := by obtain ⟨_, _, _, _, _, _, rfl, _⟩ := h; rfl
theorem pure_Desk_answer (T : Txt K mg A) (h : sp_Desk_answer K A vs H Q E) : t_Desk_answer K A (DE Q) (start ["self", "place", "given", "refused"] vs) H := by
  obtain ⟨u, d, g, st, p, f, rfl, hu, hD, p1, p2, hg, ok, q⟩ := h
  obtain ⟨du, dx, z, k, hd⟩ := hD.obj
  refine b_when (et_eq (i := p) (ev_var rfl) ev_c) (Ex.refl H) (fun b H1 e1 => ?_) fun b H1 e1 => ?_
  · have b := of_decide_eq_true b
    subst b
    refine b_retMT (ev_var rfl) hd (lk_dk (by decide +kernel) (by decide +kernel)) (ea_two (ev_giv 0 (ev_var rfl) ev_c hg (by decide)) (ev_giv 1 (ev_var rfl) ev_c hg (by decide))) e1 fun H3 e => ?_
    refine ⟨u, d, st, f 0, f 1, rfl, hu.ex e, hD.mono e, fun h => ?_, fun h => ?_⟩
    · rw [rAns_open (f := f) h] at q
      exact q.mono e
    · rw [rAns_open0 (f := f) h] at q
      exact (fail_caught T fun p H' hp e h => q p H' hp (Ex.b e) (hD.mono e) h).mono e
  · have b := of_decide_eq_false b
    cases st with
    | none =>
      rw [rAns_none b] at q
      obtain ⟨dx', z', k', hd', hz', hk'⟩ := hD.o
      refine b_needS (b := false) (c := -7) (ev_neE (xs := []) (ev_sizes T (ev_var rfl) hd') (sq_of hz')) ev_c e1 (fun h => Bool.noConfusion h) fun _ => ?_
      exact fail_caught T fun p H' hp e h => q p H' hp (Ex.b e) (hD.mono e) h
    | some D =>
      obtain ⟨dx', z', k', sz', hd', hz', _⟩ := hD.o
      refine b_needS (b := true) (c := -7) (ev_neE (xs := [.ref sz']) (ev_sizes T (ev_var rfl) hd') (sq_of hz')) ev_c e1 (fun _ H2 e2 => ?_) fun h => Bool.noConfusion h
      refine b_retIf (et_lt (i := p) (j := 10) (ev_var rfl) ev_c) e2 (fun c H3 e3 => ?_) fun c H3 e3 => ?_
      · have c := of_decide_eq_true c
        refine b_retMT (ev_var rfl) hd (lk_dk (by decide +kernel) (by decide +kernel)) (ea_two (ev_var rfl) (ev_var rfl)) e3 fun H4 e => ?_
        exact ⟨u, d, g, D, p, f, rfl, hu.ex e, hD.mono e, by omega, by omega, e _ _ hg, ok, (out_caught T hD (fun D' a h => by rw [rAns_ok b (by rw [if_pos c]; exact h)] at q; exact q) fun c' h => by rw [rAns_err b (by rw [if_pos c]; exact h)] at q; exact q).mono e⟩
      · have c := of_decide_eq_false c
        refine b_retMT (ev_var rfl) hd (lk_dk (by decide +kernel) (by decide +kernel)) (ea_two (ev_var rfl) (ev_var rfl)) e3 fun H4 e => ?_
        exact ⟨u, d, g, D, p, f, rfl, hu.ex e, hD.mono e, by omega, by omega, e _ _ hg, ok, (out_caught T hD (fun D' a h => by rw [rAns_ok b (by rw [if_neg c]; exact h)] at q; exact q) fun c' h => by rw [rAns_err b (by rw [if_neg c]; exact h)] at q; exact q).mono e⟩
end GT
end
section
set_option Elab.async false
set_option linter.all false
set_option maxRecDepth 100000
set_option maxHeartbeats 2000000
/-! all calls -/
namespace GT
open PySem PySem.Spec PyProof.Rows L2
open Evl (Ex Ev EvL EvU EvT EvA EvO RV RU RC ev_var ev_c ev_op ev_un et_test et_B et_not ev_if ea_nil ea_cons eo_none eo_some ev_cb fresh_back sq_of st_of ev_andV)
section
variable {K : PySem.W.Frag} {A : Ad} {mg : Str → Option Value} {σ : L2.St} {H H1 H2 H' : Hp} {D : Ends} {tz : TS} {i j l : Nat}
theorem DeskO.monoB {p d : Addr} {st : Option Dk} (h : DeskAt A p H d st) (e : ExB p H H2) : DeskAt A p H2 d st := DeskO.mono h fun b o q => let ⟨n, g⟩ := del_in q; del_of n (e b o n g)
theorem b_begin (e : Ex H H1) (k : ∀ d p H2, p ≠ d → H p = none → H d = none → Ex H H2 → DeskAt A p H2 d none → H2 p = some (.lst []) → tz D (((σ.set i (some (.ref d))).set j (some (.int 0))).set l (some (.ref p))) H2) :
    tSeq (tPar3 i j l (tCons (tMake A.CD (sp_Desk___init__ K A) [] E0 tNil) (tCons (tC (.int 0)) (tCons (tLst tNil) tNil)))) tz D σ H1 := by
  show tCons (tMake A.CD (sp_Desk___init__ K A) [] E0 tNil) (tCons (tC (.int 0)) (tCons (tLst tNil) tNil)) σ H1 fun vs H2 => ∃ u v w, vs = [u, v, w] ∧ tz D (((σ.set i (some u)).set j (some v)).set l (some w)) H2
  intro x dx hx hd ne
  refine ⟨x, dx, rfl, upd_same, fun H3 hD eb => ⟨rfl, ?_⟩⟩
  have e3 : Ex H1 H3 := fun b o hb => eb b o (ne_of_none hb hx) (by rw [upd_ne (ne_of_none hb hx), upd_ne (ne_of_none hb hd)]; exact hb)
  have ho : ∃ o, H3 x = some o := let ⟨_, _, _, h, _⟩ := hD; ⟨_, h⟩
  show tLst tNil σ H3 fun y H4 => ∃ u v w, ([.ref x, .int 0, y] : List V) = [u, v, w] ∧ tz D (((σ.set i (some u)).set j (some v)).set l (some w)) H4
  refine (el_nil : EvL (tLst tNil) σ H3 []) H3 (Ex.refl H3) _ fun p H4 hp e4 h4 => ⟨_, _, _, rfl, ?_⟩
  have npx : p ≠ x := fun z => by
    obtain ⟨o, q⟩ := ho
    rw [← z, hp] at q
    cases q
  refine k x p H4 npx (fresh_back (e.trans e3) hp) (fresh_back e hx) (e.trans (e3.trans e4)) (DeskO.mono hD fun b o hb => ?_) h4
  exact del_of (ne_of_none hb hp) (e4 b o hb)
theorem b_asgM {sp : Sp} {C dx d : Addr} {fs : List (Str × V)} {m : Str} {te t2 ta : TE} {v : V} {xs : List V} {E : XK} (ho : Ev ta σ H (.ref d)) (hI : H d = some (.ins C dx fs)) (hm : fs.lookup m = none) (h1 : Ev te σ H v) (h2 : EvL t2 σ H xs) (e : Ex H H1)
    (k : ∀ g H2, Ex H H2 → H2 g = some (.lst xs) → sp [.ref d, v, .ref g] H2 (fun w H3 => tz D (σ.set i (some w)) H3) E) : tSeq (tAsg (tMeth C m sp [] E ta (tCons te (tCons t2 tNil))) (gName i)) tz D σ H1 :=
  ho H1 e _ fun H2 e2 => ⟨d, dx, fs, rfl, e2 _ _ (e _ _ hI), hm, h1 H2 (e.trans e2) _ fun H3 e3 => h2 H3 (e.trans (e2.trans e3)) _ fun g H4 _ e4 h4 => k g H4 (e.trans (e2.trans (e3.trans e4))) h4⟩
end
variable {K : PySem.W.Frag} {A : Ad} {mg : Str → Option Value} {vs : List V} {H : Hp} {Q : VK} {E : XK}
theorem len_answers (h : sp_answers K A vs H Q E) : vs.length = 1 := by obtain ⟨_, _, rfl, _⟩ := h; rfl
theorem giv_all : ∀ j : Nat, j < 19 → atI GIVENs (j : Int) = some (.int ((many (j : Int) : Nat) : Int)) := by decide
theorem giv_at {p : Int} (h1 : 1 ≤ p) (h2 : p ≤ 18) : atI GIVENs p = some (.int ((many p : Nat) : Int)) := by
  have h := giv_all p.toNat (by omega)
  rw [Int.toNat_of_nonneg (by omega)] at h
  exact h
theorem cut_ns {ns r : List Int} {at_ m : Nat} (hr : ns.drop (at_ + 1) = r) (hm : m ≤ r.length) : cutV (ns.map V.int) (some ((at_ : Int) + 1)) (some ((at_ : Int) + 1 + (m : Int))) = chV m (tab r) := by
  have hl : (ns.map V.int).length = ns.length := by simp
  have rl : r.length = ns.length - (at_ + 1) := by rw [← hr, List.length_drop]
  unfold cutV
  rw [show ((at_ : Int) + 1) = ((at_ + 1 : Nat) : Int) by omega, show (((at_ + 1 : Nat) : Int) + (m : Int)) = ((at_ + 1 + m : Nat) : Int) by omega, HT.sIx_nat, HT.sIx_nat, hl, Nat.min_def, Nat.min_def]
  by_cases hz : m = 0
  · subst hz
    simp [chV]
  · rw [if_pos (by omega), if_pos (by omega), show at_ + 1 + m - (at_ + 1) = m by omega, ← List.map_drop, hr]
    refine chV_of (by simp; omega) fun i v hv => ?_
    rw [List.getElem?_take] at hv
    split at hv
    · rw [List.getElem?_map] at hv
      unfold tab
      rw [List.getD_eq_getElem?_getD]
      cases hx : r[i]? with
      | none => rw [hx] at hv; cases hv
      | some y =>
        rw [hx] at hv
        cases hv
        rfl
    · cases hv
theorem pure_answers (T : Txt K mg A) (h : sp_answers K A vs H Q E) : t_answers K A (DE Q) (start ["calls", "desk", "at", "found", "many", "answer"] vs) H := by
  obtain ⟨a, ns, rfl, hsq, hn, hok, hlen, q⟩ := h
  refine b_begin (Ex.refl H) fun d p H1 npd hp hd e1 hD1 hp1 => ?_
  refine ⟨fun m σ' H' => ∃ (at_ : Nat) (acc : List Int) (st : Option Dk) (o4 o5 : Option V) (n : Nat), σ' = [some (.ref a), some (.ref d), some (.int (at_ : Int)), some (.ref p), o4, o5] ∧ m = ns.length - at_ ∧ Ex H H' ∧ DeskAt A p H' d st ∧ H' p = some (.lst (acc.map V.int)) ∧ mOk n (ns.drop at_) ∧ acc ++ mAll n st (ns.drop at_) = mAll ns.length none ns, ⟨ns.length - 0, 0, [], none, none, none, ns.length, rfl, rfl, e1, hD1, hp1, hok, rfl⟩, fun m σ' H' w => ?_⟩
  obtain ⟨at_, acc, st, o4, o5, n, rfl, rfl, e, hD, hpa, ok, tot⟩ := w
  have hsq2 := Evl.ex_l e hsq
  refine (et_lt (i := (at_ : Int)) (j := ((ns.map V.int).length : Int)) (ev_var rfl) (Evl.ev_len (ev_var rfl) hsq2)) H' (Ex.refl H') _ fun H2 e2 => ?_
  by_cases hat : at_ < ns.length
  · rw [if_pos (decide_eq_true (by simp; exact hat))]
    have hp2 := e2 _ _ hpa
    have hD2 := hD.mono e2
    have e := e.trans e2
    have hsq2 := Evl.ex_l e hsq
    have hcons : ns.drop at_ = ns[at_] :: ns.drop (at_ + 1) := List.drop_eq_getElem_cons hat
    generalize hr : ns.drop (at_ + 1) = r at hcons
    generalize hpl : ns[at_] = pl at hcons
    have hget : (ns.map V.int)[at_]? = some (.int pl) := by rw [List.getElem?_map, List.getElem?_eq_getElem hat, hpl]; rfl
    rw [hcons] at ok tot
    cases n with
    | zero => exact ok.elim
    | succ n =>
      obtain ⟨p1, p2, hm, ao, ok2⟩ := ok
      have tot2 : acc ++ (((rAns st pl (tab r)).2.length : Int) :: (rAns st pl (tab r)).2 ++ mAll n (rAns st pl (tab r)).1 (r.drop (many pl))) = mAll ns.length none ns := tot
      have tl : acc.length + (1 + (rAns st pl (tab r)).2.length) ≤ 16000000 := by
        have := congrArg List.length tot2
        simp at this
        omega
      refine ⟨fun σ3 H3 => ∃ m', m' < ns.length - at_ ∧ ∃ (at_ : Nat) (acc : List Int) (st : Option Dk) (o4 o5 : Option V) (n : Nat), σ3 = [some (.ref a), some (.ref d), some (.int (at_ : Int)), some (.ref p), o4, o5] ∧ m' = ns.length - at_ ∧ Ex H H3 ∧ DeskAt A p H3 d st ∧ H3 p = some (.lst (acc.map V.int)) ∧ mOk n (ns.drop at_) ∧ acc ++ mAll n st (ns.drop at_) = mAll ns.length none ns, fun σ3 H3 w => w, ?_⟩
      refine b_asg (v := .int ((many pl : Nat) : Int)) (ev_ixT ev_c (ev_op (ev_var rfl) (ev_var rfl) (Evl.rv_ixL hsq2 (atI_nat hget))) (T.tGIVEN H2) (giv_at p1 p2)) (Ex.refl H2) fun H3 e3 => ?_
      have hD3 := hD2.mono e3
      have hsq3 := Evl.ex_l e3 hsq2
      obtain ⟨du, dx, z, k, hdo⟩ := hD3.obj
      -- the answer
      have sl : EvL (tSl (rSlL K) (tVar 0) (tPart (tOp oAdd (tVar 2) (tC (.int 1)))) (tPart (tOp oAdd (tOp oAdd (tVar 2) (tC (.int 1))) (tVar 4)))) [some (.ref a), some (.ref d), some (.int (at_ : Int)), some (.ref p), some (.int ((many pl : Nat) : Int)), o5] H3 (cutV (ns.map V.int) (some ((at_ : Int) + 1)) (some ((at_ : Int) + 1 + ((many pl : Nat) : Int)))) := Evl.el_sl (ev_var rfl) (eo_some (ev_op (ev_var rfl) ev_c rv_add)) (eo_some (ev_op (ev_op (ev_var rfl) ev_c rv_add) (ev_var rfl) rv_add)) hsq3
      rw [cut_ns hr hm] at sl
      refine b_asgM (ev_var rfl) hdo (lk_dk (by decide +kernel) (by decide +kernel)) (ev_op (ev_var rfl) (ev_var rfl) (Evl.rv_ixL hsq3 (atI_nat hget))) sl (Ex.refl H3) fun g H6 e36 hg6 => ?_
      have e06 := e.trans (e3.trans e36)
      have hp6 := e36 _ _ (e3 _ _ hp2)
      refine ⟨p, d, g, st, pl, tab r, rfl, ⟨_, hp6⟩, hD3.mono e36, p1, p2, hg6, ao, fun b H7 hb eb hD7 hb7 => ?_⟩
      have e07 : Ex H H7 := fun c o hc => eb c o (ne_of_none hc hd) (e06 c o hc)
      have hp7 := eb p _ npd hp6
      have nbp : b ≠ p := fun z => by rw [z, hp6] at hb; cases hb
      refine b_asg (v := .int (((at_ + 1 + many pl : Nat)) : Int)) (ev_eq (ev_op (ev_op (ev_var rfl) ev_c rv_add) (ev_var rfl) rv_add) (by push_cast; rfl)) (Ex.refl H7) fun H8 e8 => ?_
      refine b_app (v := .int (((rAns st pl (tab r)).2.map V.int).length : Int)) (e8 _ _ hp7) (ev_var rfl) (Evl.ev_len (ev_var rfl) (sq_of (e8 _ _ hb7))) (by simp; omega) fun H9 e9 h9 => ?_
      refine s_extN h9 (e9 b _ nbp (e8 _ _ hb7)) (ev_var rfl) (ev_var rfl) (by simp; omega) fun H10 e10 h10 => ?_
      have ex : ExB p H8 H10 := e9.trans e10
      refine ⟨ns.length - (at_ + 1 + many pl), by omega, at_ + 1 + many pl, acc ++ [((rAns st pl (tab r)).2.length : Int)] ++ (rAns st pl (tab r)).2, (rAns st pl (tab r)).1, _, _, n, rfl, rfl, fun c o hc => ex c o (ne_of_none hc hp) (e8 c o (e07 c o hc)), DeskO.monoB (hD7.mono e8) ex, ?_, ?_, ?_⟩
      · rw [h10]
        simp
      · rw [← List.drop_drop, hr]
        exact ok2
      · rw [← List.drop_drop, hr, ← tot2]
        simp
  · rw [if_neg (by simp; omega)]
    have hnil : ns.drop at_ = [] := List.drop_eq_nil_of_le (by omega)
    rw [hnil, mAll_nil, List.append_nil] at tot
    subst tot
    exact b_ret (ev_var rfl) (Ex.refl H2) fun H3 e3 => q p H3 (e.trans (e2.trans e3)) (e3 _ _ (e2 _ _ hpa))
end GT
end
section
set_option Elab.async false
set_option linter.all false
set_option maxRecDepth 100000
set_option maxHeartbeats 2000000
/-! every def keeps its promise -/
namespace GT
open PySem PySem.Spec PyProof.Rows L2
section
variable {P : Program} {w : World} {K : PySem.W.Frag} {mg : Str → Option Value} {base : Heap} {A : Ad}
theorem ok_clamped (T : Txt K mg A)  {f : Addr} {fd : FuncData} (F : Fun K "clamped" "clamped" s_clamped f fd) : FnOk P w K mg base CX0 1 f fd ["value"] (sp_clamped K A) :=
  Fun.ok F sc_clamped (fun vs H Q E h => len_clamped h) (fun cdv B outer s H vs Q E hr h => ⟨t_clamped K A, has_clamped T  hr, pure_clamped T h⟩)
theorem ok_nearest (T : Txt K mg A)  {f : Addr} {fd : FuncData} (F : Fun K "nearest" "nearest" s_nearest f fd) : FnOk P w K mg base CX0 1 f fd ["top", "bottom"] (sp_nearest K A) :=
  Fun.ok F sc_nearest (fun vs H Q E h => len_nearest h) (fun cdv B outer s H vs Q E hr h => ⟨t_nearest K A, has_nearest T  hr, pure_nearest T h⟩)
theorem ok_power_of_two (T : Txt K mg A)  {f : Addr} {fd : FuncData} (F : Fun K "power_of_two" "power_of_two" s_power_of_two f fd) : FnOk P w K mg base CX0 1 f fd ["many"] (sp_power_of_two K A) :=
  Fun.ok F sc_power_of_two (fun vs H Q E h => len_power_of_two h) (fun cdv B outer s H vs Q E hr h => ⟨t_power_of_two K A, has_power_of_two T  hr, pure_power_of_two T h⟩)
theorem ok_Size___init__ (T : Txt K mg A)  {f : Addr} {fd : FuncData} (F : Fun K "__init__" "Size.__init__" s_Size___init__ f fd) : FnOk P w K mg base CX0 1 f fd ["self", "width", "height"] (sp_Size___init__ K A) :=
  Fun.ok F sc_Size___init__ (fun vs H Q E h => len_Size___init__ h) (fun cdv B outer s H vs Q E hr h => ⟨t_Size___init__ K A, has_Size___init__ T  hr, pure_Size___init__ T h⟩)
theorem ok_Size_spots (T : Txt K mg A)  {f : Addr} {fd : FuncData} (F : Fun K "spots" "Size.spots" s_Size_spots f fd) : FnOk P w K mg base CX0 1 f fd ["self"] (sp_Size_spots K A) :=
  Fun.ok F sc_Size_spots (fun vs H Q E h => len_Size_spots h) (fun cdv B outer s H vs Q E hr h => ⟨t_Size_spots K A, has_Size_spots T  hr, pure_Size_spots T h⟩)
theorem ok_Size_value (T : Txt K mg A)  {f : Addr} {fd : FuncData} (F : Fun K "value" "Size.value" s_Size_value f fd) : FnOk P w K mg base CX0 1 f fd ["self", "channel", "x", "y"] (sp_Size_value K A) :=
  Fun.ok F sc_Size_value (fun vs H Q E h => len_Size_value h) (fun cdv B outer s H vs Q E hr h => ⟨t_Size_value K A, has_Size_value T  hr, pure_Size_value T h⟩)
theorem ok_Size_sample (T : Txt K mg A) (h_Size_value : HvM P w K mg base CX0 1 A.CS "value" ["self", "channel", "x", "y"] (sp_Size_value K A)) {f : Addr} {fd : FuncData} (F : Fun K "sample" "Size.sample" s_Size_sample f fd) : FnOk P w K mg base CX0 2 f fd ["self", "channel", "x", "y"] (sp_Size_sample K A) :=
  Fun.ok F sc_Size_sample (fun vs H Q E h => len_Size_sample h) (fun cdv B outer s H vs Q E hr h => ⟨t_Size_sample K A, has_Size_sample T h_Size_value hr, pure_Size_sample T h⟩)
theorem ok_flat (T : Txt K mg A)  {f : Addr} {fd : FuncData} (F : Fun K "flat" "flat" s_flat f fd) : FnOk P w K mg base CX0 1 f fd ["size", "colour"] (sp_flat K A) :=
  Fun.ok F sc_flat (fun vs H Q E h => len_flat h) (fun cdv B outer s H vs Q E hr h => ⟨t_flat K A, has_flat T  hr, pure_flat T h⟩)
theorem ok_dithered (T : Txt K mg A) (h_power_of_two : HvF P w K mg base CX0 1 "power_of_two" ["many"] (sp_power_of_two K A)) {f : Addr} {fd : FuncData} (F : Fun K "dithered" "dithered" s_dithered f fd) : FnOk P w K mg base CX0 2 f fd ["value", "bits", "x", "y"] (sp_dithered K A) :=
  Fun.ok F sc_dithered (fun vs H Q E h => len_dithered h) (fun cdv B outer s H vs Q E hr h => ⟨t_dithered K A, has_dithered T h_power_of_two hr, pure_dithered T h⟩)
theorem ok_strength_at (T : Txt K mg A)  {f : Addr} {fd : FuncData} (F : Fun K "strength_at" "strength_at" s_strength_at f fd) : FnOk P w K mg base CX0 1 f fd ["size", "spot", "middle", "radii", "many"] (sp_strength_at K A) :=
  Fun.ok F sc_strength_at (fun vs H Q E h => len_strength_at h) (fun cdv B outer s H vs Q E hr h => ⟨t_strength_at K A, has_strength_at T  hr, pure_strength_at T h⟩)
theorem ok_glow (T : Txt K mg A) (h_Size_spots : HvM P w K mg base CX0 1 A.CS "spots" ["self"] (sp_Size_spots K A)) (h_strength_at : HvF P w K mg base CX0 1 "strength_at" ["size", "spot", "middle", "radii", "many"] (sp_strength_at K A)) {f : Addr} {fd : FuncData} (F : Fun K "glow" "glow" s_glow f fd) : FnOk P w K mg base CX0 2 f fd ["size", "picture", "middle", "radii", "many", "colour"] (sp_glow K A) :=
  Fun.ok F sc_glow (fun vs H Q E h => len_glow h) (fun cdv B outer s H vs Q E hr h => ⟨t_glow K A, has_glow T h_Size_spots h_strength_at hr, pure_glow T h⟩)
theorem ok_box (T : Txt K mg A) (h_Size_spots : HvM P w K mg base CX0 1 A.CS "spots" ["self"] (sp_Size_spots K A)) {f : Addr} {fd : FuncData} (F : Fun K "box" "box" s_box f fd) : FnOk P w K mg base CX0 2 f fd ["size", "picture", "corner", "sides", "colour"] (sp_box K A) :=
  Fun.ok F sc_box (fun vs H Q E h => len_box h) (fun cdv B outer s H vs Q E hr h => ⟨t_box K A, has_box T h_Size_spots hr, pure_box T h⟩)
theorem ok_blurred_row (T : Txt K mg A)  {f : Addr} {fd : FuncData} (F : Fun K "blurred_row" "blurred_row" s_blurred_row f fd) : FnOk P w K mg base CX0 1 f fd ["row", "radius"] (sp_blurred_row K A) :=
  Fun.ok F sc_blurred_row (fun vs H Q E h => len_blurred_row h) (fun cdv B outer s H vs Q E hr h => ⟨t_blurred_row K A, has_blurred_row T  hr, pure_blurred_row T h⟩)
theorem ok_turned_over (T : Txt K mg A)  {f : Addr} {fd : FuncData} (F : Fun K "turned_over" "turned_over" s_turned_over f fd) : FnOk P w K mg base CX0 1 f fd ["channel", "width", "height"] (sp_turned_over K A) :=
  Fun.ok F sc_turned_over (fun vs H Q E h => len_turned_over h) (fun cdv B outer s H vs Q E hr h => ⟨t_turned_over K A, has_turned_over T  hr, pure_turned_over T h⟩)
theorem ok_blurred_rows (T : Txt K mg A) (h_blurred_row : HvF P w K mg base CX0 1 "blurred_row" ["row", "radius"] (sp_blurred_row K A)) {f : Addr} {fd : FuncData} (F : Fun K "blurred_rows" "blurred_rows" s_blurred_rows f fd) : FnOk P w K mg base CX0 2 f fd ["channel", "width", "radius"] (sp_blurred_rows K A) :=
  Fun.ok F sc_blurred_rows (fun vs H Q E h => len_blurred_rows h) (fun cdv B outer s H vs Q E hr h => ⟨t_blurred_rows K A, has_blurred_rows T h_blurred_row hr, pure_blurred_rows T h⟩)
theorem ok_blurred (T : Txt K mg A) (h_blurred_rows : HvF P w K mg base CX0 2 "blurred_rows" ["channel", "width", "radius"] (sp_blurred_rows K A)) (h_turned_over : HvF P w K mg base CX0 1 "turned_over" ["channel", "width", "height"] (sp_turned_over K A)) {f : Addr} {fd : FuncData} (F : Fun K "blurred" "blurred" s_blurred f fd) : FnOk P w K mg base CX0 3 f fd ["size", "channel", "across", "down"] (sp_blurred K A) :=
  Fun.ok F sc_blurred (fun vs H Q E h => len_blurred h) (fun cdv B outer s H vs Q E hr h => ⟨t_blurred K A, has_blurred T h_blurred_rows h_turned_over hr, pure_blurred T h⟩)
theorem ok_blur (T : Txt K mg A) (h_blurred : HvF P w K mg base CX0 3 "blurred" ["size", "channel", "across", "down"] (sp_blurred K A)) {f : Addr} {fd : FuncData} (F : Fun K "blur" "blur" s_blur f fd) : FnOk P w K mg base CX0 4 f fd ["size", "picture", "across", "down", "many"] (sp_blur K A) :=
  Fun.ok F sc_blur (fun vs H Q E h => len_blur h) (fun cdv B outer s H vs Q E hr h => ⟨t_blur K A, has_blur T h_blurred hr, pure_blur T h⟩)
theorem ok_turn (T : Txt K mg A) (h_Size_spots : HvM P w K mg base CX0 1 A.CS "spots" ["self"] (sp_Size_spots K A)) (h_sampled : HvF P w K mg base CX0 3 "sampled" ["size", "picture", "places"] (sp_sampled K A)) {f : Addr} {fd : FuncData} (F : Fun K "turn" "turn" s_turn f fd) : FnOk P w K mg base CX0 4 f fd ["size", "picture", "c", "s"] (sp_turn K A) :=
  Fun.ok F sc_turn (fun vs H Q E h => len_turn h) (fun cdv B outer s H vs Q E hr h => ⟨t_turn K A, has_turn T h_Size_spots h_sampled hr, pure_turn T h⟩)
theorem ok_sampled (T : Txt K mg A) (h_Size_sample : HvM P w K mg base CX0 2 A.CS "sample" ["self", "channel", "x", "y"] (sp_Size_sample K A)) {f : Addr} {fd : FuncData} (F : Fun K "sampled" "sampled" s_sampled f fd) : FnOk P w K mg base CX0 3 f fd ["size", "picture", "places"] (sp_sampled K A) :=
  Fun.ok F sc_sampled (fun vs H Q E h => len_sampled h) (fun cdv B outer s H vs Q E hr h => ⟨t_sampled K A, has_sampled T h_Size_sample hr, pure_sampled T h⟩)
theorem ok_bend (T : Txt K mg A) (h_Size_spots : HvM P w K mg base CX0 1 A.CS "spots" ["self"] (sp_Size_spots K A)) (h_sampled : HvF P w K mg base CX0 3 "sampled" ["size", "picture", "places"] (sp_sampled K A)) {f : Addr} {fd : FuncData} (F : Fun K "bend" "bend" s_bend f fd) : FnOk P w K mg base CX0 4 f fd ["size", "picture", "top", "many"] (sp_bend K A) :=
  Fun.ok F sc_bend (fun vs H Q E h => len_bend h) (fun cdv B outer s H vs Q E hr h => ⟨t_bend K A, has_bend T h_Size_spots h_sampled hr, pure_bend T h⟩)
theorem ok_levelled (T : Txt K mg A) (h_nearest : HvF P w K mg base CX0 1 "nearest" ["top", "bottom"] (sp_nearest K A)) {f : Addr} {fd : FuncData} (F : Fun K "levelled" "levelled" s_levelled f fd) : FnOk P w K mg base CX0 2 f fd ["value", "low", "high"] (sp_levelled K A) :=
  Fun.ok F sc_levelled (fun vs H Q E h => len_levelled h) (fun cdv B outer s H vs Q E hr h => ⟨t_levelled K A, has_levelled T h_nearest hr, pure_levelled T h⟩)
theorem ok_levels (T : Txt K mg A) (h_levelled : HvF P w K mg base CX0 2 "levelled" ["value", "low", "high"] (sp_levelled K A)) {f : Addr} {fd : FuncData} (F : Fun K "levels" "levels" s_levels f fd) : FnOk P w K mg base CX0 3 f fd ["picture", "low", "high"] (sp_levels K A) :=
  Fun.ok F sc_levels (fun vs H Q E h => len_levels h) (fun cdv B outer s H vs Q E hr h => ⟨t_levels K A, has_levels T h_levelled hr, pure_levels T h⟩)
theorem ok_coloured (T : Txt K mg A) (h_clamped : HvF P w K mg base CX0 1 "clamped" ["value"] (sp_clamped K A)) {f : Addr} {fd : FuncData} (F : Fun K "coloured" "coloured" s_coloured f fd) : FnOk P w K mg base CX0 2 f fd ["picture", "row"] (sp_coloured K A) :=
  Fun.ok F sc_coloured (fun vs H Q E h => len_coloured h) (fun cdv B outer s H vs Q E hr h => ⟨t_coloured K A, has_coloured T h_clamped hr, pure_coloured T h⟩)
theorem ok_recoloured (T : Txt K mg A) (h_coloured : HvF P w K mg base CX0 2 "coloured" ["picture", "row"] (sp_coloured K A)) {f : Addr} {fd : FuncData} (F : Fun K "recoloured" "recoloured" s_recoloured f fd) : FnOk P w K mg base CX0 3 f fd ["picture", "matrix"] (sp_recoloured K A) :=
  Fun.ok F sc_recoloured (fun vs H Q E h => len_recoloured h) (fun cdv B outer s H vs Q E hr h => ⟨t_recoloured K A, has_recoloured T h_coloured hr, pure_recoloured T h⟩)
theorem ok_light (T : Txt K mg A) (h_Size_spots : HvM P w K mg base CX0 1 A.CS "spots" ["self"] (sp_Size_spots K A)) (h_Size_value : HvM P w K mg base CX0 1 A.CS "value" ["self", "channel", "x", "y"] (sp_Size_value K A)) (h_clamped : HvF P w K mg base CX0 1 "clamped" ["value"] (sp_clamped K A)) {f : Addr} {fd : FuncData} (F : Fun K "light" "light" s_light f fd) : FnOk P w K mg base CX0 2 f fd ["size", "picture", "lx", "ly", "many"] (sp_light K A) :=
  Fun.ok F sc_light (fun vs H Q E h => len_light h) (fun cdv B outer s H vs Q E hr h => ⟨t_light K A, has_light T h_Size_spots h_Size_value h_clamped hr, pure_light T h⟩)
theorem ok_joined_value (T : Txt K mg A) (h_nearest : HvF P w K mg base CX0 1 "nearest" ["top", "bottom"] (sp_nearest K A)) {f : Addr} {fd : FuncData} (F : Fun K "joined_value" "joined_value" s_joined_value f fd) : FnOk P w K mg base CX0 2 f fd ["mode", "b", "t", "k"] (sp_joined_value K A) :=
  Fun.ok F sc_joined_value (fun vs H Q E h => len_joined_value h) (fun cdv B outer s H vs Q E hr h => ⟨t_joined_value K A, has_joined_value T h_nearest hr, pure_joined_value T h⟩)
theorem ok_joined (T : Txt K mg A) (h_joined_value : HvF P w K mg base CX0 2 "joined_value" ["mode", "b", "t", "k"] (sp_joined_value K A)) {f : Addr} {fd : FuncData} (F : Fun K "joined" "joined" s_joined f fd) : FnOk P w K mg base CX0 3 f fd ["mode", "below", "top"] (sp_joined K A) :=
  Fun.ok F sc_joined (fun vs H Q E h => len_joined h) (fun cdv B outer s H vs Q E hr h => ⟨t_joined K A, has_joined T h_joined_value hr, pure_joined T h⟩)
theorem ok_mixed (T : Txt K mg A)  {f : Addr} {fd : FuncData} (F : Fun K "mixed" "mixed" s_mixed f fd) : FnOk P w K mg base CX0 1 f fd ["seed", "a", "b", "layer"] (sp_mixed K A) :=
  Fun.ok F sc_mixed (fun vs H Q E h => len_mixed h) (fun cdv B outer s H vs Q E hr h => ⟨t_mixed K A, has_mixed T  hr, pure_mixed T h⟩)
theorem ok_smooth (T : Txt K mg A)  {f : Addr} {fd : FuncData} (F : Fun K "smooth" "smooth" s_smooth f fd) : FnOk P w K mg base CX0 1 f fd ["t"] (sp_smooth K A) :=
  Fun.ok F sc_smooth (fun vs H Q E h => len_smooth h) (fun cdv B outer s H vs Q E hr h => ⟨t_smooth K A, has_smooth T  hr, pure_smooth T h⟩)
theorem ok_between (T : Txt K mg A)  {f : Addr} {fd : FuncData} (F : Fun K "between" "between" s_between f fd) : FnOk P w K mg base CX0 1 f fd ["one", "other", "u"] (sp_between K A) :=
  Fun.ok F sc_between (fun vs H Q E h => len_between h) (fun cdv B outer s H vs Q E hr h => ⟨t_between K A, has_between T  hr, pure_between T h⟩)
theorem ok_Layer___init__ (T : Txt K mg A) (h_mixed : HvF P w K mg base CX0 1 "mixed" ["seed", "a", "b", "layer"] (sp_mixed K A)) {f : Addr} {fd : FuncData} (F : Fun K "__init__" "Layer.__init__" s_Layer___init__ f fd) : FnOk P w K mg base CX0 2 f fd ["self", "size", "seed", "layer", "side"] (sp_Layer___init__ K A) :=
  Fun.ok F sc_Layer___init__ (fun vs H Q E h => len_Layer___init__ h) (fun cdv B outer s H vs Q E hr h => ⟨t_Layer___init__ K A, has_Layer___init__ T h_mixed hr, pure_Layer___init__ T h⟩)
theorem ok_Layer_corner (T : Txt K mg A)  {f : Addr} {fd : FuncData} (F : Fun K "corner" "Layer.corner" s_Layer_corner f fd) : FnOk P w K mg base CX0 1 f fd ["self", "i", "j"] (sp_Layer_corner K A) :=
  Fun.ok F sc_Layer_corner (fun vs H Q E h => len_Layer_corner h) (fun cdv B outer s H vs Q E hr h => ⟨t_Layer_corner K A, has_Layer_corner T  hr, pure_Layer_corner T h⟩)
theorem ok_Layer_value (T : Txt K mg A) (h_smooth : HvF P w K mg base CX0 1 "smooth" ["t"] (sp_smooth K A)) (h_Layer_corner : HvM P w K mg base CX0 1 A.CL "corner" ["self", "i", "j"] (sp_Layer_corner K A)) (h_between : HvF P w K mg base CX0 1 "between" ["one", "other", "u"] (sp_between K A)) {f : Addr} {fd : FuncData} (F : Fun K "value" "Layer.value" s_Layer_value f fd) : FnOk P w K mg base CX0 2 f fd ["self", "x", "y"] (sp_Layer_value K A) :=
  Fun.ok F sc_Layer_value (fun vs H Q E h => len_Layer_value h) (fun cdv B outer s H vs Q E hr h => ⟨t_Layer_value K A, has_Layer_value T h_smooth h_Layer_corner h_between hr, pure_Layer_value T h⟩)
theorem ok_noise (T : Txt K mg A) (h_Size_spots : HvM P w K mg base CX0 1 A.CS "spots" ["self"] (sp_Size_spots K A)) (h_power_of_two : HvF P w K mg base CX0 1 "power_of_two" ["many"] (sp_power_of_two K A)) (h_Layer___init__ : HvC P w K mg base CX0 2 A.CL "Layer" ["self", "size", "seed", "layer", "side"] (sp_Layer___init__ K A)) (h_Layer_value : HvM P w K mg base CX0 2 A.CL "value" ["self", "x", "y"] (sp_Layer_value K A)) {f : Addr} {fd : FuncData} (F : Fun K "noise" "noise" s_noise f fd) : FnOk P w K mg base CX0 4 f fd ["size", "seed", "cell", "layers", "fall"] (sp_noise K A) :=
  Fun.ok F sc_noise (fun vs H Q E h => len_noise h) (fun cdv B outer s H vs Q E hr h => ⟨t_noise K A, has_noise T h_Size_spots h_power_of_two h_Layer___init__ h_Layer_value hr, pure_noise T h⟩)
theorem ok_Refused___init__ (T : Txt K mg A)  {f : Addr} {fd : FuncData} (F : Fun K "__init__" "Refused.__init__" s_Refused___init__ f fd) : FnOk P w K mg base CX0 1 f fd ["self", "code"] (sp_Refused___init__ K A) :=
  Fun.ok F sc_Refused___init__ (fun vs H Q E h => len_Refused___init__ h) (fun cdv B outer s H vs Q E hr h => ⟨t_Refused___init__ K A, has_Refused___init__ T  hr, pure_Refused___init__ T h⟩)
theorem ok_need (T : Txt K mg A) (h_Refused___init__ : HvR P w K mg base CX0 1 A.CR "Refused" ["self", "code"] (sp_Refused___init__ K A)) {f : Addr} {fd : FuncData} (F : Fun K "need" "need" s_need f fd) : FnOk P w K mg base (L2.CX P w) 3 f fd ["is_right", "code"] (sp_need K A) :=
  Fun.okX F sc_need (fun vs H Q E h => len_need h) (fun cdv B outer s H vs Q E hr h => ⟨t_need K A E, has_need T h_Refused___init__ hr, pure_need T h⟩)
theorem ok_need_within (T : Txt K mg A) (h_need : HvF P w K mg base (L2.CX P w) 3 "need" ["is_right", "code"] (sp_need K A)) {f : Addr} {fd : FuncData} (F : Fun K "need_within" "need_within" s_need_within f fd) : FnOk P w K mg base (L2.CX P w) 4 f fd ["numbers", "bounds"] (sp_need_within K A) :=
  Fun.okX F sc_need_within (fun vs H Q E h => len_need_within h) (fun cdv B outer s H vs Q E hr h => ⟨t_need_within K A E, has_need_within T h_need hr, pure_need_within T h⟩)
theorem ok_Desk___init__ (T : Txt K mg A)  {f : Addr} {fd : FuncData} (F : Fun K "__init__" "Desk.__init__" s_Desk___init__ f fd) : FnOk P w K mg base CX0 1 f fd ["self"] (sp_Desk___init__ K A) :=
  Fun.ok F sc_Desk___init__ (fun vs H Q E h => len_Desk___init__ h) (fun cdv B outer s H vs Q E hr h => ⟨t_Desk___init__ K A, has_Desk___init__ T  hr, pure_Desk___init__ T h⟩)
theorem ok_Desk_open_stack (T : Txt K mg A) (h_need_within : HvF P w K mg base (L2.CX P w) 4 "need_within" ["numbers", "bounds"] (sp_need_within K A)) (h_power_of_two : HvF P w K mg base CX0 1 "power_of_two" ["many"] (sp_power_of_two K A)) (h_Size___init__ : HvC P w K mg base CX0 1 A.CS "Size" ["self", "width", "height"] (sp_Size___init__ K A)) {f : Addr} {fd : FuncData} (F : Fun K "open_stack" "Desk.open_stack" s_Desk_open_stack f fd) : FnOk P w K mg base (L2.CX P w) 5 f fd ["self", "a", "b"] (sp_Desk_open_stack K A) :=
  Fun.okX F sc_Desk_open_stack (fun vs H Q E h => len_Desk_open_stack h) (fun cdv B outer s H vs Q E hr h => ⟨t_Desk_open_stack K A E, has_Desk_open_stack T h_need_within h_power_of_two h_Size___init__ hr, pure_Desk_open_stack T h⟩)
theorem ok_Desk_size (T : Txt K mg A)  {f : Addr} {fd : FuncData} (F : Fun K "size" "Desk.size" s_Desk_size f fd) : FnOk P w K mg base CX0 1 f fd ["self"] (sp_Desk_size K A) :=
  Fun.ok F sc_Desk_size (fun vs H Q E h => len_Desk_size h) (fun cdv B outer s H vs Q E hr h => ⟨t_Desk_size K A, has_Desk_size T  hr, pure_Desk_size T h⟩)
theorem ok_Desk_need_pictures (T : Txt K mg A) (h_need : HvF P w K mg base (L2.CX P w) 3 "need" ["is_right", "code"] (sp_need K A)) {f : Addr} {fd : FuncData} (F : Fun K "need_pictures" "Desk.need_pictures" s_Desk_need_pictures f fd) : FnOk P w K mg base (L2.CX P w) 4 f fd ["self", "many"] (sp_Desk_need_pictures K A) :=
  Fun.okX F sc_Desk_need_pictures (fun vs H Q E h => len_Desk_need_pictures h) (fun cdv B outer s H vs Q E hr h => ⟨t_Desk_need_pictures K A E, has_Desk_need_pictures T h_need hr, pure_Desk_need_pictures T h⟩)
theorem ok_Desk_push (T : Txt K mg A)  {f : Addr} {fd : FuncData} (F : Fun K "push" "Desk.push" s_Desk_push f fd) : FnOk P w K mg base CX0 1 f fd ["self", "picture"] (sp_Desk_push K A) :=
  Fun.ok F sc_Desk_push (fun vs H Q E h => len_Desk_push h) (fun cdv B outer s H vs Q E hr h => ⟨t_Desk_push K A, has_Desk_push T  hr, pure_Desk_push T h⟩)
theorem ok_Desk_need_room (T : Txt K mg A) (h_need : HvF P w K mg base (L2.CX P w) 3 "need" ["is_right", "code"] (sp_need K A)) {f : Addr} {fd : FuncData} (F : Fun K "need_room" "Desk.need_room" s_Desk_need_room f fd) : FnOk P w K mg base (L2.CX P w) 4 f fd ["self"] (sp_Desk_need_room K A) :=
  Fun.okX F sc_Desk_need_room (fun vs H Q E h => len_Desk_need_room h) (fun cdv B outer s H vs Q E hr h => ⟨t_Desk_need_room K A E, has_Desk_need_room T h_need hr, pure_Desk_need_room T h⟩)
theorem ok_Desk_replace (T : Txt K mg A)  {f : Addr} {fd : FuncData} (F : Fun K "replace" "Desk.replace" s_Desk_replace f fd) : FnOk P w K mg base CX0 1 f fd ["self", "many", "pictures"] (sp_Desk_replace K A) :=
  Fun.ok F sc_Desk_replace (fun vs H Q E h => len_Desk_replace h) (fun cdv B outer s H vs Q E hr h => ⟨t_Desk_replace K A, has_Desk_replace T  hr, pure_Desk_replace T h⟩)
theorem ok_Desk_flat (T : Txt K mg A) (h_Desk_need_room : HvM P w K mg base (L2.CX P w) 4 A.CD "need_room" ["self"] (sp_Desk_need_room K A)) (h_Desk_size : HvM P w K mg base CX0 1 A.CD "size" ["self"] (sp_Desk_size K A)) (h_flat_pictures : HvF P w K mg base CX0 1 "flat_pictures" ["size", "colour"] (sp_flat K A)) (h_Desk_push : HvM P w K mg base CX0 1 A.CD "push" ["self", "picture"] (sp_Desk_push K A)) {f : Addr} {fd : FuncData} (F : Fun K "flat" "Desk.flat" s_Desk_flat f fd) : FnOk P w K mg base (L2.CX P w) 5 f fd ["self", "colour"] (sp_Desk_flat K A) :=
  Fun.okX F sc_Desk_flat (fun vs H Q E h => len_Desk_flat h) (fun cdv B outer s H vs Q E hr h => ⟨t_Desk_flat K A E, has_Desk_flat T h_Desk_need_room h_Desk_size h_flat_pictures h_Desk_push hr, pure_Desk_flat T h⟩)
theorem ok_Desk_noise (T : Txt K mg A) (h_need_within : HvF P w K mg base (L2.CX P w) 4 "need_within" ["numbers", "bounds"] (sp_need_within K A)) (h_power_of_two : HvF P w K mg base CX0 1 "power_of_two" ["many"] (sp_power_of_two K A)) (h_Desk_size : HvM P w K mg base CX0 1 A.CD "size" ["self"] (sp_Desk_size K A)) (h_need : HvF P w K mg base (L2.CX P w) 3 "need" ["is_right", "code"] (sp_need K A)) (h_Desk_need_room : HvM P w K mg base (L2.CX P w) 4 A.CD "need_room" ["self"] (sp_Desk_need_room K A)) (h_noise_noises : HvF P w K mg base CX0 4 "noise_noises" ["size", "seed", "cell", "layers", "fall"] (sp_noise K A)) (h_Desk_push : HvM P w K mg base CX0 1 A.CD "push" ["self", "picture"] (sp_Desk_push K A)) {f : Addr} {fd : FuncData} (F : Fun K "noise" "Desk.noise" s_Desk_noise f fd) : FnOk P w K mg base (L2.CX P w) 5 f fd ["self", "given"] (sp_Desk_noise K A) :=
  Fun.okX F sc_Desk_noise (fun vs H Q E h => len_Desk_noise h) (fun cdv B outer s H vs Q E hr h => ⟨t_Desk_noise K A E, has_Desk_noise T h_need_within h_power_of_two h_Desk_size h_need h_Desk_need_room h_noise_noises h_Desk_push hr, pure_Desk_noise T h⟩)
theorem ok_Desk_glow (T : Txt K mg A) (h_need_within : HvF P w K mg base (L2.CX P w) 4 "need_within" ["numbers", "bounds"] (sp_need_within K A)) (h_Desk_need_pictures : HvM P w K mg base (L2.CX P w) 4 A.CD "need_pictures" ["self", "many"] (sp_Desk_need_pictures K A)) (h_Desk_size : HvM P w K mg base CX0 1 A.CD "size" ["self"] (sp_Desk_size K A)) (h_glow_changes : HvF P w K mg base CX0 2 "glow_changes" ["size", "picture", "middle", "radii", "many", "colour"] (sp_glow K A)) (h_Desk_replace : HvM P w K mg base CX0 1 A.CD "replace" ["self", "many", "pictures"] (sp_Desk_replace K A)) {f : Addr} {fd : FuncData} (F : Fun K "glow" "Desk.glow" s_Desk_glow f fd) : FnOk P w K mg base (L2.CX P w) 5 f fd ["self", "given"] (sp_Desk_glow K A) :=
  Fun.okX F sc_Desk_glow (fun vs H Q E h => len_Desk_glow h) (fun cdv B outer s H vs Q E hr h => ⟨t_Desk_glow K A E, has_Desk_glow T h_need_within h_Desk_need_pictures h_Desk_size h_glow_changes h_Desk_replace hr, pure_Desk_glow T h⟩)
theorem ok_Desk_box (T : Txt K mg A) (h_need_within : HvF P w K mg base (L2.CX P w) 4 "need_within" ["numbers", "bounds"] (sp_need_within K A)) (h_Desk_need_pictures : HvM P w K mg base (L2.CX P w) 4 A.CD "need_pictures" ["self", "many"] (sp_Desk_need_pictures K A)) (h_Desk_size : HvM P w K mg base CX0 1 A.CD "size" ["self"] (sp_Desk_size K A)) (h_box_changes : HvF P w K mg base CX0 2 "box_changes" ["size", "picture", "corner", "sides", "colour"] (sp_box K A)) (h_Desk_replace : HvM P w K mg base CX0 1 A.CD "replace" ["self", "many", "pictures"] (sp_Desk_replace K A)) {f : Addr} {fd : FuncData} (F : Fun K "box" "Desk.box" s_Desk_box f fd) : FnOk P w K mg base (L2.CX P w) 5 f fd ["self", "given"] (sp_Desk_box K A) :=
  Fun.okX F sc_Desk_box (fun vs H Q E h => len_Desk_box h) (fun cdv B outer s H vs Q E hr h => ⟨t_Desk_box K A E, has_Desk_box T h_need_within h_Desk_need_pictures h_Desk_size h_box_changes h_Desk_replace hr, pure_Desk_box T h⟩)
theorem ok_Desk_blur (T : Txt K mg A) (h_need_within : HvF P w K mg base (L2.CX P w) 4 "need_within" ["numbers", "bounds"] (sp_need_within K A)) (h_Desk_need_pictures : HvM P w K mg base (L2.CX P w) 4 A.CD "need_pictures" ["self", "many"] (sp_Desk_need_pictures K A)) (h_Desk_size : HvM P w K mg base CX0 1 A.CD "size" ["self"] (sp_Desk_size K A)) (h_blur_changes : HvF P w K mg base CX0 4 "blur_changes" ["size", "picture", "across", "down", "many"] (sp_blur K A)) (h_Desk_replace : HvM P w K mg base CX0 1 A.CD "replace" ["self", "many", "pictures"] (sp_Desk_replace K A)) {f : Addr} {fd : FuncData} (F : Fun K "blur" "Desk.blur" s_Desk_blur f fd) : FnOk P w K mg base (L2.CX P w) 5 f fd ["self", "given"] (sp_Desk_blur K A) :=
  Fun.okX F sc_Desk_blur (fun vs H Q E h => len_Desk_blur h) (fun cdv B outer s H vs Q E hr h => ⟨t_Desk_blur K A E, has_Desk_blur T h_need_within h_Desk_need_pictures h_Desk_size h_blur_changes h_Desk_replace hr, pure_Desk_blur T h⟩)
theorem ok_Desk_turn (T : Txt K mg A) (h_need_within : HvF P w K mg base (L2.CX P w) 4 "need_within" ["numbers", "bounds"] (sp_need_within K A)) (h_Desk_need_pictures : HvM P w K mg base (L2.CX P w) 4 A.CD "need_pictures" ["self", "many"] (sp_Desk_need_pictures K A)) (h_Desk_size : HvM P w K mg base CX0 1 A.CD "size" ["self"] (sp_Desk_size K A)) (h_turn_changes : HvF P w K mg base CX0 4 "turn_changes" ["size", "picture", "c", "s"] (sp_turn K A)) (h_Desk_replace : HvM P w K mg base CX0 1 A.CD "replace" ["self", "many", "pictures"] (sp_Desk_replace K A)) {f : Addr} {fd : FuncData} (F : Fun K "turn" "Desk.turn" s_Desk_turn f fd) : FnOk P w K mg base (L2.CX P w) 5 f fd ["self", "given"] (sp_Desk_turn K A) :=
  Fun.okX F sc_Desk_turn (fun vs H Q E h => len_Desk_turn h) (fun cdv B outer s H vs Q E hr h => ⟨t_Desk_turn K A E, has_Desk_turn T h_need_within h_Desk_need_pictures h_Desk_size h_turn_changes h_Desk_replace hr, pure_Desk_turn T h⟩)
theorem ok_Desk_bend (T : Txt K mg A) (h_need_within : HvF P w K mg base (L2.CX P w) 4 "need_within" ["numbers", "bounds"] (sp_need_within K A)) (h_Desk_need_pictures : HvM P w K mg base (L2.CX P w) 4 A.CD "need_pictures" ["self", "many"] (sp_Desk_need_pictures K A)) (h_Desk_size : HvM P w K mg base CX0 1 A.CD "size" ["self"] (sp_Desk_size K A)) (h_bend_changes : HvF P w K mg base CX0 4 "bend_changes" ["size", "picture", "top", "many"] (sp_bend K A)) (h_Desk_replace : HvM P w K mg base CX0 1 A.CD "replace" ["self", "many", "pictures"] (sp_Desk_replace K A)) {f : Addr} {fd : FuncData} (F : Fun K "bend" "Desk.bend" s_Desk_bend f fd) : FnOk P w K mg base (L2.CX P w) 5 f fd ["self", "given"] (sp_Desk_bend K A) :=
  Fun.okX F sc_Desk_bend (fun vs H Q E h => len_Desk_bend h) (fun cdv B outer s H vs Q E hr h => ⟨t_Desk_bend K A E, has_Desk_bend T h_need_within h_Desk_need_pictures h_Desk_size h_bend_changes h_Desk_replace hr, pure_Desk_bend T h⟩)
theorem ok_Desk_join (T : Txt K mg A) (h_need_within : HvF P w K mg base (L2.CX P w) 4 "need_within" ["numbers", "bounds"] (sp_need_within K A)) (h_Desk_need_pictures : HvM P w K mg base (L2.CX P w) 4 A.CD "need_pictures" ["self", "many"] (sp_Desk_need_pictures K A)) (h_joined : HvF P w K mg base CX0 3 "joined" ["mode", "below", "top"] (sp_joined K A)) (h_Desk_replace : HvM P w K mg base CX0 1 A.CD "replace" ["self", "many", "pictures"] (sp_Desk_replace K A)) {f : Addr} {fd : FuncData} (F : Fun K "join" "Desk.join" s_Desk_join f fd) : FnOk P w K mg base (L2.CX P w) 5 f fd ["self", "given"] (sp_Desk_join K A) :=
  Fun.okX F sc_Desk_join (fun vs H Q E h => len_Desk_join h) (fun cdv B outer s H vs Q E hr h => ⟨t_Desk_join K A E, has_Desk_join T h_need_within h_Desk_need_pictures h_joined h_Desk_replace hr, pure_Desk_join T h⟩)
theorem ok_Desk_levels (T : Txt K mg A) (h_need_within : HvF P w K mg base (L2.CX P w) 4 "need_within" ["numbers", "bounds"] (sp_need_within K A)) (h_need : HvF P w K mg base (L2.CX P w) 3 "need" ["is_right", "code"] (sp_need K A)) (h_Desk_need_pictures : HvM P w K mg base (L2.CX P w) 4 A.CD "need_pictures" ["self", "many"] (sp_Desk_need_pictures K A)) (h_levels_changes : HvF P w K mg base CX0 3 "levels_changes" ["picture", "low", "high"] (sp_levels K A)) (h_Desk_replace : HvM P w K mg base CX0 1 A.CD "replace" ["self", "many", "pictures"] (sp_Desk_replace K A)) {f : Addr} {fd : FuncData} (F : Fun K "levels" "Desk.levels" s_Desk_levels f fd) : FnOk P w K mg base (L2.CX P w) 5 f fd ["self", "given"] (sp_Desk_levels K A) :=
  Fun.okX F sc_Desk_levels (fun vs H Q E h => len_Desk_levels h) (fun cdv B outer s H vs Q E hr h => ⟨t_Desk_levels K A E, has_Desk_levels T h_need_within h_need h_Desk_need_pictures h_levels_changes h_Desk_replace hr, pure_Desk_levels T h⟩)
theorem ok_Desk_colour (T : Txt K mg A) (h_Desk_need_pictures : HvM P w K mg base (L2.CX P w) 4 A.CD "need_pictures" ["self", "many"] (sp_Desk_need_pictures K A)) (h_recoloured : HvF P w K mg base CX0 3 "recoloured" ["picture", "matrix"] (sp_recoloured K A)) (h_Desk_replace : HvM P w K mg base CX0 1 A.CD "replace" ["self", "many", "pictures"] (sp_Desk_replace K A)) {f : Addr} {fd : FuncData} (F : Fun K "colour" "Desk.colour" s_Desk_colour f fd) : FnOk P w K mg base (L2.CX P w) 5 f fd ["self", "given"] (sp_Desk_colour K A) :=
  Fun.okX F sc_Desk_colour (fun vs H Q E h => len_Desk_colour h) (fun cdv B outer s H vs Q E hr h => ⟨t_Desk_colour K A E, has_Desk_colour T h_Desk_need_pictures h_recoloured h_Desk_replace hr, pure_Desk_colour T h⟩)
theorem ok_Desk_light (T : Txt K mg A) (h_need_within : HvF P w K mg base (L2.CX P w) 4 "need_within" ["numbers", "bounds"] (sp_need_within K A)) (h_Desk_need_pictures : HvM P w K mg base (L2.CX P w) 4 A.CD "need_pictures" ["self", "many"] (sp_Desk_need_pictures K A)) (h_Desk_size : HvM P w K mg base CX0 1 A.CD "size" ["self"] (sp_Desk_size K A)) (h_light_changes : HvF P w K mg base CX0 2 "light_changes" ["size", "picture", "lx", "ly", "many"] (sp_light K A)) (h_Desk_replace : HvM P w K mg base CX0 1 A.CD "replace" ["self", "many", "pictures"] (sp_Desk_replace K A)) {f : Addr} {fd : FuncData} (F : Fun K "light" "Desk.light" s_Desk_light f fd) : FnOk P w K mg base (L2.CX P w) 5 f fd ["self", "given"] (sp_Desk_light K A) :=
  Fun.okX F sc_Desk_light (fun vs H Q E h => len_Desk_light h) (fun cdv B outer s H vs Q E hr h => ⟨t_Desk_light K A E, has_Desk_light T h_need_within h_Desk_need_pictures h_Desk_size h_light_changes h_Desk_replace hr, pure_Desk_light T h⟩)
theorem ok_Desk_copy (T : Txt K mg A) (h_need : HvF P w K mg base (L2.CX P w) 3 "need" ["is_right", "code"] (sp_need K A)) (h_Desk_need_room : HvM P w K mg base (L2.CX P w) 4 A.CD "need_room" ["self"] (sp_Desk_need_room K A)) (h_Desk_push : HvM P w K mg base CX0 1 A.CD "push" ["self", "picture"] (sp_Desk_push K A)) {f : Addr} {fd : FuncData} (F : Fun K "copy" "Desk.copy" s_Desk_copy f fd) : FnOk P w K mg base (L2.CX P w) 5 f fd ["self", "given"] (sp_Desk_copy K A) :=
  Fun.okX F sc_Desk_copy (fun vs H Q E h => len_Desk_copy h) (fun cdv B outer s H vs Q E hr h => ⟨t_Desk_copy K A E, has_Desk_copy T h_need h_Desk_need_room h_Desk_push hr, pure_Desk_copy T h⟩)
theorem ok_Desk_swap (T : Txt K mg A) (h_Desk_need_pictures : HvM P w K mg base (L2.CX P w) 4 A.CD "need_pictures" ["self", "many"] (sp_Desk_need_pictures K A)) (h_Desk_replace : HvM P w K mg base CX0 1 A.CD "replace" ["self", "many", "pictures"] (sp_Desk_replace K A)) {f : Addr} {fd : FuncData} (F : Fun K "swap" "Desk.swap" s_Desk_swap f fd) : FnOk P w K mg base (L2.CX P w) 5 f fd ["self"] (sp_Desk_swap K A) :=
  Fun.okX F sc_Desk_swap (fun vs H Q E h => len_Desk_swap h) (fun cdv B outer s H vs Q E hr h => ⟨t_Desk_swap K A E, has_Desk_swap T h_Desk_need_pictures h_Desk_replace hr, pure_Desk_swap T h⟩)
theorem ok_Desk_drop (T : Txt K mg A) (h_Desk_need_pictures : HvM P w K mg base (L2.CX P w) 4 A.CD "need_pictures" ["self", "many"] (sp_Desk_need_pictures K A)) (h_Desk_replace : HvM P w K mg base CX0 1 A.CD "replace" ["self", "many", "pictures"] (sp_Desk_replace K A)) {f : Addr} {fd : FuncData} (F : Fun K "drop" "Desk.drop" s_Desk_drop f fd) : FnOk P w K mg base (L2.CX P w) 5 f fd ["self"] (sp_Desk_drop K A) :=
  Fun.okX F sc_Desk_drop (fun vs H Q E h => len_Desk_drop h) (fun cdv B outer s H vs Q E hr h => ⟨t_Desk_drop K A E, has_Desk_drop T h_Desk_need_pictures h_Desk_replace hr, pure_Desk_drop T h⟩)
theorem ok_Desk_pixel (T : Txt K mg A) (h_Desk_size : HvM P w K mg base CX0 1 A.CD "size" ["self"] (sp_Desk_size K A)) (h_need_within : HvF P w K mg base (L2.CX P w) 4 "need_within" ["numbers", "bounds"] (sp_need_within K A)) (h_Desk_need_pictures : HvM P w K mg base (L2.CX P w) 4 A.CD "need_pictures" ["self", "many"] (sp_Desk_need_pictures K A)) (h_Size_value : HvM P w K mg base CX0 1 A.CS "value" ["self", "channel", "x", "y"] (sp_Size_value K A)) {f : Addr} {fd : FuncData} (F : Fun K "pixel" "Desk.pixel" s_Desk_pixel f fd) : FnOk P w K mg base (L2.CX P w) 5 f fd ["self", "given"] (sp_Desk_pixel K A) :=
  Fun.okX F sc_Desk_pixel (fun vs H Q E h => len_Desk_pixel h) (fun cdv B outer s H vs Q E hr h => ⟨t_Desk_pixel K A E, has_Desk_pixel T h_Desk_size h_need_within h_Desk_need_pictures h_Size_value hr, pure_Desk_pixel T h⟩)
theorem ok_Desk_read_bytes (T : Txt K mg A) (h_Desk_need_pictures : HvM P w K mg base (L2.CX P w) 4 A.CD "need_pictures" ["self", "many"] (sp_Desk_need_pictures K A)) (h_Desk_size : HvM P w K mg base CX0 1 A.CD "size" ["self"] (sp_Desk_size K A)) (h_Size_spots : HvM P w K mg base CX0 1 A.CS "spots" ["self"] (sp_Size_spots K A)) (h_dithered : HvF P w K mg base CX0 2 "dithered" ["value", "bits", "x", "y"] (sp_dithered K A)) {f : Addr} {fd : FuncData} (F : Fun K "read_bytes" "Desk.read_bytes" s_Desk_read_bytes f fd) : FnOk P w K mg base (L2.CX P w) 5 f fd ["self"] (sp_Desk_read_bytes K A) :=
  Fun.okX F sc_Desk_read_bytes (fun vs H Q E h => len_Desk_read_bytes h) (fun cdv B outer s H vs Q E hr h => ⟨t_Desk_read_bytes K A E, has_Desk_read_bytes T h_Desk_need_pictures h_Desk_size h_Size_spots h_dithered hr, pure_Desk_read_bytes T h⟩)
theorem ok_Desk_read_words (T : Txt K mg A) (h_Desk_need_pictures : HvM P w K mg base (L2.CX P w) 4 A.CD "need_pictures" ["self", "many"] (sp_Desk_need_pictures K A)) (h_Desk_size : HvM P w K mg base CX0 1 A.CD "size" ["self"] (sp_Desk_size K A)) (h_Size_spots : HvM P w K mg base CX0 1 A.CS "spots" ["self"] (sp_Size_spots K A)) (h_dithered : HvF P w K mg base CX0 2 "dithered" ["value", "bits", "x", "y"] (sp_dithered K A)) {f : Addr} {fd : FuncData} (F : Fun K "read_words" "Desk.read_words" s_Desk_read_words f fd) : FnOk P w K mg base (L2.CX P w) 5 f fd ["self"] (sp_Desk_read_words K A) :=
  Fun.okX F sc_Desk_read_words (fun vs H Q E h => len_Desk_read_words h) (fun cdv B outer s H vs Q E hr h => ⟨t_Desk_read_words K A E, has_Desk_read_words T h_Desk_need_pictures h_Desk_size h_Size_spots h_dithered hr, pure_Desk_read_words T h⟩)
theorem ok_Desk_early (T : Txt K mg A) (h_Desk_flat : HvM P w K mg base (L2.CX P w) 5 A.CD "flat" ["self", "colour"] (sp_Desk_flat K A)) (h_Desk_noise : HvM P w K mg base (L2.CX P w) 5 A.CD "noise" ["self", "given"] (sp_Desk_noise K A)) (h_Desk_glow : HvM P w K mg base (L2.CX P w) 5 A.CD "glow" ["self", "given"] (sp_Desk_glow K A)) (h_Desk_box : HvM P w K mg base (L2.CX P w) 5 A.CD "box" ["self", "given"] (sp_Desk_box K A)) (h_Desk_blur : HvM P w K mg base (L2.CX P w) 5 A.CD "blur" ["self", "given"] (sp_Desk_blur K A)) (h_Desk_turn : HvM P w K mg base (L2.CX P w) 5 A.CD "turn" ["self", "given"] (sp_Desk_turn K A)) (h_Desk_bend : HvM P w K mg base (L2.CX P w) 5 A.CD "bend" ["self", "given"] (sp_Desk_bend K A)) (h_Desk_join : HvM P w K mg base (L2.CX P w) 5 A.CD "join" ["self", "given"] (sp_Desk_join K A)) {f : Addr} {fd : FuncData} (F : Fun K "early" "Desk.early" s_Desk_early f fd) : FnOk P w K mg base (L2.CX P w) 6 f fd ["self", "place", "given"] (sp_Desk_early K A) :=
  Fun.okX F sc_Desk_early (fun vs H Q E h => len_Desk_early h) (fun cdv B outer s H vs Q E hr h => ⟨t_Desk_early K A E, has_Desk_early T h_Desk_flat h_Desk_noise h_Desk_glow h_Desk_box h_Desk_blur h_Desk_turn h_Desk_bend h_Desk_join hr, pure_Desk_early T h⟩)
theorem ok_Desk_later (T : Txt K mg A) (h_Desk_levels : HvM P w K mg base (L2.CX P w) 5 A.CD "levels" ["self", "given"] (sp_Desk_levels K A)) (h_Desk_colour : HvM P w K mg base (L2.CX P w) 5 A.CD "colour" ["self", "given"] (sp_Desk_colour K A)) (h_Desk_light : HvM P w K mg base (L2.CX P w) 5 A.CD "light" ["self", "given"] (sp_Desk_light K A)) (h_Desk_copy : HvM P w K mg base (L2.CX P w) 5 A.CD "copy" ["self", "given"] (sp_Desk_copy K A)) (h_Desk_swap : HvM P w K mg base (L2.CX P w) 5 A.CD "swap" ["self"] (sp_Desk_swap K A)) (h_Desk_drop : HvM P w K mg base (L2.CX P w) 5 A.CD "drop" ["self"] (sp_Desk_drop K A)) (h_Desk_pixel : HvM P w K mg base (L2.CX P w) 5 A.CD "pixel" ["self", "given"] (sp_Desk_pixel K A)) (h_Desk_read_bytes : HvM P w K mg base (L2.CX P w) 5 A.CD "read_bytes" ["self"] (sp_Desk_read_bytes K A)) (h_Desk_read_words : HvM P w K mg base (L2.CX P w) 5 A.CD "read_words" ["self"] (sp_Desk_read_words K A)) {f : Addr} {fd : FuncData} (F : Fun K "later" "Desk.later" s_Desk_later f fd) : FnOk P w K mg base (L2.CX P w) 6 f fd ["self", "place", "given"] (sp_Desk_later K A) :=
  Fun.okX F sc_Desk_later (fun vs H Q E h => len_Desk_later h) (fun cdv B outer s H vs Q E hr h => ⟨t_Desk_later K A E, has_Desk_later T h_Desk_levels h_Desk_colour h_Desk_light h_Desk_copy h_Desk_swap h_Desk_drop h_Desk_pixel h_Desk_read_bytes h_Desk_read_words hr, pure_Desk_later T h⟩)
theorem ok_Desk_answer (T : Txt K mg A) (h_Desk_open_stack : HvM P w K mg base (L2.CX P w) 5 A.CD "open_stack" ["self", "a", "b"] (sp_Desk_open_stack K A)) (h_need : HvF P w K mg base (L2.CX P w) 3 "need" ["is_right", "code"] (sp_need K A)) (h_Desk_early : HvM P w K mg base (L2.CX P w) 6 A.CD "early" ["self", "place", "given"] (sp_Desk_early K A)) (h_Desk_later : HvM P w K mg base (L2.CX P w) 6 A.CD "later" ["self", "place", "given"] (sp_Desk_later K A)) {f : Addr} {fd : FuncData} (F : Fun K "answer" "Desk.answer" s_Desk_answer f fd) : FnOk P w K mg base CX0 7 f fd ["self", "place", "given"] (sp_Desk_answer K A) :=
  Fun.ok F sc_Desk_answer (fun vs H Q E h => len_Desk_answer h) (fun cdv B outer s H vs Q E hr h => ⟨t_Desk_answer K A, has_Desk_answer T h_Desk_open_stack h_need h_Desk_early h_Desk_later hr, pure_Desk_answer T h⟩)
theorem ok_answers (T : Txt K mg A) (h_Desk___init__ : HvC P w K mg base CX0 1 A.CD "Desk" ["self"] (sp_Desk___init__ K A)) (h_Desk_answer : HvM P w K mg base CX0 7 A.CD "answer" ["self", "place", "given"] (sp_Desk_answer K A)) {f : Addr} {fd : FuncData} (F : Fun K "answers" "answers" s_answers f fd) : FnOk P w K mg base CX0 8 f fd ["calls"] (sp_answers K A) :=
  Fun.ok F sc_answers (fun vs H Q E h => len_answers h) (fun cdv B outer s H vs Q E hr h => ⟨t_answers K A, has_answers T h_Desk___init__ h_Desk_answer hr, pure_answers T h⟩)
end
end GT
end
section
set_option Elab.async false
set_option linter.all false
set_option maxRecDepth 100000
set_option maxHeartbeats 8000000
/-! from what the top has written to the promise of answers -/
namespace GT
open PySem PySem.Spec PyProof.Rows L2
theorem exm_self {K : PySem.W.Frag} {S : Addr} (h1 : PySem.W.subIn K (.ref S) (.type "BaseException") = some true) (h2 : PySem.W.isClsIn K S = true) (h3 : PySem.W.typeIn K (.ref S) = some (.type "type")) (h4 : PySem.W.subIn K (.ref S) (.ref S) = some true) :
    PySem.W.exmOne K (.ref S) (.ref S) = some true := by
  have e1 : (PySem.W.subIn K (.ref S) (.type "BaseException") == some true) = true := by rw [h1] <;> rfl
  have e2 : ((PySem.W.clsIn K S).isSome && PySem.W.typeIn K (.ref S) == some (.type "type")) = true := by
    have h2' : (PySem.W.clsIn K S).isSome = true := h2
    rw [h2', h3] <;> rfl
  show (if (PySem.W.subIn K (.ref S) (.type "BaseException") == some true) = true then (if ((PySem.W.clsIn K S).isSome && PySem.W.typeIn K (.ref S) == some (.type "type")) = true then PySem.W.subIn K (.ref S) (.ref S) else none) else none) = some true
  rw [if_pos e1, if_pos e2]
  exact h4
theorem all_mk {P : Program} {w : World} {K : PySem.W.Frag} {h : Heap} {mg : Str → Option Value} {fa : Addr} (X : K.In h) (G : h.Ns mainGlobals mg) (hfa : mg "answers" = some (.ref fa))
    {CS CL CD CR aS aG f_clamped f_nearest f_power_of_two f_Size___init__ f_Size_spots f_Size_value f_Size_sample f_flat f_dithered f_strength_at f_glow f_box f_blurred_row f_turned_over f_blurred_rows f_blurred f_blur f_turn f_sampled f_bend f_levelled f_levels f_coloured f_recoloured f_light f_joined_value f_joined f_mixed f_smooth f_between f_Layer___init__ f_Layer_corner f_Layer_value f_noise f_Refused___init__ f_need f_need_within f_Desk___init__ f_Desk_open_stack f_Desk_size f_Desk_need_pictures f_Desk_push f_Desk_need_room f_Desk_replace f_Desk_flat f_Desk_noise f_Desk_glow f_Desk_box f_Desk_blur f_Desk_turn f_Desk_bend f_Desk_join f_Desk_levels f_Desk_colour f_Desk_light f_Desk_copy f_Desk_swap f_Desk_drop f_Desk_pixel f_Desk_read_bytes f_Desk_read_words f_Desk_early f_Desk_later f_Desk_answer f_answers : Addr}
    {tokMOST tokCHANNELS tokCOLOURS tokUNIT tokFULL tokMIDDLE tokWORD tokHALF tokOUT tokTOO_FEW tokTOO_MANY tokNO_STACK tokMOST_PICTURES : Tok} {dSCREEN dGIVEN : Option Addr} {itsSCREEN itsGIVEN : Array Value} {nSCREEN nGIVEN : Nat} {slSCREEN slGIVEN : Array (Option Value)}
    {nm q : Str} {N : Addr} {bs : List Value} {sn : List Str} {sub : List Value} {ab : Bool} {col : Option Bool} {dd : Option Addr} {m0 m1 m2 m3 m5 : Option Value}
    {od_clamped an_clamped : Option Addr} {sl_clamped : Array (Option Value)} {oc_clamped kV_clamped dc_clamped pm_clamped cd_clamped ct_clamped : Value}
    {od_nearest an_nearest : Option Addr} {sl_nearest : Array (Option Value)} {oc_nearest kV_nearest dc_nearest pm_nearest cd_nearest ct_nearest : Value}
    {od_power_of_two an_power_of_two : Option Addr} {sl_power_of_two : Array (Option Value)} {oc_power_of_two kV_power_of_two dc_power_of_two pm_power_of_two cd_power_of_two ct_power_of_two : Value}
    {od_Size___init__ an_Size___init__ : Option Addr} {sl_Size___init__ : Array (Option Value)} {oc_Size___init__ kV_Size___init__ dc_Size___init__ pm_Size___init__ cd_Size___init__ ct_Size___init__ : Value}
    {od_Size_spots an_Size_spots : Option Addr} {sl_Size_spots : Array (Option Value)} {oc_Size_spots kV_Size_spots dc_Size_spots pm_Size_spots cd_Size_spots ct_Size_spots : Value}
    {od_Size_value an_Size_value : Option Addr} {sl_Size_value : Array (Option Value)} {oc_Size_value kV_Size_value dc_Size_value pm_Size_value cd_Size_value ct_Size_value : Value}
    {od_Size_sample an_Size_sample : Option Addr} {sl_Size_sample : Array (Option Value)} {oc_Size_sample kV_Size_sample dc_Size_sample pm_Size_sample cd_Size_sample ct_Size_sample : Value}
    {od_flat an_flat : Option Addr} {sl_flat : Array (Option Value)} {oc_flat kV_flat dc_flat pm_flat cd_flat ct_flat : Value}
    {od_dithered an_dithered : Option Addr} {sl_dithered : Array (Option Value)} {oc_dithered kV_dithered dc_dithered pm_dithered cd_dithered ct_dithered : Value}
    {od_strength_at an_strength_at : Option Addr} {sl_strength_at : Array (Option Value)} {oc_strength_at kV_strength_at dc_strength_at pm_strength_at cd_strength_at ct_strength_at : Value}
    {od_glow an_glow : Option Addr} {sl_glow : Array (Option Value)} {oc_glow kV_glow dc_glow pm_glow cd_glow ct_glow : Value}
    {od_box an_box : Option Addr} {sl_box : Array (Option Value)} {oc_box kV_box dc_box pm_box cd_box ct_box : Value}
    {od_blurred_row an_blurred_row : Option Addr} {sl_blurred_row : Array (Option Value)} {oc_blurred_row kV_blurred_row dc_blurred_row pm_blurred_row cd_blurred_row ct_blurred_row : Value}
    {od_turned_over an_turned_over : Option Addr} {sl_turned_over : Array (Option Value)} {oc_turned_over kV_turned_over dc_turned_over pm_turned_over cd_turned_over ct_turned_over : Value}
    {od_blurred_rows an_blurred_rows : Option Addr} {sl_blurred_rows : Array (Option Value)} {oc_blurred_rows kV_blurred_rows dc_blurred_rows pm_blurred_rows cd_blurred_rows ct_blurred_rows : Value}
    {od_blurred an_blurred : Option Addr} {sl_blurred : Array (Option Value)} {oc_blurred kV_blurred dc_blurred pm_blurred cd_blurred ct_blurred : Value}
    {od_blur an_blur : Option Addr} {sl_blur : Array (Option Value)} {oc_blur kV_blur dc_blur pm_blur cd_blur ct_blur : Value}
    {od_turn an_turn : Option Addr} {sl_turn : Array (Option Value)} {oc_turn kV_turn dc_turn pm_turn cd_turn ct_turn : Value}
    {od_sampled an_sampled : Option Addr} {sl_sampled : Array (Option Value)} {oc_sampled kV_sampled dc_sampled pm_sampled cd_sampled ct_sampled : Value}
    {od_bend an_bend : Option Addr} {sl_bend : Array (Option Value)} {oc_bend kV_bend dc_bend pm_bend cd_bend ct_bend : Value}
    {od_levelled an_levelled : Option Addr} {sl_levelled : Array (Option Value)} {oc_levelled kV_levelled dc_levelled pm_levelled cd_levelled ct_levelled : Value}
    {od_levels an_levels : Option Addr} {sl_levels : Array (Option Value)} {oc_levels kV_levels dc_levels pm_levels cd_levels ct_levels : Value}
    {od_coloured an_coloured : Option Addr} {sl_coloured : Array (Option Value)} {oc_coloured kV_coloured dc_coloured pm_coloured cd_coloured ct_coloured : Value}
    {od_recoloured an_recoloured : Option Addr} {sl_recoloured : Array (Option Value)} {oc_recoloured kV_recoloured dc_recoloured pm_recoloured cd_recoloured ct_recoloured : Value}
    {od_light an_light : Option Addr} {sl_light : Array (Option Value)} {oc_light kV_light dc_light pm_light cd_light ct_light : Value}
    {od_joined_value an_joined_value : Option Addr} {sl_joined_value : Array (Option Value)} {oc_joined_value kV_joined_value dc_joined_value pm_joined_value cd_joined_value ct_joined_value : Value}
    {od_joined an_joined : Option Addr} {sl_joined : Array (Option Value)} {oc_joined kV_joined dc_joined pm_joined cd_joined ct_joined : Value}
    {od_mixed an_mixed : Option Addr} {sl_mixed : Array (Option Value)} {oc_mixed kV_mixed dc_mixed pm_mixed cd_mixed ct_mixed : Value}
    {od_smooth an_smooth : Option Addr} {sl_smooth : Array (Option Value)} {oc_smooth kV_smooth dc_smooth pm_smooth cd_smooth ct_smooth : Value}
    {od_between an_between : Option Addr} {sl_between : Array (Option Value)} {oc_between kV_between dc_between pm_between cd_between ct_between : Value}
    {od_Layer___init__ an_Layer___init__ : Option Addr} {sl_Layer___init__ : Array (Option Value)} {oc_Layer___init__ kV_Layer___init__ dc_Layer___init__ pm_Layer___init__ cd_Layer___init__ ct_Layer___init__ : Value}
    {od_Layer_corner an_Layer_corner : Option Addr} {sl_Layer_corner : Array (Option Value)} {oc_Layer_corner kV_Layer_corner dc_Layer_corner pm_Layer_corner cd_Layer_corner ct_Layer_corner : Value}
    {od_Layer_value an_Layer_value : Option Addr} {sl_Layer_value : Array (Option Value)} {oc_Layer_value kV_Layer_value dc_Layer_value pm_Layer_value cd_Layer_value ct_Layer_value : Value}
    {od_noise an_noise : Option Addr} {sl_noise : Array (Option Value)} {oc_noise kV_noise dc_noise pm_noise cd_noise ct_noise : Value}
    {od_Refused___init__ an_Refused___init__ : Option Addr} {sl_Refused___init__ : Array (Option Value)} {oc_Refused___init__ kV_Refused___init__ dc_Refused___init__ pm_Refused___init__ cd_Refused___init__ ct_Refused___init__ : Value}
    {od_need an_need : Option Addr} {sl_need : Array (Option Value)} {oc_need kV_need dc_need pm_need cd_need ct_need : Value}
    {od_need_within an_need_within : Option Addr} {sl_need_within : Array (Option Value)} {oc_need_within kV_need_within dc_need_within pm_need_within cd_need_within ct_need_within : Value}
    {od_Desk___init__ an_Desk___init__ : Option Addr} {sl_Desk___init__ : Array (Option Value)} {oc_Desk___init__ kV_Desk___init__ dc_Desk___init__ pm_Desk___init__ cd_Desk___init__ ct_Desk___init__ : Value}
    {od_Desk_open_stack an_Desk_open_stack : Option Addr} {sl_Desk_open_stack : Array (Option Value)} {oc_Desk_open_stack kV_Desk_open_stack dc_Desk_open_stack pm_Desk_open_stack cd_Desk_open_stack ct_Desk_open_stack : Value}
    {od_Desk_size an_Desk_size : Option Addr} {sl_Desk_size : Array (Option Value)} {oc_Desk_size kV_Desk_size dc_Desk_size pm_Desk_size cd_Desk_size ct_Desk_size : Value}
    {od_Desk_need_pictures an_Desk_need_pictures : Option Addr} {sl_Desk_need_pictures : Array (Option Value)} {oc_Desk_need_pictures kV_Desk_need_pictures dc_Desk_need_pictures pm_Desk_need_pictures cd_Desk_need_pictures ct_Desk_need_pictures : Value}
    {od_Desk_push an_Desk_push : Option Addr} {sl_Desk_push : Array (Option Value)} {oc_Desk_push kV_Desk_push dc_Desk_push pm_Desk_push cd_Desk_push ct_Desk_push : Value}
    {od_Desk_need_room an_Desk_need_room : Option Addr} {sl_Desk_need_room : Array (Option Value)} {oc_Desk_need_room kV_Desk_need_room dc_Desk_need_room pm_Desk_need_room cd_Desk_need_room ct_Desk_need_room : Value}
    {od_Desk_replace an_Desk_replace : Option Addr} {sl_Desk_replace : Array (Option Value)} {oc_Desk_replace kV_Desk_replace dc_Desk_replace pm_Desk_replace cd_Desk_replace ct_Desk_replace : Value}
    {od_Desk_flat an_Desk_flat : Option Addr} {sl_Desk_flat : Array (Option Value)} {oc_Desk_flat kV_Desk_flat dc_Desk_flat pm_Desk_flat cd_Desk_flat ct_Desk_flat : Value}
    {od_Desk_noise an_Desk_noise : Option Addr} {sl_Desk_noise : Array (Option Value)} {oc_Desk_noise kV_Desk_noise dc_Desk_noise pm_Desk_noise cd_Desk_noise ct_Desk_noise : Value}
    {od_Desk_glow an_Desk_glow : Option Addr} {sl_Desk_glow : Array (Option Value)} {oc_Desk_glow kV_Desk_glow dc_Desk_glow pm_Desk_glow cd_Desk_glow ct_Desk_glow : Value}
    {od_Desk_box an_Desk_box : Option Addr} {sl_Desk_box : Array (Option Value)} {oc_Desk_box kV_Desk_box dc_Desk_box pm_Desk_box cd_Desk_box ct_Desk_box : Value}
    {od_Desk_blur an_Desk_blur : Option Addr} {sl_Desk_blur : Array (Option Value)} {oc_Desk_blur kV_Desk_blur dc_Desk_blur pm_Desk_blur cd_Desk_blur ct_Desk_blur : Value}
    {od_Desk_turn an_Desk_turn : Option Addr} {sl_Desk_turn : Array (Option Value)} {oc_Desk_turn kV_Desk_turn dc_Desk_turn pm_Desk_turn cd_Desk_turn ct_Desk_turn : Value}
    {od_Desk_bend an_Desk_bend : Option Addr} {sl_Desk_bend : Array (Option Value)} {oc_Desk_bend kV_Desk_bend dc_Desk_bend pm_Desk_bend cd_Desk_bend ct_Desk_bend : Value}
    {od_Desk_join an_Desk_join : Option Addr} {sl_Desk_join : Array (Option Value)} {oc_Desk_join kV_Desk_join dc_Desk_join pm_Desk_join cd_Desk_join ct_Desk_join : Value}
    {od_Desk_levels an_Desk_levels : Option Addr} {sl_Desk_levels : Array (Option Value)} {oc_Desk_levels kV_Desk_levels dc_Desk_levels pm_Desk_levels cd_Desk_levels ct_Desk_levels : Value}
    {od_Desk_colour an_Desk_colour : Option Addr} {sl_Desk_colour : Array (Option Value)} {oc_Desk_colour kV_Desk_colour dc_Desk_colour pm_Desk_colour cd_Desk_colour ct_Desk_colour : Value}
    {od_Desk_light an_Desk_light : Option Addr} {sl_Desk_light : Array (Option Value)} {oc_Desk_light kV_Desk_light dc_Desk_light pm_Desk_light cd_Desk_light ct_Desk_light : Value}
    {od_Desk_copy an_Desk_copy : Option Addr} {sl_Desk_copy : Array (Option Value)} {oc_Desk_copy kV_Desk_copy dc_Desk_copy pm_Desk_copy cd_Desk_copy ct_Desk_copy : Value}
    {od_Desk_swap an_Desk_swap : Option Addr} {sl_Desk_swap : Array (Option Value)} {oc_Desk_swap kV_Desk_swap dc_Desk_swap pm_Desk_swap cd_Desk_swap ct_Desk_swap : Value}
    {od_Desk_drop an_Desk_drop : Option Addr} {sl_Desk_drop : Array (Option Value)} {oc_Desk_drop kV_Desk_drop dc_Desk_drop pm_Desk_drop cd_Desk_drop ct_Desk_drop : Value}
    {od_Desk_pixel an_Desk_pixel : Option Addr} {sl_Desk_pixel : Array (Option Value)} {oc_Desk_pixel kV_Desk_pixel dc_Desk_pixel pm_Desk_pixel cd_Desk_pixel ct_Desk_pixel : Value}
    {od_Desk_read_bytes an_Desk_read_bytes : Option Addr} {sl_Desk_read_bytes : Array (Option Value)} {oc_Desk_read_bytes kV_Desk_read_bytes dc_Desk_read_bytes pm_Desk_read_bytes cd_Desk_read_bytes ct_Desk_read_bytes : Value}
    {od_Desk_read_words an_Desk_read_words : Option Addr} {sl_Desk_read_words : Array (Option Value)} {oc_Desk_read_words kV_Desk_read_words dc_Desk_read_words pm_Desk_read_words cd_Desk_read_words ct_Desk_read_words : Value}
    {od_Desk_early an_Desk_early : Option Addr} {sl_Desk_early : Array (Option Value)} {oc_Desk_early kV_Desk_early dc_Desk_early pm_Desk_early cd_Desk_early ct_Desk_early : Value}
    {od_Desk_later an_Desk_later : Option Addr} {sl_Desk_later : Array (Option Value)} {oc_Desk_later kV_Desk_later dc_Desk_later pm_Desk_later cd_Desk_later ct_Desk_later : Value}
    {od_Desk_answer an_Desk_answer : Option Addr} {sl_Desk_answer : Array (Option Value)} {oc_Desk_answer kV_Desk_answer dc_Desk_answer pm_Desk_answer cd_Desk_answer ct_Desk_answer : Value}
    {od_answers an_answers : Option Addr} {sl_answers : Array (Option Value)} {oc_answers kV_answers dc_answers pm_answers cd_answers ct_answers : Value}
    (aCS : PySem.W.nsIn K mainGlobals "Size" = some (some (.ref CS)))
    (aCL : PySem.W.nsIn K mainGlobals "Layer" = some (some (.ref CL)))
    (aCD : PySem.W.nsIn K mainGlobals "Desk" = some (some (.ref CD)))
    (aCR : PySem.W.nsIn K mainGlobals "Refused" = some (some (.ref CR)))
    (pgCS : PySem.W.plainGet K CS Str.empty = true)
    (hdCS : PySem.W.hasDictIn K CS = true)
    (poCS : PySem.W.plainOver K CS = true)
    (saCS : PySem.W.findIn K (.ref CS) "__setattr__" = some (some (.builtin "object.__setattr__")))
    (mkCS : PySem.W.makesIn K CS = true)
    (kcCS : PySem.W.keepIn K (.ref CS) = true)
    (pgCL : PySem.W.plainGet K CL Str.empty = true)
    (hdCL : PySem.W.hasDictIn K CL = true)
    (poCL : PySem.W.plainOver K CL = true)
    (saCL : PySem.W.findIn K (.ref CL) "__setattr__" = some (some (.builtin "object.__setattr__")))
    (mkCL : PySem.W.makesIn K CL = true)
    (kcCL : PySem.W.keepIn K (.ref CL) = true)
    (pgCD : PySem.W.plainGet K CD Str.empty = true)
    (hdCD : PySem.W.hasDictIn K CD = true)
    (poCD : PySem.W.plainOver K CD = true)
    (saCD : PySem.W.findIn K (.ref CD) "__setattr__" = some (some (.builtin "object.__setattr__")))
    (mkCD : PySem.W.makesIn K CD = true)
    (kcCD : PySem.W.keepIn K (.ref CD) = true)
    (nwidth : PySem.W.findIn K (.ref CS) "width" = some none)
    (nheight : PySem.W.findIn K (.ref CS) "height" = some none)
    (nside : PySem.W.findIn K (.ref CL) "side" = some none)
    (nacross : PySem.W.findIn K (.ref CL) "across" = some none)
    (ndown : PySem.W.findIn K (.ref CL) "down" = some none)
    (ncorners : PySem.W.findIn K (.ref CL) "corners" = some none)
    (nsizes : PySem.W.findIn K (.ref CD) "sizes" = some none)
    (nstack : PySem.W.findIn K (.ref CD) "stack" = some none)
    (cMOST : PySem.W.nsIn K mainGlobals "MOST" = some (some (.int (65535) tokMOST)))
    (cCHANNELS : PySem.W.nsIn K mainGlobals "CHANNELS" = some (some (.int (4) tokCHANNELS)))
    (cCOLOURS : PySem.W.nsIn K mainGlobals "COLOURS" = some (some (.int (3) tokCOLOURS)))
    (cUNIT : PySem.W.nsIn K mainGlobals "UNIT" = some (some (.int (256) tokUNIT)))
    (cFULL : PySem.W.nsIn K mainGlobals "FULL" = some (some (.int (65536) tokFULL)))
    (cMIDDLE : PySem.W.nsIn K mainGlobals "MIDDLE" = some (some (.int (32768) tokMIDDLE)))
    (cWORD : PySem.W.nsIn K mainGlobals "WORD" = some (some (.int (4294967296) tokWORD)))
    (cHALF : PySem.W.nsIn K mainGlobals "HALF" = some (some (.int (65536) tokHALF)))
    (cOUT : PySem.W.nsIn K mainGlobals "OUT" = some (some (.int (-2) tokOUT)))
    (cTOO_FEW : PySem.W.nsIn K mainGlobals "TOO_FEW" = some (some (.int (-4) tokTOO_FEW)))
    (cTOO_MANY : PySem.W.nsIn K mainGlobals "TOO_MANY" = some (some (.int (-5) tokTOO_MANY)))
    (cNO_STACK : PySem.W.nsIn K mainGlobals "NO_STACK" = some (some (.int (-7) tokNO_STACK)))
    (cMOST_PICTURES : PySem.W.nsIn K mainGlobals "MOST_PICTURES" = some (some (.int (8) tokMOST_PICTURES)))
    (gSCREEN : PySem.W.nsIn K mainGlobals "SCREEN" = some (some (.ref aS)))
    (lSCREEN : K.lookup aS = some ⟨.type "tuple", dSCREEN, .seq itsSCREEN nSCREEN, slSCREEN⟩)
    (gGIVEN : PySem.W.nsIn K mainGlobals "GIVEN" = some (some (.ref aG)))
    (lGIVEN : K.lookup aG = some ⟨.type "tuple", dGIVEN, .seq itsGIVEN nGIVEN, slGIVEN⟩)
    (blen : PySem.W.nsIn K mainGlobals "len" = some none)
    (bmin : PySem.W.nsIn K mainGlobals "min" = some none)
    (bmax : PySem.W.nsIn K mainGlobals "max" = some none)
    (babs : PySem.W.nsIn K mainGlobals "abs" = some none)
    (bsum : PySem.W.nsIn K mainGlobals "sum" = some none)
    (bzip : PySem.W.nsIn K mainGlobals "zip" = some none)
    (brange : PySem.W.nsIn K mainGlobals "range" = some none)
    (benumerate : PySem.W.nsIn K mainGlobals "enumerate" = some none)
    (xL : K.lookup CR = some (excClassObj nm q CR N bs [.type "ValueError", .type "Exception", .type "BaseException", .type "object"] true sn sub ab col dd m0 m1 m2 m3 m5 "ValueError.__new__"))
    (saR : PySem.W.findIn K (.ref CR) "__setattr__" = some (some (.builtin "object.__setattr__")))
    (gaR : PySem.W.findIn K (.ref CR) "__getattribute__" = some (some (.builtin "BaseException.__getattribute__")))
    (ggR : PySem.W.findIn K (.ref CR) "__getattr__" = some none)
    (ncR : PySem.W.findIn K (.ref CR) "code" = some none)
    (kR : PySem.W.keepIn K (.ref CR) = true)
    (eR : PySem.W.subIn K (.ref CR) (.type "BaseException") = some true)
    (tR : PySem.W.typeIn K (.ref CR) = some (.type "type"))
    (hR : PySem.W.hasDictIn K CR = true)
    (iR : PySem.W.isClsIn K CR = true)
    (sR : PySem.W.subIn K (.ref CR) (.ref CR) = some true)
    (a_clamped : PySem.W.nsIn K mainGlobals "clamped" = some (some (.ref f_clamped)))
    (l_clamped : K.lookup f_clamped = some ⟨oc_clamped, od_clamped, .func (PySem.W.fnOf "clamped" "clamped" (defArgs s_clamped) (defBody s_clamped) (defScope s_clamped) .none kV_clamped dc_clamped pm_clamped an_clamped cd_clamped ct_clamped), sl_clamped⟩)
    (c_clamped : PySem.W.codeIn K cd_clamped "clamped" = true)
    (k_clamped : PySem.W.keepIn K (.ref f_clamped) = true)
    (a_nearest : PySem.W.nsIn K mainGlobals "nearest" = some (some (.ref f_nearest)))
    (l_nearest : K.lookup f_nearest = some ⟨oc_nearest, od_nearest, .func (PySem.W.fnOf "nearest" "nearest" (defArgs s_nearest) (defBody s_nearest) (defScope s_nearest) .none kV_nearest dc_nearest pm_nearest an_nearest cd_nearest ct_nearest), sl_nearest⟩)
    (c_nearest : PySem.W.codeIn K cd_nearest "nearest" = true)
    (k_nearest : PySem.W.keepIn K (.ref f_nearest) = true)
    (a_power_of_two : PySem.W.nsIn K mainGlobals "power_of_two" = some (some (.ref f_power_of_two)))
    (l_power_of_two : K.lookup f_power_of_two = some ⟨oc_power_of_two, od_power_of_two, .func (PySem.W.fnOf "power_of_two" "power_of_two" (defArgs s_power_of_two) (defBody s_power_of_two) (defScope s_power_of_two) .none kV_power_of_two dc_power_of_two pm_power_of_two an_power_of_two cd_power_of_two ct_power_of_two), sl_power_of_two⟩)
    (c_power_of_two : PySem.W.codeIn K cd_power_of_two "power_of_two" = true)
    (k_power_of_two : PySem.W.keepIn K (.ref f_power_of_two) = true)
    (a_Size___init__ : PySem.W.findIn K (.ref CS) "__init__" = some (some (.ref f_Size___init__)))
    (i_Size___init__ : PySem.W.isFn K (.ref f_Size___init__) = true)
    (l_Size___init__ : K.lookup f_Size___init__ = some ⟨oc_Size___init__, od_Size___init__, .func (PySem.W.fnOf "__init__" "Size.__init__" (defArgs s_Size___init__) (defBody s_Size___init__) (defScope s_Size___init__) .none kV_Size___init__ dc_Size___init__ pm_Size___init__ an_Size___init__ cd_Size___init__ ct_Size___init__), sl_Size___init__⟩)
    (c_Size___init__ : PySem.W.codeIn K cd_Size___init__ "Size.__init__" = true)
    (k_Size___init__ : PySem.W.keepIn K (.ref f_Size___init__) = true)
    (a_Size_spots : PySem.W.findIn K (.ref CS) "spots" = some (some (.ref f_Size_spots)))
    (i_Size_spots : PySem.W.isFn K (.ref f_Size_spots) = true)
    (l_Size_spots : K.lookup f_Size_spots = some ⟨oc_Size_spots, od_Size_spots, .func (PySem.W.fnOf "spots" "Size.spots" (defArgs s_Size_spots) (defBody s_Size_spots) (defScope s_Size_spots) .none kV_Size_spots dc_Size_spots pm_Size_spots an_Size_spots cd_Size_spots ct_Size_spots), sl_Size_spots⟩)
    (c_Size_spots : PySem.W.codeIn K cd_Size_spots "Size.spots" = true)
    (k_Size_spots : PySem.W.keepIn K (.ref f_Size_spots) = true)
    (a_Size_value : PySem.W.findIn K (.ref CS) "value" = some (some (.ref f_Size_value)))
    (i_Size_value : PySem.W.isFn K (.ref f_Size_value) = true)
    (l_Size_value : K.lookup f_Size_value = some ⟨oc_Size_value, od_Size_value, .func (PySem.W.fnOf "value" "Size.value" (defArgs s_Size_value) (defBody s_Size_value) (defScope s_Size_value) .none kV_Size_value dc_Size_value pm_Size_value an_Size_value cd_Size_value ct_Size_value), sl_Size_value⟩)
    (c_Size_value : PySem.W.codeIn K cd_Size_value "Size.value" = true)
    (k_Size_value : PySem.W.keepIn K (.ref f_Size_value) = true)
    (a_Size_sample : PySem.W.findIn K (.ref CS) "sample" = some (some (.ref f_Size_sample)))
    (i_Size_sample : PySem.W.isFn K (.ref f_Size_sample) = true)
    (l_Size_sample : K.lookup f_Size_sample = some ⟨oc_Size_sample, od_Size_sample, .func (PySem.W.fnOf "sample" "Size.sample" (defArgs s_Size_sample) (defBody s_Size_sample) (defScope s_Size_sample) .none kV_Size_sample dc_Size_sample pm_Size_sample an_Size_sample cd_Size_sample ct_Size_sample), sl_Size_sample⟩)
    (c_Size_sample : PySem.W.codeIn K cd_Size_sample "Size.sample" = true)
    (k_Size_sample : PySem.W.keepIn K (.ref f_Size_sample) = true)
    (a_flat : PySem.W.nsIn K mainGlobals "flat_pictures" = some (some (.ref f_flat)))
    (l_flat : K.lookup f_flat = some ⟨oc_flat, od_flat, .func (PySem.W.fnOf "flat" "flat" (defArgs s_flat) (defBody s_flat) (defScope s_flat) .none kV_flat dc_flat pm_flat an_flat cd_flat ct_flat), sl_flat⟩)
    (c_flat : PySem.W.codeIn K cd_flat "flat" = true)
    (k_flat : PySem.W.keepIn K (.ref f_flat) = true)
    (a_dithered : PySem.W.nsIn K mainGlobals "dithered" = some (some (.ref f_dithered)))
    (l_dithered : K.lookup f_dithered = some ⟨oc_dithered, od_dithered, .func (PySem.W.fnOf "dithered" "dithered" (defArgs s_dithered) (defBody s_dithered) (defScope s_dithered) .none kV_dithered dc_dithered pm_dithered an_dithered cd_dithered ct_dithered), sl_dithered⟩)
    (c_dithered : PySem.W.codeIn K cd_dithered "dithered" = true)
    (k_dithered : PySem.W.keepIn K (.ref f_dithered) = true)
    (a_strength_at : PySem.W.nsIn K mainGlobals "strength_at" = some (some (.ref f_strength_at)))
    (l_strength_at : K.lookup f_strength_at = some ⟨oc_strength_at, od_strength_at, .func (PySem.W.fnOf "strength_at" "strength_at" (defArgs s_strength_at) (defBody s_strength_at) (defScope s_strength_at) .none kV_strength_at dc_strength_at pm_strength_at an_strength_at cd_strength_at ct_strength_at), sl_strength_at⟩)
    (c_strength_at : PySem.W.codeIn K cd_strength_at "strength_at" = true)
    (k_strength_at : PySem.W.keepIn K (.ref f_strength_at) = true)
    (a_glow : PySem.W.nsIn K mainGlobals "glow_changes" = some (some (.ref f_glow)))
    (l_glow : K.lookup f_glow = some ⟨oc_glow, od_glow, .func (PySem.W.fnOf "glow" "glow" (defArgs s_glow) (defBody s_glow) (defScope s_glow) .none kV_glow dc_glow pm_glow an_glow cd_glow ct_glow), sl_glow⟩)
    (c_glow : PySem.W.codeIn K cd_glow "glow" = true)
    (k_glow : PySem.W.keepIn K (.ref f_glow) = true)
    (a_box : PySem.W.nsIn K mainGlobals "box_changes" = some (some (.ref f_box)))
    (l_box : K.lookup f_box = some ⟨oc_box, od_box, .func (PySem.W.fnOf "box" "box" (defArgs s_box) (defBody s_box) (defScope s_box) .none kV_box dc_box pm_box an_box cd_box ct_box), sl_box⟩)
    (c_box : PySem.W.codeIn K cd_box "box" = true)
    (k_box : PySem.W.keepIn K (.ref f_box) = true)
    (a_blurred_row : PySem.W.nsIn K mainGlobals "blurred_row" = some (some (.ref f_blurred_row)))
    (l_blurred_row : K.lookup f_blurred_row = some ⟨oc_blurred_row, od_blurred_row, .func (PySem.W.fnOf "blurred_row" "blurred_row" (defArgs s_blurred_row) (defBody s_blurred_row) (defScope s_blurred_row) .none kV_blurred_row dc_blurred_row pm_blurred_row an_blurred_row cd_blurred_row ct_blurred_row), sl_blurred_row⟩)
    (c_blurred_row : PySem.W.codeIn K cd_blurred_row "blurred_row" = true)
    (k_blurred_row : PySem.W.keepIn K (.ref f_blurred_row) = true)
    (a_turned_over : PySem.W.nsIn K mainGlobals "turned_over" = some (some (.ref f_turned_over)))
    (l_turned_over : K.lookup f_turned_over = some ⟨oc_turned_over, od_turned_over, .func (PySem.W.fnOf "turned_over" "turned_over" (defArgs s_turned_over) (defBody s_turned_over) (defScope s_turned_over) .none kV_turned_over dc_turned_over pm_turned_over an_turned_over cd_turned_over ct_turned_over), sl_turned_over⟩)
    (c_turned_over : PySem.W.codeIn K cd_turned_over "turned_over" = true)
    (k_turned_over : PySem.W.keepIn K (.ref f_turned_over) = true)
    (a_blurred_rows : PySem.W.nsIn K mainGlobals "blurred_rows" = some (some (.ref f_blurred_rows)))
    (l_blurred_rows : K.lookup f_blurred_rows = some ⟨oc_blurred_rows, od_blurred_rows, .func (PySem.W.fnOf "blurred_rows" "blurred_rows" (defArgs s_blurred_rows) (defBody s_blurred_rows) (defScope s_blurred_rows) .none kV_blurred_rows dc_blurred_rows pm_blurred_rows an_blurred_rows cd_blurred_rows ct_blurred_rows), sl_blurred_rows⟩)
    (c_blurred_rows : PySem.W.codeIn K cd_blurred_rows "blurred_rows" = true)
    (k_blurred_rows : PySem.W.keepIn K (.ref f_blurred_rows) = true)
    (a_blurred : PySem.W.nsIn K mainGlobals "blurred" = some (some (.ref f_blurred)))
    (l_blurred : K.lookup f_blurred = some ⟨oc_blurred, od_blurred, .func (PySem.W.fnOf "blurred" "blurred" (defArgs s_blurred) (defBody s_blurred) (defScope s_blurred) .none kV_blurred dc_blurred pm_blurred an_blurred cd_blurred ct_blurred), sl_blurred⟩)
    (c_blurred : PySem.W.codeIn K cd_blurred "blurred" = true)
    (k_blurred : PySem.W.keepIn K (.ref f_blurred) = true)
    (a_blur : PySem.W.nsIn K mainGlobals "blur_changes" = some (some (.ref f_blur)))
    (l_blur : K.lookup f_blur = some ⟨oc_blur, od_blur, .func (PySem.W.fnOf "blur" "blur" (defArgs s_blur) (defBody s_blur) (defScope s_blur) .none kV_blur dc_blur pm_blur an_blur cd_blur ct_blur), sl_blur⟩)
    (c_blur : PySem.W.codeIn K cd_blur "blur" = true)
    (k_blur : PySem.W.keepIn K (.ref f_blur) = true)
    (a_turn : PySem.W.nsIn K mainGlobals "turn_changes" = some (some (.ref f_turn)))
    (l_turn : K.lookup f_turn = some ⟨oc_turn, od_turn, .func (PySem.W.fnOf "turn" "turn" (defArgs s_turn) (defBody s_turn) (defScope s_turn) .none kV_turn dc_turn pm_turn an_turn cd_turn ct_turn), sl_turn⟩)
    (c_turn : PySem.W.codeIn K cd_turn "turn" = true)
    (k_turn : PySem.W.keepIn K (.ref f_turn) = true)
    (a_sampled : PySem.W.nsIn K mainGlobals "sampled" = some (some (.ref f_sampled)))
    (l_sampled : K.lookup f_sampled = some ⟨oc_sampled, od_sampled, .func (PySem.W.fnOf "sampled" "sampled" (defArgs s_sampled) (defBody s_sampled) (defScope s_sampled) .none kV_sampled dc_sampled pm_sampled an_sampled cd_sampled ct_sampled), sl_sampled⟩)
    (c_sampled : PySem.W.codeIn K cd_sampled "sampled" = true)
    (k_sampled : PySem.W.keepIn K (.ref f_sampled) = true)
    (a_bend : PySem.W.nsIn K mainGlobals "bend_changes" = some (some (.ref f_bend)))
    (l_bend : K.lookup f_bend = some ⟨oc_bend, od_bend, .func (PySem.W.fnOf "bend" "bend" (defArgs s_bend) (defBody s_bend) (defScope s_bend) .none kV_bend dc_bend pm_bend an_bend cd_bend ct_bend), sl_bend⟩)
    (c_bend : PySem.W.codeIn K cd_bend "bend" = true)
    (k_bend : PySem.W.keepIn K (.ref f_bend) = true)
    (a_levelled : PySem.W.nsIn K mainGlobals "levelled" = some (some (.ref f_levelled)))
    (l_levelled : K.lookup f_levelled = some ⟨oc_levelled, od_levelled, .func (PySem.W.fnOf "levelled" "levelled" (defArgs s_levelled) (defBody s_levelled) (defScope s_levelled) .none kV_levelled dc_levelled pm_levelled an_levelled cd_levelled ct_levelled), sl_levelled⟩)
    (c_levelled : PySem.W.codeIn K cd_levelled "levelled" = true)
    (k_levelled : PySem.W.keepIn K (.ref f_levelled) = true)
    (a_levels : PySem.W.nsIn K mainGlobals "levels_changes" = some (some (.ref f_levels)))
    (l_levels : K.lookup f_levels = some ⟨oc_levels, od_levels, .func (PySem.W.fnOf "levels" "levels" (defArgs s_levels) (defBody s_levels) (defScope s_levels) .none kV_levels dc_levels pm_levels an_levels cd_levels ct_levels), sl_levels⟩)
    (c_levels : PySem.W.codeIn K cd_levels "levels" = true)
    (k_levels : PySem.W.keepIn K (.ref f_levels) = true)
    (a_coloured : PySem.W.nsIn K mainGlobals "coloured" = some (some (.ref f_coloured)))
    (l_coloured : K.lookup f_coloured = some ⟨oc_coloured, od_coloured, .func (PySem.W.fnOf "coloured" "coloured" (defArgs s_coloured) (defBody s_coloured) (defScope s_coloured) .none kV_coloured dc_coloured pm_coloured an_coloured cd_coloured ct_coloured), sl_coloured⟩)
    (c_coloured : PySem.W.codeIn K cd_coloured "coloured" = true)
    (k_coloured : PySem.W.keepIn K (.ref f_coloured) = true)
    (a_recoloured : PySem.W.nsIn K mainGlobals "recoloured" = some (some (.ref f_recoloured)))
    (l_recoloured : K.lookup f_recoloured = some ⟨oc_recoloured, od_recoloured, .func (PySem.W.fnOf "recoloured" "recoloured" (defArgs s_recoloured) (defBody s_recoloured) (defScope s_recoloured) .none kV_recoloured dc_recoloured pm_recoloured an_recoloured cd_recoloured ct_recoloured), sl_recoloured⟩)
    (c_recoloured : PySem.W.codeIn K cd_recoloured "recoloured" = true)
    (k_recoloured : PySem.W.keepIn K (.ref f_recoloured) = true)
    (a_light : PySem.W.nsIn K mainGlobals "light_changes" = some (some (.ref f_light)))
    (l_light : K.lookup f_light = some ⟨oc_light, od_light, .func (PySem.W.fnOf "light" "light" (defArgs s_light) (defBody s_light) (defScope s_light) .none kV_light dc_light pm_light an_light cd_light ct_light), sl_light⟩)
    (c_light : PySem.W.codeIn K cd_light "light" = true)
    (k_light : PySem.W.keepIn K (.ref f_light) = true)
    (a_joined_value : PySem.W.nsIn K mainGlobals "joined_value" = some (some (.ref f_joined_value)))
    (l_joined_value : K.lookup f_joined_value = some ⟨oc_joined_value, od_joined_value, .func (PySem.W.fnOf "joined_value" "joined_value" (defArgs s_joined_value) (defBody s_joined_value) (defScope s_joined_value) .none kV_joined_value dc_joined_value pm_joined_value an_joined_value cd_joined_value ct_joined_value), sl_joined_value⟩)
    (c_joined_value : PySem.W.codeIn K cd_joined_value "joined_value" = true)
    (k_joined_value : PySem.W.keepIn K (.ref f_joined_value) = true)
    (a_joined : PySem.W.nsIn K mainGlobals "joined" = some (some (.ref f_joined)))
    (l_joined : K.lookup f_joined = some ⟨oc_joined, od_joined, .func (PySem.W.fnOf "joined" "joined" (defArgs s_joined) (defBody s_joined) (defScope s_joined) .none kV_joined dc_joined pm_joined an_joined cd_joined ct_joined), sl_joined⟩)
    (c_joined : PySem.W.codeIn K cd_joined "joined" = true)
    (k_joined : PySem.W.keepIn K (.ref f_joined) = true)
    (a_mixed : PySem.W.nsIn K mainGlobals "mixed" = some (some (.ref f_mixed)))
    (l_mixed : K.lookup f_mixed = some ⟨oc_mixed, od_mixed, .func (PySem.W.fnOf "mixed" "mixed" (defArgs s_mixed) (defBody s_mixed) (defScope s_mixed) .none kV_mixed dc_mixed pm_mixed an_mixed cd_mixed ct_mixed), sl_mixed⟩)
    (c_mixed : PySem.W.codeIn K cd_mixed "mixed" = true)
    (k_mixed : PySem.W.keepIn K (.ref f_mixed) = true)
    (a_smooth : PySem.W.nsIn K mainGlobals "smooth" = some (some (.ref f_smooth)))
    (l_smooth : K.lookup f_smooth = some ⟨oc_smooth, od_smooth, .func (PySem.W.fnOf "smooth" "smooth" (defArgs s_smooth) (defBody s_smooth) (defScope s_smooth) .none kV_smooth dc_smooth pm_smooth an_smooth cd_smooth ct_smooth), sl_smooth⟩)
    (c_smooth : PySem.W.codeIn K cd_smooth "smooth" = true)
    (k_smooth : PySem.W.keepIn K (.ref f_smooth) = true)
    (a_between : PySem.W.nsIn K mainGlobals "between" = some (some (.ref f_between)))
    (l_between : K.lookup f_between = some ⟨oc_between, od_between, .func (PySem.W.fnOf "between" "between" (defArgs s_between) (defBody s_between) (defScope s_between) .none kV_between dc_between pm_between an_between cd_between ct_between), sl_between⟩)
    (c_between : PySem.W.codeIn K cd_between "between" = true)
    (k_between : PySem.W.keepIn K (.ref f_between) = true)
    (a_Layer___init__ : PySem.W.findIn K (.ref CL) "__init__" = some (some (.ref f_Layer___init__)))
    (i_Layer___init__ : PySem.W.isFn K (.ref f_Layer___init__) = true)
    (l_Layer___init__ : K.lookup f_Layer___init__ = some ⟨oc_Layer___init__, od_Layer___init__, .func (PySem.W.fnOf "__init__" "Layer.__init__" (defArgs s_Layer___init__) (defBody s_Layer___init__) (defScope s_Layer___init__) .none kV_Layer___init__ dc_Layer___init__ pm_Layer___init__ an_Layer___init__ cd_Layer___init__ ct_Layer___init__), sl_Layer___init__⟩)
    (c_Layer___init__ : PySem.W.codeIn K cd_Layer___init__ "Layer.__init__" = true)
    (k_Layer___init__ : PySem.W.keepIn K (.ref f_Layer___init__) = true)
    (a_Layer_corner : PySem.W.findIn K (.ref CL) "corner" = some (some (.ref f_Layer_corner)))
    (i_Layer_corner : PySem.W.isFn K (.ref f_Layer_corner) = true)
    (l_Layer_corner : K.lookup f_Layer_corner = some ⟨oc_Layer_corner, od_Layer_corner, .func (PySem.W.fnOf "corner" "Layer.corner" (defArgs s_Layer_corner) (defBody s_Layer_corner) (defScope s_Layer_corner) .none kV_Layer_corner dc_Layer_corner pm_Layer_corner an_Layer_corner cd_Layer_corner ct_Layer_corner), sl_Layer_corner⟩)
    (c_Layer_corner : PySem.W.codeIn K cd_Layer_corner "Layer.corner" = true)
    (k_Layer_corner : PySem.W.keepIn K (.ref f_Layer_corner) = true)
    (a_Layer_value : PySem.W.findIn K (.ref CL) "value" = some (some (.ref f_Layer_value)))
    (i_Layer_value : PySem.W.isFn K (.ref f_Layer_value) = true)
    (l_Layer_value : K.lookup f_Layer_value = some ⟨oc_Layer_value, od_Layer_value, .func (PySem.W.fnOf "value" "Layer.value" (defArgs s_Layer_value) (defBody s_Layer_value) (defScope s_Layer_value) .none kV_Layer_value dc_Layer_value pm_Layer_value an_Layer_value cd_Layer_value ct_Layer_value), sl_Layer_value⟩)
    (c_Layer_value : PySem.W.codeIn K cd_Layer_value "Layer.value" = true)
    (k_Layer_value : PySem.W.keepIn K (.ref f_Layer_value) = true)
    (a_noise : PySem.W.nsIn K mainGlobals "noise_noises" = some (some (.ref f_noise)))
    (l_noise : K.lookup f_noise = some ⟨oc_noise, od_noise, .func (PySem.W.fnOf "noise" "noise" (defArgs s_noise) (defBody s_noise) (defScope s_noise) .none kV_noise dc_noise pm_noise an_noise cd_noise ct_noise), sl_noise⟩)
    (c_noise : PySem.W.codeIn K cd_noise "noise" = true)
    (k_noise : PySem.W.keepIn K (.ref f_noise) = true)
    (a_Refused___init__ : PySem.W.findIn K (.ref CR) "__init__" = some (some (.ref f_Refused___init__)))
    (i_Refused___init__ : PySem.W.typeIn K (.ref f_Refused___init__) = some (.type "function"))
    (l_Refused___init__ : K.lookup f_Refused___init__ = some ⟨oc_Refused___init__, od_Refused___init__, .func (PySem.W.fnOf "__init__" "Refused.__init__" (defArgs s_Refused___init__) (defBody s_Refused___init__) (defScope s_Refused___init__) .none kV_Refused___init__ dc_Refused___init__ pm_Refused___init__ an_Refused___init__ cd_Refused___init__ ct_Refused___init__), sl_Refused___init__⟩)
    (c_Refused___init__ : PySem.W.codeIn K cd_Refused___init__ "Refused.__init__" = true)
    (k_Refused___init__ : PySem.W.keepIn K (.ref f_Refused___init__) = true)
    (a_need : PySem.W.nsIn K mainGlobals "need" = some (some (.ref f_need)))
    (l_need : K.lookup f_need = some ⟨oc_need, od_need, .func (PySem.W.fnOf "need" "need" (defArgs s_need) (defBody s_need) (defScope s_need) .none kV_need dc_need pm_need an_need cd_need ct_need), sl_need⟩)
    (c_need : PySem.W.codeIn K cd_need "need" = true)
    (k_need : PySem.W.keepIn K (.ref f_need) = true)
    (a_need_within : PySem.W.nsIn K mainGlobals "need_within" = some (some (.ref f_need_within)))
    (l_need_within : K.lookup f_need_within = some ⟨oc_need_within, od_need_within, .func (PySem.W.fnOf "need_within" "need_within" (defArgs s_need_within) (defBody s_need_within) (defScope s_need_within) .none kV_need_within dc_need_within pm_need_within an_need_within cd_need_within ct_need_within), sl_need_within⟩)
    (c_need_within : PySem.W.codeIn K cd_need_within "need_within" = true)
    (k_need_within : PySem.W.keepIn K (.ref f_need_within) = true)
    (a_Desk___init__ : PySem.W.findIn K (.ref CD) "__init__" = some (some (.ref f_Desk___init__)))
    (i_Desk___init__ : PySem.W.isFn K (.ref f_Desk___init__) = true)
    (l_Desk___init__ : K.lookup f_Desk___init__ = some ⟨oc_Desk___init__, od_Desk___init__, .func (PySem.W.fnOf "__init__" "Desk.__init__" (defArgs s_Desk___init__) (defBody s_Desk___init__) (defScope s_Desk___init__) .none kV_Desk___init__ dc_Desk___init__ pm_Desk___init__ an_Desk___init__ cd_Desk___init__ ct_Desk___init__), sl_Desk___init__⟩)
    (c_Desk___init__ : PySem.W.codeIn K cd_Desk___init__ "Desk.__init__" = true)
    (k_Desk___init__ : PySem.W.keepIn K (.ref f_Desk___init__) = true)
    (a_Desk_open_stack : PySem.W.findIn K (.ref CD) "open_stack" = some (some (.ref f_Desk_open_stack)))
    (i_Desk_open_stack : PySem.W.isFn K (.ref f_Desk_open_stack) = true)
    (l_Desk_open_stack : K.lookup f_Desk_open_stack = some ⟨oc_Desk_open_stack, od_Desk_open_stack, .func (PySem.W.fnOf "open_stack" "Desk.open_stack" (defArgs s_Desk_open_stack) (defBody s_Desk_open_stack) (defScope s_Desk_open_stack) .none kV_Desk_open_stack dc_Desk_open_stack pm_Desk_open_stack an_Desk_open_stack cd_Desk_open_stack ct_Desk_open_stack), sl_Desk_open_stack⟩)
    (c_Desk_open_stack : PySem.W.codeIn K cd_Desk_open_stack "Desk.open_stack" = true)
    (k_Desk_open_stack : PySem.W.keepIn K (.ref f_Desk_open_stack) = true)
    (a_Desk_size : PySem.W.findIn K (.ref CD) "size" = some (some (.ref f_Desk_size)))
    (i_Desk_size : PySem.W.isFn K (.ref f_Desk_size) = true)
    (l_Desk_size : K.lookup f_Desk_size = some ⟨oc_Desk_size, od_Desk_size, .func (PySem.W.fnOf "size" "Desk.size" (defArgs s_Desk_size) (defBody s_Desk_size) (defScope s_Desk_size) .none kV_Desk_size dc_Desk_size pm_Desk_size an_Desk_size cd_Desk_size ct_Desk_size), sl_Desk_size⟩)
    (c_Desk_size : PySem.W.codeIn K cd_Desk_size "Desk.size" = true)
    (k_Desk_size : PySem.W.keepIn K (.ref f_Desk_size) = true)
    (a_Desk_need_pictures : PySem.W.findIn K (.ref CD) "need_pictures" = some (some (.ref f_Desk_need_pictures)))
    (i_Desk_need_pictures : PySem.W.isFn K (.ref f_Desk_need_pictures) = true)
    (l_Desk_need_pictures : K.lookup f_Desk_need_pictures = some ⟨oc_Desk_need_pictures, od_Desk_need_pictures, .func (PySem.W.fnOf "need_pictures" "Desk.need_pictures" (defArgs s_Desk_need_pictures) (defBody s_Desk_need_pictures) (defScope s_Desk_need_pictures) .none kV_Desk_need_pictures dc_Desk_need_pictures pm_Desk_need_pictures an_Desk_need_pictures cd_Desk_need_pictures ct_Desk_need_pictures), sl_Desk_need_pictures⟩)
    (c_Desk_need_pictures : PySem.W.codeIn K cd_Desk_need_pictures "Desk.need_pictures" = true)
    (k_Desk_need_pictures : PySem.W.keepIn K (.ref f_Desk_need_pictures) = true)
    (a_Desk_push : PySem.W.findIn K (.ref CD) "push" = some (some (.ref f_Desk_push)))
    (i_Desk_push : PySem.W.isFn K (.ref f_Desk_push) = true)
    (l_Desk_push : K.lookup f_Desk_push = some ⟨oc_Desk_push, od_Desk_push, .func (PySem.W.fnOf "push" "Desk.push" (defArgs s_Desk_push) (defBody s_Desk_push) (defScope s_Desk_push) .none kV_Desk_push dc_Desk_push pm_Desk_push an_Desk_push cd_Desk_push ct_Desk_push), sl_Desk_push⟩)
    (c_Desk_push : PySem.W.codeIn K cd_Desk_push "Desk.push" = true)
    (k_Desk_push : PySem.W.keepIn K (.ref f_Desk_push) = true)
    (a_Desk_need_room : PySem.W.findIn K (.ref CD) "need_room" = some (some (.ref f_Desk_need_room)))
    (i_Desk_need_room : PySem.W.isFn K (.ref f_Desk_need_room) = true)
    (l_Desk_need_room : K.lookup f_Desk_need_room = some ⟨oc_Desk_need_room, od_Desk_need_room, .func (PySem.W.fnOf "need_room" "Desk.need_room" (defArgs s_Desk_need_room) (defBody s_Desk_need_room) (defScope s_Desk_need_room) .none kV_Desk_need_room dc_Desk_need_room pm_Desk_need_room an_Desk_need_room cd_Desk_need_room ct_Desk_need_room), sl_Desk_need_room⟩)
    (c_Desk_need_room : PySem.W.codeIn K cd_Desk_need_room "Desk.need_room" = true)
    (k_Desk_need_room : PySem.W.keepIn K (.ref f_Desk_need_room) = true)
    (a_Desk_replace : PySem.W.findIn K (.ref CD) "replace" = some (some (.ref f_Desk_replace)))
    (i_Desk_replace : PySem.W.isFn K (.ref f_Desk_replace) = true)
    (l_Desk_replace : K.lookup f_Desk_replace = some ⟨oc_Desk_replace, od_Desk_replace, .func (PySem.W.fnOf "replace" "Desk.replace" (defArgs s_Desk_replace) (defBody s_Desk_replace) (defScope s_Desk_replace) .none kV_Desk_replace dc_Desk_replace pm_Desk_replace an_Desk_replace cd_Desk_replace ct_Desk_replace), sl_Desk_replace⟩)
    (c_Desk_replace : PySem.W.codeIn K cd_Desk_replace "Desk.replace" = true)
    (k_Desk_replace : PySem.W.keepIn K (.ref f_Desk_replace) = true)
    (a_Desk_flat : PySem.W.findIn K (.ref CD) "flat" = some (some (.ref f_Desk_flat)))
    (i_Desk_flat : PySem.W.isFn K (.ref f_Desk_flat) = true)
    (l_Desk_flat : K.lookup f_Desk_flat = some ⟨oc_Desk_flat, od_Desk_flat, .func (PySem.W.fnOf "flat" "Desk.flat" (defArgs s_Desk_flat) (defBody s_Desk_flat) (defScope s_Desk_flat) .none kV_Desk_flat dc_Desk_flat pm_Desk_flat an_Desk_flat cd_Desk_flat ct_Desk_flat), sl_Desk_flat⟩)
    (c_Desk_flat : PySem.W.codeIn K cd_Desk_flat "Desk.flat" = true)
    (k_Desk_flat : PySem.W.keepIn K (.ref f_Desk_flat) = true)
    (a_Desk_noise : PySem.W.findIn K (.ref CD) "noise" = some (some (.ref f_Desk_noise)))
    (i_Desk_noise : PySem.W.isFn K (.ref f_Desk_noise) = true)
    (l_Desk_noise : K.lookup f_Desk_noise = some ⟨oc_Desk_noise, od_Desk_noise, .func (PySem.W.fnOf "noise" "Desk.noise" (defArgs s_Desk_noise) (defBody s_Desk_noise) (defScope s_Desk_noise) .none kV_Desk_noise dc_Desk_noise pm_Desk_noise an_Desk_noise cd_Desk_noise ct_Desk_noise), sl_Desk_noise⟩)
    (c_Desk_noise : PySem.W.codeIn K cd_Desk_noise "Desk.noise" = true)
    (k_Desk_noise : PySem.W.keepIn K (.ref f_Desk_noise) = true)
    (a_Desk_glow : PySem.W.findIn K (.ref CD) "glow" = some (some (.ref f_Desk_glow)))
    (i_Desk_glow : PySem.W.isFn K (.ref f_Desk_glow) = true)
    (l_Desk_glow : K.lookup f_Desk_glow = some ⟨oc_Desk_glow, od_Desk_glow, .func (PySem.W.fnOf "glow" "Desk.glow" (defArgs s_Desk_glow) (defBody s_Desk_glow) (defScope s_Desk_glow) .none kV_Desk_glow dc_Desk_glow pm_Desk_glow an_Desk_glow cd_Desk_glow ct_Desk_glow), sl_Desk_glow⟩)
    (c_Desk_glow : PySem.W.codeIn K cd_Desk_glow "Desk.glow" = true)
    (k_Desk_glow : PySem.W.keepIn K (.ref f_Desk_glow) = true)
    (a_Desk_box : PySem.W.findIn K (.ref CD) "box" = some (some (.ref f_Desk_box)))
    (i_Desk_box : PySem.W.isFn K (.ref f_Desk_box) = true)
    (l_Desk_box : K.lookup f_Desk_box = some ⟨oc_Desk_box, od_Desk_box, .func (PySem.W.fnOf "box" "Desk.box" (defArgs s_Desk_box) (defBody s_Desk_box) (defScope s_Desk_box) .none kV_Desk_box dc_Desk_box pm_Desk_box an_Desk_box cd_Desk_box ct_Desk_box), sl_Desk_box⟩)
    (c_Desk_box : PySem.W.codeIn K cd_Desk_box "Desk.box" = true)
    (k_Desk_box : PySem.W.keepIn K (.ref f_Desk_box) = true)
    (a_Desk_blur : PySem.W.findIn K (.ref CD) "blur" = some (some (.ref f_Desk_blur)))
    (i_Desk_blur : PySem.W.isFn K (.ref f_Desk_blur) = true)
    (l_Desk_blur : K.lookup f_Desk_blur = some ⟨oc_Desk_blur, od_Desk_blur, .func (PySem.W.fnOf "blur" "Desk.blur" (defArgs s_Desk_blur) (defBody s_Desk_blur) (defScope s_Desk_blur) .none kV_Desk_blur dc_Desk_blur pm_Desk_blur an_Desk_blur cd_Desk_blur ct_Desk_blur), sl_Desk_blur⟩)
    (c_Desk_blur : PySem.W.codeIn K cd_Desk_blur "Desk.blur" = true)
    (k_Desk_blur : PySem.W.keepIn K (.ref f_Desk_blur) = true)
    (a_Desk_turn : PySem.W.findIn K (.ref CD) "turn" = some (some (.ref f_Desk_turn)))
    (i_Desk_turn : PySem.W.isFn K (.ref f_Desk_turn) = true)
    (l_Desk_turn : K.lookup f_Desk_turn = some ⟨oc_Desk_turn, od_Desk_turn, .func (PySem.W.fnOf "turn" "Desk.turn" (defArgs s_Desk_turn) (defBody s_Desk_turn) (defScope s_Desk_turn) .none kV_Desk_turn dc_Desk_turn pm_Desk_turn an_Desk_turn cd_Desk_turn ct_Desk_turn), sl_Desk_turn⟩)
    (c_Desk_turn : PySem.W.codeIn K cd_Desk_turn "Desk.turn" = true)
    (k_Desk_turn : PySem.W.keepIn K (.ref f_Desk_turn) = true)
    (a_Desk_bend : PySem.W.findIn K (.ref CD) "bend" = some (some (.ref f_Desk_bend)))
    (i_Desk_bend : PySem.W.isFn K (.ref f_Desk_bend) = true)
    (l_Desk_bend : K.lookup f_Desk_bend = some ⟨oc_Desk_bend, od_Desk_bend, .func (PySem.W.fnOf "bend" "Desk.bend" (defArgs s_Desk_bend) (defBody s_Desk_bend) (defScope s_Desk_bend) .none kV_Desk_bend dc_Desk_bend pm_Desk_bend an_Desk_bend cd_Desk_bend ct_Desk_bend), sl_Desk_bend⟩)
    (c_Desk_bend : PySem.W.codeIn K cd_Desk_bend "Desk.bend" = true)
    (k_Desk_bend : PySem.W.keepIn K (.ref f_Desk_bend) = true)
    (a_Desk_join : PySem.W.findIn K (.ref CD) "join" = some (some (.ref f_Desk_join)))
    (i_Desk_join : PySem.W.isFn K (.ref f_Desk_join) = true)
    (l_Desk_join : K.lookup f_Desk_join = some ⟨oc_Desk_join, od_Desk_join, .func (PySem.W.fnOf "join" "Desk.join" (defArgs s_Desk_join) (defBody s_Desk_join) (defScope s_Desk_join) .none kV_Desk_join dc_Desk_join pm_Desk_join an_Desk_join cd_Desk_join ct_Desk_join), sl_Desk_join⟩)
    (c_Desk_join : PySem.W.codeIn K cd_Desk_join "Desk.join" = true)
    (k_Desk_join : PySem.W.keepIn K (.ref f_Desk_join) = true)
    (a_Desk_levels : PySem.W.findIn K (.ref CD) "levels" = some (some (.ref f_Desk_levels)))
    (i_Desk_levels : PySem.W.isFn K (.ref f_Desk_levels) = true)
    (l_Desk_levels : K.lookup f_Desk_levels = some ⟨oc_Desk_levels, od_Desk_levels, .func (PySem.W.fnOf "levels" "Desk.levels" (defArgs s_Desk_levels) (defBody s_Desk_levels) (defScope s_Desk_levels) .none kV_Desk_levels dc_Desk_levels pm_Desk_levels an_Desk_levels cd_Desk_levels ct_Desk_levels), sl_Desk_levels⟩)
    (c_Desk_levels : PySem.W.codeIn K cd_Desk_levels "Desk.levels" = true)
    (k_Desk_levels : PySem.W.keepIn K (.ref f_Desk_levels) = true)
    (a_Desk_colour : PySem.W.findIn K (.ref CD) "colour" = some (some (.ref f_Desk_colour)))
    (i_Desk_colour : PySem.W.isFn K (.ref f_Desk_colour) = true)
    (l_Desk_colour : K.lookup f_Desk_colour = some ⟨oc_Desk_colour, od_Desk_colour, .func (PySem.W.fnOf "colour" "Desk.colour" (defArgs s_Desk_colour) (defBody s_Desk_colour) (defScope s_Desk_colour) .none kV_Desk_colour dc_Desk_colour pm_Desk_colour an_Desk_colour cd_Desk_colour ct_Desk_colour), sl_Desk_colour⟩)
    (c_Desk_colour : PySem.W.codeIn K cd_Desk_colour "Desk.colour" = true)
    (k_Desk_colour : PySem.W.keepIn K (.ref f_Desk_colour) = true)
    (a_Desk_light : PySem.W.findIn K (.ref CD) "light" = some (some (.ref f_Desk_light)))
    (i_Desk_light : PySem.W.isFn K (.ref f_Desk_light) = true)
    (l_Desk_light : K.lookup f_Desk_light = some ⟨oc_Desk_light, od_Desk_light, .func (PySem.W.fnOf "light" "Desk.light" (defArgs s_Desk_light) (defBody s_Desk_light) (defScope s_Desk_light) .none kV_Desk_light dc_Desk_light pm_Desk_light an_Desk_light cd_Desk_light ct_Desk_light), sl_Desk_light⟩)
    (c_Desk_light : PySem.W.codeIn K cd_Desk_light "Desk.light" = true)
    (k_Desk_light : PySem.W.keepIn K (.ref f_Desk_light) = true)
    (a_Desk_copy : PySem.W.findIn K (.ref CD) "copy" = some (some (.ref f_Desk_copy)))
    (i_Desk_copy : PySem.W.isFn K (.ref f_Desk_copy) = true)
    (l_Desk_copy : K.lookup f_Desk_copy = some ⟨oc_Desk_copy, od_Desk_copy, .func (PySem.W.fnOf "copy" "Desk.copy" (defArgs s_Desk_copy) (defBody s_Desk_copy) (defScope s_Desk_copy) .none kV_Desk_copy dc_Desk_copy pm_Desk_copy an_Desk_copy cd_Desk_copy ct_Desk_copy), sl_Desk_copy⟩)
    (c_Desk_copy : PySem.W.codeIn K cd_Desk_copy "Desk.copy" = true)
    (k_Desk_copy : PySem.W.keepIn K (.ref f_Desk_copy) = true)
    (a_Desk_swap : PySem.W.findIn K (.ref CD) "swap" = some (some (.ref f_Desk_swap)))
    (i_Desk_swap : PySem.W.isFn K (.ref f_Desk_swap) = true)
    (l_Desk_swap : K.lookup f_Desk_swap = some ⟨oc_Desk_swap, od_Desk_swap, .func (PySem.W.fnOf "swap" "Desk.swap" (defArgs s_Desk_swap) (defBody s_Desk_swap) (defScope s_Desk_swap) .none kV_Desk_swap dc_Desk_swap pm_Desk_swap an_Desk_swap cd_Desk_swap ct_Desk_swap), sl_Desk_swap⟩)
    (c_Desk_swap : PySem.W.codeIn K cd_Desk_swap "Desk.swap" = true)
    (k_Desk_swap : PySem.W.keepIn K (.ref f_Desk_swap) = true)
    (a_Desk_drop : PySem.W.findIn K (.ref CD) "drop" = some (some (.ref f_Desk_drop)))
    (i_Desk_drop : PySem.W.isFn K (.ref f_Desk_drop) = true)
    (l_Desk_drop : K.lookup f_Desk_drop = some ⟨oc_Desk_drop, od_Desk_drop, .func (PySem.W.fnOf "drop" "Desk.drop" (defArgs s_Desk_drop) (defBody s_Desk_drop) (defScope s_Desk_drop) .none kV_Desk_drop dc_Desk_drop pm_Desk_drop an_Desk_drop cd_Desk_drop ct_Desk_drop), sl_Desk_drop⟩)
    (c_Desk_drop : PySem.W.codeIn K cd_Desk_drop "Desk.drop" = true)
    (k_Desk_drop : PySem.W.keepIn K (.ref f_Desk_drop) = true)
    (a_Desk_pixel : PySem.W.findIn K (.ref CD) "pixel" = some (some (.ref f_Desk_pixel)))
    (i_Desk_pixel : PySem.W.isFn K (.ref f_Desk_pixel) = true)
    (l_Desk_pixel : K.lookup f_Desk_pixel = some ⟨oc_Desk_pixel, od_Desk_pixel, .func (PySem.W.fnOf "pixel" "Desk.pixel" (defArgs s_Desk_pixel) (defBody s_Desk_pixel) (defScope s_Desk_pixel) .none kV_Desk_pixel dc_Desk_pixel pm_Desk_pixel an_Desk_pixel cd_Desk_pixel ct_Desk_pixel), sl_Desk_pixel⟩)
    (c_Desk_pixel : PySem.W.codeIn K cd_Desk_pixel "Desk.pixel" = true)
    (k_Desk_pixel : PySem.W.keepIn K (.ref f_Desk_pixel) = true)
    (a_Desk_read_bytes : PySem.W.findIn K (.ref CD) "read_bytes" = some (some (.ref f_Desk_read_bytes)))
    (i_Desk_read_bytes : PySem.W.isFn K (.ref f_Desk_read_bytes) = true)
    (l_Desk_read_bytes : K.lookup f_Desk_read_bytes = some ⟨oc_Desk_read_bytes, od_Desk_read_bytes, .func (PySem.W.fnOf "read_bytes" "Desk.read_bytes" (defArgs s_Desk_read_bytes) (defBody s_Desk_read_bytes) (defScope s_Desk_read_bytes) .none kV_Desk_read_bytes dc_Desk_read_bytes pm_Desk_read_bytes an_Desk_read_bytes cd_Desk_read_bytes ct_Desk_read_bytes), sl_Desk_read_bytes⟩)
    (c_Desk_read_bytes : PySem.W.codeIn K cd_Desk_read_bytes "Desk.read_bytes" = true)
    (k_Desk_read_bytes : PySem.W.keepIn K (.ref f_Desk_read_bytes) = true)
    (a_Desk_read_words : PySem.W.findIn K (.ref CD) "read_words" = some (some (.ref f_Desk_read_words)))
    (i_Desk_read_words : PySem.W.isFn K (.ref f_Desk_read_words) = true)
    (l_Desk_read_words : K.lookup f_Desk_read_words = some ⟨oc_Desk_read_words, od_Desk_read_words, .func (PySem.W.fnOf "read_words" "Desk.read_words" (defArgs s_Desk_read_words) (defBody s_Desk_read_words) (defScope s_Desk_read_words) .none kV_Desk_read_words dc_Desk_read_words pm_Desk_read_words an_Desk_read_words cd_Desk_read_words ct_Desk_read_words), sl_Desk_read_words⟩)
    (c_Desk_read_words : PySem.W.codeIn K cd_Desk_read_words "Desk.read_words" = true)
    (k_Desk_read_words : PySem.W.keepIn K (.ref f_Desk_read_words) = true)
    (a_Desk_early : PySem.W.findIn K (.ref CD) "early" = some (some (.ref f_Desk_early)))
    (i_Desk_early : PySem.W.isFn K (.ref f_Desk_early) = true)
    (l_Desk_early : K.lookup f_Desk_early = some ⟨oc_Desk_early, od_Desk_early, .func (PySem.W.fnOf "early" "Desk.early" (defArgs s_Desk_early) (defBody s_Desk_early) (defScope s_Desk_early) .none kV_Desk_early dc_Desk_early pm_Desk_early an_Desk_early cd_Desk_early ct_Desk_early), sl_Desk_early⟩)
    (c_Desk_early : PySem.W.codeIn K cd_Desk_early "Desk.early" = true)
    (k_Desk_early : PySem.W.keepIn K (.ref f_Desk_early) = true)
    (a_Desk_later : PySem.W.findIn K (.ref CD) "later" = some (some (.ref f_Desk_later)))
    (i_Desk_later : PySem.W.isFn K (.ref f_Desk_later) = true)
    (l_Desk_later : K.lookup f_Desk_later = some ⟨oc_Desk_later, od_Desk_later, .func (PySem.W.fnOf "later" "Desk.later" (defArgs s_Desk_later) (defBody s_Desk_later) (defScope s_Desk_later) .none kV_Desk_later dc_Desk_later pm_Desk_later an_Desk_later cd_Desk_later ct_Desk_later), sl_Desk_later⟩)
    (c_Desk_later : PySem.W.codeIn K cd_Desk_later "Desk.later" = true)
    (k_Desk_later : PySem.W.keepIn K (.ref f_Desk_later) = true)
    (a_Desk_answer : PySem.W.findIn K (.ref CD) "answer" = some (some (.ref f_Desk_answer)))
    (i_Desk_answer : PySem.W.isFn K (.ref f_Desk_answer) = true)
    (l_Desk_answer : K.lookup f_Desk_answer = some ⟨oc_Desk_answer, od_Desk_answer, .func (PySem.W.fnOf "answer" "Desk.answer" (defArgs s_Desk_answer) (defBody s_Desk_answer) (defScope s_Desk_answer) .none kV_Desk_answer dc_Desk_answer pm_Desk_answer an_Desk_answer cd_Desk_answer ct_Desk_answer), sl_Desk_answer⟩)
    (c_Desk_answer : PySem.W.codeIn K cd_Desk_answer "Desk.answer" = true)
    (k_Desk_answer : PySem.W.keepIn K (.ref f_Desk_answer) = true)
    (a_answers : PySem.W.nsIn K mainGlobals "answers" = some (some (.ref f_answers)))
    (l_answers : K.lookup f_answers = some ⟨oc_answers, od_answers, .func (PySem.W.fnOf "answers" "answers" (defArgs s_answers) (defBody s_answers) (defScope s_answers) .none kV_answers dc_answers pm_answers an_answers cd_answers ct_answers), sl_answers⟩)
    (c_answers : PySem.W.codeIn K cd_answers "answers" = true)
    (k_answers : PySem.W.keepIn K (.ref f_answers) = true)
    (vSCREEN : itsSCREEN.size ≤ sizeLine ∧ Vals SCREENs itsSCREEN.toList) (vGIVEN : itsGIVEN.size ≤ sizeLine ∧ Vals GIVENs itsGIVEN.toList)
    : ∃ fd : FuncData, (∀ (s : Shared) (us : List Value), us.length = (["calls"] : List Str).length → BindsTo s fd ⟨us, []⟩ ((["calls"] : List Str).zip us)) ∧ ∀ base : Heap, K.In base → base.Ns mainGlobals mg → FnOk P w K mg base CX0 8 fa fd ["calls"] (sp_ans K) := by
  have e := hfa.symm.trans (PySem.W.mg_of X G a_answers)
  cases e
  have T : Txt K mg ⟨CS, CL, CD, CR, aS, aG⟩ :=
    { clSize := ⟨pgCS, hdCS, poCS, saCS⟩, clLayer := ⟨pgCL, hdCL, poCL, saCL⟩, clDesk := ⟨pgCD, hdCD, poCD, saCD⟩
      nWidth := nwidth, nHeight := nheight, nSide := nside, nAcross := nacross, nDown := ndown, nCorners := ncorners, nSizes := nsizes, nStack := nstack
      cMOST := ⟨_, PySem.W.mg_of X G cMOST⟩, cCHANNELS := ⟨_, PySem.W.mg_of X G cCHANNELS⟩, cCOLOURS := ⟨_, PySem.W.mg_of X G cCOLOURS⟩, cUNIT := ⟨_, PySem.W.mg_of X G cUNIT⟩, cFULL := ⟨_, PySem.W.mg_of X G cFULL⟩, cMIDDLE := ⟨_, PySem.W.mg_of X G cMIDDLE⟩, cWORD := ⟨_, PySem.W.mg_of X G cWORD⟩, cHALF := ⟨_, PySem.W.mg_of X G cHALF⟩, cOUT := ⟨_, PySem.W.mg_of X G cOUT⟩, cTOO_FEW := ⟨_, PySem.W.mg_of X G cTOO_FEW⟩, cTOO_MANY := ⟨_, PySem.W.mg_of X G cTOO_MANY⟩, cNO_STACK := ⟨_, PySem.W.mg_of X G cNO_STACK⟩, cMOST_PICTURES := ⟨_, PySem.W.mg_of X G cMOST_PICTURES⟩
      gSCREEN := PySem.W.mg_of X G gSCREEN, gGIVEN := PySem.W.mg_of X G gGIVEN
      tSCREEN := fun H => Or.inr ⟨_, _, _, lSCREEN, rfl, rfl, vSCREEN.1, vSCREEN.2⟩, tGIVEN := fun H => Or.inr ⟨_, _, _, lGIVEN, rfl, rfl, vGIVEN.1, vGIVEN.2⟩
      bLen := PySem.W.mg_none_of X G blen, bMin := PySem.W.mg_none_of X G bmin, bMax := PySem.W.mg_none_of X G bmax, bAbs := PySem.W.mg_none_of X G babs, bSum := PySem.W.mg_none_of X G bsum, bZip := PySem.W.mg_none_of X G bzip, bRange := PySem.W.mg_none_of X G brange, bEnum := PySem.W.mg_none_of X G benumerate
      gRefused := PySem.W.mg_of X G aCR
      xc := ⟨⟨nm, q, N, bs, _, sn, sub, ab, col, dd, m0, m1, m2, m3, m5, xL, by decide +kernel⟩, saR, eR, tR, kR⟩
      xf := ⟨gaR, ggR, eR, hR⟩, noCode := ncR, te := exm_self eR iR tR sR }
  have F_clamped := fun_mk (st := s_clamped) l_clamped c_clamped k_clamped
  have F_nearest := fun_mk (st := s_nearest) l_nearest c_nearest k_nearest
  have F_power_of_two := fun_mk (st := s_power_of_two) l_power_of_two c_power_of_two k_power_of_two
  have F_Size___init__ := fun_mk (st := s_Size___init__) l_Size___init__ c_Size___init__ k_Size___init__
  have F_Size_spots := fun_mk (st := s_Size_spots) l_Size_spots c_Size_spots k_Size_spots
  have F_Size_value := fun_mk (st := s_Size_value) l_Size_value c_Size_value k_Size_value
  have F_Size_sample := fun_mk (st := s_Size_sample) l_Size_sample c_Size_sample k_Size_sample
  have F_flat := fun_mk (st := s_flat) l_flat c_flat k_flat
  have F_dithered := fun_mk (st := s_dithered) l_dithered c_dithered k_dithered
  have F_strength_at := fun_mk (st := s_strength_at) l_strength_at c_strength_at k_strength_at
  have F_glow := fun_mk (st := s_glow) l_glow c_glow k_glow
  have F_box := fun_mk (st := s_box) l_box c_box k_box
  have F_blurred_row := fun_mk (st := s_blurred_row) l_blurred_row c_blurred_row k_blurred_row
  have F_turned_over := fun_mk (st := s_turned_over) l_turned_over c_turned_over k_turned_over
  have F_blurred_rows := fun_mk (st := s_blurred_rows) l_blurred_rows c_blurred_rows k_blurred_rows
  have F_blurred := fun_mk (st := s_blurred) l_blurred c_blurred k_blurred
  have F_blur := fun_mk (st := s_blur) l_blur c_blur k_blur
  have F_turn := fun_mk (st := s_turn) l_turn c_turn k_turn
  have F_sampled := fun_mk (st := s_sampled) l_sampled c_sampled k_sampled
  have F_bend := fun_mk (st := s_bend) l_bend c_bend k_bend
  have F_levelled := fun_mk (st := s_levelled) l_levelled c_levelled k_levelled
  have F_levels := fun_mk (st := s_levels) l_levels c_levels k_levels
  have F_coloured := fun_mk (st := s_coloured) l_coloured c_coloured k_coloured
  have F_recoloured := fun_mk (st := s_recoloured) l_recoloured c_recoloured k_recoloured
  have F_light := fun_mk (st := s_light) l_light c_light k_light
  have F_joined_value := fun_mk (st := s_joined_value) l_joined_value c_joined_value k_joined_value
  have F_joined := fun_mk (st := s_joined) l_joined c_joined k_joined
  have F_mixed := fun_mk (st := s_mixed) l_mixed c_mixed k_mixed
  have F_smooth := fun_mk (st := s_smooth) l_smooth c_smooth k_smooth
  have F_between := fun_mk (st := s_between) l_between c_between k_between
  have F_Layer___init__ := fun_mk (st := s_Layer___init__) l_Layer___init__ c_Layer___init__ k_Layer___init__
  have F_Layer_corner := fun_mk (st := s_Layer_corner) l_Layer_corner c_Layer_corner k_Layer_corner
  have F_Layer_value := fun_mk (st := s_Layer_value) l_Layer_value c_Layer_value k_Layer_value
  have F_noise := fun_mk (st := s_noise) l_noise c_noise k_noise
  have F_Refused___init__ := fun_mk (st := s_Refused___init__) l_Refused___init__ c_Refused___init__ k_Refused___init__
  have F_need := fun_mk (st := s_need) l_need c_need k_need
  have F_need_within := fun_mk (st := s_need_within) l_need_within c_need_within k_need_within
  have F_Desk___init__ := fun_mk (st := s_Desk___init__) l_Desk___init__ c_Desk___init__ k_Desk___init__
  have F_Desk_open_stack := fun_mk (st := s_Desk_open_stack) l_Desk_open_stack c_Desk_open_stack k_Desk_open_stack
  have F_Desk_size := fun_mk (st := s_Desk_size) l_Desk_size c_Desk_size k_Desk_size
  have F_Desk_need_pictures := fun_mk (st := s_Desk_need_pictures) l_Desk_need_pictures c_Desk_need_pictures k_Desk_need_pictures
  have F_Desk_push := fun_mk (st := s_Desk_push) l_Desk_push c_Desk_push k_Desk_push
  have F_Desk_need_room := fun_mk (st := s_Desk_need_room) l_Desk_need_room c_Desk_need_room k_Desk_need_room
  have F_Desk_replace := fun_mk (st := s_Desk_replace) l_Desk_replace c_Desk_replace k_Desk_replace
  have F_Desk_flat := fun_mk (st := s_Desk_flat) l_Desk_flat c_Desk_flat k_Desk_flat
  have F_Desk_noise := fun_mk (st := s_Desk_noise) l_Desk_noise c_Desk_noise k_Desk_noise
  have F_Desk_glow := fun_mk (st := s_Desk_glow) l_Desk_glow c_Desk_glow k_Desk_glow
  have F_Desk_box := fun_mk (st := s_Desk_box) l_Desk_box c_Desk_box k_Desk_box
  have F_Desk_blur := fun_mk (st := s_Desk_blur) l_Desk_blur c_Desk_blur k_Desk_blur
  have F_Desk_turn := fun_mk (st := s_Desk_turn) l_Desk_turn c_Desk_turn k_Desk_turn
  have F_Desk_bend := fun_mk (st := s_Desk_bend) l_Desk_bend c_Desk_bend k_Desk_bend
  have F_Desk_join := fun_mk (st := s_Desk_join) l_Desk_join c_Desk_join k_Desk_join
  have F_Desk_levels := fun_mk (st := s_Desk_levels) l_Desk_levels c_Desk_levels k_Desk_levels
  have F_Desk_colour := fun_mk (st := s_Desk_colour) l_Desk_colour c_Desk_colour k_Desk_colour
  have F_Desk_light := fun_mk (st := s_Desk_light) l_Desk_light c_Desk_light k_Desk_light
  have F_Desk_copy := fun_mk (st := s_Desk_copy) l_Desk_copy c_Desk_copy k_Desk_copy
  have F_Desk_swap := fun_mk (st := s_Desk_swap) l_Desk_swap c_Desk_swap k_Desk_swap
  have F_Desk_drop := fun_mk (st := s_Desk_drop) l_Desk_drop c_Desk_drop k_Desk_drop
  have F_Desk_pixel := fun_mk (st := s_Desk_pixel) l_Desk_pixel c_Desk_pixel k_Desk_pixel
  have F_Desk_read_bytes := fun_mk (st := s_Desk_read_bytes) l_Desk_read_bytes c_Desk_read_bytes k_Desk_read_bytes
  have F_Desk_read_words := fun_mk (st := s_Desk_read_words) l_Desk_read_words c_Desk_read_words k_Desk_read_words
  have F_Desk_early := fun_mk (st := s_Desk_early) l_Desk_early c_Desk_early k_Desk_early
  have F_Desk_later := fun_mk (st := s_Desk_later) l_Desk_later c_Desk_later k_Desk_later
  have F_Desk_answer := fun_mk (st := s_Desk_answer) l_Desk_answer c_Desk_answer k_Desk_answer
  have F_answers := fun_mk (st := s_answers) l_answers c_answers k_answers
  refine ⟨PySem.W.fnOf "answers" "answers" (defArgs s_answers) (defBody s_answers) (defScope s_answers) .none kV_answers dc_answers pm_answers an_answers cd_answers ct_answers, fun s us hu => match us, hu with | [_], _ => .of_eq rfl, fun base _ _ => ?_⟩
  have h_clamped : HvF P w K mg base CX0 1 "clamped" ["value"] (sp_clamped K ⟨CS, CL, CD, CR, aS, aG⟩) := ⟨_, _, ok_clamped (P := P) (w := w) (base := base) T F_clamped, PySem.W.mg_of X G a_clamped, k_clamped, F_clamped.binds (ps := ["value"]) fun _ _ _ _ _ _ us hl => match us, hl with | [_], _ => rfl⟩
  have h_nearest : HvF P w K mg base CX0 1 "nearest" ["top", "bottom"] (sp_nearest K ⟨CS, CL, CD, CR, aS, aG⟩) := ⟨_, _, ok_nearest (P := P) (w := w) (base := base) T F_nearest, PySem.W.mg_of X G a_nearest, k_nearest, F_nearest.binds (ps := ["top", "bottom"]) fun _ _ _ _ _ _ us hl => match us, hl with | [_, _], _ => rfl⟩
  have h_power_of_two : HvF P w K mg base CX0 1 "power_of_two" ["many"] (sp_power_of_two K ⟨CS, CL, CD, CR, aS, aG⟩) := ⟨_, _, ok_power_of_two (P := P) (w := w) (base := base) T F_power_of_two, PySem.W.mg_of X G a_power_of_two, k_power_of_two, F_power_of_two.binds (ps := ["many"]) fun _ _ _ _ _ _ us hl => match us, hl with | [_], _ => rfl⟩
  have h_Size___init__ : HvC P w K mg base CX0 1 CS "Size" ["self", "width", "height"] (sp_Size___init__ K ⟨CS, CL, CD, CR, aS, aG⟩) := ⟨_, _, ok_Size___init__ (P := P) (w := w) (base := base) T F_Size___init__, ⟨mkCS, a_Size___init__, i_Size___init__, kcCS⟩, PySem.W.mg_of X G aCS, F_Size___init__.binds (ps := ["self", "width", "height"]) fun _ _ _ _ _ _ us hl => match us, hl with | [_, _, _], _ => rfl⟩
  have h_Size_spots : HvM P w K mg base CX0 1 CS "spots" ["self"] (sp_Size_spots K ⟨CS, CL, CD, CR, aS, aG⟩) := ⟨_, _, ok_Size_spots (P := P) (w := w) (base := base) T F_Size_spots, ⟨a_Size_spots, i_Size_spots, k_Size_spots⟩, F_Size_spots.binds (ps := ["self"]) fun _ _ _ _ _ _ us hl => match us, hl with | [_], _ => rfl⟩
  have h_Size_value : HvM P w K mg base CX0 1 CS "value" ["self", "channel", "x", "y"] (sp_Size_value K ⟨CS, CL, CD, CR, aS, aG⟩) := ⟨_, _, ok_Size_value (P := P) (w := w) (base := base) T F_Size_value, ⟨a_Size_value, i_Size_value, k_Size_value⟩, F_Size_value.binds (ps := ["self", "channel", "x", "y"]) fun _ _ _ _ _ _ us hl => match us, hl with | [_, _, _, _], _ => rfl⟩
  have h_flat_pictures : HvF P w K mg base CX0 1 "flat_pictures" ["size", "colour"] (sp_flat K ⟨CS, CL, CD, CR, aS, aG⟩) := ⟨_, _, ok_flat (P := P) (w := w) (base := base) T F_flat, PySem.W.mg_of X G a_flat, k_flat, F_flat.binds (ps := ["size", "colour"]) fun _ _ _ _ _ _ us hl => match us, hl with | [_, _], _ => rfl⟩
  have h_strength_at : HvF P w K mg base CX0 1 "strength_at" ["size", "spot", "middle", "radii", "many"] (sp_strength_at K ⟨CS, CL, CD, CR, aS, aG⟩) := ⟨_, _, ok_strength_at (P := P) (w := w) (base := base) T F_strength_at, PySem.W.mg_of X G a_strength_at, k_strength_at, F_strength_at.binds (ps := ["size", "spot", "middle", "radii", "many"]) fun _ _ _ _ _ _ us hl => match us, hl with | [_, _, _, _, _], _ => rfl⟩
  have h_blurred_row : HvF P w K mg base CX0 1 "blurred_row" ["row", "radius"] (sp_blurred_row K ⟨CS, CL, CD, CR, aS, aG⟩) := ⟨_, _, ok_blurred_row (P := P) (w := w) (base := base) T F_blurred_row, PySem.W.mg_of X G a_blurred_row, k_blurred_row, F_blurred_row.binds (ps := ["row", "radius"]) fun _ _ _ _ _ _ us hl => match us, hl with | [_, _], _ => rfl⟩
  have h_turned_over : HvF P w K mg base CX0 1 "turned_over" ["channel", "width", "height"] (sp_turned_over K ⟨CS, CL, CD, CR, aS, aG⟩) := ⟨_, _, ok_turned_over (P := P) (w := w) (base := base) T F_turned_over, PySem.W.mg_of X G a_turned_over, k_turned_over, F_turned_over.binds (ps := ["channel", "width", "height"]) fun _ _ _ _ _ _ us hl => match us, hl with | [_, _, _], _ => rfl⟩
  have h_mixed : HvF P w K mg base CX0 1 "mixed" ["seed", "a", "b", "layer"] (sp_mixed K ⟨CS, CL, CD, CR, aS, aG⟩) := ⟨_, _, ok_mixed (P := P) (w := w) (base := base) T F_mixed, PySem.W.mg_of X G a_mixed, k_mixed, F_mixed.binds (ps := ["seed", "a", "b", "layer"]) fun _ _ _ _ _ _ us hl => match us, hl with | [_, _, _, _], _ => rfl⟩
  have h_smooth : HvF P w K mg base CX0 1 "smooth" ["t"] (sp_smooth K ⟨CS, CL, CD, CR, aS, aG⟩) := ⟨_, _, ok_smooth (P := P) (w := w) (base := base) T F_smooth, PySem.W.mg_of X G a_smooth, k_smooth, F_smooth.binds (ps := ["t"]) fun _ _ _ _ _ _ us hl => match us, hl with | [_], _ => rfl⟩
  have h_between : HvF P w K mg base CX0 1 "between" ["one", "other", "u"] (sp_between K ⟨CS, CL, CD, CR, aS, aG⟩) := ⟨_, _, ok_between (P := P) (w := w) (base := base) T F_between, PySem.W.mg_of X G a_between, k_between, F_between.binds (ps := ["one", "other", "u"]) fun _ _ _ _ _ _ us hl => match us, hl with | [_, _, _], _ => rfl⟩
  have h_Layer_corner : HvM P w K mg base CX0 1 CL "corner" ["self", "i", "j"] (sp_Layer_corner K ⟨CS, CL, CD, CR, aS, aG⟩) := ⟨_, _, ok_Layer_corner (P := P) (w := w) (base := base) T F_Layer_corner, ⟨a_Layer_corner, i_Layer_corner, k_Layer_corner⟩, F_Layer_corner.binds (ps := ["self", "i", "j"]) fun _ _ _ _ _ _ us hl => match us, hl with | [_, _, _], _ => rfl⟩
  have h_Refused___init__ : HvR P w K mg base CX0 1 CR "Refused" ["self", "code"] (sp_Refused___init__ K ⟨CS, CL, CD, CR, aS, aG⟩) := ⟨_, _, ok_Refused___init__ (P := P) (w := w) (base := base) T F_Refused___init__, a_Refused___init__, i_Refused___init__, F_Refused___init__.binds (ps := ["self", "code"]) fun _ _ _ _ _ _ us hl => match us, hl with | [_, _], _ => rfl⟩
  have h_Desk___init__ : HvC P w K mg base CX0 1 CD "Desk" ["self"] (sp_Desk___init__ K ⟨CS, CL, CD, CR, aS, aG⟩) := ⟨_, _, ok_Desk___init__ (P := P) (w := w) (base := base) T F_Desk___init__, ⟨mkCD, a_Desk___init__, i_Desk___init__, kcCD⟩, PySem.W.mg_of X G aCD, F_Desk___init__.binds (ps := ["self"]) fun _ _ _ _ _ _ us hl => match us, hl with | [_], _ => rfl⟩
  have h_Desk_size : HvM P w K mg base CX0 1 CD "size" ["self"] (sp_Desk_size K ⟨CS, CL, CD, CR, aS, aG⟩) := ⟨_, _, ok_Desk_size (P := P) (w := w) (base := base) T F_Desk_size, ⟨a_Desk_size, i_Desk_size, k_Desk_size⟩, F_Desk_size.binds (ps := ["self"]) fun _ _ _ _ _ _ us hl => match us, hl with | [_], _ => rfl⟩
  have h_Desk_push : HvM P w K mg base CX0 1 CD "push" ["self", "picture"] (sp_Desk_push K ⟨CS, CL, CD, CR, aS, aG⟩) := ⟨_, _, ok_Desk_push (P := P) (w := w) (base := base) T F_Desk_push, ⟨a_Desk_push, i_Desk_push, k_Desk_push⟩, F_Desk_push.binds (ps := ["self", "picture"]) fun _ _ _ _ _ _ us hl => match us, hl with | [_, _], _ => rfl⟩
  have h_Desk_replace : HvM P w K mg base CX0 1 CD "replace" ["self", "many", "pictures"] (sp_Desk_replace K ⟨CS, CL, CD, CR, aS, aG⟩) := ⟨_, _, ok_Desk_replace (P := P) (w := w) (base := base) T F_Desk_replace, ⟨a_Desk_replace, i_Desk_replace, k_Desk_replace⟩, F_Desk_replace.binds (ps := ["self", "many", "pictures"]) fun _ _ _ _ _ _ us hl => match us, hl with | [_, _, _], _ => rfl⟩
  have h_Size_sample : HvM P w K mg base CX0 2 CS "sample" ["self", "channel", "x", "y"] (sp_Size_sample K ⟨CS, CL, CD, CR, aS, aG⟩) := ⟨_, _, ok_Size_sample (P := P) (w := w) (base := base) T h_Size_value F_Size_sample, ⟨a_Size_sample, i_Size_sample, k_Size_sample⟩, F_Size_sample.binds (ps := ["self", "channel", "x", "y"]) fun _ _ _ _ _ _ us hl => match us, hl with | [_, _, _, _], _ => rfl⟩
  have h_dithered : HvF P w K mg base CX0 2 "dithered" ["value", "bits", "x", "y"] (sp_dithered K ⟨CS, CL, CD, CR, aS, aG⟩) := ⟨_, _, ok_dithered (P := P) (w := w) (base := base) T h_power_of_two F_dithered, PySem.W.mg_of X G a_dithered, k_dithered, F_dithered.binds (ps := ["value", "bits", "x", "y"]) fun _ _ _ _ _ _ us hl => match us, hl with | [_, _, _, _], _ => rfl⟩
  have h_glow_changes : HvF P w K mg base CX0 2 "glow_changes" ["size", "picture", "middle", "radii", "many", "colour"] (sp_glow K ⟨CS, CL, CD, CR, aS, aG⟩) := ⟨_, _, ok_glow (P := P) (w := w) (base := base) T h_Size_spots h_strength_at F_glow, PySem.W.mg_of X G a_glow, k_glow, F_glow.binds (ps := ["size", "picture", "middle", "radii", "many", "colour"]) fun _ _ _ _ _ _ us hl => match us, hl with | [_, _, _, _, _, _], _ => rfl⟩
  have h_box_changes : HvF P w K mg base CX0 2 "box_changes" ["size", "picture", "corner", "sides", "colour"] (sp_box K ⟨CS, CL, CD, CR, aS, aG⟩) := ⟨_, _, ok_box (P := P) (w := w) (base := base) T h_Size_spots F_box, PySem.W.mg_of X G a_box, k_box, F_box.binds (ps := ["size", "picture", "corner", "sides", "colour"]) fun _ _ _ _ _ _ us hl => match us, hl with | [_, _, _, _, _], _ => rfl⟩
  have h_blurred_rows : HvF P w K mg base CX0 2 "blurred_rows" ["channel", "width", "radius"] (sp_blurred_rows K ⟨CS, CL, CD, CR, aS, aG⟩) := ⟨_, _, ok_blurred_rows (P := P) (w := w) (base := base) T h_blurred_row F_blurred_rows, PySem.W.mg_of X G a_blurred_rows, k_blurred_rows, F_blurred_rows.binds (ps := ["channel", "width", "radius"]) fun _ _ _ _ _ _ us hl => match us, hl with | [_, _, _], _ => rfl⟩
  have h_levelled : HvF P w K mg base CX0 2 "levelled" ["value", "low", "high"] (sp_levelled K ⟨CS, CL, CD, CR, aS, aG⟩) := ⟨_, _, ok_levelled (P := P) (w := w) (base := base) T h_nearest F_levelled, PySem.W.mg_of X G a_levelled, k_levelled, F_levelled.binds (ps := ["value", "low", "high"]) fun _ _ _ _ _ _ us hl => match us, hl with | [_, _, _], _ => rfl⟩
  have h_coloured : HvF P w K mg base CX0 2 "coloured" ["picture", "row"] (sp_coloured K ⟨CS, CL, CD, CR, aS, aG⟩) := ⟨_, _, ok_coloured (P := P) (w := w) (base := base) T h_clamped F_coloured, PySem.W.mg_of X G a_coloured, k_coloured, F_coloured.binds (ps := ["picture", "row"]) fun _ _ _ _ _ _ us hl => match us, hl with | [_, _], _ => rfl⟩
  have h_light_changes : HvF P w K mg base CX0 2 "light_changes" ["size", "picture", "lx", "ly", "many"] (sp_light K ⟨CS, CL, CD, CR, aS, aG⟩) := ⟨_, _, ok_light (P := P) (w := w) (base := base) T h_Size_spots h_Size_value h_clamped F_light, PySem.W.mg_of X G a_light, k_light, F_light.binds (ps := ["size", "picture", "lx", "ly", "many"]) fun _ _ _ _ _ _ us hl => match us, hl with | [_, _, _, _, _], _ => rfl⟩
  have h_joined_value : HvF P w K mg base CX0 2 "joined_value" ["mode", "b", "t", "k"] (sp_joined_value K ⟨CS, CL, CD, CR, aS, aG⟩) := ⟨_, _, ok_joined_value (P := P) (w := w) (base := base) T h_nearest F_joined_value, PySem.W.mg_of X G a_joined_value, k_joined_value, F_joined_value.binds (ps := ["mode", "b", "t", "k"]) fun _ _ _ _ _ _ us hl => match us, hl with | [_, _, _, _], _ => rfl⟩
  have h_Layer___init__ : HvC P w K mg base CX0 2 CL "Layer" ["self", "size", "seed", "layer", "side"] (sp_Layer___init__ K ⟨CS, CL, CD, CR, aS, aG⟩) := ⟨_, _, ok_Layer___init__ (P := P) (w := w) (base := base) T h_mixed F_Layer___init__, ⟨mkCL, a_Layer___init__, i_Layer___init__, kcCL⟩, PySem.W.mg_of X G aCL, F_Layer___init__.binds (ps := ["self", "size", "seed", "layer", "side"]) fun _ _ _ _ _ _ us hl => match us, hl with | [_, _, _, _, _], _ => rfl⟩
  have h_Layer_value : HvM P w K mg base CX0 2 CL "value" ["self", "x", "y"] (sp_Layer_value K ⟨CS, CL, CD, CR, aS, aG⟩) := ⟨_, _, ok_Layer_value (P := P) (w := w) (base := base) T h_smooth h_Layer_corner h_between F_Layer_value, ⟨a_Layer_value, i_Layer_value, k_Layer_value⟩, F_Layer_value.binds (ps := ["self", "x", "y"]) fun _ _ _ _ _ _ us hl => match us, hl with | [_, _, _], _ => rfl⟩
  have h_blurred : HvF P w K mg base CX0 3 "blurred" ["size", "channel", "across", "down"] (sp_blurred K ⟨CS, CL, CD, CR, aS, aG⟩) := ⟨_, _, ok_blurred (P := P) (w := w) (base := base) T h_blurred_rows h_turned_over F_blurred, PySem.W.mg_of X G a_blurred, k_blurred, F_blurred.binds (ps := ["size", "channel", "across", "down"]) fun _ _ _ _ _ _ us hl => match us, hl with | [_, _, _, _], _ => rfl⟩
  have h_sampled : HvF P w K mg base CX0 3 "sampled" ["size", "picture", "places"] (sp_sampled K ⟨CS, CL, CD, CR, aS, aG⟩) := ⟨_, _, ok_sampled (P := P) (w := w) (base := base) T h_Size_sample F_sampled, PySem.W.mg_of X G a_sampled, k_sampled, F_sampled.binds (ps := ["size", "picture", "places"]) fun _ _ _ _ _ _ us hl => match us, hl with | [_, _, _], _ => rfl⟩
  have h_levels_changes : HvF P w K mg base CX0 3 "levels_changes" ["picture", "low", "high"] (sp_levels K ⟨CS, CL, CD, CR, aS, aG⟩) := ⟨_, _, ok_levels (P := P) (w := w) (base := base) T h_levelled F_levels, PySem.W.mg_of X G a_levels, k_levels, F_levels.binds (ps := ["picture", "low", "high"]) fun _ _ _ _ _ _ us hl => match us, hl with | [_, _, _], _ => rfl⟩
  have h_recoloured : HvF P w K mg base CX0 3 "recoloured" ["picture", "matrix"] (sp_recoloured K ⟨CS, CL, CD, CR, aS, aG⟩) := ⟨_, _, ok_recoloured (P := P) (w := w) (base := base) T h_coloured F_recoloured, PySem.W.mg_of X G a_recoloured, k_recoloured, F_recoloured.binds (ps := ["picture", "matrix"]) fun _ _ _ _ _ _ us hl => match us, hl with | [_, _], _ => rfl⟩
  have h_joined : HvF P w K mg base CX0 3 "joined" ["mode", "below", "top"] (sp_joined K ⟨CS, CL, CD, CR, aS, aG⟩) := ⟨_, _, ok_joined (P := P) (w := w) (base := base) T h_joined_value F_joined, PySem.W.mg_of X G a_joined, k_joined, F_joined.binds (ps := ["mode", "below", "top"]) fun _ _ _ _ _ _ us hl => match us, hl with | [_, _, _], _ => rfl⟩
  have h_need : HvF P w K mg base (L2.CX P w) 3 "need" ["is_right", "code"] (sp_need K ⟨CS, CL, CD, CR, aS, aG⟩) := ⟨_, _, ok_need (P := P) (w := w) (base := base) T h_Refused___init__ F_need, PySem.W.mg_of X G a_need, k_need, F_need.binds (ps := ["is_right", "code"]) fun _ _ _ _ _ _ us hl => match us, hl with | [_, _], _ => rfl⟩
  have h_blur_changes : HvF P w K mg base CX0 4 "blur_changes" ["size", "picture", "across", "down", "many"] (sp_blur K ⟨CS, CL, CD, CR, aS, aG⟩) := ⟨_, _, ok_blur (P := P) (w := w) (base := base) T h_blurred F_blur, PySem.W.mg_of X G a_blur, k_blur, F_blur.binds (ps := ["size", "picture", "across", "down", "many"]) fun _ _ _ _ _ _ us hl => match us, hl with | [_, _, _, _, _], _ => rfl⟩
  have h_turn_changes : HvF P w K mg base CX0 4 "turn_changes" ["size", "picture", "c", "s"] (sp_turn K ⟨CS, CL, CD, CR, aS, aG⟩) := ⟨_, _, ok_turn (P := P) (w := w) (base := base) T h_Size_spots h_sampled F_turn, PySem.W.mg_of X G a_turn, k_turn, F_turn.binds (ps := ["size", "picture", "c", "s"]) fun _ _ _ _ _ _ us hl => match us, hl with | [_, _, _, _], _ => rfl⟩
  have h_bend_changes : HvF P w K mg base CX0 4 "bend_changes" ["size", "picture", "top", "many"] (sp_bend K ⟨CS, CL, CD, CR, aS, aG⟩) := ⟨_, _, ok_bend (P := P) (w := w) (base := base) T h_Size_spots h_sampled F_bend, PySem.W.mg_of X G a_bend, k_bend, F_bend.binds (ps := ["size", "picture", "top", "many"]) fun _ _ _ _ _ _ us hl => match us, hl with | [_, _, _, _], _ => rfl⟩
  have h_noise_noises : HvF P w K mg base CX0 4 "noise_noises" ["size", "seed", "cell", "layers", "fall"] (sp_noise K ⟨CS, CL, CD, CR, aS, aG⟩) := ⟨_, _, ok_noise (P := P) (w := w) (base := base) T h_Size_spots h_power_of_two h_Layer___init__ h_Layer_value F_noise, PySem.W.mg_of X G a_noise, k_noise, F_noise.binds (ps := ["size", "seed", "cell", "layers", "fall"]) fun _ _ _ _ _ _ us hl => match us, hl with | [_, _, _, _, _], _ => rfl⟩
  have h_need_within : HvF P w K mg base (L2.CX P w) 4 "need_within" ["numbers", "bounds"] (sp_need_within K ⟨CS, CL, CD, CR, aS, aG⟩) := ⟨_, _, ok_need_within (P := P) (w := w) (base := base) T h_need F_need_within, PySem.W.mg_of X G a_need_within, k_need_within, F_need_within.binds (ps := ["numbers", "bounds"]) fun _ _ _ _ _ _ us hl => match us, hl with | [_, _], _ => rfl⟩
  have h_Desk_need_pictures : HvM P w K mg base (L2.CX P w) 4 CD "need_pictures" ["self", "many"] (sp_Desk_need_pictures K ⟨CS, CL, CD, CR, aS, aG⟩) := ⟨_, _, ok_Desk_need_pictures (P := P) (w := w) (base := base) T h_need F_Desk_need_pictures, ⟨a_Desk_need_pictures, i_Desk_need_pictures, k_Desk_need_pictures⟩, F_Desk_need_pictures.binds (ps := ["self", "many"]) fun _ _ _ _ _ _ us hl => match us, hl with | [_, _], _ => rfl⟩
  have h_Desk_need_room : HvM P w K mg base (L2.CX P w) 4 CD "need_room" ["self"] (sp_Desk_need_room K ⟨CS, CL, CD, CR, aS, aG⟩) := ⟨_, _, ok_Desk_need_room (P := P) (w := w) (base := base) T h_need F_Desk_need_room, ⟨a_Desk_need_room, i_Desk_need_room, k_Desk_need_room⟩, F_Desk_need_room.binds (ps := ["self"]) fun _ _ _ _ _ _ us hl => match us, hl with | [_], _ => rfl⟩
  have h_Desk_open_stack : HvM P w K mg base (L2.CX P w) 5 CD "open_stack" ["self", "a", "b"] (sp_Desk_open_stack K ⟨CS, CL, CD, CR, aS, aG⟩) := ⟨_, _, ok_Desk_open_stack (P := P) (w := w) (base := base) T h_need_within h_power_of_two h_Size___init__ F_Desk_open_stack, ⟨a_Desk_open_stack, i_Desk_open_stack, k_Desk_open_stack⟩, F_Desk_open_stack.binds (ps := ["self", "a", "b"]) fun _ _ _ _ _ _ us hl => match us, hl with | [_, _, _], _ => rfl⟩
  have h_Desk_flat : HvM P w K mg base (L2.CX P w) 5 CD "flat" ["self", "colour"] (sp_Desk_flat K ⟨CS, CL, CD, CR, aS, aG⟩) := ⟨_, _, ok_Desk_flat (P := P) (w := w) (base := base) T h_Desk_need_room h_Desk_size h_flat_pictures h_Desk_push F_Desk_flat, ⟨a_Desk_flat, i_Desk_flat, k_Desk_flat⟩, F_Desk_flat.binds (ps := ["self", "colour"]) fun _ _ _ _ _ _ us hl => match us, hl with | [_, _], _ => rfl⟩
  have h_Desk_noise : HvM P w K mg base (L2.CX P w) 5 CD "noise" ["self", "given"] (sp_Desk_noise K ⟨CS, CL, CD, CR, aS, aG⟩) := ⟨_, _, ok_Desk_noise (P := P) (w := w) (base := base) T h_need_within h_power_of_two h_Desk_size h_need h_Desk_need_room h_noise_noises h_Desk_push F_Desk_noise, ⟨a_Desk_noise, i_Desk_noise, k_Desk_noise⟩, F_Desk_noise.binds (ps := ["self", "given"]) fun _ _ _ _ _ _ us hl => match us, hl with | [_, _], _ => rfl⟩
  have h_Desk_glow : HvM P w K mg base (L2.CX P w) 5 CD "glow" ["self", "given"] (sp_Desk_glow K ⟨CS, CL, CD, CR, aS, aG⟩) := ⟨_, _, ok_Desk_glow (P := P) (w := w) (base := base) T h_need_within h_Desk_need_pictures h_Desk_size h_glow_changes h_Desk_replace F_Desk_glow, ⟨a_Desk_glow, i_Desk_glow, k_Desk_glow⟩, F_Desk_glow.binds (ps := ["self", "given"]) fun _ _ _ _ _ _ us hl => match us, hl with | [_, _], _ => rfl⟩
  have h_Desk_box : HvM P w K mg base (L2.CX P w) 5 CD "box" ["self", "given"] (sp_Desk_box K ⟨CS, CL, CD, CR, aS, aG⟩) := ⟨_, _, ok_Desk_box (P := P) (w := w) (base := base) T h_need_within h_Desk_need_pictures h_Desk_size h_box_changes h_Desk_replace F_Desk_box, ⟨a_Desk_box, i_Desk_box, k_Desk_box⟩, F_Desk_box.binds (ps := ["self", "given"]) fun _ _ _ _ _ _ us hl => match us, hl with | [_, _], _ => rfl⟩
  have h_Desk_blur : HvM P w K mg base (L2.CX P w) 5 CD "blur" ["self", "given"] (sp_Desk_blur K ⟨CS, CL, CD, CR, aS, aG⟩) := ⟨_, _, ok_Desk_blur (P := P) (w := w) (base := base) T h_need_within h_Desk_need_pictures h_Desk_size h_blur_changes h_Desk_replace F_Desk_blur, ⟨a_Desk_blur, i_Desk_blur, k_Desk_blur⟩, F_Desk_blur.binds (ps := ["self", "given"]) fun _ _ _ _ _ _ us hl => match us, hl with | [_, _], _ => rfl⟩
  have h_Desk_turn : HvM P w K mg base (L2.CX P w) 5 CD "turn" ["self", "given"] (sp_Desk_turn K ⟨CS, CL, CD, CR, aS, aG⟩) := ⟨_, _, ok_Desk_turn (P := P) (w := w) (base := base) T h_need_within h_Desk_need_pictures h_Desk_size h_turn_changes h_Desk_replace F_Desk_turn, ⟨a_Desk_turn, i_Desk_turn, k_Desk_turn⟩, F_Desk_turn.binds (ps := ["self", "given"]) fun _ _ _ _ _ _ us hl => match us, hl with | [_, _], _ => rfl⟩
  have h_Desk_bend : HvM P w K mg base (L2.CX P w) 5 CD "bend" ["self", "given"] (sp_Desk_bend K ⟨CS, CL, CD, CR, aS, aG⟩) := ⟨_, _, ok_Desk_bend (P := P) (w := w) (base := base) T h_need_within h_Desk_need_pictures h_Desk_size h_bend_changes h_Desk_replace F_Desk_bend, ⟨a_Desk_bend, i_Desk_bend, k_Desk_bend⟩, F_Desk_bend.binds (ps := ["self", "given"]) fun _ _ _ _ _ _ us hl => match us, hl with | [_, _], _ => rfl⟩
  have h_Desk_join : HvM P w K mg base (L2.CX P w) 5 CD "join" ["self", "given"] (sp_Desk_join K ⟨CS, CL, CD, CR, aS, aG⟩) := ⟨_, _, ok_Desk_join (P := P) (w := w) (base := base) T h_need_within h_Desk_need_pictures h_joined h_Desk_replace F_Desk_join, ⟨a_Desk_join, i_Desk_join, k_Desk_join⟩, F_Desk_join.binds (ps := ["self", "given"]) fun _ _ _ _ _ _ us hl => match us, hl with | [_, _], _ => rfl⟩
  have h_Desk_levels : HvM P w K mg base (L2.CX P w) 5 CD "levels" ["self", "given"] (sp_Desk_levels K ⟨CS, CL, CD, CR, aS, aG⟩) := ⟨_, _, ok_Desk_levels (P := P) (w := w) (base := base) T h_need_within h_need h_Desk_need_pictures h_levels_changes h_Desk_replace F_Desk_levels, ⟨a_Desk_levels, i_Desk_levels, k_Desk_levels⟩, F_Desk_levels.binds (ps := ["self", "given"]) fun _ _ _ _ _ _ us hl => match us, hl with | [_, _], _ => rfl⟩
  have h_Desk_colour : HvM P w K mg base (L2.CX P w) 5 CD "colour" ["self", "given"] (sp_Desk_colour K ⟨CS, CL, CD, CR, aS, aG⟩) := ⟨_, _, ok_Desk_colour (P := P) (w := w) (base := base) T h_Desk_need_pictures h_recoloured h_Desk_replace F_Desk_colour, ⟨a_Desk_colour, i_Desk_colour, k_Desk_colour⟩, F_Desk_colour.binds (ps := ["self", "given"]) fun _ _ _ _ _ _ us hl => match us, hl with | [_, _], _ => rfl⟩
  have h_Desk_light : HvM P w K mg base (L2.CX P w) 5 CD "light" ["self", "given"] (sp_Desk_light K ⟨CS, CL, CD, CR, aS, aG⟩) := ⟨_, _, ok_Desk_light (P := P) (w := w) (base := base) T h_need_within h_Desk_need_pictures h_Desk_size h_light_changes h_Desk_replace F_Desk_light, ⟨a_Desk_light, i_Desk_light, k_Desk_light⟩, F_Desk_light.binds (ps := ["self", "given"]) fun _ _ _ _ _ _ us hl => match us, hl with | [_, _], _ => rfl⟩
  have h_Desk_copy : HvM P w K mg base (L2.CX P w) 5 CD "copy" ["self", "given"] (sp_Desk_copy K ⟨CS, CL, CD, CR, aS, aG⟩) := ⟨_, _, ok_Desk_copy (P := P) (w := w) (base := base) T h_need h_Desk_need_room h_Desk_push F_Desk_copy, ⟨a_Desk_copy, i_Desk_copy, k_Desk_copy⟩, F_Desk_copy.binds (ps := ["self", "given"]) fun _ _ _ _ _ _ us hl => match us, hl with | [_, _], _ => rfl⟩
  have h_Desk_swap : HvM P w K mg base (L2.CX P w) 5 CD "swap" ["self"] (sp_Desk_swap K ⟨CS, CL, CD, CR, aS, aG⟩) := ⟨_, _, ok_Desk_swap (P := P) (w := w) (base := base) T h_Desk_need_pictures h_Desk_replace F_Desk_swap, ⟨a_Desk_swap, i_Desk_swap, k_Desk_swap⟩, F_Desk_swap.binds (ps := ["self"]) fun _ _ _ _ _ _ us hl => match us, hl with | [_], _ => rfl⟩
  have h_Desk_drop : HvM P w K mg base (L2.CX P w) 5 CD "drop" ["self"] (sp_Desk_drop K ⟨CS, CL, CD, CR, aS, aG⟩) := ⟨_, _, ok_Desk_drop (P := P) (w := w) (base := base) T h_Desk_need_pictures h_Desk_replace F_Desk_drop, ⟨a_Desk_drop, i_Desk_drop, k_Desk_drop⟩, F_Desk_drop.binds (ps := ["self"]) fun _ _ _ _ _ _ us hl => match us, hl with | [_], _ => rfl⟩
  have h_Desk_pixel : HvM P w K mg base (L2.CX P w) 5 CD "pixel" ["self", "given"] (sp_Desk_pixel K ⟨CS, CL, CD, CR, aS, aG⟩) := ⟨_, _, ok_Desk_pixel (P := P) (w := w) (base := base) T h_Desk_size h_need_within h_Desk_need_pictures h_Size_value F_Desk_pixel, ⟨a_Desk_pixel, i_Desk_pixel, k_Desk_pixel⟩, F_Desk_pixel.binds (ps := ["self", "given"]) fun _ _ _ _ _ _ us hl => match us, hl with | [_, _], _ => rfl⟩
  have h_Desk_read_bytes : HvM P w K mg base (L2.CX P w) 5 CD "read_bytes" ["self"] (sp_Desk_read_bytes K ⟨CS, CL, CD, CR, aS, aG⟩) := ⟨_, _, ok_Desk_read_bytes (P := P) (w := w) (base := base) T h_Desk_need_pictures h_Desk_size h_Size_spots h_dithered F_Desk_read_bytes, ⟨a_Desk_read_bytes, i_Desk_read_bytes, k_Desk_read_bytes⟩, F_Desk_read_bytes.binds (ps := ["self"]) fun _ _ _ _ _ _ us hl => match us, hl with | [_], _ => rfl⟩
  have h_Desk_read_words : HvM P w K mg base (L2.CX P w) 5 CD "read_words" ["self"] (sp_Desk_read_words K ⟨CS, CL, CD, CR, aS, aG⟩) := ⟨_, _, ok_Desk_read_words (P := P) (w := w) (base := base) T h_Desk_need_pictures h_Desk_size h_Size_spots h_dithered F_Desk_read_words, ⟨a_Desk_read_words, i_Desk_read_words, k_Desk_read_words⟩, F_Desk_read_words.binds (ps := ["self"]) fun _ _ _ _ _ _ us hl => match us, hl with | [_], _ => rfl⟩
  have h_Desk_early : HvM P w K mg base (L2.CX P w) 6 CD "early" ["self", "place", "given"] (sp_Desk_early K ⟨CS, CL, CD, CR, aS, aG⟩) := ⟨_, _, ok_Desk_early (P := P) (w := w) (base := base) T h_Desk_flat h_Desk_noise h_Desk_glow h_Desk_box h_Desk_blur h_Desk_turn h_Desk_bend h_Desk_join F_Desk_early, ⟨a_Desk_early, i_Desk_early, k_Desk_early⟩, F_Desk_early.binds (ps := ["self", "place", "given"]) fun _ _ _ _ _ _ us hl => match us, hl with | [_, _, _], _ => rfl⟩
  have h_Desk_later : HvM P w K mg base (L2.CX P w) 6 CD "later" ["self", "place", "given"] (sp_Desk_later K ⟨CS, CL, CD, CR, aS, aG⟩) := ⟨_, _, ok_Desk_later (P := P) (w := w) (base := base) T h_Desk_levels h_Desk_colour h_Desk_light h_Desk_copy h_Desk_swap h_Desk_drop h_Desk_pixel h_Desk_read_bytes h_Desk_read_words F_Desk_later, ⟨a_Desk_later, i_Desk_later, k_Desk_later⟩, F_Desk_later.binds (ps := ["self", "place", "given"]) fun _ _ _ _ _ _ us hl => match us, hl with | [_, _, _], _ => rfl⟩
  have h_Desk_answer : HvM P w K mg base CX0 7 CD "answer" ["self", "place", "given"] (sp_Desk_answer K ⟨CS, CL, CD, CR, aS, aG⟩) := ⟨_, _, ok_Desk_answer (P := P) (w := w) (base := base) T h_Desk_open_stack h_need h_Desk_early h_Desk_later F_Desk_answer, ⟨a_Desk_answer, i_Desk_answer, k_Desk_answer⟩, F_Desk_answer.binds (ps := ["self", "place", "given"]) fun _ _ _ _ _ _ us hl => match us, hl with | [_, _, _], _ => rfl⟩
  exact ok_answers (P := P) (w := w) (base := base) T h_Desk___init__ h_Desk_answer F_answers
end GT
end
section
set_option linter.all false
/-! the mirrors are the document's pictures -/
namespace GT
open Sj31 (at_ build got Size Pic)
/-- F tells what p holds -/
def RP (n : Nat) (F : Pct) (p : Pic) : Prop := ∀ k i, k < 4 → i < n → F k i = ((at_ p (4 * i + k) : Nat) : Int)
variable {w h k i n : Nat} {F U G : Pct} {p q : Pic}
theorem at_build {f : Nat → Nat → Nat → Nat} (hk : k < 4) (hi : i < w * h) : at_ (build ⟨w, h⟩ f) (4 * i + k) = f (i % w) (i / w) k := by
  unfold Sj31.at_ Sj31.build
  have hl : 4 * i + k < 4 * w * h := by rw [Nat.mul_assoc]; omega
  rw [List.getElem?_toArray, List.getElem?_map, List.getElem?_range hl]
  show f ((4 * i + k) / 4 % w) ((4 * i + k) / 4 / w) ((4 * i + k) % 4) = _
  rw [show (4 * i + k) / 4 = i by omega, show (4 * i + k) % 4 = k by omega]
theorem rp_build {f : Nat → Nat → Nat → Nat} (e : ∀ k i, k < 4 → i < w * h → G k i = ((f (i % w) (i / w) k : Nat) : Int)) : RP (w * h) G (build ⟨w, h⟩ f) := fun k i hk hi => by
  rw [at_build hk hi]
  exact e k i hk hi
theorem wh_pos (hi : i < w * h) : 0 < w ∧ 0 < h := by
  constructor
  · rcases Nat.eq_zero_or_pos w with z | z
    · rw [z, Nat.zero_mul] at hi; omega
    · exact z
  · rcases Nat.eq_zero_or_pos h with z | z
    · rw [z, Nat.mul_zero] at hi; omega
    · exact z
theorem row_lt (hi : i < w * h) : i / w < h := (Nat.div_lt_iff_lt_mul (wh_pos hi).1).mpr (by rw [Nat.mul_comm]; exact hi)
theorem emod_small {a b : Nat} (hl : a < b) : ((a : Int) % (b : Int)) = (a : Int) := Int.emod_eq_of_lt (Int.natCast_nonneg a) (by omega)
theorem got_nat (hi : i < w * h) : got ⟨w, h⟩ p ((i % w : Nat) : Int) ((i / w : Nat) : Int) k = at_ p (4 * i + k) := by
  unfold Sj31.got
  show at_ p (4 * ((((i / w : Nat) : Int) % (h : Int)).toNat * w + (((i % w : Nat) : Int) % (w : Int)).toNat) + k) = _
  rw [emod_small (row_lt hi), emod_small (Nat.mod_lt i (wh_pos hi).1), Int.toNat_natCast, Int.toNat_natCast, Nat.mul_comm (i / w) w, Nat.div_add_mod]
theorem ix_nat (hw : 1 ≤ w) (hh : 1 ≤ h) (x y : Int) : (y % (h : Int) * (w : Int) + x % (w : Int)).toNat = (y % (h : Int)).toNat * w + (x % (w : Int)).toNat := by
  have a1 := Int.emod_nonneg y (show (h : Int) ≠ 0 by omega)
  have b1 := Int.emod_nonneg x (show (w : Int) ≠ 0 by omega)
  obtain ⟨i, hi⟩ := Int.eq_ofNat_of_zero_le a1
  obtain ⟨j, hj⟩ := Int.eq_ofNat_of_zero_le b1
  rw [hi, hj]
  have e : ((i : Int) * (w : Int) + (j : Int)) = ((i * w + j : Nat) : Int) := by push_cast; rfl
  show ((i : Int) * (w : Int) + (j : Int)).toNat = (i : Int).toNat * w + (j : Int).toNat
  rw [e, Int.toNat_natCast, Int.toNat_natCast, Int.toNat_natCast]
theorem r_got (R : RP (w * h) F p) (hw : 1 ≤ w) (hh : 1 ≤ h) (hk : k < 4) (x y : Int) : mGot w h (F k) x y = ((got ⟨w, h⟩ p x y k : Nat) : Int) := by
  have ix := got_ix hw hh x y
  unfold mGot Sj31.got
  rw [R k _ hk ix, ix_nat hw hh]
/-- a colour -/
def CP (f : Nat → Int) (c : List Nat) : Prop := ∀ k, k < 4 → f k = ((c.getD k 0 : Nat) : Int)
theorem r_flat {f : Nat → Int} {c : List Nat} (hc : CP f c) : RP (w * h) (fun k _ => f k) (Sj31.flat ⟨w, h⟩ c) := rp_build fun k i hk hi => hc k hk
theorem r_pow {t : Nat} (ht : t ≤ 65536) : ∀ m, mPow (t : Int) m = ((Sj31.powers (65536 - t) (m + 1) : Nat) : Int)
  | 0 => by
    show (65536 : Int) - (t : Int) = ((65536 * (65536 - t) / 65536 : Nat) : Int)
    omega
  | m + 1 => by
    have ih := r_pow ht m
    show mPow (t : Int) m * (65536 - (t : Int)) / 65536 = ((Sj31.powers (65536 - t) (m + 1) * (65536 - t) / 65536 : Nat) : Int)
    rw [ih, show (65536 : Int) - (t : Int) = ((65536 - t : Nat) : Int) by omega, Int.natCast_ediv, Int.natCast_mul]
    rfl
theorem r_bright {cx cy rx ry : Int} (hn : 1 ≤ n) : mStrength w h (px w i) (py w i) cx cy rx ry n = ((Sj31.bright ⟨w, h⟩ cx cy rx ry n (i % w) (i / w) : Nat) : Int) := by
  have e : mT w h (px w i) (py w i) cx cy rx ry = Sj31.way w cx ((i % w : Nat) : Int) * 256 / rx * (Sj31.way w cx ((i % w : Nat) : Int) * 256 / rx) + Sj31.way h cy ((i / w : Nat) : Int) * 256 / ry * (Sj31.way h cy ((i / w : Nat) : Int) * 256 / ry) := by
    unfold mT mWay Sj31.way px py
    rw [Int.mul_comm 256, Int.mul_comm 256]
  unfold mStrength Sj31.bright
  simp only
  rw [← e]
  have t0 := mT_0 (w := w) (h := h) (x := px w i) (y := py w i) (cx := cx) (cy := cy) (rx := rx) (ry := ry)
  obtain ⟨t, ht⟩ := Int.eq_ofNat_of_zero_le t0
  rw [ht]
  show (if 65536 ≤ (t : Int) then (0 : Int) else mPow (t : Int) (n - 1)) = ((if 65536 ≤ (t : Int).toNat then 0 else Sj31.powers (65536 - (t : Int).toNat) n : Nat) : Int)
  rw [Int.toNat_natCast]
  by_cases c : 65536 ≤ t
  · rw [if_pos (by omega), if_pos c]; rfl
  · rw [if_neg (by omega), if_neg c, r_pow (by omega), show n - 1 + 1 = n by omega]
theorem r_glow {cx cy rx ry : Int} {f : Nat → Int} {c : List Nat} (R : RP (w * h) F p) (hc : CP f c) (hn : 1 ≤ n) : RP (w * h) (mGlow w h F cx cy rx ry n f) (Sj31.glow ⟨w, h⟩ p cx cy rx ry n c) := rp_build fun k i hk hi => by
  rw [got_nat hi]
  unfold mGlow
  rw [r_bright hn, R k i hk hi, hc k hk]
  show _ = ((min 65535 (at_ p (4 * i + k) + c.getD k 0 * Sj31.bright ⟨w, h⟩ cx cy rx ry n (i % w) (i / w) / 65536) : Nat) : Int)
  rw [← Int.natCast_mul]
  generalize c.getD k 0 * Sj31.bright ⟨w, h⟩ cx cy rx ry n (i % w) (i / w) = z
  omega
theorem r_box {x0 y0 sw sh : Int} {f : Nat → Int} {c : List Nat} (R : RP (w * h) F p) (hc : CP f c) : RP (w * h) (mBox w h F x0 y0 sw sh f) (Sj31.box ⟨w, h⟩ p x0 y0 sw sh c) := rp_build fun k i hk hi => by
  rw [got_nat hi]
  unfold mBox
  have e : (Sj31.inBox w x0 sw (i % w) && Sj31.inBox h y0 sh (i / w)) = mIn w h x0 y0 sw sh i := rfl
  show _ = ((if (Sj31.inBox w x0 sw (i % w) && Sj31.inBox h y0 sh (i / w)) = true then c.getD k 0 else at_ p (4 * i + k) : Nat) : Int)
  rw [e]
  cases mIn w h x0 y0 sw sh i with
  | true =>
    rw [if_pos rfl, if_pos rfl]
    exact hc k hk
  | false =>
    rw [if_neg (by decide), if_neg (by decide)]
    exact R k i hk hi
/-! ### blurring -/
theorem sum_cast {α : Type} (g : α → Int) (g' : α → Nat) : ∀ l : List α, (∀ x ∈ l, g x = ((g' x : Nat) : Int)) → (l.map g).sum = (((l.map g').foldr (fun a b => a + b) 0 : Nat) : Int)
  | [], _ => rfl
  | x :: r, e => by
    rw [List.map_cons, List.sum_cons, List.map_cons, List.foldr_cons, sum_cast g g' r fun y hy => e y (List.mem_cons_of_mem _ hy), e x List.mem_cons_self]
    push_cast
    rfl
theorem ring_lt {m : Nat} (hm : 0 < m) (z : Int) : (z % (m : Int)).toNat < m := by
  have a := Int.emod_nonneg z (show (m : Int) ≠ 0 by omega)
  have b := Int.emod_lt_of_pos z (show (0 : Int) < m by omega)
  omega
theorem row_in {y x : Nat} (hy : y < h) (hx : x < w) : y * w + x < w * h := by
  have m1 : (y + 1) * w ≤ h * w := Nat.mul_le_mul_right w hy
  rw [Nat.add_mul, Nat.one_mul, Nat.mul_comm h w] at m1
  omega
theorem r_rows {a : Nat} (R : RP (w * h) F p) : RP (w * h) (fun k => mRows w (F k) a) (Sj31.smooth ⟨w, h⟩ a false p) := rp_build fun k i hk hi => by
  unfold mRows mRow mRing
  have wp := wh_pos hi
  rw [sum_cast _ (fun (j : Nat) => got ⟨w, h⟩ p (((i % w : Nat) : Int) + ((j : Int) - (a : Int))) ((i / w : Nat) : Int) k) (List.range (2 * a + 1)) fun j hj => ?_]
  · push_cast
    rfl
  · unfold Sj31.got
    show F k (i / w * w + ((((i % w : Nat) : Int) - (a : Int) + (j : Int)) % (w : Int)).toNat) = _
    rw [R k _ hk (row_in (row_lt hi) (ring_lt wp.1 _))]
    show ((at_ p (4 * (i / w * w + ((((i % w : Nat) : Int) - (a : Int) + (j : Int)) % (w : Int)).toNat) + k) : Nat) : Int) = ((at_ p (4 * ((((i / w : Nat) : Int) % (h : Int)).toNat * w + ((((i % w : Nat) : Int) + ((j : Int) - (a : Int))) % (w : Int)).toNat) + k) : Nat) : Int)
    rw [emod_small (row_lt hi), Int.toNat_natCast, show ((i % w : Nat) : Int) - (a : Int) + (j : Int) = ((i % w : Nat) : Int) + ((j : Int) - (a : Int)) by omega]
theorem r_cols {d : Nat} (R : RP (w * h) F p) : RP (w * h) (fun k => mOver h w (mRows h (mOver w h (F k)) d)) (Sj31.smooth ⟨w, h⟩ d true p) := rp_build fun k i hk hi => by
  have wp := wh_pos hi
  have rl := row_lt hi
  have cl := Nat.mod_lt i wp.1
  have j1 : (i % w * h + i / w) / h = i % w := by rw [Nat.mul_comm, Nat.mul_add_div wp.2, Nat.div_eq_of_lt rl, Nat.add_zero]
  have j2 : (i % w * h + i / w) % h = i / w := by rw [Nat.mul_comm, Nat.mul_add_mod, Nat.mod_eq_of_lt rl]
  show mRows h (mOver w h (F k)) d (i % w * h + i / w) = _
  unfold mRows mRow mRing
  rw [j1, j2]
  rw [sum_cast _ (fun (j : Nat) => got ⟨w, h⟩ p ((i % w : Nat) : Int) (((i / w : Nat) : Int) + ((j : Int) - (d : Int))) k) (List.range (2 * d + 1)) fun j hj => ?_]
  · push_cast
    rfl
  · have yl := ring_lt wp.2 (((i / w : Nat) : Int) - (d : Int) + (j : Int))
    unfold mOver
    generalize hy : ((((i / w : Nat) : Int) - (d : Int) + (j : Int)) % (h : Int)).toNat = y at yl
    have k1 : (i % w * h + y) % h = y := by rw [Nat.mul_comm, Nat.mul_add_mod, Nat.mod_eq_of_lt yl]
    have k2 : (i % w * h + y) / h = i % w := by rw [Nat.mul_comm, Nat.mul_add_div wp.2, Nat.div_eq_of_lt yl, Nat.add_zero]
    show F k ((i % w * h + y) % h * w + (i % w * h + y) / h) = _
    rw [k1, k2, R k _ hk (row_in yl cl)]
    unfold Sj31.got
    show _ = ((at_ p (4 * (((((i / w : Nat) : Int) + ((j : Int) - (d : Int))) % (h : Int)).toNat * w + (((i % w : Nat) : Int) % (w : Int)).toNat) + k) : Nat) : Int)
    rw [emod_small cl, Int.toNat_natCast, show ((i / w : Nat) : Int) + ((j : Int) - (d : Int)) = ((i / w : Nat) : Int) - (d : Int) + (j : Int) by omega, hy]
theorem again_succ {α : Type} (f : α → α) : ∀ (n : Nat) (x : α), Sj31.again f (n + 1) x = f (Sj31.again f n x)
  | 0, _ => rfl
  | n + 1, x => again_succ f n (f x)
theorem r_blur {a d : Nat} (R : RP (w * h) F p) : ∀ n, RP (w * h) (mBlur w h a d n F) (Sj31.blur ⟨w, h⟩ a d n p)
  | 0 => R
  | n + 1 => by
    have ih := r_blur (a := a) (d := d) R n
    unfold Sj31.blur at ih ⊢
    rw [again_succ]
    exact r_cols (r_rows ih)
/-! ### sampling -/
theorem r_between (R : RP (w * h) F p) (hw : 1 ≤ w) (hh : 1 ≤ h) (hk : k < 4) (x y : Int) : mSample w h (F k) x y = ((Sj31.between ⟨w, h⟩ p x y k : Nat) : Int) := by
  unfold mSample Sj31.between
  simp only [r_got R hw hh hk]
  have u0 : ((x % 256).toNat : Int) = x % 256 := by omega
  have v0 : ((y % 256).toNat : Int) = y % 256 := by omega
  have u1 : ((256 - (x % 256).toNat : Nat) : Int) = 256 - x % 256 := by omega
  have v1 : ((256 - (y % 256).toNat : Nat) : Int) = 256 - y % 256 := by omega
  rw [Int.natCast_ediv, Int.natCast_add, Int.natCast_mul, Int.natCast_mul, Int.natCast_add, Int.natCast_add, Int.natCast_mul, Int.natCast_mul, Int.natCast_mul, Int.natCast_mul, u0, v0, u1, v1]
  rfl
theorem r_turn {c s : Int} (R : RP (w * h) F p) : RP (w * h) (mTurn w h F c s) (Sj31.turn ⟨w, h⟩ c s p) := rp_build fun k i hk hi => by
  have wp := wh_pos hi
  exact r_between R wp.1 wp.2 hk _ _
theorem r_bend {n : Int} (R : RP (w * h) F p) (S : RP (w * h) U q) : RP (w * h) (mBend w h F U n) (Sj31.bend ⟨w, h⟩ n q p) := rp_build fun k i hk hi => by
  have wp := wh_pos hi
  unfold mBend mSampled
  simp only
  rw [r_between R wp.1 wp.2 hk, S 0 i (by decide) hi, S 1 i (by decide) hi, got_nat hi, got_nat hi]
  rfl
end GT
end
section
set_option linter.all false
/-! the mirrors are the document's pictures: values -/
namespace GT
open Sj31 (at_ build got Size Pic)
variable {w h k i n : Nat} {F U G : Pct} {p q : Pic}
theorem r_near (a b : Nat) : mNearest (a : Int) (b : Int) = ((Sj31.near a b : Nat) : Int) := by
  unfold mNearest Sj31.near
  push_cast
  rfl
theorem r_levelled {v lo hi : Nat} (hl : lo < hi) : mLevelled (v : Int) (lo : Int) (hi : Int) = ((if v ≤ lo then 0 else if hi ≤ v then 65535 else Sj31.near ((v - lo) * 65535) (hi - lo) : Nat) : Int) := by
  unfold mLevelled
  by_cases a : v ≤ lo
  · rw [if_pos (by omega), if_pos a]; rfl
  · rw [if_neg (by omega), if_neg a]
    by_cases b : hi ≤ v
    · rw [if_pos (by omega), if_pos b]; rfl
    · rw [if_neg (by omega), if_neg b, ← r_near, show ((v : Int) - (lo : Int)) * 65535 = (((v - lo) * 65535 : Nat) : Int) by omega, show (hi : Int) - (lo : Int) = ((hi - lo : Nat) : Int) by omega]
theorem r_levels {lo hi : Nat} (hl : lo < hi) (R : RP (w * h) F p) : RP (w * h) (mLevels F (lo : Int) (hi : Int)) (Sj31.levels ⟨w, h⟩ lo hi p) := rp_build fun k i hk hi' => by
  simp only [got_nat hi']
  unfold mLevels
  by_cases c : k = 3
  · rw [if_neg (by omega), if_pos c]
    exact R k i hk hi'
  · rw [if_pos (by omega), if_neg c, R k i hk hi']
    exact r_levelled hl
theorem r_clamped (x : Int) : mClamped x = ((Sj31.held x : Nat) : Int) := by
  unfold mClamped Sj31.held
  omega
theorem r_colour {m : List Int} {f : Nat → Int} (hm : ∀ j, j < 12 → f j = m.getD j 0) (R : RP (w * h) F p) : RP (w * h) (mRecoloured F f) (Sj31.colour ⟨w, h⟩ m p) := rp_build fun k i hk hi => by
  simp only [got_nat hi]
  unfold mRecoloured
  by_cases c : k = 3
  · subst c
    rw [if_neg (by decide), if_pos rfl]
    exact R 3 i hk hi
  · rw [if_pos (by omega), if_neg c]
    unfold mColoured
    rw [r_clamped, R 0 i (by decide) hi, R 1 i (by decide) hi, R 2 i (by decide) hi, hm (4 * k) (by omega), hm (4 * k + 1) (by omega), hm (4 * k + 2) (by omega), hm (4 * k + 3) (by omega)]
    congr 3
    show _ = m.getD (4 * k + 0) 0 * ((at_ p (4 * i + 0) : Nat) : Int) + (m.getD (4 * k + 1) 0 * ((at_ p (4 * i + 1) : Nat) : Int) + (m.getD (4 * k + 2) 0 * ((at_ p (4 * i + 2) : Nat) : Int) + 0)) + 65536 * m.getD (4 * k + 3) 0
    simp only [Nat.add_zero]
    omega
theorem r_light {lx ly n : Int} (R : RP (w * h) F p) : RP (w * h) (mLight w h F lx ly n) (Sj31.lit ⟨w, h⟩ lx ly n p) := rp_build fun k i hk hi => by
  have wp := wh_pos hi
  unfold mLight
  by_cases c : k = 3
  · subst c
    rw [if_neg (by decide)]
    show F 3 i = ((got ⟨w, h⟩ p ((i % w : Nat) : Int) ((i / w : Nat) : Int) 3 : Nat) : Int)
    rw [got_nat hi]
    exact R 3 i hk hi
  · simp only
    rw [if_pos (by omega), if_neg c]
    unfold mLit
    rw [r_clamped, r_got R wp.1 wp.2 (by decide), r_got R wp.1 wp.2 (by decide), r_got R wp.1 wp.2 (by decide), r_got R wp.1 wp.2 (by decide)]
    rfl
theorem j_at {m : Nat} {a b t : Nat} {z : Nat} {y : Int} (h1 : Sj31.joined m a b t = z) (h2 : mJoinV (m : Int) (b : Int) (t : Int) (a : Int) = y) (h : y = (z : Int)) : mJoinV (m : Int) (b : Int) (t : Int) (a : Int) = ((Sj31.joined m a b t : Nat) : Int) := by rw [h1, h2, h]
theorem top_is : Sj31.TOP = 65535 := rfl
theorem j0 {a b t : Nat} : mJoinV ((0 : Nat) : Int) (b : Int) (t : Int) (a : Int) = ((Sj31.joined 0 a b t : Nat) : Int) := j_at (z := min Sj31.TOP (b + t)) (y := min ((b : Int) + (t : Int)) 65535) rfl (by unfold mJoinV; exact if_pos rfl) (by rw [top_is]; omega)
theorem j1 {a b t : Nat} : mJoinV ((1 : Nat) : Int) (b : Int) (t : Int) (a : Int) = ((Sj31.joined 1 a b t : Nat) : Int) := j_at (z := b - t) (y := max ((b : Int) - (t : Int)) 0) rfl (by unfold mJoinV; rw [if_neg (by decide)]; exact if_pos rfl) (by omega)
theorem j2 {a b t : Nat} : mJoinV ((2 : Nat) : Int) (b : Int) (t : Int) (a : Int) = ((Sj31.joined 2 a b t : Nat) : Int) := j_at (z := Sj31.near (b * t) Sj31.TOP) (y := mNearest ((b : Int) * (t : Int)) 65535) rfl (by unfold mJoinV; rw [if_neg (by decide), if_neg (by decide)]; exact if_pos rfl) (by rw [← r_near, Int.natCast_mul, top_is]; rfl)
theorem j3 {a b t : Nat} : mJoinV ((3 : Nat) : Int) (b : Int) (t : Int) (a : Int) = ((Sj31.joined 3 a b t : Nat) : Int) := j_at (z := max b t) (y := max (b : Int) (t : Int)) rfl (by unfold mJoinV; rw [if_neg (by decide), if_neg (by decide), if_neg (by decide)]; exact if_pos rfl) (by omega)
theorem j4 {a b t : Nat} : mJoinV ((4 : Nat) : Int) (b : Int) (t : Int) (a : Int) = ((Sj31.joined 4 a b t : Nat) : Int) := j_at (z := min b t) (y := min (b : Int) (t : Int)) rfl (by unfold mJoinV; rw [if_neg (by decide), if_neg (by decide), if_neg (by decide), if_neg (by decide)]; exact if_pos rfl) (by omega)
theorem j5 {a b t : Nat} : mJoinV ((5 : Nat) : Int) (b : Int) (t : Int) (a : Int) = ((Sj31.joined 5 a b t : Nat) : Int) := j_at (z := (b + t + 1) / 2) (y := ((b : Int) + (t : Int) + 1) / 2) rfl (by unfold mJoinV; rw [if_neg (by decide), if_neg (by decide), if_neg (by decide), if_neg (by decide), if_neg (by decide)]; exact if_pos rfl) (by omega)
theorem j6 {a b t : Nat} (ha : a ≤ 65535) : mJoinV ((6 : Nat) : Int) (b : Int) (t : Int) (a : Int) = ((Sj31.joined 6 a b t : Nat) : Int) := j_at (z := Sj31.near (b * (Sj31.TOP - a) + t * a) Sj31.TOP) (y := mNearest ((b : Int) * (65535 - (a : Int)) + (t : Int) * (a : Int)) 65535) rfl (by unfold mJoinV; rw [if_neg (by decide), if_neg (by decide), if_neg (by decide), if_neg (by decide), if_neg (by decide), if_neg (by decide)]; exact if_pos rfl) (by
    rw [← r_near, Int.natCast_add, Int.natCast_mul, Int.natCast_mul, top_is, show ((65535 - a : Nat) : Int) = 65535 - (a : Int) by omega]
    rfl)
theorem j7 {a b t : Nat} : mJoinV ((7 : Nat) : Int) (b : Int) (t : Int) (a : Int) = ((Sj31.joined 7 a b t : Nat) : Int) := j_at (z := max b t - min b t) (y := if (b : Int) - (t : Int) < 0 then -((b : Int) - (t : Int)) else (b : Int) - (t : Int)) rfl (by unfold mJoinV; rw [if_neg (by decide), if_neg (by decide), if_neg (by decide), if_neg (by decide), if_neg (by decide), if_neg (by decide)]; exact if_neg (by decide)) (by split <;> omega)
theorem r_joinV {m a b t : Nat} (hm : m ≤ 7) (ha : a ≤ 65535) : mJoinV (m : Int) (b : Int) (t : Int) (a : Int) = ((Sj31.joined m a b t : Nat) : Int) := by
  have : m = 0 ∨ m = 1 ∨ m = 2 ∨ m = 3 ∨ m = 4 ∨ m = 5 ∨ m = 6 ∨ m = 7 := by omega
  rcases this with rfl | rfl | rfl | rfl | rfl | rfl | rfl | rfl
  · exact j0
  · exact j1
  · exact j2
  · exact j3
  · exact j4
  · exact j5
  · exact j6 ha
  · exact j7
theorem r_join {m : Nat} (hm : m ≤ 7) (R : RP (w * h) F p) (S : RP (w * h) U q) (b : Bd (w * h) U) : RP (w * h) (mJoined (m : Int) F U) (Sj31.join ⟨w, h⟩ m p q) := rp_build fun k i hk hi => by
  rw [got_nat hi, got_nat hi, got_nat hi]
  unfold mJoined
  have a := b 3 i (by decide) hi
  rw [S 3 i (by decide) hi] at a
  rw [R k i hk hi, S k i hk hi, S 3 i (by decide) hi]
  exact r_joinV hm (by omega)
/-! ### noise -/
theorem x_nat (n d : Nat) : mXor (n : Int) ((n : Int) / (d : Int)) = ((Nat.xor n (n / d) : Nat) : Int) := by
  unfold mXor
  rw [← Int.natCast_ediv, Int.toNat_natCast, Int.toNat_natCast]
/-- the second half of the mixing, as Python and as the document have it -/
def mixI (m : Int) : Int := mXor m (m / 8192) * 3266489917 % 4294967296 / 65536
def mixN (m : Nat) : Nat := Nat.xor m (m / 2 ^ 13) * 3266489917 % 2 ^ 32 / 2 ^ 16
def mixI1 (n : Int) : Int := mXor n (n / 32768) * 2246822519 % 4294967296
def mixN1 (n : Nat) : Nat := Nat.xor n (n / 2 ^ 15) * 2246822519 % 2 ^ 32
theorem cast_mm (z : Nat) : (z : Int) * 2246822519 % 4294967296 = ((z * 2246822519 % 4294967296 : Nat) : Int) := by omega
theorem cast_mm2 (z : Nat) : (z : Int) * 3266489917 % 4294967296 / 65536 = ((z * 3266489917 % 4294967296 / 65536 : Nat) : Int) := by omega
theorem p13 : (2 ^ 13 : Nat) = 8192 := rfl
theorem p15 : (2 ^ 15 : Nat) = 32768 := rfl
theorem p16 : (2 ^ 16 : Nat) = 65536 := rfl
theorem p32 : (2 ^ 32 : Nat) = 4294967296 := rfl
theorem c13 : ((8192 : Nat) : Int) = 8192 := rfl
theorem c15 : ((32768 : Nat) : Int) = 32768 := rfl
theorem mix1_is (n : Nat) : mixI1 (n : Int) = ((mixN1 n : Nat) : Int) := by
  have x := x_nat n 32768
  rw [c15] at x
  unfold mixI1 mixN1
  rw [x, p15, p32]
  exact cast_mm _
theorem mix_is (n : Nat) : mixI (n : Int) = ((mixN n : Nat) : Int) := by
  have x := x_nat n 8192
  rw [c13] at x
  unfold mixI mixN
  rw [x, p13, p32, p16]
  exact cast_mm2 _
theorem cast_seed (seed a b o : Nat) : (2654435761 * (seed : Int) + 374761393 * (a : Int) + 668265263 * (b : Int) + 2246822519 * (o : Int)) % 4294967296 = (((seed * 2654435761 + a * 374761393 + b * 668265263 + o * 2246822519) % 2 ^ 32 : Nat) : Int) := by omega
theorem mMixed_is (seed a b o : Int) : mMixed seed a b o = mixI (mixI1 ((2654435761 * seed + 374761393 * a + 668265263 * b + 2246822519 * o) % 4294967296)) := rfl
theorem chance_is (seed a b o : Nat) : Sj31.chance seed a b o = mixN (mixN1 ((seed * 2654435761 + a * 374761393 + b * 668265263 + o * 2246822519) % 2 ^ 32)) := rfl
theorem r_mixed (seed a b o : Nat) : mMixed (seed : Int) (a : Int) (b : Int) (o : Int) = ((Sj31.chance seed a b o : Nat) : Int) :=
  (mMixed_is _ _ _ _).trans ((congrArg (fun z => mixI (mixI1 z)) (cast_seed seed a b o)).trans ((congrArg mixI (mix1_is _)).trans ((mix_is _).trans (congrArg (fun z : Nat => (z : Int)) (chance_is seed a b o).symm))))
theorem soft_le {t : Nat} (ht : t ≤ 65536) : Sj31.soft t ≤ 65536 ∧ mSmooth (t : Int) = ((Sj31.soft t : Nat) : Int) := by
  have b := smooth_in (t := (t : Int)) (by omega) (by omega)
  have e : mSmooth (t : Int) = ((Sj31.soft t : Nat) : Int) := by
    unfold mSmooth Sj31.soft
    rw [Int.natCast_ediv, Int.natCast_mul, Int.natCast_ediv, Int.natCast_mul, show ((196608 - 2 * t : Nat) : Int) = 196608 - 2 * (t : Int) by omega]
    rfl
  rw [e] at b
  exact ⟨by omega, e⟩
theorem r_mid {a b u : Nat} (hu : u ≤ 65536) : mBetween (a : Int) (b : Int) (u : Int) = (((a * (65536 - u) + b * u) / 65536 : Nat) : Int) := by
  unfold mBetween
  rw [Int.natCast_ediv, Int.natCast_add, Int.natCast_mul, Int.natCast_mul, show ((65536 - u : Nat) : Int) = 65536 - (u : Int) by omega]
  rfl
theorem r_corner {sd a b seed o : Nat} : mCorner w h sd (seed : Int) (o : Int) (a : Int) (b : Int) = ((Sj31.chance seed (a % (w / sd)) (b % (h / sd)) o : Nat) : Int) := by
  unfold mCorner
  rw [← r_mixed, Int.natCast_emod, Int.natCast_emod]
theorem cell_le {x sd : Nat} (hs : 1 ≤ sd) : x % sd * 65536 / sd ≤ 65536 := by
  have a := Nat.mod_lt x hs
  exact Nat.div_le_of_le_mul (Nat.mul_le_mul_right 65536 (by omega))
theorem r_layer {sd seed o x y : Nat} (hs : 1 ≤ sd) : mLayer w h sd (seed : Int) (o : Int) (x : Int) (y : Int) = ((Sj31.layer ⟨w, h⟩ seed sd o x y : Nat) : Int) := by
  have ux := soft_le (cell_le (x := x) hs)
  have uy := soft_le (cell_le (x := y) hs)
  unfold mLayer Sj31.layer
  simp only
  have ex : (x : Int) % (sd : Int) * 65536 / (sd : Int) = ((x % sd * 65536 / sd : Nat) : Int) := by
    rw [Int.natCast_ediv, Int.natCast_mul, Int.natCast_emod]
    rfl
  have ey : (y : Int) % (sd : Int) * 65536 / (sd : Int) = ((y % sd * 65536 / sd : Nat) : Int) := by
    rw [Int.natCast_ediv, Int.natCast_mul, Int.natCast_emod]
    rfl
  rw [ex, ey, ux.2, uy.2, ← Int.natCast_ediv, ← Int.natCast_ediv, show ((x / sd : Nat) : Int) + 1 = ((x / sd + 1 : Nat) : Int) by omega, show ((y / sd : Nat) : Int) + 1 = ((y / sd + 1 : Nat) : Int) by omega,
    r_corner, r_corner, r_corner, r_corner, r_mid ux.1, r_mid ux.1, r_mid uy.1]
theorem r_loud (fall : Nat) : ∀ o, mLoud (fall : Int) o = ((Sj31.loud fall o : Nat) : Int)
  | 0 => rfl
  | o + 1 => by
    show mLoud (fall : Int) o * (fall : Int) / 65536 = ((Sj31.loud fall o * fall / 65536 : Nat) : Int)
    rw [r_loud fall o, Int.natCast_ediv, Int.natCast_mul]
    rfl
theorem fold_sum (l : List Nat) : l.foldr (fun a b => a + b) 0 = l.sum := rfl
/-- what one layer adds -/
def lay (w h seed cell fall x y o : Nat) : Nat := if cell < o then 0 else Sj31.layer ⟨w, h⟩ seed (2 ^ (cell - o)) o x y * Sj31.loud fall o / 65536
theorem r_noiseSum {seed cell fall : Nat} : ∀ o, o ≤ cell + 1 → mNoiseSum w h (seed : Int) cell (fall : Int) o i = ((((List.range o).map (lay w h seed cell fall (i % w) (i / w))).sum : Nat) : Int)
  | 0, _ => rfl
  | o + 1, ho => by
    show mNoiseSum w h (seed : Int) cell (fall : Int) o i + mLayer w h (2 ^ (cell - o)) (seed : Int) (o : Int) (px w i) (py w i) * mLoud (fall : Int) o / 65536 = _
    rw [r_noiseSum o (by omega), List.range_succ, List.map_append, List.sum_append, List.map_singleton, List.sum_singleton, Int.natCast_add]
    congr 1
    unfold lay
    rw [if_neg (by omega), Int.natCast_ediv, Int.natCast_mul, ← r_loud, ← r_layer Nat.one_le_two_pow]
    rfl
theorem lay_more {seed cell fall x y : Nat} : ∀ l, cell + 1 ≤ l → ((List.range l).map (lay w h seed cell fall x y)).sum = ((List.range (cell + 1)).map (lay w h seed cell fall x y)).sum
  | 0, hl => by omega
  | l + 1, hl => by
    by_cases c : l + 1 = cell + 1
    · rw [c]
    · rw [List.range_succ (n := l), List.map_append, List.sum_append, lay_more l (by omega), List.map_singleton, List.sum_singleton]
      have : lay w h seed cell fall x y l = 0 := by
        unfold lay
        rw [if_pos (by omega)]
      rw [this, Nat.add_zero]
theorem r_noise {seed cell layers fall : Nat} : RP (w * h) (mNoise w h (seed : Int) cell layers (fall : Int)) (Sj31.noise ⟨w, h⟩ seed cell layers fall) := rp_build fun k i hk hi => by
  unfold mNoise
  show _ = ((if k = 3 then 65535 else min 65535 ((List.range layers).map (lay w h seed cell fall (i % w) (i / w))).sum : Nat) : Int)
  by_cases c : k = 3
  · rw [if_neg (by omega), if_pos c]
    rfl
  · rw [if_pos (by omega), if_neg c, r_noiseSum _ (by omega)]
    have e : ((List.range (min layers (cell + 1))).map (lay w h seed cell fall (i % w) (i / w))).sum = ((List.range layers).map (lay w h seed cell fall (i % w) (i / w))).sum := by
      by_cases l : layers ≤ cell + 1
      · rw [Nat.min_eq_left l]
      · rw [Nat.min_eq_right (by omega), lay_more layers (by omega)]
    rw [e]
    omega
/-! ### dithering -/
theorem scr_is {j : Nat} : SCR.getD j 0 = ((Sj31.STEPS.getD j 0 : Nat) : Int) := by
  match j with
  | 0 | 1 | 2 | 3 | 4 | 5 | 6 | 7 | 8 | 9 | 10 | 11 | 12 | 13 | 14 | 15 => rfl
  | j + 16 => rfl
theorem steps_le (j : Nat) : Sj31.STEPS.getD j 0 ≤ 15 := by
  match j with
  | 0 | 1 | 2 | 3 | 4 | 5 | 6 | 7 | 8 | 9 | 10 | 11 | 12 | 13 | 14 | 15 => decide
  | j + 16 => exact Nat.zero_le 15
theorem r_few {v x y : Nat} : mDither (v : Int) n (x : Int) (y : Int) = ((Sj31.few n x y v : Nat) : Int) := by
  unfold mDither Sj31.few
  have ix : (4 * ((y : Int) % 4) + (x : Int) % 4).toNat = y % 4 * 4 + x % 4 := by omega
  have st := steps_le (y % 4 * 4 + x % 4)
  have t : ((2 ^ n - 1 : Nat) : Int) = 2 ^ n - 1 := by
    have := Nat.one_le_two_pow (n := n)
    rw [Int.natCast_sub this]
    push_cast
    rfl
  rw [ix, scr_is, ← t, ← Int.natCast_mul]
  show _ = ((min (2 ^ n - 1) ((v * (2 ^ n - 1) / 65535 * 16 + v * (2 ^ n - 1) % 65535 * 16 / 65535 + 15 - Sj31.STEPS.getD (y % 4 * 4 + x % 4) 0) / 16) : Nat) : Int)
  generalize Sj31.STEPS.getD (y % 4 * 4 + x % 4) 0 = s at st ⊢
  generalize v * (2 ^ n - 1) = z
  generalize 2 ^ n - 1 = m
  omega
theorem r_bytes (R : RP (w * h) F p) : (List.range (4 * (w * h))).map (fun j => mDither (F (j % 4) (j / 4)) 8 (px w (j / 4)) (py w (j / 4))) = (Sj31.bytes ⟨w, h⟩ p).map fun (n : Nat) => (n : Int) := by
  unfold Sj31.bytes
  rw [List.map_map, Nat.mul_assoc]
  refine List.map_congr_left fun j hj => ?_
  have hj := List.mem_range.mp hj
  show _ = ((Sj31.few 8 (j / 4 % w) (j / 4 / w) (at_ p j) : Nat) : Int)
  rw [R (j % 4) (j / 4) (Nat.mod_lt _ (by decide)) (by omega), show 4 * (j / 4) + j % 4 = j by omega]
  exact r_few
theorem r_words (R : RP (w * h) F p) : (List.range (w * h)).map (fun i => 2048 * mDither (F 0 i) 5 (px w i) (py w i) + 32 * mDither (F 1 i) 6 (px w i) (py w i) + mDither (F 2 i) 5 (px w i) (py w i)) = (Sj31.words565 ⟨w, h⟩ p).map fun (n : Nat) => (n : Int) := by
  unfold Sj31.words565
  rw [List.map_map]
  refine List.map_congr_left fun i hi => ?_
  have hi := List.mem_range.mp hi
  rw [R 0 i (by decide) hi, R 1 i (by decide) hi, R 2 i (by decide) hi]
  show 2048 * mDither _ 5 ((i % w : Nat) : Int) ((i / w : Nat) : Int) + 32 * mDither _ 6 ((i % w : Nat) : Int) ((i / w : Nat) : Int) + mDither _ 5 ((i % w : Nat) : Int) ((i / w : Nat) : Int) = _
  rw [r_few, r_few, r_few]
  show _ = ((2048 * Sj31.few 5 (i % w) (i / w) (at_ p (4 * i + 0)) + 32 * Sj31.few 6 (i % w) (i / w) (at_ p (4 * i + 1)) + Sj31.few 5 (i % w) (i / w) (at_ p (4 * i + 2)) : Nat) : Int)
  omega
end GT
end
section
set_option linter.all false
/-! the desk is the document's house -/
namespace GT
open Sj31 (Pic House Ans just nat isIn isColour nats)
inductive Pl (n : Nat) : List Pct → List Pic → Prop
  | nil : Pl n [] []
  | cons {F : Pct} {p : Pic} {r : List Pct} {s : List Pic} : RP n F p → Bd n F → Pl n r s → Pl n (F :: r) (p :: s)
theorem Pl.len {n : Nat} {r : List Pct} {s : List Pic} (h : Pl n r s) : r.length = s.length := by
  induction h with
  | nil => rfl
  | cons _ _ _ ih => simp [ih]
theorem Pl.get {n : Nat} {r : List Pct} {s : List Pic} (h : Pl n r s) : ∀ (i : Nat) (p : Pic), s[i]? = some p → ∃ F, r[i]? = some F ∧ RP n F p ∧ Bd n F := by
  induction h with
  | nil => intro i p e; simp at e
  | cons a b _ ih =>
    intro i p e
    cases i with
    | zero => cases e; exact ⟨_, rfl, a, b⟩
    | succ i => exact ih i p e
def RH (D : Dk) (g : House) : Prop := g.s = ⟨D.w, D.h⟩ ∧ sizeOk D.w D.h ∧ Pl (D.w * D.h) D.pile g.pile
def RR (r : Res) (g : House) (y : House × Ans) : Prop := match r with
  | .ok (D, a) => RH D y.1 ∧ a = y.2.v :: y.2.l
  | .error c => y.1 = g ∧ y.2 = just c
variable {w h : Nat} {P : List Pct} {S : List Pic}
theorem rr_push {G : Pct} {p : Pic} (ok : sizeOk w h) (pl : Pl (w * h) P S) (R : RP (w * h) G p) (b : Bd (w * h) G) : RR (Dk.push ⟨w, h, P⟩ G) ⟨⟨w, h⟩, S⟩ (House.push ⟨⟨w, h⟩, S⟩ p) := by
  unfold Dk.push House.push
  have l := pl.len
  by_cases c : P.length < 8
  · rw [if_pos c, if_neg (by show ¬ 8 ≤ S.length; omega)]
    refine ⟨⟨rfl, ok, .cons R b pl⟩, ?_⟩
    show [(P.length : Int) + 1] = [(((p :: S).length : Nat) : Int)]
    rw [List.length_cons, l]
    rfl
  · rw [if_neg c, if_pos (by show 8 ≤ S.length; omega)]
    exact ⟨rfl, rfl⟩
theorem rr_change {f : Pct → Pct} {f' : Pic → Pic} (ok : sizeOk w h) (pl : Pl (w * h) P S) (k : ∀ F p, RP (w * h) F p → Bd (w * h) F → RP (w * h) (f F) (f' p) ∧ Bd (w * h) (f F)) : RR (Dk.change ⟨w, h, P⟩ f) ⟨⟨w, h⟩, S⟩ (House.change ⟨⟨w, h⟩, S⟩ f') := by
  have l := pl.len
  cases pl with
  | nil => exact ⟨rfl, rfl⟩
  | cons R b pl =>
    obtain ⟨k1, k2⟩ := k _ _ R b
    refine ⟨⟨rfl, ok, .cons k1 k2 pl⟩, ?_⟩
    show [((List.length _ : Nat) : Int)] = [((List.length _ : Nat) : Int)]
    rw [l]
theorem rr_two {f : Pct → Pct → Pct} {f' : Pic → Pic → Pic} (ok : sizeOk w h) (pl : Pl (w * h) P S) (k : ∀ F U p q, RP (w * h) F p → Bd (w * h) F → RP (w * h) U q → Bd (w * h) U → RP (w * h) (f F U) (f' p q) ∧ Bd (w * h) (f F U)) : RR (Dk.two ⟨w, h, P⟩ f) ⟨⟨w, h⟩, S⟩ (House.two ⟨⟨w, h⟩, S⟩ f') := by
  cases pl with
  | nil => exact ⟨rfl, rfl⟩
  | cons R b pl =>
    cases pl with
    | nil => exact ⟨rfl, rfl⟩
    | cons R2 b2 pl =>
      have l := pl.len
      obtain ⟨k1, k2⟩ := k _ _ _ _ R2 b2 R b
      refine ⟨⟨rfl, ok, .cons k1 k2 pl⟩, ?_⟩
      show [((List.length (_ :: _ :: _) : Nat) : Int) - 1] = [((List.length (_ :: _) : Nat) : Int)]
      simp only [List.length_cons]
      rw [l]
      congr 1
      omega
theorem rr_if {b c : Bool} {A : Res} {g : House} {B : House × Ans} (hb : c = !b) (k : b = true → RR A g B) : RR (if b = true then A else .error (-2)) g (if c = true then (g, just (-2)) else B) := by
  subst hb
  cases b with
  | false => exact ⟨rfl, rfl⟩
  | true => exact k rfl
theorem isIn_of {a b z : Int} (h : isIn a b z = true) : a ≤ z ∧ z ≤ b := by
  unfold Sj31.isIn at h
  simpa using h
theorem nats_getD (c : List Int) (k : Nat) : (nats c).getD k 0 = (c.getD k 0).toNat := by
  unfold Sj31.nats
  rw [List.getD_eq_getElem?_getD, List.getD_eq_getElem?_getD, List.getElem?_map]
  cases c[k]? <;> rfl
/-- a colour that is one -/
theorem col_of {c : List Int} (h : isColour c = true) : c.length = 4 ∧ ∀ k, k < 4 → 0 ≤ c.getD k 0 ∧ c.getD k 0 ≤ 65535 := by
  unfold Sj31.isColour at h
  rw [Bool.and_eq_true, List.all_eq_true] at h
  have l : c.length = 4 := by simpa using h.1
  refine ⟨l, fun k hk => ?_⟩
  have := isIn_of (h.2 c[k] (List.getElem_mem (by omega)))
  rw [List.getD_eq_getElem?_getD, List.getElem?_eq_getElem (by omega)]
  exact this
theorem cp_of {c : List Int} {f : Nat → Int} (h : isColour c = true) (hf : ∀ k, k < 4 → f k = c.getD k 0) : CP f (nats c) ∧ ∀ k, k < 4 → 0 ≤ f k ∧ f k ≤ 65535 := by
  have a := (col_of h).2
  refine ⟨fun k hk => ?_, fun k hk => by rw [hf k hk]; exact a k hk⟩
  have := a k hk
  rw [nats_getD, hf k hk]
  omega
theorem onC_flat {f : Nat → Int} {c : List Int} (ok : sizeOk w h) (pl : Pl (w * h) P S) (hc : isColour c = true) (hf : ∀ k, k < 4 → f k = c.getD k 0) : RR (rFlat ⟨w, h, P⟩ f) ⟨⟨w, h⟩, S⟩ (Sj31.on ⟨⟨w, h⟩, S⟩ (.flat c)) := by
  obtain ⟨c1, c2⟩ := cp_of hc hf
  show RR _ _ (if (!isColour c) = true then _ else _)
  rw [hc]
  exact rr_push ok pl (r_flat c1) (bd_flat c2)
theorem if_two {b : Bool} {p : Prop} [Decidable p] {A e : Res} : (if b = true then (if p then A else e) else e) = if (b && decide p) = true then A else e := by
  cases b with
  | false => rfl
  | true => by_cases c : p <;> simp [c]
theorem onC_noise {f : Nat → Int} (ok : sizeOk w h) (pl : Pl (w * h) P S) : RR (rNoise ⟨w, h, P⟩ f) ⟨⟨w, h⟩, S⟩ (Sj31.on ⟨⟨w, h⟩, S⟩ (.noise (f 0) (f 1) (f 2) (f 3))) := by
  unfold rNoise
  rw [if_two]
  have e : within 4 f (tab [0, 0, 1, 0]) (tab [65535, 6, 7, 65535]) = (isIn 0 65535 (f 0) && (isIn 0 6 (f 1) && (isIn 1 7 (f 2) && (isIn 0 65535 (f 3) && true)))) := rfl
  rw [e]
  show RR _ _ (if (!isIn 0 65535 (f 0) || !isIn 0 6 (f 1) || decide (w < 2 ^ (f 1).toNat) || decide (h < 2 ^ (f 1).toNat) || !isIn 1 7 (f 2) || !isIn 0 65535 (f 3)) = true then _ else _)
  refine rr_if ?_ fun b => ?_
  · have d : decide (2 ^ (f 1).toNat ≤ min w h) = (!decide (w < 2 ^ (f 1).toNat) && !decide (h < 2 ^ (f 1).toNat)) := by
      by_cases a : w < 2 ^ (f 1).toNat <;> by_cases b : h < 2 ^ (f 1).toNat <;> simp [a, b] <;> omega
    show _ = !((isIn 0 65535 (f 0) && (isIn 0 6 (f 1) && (isIn 1 7 (f 2) && (isIn 0 65535 (f 3) && true)))) && decide (2 ^ (f 1).toNat ≤ min w h))
    rw [d]
    cases isIn 0 65535 (f 0) <;> cases isIn 0 6 (f 1) <;> cases isIn 1 7 (f 2) <;> cases isIn 0 65535 (f 3) <;> cases decide (w < 2 ^ (f 1).toNat) <;> cases decide (h < 2 ^ (f 1).toNat) <;> rfl
  · simp only [Bool.and_eq_true] at b
    obtain ⟨⟨b0, b1, b2, b3, _⟩, _⟩ := b
    have b0 := isIn_of b0
    have b3 := isIn_of b3
    have e0 : ((f 0).toNat : Int) = f 0 := by omega
    have e3 : ((f 3).toNat : Int) = f 3 := by omega
    have r := r_noise (w := w) (h := h) (seed := (f 0).toNat) (cell := (f 1).toNat) (layers := (f 2).toNat) (fall := (f 3).toNat)
    rw [e0, e3] at r
    exact rr_push ok pl r (bd_noise b3.1 b3.2)
theorem onC_glow {f : Nat → Int} {c : List Int} (ok : sizeOk w h) (pl : Pl (w * h) P S) (hc : isColour c = true) (hf : ∀ k, k < 4 → f (5 + k) = c.getD k 0) : RR (rGlow ⟨w, h, P⟩ f) ⟨⟨w, h⟩, S⟩ (Sj31.on ⟨⟨w, h⟩, S⟩ (.glow (f 0) (f 1) (f 2) (f 3) (f 4) c)) := by
  obtain ⟨c1, c2⟩ := cp_of (f := fun k => f (5 + k)) hc hf
  unfold rGlow
  have e : within 5 f (tab [0, 0, 1, 1, 1]) (tab [63, 63, 255, 255, 8]) = (isIn 0 63 (f 0) && (isIn 0 63 (f 1) && (isIn 1 255 (f 2) && (isIn 1 255 (f 3) && (isIn 1 8 (f 4) && true))))) := rfl
  rw [e]
  show RR _ _ (if (!isIn 0 63 (f 0) || !isIn 0 63 (f 1) || !isIn 1 255 (f 2) || !isIn 1 255 (f 3) || !isIn 1 8 (f 4) || !isColour c) = true then _ else _)
  rw [hc]
  refine rr_if ?_ fun b => ?_
  · cases isIn 0 63 (f 0) <;> cases isIn 0 63 (f 1) <;> cases isIn 1 255 (f 2) <;> cases isIn 1 255 (f 3) <;> cases isIn 1 8 (f 4) <;> rfl
  · simp only [Bool.and_eq_true] at b
    have b4 := isIn_of b.2.2.2.2.1
    exact rr_change ok pl fun F p R B => ⟨r_glow R c1 (by omega), bd_glow B c2⟩
theorem onC_box {f : Nat → Int} {c : List Int} (ok : sizeOk w h) (pl : Pl (w * h) P S) (hc : isColour c = true) (hf : ∀ k, k < 4 → f (4 + k) = c.getD k 0) : RR (rBox ⟨w, h, P⟩ f) ⟨⟨w, h⟩, S⟩ (Sj31.on ⟨⟨w, h⟩, S⟩ (.box (f 0) (f 1) (f 2) (f 3) c)) := by
  obtain ⟨c1, c2⟩ := cp_of (f := fun k => f (4 + k)) hc hf
  unfold rBox
  have e : within 4 f (tab [0, 0, 0, 0]) (tab [63, 63, 64, 64]) = (isIn 0 63 (f 0) && (isIn 0 63 (f 1) && (isIn 0 64 (f 2) && (isIn 0 64 (f 3) && true)))) := rfl
  rw [e]
  show RR _ _ (if (!isIn 0 63 (f 0) || !isIn 0 63 (f 1) || !isIn 0 64 (f 2) || !isIn 0 64 (f 3) || !isColour c) = true then _ else _)
  rw [hc]
  refine rr_if ?_ fun b => ?_
  · cases isIn 0 63 (f 0) <;> cases isIn 0 63 (f 1) <;> cases isIn 0 64 (f 2) <;> cases isIn 0 64 (f 3) <;> rfl
  · exact rr_change ok pl fun F p R B => ⟨r_box R c1, bd_box B c2⟩
theorem onC_blur {f : Nat → Int} (ok : sizeOk w h) (pl : Pl (w * h) P S) : RR (rBlur ⟨w, h, P⟩ f) ⟨⟨w, h⟩, S⟩ (Sj31.on ⟨⟨w, h⟩, S⟩ (.blur (f 0) (f 1) (f 2))) := by
  unfold rBlur
  have e : within 3 f (tab [0, 0, 1]) (tab [15, 15, 3]) = (isIn 0 15 (f 0) && (isIn 0 15 (f 1) && (isIn 1 3 (f 2) && true))) := rfl
  rw [e]
  show RR _ _ (if (!isIn 0 15 (f 0) || !isIn 0 15 (f 1) || !isIn 1 3 (f 2)) = true then _ else _)
  refine rr_if ?_ fun b => ?_
  · cases isIn 0 15 (f 0) <;> cases isIn 0 15 (f 1) <;> cases isIn 1 3 (f 2) <;> rfl
  · exact rr_change ok pl fun F p R B => ⟨r_blur R _, bd_blur ok.1 ok.2.2.1 B _⟩
theorem onC_turn {f : Nat → Int} (ok : sizeOk w h) (pl : Pl (w * h) P S) : RR (rTurn ⟨w, h, P⟩ f) ⟨⟨w, h⟩, S⟩ (Sj31.on ⟨⟨w, h⟩, S⟩ (.turn (f 0) (f 1))) := by
  unfold rTurn
  have e : within 2 f (tab [-65536, -65536]) (tab [65536, 65536]) = (isIn (-65536) 65536 (f 0) && (isIn (-65536) 65536 (f 1) && true)) := rfl
  rw [e]
  show RR _ _ (if (!isIn (-65536) 65536 (f 0) || !isIn (-65536) 65536 (f 1)) = true then _ else _)
  refine rr_if ?_ fun b => ?_
  · cases isIn (-65536) 65536 (f 0) <;> cases isIn (-65536) 65536 (f 1) <;> rfl
  · exact rr_change ok pl fun F p R B => ⟨r_turn R, bd_sampled ok.1 ok.2.2.1 B⟩
theorem onC_bend {f : Nat → Int} (ok : sizeOk w h) (pl : Pl (w * h) P S) : RR (rBend ⟨w, h, P⟩ f) ⟨⟨w, h⟩, S⟩ (Sj31.on ⟨⟨w, h⟩, S⟩ (.bend (f 0))) := by
  unfold rBend
  have e : within 1 f (tab [-8192]) (tab [8192]) = (isIn (-8192) 8192 (f 0) && true) := rfl
  rw [e]
  show RR _ _ (if (!isIn (-8192) 8192 (f 0)) = true then _ else _)
  refine rr_if ?_ fun b => ?_
  · cases isIn (-8192) 8192 (f 0) <;> rfl
  · exact rr_two ok pl fun F U p q R B R2 B2 => ⟨r_bend R R2, bd_sampled ok.1 ok.2.2.1 B⟩
theorem onC_join {f : Nat → Int} (ok : sizeOk w h) (pl : Pl (w * h) P S) : RR (rJoin ⟨w, h, P⟩ f) ⟨⟨w, h⟩, S⟩ (Sj31.on ⟨⟨w, h⟩, S⟩ (.join (f 0))) := by
  unfold rJoin
  have e : within 1 f (tab [0]) (tab [7]) = (isIn 0 7 (f 0) && true) := rfl
  rw [e]
  show RR _ _ (if (!isIn 0 7 (f 0)) = true then _ else _)
  refine rr_if ?_ fun b => ?_
  · cases isIn 0 7 (f 0) <;> rfl
  · rw [Bool.and_true] at b
    have b := isIn_of b
    have e0 : ((f 0).toNat : Int) = f 0 := by omega
    refine rr_two ok pl fun F U p q R B R2 B2 => ?_
    have r := r_join (m := (f 0).toNat) (by omega) R R2 B2
    rw [e0] at r
    exact ⟨r, bd_joined B B2⟩
theorem onC_levels {f : Nat → Int} (ok : sizeOk w h) (pl : Pl (w * h) P S) : RR (rLevels ⟨w, h, P⟩ f) ⟨⟨w, h⟩, S⟩ (Sj31.on ⟨⟨w, h⟩, S⟩ (.levels (f 0) (f 1))) := by
  unfold rLevels
  rw [if_two]
  have e : within 2 f (tab [0, 0]) (tab [65535, 65535]) = (isIn 0 65535 (f 0) && (isIn 0 65535 (f 1) && true)) := rfl
  rw [e]
  show RR _ _ (if (!isIn 0 65535 (f 0) || !isIn 0 65535 (f 1) || decide (f 1 ≤ f 0)) = true then _ else _)
  refine rr_if ?_ fun b => ?_
  · have d : decide (f 0 < f 1) = !decide (f 1 ≤ f 0) := by
      by_cases a : f 1 ≤ f 0 <;> simp [a] <;> omega
    rw [d]
    cases isIn 0 65535 (f 0) <;> cases isIn 0 65535 (f 1) <;> cases decide (f 1 ≤ f 0) <;> rfl
  · simp only [Bool.and_eq_true, decide_eq_true_eq] at b
    obtain ⟨⟨b0, b1, _⟩, b2⟩ := b
    have b0 := isIn_of b0
    have b1 := isIn_of b1
    have e0 : ((f 0).toNat : Int) = f 0 := by omega
    have e1 : ((f 1).toNat : Int) = f 1 := by omega
    refine rr_change ok pl fun F p R B => ?_
    have r := r_levels (lo := (f 0).toNat) (hi := (f 1).toNat) (by omega) R
    rw [e0, e1] at r
    exact ⟨r, bd_levels b2 B⟩
theorem onC_colour {f : Nat → Int} {m : List Int} (ok : sizeOk w h) (pl : Pl (w * h) P S) (hl : m.length = 12) (hm : m.all (isIn (-32768) 32767) = true) (hf : ∀ k, k < 12 → f k = m.getD k 0) : RR (rColour ⟨w, h, P⟩ f) ⟨⟨w, h⟩, S⟩ (Sj31.on ⟨⟨w, h⟩, S⟩ (.colour m)) := by
  unfold rColour
  show RR _ _ (if (m.length != 12 || !m.all (isIn (-32768) 32767)) = true then _ else _)
  rw [hl, hm]
  exact rr_change ok pl fun F p R B => ⟨r_colour hf R, bd_recoloured B⟩
theorem onC_light {f : Nat → Int} (ok : sizeOk w h) (pl : Pl (w * h) P S) : RR (rLight ⟨w, h, P⟩ f) ⟨⟨w, h⟩, S⟩ (Sj31.on ⟨⟨w, h⟩, S⟩ (.lit (f 0) (f 1) (f 2))) := by
  unfold rLight
  have e : within 3 f (tab [-256, -256, 0]) (tab [256, 256, 4096]) = (isIn (-256) 256 (f 0) && (isIn (-256) 256 (f 1) && (isIn 0 4096 (f 2) && true))) := rfl
  rw [e]
  show RR _ _ (if (!isIn (-256) 256 (f 0) || !isIn (-256) 256 (f 1) || !isIn 0 4096 (f 2)) = true then _ else _)
  refine rr_if ?_ fun b => ?_
  · cases isIn (-256) 256 (f 0) <;> cases isIn (-256) 256 (f 1) <;> cases isIn 0 4096 (f 2) <;> rfl
  · exact rr_change ok pl fun F p R B => ⟨r_light R, bd_light B⟩
theorem onC_copy {f : Nat → Int} (ok : sizeOk w h) (pl : Pl (w * h) P S) : RR (rCopy ⟨w, h, P⟩ f) ⟨⟨w, h⟩, S⟩ (Sj31.on ⟨⟨w, h⟩, S⟩ (.copy (f 0))) := by
  have l := pl.len
  unfold rCopy
  show RR (if 0 ≤ f 0 ∧ f 0 < (P.length : Int) then _ else _) _ (if (!isIn 0 ((S.length : Int) - 1) (f 0)) = true then _ else _)
  by_cases c : 0 ≤ f 0 ∧ f 0 < (P.length : Int)
  · have b : isIn 0 ((S.length : Int) - 1) (f 0) = true := by
      unfold Sj31.isIn
      simp
      omega
    rw [if_pos c, b]
    show RR (Dk.push ⟨w, h, P⟩ _) ⟨⟨w, h⟩, S⟩ (match S[(f 0).toNat]? with
      | none => (⟨⟨w, h⟩, S⟩, just (-2))
      | some p => House.push ⟨⟨w, h⟩, S⟩ p)
    have hs : (f 0).toNat < S.length := by omega
    have g := List.getElem?_eq_getElem hs
    obtain ⟨F, a1, a2, a3⟩ := pl.get _ _ g
    rw [g]
    show RR (Dk.push ⟨w, h, P⟩ (P.getD (f 0).toNat fun _ _ => 0)) _ _
    rw [List.getD_eq_getElem?_getD, a1]
    exact rr_push ok pl a2 a3
  · have b : isIn 0 ((S.length : Int) - 1) (f 0) = false := by
      unfold Sj31.isIn
      rw [← Bool.not_eq_true]
      simp
      omega
    rw [if_neg c, b]
    exact ⟨rfl, rfl⟩
theorem onC_swap (ok : sizeOk w h) (pl : Pl (w * h) P S) : RR (rSwap ⟨w, h, P⟩) ⟨⟨w, h⟩, S⟩ (Sj31.on ⟨⟨w, h⟩, S⟩ .swap) := by
  have l := pl.len
  cases pl with
  | nil => exact ⟨rfl, rfl⟩
  | cons R b pl =>
    cases pl with
    | nil => exact ⟨rfl, rfl⟩
    | cons R2 b2 pl =>
      refine ⟨⟨rfl, ok, .cons R2 b2 (.cons R b pl)⟩, ?_⟩
      show [((List.length _ : Nat) : Int)] = [((List.length _ : Nat) : Int)]
      rw [l]
theorem onC_drop (ok : sizeOk w h) (pl : Pl (w * h) P S) : RR (rDrop ⟨w, h, P⟩) ⟨⟨w, h⟩, S⟩ (Sj31.on ⟨⟨w, h⟩, S⟩ .drop) := by
  cases pl with
  | nil => exact ⟨rfl, rfl⟩
  | @cons F p r s R b pl =>
    have l := pl.len
    refine ⟨⟨rfl, ok, pl⟩, ?_⟩
    show [(((F :: r).length : Nat) : Int) - 1] = [((s.length : Nat) : Int)]
    rw [List.length_cons, l]
    congr 1
    omega
theorem onC_read {f : Nat → Int} (ok : sizeOk w h) (pl : Pl (w * h) P S) : RR (rPixel ⟨w, h, P⟩ f) ⟨⟨w, h⟩, S⟩ (Sj31.on ⟨⟨w, h⟩, S⟩ (.read (f 0) (f 1))) := by
  unfold rPixel
  have e : within 2 f (tab [0, 0]) (tab [(w : Int) - 1, (h : Int) - 1]) = (isIn 0 ((w : Int) - 1) (f 0) && (isIn 0 ((h : Int) - 1) (f 1) && true)) := rfl
  show RR (if within 2 f (tab [0, 0]) (tab [(w : Int) - 1, (h : Int) - 1]) = true then _ else _) _ (if (!isIn 0 ((w : Int) - 1) (f 0) || !isIn 0 ((h : Int) - 1) (f 1)) = true then _ else _)
  rw [e]
  refine rr_if ?_ fun b => ?_
  · cases isIn 0 ((w : Int) - 1) (f 0) <;> cases isIn 0 ((h : Int) - 1) (f 1) <;> rfl
  · cases pl with
    | nil => exact ⟨rfl, rfl⟩
    | @cons F p r s R b2 pl =>
      refine ⟨⟨rfl, ok, .cons R b2 pl⟩, ?_⟩
      show (0 : Int) :: (List.range 4).map (fun k => mGot w h (F k) (f 0) (f 1)) = (0 : Int) :: (List.range 4).map (fun k => ((Sj31.got ⟨w, h⟩ p (f 0) (f 1) k : Nat) : Int))
      congr 1
      exact List.map_congr_left fun k hk => r_got R ok.1 ok.2.2.1 (List.mem_range.mp hk) _ _
theorem onC_bytes (ok : sizeOk w h) (pl : Pl (w * h) P S) : RR (rBytes ⟨w, h, P⟩) ⟨⟨w, h⟩, S⟩ (Sj31.on ⟨⟨w, h⟩, S⟩ .bytes) := by
  cases pl with
  | nil => exact ⟨rfl, rfl⟩
  | @cons F p r s R b pl =>
    refine ⟨⟨rfl, ok, .cons R b pl⟩, ?_⟩
    show (4 * ((w * h : Nat) : Int)) :: (List.range (4 * (w * h))).map (fun j => mDither (F (j % 4) (j / 4)) 8 (px w (j / 4)) (py w (j / 4))) = (((Sj31.bytes ⟨w, h⟩ p).length : Nat) : Int) :: (Sj31.bytes ⟨w, h⟩ p).map fun (n : Nat) => (n : Int)
    rw [r_bytes R]
    congr 1
    unfold Sj31.bytes
    rw [List.length_map, List.length_range, Nat.mul_assoc]
    show 4 * ((w * h : Nat) : Int) = ((4 * (w * h) : Nat) : Int)
    omega
theorem onC_words (ok : sizeOk w h) (pl : Pl (w * h) P S) : RR (rWords ⟨w, h, P⟩) ⟨⟨w, h⟩, S⟩ (Sj31.on ⟨⟨w, h⟩, S⟩ .words) := by
  cases pl with
  | nil => exact ⟨rfl, rfl⟩
  | @cons F p r s R b pl =>
    refine ⟨⟨rfl, ok, .cons R b pl⟩, ?_⟩
    show (((w * h : Nat) : Int)) :: (List.range (w * h)).map (fun i => 2048 * mDither (F 0 i) 5 (px w i) (py w i) + 32 * mDither (F 1 i) 6 (px w i) (py w i) + mDither (F 2 i) 5 (px w i) (py w i)) = (((Sj31.words565 ⟨w, h⟩ p).length : Nat) : Int) :: (Sj31.words565 ⟨w, h⟩ p).map fun (n : Nat) => (n : Int)
    rw [r_words R]
    congr 1
    unfold Sj31.words565
    rw [List.length_map, List.length_range]
end GT
end
section
set_option linter.all false
/-! the plain law: what all calls answer is what is due -/
namespace GT
open Sj31 (Pic House Ans just nat isIn isColour nats)
def RS : Option Dk → Option House → Prop
  | none, none => True
  | some D, some g => RH D g
  | _, _ => False
theorem st_gen {p : Int} {f : Nat → Int} {cl : Sj31.Call} (b : ¬ p = 1) (hn : Sj31.step none cl = (none, just (-7))) (hs : ∀ g, Sj31.step (some g) cl = (some (Sj31.on g cl).1, (Sj31.on g cl).2))
    (R : ∀ (w h : Nat) (P : List Pct) (S : List Pic), sizeOk w h → Pl (w * h) P S → RR (if p < 10 then rEarly ⟨w, h, P⟩ p f else rLater ⟨w, h, P⟩ p f) ⟨⟨w, h⟩, S⟩ (Sj31.on ⟨⟨w, h⟩, S⟩ cl)) :
    ∀ st s, RS st s → RS (rAns st p f).1 (Sj31.step s cl).1 ∧ (rAns st p f).2 = (Sj31.step s cl).2.v :: (Sj31.step s cl).2.l := by
  intro st s rs
  match st, s, rs with
  | none, none, _ =>
    rw [rAns_none b, hn]
    exact ⟨trivial, rfl⟩
  | some ⟨w, h, P⟩, some ⟨z, S⟩, ⟨r1, r2, r3⟩ =>
    have r1 : z = ⟨w, h⟩ := r1
    subst r1
    have r := R w h P S r2 r3
    rw [hs]
    cases hr : (if p < 10 then rEarly ⟨w, h, P⟩ p f else rLater ⟨w, h, P⟩ p f) with
    | ok x =>
      obtain ⟨D', a⟩ := x
      rw [hr] at r
      rw [rAns_ok b hr]
      exact r
    | error c =>
      rw [hr] at r
      obtain ⟨r4, r5⟩ := r
      rw [rAns_err b hr, r4, r5]
      exact ⟨⟨rfl, r2, r3⟩, rfl⟩
theorem st_open (f : Nat → Int) : ∀ st s, RS st s → RS (rAns st 1 f).1 (Sj31.step s (.open_ (f 0) (f 1))).1 ∧ (rAns st 1 f).2 = (Sj31.step s (.open_ (f 0) (f 1))).2.v :: (Sj31.step s (.open_ (f 0) (f 1))).2.l := by
  intro st s rs
  have e : within 2 f (tab [2, 2]) (tab [6, 6]) = (isIn 2 6 (f 0) && (isIn 2 6 (f 1) && true)) := rfl
  have d : Sj31.step s (.open_ (f 0) (f 1)) = if (!isIn 2 6 (f 0) || !isIn 2 6 (f 1)) = true then (s, just (-2)) else (some ⟨⟨2 ^ (f 0).toNat, 2 ^ (f 1).toNat⟩, []⟩, just 0) := rfl
  rw [d]
  cases a : isIn 2 6 (f 0) <;> cases b : isIn 2 6 (f 1) <;> rw [a, b] at e
  · rw [rAns_open0 e]; exact ⟨rs, rfl⟩
  · rw [rAns_open0 e]; exact ⟨rs, rfl⟩
  · rw [rAns_open0 e]; exact ⟨rs, rfl⟩
  · rw [rAns_open e]
    have a := isIn_of a
    have b := isIn_of b
    have pw : ∀ x : Int, 2 ≤ x → x ≤ 6 → 1 ≤ 2 ^ x.toNat ∧ 2 ^ x.toNat ≤ 64 := fun x h0 h1 => by
      have : x = 2 ∨ x = 3 ∨ x = 4 ∨ x = 5 ∨ x = 6 := by omega
      rcases this with rfl | rfl | rfl | rfl | rfl <;> decide
    have p0 := pw _ a.1 a.2
    have p1 := pw _ b.1 b.2
    exact ⟨⟨rfl, ⟨p0.1, p0.2, p1.1, p1.2⟩, .nil⟩, rfl⟩
theorem len0 {l : List Int} (h : l.length = 0) : l = [] := List.eq_nil_of_length_eq_zero h
theorem len1 {l : List Int} (h : l.length = 1) : ∃ a, l = [a] := by
  match l, h with
  | [a], _ => exact ⟨a, rfl⟩
theorem len2 {l : List Int} (h : l.length = 2) : ∃ a b, l = [a, b] := by
  match l, h with
  | [a, b], _ => exact ⟨a, b, rfl⟩
theorem len3 {l : List Int} (h : l.length = 3) : ∃ a b c, l = [a, b, c] := by
  match l, h with
  | [a, b, c], _ => exact ⟨a, b, c, rfl⟩
theorem len4 {l : List Int} {n : Nat} (h : l.length = 4 + n) : ∃ a b c d r, l = a :: b :: c :: d :: r ∧ r.length = n := by
  match l with
  | [] => simp at h; omega
  | [_] => simp at h; omega
  | [_, _] => simp at h; omega
  | [_, _, _] => simp at h; omega
  | a :: b :: c :: d :: r => exact ⟨a, b, c, d, r, rfl, by simp at h; omega⟩
theorem aok {p : Int} {f : Nat → Int} (h2 : p ≠ 2) (h4 : p ≠ 4) (h5 : p ≠ 5) (h11 : p ≠ 11) : argsOk p f := ⟨fun e => absurd e h2, fun e => absurd e h4, fun e => absurd e h5, fun e => absurd e h11⟩
def Stp (p : Int) (f : Nat → Int) (q : Sj31.Call) : Prop := argsOk p f ∧ ∀ st s, RS st s → RS (rAns st p f).1 (Sj31.step s q).1 ∧ (rAns st p f).2 = (Sj31.step s q).2.v :: (Sj31.step s q).2.l
theorem st_call {p : Int} {f : Nat → Int} {args : List Int} {q : Sj31.Call} (hq : Sj31Neutral.callOf (p :: args) = some q) (hl : args.length = many p) (hf : ∀ i, i < args.length → f i = args.getD i 0) (h1 : 1 ≤ p) (h2 : p ≤ 18) : Stp p f q := by
  have : p = 1 ∨ p = 2 ∨ p = 3 ∨ p = 4 ∨ p = 5 ∨ p = 6 ∨ p = 7 ∨ p = 8 ∨ p = 9 ∨ p = 10 ∨ p = 11 ∨ p = 12 ∨ p = 13 ∨ p = 14 ∨ p = 15 ∨ p = 16 ∨ p = 17 ∨ p = 18 := by omega
  rcases this with rfl | rfl | rfl | rfl | rfl | rfl | rfl | rfl | rfl | rfl | rfl | rfl | rfl | rfl | rfl | rfl | rfl | rfl
  · obtain ⟨a, b, rfl⟩ := len2 hl
    obtain rfl : f 0 = a := hf 0 (by show 0 < 2; decide)
    obtain rfl : f 1 = b := hf 1 (by show 1 < 2; decide)
    cases hq
    exact ⟨aok (by decide) (by decide) (by decide) (by decide), st_open f⟩
  · have hl : args.length = 4 := hl
    have hq : (if Sj31Neutral.isCol args = true then some (Sj31.Call.flat args) else none) = some q := hq
    by_cases hc : Sj31Neutral.isCol args = true
    · rw [if_pos hc] at hq
      cases hq
      have hc : isColour args = true := hc
      have hf : ∀ k, k < 4 → f k = args.getD k 0 := fun k hk => hf k (by omega)
      exact ⟨⟨fun _ => (cp_of hc hf).2, fun e => absurd e (by decide), fun e => absurd e (by decide), fun e => absurd e (by decide)⟩, st_gen (by decide) rfl (fun g => rfl) fun w h P S ok pl => onC_flat ok pl hc hf⟩
    · rw [if_neg hc] at hq
      cases hq
  · obtain ⟨a, b, c, d, r, rfl, hr⟩ := len4 (n := 0) hl
    obtain rfl := len0 hr
    obtain rfl : f 0 = a := hf 0 (by show 0 < 4; decide)
    obtain rfl : f 1 = b := hf 1 (by show 1 < 4; decide)
    obtain rfl : f 2 = c := hf 2 (by show 2 < 4; decide)
    obtain rfl : f 3 = d := hf 3 (by show 3 < 4; decide)
    cases hq
    exact ⟨aok (by decide) (by decide) (by decide) (by decide), st_gen (by decide) rfl (fun g => rfl) fun w h P S ok pl => onC_noise ok pl⟩
  · obtain ⟨a, b, c, d, r, rfl, hr⟩ := len4 (n := 5) hl
    cases r with
    | nil => cases hr
    | cons e r =>
      have hr : r.length = 4 := by simpa using hr
      obtain rfl : f 0 = a := hf 0 (by simp)
      obtain rfl : f 1 = b := hf 1 (by simp)
      obtain rfl : f 2 = c := hf 2 (by simp)
      obtain rfl : f 3 = d := hf 3 (by simp)
      obtain rfl : f 4 = e := hf 4 (by simp)
      have hf : ∀ k, k < 4 → f (5 + k) = r.getD k 0 := fun k hk => by
        have := hf (5 + k) (by simp; omega)
        rw [this, Nat.add_comm]
        rfl
      have hq : (if Sj31Neutral.isCol r = true then some (Sj31.Call.glow (f 0) (f 1) (f 2) (f 3) (f 4) r) else none) = some q := hq
      by_cases hc : Sj31Neutral.isCol r = true
      · rw [if_pos hc] at hq
        cases hq
        have hc : isColour r = true := hc
        exact ⟨⟨fun e => absurd e (by decide), fun _ => (cp_of (f := fun k => f (5 + k)) hc hf).2, fun e => absurd e (by decide), fun e => absurd e (by decide)⟩, st_gen (by decide) rfl (fun g => rfl) fun w h P S ok pl => onC_glow ok pl hc hf⟩
      · rw [if_neg hc] at hq
        cases hq
  · obtain ⟨a, b, c, d, r, rfl, hr⟩ := len4 (n := 4) hl
    obtain rfl : f 0 = a := hf 0 (by simp)
    obtain rfl : f 1 = b := hf 1 (by simp)
    obtain rfl : f 2 = c := hf 2 (by simp)
    obtain rfl : f 3 = d := hf 3 (by simp)
    have hf : ∀ k, k < 4 → f (4 + k) = r.getD k 0 := fun k hk => by
      have := hf (4 + k) (by simp; omega)
      rw [this, Nat.add_comm]
      rfl
    have hq : (if Sj31Neutral.isCol r = true then some (Sj31.Call.box (f 0) (f 1) (f 2) (f 3) r) else none) = some q := hq
    by_cases hc : Sj31Neutral.isCol r = true
    · rw [if_pos hc] at hq
      cases hq
      have hc : isColour r = true := hc
      exact ⟨⟨fun e => absurd e (by decide), fun e => absurd e (by decide), fun _ => (cp_of (f := fun k => f (4 + k)) hc hf).2, fun e => absurd e (by decide)⟩, st_gen (by decide) rfl (fun g => rfl) fun w h P S ok pl => onC_box ok pl hc hf⟩
    · rw [if_neg hc] at hq
      cases hq
  · obtain ⟨a, b, c, rfl⟩ := len3 hl
    obtain rfl : f 0 = a := hf 0 (by simp)
    obtain rfl : f 1 = b := hf 1 (by simp)
    obtain rfl : f 2 = c := hf 2 (by simp)
    cases hq
    exact ⟨aok (by decide) (by decide) (by decide) (by decide), st_gen (by decide) rfl (fun g => rfl) fun w h P S ok pl => onC_blur ok pl⟩
  · obtain ⟨a, b, rfl⟩ := len2 hl
    obtain rfl : f 0 = a := hf 0 (by simp)
    obtain rfl : f 1 = b := hf 1 (by simp)
    cases hq
    exact ⟨aok (by decide) (by decide) (by decide) (by decide), st_gen (by decide) rfl (fun g => rfl) fun w h P S ok pl => onC_turn ok pl⟩
  · obtain ⟨a, rfl⟩ := len1 hl
    obtain rfl : f 0 = a := hf 0 (by simp)
    cases hq
    exact ⟨aok (by decide) (by decide) (by decide) (by decide), st_gen (by decide) rfl (fun g => rfl) fun w h P S ok pl => onC_bend ok pl⟩
  · obtain ⟨a, rfl⟩ := len1 hl
    obtain rfl : f 0 = a := hf 0 (by simp)
    cases hq
    exact ⟨aok (by decide) (by decide) (by decide) (by decide), st_gen (by decide) rfl (fun g => rfl) fun w h P S ok pl => onC_join ok pl⟩
  · obtain ⟨a, b, rfl⟩ := len2 hl
    obtain rfl : f 0 = a := hf 0 (by simp)
    obtain rfl : f 1 = b := hf 1 (by simp)
    cases hq
    exact ⟨aok (by decide) (by decide) (by decide) (by decide), st_gen (by decide) rfl (fun g => rfl) fun w h P S ok pl => onC_levels ok pl⟩
  · have hl : args.length = 12 := hl
    have hq : (if args.length = 12 ∧ args.all (fun z => decide (-32768 ≤ z) && decide (z ≤ 32767)) = true then some (Sj31.Call.colour args) else none) = some q := hq
    by_cases hc : args.length = 12 ∧ args.all (fun z => decide (-32768 ≤ z) && decide (z ≤ 32767)) = true
    · rw [if_pos hc] at hq
      cases hq
      have hm : args.all (isIn (-32768) 32767) = true := hc.2
      have hf : ∀ k, k < 12 → f k = args.getD k 0 := fun k hk => hf k (by omega)
      refine ⟨⟨fun e => absurd e (by decide), fun e => absurd e (by decide), fun e => absurd e (by decide), fun _ k hk => ?_⟩, st_gen (by decide) rfl (fun g => rfl) fun w h P S ok pl => onC_colour ok pl hl hm hf⟩
      rw [hf k hk, List.getD_eq_getElem?_getD, List.getElem?_eq_getElem (by omega)]
      rw [List.all_eq_true] at hm
      exact isIn_of (hm args[k] (List.getElem_mem (by omega)))
    · rw [if_neg hc] at hq
      cases hq
  · obtain ⟨a, b, c, rfl⟩ := len3 hl
    obtain rfl : f 0 = a := hf 0 (by simp)
    obtain rfl : f 1 = b := hf 1 (by simp)
    obtain rfl : f 2 = c := hf 2 (by simp)
    cases hq
    exact ⟨aok (by decide) (by decide) (by decide) (by decide), st_gen (by decide) rfl (fun g => rfl) fun w h P S ok pl => onC_light ok pl⟩
  · obtain ⟨a, rfl⟩ := len1 hl
    obtain rfl : f 0 = a := hf 0 (by simp)
    cases hq
    exact ⟨aok (by decide) (by decide) (by decide) (by decide), st_gen (by decide) rfl (fun g => rfl) fun w h P S ok pl => onC_copy ok pl⟩
  · obtain rfl := len0 hl
    cases hq
    exact ⟨aok (by decide) (by decide) (by decide) (by decide), st_gen (by decide) rfl (fun g => rfl) fun w h P S ok pl => onC_swap ok pl⟩
  · obtain rfl := len0 hl
    cases hq
    exact ⟨aok (by decide) (by decide) (by decide) (by decide), st_gen (by decide) rfl (fun g => rfl) fun w h P S ok pl => onC_drop ok pl⟩
  · obtain ⟨a, b, rfl⟩ := len2 hl
    obtain rfl : f 0 = a := hf 0 (by simp)
    obtain rfl : f 1 = b := hf 1 (by simp)
    cases hq
    exact ⟨aok (by decide) (by decide) (by decide) (by decide), st_gen (by decide) rfl (fun g => rfl) fun w h P S ok pl => onC_read ok pl⟩
  · obtain rfl := len0 hl
    cases hq
    exact ⟨aok (by decide) (by decide) (by decide) (by decide), st_gen (by decide) rfl (fun g => rfl) fun w h P S ok pl => onC_bytes ok pl⟩
  · obtain rfl := len0 hl
    cases hq
    exact ⟨aok (by decide) (by decide) (by decide) (by decide), st_gen (by decide) rfl (fun g => rfl) fun w h P S ok pl => onC_words ok pl⟩
/-! ### the calls in a row -/
theorem shape_of {p : Int} {x : Nat × Nat} (h : PySj31.shape p = some x) : 1 ≤ p ∧ p ≤ 18 ∧ x = (many p, 0) := by
  by_cases b : 1 ≤ p ∧ p ≤ 18
  · refine ⟨b.1, b.2, ?_⟩
    have : p = 1 ∨ p = 2 ∨ p = 3 ∨ p = 4 ∨ p = 5 ∨ p = 6 ∨ p = 7 ∨ p = 8 ∨ p = 9 ∨ p = 10 ∨ p = 11 ∨ p = 12 ∨ p = 13 ∨ p = 14 ∨ p = 15 ∨ p = 16 ∨ p = 17 ∨ p = 18 := by omega
    rcases this with rfl | rfl | rfl | rfl | rfl | rfl | rfl | rfl | rfl | rfl | rfl | rfl | rfl | rfl | rfl | rfl | rfl | rfl <;> (cases h; rfl)
  · have : PySj31.shape p = none := by
      unfold PySj31.shape
      repeat rw [if_neg (by omega)]
    rw [this] at h
    cases h
theorem tab_take {r : List Int} {m i : Nat} (hi : i < (r.take m).length) : tab r i = (r.take m).getD i 0 := by
  unfold tab
  rw [List.length_take] at hi
  rw [List.getD_eq_getElem?_getD, List.getD_eq_getElem?_getD, List.getElem?_take, if_pos (by omega)]
theorem run_law : ∀ (n : Nat) (ns : List Int) (raw : List (List (List Int))) (st : Option Dk) (s : Option House), RS st s → PyFlat.calls PySj31.shape n ns = some raw → (∀ c ∈ raw, Sj31Neutral.asked1 c = true) → mOk n ns ∧ mAll n st ns = PyFlat.told (PyFlat.played Sj31Neutral.step s raw)
  | 0, [], raw, st, s, _, h, _ => by
    cases h
    exact ⟨trivial, rfl⟩
  | 0, _ :: _, raw, st, s, _, h, _ => by cases h
  | n + 1, [], raw, st, s, _, h, _ => by
    cases h
    exact ⟨trivial, rfl⟩
  | n + 1, p :: r, raw, st, s, rs, h, hk => by
    have h : (match PyFlat.call PySj31.shape (p :: r) with
      | none => none
      | some (c, t) => match PyFlat.calls PySj31.shape n t with
        | none => none
        | some cs => some (c :: cs)) = some raw := h
    cases hs : PySj31.shape p with
    | none =>
      have e : PyFlat.call PySj31.shape (p :: r) = none := by
        unfold PyFlat.call
        simp only [hs]
      rw [e] at h
      cases h
    | some x =>
      obtain ⟨p1, p2, rfl⟩ := shape_of hs
      by_cases hl : r.length < many p
      · have e : PyFlat.call PySj31.shape (p :: r) = none := by
          unfold PyFlat.call
          simp only [hs]
          rw [if_pos hl]
        rw [e] at h
        cases h
      · have e : PyFlat.call PySj31.shape (p :: r) = some ([p :: r.take (many p)], r.drop (many p)) := by
          unfold PyFlat.call
          simp only [hs]
          rw [if_neg hl]
          rfl
        rw [e] at h
        simp only at h
        cases hc : PyFlat.calls PySj31.shape n (r.drop (many p)) with
        | none =>
          rw [hc] at h
          cases h
        | some cs =>
          rw [hc] at h
          cases h
          have hk0 := hk [p :: r.take (many p)] List.mem_cons_self
          have hk0 : ((p :: r.take (many p)).all (fun (z : Int) => decide (-(2 ^ 31) ≤ z) && decide (z < 2 ^ 31)) && (Sj31Neutral.callOf (p :: r.take (many p))).isSome) = true := hk0
          rw [Bool.and_eq_true] at hk0
          cases hq : Sj31Neutral.callOf (p :: r.take (many p)) with
          | none =>
            rw [hq] at hk0
            cases hk0.2
          | some q =>
            have tl : (r.take (many p)).length = many p := by rw [List.length_take]; omega
            obtain ⟨ao, st2⟩ := st_call (f := tab r) hq tl (fun i hi => tab_take hi) p1 p2
            obtain ⟨rs2, ae⟩ := st2 st s rs
            obtain ⟨i1, i2⟩ := run_law n (r.drop (many p)) cs (rAns st p (tab r)).1 (Sj31.step s q).1 rs2 hc fun c hm => hk c (List.mem_cons_of_mem _ hm)
            refine ⟨⟨p1, p2, by omega, ao, i1⟩, ?_⟩
            have e2 : Sj31Neutral.step s [p :: r.take (many p)] = ((Sj31.step s q).1, (Sj31.step s q).2.v :: (Sj31.step s q).2.l) := by
              unfold Sj31Neutral.step
              show (match Sj31Neutral.callOf (p :: r.take (many p)) with
                | none => (s, [])
                | some q =>
                  let r := Sj31.step s q
                  (r.1, r.2.v :: r.2.l)) = _
              rw [hq]
            show ((rAns st p (tab r)).2.length : Int) :: (rAns st p (tab r)).2 ++ mAll n (rAns st p (tab r)).1 (r.drop (many p)) = PyFlat.told ((Sj31Neutral.step s [p :: r.take (many p)]).2 :: PyFlat.played Sj31Neutral.step (Sj31Neutral.step s [p :: r.take (many p)]).1 cs)
            rw [i2, e2, ae]
            rfl
theorem whole_id (c : List (List Int)) : PySj31.whole c = c := by
  unfold PySj31.whole
  split <;> rfl
theorem law {ns : List Int} (h : PySj31.answers_asked ns = true) : mOk ns.length ns ∧ mAll ns.length none ns = PySj31.answers ns ∧ (mAll ns.length none ns).length ≤ 16000000 := by
  unfold PySj31.answers_asked at h
  cases hc : PyFlat.calls PySj31.shape ns.length ns with
  | none =>
    rw [hc] at h
    cases h
  | some raw =>
    rw [hc] at h
    have mi : raw.map PySj31.whole = raw := by
      rw [List.map_congr_left (g := id) fun c _ => whole_id c, List.map_id]
    simp only [mi, Bool.and_eq_true] at h
    obtain ⟨⟨_, ha⟩, hs⟩ := h
    have hk : ∀ c ∈ raw, Sj31Neutral.asked1 c = true := by
      unfold Sj31Neutral.asked at ha
      rw [Bool.and_eq_true, List.all_eq_true] at ha
      exact ha.1
    obtain ⟨k1, k2⟩ := run_law ns.length ns raw none none trivial hc hk
    have ea : PySj31.answers ns = PyFlat.told (PyFlat.played Sj31Neutral.step Sj31Neutral.start raw) := by
      unfold PySj31.answers PySj31.calls
      rw [hc]
      show PyFlat.told (PyFlat.played Sj31Neutral.step Sj31Neutral.start (raw.map PySj31.whole)) = _
      rw [mi]
    refine ⟨k1, k2.trans ea.symm, ?_⟩
    rw [k2.trans ea.symm]
    unfold PyFlat.short at hs
    have := of_decide_eq_true hs
    omega
end GT
end
open PySem PySem.W PyProof.Rows
set_option maxRecDepth 100000 in
set_option maxHeartbeats 8000000 in
theorem PySem.Challenge.cw_glowtiles_s01_answers_holds : PySem.Challenge.rw_glowtiles_s01_answers.Holds := by
  w_on; k_headS; (case hw => exact ⟨[.list [.int 15]], by decide +kernel, by decide +kernel⟩)
  k_fillS
  refine L2.walk_specK (r := PySem.Challenge.rw_glowtiles_s01_answers) (k := 8) (CX := L2.CX0) (ps := ["calls"]) (sp := GT.sp_ans) (by decide +kernel) rfl rfl ⟨rfl, by decide, by decide⟩ (fun w h Y => PySem.W.kIn_of Y) ?F ?S (fun _ _ _ _ z => z)
  case F =>
    intro w mg fa h Y KX G hmg
    refine' GT.all_mk KX G hmg ?aCS ?aCL ?aCD ?aCR ?pgCS ?hdCS ?poCS ?saCS ?mkCS ?kcCS ?pgCL ?hdCL ?poCL ?saCL ?mkCL ?kcCL ?pgCD ?hdCD ?poCD ?saCD ?mkCD ?kcCD ?nwidth ?nheight ?nside ?nacross ?ndown ?ncorners ?nsizes ?nstack ?cMOST ?cCHANNELS ?cCOLOURS ?cUNIT ?cFULL ?cMIDDLE ?cWORD ?cHALF ?cOUT ?cTOO_FEW ?cTOO_MANY ?cNO_STACK ?cMOST_PICTURES ?gSCREEN ?lSCREEN ?gGIVEN ?lGIVEN ?blen ?bmin ?bmax ?babs ?bsum ?bzip ?brange ?benumerate ?xL ?saR ?gaR ?ggR ?ncR ?kR ?eR ?tR ?hR ?iR ?sR ?a_clamped ?l_clamped ?c_clamped ?k_clamped ?a_nearest ?l_nearest ?c_nearest ?k_nearest ?a_power_of_two ?l_power_of_two ?c_power_of_two ?k_power_of_two ?a_Size___init__ ?i_Size___init__ ?l_Size___init__ ?c_Size___init__ ?k_Size___init__ ?a_Size_spots ?i_Size_spots ?l_Size_spots ?c_Size_spots ?k_Size_spots ?a_Size_value ?i_Size_value ?l_Size_value ?c_Size_value ?k_Size_value ?a_Size_sample ?i_Size_sample ?l_Size_sample ?c_Size_sample ?k_Size_sample ?a_flat ?l_flat ?c_flat ?k_flat ?a_dithered ?l_dithered ?c_dithered ?k_dithered ?a_strength_at ?l_strength_at ?c_strength_at ?k_strength_at ?a_glow ?l_glow ?c_glow ?k_glow ?a_box ?l_box ?c_box ?k_box ?a_blurred_row ?l_blurred_row ?c_blurred_row ?k_blurred_row ?a_turned_over ?l_turned_over ?c_turned_over ?k_turned_over ?a_blurred_rows ?l_blurred_rows ?c_blurred_rows ?k_blurred_rows ?a_blurred ?l_blurred ?c_blurred ?k_blurred ?a_blur ?l_blur ?c_blur ?k_blur ?a_turn ?l_turn ?c_turn ?k_turn ?a_sampled ?l_sampled ?c_sampled ?k_sampled ?a_bend ?l_bend ?c_bend ?k_bend ?a_levelled ?l_levelled ?c_levelled ?k_levelled ?a_levels ?l_levels ?c_levels ?k_levels ?a_coloured ?l_coloured ?c_coloured ?k_coloured ?a_recoloured ?l_recoloured ?c_recoloured ?k_recoloured ?a_light ?l_light ?c_light ?k_light ?a_joined_value ?l_joined_value ?c_joined_value ?k_joined_value ?a_joined ?l_joined ?c_joined ?k_joined ?a_mixed ?l_mixed ?c_mixed ?k_mixed ?a_smooth ?l_smooth ?c_smooth ?k_smooth ?a_between ?l_between ?c_between ?k_between ?a_Layer___init__ ?i_Layer___init__ ?l_Layer___init__ ?c_Layer___init__ ?k_Layer___init__ ?a_Layer_corner ?i_Layer_corner ?l_Layer_corner ?c_Layer_corner ?k_Layer_corner ?a_Layer_value ?i_Layer_value ?l_Layer_value ?c_Layer_value ?k_Layer_value ?a_noise ?l_noise ?c_noise ?k_noise ?a_Refused___init__ ?i_Refused___init__ ?l_Refused___init__ ?c_Refused___init__ ?k_Refused___init__ ?a_need ?l_need ?c_need ?k_need ?a_need_within ?l_need_within ?c_need_within ?k_need_within ?a_Desk___init__ ?i_Desk___init__ ?l_Desk___init__ ?c_Desk___init__ ?k_Desk___init__ ?a_Desk_open_stack ?i_Desk_open_stack ?l_Desk_open_stack ?c_Desk_open_stack ?k_Desk_open_stack ?a_Desk_size ?i_Desk_size ?l_Desk_size ?c_Desk_size ?k_Desk_size ?a_Desk_need_pictures ?i_Desk_need_pictures ?l_Desk_need_pictures ?c_Desk_need_pictures ?k_Desk_need_pictures ?a_Desk_push ?i_Desk_push ?l_Desk_push ?c_Desk_push ?k_Desk_push ?a_Desk_need_room ?i_Desk_need_room ?l_Desk_need_room ?c_Desk_need_room ?k_Desk_need_room ?a_Desk_replace ?i_Desk_replace ?l_Desk_replace ?c_Desk_replace ?k_Desk_replace ?a_Desk_flat ?i_Desk_flat ?l_Desk_flat ?c_Desk_flat ?k_Desk_flat ?a_Desk_noise ?i_Desk_noise ?l_Desk_noise ?c_Desk_noise ?k_Desk_noise ?a_Desk_glow ?i_Desk_glow ?l_Desk_glow ?c_Desk_glow ?k_Desk_glow ?a_Desk_box ?i_Desk_box ?l_Desk_box ?c_Desk_box ?k_Desk_box ?a_Desk_blur ?i_Desk_blur ?l_Desk_blur ?c_Desk_blur ?k_Desk_blur ?a_Desk_turn ?i_Desk_turn ?l_Desk_turn ?c_Desk_turn ?k_Desk_turn ?a_Desk_bend ?i_Desk_bend ?l_Desk_bend ?c_Desk_bend ?k_Desk_bend ?a_Desk_join ?i_Desk_join ?l_Desk_join ?c_Desk_join ?k_Desk_join ?a_Desk_levels ?i_Desk_levels ?l_Desk_levels ?c_Desk_levels ?k_Desk_levels ?a_Desk_colour ?i_Desk_colour ?l_Desk_colour ?c_Desk_colour ?k_Desk_colour ?a_Desk_light ?i_Desk_light ?l_Desk_light ?c_Desk_light ?k_Desk_light ?a_Desk_copy ?i_Desk_copy ?l_Desk_copy ?c_Desk_copy ?k_Desk_copy ?a_Desk_swap ?i_Desk_swap ?l_Desk_swap ?c_Desk_swap ?k_Desk_swap ?a_Desk_drop ?i_Desk_drop ?l_Desk_drop ?c_Desk_drop ?k_Desk_drop ?a_Desk_pixel ?i_Desk_pixel ?l_Desk_pixel ?c_Desk_pixel ?k_Desk_pixel ?a_Desk_read_bytes ?i_Desk_read_bytes ?l_Desk_read_bytes ?c_Desk_read_bytes ?k_Desk_read_bytes ?a_Desk_read_words ?i_Desk_read_words ?l_Desk_read_words ?c_Desk_read_words ?k_Desk_read_words ?a_Desk_early ?i_Desk_early ?l_Desk_early ?c_Desk_early ?k_Desk_early ?a_Desk_later ?i_Desk_later ?l_Desk_later ?c_Desk_later ?k_Desk_later ?a_Desk_answer ?i_Desk_answer ?l_Desk_answer ?c_Desk_answer ?k_Desk_answer ?a_answers ?l_answers ?c_answers ?k_answers ?vSCREEN ?vGIVEN
    (case aCS => k_is); (case aCL => k_is); (case aCD => k_is); (case aCR => k_is); (case pgCS => k_is); (case hdCS => k_is); (case poCS => k_is); (case saCS => k_is)
    (case mkCS => k_is); (case kcCS => k_is); (case pgCL => k_is); (case hdCL => k_is); (case poCL => k_is); (case saCL => k_is); (case mkCL => k_is); (case kcCL => k_is)
    (case pgCD => k_is); (case hdCD => k_is); (case poCD => k_is); (case saCD => k_is); (case mkCD => k_is); (case kcCD => k_is); (case nwidth => k_is); (case nheight => k_is)
    (case nside => k_is); (case nacross => k_is); (case ndown => k_is); (case ncorners => k_is); (case nsizes => k_is); (case nstack => k_is); (case cMOST => k_is); (case cCHANNELS => k_is)
    (case cCOLOURS => k_is); (case cUNIT => k_is); (case cFULL => k_is); (case cMIDDLE => k_is); (case cWORD => k_is); (case cHALF => k_is); (case cOUT => k_is); (case cTOO_FEW => k_is)
    (case cTOO_MANY => k_is); (case cNO_STACK => k_is); (case cMOST_PICTURES => k_is); (case gSCREEN => k_is); (case lSCREEN => k_is); (case gGIVEN => k_is); (case lGIVEN => k_is); (case blen => k_is)
    (case bmin => k_is); (case bmax => k_is); (case babs => k_is); (case bsum => k_is); (case bzip => k_is); (case brange => k_is); (case benumerate => k_is); (case xL => k_is)
    (case saR => k_is); (case gaR => k_is); (case ggR => k_is); (case ncR => k_is); (case kR => k_is); (case eR => k_is); (case tR => k_is); (case hR => k_is)
    (case iR => k_is); (case sR => first | rfl | k_is); (case a_clamped => k_is); (case l_clamped => k_is); (case c_clamped => k_is); (case k_clamped => k_is); (case a_nearest => k_is); (case l_nearest => k_is)
    (case c_nearest => k_is); (case k_nearest => k_is); (case a_power_of_two => k_is); (case l_power_of_two => k_is); (case c_power_of_two => k_is); (case k_power_of_two => k_is); (case a_Size___init__ => k_is); (case i_Size___init__ => k_is)
    (case l_Size___init__ => k_is); (case c_Size___init__ => k_is); (case k_Size___init__ => k_is); (case a_Size_spots => k_is); (case i_Size_spots => k_is); (case l_Size_spots => k_is); (case c_Size_spots => k_is); (case k_Size_spots => k_is)
    (case a_Size_value => k_is); (case i_Size_value => k_is); (case l_Size_value => k_is); (case c_Size_value => k_is); (case k_Size_value => k_is); (case a_Size_sample => k_is); (case i_Size_sample => k_is); (case l_Size_sample => k_is)
    (case c_Size_sample => k_is); (case k_Size_sample => k_is); (case a_flat => k_is); (case l_flat => k_is); (case c_flat => k_is); (case k_flat => k_is); (case a_dithered => k_is); (case l_dithered => k_is)
    (case c_dithered => k_is); (case k_dithered => k_is); (case a_strength_at => k_is); (case l_strength_at => k_is); (case c_strength_at => k_is); (case k_strength_at => k_is); (case a_glow => k_is); (case l_glow => k_is)
    (case c_glow => k_is); (case k_glow => k_is); (case a_box => k_is); (case l_box => k_is); (case c_box => k_is); (case k_box => k_is); (case a_blurred_row => k_is); (case l_blurred_row => k_is)
    (case c_blurred_row => k_is); (case k_blurred_row => k_is); (case a_turned_over => k_is); (case l_turned_over => k_is); (case c_turned_over => k_is); (case k_turned_over => k_is); (case a_blurred_rows => k_is); (case l_blurred_rows => k_is)
    (case c_blurred_rows => k_is); (case k_blurred_rows => k_is); (case a_blurred => k_is); (case l_blurred => k_is); (case c_blurred => k_is); (case k_blurred => k_is); (case a_blur => k_is); (case l_blur => k_is)
    (case c_blur => k_is); (case k_blur => k_is); (case a_turn => k_is); (case l_turn => k_is); (case c_turn => k_is); (case k_turn => k_is); (case a_sampled => k_is); (case l_sampled => k_is)
    (case c_sampled => k_is); (case k_sampled => k_is); (case a_bend => k_is); (case l_bend => k_is); (case c_bend => k_is); (case k_bend => k_is); (case a_levelled => k_is); (case l_levelled => k_is)
    (case c_levelled => k_is); (case k_levelled => k_is); (case a_levels => k_is); (case l_levels => k_is); (case c_levels => k_is); (case k_levels => k_is); (case a_coloured => k_is); (case l_coloured => k_is)
    (case c_coloured => k_is); (case k_coloured => k_is); (case a_recoloured => k_is); (case l_recoloured => k_is); (case c_recoloured => k_is); (case k_recoloured => k_is); (case a_light => k_is); (case l_light => k_is)
    (case c_light => k_is); (case k_light => k_is); (case a_joined_value => k_is); (case l_joined_value => k_is); (case c_joined_value => k_is); (case k_joined_value => k_is); (case a_joined => k_is); (case l_joined => k_is)
    (case c_joined => k_is); (case k_joined => k_is); (case a_mixed => k_is); (case l_mixed => k_is); (case c_mixed => k_is); (case k_mixed => k_is); (case a_smooth => k_is); (case l_smooth => k_is)
    (case c_smooth => k_is); (case k_smooth => k_is); (case a_between => k_is); (case l_between => k_is); (case c_between => k_is); (case k_between => k_is); (case a_Layer___init__ => k_is); (case i_Layer___init__ => k_is)
    (case l_Layer___init__ => k_is); (case c_Layer___init__ => k_is); (case k_Layer___init__ => k_is); (case a_Layer_corner => k_is); (case i_Layer_corner => k_is); (case l_Layer_corner => k_is); (case c_Layer_corner => k_is); (case k_Layer_corner => k_is)
    (case a_Layer_value => k_is); (case i_Layer_value => k_is); (case l_Layer_value => k_is); (case c_Layer_value => k_is); (case k_Layer_value => k_is); (case a_noise => k_is); (case l_noise => k_is); (case c_noise => k_is)
    (case k_noise => k_is); (case a_Refused___init__ => k_is); (case i_Refused___init__ => k_is); (case l_Refused___init__ => k_is); (case c_Refused___init__ => k_is); (case k_Refused___init__ => k_is); (case a_need => k_is); (case l_need => k_is)
    (case c_need => k_is); (case k_need => k_is); (case a_need_within => k_is); (case l_need_within => k_is); (case c_need_within => k_is); (case k_need_within => k_is); (case a_Desk___init__ => k_is); (case i_Desk___init__ => k_is)
    (case l_Desk___init__ => k_is); (case c_Desk___init__ => k_is); (case k_Desk___init__ => k_is); (case a_Desk_open_stack => k_is); (case i_Desk_open_stack => k_is); (case l_Desk_open_stack => k_is); (case c_Desk_open_stack => k_is); (case k_Desk_open_stack => k_is)
    (case a_Desk_size => k_is); (case i_Desk_size => k_is); (case l_Desk_size => k_is); (case c_Desk_size => k_is); (case k_Desk_size => k_is); (case a_Desk_need_pictures => k_is); (case i_Desk_need_pictures => k_is); (case l_Desk_need_pictures => k_is)
    (case c_Desk_need_pictures => k_is); (case k_Desk_need_pictures => k_is); (case a_Desk_push => k_is); (case i_Desk_push => k_is); (case l_Desk_push => k_is); (case c_Desk_push => k_is); (case k_Desk_push => k_is); (case a_Desk_need_room => k_is)
    (case i_Desk_need_room => k_is); (case l_Desk_need_room => k_is); (case c_Desk_need_room => k_is); (case k_Desk_need_room => k_is); (case a_Desk_replace => k_is); (case i_Desk_replace => k_is); (case l_Desk_replace => k_is); (case c_Desk_replace => k_is)
    (case k_Desk_replace => k_is); (case a_Desk_flat => k_is); (case i_Desk_flat => k_is); (case l_Desk_flat => k_is); (case c_Desk_flat => k_is); (case k_Desk_flat => k_is); (case a_Desk_noise => k_is); (case i_Desk_noise => k_is)
    (case l_Desk_noise => k_is); (case c_Desk_noise => k_is); (case k_Desk_noise => k_is); (case a_Desk_glow => k_is); (case i_Desk_glow => k_is); (case l_Desk_glow => k_is); (case c_Desk_glow => k_is); (case k_Desk_glow => k_is)
    (case a_Desk_box => k_is); (case i_Desk_box => k_is); (case l_Desk_box => k_is); (case c_Desk_box => k_is); (case k_Desk_box => k_is); (case a_Desk_blur => k_is); (case i_Desk_blur => k_is); (case l_Desk_blur => k_is)
    (case c_Desk_blur => k_is); (case k_Desk_blur => k_is); (case a_Desk_turn => k_is); (case i_Desk_turn => k_is); (case l_Desk_turn => k_is); (case c_Desk_turn => k_is); (case k_Desk_turn => k_is); (case a_Desk_bend => k_is)
    (case i_Desk_bend => k_is); (case l_Desk_bend => k_is); (case c_Desk_bend => k_is); (case k_Desk_bend => k_is); (case a_Desk_join => k_is); (case i_Desk_join => k_is); (case l_Desk_join => k_is); (case c_Desk_join => k_is)
    (case k_Desk_join => k_is); (case a_Desk_levels => k_is); (case i_Desk_levels => k_is); (case l_Desk_levels => k_is); (case c_Desk_levels => k_is); (case k_Desk_levels => k_is); (case a_Desk_colour => k_is); (case i_Desk_colour => k_is)
    (case l_Desk_colour => k_is); (case c_Desk_colour => k_is); (case k_Desk_colour => k_is); (case a_Desk_light => k_is); (case i_Desk_light => k_is); (case l_Desk_light => k_is); (case c_Desk_light => k_is); (case k_Desk_light => k_is)
    (case a_Desk_copy => k_is); (case i_Desk_copy => k_is); (case l_Desk_copy => k_is); (case c_Desk_copy => k_is); (case k_Desk_copy => k_is); (case a_Desk_swap => k_is); (case i_Desk_swap => k_is); (case l_Desk_swap => k_is)
    (case c_Desk_swap => k_is); (case k_Desk_swap => k_is); (case a_Desk_drop => k_is); (case i_Desk_drop => k_is); (case l_Desk_drop => k_is); (case c_Desk_drop => k_is); (case k_Desk_drop => k_is); (case a_Desk_pixel => k_is)
    (case i_Desk_pixel => k_is); (case l_Desk_pixel => k_is); (case c_Desk_pixel => k_is); (case k_Desk_pixel => k_is); (case a_Desk_read_bytes => k_is); (case i_Desk_read_bytes => k_is); (case l_Desk_read_bytes => k_is); (case c_Desk_read_bytes => k_is)
    (case k_Desk_read_bytes => k_is); (case a_Desk_read_words => k_is); (case i_Desk_read_words => k_is); (case l_Desk_read_words => k_is); (case c_Desk_read_words => k_is); (case k_Desk_read_words => k_is); (case a_Desk_early => k_is); (case i_Desk_early => k_is)
    (case l_Desk_early => k_is); (case c_Desk_early => k_is); (case k_Desk_early => k_is); (case a_Desk_later => k_is); (case i_Desk_later => k_is); (case l_Desk_later => k_is); (case c_Desk_later => k_is); (case k_Desk_later => k_is)
    (case a_Desk_answer => k_is); (case i_Desk_answer => k_is); (case l_Desk_answer => k_is); (case c_Desk_answer => k_is); (case k_Desk_answer => k_is); (case a_answers => k_is); (case l_answers => k_is); (case c_answers => k_is)
    (case k_answers => k_is)
    (case vSCREEN => exact ⟨by decide, by repeat (first | exact .nil | refine .cons ⟨_, rfl⟩ ?_)⟩)
    (case vGIVEN => exact ⟨by decide, by repeat (first | exact .nil | refine .cons ⟨_, rfl⟩ ?_)⟩)
  case S =>
    intro K H xs a hO hwi hask hx
    cases hx with
    | cons h1 h2 =>
      cases h2
      cases h1 with
      | lst hs ha =>
        have e := L2.ints_dw a.1 _ ha
        subst e
        have q : ((Codec.inLen 0 780 a.1 && a.1.all (Codec.inInt (-2147483648) 2147483647)) && true) = true := hwi
        rw [Bool.and_eq_true, Bool.and_eq_true] at q
        have l1 : a.1.length ≤ 100000 := by
          have := (Codec.inNat_iff.mp q.1.1).2
          omega
        obtain ⟨m1, m2, m3⟩ := GT.law (ns := a.1) hask
        exact ⟨_, a.1, rfl, hs, l1, m1, m3, fun p H' _ hp => by
          rw [m2] at hp
          exact .lst (L2.SqL.of hp) (L2.dw_ints _)⟩
