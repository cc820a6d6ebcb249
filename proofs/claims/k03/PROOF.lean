import PyProof.Rows.All
import Wide.All
import OpenK.AllK
import Wide.FinOn
import HandS.ForMost
import HandS.Walk
import HandS.TupAny
import HandS.TupMul
import HandS.IsInst
import HandS.SortInts
import HandS.Deep
import HandS.Zip
import HandS.Conv
import HandS.SetFor
import HandS.Flow
import HandS.Exc
import HandS.WordsExc
import HandS.EndBits
import HandS.TryOnly
import HandS.Style
import HandS.TupSets
import HandS.Strs
import KE.GoesMore
import KE.KDictZip
import PySem.Challenge.RW_leastmoved_k03_medians
set_option Elab.async false
set_option linter.all false
set_option maxRecDepth 100000
/-! tuples that keep their object in sight: their methods can be called -/
namespace DLT
open PySem PySem.Spec PyProof.Rows L2 RZ
section
variable {X : Cx}
/-- a new tuple's object -/
def tob (us : Array Value) : Obj := { cls := .type "tuple", data := .seq us }
theorem tob_ok {P : Program} {w : World} {H : Hp} {h : Heap} {xs : List V} {us : List Value} (hz : xs.length ≤ sizeLine) (r : Vals xs us) : ObjOk P w H (h.push (tob us.toArray)) h.objs.size (.frz (tob us.toArray) (.tup xs)) :=
  ⟨Heap.get?_push_size _ rfl, hz, us, r, IsTup.new _ _⟩
/-- a written tuple -/
def zTup (t : TA) : TE := fun σ H Q => t σ H fun xs H1 => xs.length ≤ sizeLine ∧ ∀ zo p, zo.dict = none → H1 p = none → Q (.ref p) (upd H1 p (.frz zo (.tup xs)))
theorem pe_tupZ {es : List Expr} {t : TA} {x1} {pos : Pos} (h : PA X es t) : PE X (.Tuple es x1 pos) (zTup t) := by
  refine ⟨fun pps sh σ H Q I hq => ?_⟩
  refine wpAny_Tuple_spliced (thn (h.run pos pps sh σ H _ I hq) fun us s1 ⟨xs, H1, J, r, z, y⟩ => ⟨by rw [← r.length]; exact z, ?_⟩)
  exact ⟨.ref s1.heap.objs.size, _, J.laid (t' := s1.toks) (o := .frz (tob us.toArray) (.tup xs)) (fun b u e => Heap.get?_push_of_some _ e) (Nat.le_refl _) (tob_ok z r), rfl, y _ _ rfl (J.hok.fresh (Nat.le_refl _))⟩
/-- tuple(x) of a list, of a tuple -/
def zTupOf (K : PySem.W.Frag) : List V → Hp → VK → Prop := fun xs H Q => ∃ p ys, xs = [.ref p] ∧ ((SqL K H p ys ∧ ∀ zo l, zo.dict = none → H l = none → Q (.ref l) (upd H l (.frz zo (.tup ys)))) ∨ (SqT K H p ys ∧ Q (.ref p) H))
theorem call_tupZ : CallR X (.type "tuple") (zTupOf X.K) := by
  intro pps sh σ H xs us Q I r h
  obtain ⟨p, ys, rfl, h⟩ := h
  obtain ⟨u, rfl, rx⟩ := vals1 r
  cases rx
  rcases h with ⟨lq, y⟩ | ⟨lq, y⟩
  · obtain ⟨jts, r', pl, gz⟩ := I.list lq
    have lz := r'.length
    refine call_tuple_list pl.isList (fun h' kp => ?_) (by simp only [List.size_toArray] <;> omega)
    have J : Inv X pps σ H { sh with heap := h' } := I.kept (t' := sh.toks) kp
    have J2 : Inv X pps σ (upd H h'.objs.size (.frz (tob jts.toArray) (.tup ys))) { sh with heap := h'.push (tob jts.toArray) } :=
      J.laid (t' := sh.toks) (fun b o e => Heap.get?_push_of_some _ e) (Nat.le_refl _) (tob_ok gz r')
    exact ⟨.ref h'.objs.size, _, J2, rfl, y _ _ rfl (J.hok.fresh (Nat.le_refl _))⟩
  · obtain ⟨jts, r', pl, gz⟩ := I.tuple lq
    exact call_tuple_same pl ⟨.ref p, H, I, rfl, y⟩
/-- t + u -/
def zCat (K : PySem.W.Frag) : R2 := fun x y H Q => ∃ a b xs ys, x = .ref a ∧ y = .ref b ∧ SqT K H a xs ∧ SqT K H b ys ∧ xs.length + ys.length ≤ sizeLine ∧
  (xs = [] → Q (.ref b) H) ∧ (xs ≠ [] → ys = [] → Q (.ref a) H) ∧ (xs ≠ [] → ys ≠ [] → ∀ zo p, zo.dict = none → H p = none → Q (.ref p) (upd H p (.frz zo (.tup (xs ++ ys)))))
theorem op_catZ : OpR X (binaryOp .Add) (zCat X.K) := by
  intro pps sh σ H x y v u Q I rx ry h
  obtain ⟨a, b, xs, ys, rfl, rfl, la, lb, gz, q0, q1, q2⟩ := h
  cases rx
  cases ry
  obtain ⟨jts, r1, p1, _⟩ := I.tuple la
  obtain ⟨jts2, r2, p2, _⟩ := I.tuple lb
  by_cases gx : xs = []
  · subst gx
    cases r1
    exact cat_tup0 p1 p2 ⟨.ref b, H, I, rfl, q0 rfl⟩
  · refine HT.cat_tup p1 p2 (fun z => gx (r1.nil_iff.mp z)) (fun z => ⟨.ref a, H, I, rfl, q1 gx (r2.nil_iff.mp z)⟩) (fun z => ?_) (by rw [← r1.length, ← r2.length]; exact gz)
    exact ⟨.ref sh.heap.objs.size, _, I.laid (t' := sh.toks) (o := .frz (tob _) (.tup (xs ++ ys))) (fun b ob y => Heap.get?_push_of_some _ y) (Nat.le_refl _) (tob_ok (by rw [List.length_append]; exact gz) (r1.append r2)), rfl,
      q2 gx (fun w => z (r2.nil_iff.mpr w)) _ _ rfl (I.hok.fresh (Nat.le_refl _))⟩
/-- t[lo:hi] -/
def zSl (K : PySem.W.Frag) : V → Option Int → Option Int → Hp → VK → Prop := fun x lo hi H Q => ∃ a xs, x = .ref a ∧ SqT K H a xs ∧
  (HT.sIx xs.length 0 lo = 0 ∧ HT.sIx xs.length xs.length hi = xs.length → Q (.ref a) H) ∧ (¬ (HT.sIx xs.length 0 lo = 0 ∧ HT.sIx xs.length xs.length hi = xs.length) → ∀ zo p, zo.dict = none → H p = none → Q (.ref p) (upd H p (.frz zo (.tup (cutV xs lo hi)))))
theorem sl_tupZ : SlR X (zSl X.K) := by
  intro pps sh σ H x v vl vu lo hi sl Q I rx ns pl pu h
  obtain ⟨a, xs, rfl, lx, q1, q2⟩ := h
  cases rx
  obtain ⟨jts, r, ht, gz⟩ := I.tuple lx
  have lz : jts.toArray.size = xs.length := by rw [List.size_toArray]; exact r.length.symm
  refine ⟨"tuple", _, PyProof.Rows.slot_tuple_getitem.lookup, ht.typeIs, ?_⟩
  by_cases hw : HT.sIx xs.length 0 lo = 0 ∧ HT.sIx xs.length xs.length hi = xs.length
  · exact getItem_tuple_whole ht ns pl pu (by rw [lz]; exact hw) ⟨.ref a, H, I, rfl, q1 hw⟩
  · refine HT.getItem_tuple_cut ht ns pl pu (by rw [lz]; exact hw) ?_ (by rw [lz]; exact gz)
    rw [lz]
    exact ⟨.ref sh.heap.objs.size, _, I.laid (t' := sh.toks) (o := .frz (tob _) (.tup (cutV xs lo hi))) (fun b ob y => Heap.get?_push_of_some _ y) (Nat.le_refl _) (tob_ok (Nat.le_trans (cutV_length xs lo hi) gz) ((r.drop (HT.sIx xs.length 0 lo)).take (HT.sIx xs.length xs.length hi - HT.sIx xs.length 0 lo))), rfl,
      q2 hw _ _ rfl (I.hok.fresh (Nat.le_refl _))⟩
end
def IteZ (K : PySem.W.Frag) (a : Addr) : It :=
  ⟨fun ix H => ∃ (xs : List V) (x : V), SqL K H a xs ∧ xs[ix]? = some x, fun ix H v H' => ∃ T x zo, v = .ref T ∧ H T = none ∧ H' = upd H T (.frz zo (.tup [.int (ix : Nat), x])) ∧ zo.dict = none ∧ ∀ xs, SqL K H a xs → xs[ix]? = some x, fun ix H => ∃ xs : List V, SqL K H a xs ∧ xs.length ≤ ix⟩
theorem turn_enumZ {P : Program} {w : World} {K : PySem.W.Frag} {elts : List Expr} {kk : Nat} {tpos : Pos} (a e it : Addr) :
    Turn P w K (.Tuple elts kk tpos) (IteZ K a) [e, it] e (fun ix h => (∃ old, IsEnum h e it ((ix : Nat) : Int) old) ∧ h.IsListIter it a ix ∧ e ≠ it) where
  mem := by simp
  obj := fun ix h sta b nb => by
    obtain ⟨⟨old, he⟩, ⟨o, ho, cc, hd⟩, _⟩ := sta
    have ee : b = e ∨ b = it := by simpa using nb
    rcases ee with z | z
    · rw [z]; exact ⟨_, he, fun v qq => nomatch qq⟩
    · rw [z]; exact ⟨o, ho, fun v qq => by rw [hd] at qq; cases qq⟩
  keep := fun ix h h' sta k => let ⟨⟨old, he⟩, hi, hne⟩ := sta; ⟨⟨old, k e (by simp) _ he⟩, hi.at fun o qq => k it (by simp) o qq, hne⟩
  item := by
    intro X hP hw hK cc ix pps sh σ H EE I fo sta yg
    subst hP hw hK
    obtain ⟨⟨old, he⟩, hit, hne⟩ := sta
    obtain ⟨xs, x, lq, gx⟩ := yg
    obtain ⟨jts, sv, pl1, gz⟩ := I.list lq
    obtain ⟨u, hu, ru⟩ := sv.get gx
    have lel : e < sh.heap.objs.size := Heap.lt_size he
    have lil : it < sh.heap.objs.size := by obtain ⟨_, qq, _⟩ := hit; exact Heap.lt_size qq
    refine wpAny_pyNext_enum_item he hit pl1.isList (x := u) (by simpa using hu) hne fun h' ho hit' hT hsz hk => ?_
    refine ⟨_, rfl, wpAny_letOwnedTupleGo_enum (s := { sh with heap := h', toks := sh.toks + 1 }) ho fun h'' he' sb => ?_⟩
    have tT2 : h''.get? sh.heap.objs.size = some { cls := .type "tuple", data := .seq #[.int ix sh.toks, u] } := (sb.2 _ (Nat.ne_of_gt lel)).trans hT
    have neu : ObjOk X.prog X.w (upd H sh.heap.objs.size (.frz { cls := .type "tuple", data := .seq #[.int ix sh.toks, u] } (.tup [.int (ix : Nat), x]))) h'' sh.heap.objs.size (.frz { cls := .type "tuple", data := .seq #[.int ix sh.toks, u] } (.tup [.int (ix : Nat), x])) :=
      ⟨tT2, by show 2 ≤ sizeLine; decide, [.int ix sh.toks, u], .cons ⟨_, rfl⟩ (.cons ru .nil), ⟨_, tT2, rfl, _, rfl⟩⟩
    have I1 : Inv X pps σ (upd H sh.heap.objs.size (.frz { cls := .type "tuple", data := .seq #[.int ix sh.toks, u] } (.tup [.int (ix : Nat), x]))) { sh with heap := h'', toks := sh.toks + 1 } :=
      I.turnedNew (ch := [e, it]) (fun b ob nb qq => (sb.2 b (fun z => nb (by simp [z]))).trans (hk b ob (fun z => nb (by simp [z])) (fun z => nb (by simp [z])) qq)) fo (Nat.le_refl _) neu
    refine ⟨.ref sh.heap.objs.size, _, I1, rfl, ⟨_, x, _, rfl, I.hok.fresh (Nat.le_refl _), rfl, rfl, fun ys hy => by rw [I.list_inj hy lq]; exact gx⟩, ⟨⟨u, ?_⟩, hit'.at fun o qq => (sb.2 it (Ne.symm hne)).trans qq, hne⟩, fun b nb => ?_⟩
    · have e1 : ((ix + 1 : Nat) : Int) = (ix : Int) + 1 := by omega
      rw [e1]; exact he'
    · have hb' : b < sh.heap.objs.size := by
        have ee : b = e ∨ b = it := by simpa using nb
        rcases ee with z | z
        · rw [z]; exact lel
        · rw [z]; exact lil
      rw [upd_ne (Nat.ne_of_lt hb')]
      exact (fo b nb).1
  done := by
    intro X hP hw hK cc ix pps sh σ H EE I fo sta yg
    subst hP hw hK
    obtain ⟨⟨old, he⟩, hit, hne⟩ := sta
    obtain ⟨xs, lq, gx⟩ := yg
    obtain ⟨jts, sv, pl1, gz⟩ := I.list lq
    obtain ⟨f0, f1, f2, f3, f4, f5⟩ := fo it (by simp)
    have hl := sv.length
    exact wpAny_pyNext_enum_end (I.ok.hd cc) he hit pl1.isList (by simp; omega) fun h' eb => ⟨rfl, I.turned (t' := sh.toks) (fun b o nb qq => eb b o nb qq) f0 f1 f3 f4 f5⟩
  self := fun A ix sh Q EE sta h => let ⟨⟨_, he⟩, _⟩ := sta; wpAny_pyIter_enum he h
def iEnumZ (K : PySem.W.Frag) (ta : TA) : TI := fun σ H R => ta σ H fun vs H1 => ∃ a xs, vs = [.ref a] ∧ SqL K H1 a xs ∧ R (IteZ K a) H1
theorem pi_enumZ {X : Cx} {e : Expr} {ta : TA} {pl1 pos tpos : Pos} {elts : List Expr} {kk : Nat} (yg : Gl X "enumerate") (mz : X.mg "enumerate" = none) (pa1 : PA X [e] ta) (ns1 : starEach [e] X.env = [(false, eval e X.env)] := by rfl) :
    PI X (.Tuple elts kk tpos) (.Call (.Name "enumerate" pl1) [e] [] pos) (iEnumZ X.K ta) := by
  refine ⟨fun pps sh σ H R I h => ?_⟩
  refine Call_ (ld_blt I yg mz boot_enumerate (PyProof.Rows.callWith_type1 (thn (pa1.run pos pps sh σ H _ I h) fun uu s1 ⟨vs, H1, I1, r1, q1⟩ => ?_) ns1 rfl))
  obtain ⟨a, xs, ex, lq, qq⟩ := q1
  subst ex
  cases r1 with
  | cons rr0 rr1 =>
    cases rr1
    cases rr0
    obtain ⟨jts, sv, p', gz⟩ := I1.list lq
    refine call_enumerate_list p'.isList fun h' he hit hsz hk => wpAny_pyIter_enum he ?_
    have I2 : Inv X pps σ H1 { s1 with heap := h' } := I1.kept (t' := s1.toks) hk
    refine ⟨s1.heap.objs.size + 1, [s1.heap.objs.size + 1, s1.heap.objs.size], _, _, H1, rfl, I2, turn_enumZ a (s1.heap.objs.size + 1) s1.heap.objs.size, ⟨⟨.none, he⟩, hit, Nat.succ_ne_self _⟩, fun b nb => ?_, qq⟩
    have ee : b = s1.heap.objs.size + 1 ∨ b = s1.heap.objs.size := by simpa using nb
    have lec : s1.heap.objs.size ≤ b := by
      rcases ee with z | z
      · rw [z]; exact Nat.le_add_right _ _
      · rw [z]; exact Nat.le_refl _
    exact I1.fpOk lec (I1.hok.fresh lec)
def ItzZ (K : PySem.W.Frag) (a b : Addr) : It :=
  ⟨fun ix H => ∃ (xs ys : List V) (x y : V), SqL K H a xs ∧ SqL K H b ys ∧ xs[ix]? = some x ∧ ys[ix]? = some y,
    fun ix H v H' => ∃ T x y zo, v = .ref T ∧ H T = none ∧ H' = upd H T (.frz zo (.tup [x, y])) ∧ zo.dict = none ∧ (∀ xs, SqL K H a xs → xs[ix]? = some x) ∧ ∀ ys, SqL K H b ys → ys[ix]? = some y,
    fun ix H => ∃ xs ys : List V, SqL K H a xs ∧ SqL K H b ys ∧ (xs.length ≤ ix ∨ ys.length ≤ ix)⟩
theorem turn_zipZ {P : Program} {w : World} {K : PySem.W.Frag} {elts : List Expr} {kk : Nat} {tpos : Pos} {a b z TI TO i1 i2 : Addr} (D : ZipApart z TI TO i1 i2 a b) :
    Turn P w K (.Tuple elts kk tpos) (ItzZ K a b) [z, TI, TO, i1, i2] z (fun ix h => IsZip h z TI TO .none ∧ IsPair h TI (.ref i1) (.ref i2) ∧ (∃ x y, IsPair h TO x y) ∧ h.IsListIter i1 a ix ∧ h.IsListIter i2 b ix) where
  mem := by simp
  obj := fun ix h sta c cc => by
    obtain ⟨gz, gTI, ⟨x, y, gTO⟩, ⟨o1, e1, _, d1⟩, ⟨o2, e2, _, d2⟩⟩ := sta
    have ee : c = z ∨ c = TI ∨ c = TO ∨ c = i1 ∨ c = i2 := by simpa using cc
    rcases ee with qq | qq | qq | qq | qq
    · rw [qq]; exact ⟨_, gz, fun v qq => nomatch qq⟩
    · rw [qq]; exact ⟨_, gTI, fun v qq => nomatch qq⟩
    · rw [qq]; exact ⟨_, gTO, fun v qq => nomatch qq⟩
    · rw [qq]; exact ⟨o1, e1, fun v qq => by rw [d1] at qq; cases qq⟩
    · rw [qq]; exact ⟨o2, e2, fun v qq => by rw [d2] at qq; cases qq⟩
  keep := fun ix h h' sta k => by
    obtain ⟨gz, gTI, ⟨x, y, gTO⟩, g1, g2⟩ := sta
    exact ⟨k z (by simp) _ gz, k TI (by simp) _ gTI, ⟨x, y, k TO (by simp) _ gTO⟩, g1.at fun o qq => k i1 (by simp) o qq, g2.at fun o qq => k i2 (by simp) o qq⟩
  item := by
    intro X hP hw hK cc ix pps sh σ H EE I fo sta yg
    subst hP hw hK
    obtain ⟨gz, gTI, ⟨x0, y0, gTO⟩, g1, g2⟩ := sta
    obtain ⟨xs, ys, x, y, lqx, lqy, gx, hy⟩ := yg
    obtain ⟨jts, sv, pl1, _⟩ := I.list lqx
    obtain ⟨jts2, sv2, p2, _⟩ := I.list lqy
    obtain ⟨u, hu, ru⟩ := sv.get gx
    obtain ⟨u2, hu2, ru2⟩ := sv2.get hy
    have hzl : z < sh.heap.objs.size := Heap.lt_size gz
    refine wpAny_pyNext_zip_item D gz gTI gTO g1 g2 pl1.isList p2.isList (x := u) (y := u2) (by simpa using hu) (by simpa using hu2) fun h' z' TO' h1' h2' hT hsz hk => ?_
    refine ⟨_, rfl, wpAny_letOwnedTupleGo_zip (s := { sh with heap := h' }) z' fun h'' z'' sb => ?_⟩
    have tT2 : h''.get? sh.heap.objs.size = some { cls := .type "tuple", data := .seq #[u, u2] } := (sb.2 _ (Nat.ne_of_gt hzl)).trans hT
    have neu : ObjOk X.prog X.w (upd H sh.heap.objs.size (.frz { cls := .type "tuple", data := .seq #[u, u2] } (.tup [x, y]))) h'' sh.heap.objs.size (.frz { cls := .type "tuple", data := .seq #[u, u2] } (.tup [x, y])) :=
      ⟨tT2, by show 2 ≤ sizeLine; decide, [u, u2], .cons ru (.cons ru2 .nil), ⟨_, tT2, rfl, _, rfl⟩⟩
    have I1 : Inv X pps σ (upd H sh.heap.objs.size (.frz { cls := .type "tuple", data := .seq #[u, u2] } (.tup [x, y]))) { sh with heap := h'' } :=
      I.turnedNew (t' := sh.toks) (ch := [z, TI, TO, i1, i2]) (fun c o nb qq => (sb.2 c (fun q' => nb (by simp [q']))).trans (hk c o (fun q' => nb (by simp [q'])) (fun q' => nb (by simp [q'])) (fun q' => nb (by simp [q'])) (fun q' => nb (by simp [q'])) qq)) fo (Nat.le_refl _) neu
    refine ⟨.ref sh.heap.objs.size, _, I1, rfl, ⟨_, x, y, _, rfl, I.hok.fresh (Nat.le_refl _), rfl, rfl, fun l hl => by rw [I.list_inj hl lqx]; exact gx, fun l hl => by rw [I.list_inj hl lqy]; exact hy⟩, ⟨z'', ?_, ⟨u, u2, ?_⟩, ?_, ?_⟩, fun c hcm => ?_⟩
    · exact (sb.2 _ D.TIz).trans (hk _ _ D.TIz D.TITO D.TIi1 D.TIi2 gTI)
    · exact (sb.2 _ D.TOz).trans TO'
    · exact h1'.at fun o qq => (sb.2 _ D.i1z).trans qq
    · exact h2'.at fun o qq => (sb.2 _ D.i2z).trans qq
    · have ltc : c < sh.heap.objs.size := by
        have ee : c = z ∨ c = TI ∨ c = TO ∨ c = i1 ∨ c = i2 := by simpa using hcm
        rcases ee with qq | qq | qq | qq | qq
        · rw [qq]; exact hzl
        · rw [qq]; exact Heap.lt_size gTI
        · rw [qq]; exact Heap.lt_size gTO
        · rw [qq]; obtain ⟨_, e1, _⟩ := g1; exact Heap.lt_size e1
        · rw [qq]; obtain ⟨_, e2, _⟩ := g2; exact Heap.lt_size e2
      rw [upd_ne (Nat.ne_of_lt ltc)]
      exact (fo c hcm).1
  done := by
    intro X hP hw hK cc ix pps sh σ H EE I fo sta yg
    subst hP hw hK
    obtain ⟨gz, gTI, ⟨x0, y0, gTO⟩, g1, g2⟩ := sta
    obtain ⟨xs, ys, lqx, lqy, hend⟩ := yg
    obtain ⟨jts, sv, pl1, _⟩ := I.list lqx
    obtain ⟨jts2, sv2, p2, _⟩ := I.list lqy
    have l1 := sv.length
    have l2 := sv2.length
    have he : jts.toArray[ix]? = none ∨ jts2.toArray[ix]? = none := by
      rcases hend with qq | qq
      · exact .inl (by simp; omega)
      · exact .inr (by simp; omega)
    exact wpAny_pyNext_zip_end (I.ok.hd cc) D gz gTI gTO g1 g2 pl1.isList p2.isList he fun h' hk => ⟨rfl, I.turnedL (t' := sh.toks) (ch := [z, TI, TO, i1, i2]) (fun c o nb qq =>
      hk c o (fun q' => nb (by simp [q'])) (fun q' => nb (by simp [q'])) (fun q' => nb (by simp [q'])) (fun q' => nb (by simp [q'])) qq) fo⟩
  self := fun A ix sh Q EE sta h => wpAny_pyIter_zip sta.1 h
def ItzTZ (K : PySem.W.Frag) (a b : Addr) : It :=
  ⟨fun ix H => ∃ (xs ys : List V) (x y : V), SqT K H a xs ∧ SqT K H b ys ∧ xs[ix]? = some x ∧ ys[ix]? = some y,
    fun ix H v H' => ∃ T x y zo, v = .ref T ∧ H T = none ∧ H' = upd H T (.frz zo (.tup [x, y])) ∧ zo.dict = none ∧ (∀ xs, SqT K H a xs → xs[ix]? = some x) ∧ ∀ ys, SqT K H b ys → ys[ix]? = some y,
    fun ix H => ∃ xs ys : List V, SqT K H a xs ∧ SqT K H b ys ∧ (xs.length ≤ ix ∨ ys.length ≤ ix)⟩
theorem turn_zipTZ {P : Program} {w : World} {K : PySem.W.Frag} {elts : List Expr} {kk : Nat} {tpos : Pos} {a b z TI TO i1 i2 : Addr} (D : ZipApart z TI TO i1 i2 a b) :
    Turn P w K (.Tuple elts kk tpos) (ItzTZ K a b) [z, TI, TO, i1, i2] z (fun ix h => IsZip h z TI TO .none ∧ IsPair h TI (.ref i1) (.ref i2) ∧ (∃ x y, IsPair h TO x y) ∧ h.IsTupleIter i1 a ix ∧ h.IsTupleIter i2 b ix) where
  mem := by simp
  obj := fun ix h sta c cc => by
    obtain ⟨gz, gTI, ⟨x, y, gTO⟩, ⟨o1, e1, _, d1⟩, ⟨o2, e2, _, d2⟩⟩ := sta
    have ee : c = z ∨ c = TI ∨ c = TO ∨ c = i1 ∨ c = i2 := by simpa using cc
    rcases ee with qq | qq | qq | qq | qq
    · rw [qq]; exact ⟨_, gz, fun v qq => nomatch qq⟩
    · rw [qq]; exact ⟨_, gTI, fun v qq => nomatch qq⟩
    · rw [qq]; exact ⟨_, gTO, fun v qq => nomatch qq⟩
    · rw [qq]; exact ⟨o1, e1, fun v qq => by rw [d1] at qq; cases qq⟩
    · rw [qq]; exact ⟨o2, e2, fun v qq => by rw [d2] at qq; cases qq⟩
  keep := fun ix h h' sta k => by
    obtain ⟨gz, gTI, ⟨x, y, gTO⟩, g1, g2⟩ := sta
    exact ⟨k z (by simp) _ gz, k TI (by simp) _ gTI, ⟨x, y, k TO (by simp) _ gTO⟩, g1.at fun o qq => k i1 (by simp) o qq, g2.at fun o qq => k i2 (by simp) o qq⟩
  item := by
    intro X hP hw hK cc ix pps sh σ H EE I fo sta yg
    subst hP hw hK
    obtain ⟨gz, gTI, ⟨x0, y0, gTO⟩, g1, g2⟩ := sta
    obtain ⟨xs, ys, x, y, lqx, lqy, gx, hy⟩ := yg
    obtain ⟨jts, sv, pl1, _⟩ := I.tuple lqx
    obtain ⟨jts2, sv2, p2, _⟩ := I.tuple lqy
    obtain ⟨u, hu, ru⟩ := sv.get gx
    obtain ⟨u2, hu2, ru2⟩ := sv2.get hy
    have hzl : z < sh.heap.objs.size := Heap.lt_size gz
    refine pyNext_zipT_item D gz gTI gTO g1 g2 pl1 p2 (x := u) (y := u2) (by simpa using hu) (by simpa using hu2) fun h' z' TO' h1' h2' hT hsz hk => ?_
    refine ⟨_, rfl, wpAny_letOwnedTupleGo_zip (s := { sh with heap := h' }) z' fun h'' z'' sb => ?_⟩
    have tT2 : h''.get? sh.heap.objs.size = some { cls := .type "tuple", data := .seq #[u, u2] } := (sb.2 _ (Nat.ne_of_gt hzl)).trans hT
    have neu : ObjOk X.prog X.w (upd H sh.heap.objs.size (.frz { cls := .type "tuple", data := .seq #[u, u2] } (.tup [x, y]))) h'' sh.heap.objs.size (.frz { cls := .type "tuple", data := .seq #[u, u2] } (.tup [x, y])) :=
      ⟨tT2, by show 2 ≤ sizeLine; decide, [u, u2], .cons ru (.cons ru2 .nil), ⟨_, tT2, rfl, _, rfl⟩⟩
    have I1 : Inv X pps σ (upd H sh.heap.objs.size (.frz { cls := .type "tuple", data := .seq #[u, u2] } (.tup [x, y]))) { sh with heap := h'' } :=
      I.turnedNew (t' := sh.toks) (ch := [z, TI, TO, i1, i2]) (fun c o nb qq => (sb.2 c (fun q' => nb (by simp [q']))).trans (hk c o (fun q' => nb (by simp [q'])) (fun q' => nb (by simp [q'])) (fun q' => nb (by simp [q'])) (fun q' => nb (by simp [q'])) qq)) fo (Nat.le_refl _) neu
    refine ⟨.ref sh.heap.objs.size, _, I1, rfl, ⟨_, x, y, _, rfl, I.hok.fresh (Nat.le_refl _), rfl, rfl, fun l hl => by rw [I.tuple_inj hl lqx]; exact gx, fun l hl => by rw [I.tuple_inj hl lqy]; exact hy⟩, ⟨z'', ?_, ⟨u, u2, ?_⟩, ?_, ?_⟩, fun c hcm => ?_⟩
    · exact (sb.2 _ D.TIz).trans (hk _ _ D.TIz D.TITO D.TIi1 D.TIi2 gTI)
    · exact (sb.2 _ D.TOz).trans TO'
    · exact h1'.at fun o qq => (sb.2 _ D.i1z).trans qq
    · exact h2'.at fun o qq => (sb.2 _ D.i2z).trans qq
    · have ltc : c < sh.heap.objs.size := by
        have ee : c = z ∨ c = TI ∨ c = TO ∨ c = i1 ∨ c = i2 := by simpa using hcm
        rcases ee with qq | qq | qq | qq | qq
        · rw [qq]; exact hzl
        · rw [qq]; exact Heap.lt_size gTI
        · rw [qq]; exact Heap.lt_size gTO
        · rw [qq]; obtain ⟨_, e1, _⟩ := g1; exact Heap.lt_size e1
        · rw [qq]; obtain ⟨_, e2, _⟩ := g2; exact Heap.lt_size e2
      rw [upd_ne (Nat.ne_of_lt ltc)]
      exact (fo c hcm).1
  done := by
    intro X hP hw hK cc ix pps sh σ H EE I fo sta yg
    subst hP hw hK
    obtain ⟨gz, gTI, ⟨x0, y0, gTO⟩, g1, g2⟩ := sta
    obtain ⟨xs, ys, lqx, lqy, hend⟩ := yg
    obtain ⟨jts, sv, pl1, _⟩ := I.tuple lqx
    obtain ⟨jts2, sv2, p2, _⟩ := I.tuple lqy
    have l1 := sv.length
    have l2 := sv2.length
    have he : jts.toArray[ix]? = none ∨ jts2.toArray[ix]? = none := by
      rcases hend with qq | qq
      · exact .inl (by simp; omega)
      · exact .inr (by simp; omega)
    exact pyNext_zipT_end (I.ok.hd cc) D gz gTI gTO g1 g2 pl1 p2 he fun h' hk => ⟨rfl, I.turnedL (t' := sh.toks) (ch := [z, TI, TO, i1, i2]) (fun c o nb qq =>
      hk c o (fun q' => nb (by simp [q'])) (fun q' => nb (by simp [q'])) (fun q' => nb (by simp [q'])) (fun q' => nb (by simp [q'])) qq) fo⟩
  self := fun A ix sh Q EE sta h => wpAny_pyIter_zip sta.1 h

def iZipZ (K : PySem.W.Frag) (ta : TA) : TI := fun σ H R => ta σ H fun vs H1 => ∃ a b xs ys, vs = [.ref a, .ref b] ∧ ((SqL K H1 a xs ∧ SqL K H1 b ys ∧ R (ItzZ K a b) H1) ∨ (SqT K H1 a xs ∧ SqT K H1 b ys ∧ R (ItzTZ K a b) H1))
theorem pi_zipZ {X : Cx} {e e2 : Expr} {ta : TA} {pl1 pos tpos : Pos} {elts : List Expr} {kk : Nat} (yg : Gl X "zip") (mz : X.mg "zip" = none) (pa1 : PA X [e, e2] ta)
    (ns1 : starEach [e, e2] X.env = (false, eval e X.env) :: starEach [e2] X.env := by rfl) (npl : (backTo pos (starEach [e2] X.env)).any (·.1) = false := by rfl) :
    PI X (.Tuple elts kk tpos) (.Call (.Name "zip" pl1) [e, e2] [] pos) (iZipZ X.K ta) := by
  refine ⟨fun pps sh σ H R I h => ?_⟩
  refine Call_ (ld_blt I yg mz PyProof.Rows.boot_zip (PyProof.Rows.callWith_type1 (thn (pa1.run pos pps sh σ H _ I h) fun uu s1 ⟨vs, H1, I1, r1, q1⟩ => ?_) ns1 npl))
  obtain ⟨a, b, xs, ys, ex, q1⟩ := q1
  subst ex
  cases r1 with
  | cons rr0 rr1 =>
    cases rr1 with
    | cons r' rr1 =>
      cases rr1
      cases rr0
      cases r'
      have fresh5 : ∀ c, c ∈ [s1.heap.objs.size + 4, s1.heap.objs.size + 2, s1.heap.objs.size + 3, s1.heap.objs.size, s1.heap.objs.size + 1] → FpOk X pps H1 c := fun c hcm => by
        have ee : c = s1.heap.objs.size + 4 ∨ c = s1.heap.objs.size + 2 ∨ c = s1.heap.objs.size + 3 ∨ c = s1.heap.objs.size ∨ c = s1.heap.objs.size + 1 := by simpa using hcm
        have lec : s1.heap.objs.size ≤ c := by
          rcases ee with z | z | z | z | z
          · rw [z]; exact Nat.le_add_right _ _
          · rw [z]; exact Nat.le_add_right _ _
          · rw [z]; exact Nat.le_add_right _ _
          · rw [z]; exact Nat.le_refl _
          · rw [z]; exact Nat.le_add_right _ _
        exact I1.fpOk lec (I1.hok.fresh lec)
      rcases q1 with ⟨lqx, lqy, qq⟩ | ⟨lqx, lqy, qq⟩
      · obtain ⟨jts, sv, p1, _⟩ := I1.list lqx
        obtain ⟨jts2, sv2, p2, _⟩ := I1.list lqy
        refine call_zip_2 p1.isList p2.isList fun h' gz gTI gTO g1 g2 hsz hk => wpAny_pyIter_zip gz ?_
        have I2 : Inv X pps σ H1 { s1 with heap := h' } := I1.kept (t' := s1.toks) hk
        exact ⟨s1.heap.objs.size + 4, [s1.heap.objs.size + 4, s1.heap.objs.size + 2, s1.heap.objs.size + 3, s1.heap.objs.size, s1.heap.objs.size + 1], _, _, H1, rfl, I2, turn_zipZ (PySem.W.ktu_apart s1.heap.objs.size a b p1.lt p2.lt), ⟨gz, gTI, ⟨_, _, gTO⟩, g1, g2⟩, fresh5, qq⟩
      · obtain ⟨jts, sv, p1, _⟩ := I1.tuple lqx
        obtain ⟨jts2, sv2, p2, _⟩ := I1.tuple lqy
        obtain ⟨o1, ho1, _⟩ := id p1
        obtain ⟨o2, ho2, _⟩ := id p2
        refine call_zipT (show s1.heap.IsTuple a jts.toArray from p1) (show s1.heap.IsTuple b jts2.toArray from p2) fun h' gz gTI gTO g1 g2 hsz hk => wpAny_pyIter_zip gz ?_
        have I2 : Inv X pps σ H1 { s1 with heap := h' } := I1.kept (t' := s1.toks) hk
        exact ⟨s1.heap.objs.size + 4, [s1.heap.objs.size + 4, s1.heap.objs.size + 2, s1.heap.objs.size + 3, s1.heap.objs.size, s1.heap.objs.size + 1], _, _, H1, rfl, I2, turn_zipTZ (PySem.W.ktu_apart s1.heap.objs.size a b (Heap.lt_size ho1) (Heap.lt_size ho2)), ⟨gz, gTI, ⟨_, _, gTO⟩, g1, g2⟩, fresh5, qq⟩

end DLT


set_option maxHeartbeats 4000000
/-! tuple * int, for any count -/
namespace DLT
open PySem PySem.Spec PyProof.Rows L2
theorem tuple_mulS (l : Addr) (items : Array Value) (n : Nat) (dd : Option Addr) (sl : Array (Option Value)) (x : Int) (u : Tok) (c0 : (decide (x < -(2 ^ 63)) || decide (x ≥ 2 ^ 63)) = false) (c1 : (items.isEmpty || x == 1) = true) :
    Meets (Builtin.«tuple.__mul__» ⟨[.ref l, .int x u], []⟩) (fun _ R s => s.heap.get? l = some { cls := .type "tuple", dict := dd, data := .seq items n, slots := sl } ∧
      R (.ok (.ret (Value.ref l))) { s with heap := s.heap, toks := s.toks }) :=
  .of_wp fun prog w A R s h => by
    obtain ⟨hp, g, d, tk, os⟩ := s
    obtain ⟨hl, h⟩ := h
    have f1 := AutoSeq1.idx_int
    have f2 := AutoSeq1.sub_tuple_tuple
    wp_walk using wpAny_loadPart' hl
    repeat (first
      | (refine wpAny_ite_false (decide_eq_false (by rw [c0]; exact Bool.false_ne_true)) ?_; wp_walk using wpAny_loadPart' hl)
      | (refine wpAny_ite_true (decide_eq_true c1) ?_; wp_walk using wpAny_loadPart' hl))
    exact ⟨_, rfl, h⟩
theorem tuple_mulN (l : Addr) (items : Array Value) (n : Nat) (dd : Option Addr) (sl : Array (Option Value)) (x : Int) (u : Tok) (c0 : (decide (x < -(2 ^ 63)) || decide (x ≥ 2 ^ 63)) = false) (c1 : (items.isEmpty || x == 1) = false) (c2 : (decide (x ≤ 0) || items.isEmpty) = true) :
    Meets (Builtin.«tuple.__mul__» ⟨[.ref l, .int x u], []⟩) (fun _ R s => s.heap.get? l = some { cls := .type "tuple", dict := dd, data := .seq items n, slots := sl } ∧
      R (.ok (.ret (Value.ref s.heap.objs.size))) { s with heap := s.heap.push { cls := Value.type "tuple", data := Data.seq #[] }, toks := s.toks }) :=
  .of_wp fun prog w A R s h => by
    obtain ⟨hp, g, d, tk, os⟩ := s
    obtain ⟨hl, h⟩ := h
    have f1 := AutoSeq1.idx_int
    have hsz : (#[] : Array Value).size ≤ sizeLine := by decide
    wp_walk using wpAny_loadPart' hl
    repeat (first
      | (refine wpAny_ite_false (decide_eq_false (by rw [c0]; exact Bool.false_ne_true)) ?_; wp_walk using wpAny_loadPart' hl)
      | (refine wpAny_ite_false (decide_eq_false (by rw [c1]; exact Bool.false_ne_true)) ?_; wp_walk using wpAny_loadPart' hl)
      | (refine wpAny_ite_true (decide_eq_true c2) ?_; wp_walk using wpAny_loadPart' hl)
      | (refine wpAny_ite_false (decide_eq_false (Nat.not_lt.mpr hsz)) ?_; wp_walk using wpAny_loadPart' hl))
    exact ⟨_, rfl, h⟩
def zRep (K : PySem.W.Frag) : R2 := fun x y H Q => ∃ l k xs, x = .ref l ∧ y = .int k ∧ SqT K H l xs ∧ -(2 ^ 63) ≤ k ∧ k ≤ 1000 ∧ xs.length ≤ 1000 ∧ (xs = [] ∨ k = 1 → Q (.ref l) H) ∧
  (xs ≠ [] → k ≠ 1 → ∀ zo p, zo.dict = none → H p = none → Q (.ref p) (upd H p (.frz zo (.tup (List.replicate k.toNat xs).flatten))))
section
variable {X : Cx}
theorem op_repZ : OpR X (binaryOp .Mult) (zRep X.K) := by
  intro pins s σ H x y v u Q I rx ry h
  obtain ⟨l, k, xs, rfl, rfl, hT, h1, h2, hz, q1, q2⟩ := h
  cases rx
  obtain ⟨t, rfl⟩ := ry
  obtain ⟨its, r, ⟨⟨cls, dd, data, sl⟩, ho, hc, n, hd⟩, hs⟩ := I.tuple hT
  simp only at hc hd
  subst hc hd
  have hle : its.length = xs.length := r.length.symm
  have c0 : (decide (k < -(2 ^ 63)) || decide (k ≥ 2 ^ 63)) = false := by
    rw [decide_eq_false (by omega), decide_eq_false (by omega)] <;> rfl
  have hemp : its.toArray.isEmpty = decide (xs = []) := by
    cases its with
    | nil =>
      have : xs = [] := List.eq_nil_of_length_eq_zero hle.symm
      simp [this]
    | cons a b =>
      have : xs ≠ [] := fun e => by rw [e] at hle; simp at hle
      simp [this]
  by_cases hsame : xs = [] ∨ k = 1
  · have c1 : (its.toArray.isEmpty || k == 1) = true := by
      rw [hemp]
      rcases hsame with e | e <;> simp [e]
    exact wpAny_binaryOp_repeat_ref (T := "tuple") (U := "int") (by decide) ⟨_, ho, rfl⟩ (fun s' => typeIs_int s' k t) noFill_tuple_mul F.fills_int_mul F.slot_int_rmul repeat_tuple F.slot_int_index.lookup
      (call_meets F.slot_int_rmul (typeIs_int s k t) F.entry_int_rmul (F.args_int_rmul_2 _ _) (int_rmul_tuple k t l its.toArray n dd sl)
        ⟨ho, rfl, ⟨_, ho, rfl⟩, call_meets F.slot_tuple_mul ⟨_, ho, rfl⟩ F.entry_tuple_mul (F.args_tuple_mul_2 _ _) (tuple_mulS l its.toArray n dd sl k t c0 c1) ⟨ho, ⟨.ref l, H, I, rfl, q1 hsame⟩⟩⟩)
  · have hne : xs ≠ [] := fun e => hsame (.inl e)
    have hk1 : k ≠ 1 := fun e => hsame (.inr e)
    have c1 : (its.toArray.isEmpty || k == 1) = false := by
      rw [hemp]
      simp [hne, hk1]
    by_cases hk0 : k ≤ 0
    · have c2 : (decide (k ≤ 0) || its.toArray.isEmpty) = true := by simp [hk0]
      have e0 : (List.replicate k.toNat xs).flatten = ([] : List V) := by
        rw [show k.toNat = 0 by omega]
        rfl
      refine wpAny_binaryOp_repeat_ref (T := "tuple") (U := "int") (by decide) ⟨_, ho, rfl⟩ (fun s' => typeIs_int s' k t) noFill_tuple_mul F.fills_int_mul F.slot_int_rmul repeat_tuple F.slot_int_index.lookup
        (call_meets F.slot_int_rmul (typeIs_int s k t) F.entry_int_rmul (F.args_int_rmul_2 _ _) (int_rmul_tuple k t l its.toArray n dd sl)
          ⟨ho, rfl, ⟨_, ho, rfl⟩, call_meets F.slot_tuple_mul ⟨_, ho, rfl⟩ F.entry_tuple_mul (F.args_tuple_mul_2 _ _) (tuple_mulN l its.toArray n dd sl k t c0 c1 c2) ⟨ho, ?_⟩⟩)
      have q := q2 hne hk1
      rw [e0] at q
      exact ⟨.ref s.heap.objs.size, _, I.laid (t' := s.toks) (o := .frz (tob _) (.tup ([] : List V))) (fun b ob y => Heap.get?_push_of_some _ y) (Nat.le_refl _) (tob_ok (us := []) (by simp) .nil), rfl, q _ _ rfl (I.hok.fresh (Nat.le_refl _))⟩
    · have hi : its.toArray.isEmpty = false := by rw [hemp]; simp [hne]
      have hsz0 : its.toArray.size = xs.length := by rw [List.size_toArray, hle]
      have hm : ((its.toArray.size : Nat) : Int) * k ≤ 1000000 := by
        rw [hsz0]
        have a1 : ((xs.length : Nat) : Int) * k ≤ 1000 * k := Int.mul_le_mul_of_nonneg_right (by omega) (by omega)
        omega
      have flen : (List.replicate k.toNat its).flatten.length ≤ sizeLine := by
        rw [PyProof.Rows.lm_len_rep_flat, hle, sizeLine_eq]
        have a1 : k.toNat * xs.length ≤ 1000 * 1000 := Nat.mul_le_mul (by omega) hz
        omega
      have c2 : (decide (k ≤ 0) || its.toArray.isEmpty) = false := by
        rw [hi, Bool.or_false]
        exact decide_eq_false (by omega)
      have c4 : Builtin.Tuple.tupleTooMany (((its.toArray.size : Nat) : Int) * k) = false := by
        unfold Builtin.Tuple.tupleTooMany
        rw [sizeLine_eq]
        exact decide_eq_false (by omega)
      refine wpAny_binaryOp_repeat_ref (T := "tuple") (U := "int") (by decide) ⟨_, ho, rfl⟩ (fun s' => typeIs_int s' k t) noFill_tuple_mul F.fills_int_mul F.slot_int_rmul repeat_tuple F.slot_int_index.lookup
        (call_meets F.slot_int_rmul (typeIs_int s k t) F.entry_int_rmul (F.args_int_rmul_2 _ _) (int_rmul_tuple k t l its.toArray n dd sl)
          ⟨ho, rfl, ⟨_, ho, rfl⟩, call_meets F.slot_tuple_mul ⟨_, ho, rfl⟩ F.entry_tuple_mul (F.args_tuple_mul_2 _ _) (tuple_mulW l its.toArray n dd sl k t c0 c1 c2 (by omega) c4 (by rw [size_rep, List.size_toArray]; exact flen)) ⟨ho, ?_⟩⟩)
      rw [size_rep]
      exact ⟨.ref s.heap.objs.size, _, I.laid (t' := s.toks) (o := .frz (tob _) (.tup (List.replicate k.toNat xs).flatten)) (fun b ob q => Heap.get?_push_of_some _ q) (Nat.le_refl _)
        (tob_ok (by rw [PyProof.Rows.lm_len_rep_flat, sizeLine_eq]; have a1 : k.toNat * xs.length ≤ 1000 * 1000 := Nat.mul_le_mul (by omega) hz; omega) (r.rep k.toNat)), rfl, q2 hne hk1 _ _ rfl (I.hok.fresh (Nat.le_refl _))⟩
end
end DLT


/-! The data layer: defs over plain data (PyData), owned lists in slots, by rules over HandS. -/
namespace DL
open PySem PySem.Spec PyProof.Rows L2

/-- what a slot holds: frozen data; an owned list of frozen data; the law's script -/
inductive M where
  | d (x : PyData)
  | l (xs : List PyData)
  | scr (ns : List Int)
abbrev Env := List (Option M)
structure Exn where
  cls : Str
  fs : List (Str × PyData)
inductive Rs (α : Type) where
  | ok (a : α) (e : Env)
  | ex (x : Exn) (e : Env)
  | no
def Rs.bind {α β : Type} : Rs α → (α → Env → Rs β) → Rs β
  | .ok a e, f => f a e
  | .ex x e, _ => .ex x e
  | .no, _ => .no
@[simp] theorem Rs.bind_ok {α β : Type} (a : α) (e : Env) (f : α → Env → Rs β) : (Rs.ok a e).bind f = f a e := rfl
@[simp] theorem Rs.bind_ex {α β : Type} (x : Exn) (e : Env) (f : α → Env → Rs β) : (Rs.ex x e : Rs α).bind f = .ex x e := rfl
@[simp] theorem Rs.bind_no {α β : Type} (f : α → Env → Rs β) : (Rs.no : Rs α).bind f = .no := rfl
inductive Out where
  | nx (e : Env)
  | rt (m : M) (e : Env)
  | bk (e : Env)
  | ct (e : Env)
  | ex (x : Exn) (e : Env)
  | no
def lift {α : Type} : Option α → Env → Rs α
  | some a, e => .ok a e
  | none, _ => .no
@[simp] theorem lift_some {α : Type} (a : α) (e : Env) : lift (some a) e = .ok a e := rfl
@[simp] theorem lift_none {α : Type} (e : Env) : lift (none : Option α) e = .no := rfl

/-! ### owners -/
abbrev Ow := Addr → Option Nat
def off (ow : Ow) (p : Addr) : Ow := fun a => if a = p then none else ow a
def give (ow : Ow) (p : Addr) (i : Nat) : Ow := fun a => if a = p then some i else ow a
theorem off_same {ow : Ow} {p : Addr} : off ow p p = none := if_pos rfl
theorem off_ne {ow : Ow} {p a : Addr} (h : a ≠ p) : off ow p a = ow a := if_neg h
theorem give_same {ow : Ow} {p : Addr} {i : Nat} : give ow p i p = some i := if_pos rfl
theorem give_ne {ow : Ow} {p a : Addr} {i : Nat} (h : a ≠ p) : give ow p i a = ow a := if_neg h

/-- data in the heap, none of it owned -/
def FT (K : PySem.W.Frag) (H : Hp) (ow : Ow) (a : Addr) (xs : List V) : Prop :=
  (∃ zo : Obj, H a = some (.frz zo (.tup xs)) ∧ zo.dict = none ∧ ow a = none) ∨
    ∃ (o : Obj) (its : Array Value) (n : Nat), (K.lookup a = some o ∧ o.dict = none) ∧ o.cls = .type "tuple" ∧ o.data = .seq its n ∧ its.size ≤ sizeLine ∧ Vals xs its.toList
theorem FT.sq {K : PySem.W.Frag} {H : Hp} {ow : Ow} {a : Addr} {xs : List V} (h : FT K H ow a xs) : SqT K H a xs := by
  rcases h with ⟨zo, h, _⟩ | ⟨o, its, n, h, r⟩
  · exact .inl (.inr ⟨zo, h⟩)
  · exact .inr ⟨o, its, n, h.1, r⟩
theorem FT.new {K : PySem.W.Frag} {H : Hp} {ow : Ow} {a : Addr} {xs : List V} {zo : Obj} (h : zo.dict = none) : FT K (upd H a (.frz zo (.tup xs))) (off ow a) a xs := .inl ⟨zo, upd_same, h, off_same⟩
mutual
inductive DV (K : PySem.W.Frag) (H : Hp) (ow : Ow) : V → PyData → Prop
  | non : DV K H ow .non .none
  | bl (b : Bool) : DV K H ow (.bl b) (.bool b)
  | int (i : Int) : DV K H ow (.int i) (.int i)
  | str (x : Str) : DV K H ow (.str x) (.str x)
  | lst {a : Addr} {xs : List V} {ds : List PyData} : H a = some (.lst xs) → ow a = none → DVs K H ow xs ds → ds.length ≤ 16777216 → DV K H ow (.ref a) (.list ds)
  | tup {a : Addr} {xs : List V} {ds : List PyData} : FT K H ow a xs → DVs K H ow xs ds → ds.length ≤ 16777216 → DV K H ow (.ref a) (.tuple ds)
inductive DVs (K : PySem.W.Frag) (H : Hp) (ow : Ow) : List V → List PyData → Prop
  | nil : DVs K H ow [] []
  | cons {v : V} {vs : List V} {d : PyData} {ds : List PyData} : DV K H ow v d → DVs K H ow vs ds → DVs K H ow (v :: vs) (d :: ds)
end
/-- what stands frozen stays -/
def Stay (H : Hp) (ow : Ow) (H' : Hp) (ow' : Ow) : Prop := ∀ a o, H a = some o → ow a = none → H' a = some o ∧ ow' a = none
section
variable {K : PySem.W.Frag} {H H' H'' : Hp} {ow ow' ow'' : Ow}
theorem Stay.refl : Stay H ow H ow := fun _ _ h h' => ⟨h, h'⟩
theorem Stay.trans (x : Stay H ow H' ow') (y : Stay H' ow' H'' ow'') : Stay H ow H'' ow'' := fun a o h h' => let ⟨p, q⟩ := x a o h h'; y a o p q
theorem FT.stay (st : Stay H ow H' ow') {a : Addr} {xs : List V} (h : FT K H ow a xs) : FT K H' ow' a xs := by
  rcases h with ⟨zo, h, hd, hw⟩ | h
  · exact .inl ⟨zo, (st _ _ h hw).1, hd, (st _ _ h hw).2⟩
  · exact .inr h
mutual
theorem DV.stay (st : Stay H ow H' ow') : ∀ {d : PyData} {v : V}, DV K H ow v d → DV K H' ow' v d
  | .none, _, h => by cases h; exact .non
  | .bool b, _, h => by cases h; exact .bl b
  | .int i, _, h => by cases h; exact .int i
  | .str x, _, h => by cases h; exact .str x
  | .list ds, _, h => by
    cases h with
    | lst h1 h2 h3 hz =>
      obtain ⟨p, q⟩ := st _ _ h1 h2
      exact .lst p q (DVs.stay st h3) hz
  | .tuple ds, _, h => by
    cases h with
    | tup h1 h3 hz => exact .tup (h1.stay st) (DVs.stay st h3) hz
  | .dict _, _, h => by cases h
theorem DVs.stay (st : Stay H ow H' ow') : ∀ {ds : List PyData} {vs : List V}, DVs K H ow vs ds → DVs K H' ow' vs ds
  | [], _, h => by cases h; exact .nil
  | d :: ds, _, h => by
    cases h with
    | cons h1 h2 => exact .cons (DV.stay st h1) (DVs.stay st h2)
end
mutual
theorem DV.dp : ∀ {d : PyData} {v : V}, DV K H ow v d → Dp K H v d
  | .none, _, h => by cases h; exact .non
  | .bool b, _, h => by cases h; exact .bl b
  | .int i, _, h => by cases h; exact .int i
  | .str x, _, h => by cases h; exact .str x
  | .list ds, _, h => by
    cases h with
    | lst h1 h2 h3 hz => exact .lst (.of h1) (DVs.dp h3)
  | .tuple ds, _, h => by
    cases h with
    | tup h1 h3 hz => exact .tup h1.sq (DVs.dp h3)
  | .dict _, _, h => by cases h
theorem DVs.dp : ∀ {ds : List PyData} {vs : List V}, DVs K H ow vs ds → DpAll K H vs ds
  | [], _, h => by cases h; exact .nil
  | d :: ds, _, h => by
    cases h with
    | cons h1 h2 => exact .cons (DV.dp h1) (DVs.dp h2)
end
theorem DVs.length : ∀ {ds : List PyData} {vs : List V}, DVs K H ow vs ds → vs.length = ds.length
  | [], _, h => by cases h; rfl
  | _ :: _, _, h => by
    cases h with
    | cons _ h2 => simp [DVs.length h2]
theorem DVs.get : ∀ {ds : List PyData} {vs : List V} {i : Nat} {d : PyData}, DVs K H ow vs ds → ds[i]? = some d → ∃ v, vs[i]? = some v ∧ DV K H ow v d
  | [], _, _, _, _, e => by simp at e
  | _ :: _, _, 0, _, h, e => by
    cases h with
    | cons h1 h2 => simp at e; subst e; exact ⟨_, rfl, h1⟩
  | _ :: _, _, i + 1, _, h, e => by
    cases h with
    | cons h1 h2 =>
      obtain ⟨v, a, b⟩ := DVs.get (i := i) h2 (by simpa using e)
      exact ⟨v, by simpa using a, b⟩
theorem DVs.append : ∀ {ds es : List PyData} {vs ws : List V}, DVs K H ow vs ds → DVs K H ow ws es → DVs K H ow (vs ++ ws) (ds ++ es)
  | [], _, _, _, h, k => by cases h; exact k
  | _ :: _, _, _, _, h, k => by
    cases h with
    | cons h1 h2 => exact .cons h1 (DVs.append h2 k)
theorem DVs.take : ∀ {ds : List PyData} {vs : List V} (n : Nat), DVs K H ow vs ds → DVs K H ow (vs.take n) (ds.take n)
  | _, _, 0, _ => by simpa using DVs.nil
  | [], _, n + 1, h => by cases h; exact .nil
  | _ :: _, _, n + 1, h => by
    cases h with
    | cons h1 h2 => exact .cons h1 (DVs.take n h2)
theorem DVs.drop : ∀ {ds : List PyData} {vs : List V} (n : Nat), DVs K H ow vs ds → DVs K H ow (vs.drop n) (ds.drop n)
  | _, _, 0, h => by simpa using h
  | [], _, n + 1, h => by cases h; exact .nil
  | _ :: _, _, n + 1, h => by
    cases h with
    | cons h1 h2 => simpa using DVs.drop n h2
theorem DVs.set {w : V} {x : PyData} (r : DV K H ow w x) : ∀ {ds : List PyData} {vs : List V} (n : Nat), DVs K H ow vs ds → DVs K H ow (vs.set n w) (ds.set n x)
  | [], _, n, h => by cases h; exact .nil
  | _ :: _, _, 0, h => by
    cases h with
    | cons h1 h2 => exact .cons r h2
  | _ :: _, _, n + 1, h => by
    cases h with
    | cons h1 h2 => exact .cons h1 (DVs.set r n h2)
theorem DVs.eraseIdx : ∀ {ds : List PyData} {vs : List V} (n : Nat), DVs K H ow vs ds → DVs K H ow (vs.eraseIdx n) (ds.eraseIdx n)
  | [], _, n, h => by cases h; exact .nil
  | _ :: _, _, 0, h => by
    cases h with
    | cons h1 h2 => exact h2
  | _ :: _, _, n + 1, h => by
    cases h with
    | cons h1 h2 => exact .cons h1 (DVs.eraseIdx n h2)
theorem DVs.reverse : ∀ {ds : List PyData} {vs : List V}, DVs K H ow vs ds → DVs K H ow vs.reverse ds.reverse
  | [], _, h => by cases h; exact .nil
  | _ :: _, _, h => by
    cases h with
    | cons h1 h2 =>
      rw [List.reverse_cons, List.reverse_cons]
      exact (DVs.reverse h2).append (.cons h1 .nil)
theorem DVs.dropLast {ds : List PyData} {vs : List V} (h : DVs K H ow vs ds) : DVs K H ow vs.dropLast ds.dropLast := by
  rw [List.dropLast_eq_take, List.dropLast_eq_take, h.length]
  exact h.take _
theorem DVs.ints : ∀ {ns : List Int} {vs : List V}, DVs K H ow vs (ns.map PyData.int) → vs = ns.map V.int
  | [], _, h => by cases h; rfl
  | n :: ns, _, h => by
    cases h with
    | cons h1 h2 => cases h1; rw [DVs.ints h2]; rfl
theorem DVs.of_ints : ∀ (ns : List Int), DVs K H ow (ns.map V.int) (ns.map PyData.int)
  | [] => .nil
  | n :: ns => .cons (.int n) (DVs.of_ints ns)
theorem DVs.bls : ∀ {ns : List Bool} {vs : List V}, DVs K H ow vs (ns.map PyData.bool) → vs = ns.map V.bl
  | [], _, h => by cases h; rfl
  | n :: ns, _, h => by
    cases h with
    | cons h1 h2 => cases h1; rw [DVs.bls h2]; rfl

/-! ### what slots hold -/
inductive VM (K : PySem.W.Frag) (H : Hp) (ow : Ow) : V → M → List Addr → Prop
  | d {v : V} {x : PyData} : DV K H ow v x → VM K H ow v (.d x) []
  | l {a : Addr} {vs : List V} {ds : List PyData} : H a = some (.lst vs) → DVs K H ow vs ds → ds.length ≤ 16777216 → VM K H ow (.ref a) (.l ds) [a]
  | scr {a : Addr} {ns : List Int} : ns.length ≤ 16777216 → (∃ o, H a = some (.frz o (.lst (ns.map V.int))) ∧ ow a = none) ∨ (H a = some (.lst (ns.map V.int)) ∧ ow a = none) ∨ (∀ H', SqL K H' a (ns.map V.int)) → VM K H ow (.ref a) (.scr ns) []
theorem VM.stay (st : Stay H ow H' ow') {v : V} {m : M} {fp : List Addr} (h : VM K H ow v m fp) (hf : ∀ p ∈ fp, H' p = H p) : VM K H' ow' v m fp := by
  cases h with
  | d h => exact .d (h.stay st)
  | l h1 h2 hz => exact .l ((hf _ (by simp)).trans h1) (h2.stay st) hz
  | scr hz h =>
    rcases h with ⟨o, h, h'⟩ | ⟨h, h'⟩ | h
    · exact .scr hz (.inl ⟨o, st _ _ h h'⟩)
    · exact .scr hz (.inr (.inl (st _ _ h h')))
    · exact .scr hz (.inr (.inr h))
theorem VM.there {v : V} {m : M} {fp : List Addr} (h : VM K H ow v m fp) : ∀ p ∈ fp, ∃ o, H p = some o := by
  cases h with
  | d h => intro p hp; cases hp
  | l h1 h2 hz => intro p hp; simp at hp; subst hp; exact ⟨_, h1⟩
  | scr hz h => intro p hp; cases hp
end

structure Cc where
  N : Nat
  io : Nat → Option V
  cl : Str → Option Addr
  W : WX

/-- the slots -/
structure RpE (K : PySem.W.Frag) (C : Cc) (H : Hp) (ow : Ow) (σ : L2.St) (env : Env) : Prop where
  sl : ∀ (i : Nat) (m : M), env[i]? = some (some m) → ∃ v fp, σ[i]? = some (some v) ∧ VM K H ow v m fp ∧ fp.Nodup ∧ ∀ p ∈ fp, ow p = some i
  io : ∀ (i : Nat) (v : V), C.io i = some v → σ[i]? = some (some v)
  len : env.length = C.N
  lenS : σ.length = C.N

/-- behind a piece: what is not ours stands -/
def Ext (N : Nat) (H : Hp) (ow : Ow) (H' : Hp) (ow' : Ow) : Prop := ∀ a o, H a = some o → (∀ i, ow a = some i → N < i) → H' a = some o ∧ ow' a = ow a
section
variable {K : PySem.W.Frag} {H H' H'' : Hp} {ow ow' ow'' : Ow} {N : Nat} {C : Cc} {σ : L2.St} {env : Env}
theorem Ext.refl : Ext N H ow H ow := fun _ _ h _ => ⟨h, rfl⟩
theorem Ext.trans (x : Ext N H ow H' ow') (y : Ext N H' ow' H'' ow'') : Ext N H ow H'' ow'' := fun a o h h' => by
  obtain ⟨p, q⟩ := x a o h h'
  obtain ⟨r, t⟩ := y a o p fun i e => h' i (by rw [← q]; exact e)
  exact ⟨r, t.trans q⟩
theorem Ext.stay (x : Ext N H ow H' ow') : Stay H ow H' ow' := fun a o h h' => by
  obtain ⟨p, q⟩ := x a o h fun i e => by rw [h'] at e; cases e
  exact ⟨p, q.trans h'⟩
/-- all that stood stands, owned as it was -/
def Gr (H : Hp) (ow : Ow) (H' : Hp) (ow' : Ow) : Prop := ∀ a o, H a = some o → H' a = some o ∧ ow' a = ow a
theorem Gr.refl : Gr H ow H ow := fun _ _ h => ⟨h, rfl⟩
theorem Gr.trans (x : Gr H ow H' ow') (y : Gr H' ow' H'' ow'') : Gr H ow H'' ow'' := fun a o h => by
  obtain ⟨p, q⟩ := x a o h
  obtain ⟨r, t⟩ := y a o p
  exact ⟨r, t.trans q⟩
theorem Gr.ext (x : Gr H ow H' ow') : Ext N H ow H' ow' := fun a o h _ => x a o h
theorem Gr.stay (x : Gr H ow H' ow') : Stay H ow H' ow' := fun a o h h' => let ⟨p, q⟩ := x a o h; ⟨p, q.trans h'⟩
theorem Gr.new {p : Addr} {o : HO} (h : H p = none) : Gr H ow (upd H p o) (off ow p) := fun a u e =>
  ⟨by rw [upd_ne (ne_of_none e h)]; exact e, off_ne (ne_of_none e h)⟩
theorem Gr.newG {p : Addr} {o : HO} {i : Nat} (h : H p = none) : Gr H ow (upd H p o) (give ow p i) := fun a u e =>
  ⟨by rw [upd_ne (ne_of_none e h)]; exact e, give_ne (ne_of_none e h)⟩
theorem RpE.gr (x : Gr H ow H' ow') (R : RpE K C H ow σ env) : RpE K C H' ow' σ env :=
  ⟨fun i m e => by
    obtain ⟨v, fp, h1, h2, h3, h4⟩ := R.sl i m e
    have hk : ∀ p ∈ fp, H' p = H p ∧ ow' p = ow p := fun p hp => by
      obtain ⟨o, ho⟩ := h2.there p hp
      obtain ⟨a, b⟩ := x p o ho
      exact ⟨a.trans ho.symm, b⟩
    exact ⟨v, fp, h1, h2.stay x.stay fun p hp => (hk p hp).1, h3, fun p hp => (hk p hp).2.trans (h4 p hp)⟩, R.io, R.len, R.lenS⟩

/-! ### readings -/
/-- an exception at d -/
def XR (K : PySem.W.Frag) (C : Cc) (H : Hp) (ow : Ow) (x : Exn) (c : Value) (dx : Option Addr) : Prop :=
  ∃ a, C.cl x.cls = some a ∧ c = .ref a ∧ ∃ d fs, dx = some d ∧ H d = some (.xd fs) ∧ ow d = none ∧ fs.map (·.1) = x.fs.map (·.1) ∧ DVs K H ow (fs.map (·.2)) (x.fs.map (·.2))
def rdAt {α β : Type} (K : PySem.W.Frag) (C : Cc) (R : Hp → Ow → β → α → Prop) (σ : L2.St) (H : Hp) (ow : Ow) (Q : β → Hp → Prop) : Rs α → Prop
  | .ok a env' => ∀ v H' ow', Ext C.N H ow H' ow' → R H' ow' v a → RpE K C H' ow' σ env' → Q v H'
  | .ex x env' => ∀ c dx H' ow', Ext C.N H ow H' ow' → XR K C H' ow' x c dx → RpE K C H' ow' σ env' → C.W c dx σ H'
  | .no => False
def rd {α β : Type} (K : PySem.W.Frag) (C : Cc) (R : Hp → Ow → β → α → Prop) (t : Env → Rs α) (σ : L2.St) (H : Hp) (Q : β → Hp → Prop) : Prop :=
  ∃ env ow, RpE K C H ow σ env ∧ rdAt K C R σ H ow Q (t env)
abbrev RE (K : PySem.W.Frag) : Hp → Ow → V → PyData → Prop := fun H ow v d => DV K H ow v d
abbrev RT : Hp → Ow → Bool → Bool → Prop := fun _ _ b c => b = c
abbrev RA (K : PySem.W.Frag) : Hp → Ow → List V → List PyData → Prop := fun H ow v d => DVs K H ow v d
abbrev RM (K : PySem.W.Frag) (N : Nat) : Hp → Ow → V → M → Prop := fun H ow v m => ∃ fp, VM K H ow v m fp ∧ fp.Nodup ∧ ∀ p ∈ fp, ow p = some N
variable {α β γ δ : Type} {R : Hp → Ow → β → α → Prop} {R1 : Hp → Ow → δ → γ → Prop} {Q : β → Hp → Prop} {r : Rs α}
theorem rdAt_from (x : Ext C.N H ow H' ow') (h : rdAt K C R σ H ow Q r) : rdAt K C R σ H' ow' Q r := by
  cases r with
  | ok a e => exact fun v H2 ow2 y => h v H2 ow2 (x.trans y)
  | ex a e => exact fun c dx H2 ow2 y => h c dx H2 ow2 (x.trans y)
  | no => exact h
theorem rdAt_mono {Q' : β → Hp → Prop} (h : rdAt K C R σ H ow Q r) (q : ∀ v H', Q v H' → Q' v H') : rdAt K C R σ H ow Q' r := by
  cases r with
  | ok a e => exact fun v H2 ow2 x y z => q _ _ (h v H2 ow2 x y z)
  | ex a e => exact h
  | no => exact h
/-- first r, then u -/
theorem rdAt_bind {r : Rs γ} {u : γ → Env → Rs α} (h : rdAt K C R σ H ow Q (r.bind u)) :
    rdAt K C R1 σ H ow (fun v H1 => ∃ a env1 ow1, Ext C.N H ow H1 ow1 ∧ R1 H1 ow1 v a ∧ RpE K C H1 ow1 σ env1 ∧ rdAt K C R σ H1 ow1 Q (u a env1)) r := by
  cases r with
  | ok a e => exact fun v H2 ow2 x y z => ⟨a, e, ow2, x, y, z, rdAt_from x h⟩
  | ex a e => exact h
  | no => exact h
/-- the last step: the value is there -/
theorem rdAt_fin {v : β} {a : α} (h : rdAt K C R σ H ow Q (.ok a env)) (x : Gr H ow H' ow') (y : R H' ow' v a) (z : RpE K C H ow σ env) : Q v H' := h v H' ow' x.ext y (z.gr x)
theorem rdAt_lift {v : β} {o : Option α} (h : rdAt K C R σ H ow Q (lift o env)) : ∃ a, o = some a ∧ rdAt K C R σ H ow Q (.ok a env) := by
  cases o with
  | none => exact h.elim
  | some a => exact ⟨a, rfl, h⟩
end

/-! ### judgements -/
def DE (X : Cx) (C : Cc) (e : Expr) (t : Env → Rs PyData) : Prop := PE X e (rd X.K C (RE X.K) t)
def DM (X : Cx) (C : Cc) (e : Expr) (t : Env → Rs M) : Prop := PE X e (rd X.K C (RM X.K C.N) t)
def DT (X : Cx) (C : Cc) (e : Expr) (t : Env → Rs Bool) : Prop := PT X e (rd X.K C RT t)
def DW (X : Cx) (C : Cc) (e : Expr) (t : Env → Rs Bool) : Prop := PW X e (rd X.K C RT t)
def DA (X : Cx) (C : Cc) (es : List Expr) (t : Env → Rs (List PyData)) : Prop := PA X es (rd X.K C (RA X.K) t)
theorem PEweak {X : Cx} {e : Expr} {t t' : TE} (h : PE X e t) (w : ∀ σ H Q, t' σ H Q → t σ H Q) : PE X e t' := ⟨fun pins s σ H Q I q => h.run pins s σ H Q I (w σ H Q q)⟩
theorem PTweak {X : Cx} {e : Expr} {t t' : TT} (h : PT X e t) (w : ∀ σ H Q, t' σ H Q → t σ H Q) : PT X e t' := ⟨fun pins s σ H Q I q => h.run pins s σ H Q I (w σ H Q q)⟩
theorem PWweak {X : Cx} {e : Expr} {t t' : TT} (h : PW X e t) (w : ∀ σ H Q, t' σ H Q → t σ H Q) : PW X e t' := ⟨fun wh pins s σ H Q I q => h.run wh pins s σ H Q I (w σ H Q q)⟩
theorem PAweak {X : Cx} {e : List Expr} {t t' : TA} (h : PA X e t) (w : ∀ σ H Q, t' σ H Q → t σ H Q) : PA X e t' := ⟨fun pos pins s σ H Q I q => h.run pos pins s σ H Q I (w σ H Q q)⟩
theorem PSweak {X : Cx} {e : Stmt} {t t' : TS} (h : PS X e t) (w : ∀ D σ H, t' D σ H → t D σ H) : PS X e t' := ⟨fun pins s σ H D I q => h.run pins s σ H D I (w D σ H q)⟩
theorem PSsweak {X : Cx} {e : List Stmt} {t t' : TS} (h : PSs X e t) (w : ∀ D σ H, t' D σ H → t D σ H) : PSs X e t' := ⟨fun pins s σ H D I q => h.run pins s σ H D I (w D σ H q)⟩
/-- two in a row -/
theorem rd_two {K : PySem.W.Frag} {C : Cc} {α β γ δ α1 β1 : Type} {R : Hp → Ow → β → α → Prop} {R1 : Hp → Ow → δ → γ → Prop} {R2 : Hp → Ow → β1 → α1 → Prop} {σ : L2.St} {H : Hp} {Q : β → Hp → Prop}
    {ta : Env → Rs γ} {tb : Env → Rs α1} {f : γ → α1 → Env → Rs α} {k : δ → β1 → Hp → Prop}
    (h : rd K C R (fun env => (ta env).bind fun x e1 => (tb e1).bind fun y e2 => f x y e2) σ H Q)
    (st : ∀ (H H' : Hp) (ow ow' : Ow) v d, Stay H ow H' ow' → R1 H ow v d → R1 H' ow' v d)
    (hk : ∀ v w x y H ow env, R1 H ow v x → R2 H ow w y → RpE K C H ow σ env → rdAt K C R σ H ow Q (f x y env) → k v w H) :
    rd K C R1 ta σ H fun v H1 => rd K C R2 tb σ H1 fun w H2 => k v w H2 := by
  obtain ⟨env, ow, P, h⟩ := h
  refine ⟨env, ow, P, rdAt_mono (rdAt_bind h) fun v H1 ⟨x, e1, ow1, X1, V1, P1, h1⟩ => ⟨e1, ow1, P1, rdAt_mono (rdAt_bind h1) fun w H2 ⟨y, e2, ow2, X2, V2, P2, h2⟩ => ?_⟩⟩
  exact hk v w x y H2 ow2 e2 (st _ _ _ _ _ _ X2.stay V1) V2 P2 h2
theorem rd_one {K : PySem.W.Frag} {C : Cc} {α β γ δ : Type} {R : Hp → Ow → β → α → Prop} {R1 : Hp → Ow → δ → γ → Prop} {σ : L2.St} {H : Hp} {Q : β → Hp → Prop}
    {ta : Env → Rs γ} {f : γ → Env → Rs α} {k : δ → Hp → Prop}
    (h : rd K C R (fun env => (ta env).bind f) σ H Q)
    (hk : ∀ v x H ow env, R1 H ow v x → RpE K C H ow σ env → rdAt K C R σ H ow Q (f x env) → k v H) :
    rd K C R1 ta σ H k := by
  obtain ⟨env, ow, P, h⟩ := h
  exact ⟨env, ow, P, rdAt_mono (rdAt_bind h) fun v H1 ⟨x, e1, ow1, X1, V1, P1, h1⟩ => hk v x H1 ow1 e1 V1 P1 h1⟩
end DL


namespace DL
open PySem PySem.Spec PyProof.Rows L2

/-! ### operators by data -/
def Op2 (K : PySem.W.Frag) (r : R2) (f : PyData → PyData → Option PyData) : Prop :=
  ∀ v w x y o H ow (Q : VK), DV K H ow v x → DV K H ow w y → f x y = some o → (∀ v' H' ow', Gr H ow H' ow' → DV K H' ow' v' o → Q v' H') → r v w H Q
def e2 (f : PyData → PyData → Option PyData) (ta tb : Env → Rs PyData) : Env → Rs PyData := fun env => (ta env).bind fun x e1 => (tb e1).bind fun y e2 => lift (f x y) e2
def e1 (f : PyData → Option PyData) (ta : Env → Rs PyData) : Env → Rs PyData := fun env => (ta env).bind fun x e1 => lift (f x) e1
section
variable {X : Cx} {C : Cc} {a b : Expr} {ta tb : Env → Rs PyData} {pos : Pos} {f : PyData → PyData → Option PyData} {r : R2}
theorem rd_op {K : PySem.W.Frag} (hop : Op2 K r f) {σ : L2.St} {H : Hp} {Q : VK} (h : rd K C (RE K) (e2 f ta tb) σ H Q) : tOp r (rd K C (RE K) ta) (rd K C (RE K) tb) σ H Q := by
  refine rd_two (R1 := RE K) (R2 := RE K) h (fun H H' ow ow' v d st x => DV.stay st x) fun v w x y H ow env hv hw P h => ?_
  obtain ⟨o, e, h⟩ := rdAt_lift (v := V.non) h
  exact hop v w x y o H ow Q hv hw e fun v' H' ow' g d => h v' H' ow' g.ext d (P.gr g)
theorem de_op {op : Operator} (ho : OpR X (binaryOp op) r) (hop : Op2 X.K r f) (ha : DE X C a ta) (hb : DE X C b tb) : DE X C (.BinOp a op b pos) (e2 f ta tb) :=
  PEweak (pe_op ho ha hb) fun σ H Q h => rd_op hop h
theorem de_cmp {op : CmpOp} (ho : OpR X (compareOp op) r) (hop : Op2 X.K r f) (ha : DE X C a ta) (hb : DE X C b tb) (hm : behindInMarks op b = false) : DE X C (.Compare a [op] [b] pos) (e2 f ta tb) :=
  PEweak (pe_cmpR ho ha hb hm) fun σ H Q h => rd_op hop h
/-- a bool's data as a test -/
def tb1 (t : Env → Rs PyData) : Env → Rs Bool := fun env => (t env).bind fun d e => match d with | .bool b => .ok b e | _ => .no
theorem rd_tb {K : PySem.W.Frag} {t : Env → Rs PyData} {σ : L2.St} {H : Hp} {Q : Bool → Hp → Prop} (h : rd K C RT (tb1 t) σ H Q) : rd K C (RE K) t σ H fun x H1 => ∃ c, x = .bl c ∧ Q c H1 := by
  refine rd_one (R1 := RE K) h fun v x H ow env hv P h => ?_
  cases x with
  | bool b => cases hv; exact ⟨b, rfl, h b H ow Ext.refl rfl P⟩
  | _ => exact h.elim
theorem rdE_mono {K : PySem.W.Frag} {α β : Type} {R : Hp → Ow → β → α → Prop} {t : Env → Rs α} {σ : L2.St} {H : Hp} {Q Q' : β → Hp → Prop} (h : rd K C R t σ H Q) (q : ∀ v H, Q v H → Q' v H) : rd K C R t σ H Q' := by
  obtain ⟨env, ow, P, h⟩ := h
  exact ⟨env, ow, P, rdAt_mono h q⟩
/-- the comparison of the readings, for tests: op's reading under a weaker end -/
theorem dt_cmp {op : CmpOp} (ho : OpR X (compareOp op) r) (hop : Op2 X.K r f) (ha : DE X C a ta) (hb : DE X C b tb) (hm : behindInMarks op b = false) : DT X C (.Compare a [op] [b] pos) (tb1 (e2 f ta tb)) :=
  PTweak (pt_cmpR ho ha hb hm) fun σ H Q h => rd_op hop (rd_tb h)
theorem dt_val {e : Expr} {t : Env → Rs PyData} (h : DE X C e t) (he : ∀ whole, isTrue e X.env whole = (do let v ← whole; standAt e.pos; holding [v] (truthy v)) := by intro _; rfl) : DT X C e (tb1 t) :=
  PTweak (pt_val h he) fun σ H Q h => rd_tb h
/-- truth -/
def tru : PyData → Option Bool
  | .none => some false
  | .bool b => some b
  | .int i => some (i != 0)
  | .str y => if y.length ≤ 16777216 then some ((y.length : Int) != 0) else none
  | .list xs => some (!xs.isEmpty)
  | .tuple xs => some (!xs.isEmpty)
  | .dict _ => none
def tt1 (t : Env → Rs PyData) : Env → Rs Bool := fun env => (t env).bind fun d e => lift (tru d) e
theorem DVs.isEmpty {K : PySem.W.Frag} {H : Hp} {ow : Ow} : ∀ {ds : List PyData} {vs : List V}, DVs K H ow vs ds → vs.isEmpty = ds.isEmpty
  | [], _, h => by cases h; rfl
  | _ :: _, _, h => by
    cases h with
    | cons _ _ => rfl
theorem tru_V {K : PySem.W.Frag} {H : Hp} {ow : Ow} {v : V} {x : PyData} {k : Bool} (h : DV K H ow v x) (e : tru x = some k) : TruV K v H k := by
  cases h with
  | non => cases e; rfl
  | bl b => cases e; rfl
  | int i => cases e; rfl
  | str y =>
    have e : (if y.length ≤ 16777216 then some ((y.length : Int) != 0) else none) = some k := e
    by_cases hl : y.length ≤ 16777216
    · rw [if_pos hl] at e
      cases e
      exact ⟨by rw [sizeLine_eq]; exact hl, rfl⟩
    · rw [if_neg hl] at e; cases e
  | lst h1 h2 h3 hz =>
    cases e
    exact .inl ⟨_, .of h1, by rw [h3.isEmpty]⟩
  | tup h1 h3 hz =>
    cases e
    exact .inr (.inl ⟨_, h1.sq, by rw [h3.isEmpty]⟩)
theorem dt_truth {e : Expr} {t : Env → Rs PyData} (h : DE X C e t) (he : ∀ whole, isTrue e X.env whole = (do let v ← whole; standAt e.pos; holding [v] (truthy v)) := by intro _; rfl) : DT X C e (tt1 t) :=
  PTweak (pt_truth h he) fun σ H Q h => rd_one (R1 := RE X.K) h fun v x H ow env hv P h => by
    obtain ⟨k, e, h⟩ := rdAt_lift (v := true) h
    exact ⟨k, tru_V hv e, h k H ow Ext.refl rfl P⟩
def tNotD (t : Env → Rs Bool) : Env → Rs Bool := fun env => (t env).bind fun b e => .ok (!b) e
def tAndD (t u : Env → Rs Bool) : Env → Rs Bool := fun env => (t env).bind fun b e => if b = true then u e else .ok false e
def tOrD (t u : Env → Rs Bool) : Env → Rs Bool := fun env => (t env).bind fun b e => if b = true then .ok true e else u e
variable {t u : Env → Rs Bool} {rest : List Expr}
theorem dt_not (h : DT X C a t) : DT X C (.UnaryOp .Not a pos) (tNotD t) :=
  PTweak (pt_not h) fun σ H Q h => rd_one (R1 := RT) h fun v x H ow env hv P h => by subst hv; exact h _ H ow Ext.refl rfl P
theorem dw_and1 (h : DT X C a t) : DW X C (.BoolOp .And [a] pos) t := pw_and1 h
theorem dw_or1 (h : DT X C a t) : DW X C (.BoolOp .Or [a] pos) t := pw_or1 h
theorem dw_and (ha : DT X C a t) (hb : DW X C (.BoolOp .And (b :: rest) pos) u) : DW X C (.BoolOp .And (a :: b :: rest) pos) (tAndD t u) :=
  PWweak (pw_and ha hb) fun σ H Q ⟨env, ow, P, h⟩ => ⟨env, ow, P, rdAt_mono (rdAt_bind (R1 := RT) h) fun v H1 ⟨x, e1, ow1, X1, V1, P1, h1⟩ => by
    cases V1
    cases v with
    | true => exact iteT ⟨e1, ow1, P1, h1⟩
    | false => exact iteF (h1 false H1 ow1 Ext.refl rfl P1)⟩
theorem dw_or (ha : DT X C a t) (hb : DW X C (.BoolOp .Or (b :: rest) pos) u) : DW X C (.BoolOp .Or (a :: b :: rest) pos) (tOrD t u) :=
  PWweak (pw_or ha hb) fun σ H Q ⟨env, ow, P, h⟩ => ⟨env, ow, P, rdAt_mono (rdAt_bind (R1 := RT) h) fun v H1 ⟨x, e1, ow1, X1, V1, P1, h1⟩ => by
    cases V1
    cases v with
    | true => exact iteT (h1 true H1 ow1 Ext.refl rfl P1)
    | false => exact iteF ⟨e1, ow1, P1, h1⟩⟩
theorem dt_w {e : Expr} (h : DW X C e t) : DT X C e t := PW.pt h
/-- as values: a not, an and, an or of bools -/
def eNot (t : Env → Rs PyData) : Env → Rs PyData := fun env => (tb1 t env).bind fun b e => .ok (.bool (!b)) e
def eAnd (t u : Env → Rs PyData) : Env → Rs PyData := fun env => (tb1 t env).bind fun b e => if b = true then u e else .ok (.bool false) e
def eOr (t u : Env → Rs PyData) : Env → Rs PyData := fun env => (tb1 t env).bind fun b e => if b = true then .ok (.bool true) e else u e
theorem de_not (h : DE X C a ta) : DE X C (.UnaryOp .Not a pos) (eNot ta) :=
  PEweak (pe_not h) fun σ H Q ⟨env, ow, P, h⟩ => rd_tb ⟨env, ow, P, rdAt_mono (rdAt_bind (R1 := RT) h) fun v H1 ⟨x, e1, ow1, X1, V1, P1, h1⟩ => by
    cases V1; exact h1 _ H1 ow1 Ext.refl (.bl _) P1⟩
theorem de_one {op : BoolOp} (h : DE X C a ta) : DE X C (.BoolOp op [a] pos) ta := pe_one h
theorem de_and (ha : DE X C a ta) (hb : DE X C (.BoolOp .And (b :: rest) pos) tb) : DE X C (.BoolOp .And (a :: b :: rest) pos) (eAnd ta tb) :=
  PEweak (pe_and ha hb) fun σ H Q ⟨env, ow, P, h⟩ => rd_tb ⟨env, ow, P, rdAt_mono (rdAt_bind (R1 := RT) h) fun v H1 ⟨x, e1, ow1, X1, V1, P1, h1⟩ => by
    cases V1
    cases v with
    | true => exact iteT ⟨e1, ow1, P1, h1⟩
    | false => exact iteF (h1 _ H1 ow1 Ext.refl (.bl _) P1)⟩
theorem de_or (ha : DE X C a ta) (hb : DE X C (.BoolOp .Or (b :: rest) pos) tb) : DE X C (.BoolOp .Or (a :: b :: rest) pos) (eOr ta tb) :=
  PEweak (pe_or ha hb) fun σ H Q ⟨env, ow, P, h⟩ => rd_tb ⟨env, ow, P, rdAt_mono (rdAt_bind (R1 := RT) h) fun v H1 ⟨x, e1, ow1, X1, V1, P1, h1⟩ => by
    cases V1
    cases v with
    | true => exact iteT (h1 _ H1 ow1 Ext.refl (.bl _) P1)
    | false => exact iteF ⟨e1, ow1, P1, h1⟩⟩
def eIf {α : Type} (c : Env → Rs Bool) (t u : Env → Rs α) : Env → Rs α := fun env => (c env).bind fun b e => if b = true then t e else u e
theorem de_if {c : Expr} {tc : Env → Rs Bool} (hc : DT X C c tc) (ha : DE X C a ta) (hb : DE X C b tb) : DE X C (.IfExp c a b pos) (eIf tc ta tb) :=
  PEweak (pe_ifExp hc ha hb) fun σ H Q ⟨env, ow, P, h⟩ => ⟨env, ow, P, rdAt_mono (rdAt_bind (R1 := RT) h) fun v H1 ⟨x, e1, ow1, X1, V1, P1, h1⟩ => by
    cases V1
    cases v with
    | true => exact iteT ⟨e1, ow1, P1, h1⟩
    | false => exact iteF ⟨e1, ow1, P1, h1⟩⟩
/-- a op b op' c -/
def eChain (f g : PyData → PyData → Option PyData) (ta tb tc : Env → Rs PyData) : Env → Rs PyData := fun env =>
  (ta env).bind fun x e1 => (tb e1).bind fun y e2 => match f x y with
    | some (.bool true) => (tc e2).bind fun z e3 => lift (g y z) e3
    | some (.bool false) => .ok (.bool false) e2
    | _ => .no
variable {c : Expr} {tc : Env → Rs PyData} {g : PyData → PyData → Option PyData} {r' : R2}
theorem rd_chain {K : PySem.W.Frag} (h1 : Op2 K r f) (h2 : Op2 K r' g) {σ : L2.St} {H : Hp} {Q : VK} (h : rd K C (RE K) (eChain f g ta tb tc) σ H Q) : tChain r r' (rd K C (RE K) ta) (rd K C (RE K) tb) (rd K C (RE K) tc) σ H Q := by
  refine rd_two (R1 := RE K) (R2 := RE K) h (fun H H' ow ow' v d st x => DV.stay st x) fun v w x y H ow env hv hw P h => ?_
  cases e : f x y with
  | none => rw [e] at h; exact h.elim
  | some o =>
    rw [e] at h
    refine h1 v w x y o H ow _ hv hw e fun v' H' ow' G d => ?_
    cases o with
    | bool k =>
      cases d
      refine ⟨k, rfl, ?_⟩
      cases k with
      | false => exact iteF (h _ H' ow' G.ext (.bl _) (P.gr G))
      | true =>
        refine iteT ⟨env, ow', P.gr G, rdAt_mono (rdAt_bind (R1 := RE K) (rdAt_from G.ext h)) fun z H2 ⟨q, e2, ow2, X2, V2, P2, h3⟩ => ?_⟩
        obtain ⟨o, e3, h3⟩ := rdAt_lift (v := V.non) h3
        exact h2 w z y q o H2 ow2 Q ((hw.stay G.stay).stay X2.stay) V2 e3 fun v' H' ow' g d => h3 v' H' ow' g.ext d (P2.gr g)
    | _ => exact h.elim
theorem de_chain {op op' : CmpOp} (ho : OpR X (compareOp op) r) (h1 : Op2 X.K r f) (ho' : OpR X (compareOp op') r') (h2 : Op2 X.K r' g) (ha : DE X C a ta) (hb : DE X C b tb) (hc : DE X C c tc)
    (hm : lastMarks [op, op'] [b, c] = false := by with_unfolding_all rfl) : DE X C (.Compare a [op, op'] [b, c] pos) (eChain f g ta tb tc) := PEweak (pe_chain ho ho' ha hb hc hm) fun σ H Q h => rd_chain h1 h2 h
theorem dt_chain {op op' : CmpOp} (ho : OpR X (compareOp op) r) (h1 : Op2 X.K r f) (ho' : OpR X (compareOp op') r') (h2 : Op2 X.K r' g) (ha : DE X C a ta) (hb : DE X C b tb) (hc : DE X C c tc)
    (hm : lastMarks [op, op'] [b, c] = false := by with_unfolding_all rfl) : DT X C (.Compare a [op, op'] [b, c] pos) (tb1 (eChain f g ta tb tc)) := PTweak (pt_chain ho ho' ha hb hc hm) fun σ H Q h => rd_chain h1 h2 (rd_tb h)
end

/-! ### names, constants, displays -/
def slotD (env : Env) (i : Nat) : Option PyData := match env[i]? with
  | some (some (.d x)) => some x
  | _ => none
def eVar (i : Nat) : Env → Rs PyData := fun env => lift (slotD env i) env
def eC (x : PyData) : Env → Rs PyData := fun env => .ok x env
section
variable {X : Cx} {C : Cc} {pos : Pos}
theorem slot_d {K : PySem.W.Frag} {H : Hp} {ow : Ow} {σ : L2.St} {env : Env} {i : Nat} {x : PyData} (P : RpE K C H ow σ env) (e : slotD env i = some x) : ∃ v, σ[i]? = some (some v) ∧ DV K H ow v x := by
  unfold slotD at e
  split at e
  · rename_i y h
    cases e
    obtain ⟨v, fp, h1, h2, _⟩ := P.sl i _ h
    cases h2 with
    | d h => exact ⟨v, h1, h⟩
  · cases e
theorem de_var (i : Nat) {x : Str} (hN : X.N[i]? = some x := by rfl) (hv : Vis X.env.scope x := by first | exact Or.inl rfl | exact Or.inr (Or.inl rfl) | exact Or.inr (Or.inr rfl)) (hd : (x == ("__debug__" : Str)) = false := by decide)
    (hcd : (x == ("__classdict__" : Str)) = false := by decide) : DE X C (.Name x pos) (eVar i) :=
  PEweak (pe_var hN hv hd hcd) fun σ H Q ⟨env, ow, P, h⟩ => by
    obtain ⟨x, e, h⟩ := rdAt_lift (v := V.non) h
    obtain ⟨v, h1, h2⟩ := slot_d P e
    exact ⟨v, h1, h v H ow Ext.refl h2 P⟩
theorem de_c {e : Expr} {v : V} {x : PyData} (h : PE X e (tC v)) (d : ∀ H ow, DV X.K H ow v x) : DE X C e (eC x) :=
  PEweak h fun σ H Q ⟨env, ow, P, h⟩ => h v H ow Ext.refl (d H ow) P
theorem de_int {i : Int} {j} : DE X C (.Constant (.int i) j pos) (eC (.int i)) := de_c pe_int fun _ _ => .int i
theorem de_bl {b : Bool} {j} : DE X C (.Constant (.bool b) j pos) (eC (.bool b)) := de_c pe_bl fun _ _ => .bl b
theorem de_non {j} : DE X C (.Constant .none j pos) (eC .none) := de_c pe_non fun _ _ => .non
theorem de_str {x : Str} {j} : DE X C (.Constant (.str x) j pos) (eC (.str x)) := de_c pe_str fun _ _ => .str x
/-- a module's constant -/
theorem de_glob {x : Str} {v : V} {u : Value} {d : PyData} (hg : Gl X x) (hm : X.mg x = some u) (r : RelV v u) (dv : ∀ H ow, DV X.K H ow v d) (hd : (x == ("__debug__" : Str)) = false := by decide) : DE X C (.Name x pos) (eC d) := de_c (pe_glob hg hm r hd) dv
/-! displays -/
def aNil : Env → Rs (List PyData) := fun env => .ok [] env
def aCons (t : Env → Rs PyData) (u : Env → Rs (List PyData)) : Env → Rs (List PyData) := fun env => (t env).bind fun x e1 => (u e1).bind fun xs e2 => .ok (x :: xs) e2
theorem da_nil : DA X C [] aNil := PAweak pa_nil fun σ H Q ⟨env, ow, P, h⟩ => h [] H ow Ext.refl .nil P
theorem da_cons {e : Expr} {es : List Expr} {t : Env → Rs PyData} {u : Env → Rs (List PyData)} (h : DE X C e t) (k : DA X C es u) (hs : starEach (e :: es) X.env = (false, eval e X.env) :: starEach es X.env := by rfl) : DA X C (e :: es) (aCons t u) :=
  PAweak (pa_cons h k hs) fun σ H Q h => rd_two (R1 := RE X.K) (R2 := RA X.K) h (fun H H' ow ow' v d st x => DV.stay st x) fun v w x y H ow env hv hw P h => h _ H ow Ext.refl (.cons hv hw) P
def eTup (t : Env → Rs (List PyData)) : Env → Rs PyData := fun env => (t env).bind fun xs e => if xs.length ≤ 16777216 then .ok (.tuple xs) e else .no
def eLst (t : Env → Rs (List PyData)) : Env → Rs PyData := fun env => (t env).bind fun xs e => if xs.length ≤ 16777216 then .ok (.list xs) e else .no
theorem de_tup {es : List Expr} {j} {t : Env → Rs (List PyData)} (h : DA X C es t) : DE X C (.Tuple es j pos) (eTup t) :=
  PEweak (DLT.pe_tupZ h) fun σ H Q h => rd_one (R1 := RA X.K) h fun v x H ow env hv P h => by
    by_cases hl : x.length ≤ 16777216
    · rw [if_pos hl] at h
      refine ⟨by rw [hv.length, sizeLine_eq]; exact hl, fun zo p hd hp => ?_⟩
      exact rdAt_fin h (Gr.new hp) (.tup (.new hd) (hv.stay (Gr.new hp).stay) hl) P
    · rw [if_neg hl] at h; exact h.elim
theorem de_lst {es : List Expr} {t : Env → Rs (List PyData)} (h : DA X C es t) : DE X C (.List es pos) (eLst t) :=
  PEweak (pe_lst h) fun σ H Q h => rd_one (R1 := RA X.K) h fun v x H ow env hv P h => by
    by_cases hl : x.length ≤ 16777216
    · rw [if_pos hl] at h
      refine ⟨by rw [hv.length, sizeLine_eq]; exact hl, fun p hp => ?_⟩
      exact rdAt_fin h (Gr.new hp) (.lst upd_same off_same (hv.stay (Gr.new hp).stay) hl) P
    · rw [if_neg hl] at h; exact h.elim
/-- an owned list -/
def mLst (t : Env → Rs (List PyData)) : Env → Rs M := fun env => (t env).bind fun xs e => if xs.length ≤ 16777216 then .ok (.l xs) e else .no
theorem dm_lst {es : List Expr} {t : Env → Rs (List PyData)} (h : DA X C es t) : DM X C (.List es pos) (mLst t) :=
  PEweak (pe_lst h) fun σ H Q h => rd_one (R1 := RA X.K) h fun v x H ow env hv P h => by
    by_cases hl : x.length ≤ 16777216
    · rw [if_pos hl] at h
      refine ⟨by rw [hv.length, sizeLine_eq]; exact hl, fun p hp => ?_⟩
      exact rdAt_fin h (Gr.newG (i := C.N) hp) ⟨[p], .l upd_same (hv.stay (Gr.newG hp).stay) hl, by simp, fun q hq => by simp at hq; subst hq; exact give_same⟩ P
    · rw [if_neg hl] at h; exact h.elim
/-- data as an end -/
def mD (t : Env → Rs PyData) : Env → Rs M := fun env => (t env).bind fun x e => .ok (.d x) e
theorem dm_d {e : Expr} {t : Env → Rs PyData} (h : DE X C e t) : DM X C e (mD t) :=
  PEweak h fun σ H Q h => rd_one (R1 := RE X.K) h fun v x H ow env hv P h => h _ H ow Ext.refl ⟨[], .d hv, by simp, fun p hp => by cases hp⟩ P
/-- an owned list is let go: it is data from now on -/
def frzM : M → Option PyData
  | .d x => some x
  | .l xs => some (.list xs)
  | .scr _ => none
def eFrz (t : Env → Rs M) : Env → Rs PyData := fun env => (t env).bind fun m e => lift (frzM m) e
theorem de_frz {e : Expr} {t : Env → Rs M} (h : DM X C e t) : DE X C e (eFrz t) :=
  PEweak h fun σ H Q ⟨env, ow, P, h⟩ => ⟨env, ow, P, rdAt_mono (rdAt_bind (R1 := RM X.K C.N) h) fun v H1 ⟨m, e1, ow1, X1, ⟨fp, V1, V2, V3⟩, P1, h1⟩ => by
    obtain ⟨x, e, h1⟩ := rdAt_lift (v := V.non) h1
    cases V1 with
    | d hd => cases e; exact h1 v H1 ow1 Ext.refl hd P1
    | @l p vs ds hp hds hz =>
      cases e
      have hq : ow1 p = some C.N := V3 p (by simp)
      have st : Stay H1 ow1 H1 (off ow1 p) := fun a o h h' => ⟨h, by
        by_cases ha : a = p
        · rw [ha]; exact off_same
        · rw [off_ne ha]; exact h'⟩
      refine h1 _ H1 (off ow1 p) (fun a o ha hf => ⟨ha, ?_⟩) (.lst hp off_same (hds.stay st) hz) ⟨fun i m hm => ?_, P1.io, P1.len, P1.lenS⟩
      · by_cases hap : a = p
        · subst hap
          exact absurd (hf _ hq) (Nat.lt_irrefl _)
        · exact off_ne hap
      · obtain ⟨w, fp, a1, a2, a3, a4⟩ := P1.sl i m hm
        refine ⟨w, fp, a1, a2.stay st fun _ _ => rfl, a3, fun q hq' => ?_⟩
        have hne : q ≠ p := fun z => by
          have z1 := a4 q hq'
          rw [z, hq] at z1
          have z2 : C.N = i := Option.some.inj z1
          have hi := (List.getElem?_eq_some_iff.mp hm).1
          have := P1.len
          omega
        rw [off_ne hne]; exact a4 q hq'
    | scr => cases e⟩
end
end DL


namespace DL
open PySem PySem.Spec PyProof.Rows L2

/-! ### the operators -/
def okM (i j : Int) : Bool := (decide (-(2 ^ 64) < i) && decide (i < 2 ^ 64)) || (decide (-(2 ^ 64) < j) && decide (j < 2 ^ 64))
def dAdd : PyData → PyData → Option PyData
  | .int i, .int j => some (.int (i + j))
  | .str a, .str b => if a.length + b.length ≤ 16777216 then some (.str (a ++ b)) else none
  | .tuple xs, .tuple ys => if xs.length + ys.length ≤ 16777216 then some (.tuple (xs ++ ys)) else none
  | .list xs, .list ys => if xs.length + ys.length ≤ 16777216 then some (.list (xs ++ ys)) else none
  | _, _ => none
def dSub : PyData → PyData → Option PyData
  | .int i, .int j => some (.int (i - j))
  | _, _ => none
def dMul : PyData → PyData → Option PyData
  | .int i, .int j => if okM i j = true then some (.int (i * j)) else none
  | .list xs, .int k => if k < 2 ^ 63 ∧ -(2 ^ 63) ≤ k ∧ xs.length * k.toNat ≤ 16777216 then some (.list (List.replicate k.toNat xs).flatten) else none
  | .tuple xs, .int k => if k ≤ 1000 ∧ -(2 ^ 63) ≤ k ∧ xs.length ≤ 1000 then some (.tuple (List.replicate k.toNat xs).flatten) else none
  | _, _ => none
def dDiv : PyData → PyData → Option PyData
  | .int i, .int j => if 0 < j ∧ j < 1073741824 then some (.int (i / j)) else none
  | _, _ => none
def dMod : PyData → PyData → Option PyData
  | .int i, .int j => if 0 < j then some (.int (i % j)) else none
  | _, _ => none
def dPow : PyData → PyData → Option PyData
  | .int i, .int j => if 0 ≤ j ∧ j ≤ 1000000 ∧ i.natAbs < 2 ^ 64 then some (.int (i ^ j.toNat)) else none
  | _, _ => none
def dShl : PyData → PyData → Option PyData
  | .int i, .int j => if 0 ≤ j ∧ j ≤ 1000000 ∧ i.natAbs < 2 ^ 64 then some (.int (i * 2 ^ j.toNat)) else none
  | _, _ => none
def dOr : PyData → PyData → Option PyData
  | .int i, .int j => some (.int (Builtin.bitOr i j))
  | _, _ => none
def dAnd : PyData → PyData → Option PyData
  | .int i, .int j => some (.int (Builtin.bitAnd i j))
  | _, _ => none
/-- ints of data -/
def intsOf : List PyData → Option (List Int)
  | [] => some []
  | .int i :: r => (intsOf r).map (i :: ·)
  | _ => none
theorem intsOf_eq : ∀ {ds : List PyData} {ns : List Int}, intsOf ds = some ns → ds = ns.map PyData.int
  | [], ns, e => by cases e; rfl
  | d :: ds, ns, e => by
    cases d with
    | int i =>
      cases h : intsOf ds with
      | none => simp [intsOf, h] at e
      | some ms =>
        simp [intsOf, h] at e
        subst e
        rw [intsOf_eq h]
        rfl
    | _ => cases e
@[simp] theorem intsOf_map : ∀ (ns : List Int), intsOf (ns.map PyData.int) = some ns
  | [] => rfl
  | n :: ns => by simp [intsOf, intsOf_map ns]
def dCmpI (p : Int → Int → Bool) : PyData → PyData → Option PyData
  | .int i, .int j => some (.bool (p i j))
  | _, _ => none
def dLt : PyData → PyData → Option PyData
  | .int i, .int j => some (.bool (decide (i < j)))
  | .tuple xs, .tuple ys => (intsOf xs).bind fun ns => (intsOf ys).map fun ms => .bool (HT.lexLt ns ms)
  | _, _ => none
def dLe := dCmpI fun i j => decide (i ≤ j)
def dGt := dCmpI fun i j => decide (j < i)
def dGe := dCmpI fun i j => decide (j ≤ i)
def dEq (x y : PyData) : Option PyData := if SeqAt.shaped x = true ∧ SeqAt.shaped y = true then some (.bool (PyData.eqv x y)) else none
def dNe (x y : PyData) : Option PyData := if SeqAt.shaped x = true ∧ SeqAt.shaped y = true then some (.bool (!PyData.eqv x y)) else none
def isNon : PyData → Bool
  | .none => true
  | _ => false
def dIs : PyData → PyData → Option PyData
  | x, .none => some (.bool (isNon x))
  | .bool a, .bool b => some (.bool (decide (a = b)))
  | _, _ => none
def dIsNot : PyData → PyData → Option PyData
  | x, .none => some (.bool (!isNon x))
  | .bool a, .bool b => some (.bool (!decide (a = b)))
  | _, _ => none
def dIn (x y : PyData) : Option PyData :=
  if SeqAt.shaped x = true ∧ SeqAt.shaped y = true then match y with
    | .list ds => some (.bool (ds.any fun z => PyData.eqv z x))
    | .tuple ds => some (.bool (ds.any fun z => PyData.eqv z x))
    | _ => none
  else none
def dNotIn (x y : PyData) : Option PyData :=
  if SeqAt.shaped x = true ∧ SeqAt.shaped y = true then match y with
    | .list ds => some (.bool (!ds.any fun z => PyData.eqv z x))
    | .tuple ds => some (.bool (!ds.any fun z => PyData.eqv z x))
    | _ => none
  else none
def dNeg : PyData → Option PyData
  | .int i => some (.int (-i))
  | _ => none

section
variable {X : Cx} {K : PySem.W.Frag}
def rAddAll (K : PySem.W.Frag) : R2 := fun x y H Q => rI0 (fun i j => .int (i + j)) x y H Q ∨ (∃ i j, x = .str i ∧ y = .str j ∧ i.length + j.length ≤ sizeLine ∧ Q (.str (i ++ j)) H) ∨ DLT.zCat K x y H Q ∨ rCat x y H Q
theorem op_addAll : OpR X (binaryOp .Add) (rAddAll X.K) := op_add.or (op_add_str.or (DLT.op_catZ.or op_cat))
theorem if_some {α : Type} {p : Prop} [Decidable p] {a o : α} (h : (if p then some a else none) = some o) : p ∧ a = o := by
  by_cases hp : p
  · rw [if_pos hp] at h; exact ⟨hp, Option.some.inj h⟩
  · rw [if_neg hp] at h; cases h
theorem o2_add : Op2 K (rAddAll K) dAdd := by
  intro v w x y o H ow Q hv hw e q
  cases hv with
  | int i => cases hw with
    | int j => cases e; exact .inl ⟨i, j, rfl, rfl, q _ _ _ .refl (.int _)⟩
    | _ => cases e
  | str a => cases hw with
    | str b =>
      obtain ⟨h, rfl⟩ := if_some e
      exact .inr (.inl ⟨a, b, rfl, rfl, by rw [sizeLine_eq]; exact h, q _ _ _ .refl (.str _)⟩)
    | _ => cases e
  | @lst a xs ds h1 h2 h3 hz => cases hw with
    | @lst b ys es k1 k2 k3 hz' =>
      obtain ⟨h, rfl⟩ := if_some e
      exact .inr (.inr (.inr ⟨a, b, xs, ys, rfl, rfl, h1, k1, by rw [sizeLine_eq, h3.length, k3.length]; exact h, fun p hp => q _ _ _ (.new hp) (.lst upd_same off_same ((h3.append k3).stay (Gr.new hp).stay) (by rw [List.length_append]; exact h))⟩))
    | _ => cases e
  | @tup a xs ds h1 h3 hz => cases hw with
    | @tup b ys es k1 k3 hz' =>
      obtain ⟨h, rfl⟩ := if_some e
      refine .inr (.inr (.inl ⟨a, b, xs, ys, rfl, rfl, h1.sq, k1.sq, by rw [sizeLine_eq, h3.length, k3.length]; exact h, fun hx => ?_, fun _ hy => ?_, fun _ _ zo p hd hp => q _ _ _ (.new hp) (.tup (.new hd) ((h3.append k3).stay (Gr.new hp).stay) (by rw [List.length_append]; exact h))⟩))
      · subst hx; cases h3; exact q _ _ _ .refl (.tup k1 k3 hz')
      · subst hy; cases k3; rw [List.append_nil] at q; exact q _ _ _ .refl (.tup h1 h3 hz)
    | _ => cases e
  | _ => cases e
theorem o2_sub : Op2 K (rI0 fun i j => .int (i - j)) dSub := by
  intro v w x y o H ow Q hv hw e q
  cases hv with
  | int i => cases hw with
    | int j => cases e; exact ⟨i, j, rfl, rfl, q _ _ _ .refl (.int _)⟩
    | _ => cases e
  | _ => cases e
def rMulAll (K : PySem.W.Frag) : R2 := fun x y H Q => rI CMul (fun i j => .int (i * j)) x y H Q ∨ rRep x y H Q ∨ DLT.zRep K x y H Q
theorem op_mulAll : OpR X (binaryOp .Mult) (rMulAll X.K) := op_mul.or (op_rep.or DLT.op_repZ)
theorem DVs.flat {H : Hp} {ow : Ow} {ds : List PyData} {vs : List V} (h : DVs K H ow vs ds) : ∀ n, DVs K H ow (List.replicate n vs).flatten (List.replicate n ds).flatten
  | 0 => .nil
  | n + 1 => by
    rw [List.replicate_succ, List.replicate_succ, List.flatten_cons, List.flatten_cons]
    exact h.append (h.flat n)
theorem o2_mul : Op2 K (rMulAll K) dMul := by
  intro v w x y o H ow Q hv hw e q
  cases hv with
  | int i => cases hw with
    | int j =>
      obtain ⟨h, rfl⟩ := if_some e
      refine .inl ⟨i, j, rfl, rfl, ?_, q _ _ _ .refl (.int _)⟩
      unfold okM at h
      simpa [CMul] using h
    | _ => cases e
  | @lst a xs ds h1 h2 h3 hz => cases hw with
    | int k =>
      obtain ⟨h, rfl⟩ := if_some e
      exact .inr <| .inl ⟨a, k, xs, rfl, rfl, h1, h.2.1, h.1, by rw [sizeLine_eq, h3.length]; exact h.2.2, fun p hp => q _ _ _ (.new hp) (.lst upd_same off_same ((h3.flat _).stay (Gr.new hp).stay) (by rw [List.length_flatten, List.map_replicate, List.sum_replicate_nat, Nat.mul_comm]; exact h.2.2))⟩
    | _ => cases e
  | @tup a xs ds h1 h3 hz => cases hw with
    | int k =>
      obtain ⟨h, rfl⟩ := if_some e
      refine .inr <| .inr ⟨a, k, xs, rfl, rfl, h1.sq, h.2.1, h.1, by rw [h3.length]; exact h.2.2, fun hs => ?_, fun _ _ zo p hd hp => q _ _ _ (.new hp) (.tup (.new hd) ((h3.flat _).stay (Gr.new hp).stay) (by
        rw [List.length_flatten, List.map_replicate, List.sum_replicate_nat]
        have a1 : k.toNat * ds.length ≤ 1000 * 1000 := Nat.mul_le_mul (by omega) h.2.2
        omega))⟩
      rcases hs with rfl | rfl
      · cases h3
        have e0 : (List.replicate k.toNat ([] : List PyData)).flatten = [] := by simp
        rw [e0] at q
        exact q _ _ _ .refl (.tup h1 .nil hz)
      · have e0 : (List.replicate (1 : Int).toNat ds).flatten = ds := by
          show ([ds] : List (List PyData)).flatten = ds
          simp
        rw [e0] at q
        exact q _ _ _ .refl (.tup h1 h3 hz)
    | _ => cases e
  | _ => cases e
theorem o2_rI {Cn : Int → Int → Prop} {g : Int → Int → Int} {f : PyData → PyData → Option PyData} (hf : ∀ i j o, f (.int i) (.int j) = some o → Cn i j ∧ o = .int (g i j))
    (hn : ∀ x y o, f x y = some o → ∃ i j, x = .int i ∧ y = .int j) : Op2 K (rI Cn fun i j => .int (g i j)) f := by
  intro v w x y o H ow Q hv hw e q
  obtain ⟨i, j, rfl, rfl⟩ := hn x y o e
  cases hv
  cases hw
  obtain ⟨h, rfl⟩ := hf i j o e
  exact ⟨i, j, rfl, rfl, h, q _ _ _ .refl (.int _)⟩
theorem o2_rI0 {g : Int → Int → Int} {f : PyData → PyData → Option PyData} (hf : ∀ i j o, f (.int i) (.int j) = some o → o = .int (g i j))
    (hn : ∀ x y o, f x y = some o → ∃ i j, x = .int i ∧ y = .int j) : Op2 K (rI0 fun i j => .int (g i j)) f := by
  intro v w x y o H ow Q hv hw e q
  obtain ⟨i, j, rfl, rfl⟩ := hn x y o e
  cases hv
  cases hw
  obtain rfl := hf i j o e
  exact ⟨i, j, rfl, rfl, q _ _ _ .refl (.int _)⟩
theorem o2_rB0 {g : Int → Int → Bool} {f : PyData → PyData → Option PyData} (hf : ∀ i j o, f (.int i) (.int j) = some o → o = .bool (g i j))
    (hn : ∀ x y o, f x y = some o → ∃ i j, x = .int i ∧ y = .int j) : Op2 K (rI0 fun i j => .bl (g i j)) f := by
  intro v w x y o H ow Q hv hw e q
  obtain ⟨i, j, rfl, rfl⟩ := hn x y o e
  cases hv
  cases hw
  obtain rfl := hf i j o e
  exact ⟨i, j, rfl, rfl, q _ _ _ .refl (.bl _)⟩
theorem o2_div : Op2 K (rI CDiv fun i j => .int (i / j)) dDiv := o2_rI (fun i j o h => ⟨(if_some h).1, (if_some h).2.symm⟩) fun x y o h => by
  cases x <;> cases y <;> first | exact ⟨_, _, rfl, rfl⟩ | cases h
theorem o2_mod : Op2 K (rI (fun _ j => 0 < j) fun i j => .int (i % j)) dMod := o2_rI (fun i j o h => ⟨(if_some h).1, (if_some h).2.symm⟩) fun x y o h => by
  cases x <;> cases y <;> first | exact ⟨_, _, rfl, rfl⟩ | cases h
theorem o2_pow : Op2 K (rI CPow fun i j => .int (i ^ j.toNat)) dPow := o2_rI (fun i j o h => ⟨(if_some h).1, (if_some h).2.symm⟩) fun x y o h => by
  cases x <;> cases y <;> first | exact ⟨_, _, rfl, rfl⟩ | cases h
theorem o2_shl : Op2 K (rI CPow fun i j => .int (i * 2 ^ j.toNat)) dShl := o2_rI (fun i j o h => ⟨(if_some h).1, (if_some h).2.symm⟩) fun x y o h => by
  cases x <;> cases y <;> first | exact ⟨_, _, rfl, rfl⟩ | cases h
theorem o2_or : Op2 K (rI0 fun i j => .int (Builtin.bitOr i j)) dOr := o2_rI0 (fun i j o h => by cases h; rfl) fun x y o h => by
  cases x <;> cases y <;> first | exact ⟨_, _, rfl, rfl⟩ | cases h
theorem o2_and : Op2 K (rI0 fun i j => .int (Builtin.bitAnd i j)) dAnd := o2_rI0 (fun i j o h => by cases h; rfl) fun x y o h => by
  cases x <;> cases y <;> first | exact ⟨_, _, rfl, rfl⟩ | cases h
theorem o2_cmp (p : Int → Int → Bool) : Op2 K (rI0 fun i j => .bl (p i j)) (dCmpI p) := o2_rB0 (fun i j o h => by cases h; rfl) fun x y o h => by
  cases x <;> cases y <;> first | exact ⟨_, _, rfl, rfl⟩ | cases h
def rLtA (K : PySem.W.Frag) : R2 := fun x y H Q => rI0 (fun i j => .bl (decide (i < j))) x y H Q ∨ rLtT K x y H Q
theorem op_ltA (hu : X.A.units + 65 < cLine) : OpR X (compareOp .Lt) (rLtA X.K) := op_lt.or (op_ltT (by omega))
theorem o2_lt : Op2 K (rLtA K) dLt := by
  intro v w x y o H ow Q hv hw e q
  cases hv with
  | int i => cases hw with
    | int j => cases e; exact .inl ⟨i, j, rfl, rfl, q _ _ _ .refl (.bl _)⟩
    | _ => cases e
  | @tup a xs ds h1 h3 hz => cases hw with
    | @tup b ys es k1 k3 hz' =>
      cases hn : intsOf ds with
      | none => simp [dLt, hn] at e
      | some ns =>
        cases hm : intsOf es with
        | none => simp [dLt, hn, hm] at e
        | some ms =>
          simp only [dLt, hn, hm, Option.bind_some, Option.map_some] at e
          cases e
          have e1 := intsOf_eq hn
          have e2 := intsOf_eq hm
          subst e1
          subst e2
          have f1 := h3.ints
          have f2 := k3.ints
          subst f1
          subst f2
          exact .inr ⟨a, b, ns, ms, rfl, rfl, h1.sq, k1.sq, q _ _ _ .refl (.bl _)⟩
    | _ => cases e
  | _ => cases e
theorem o2_le : Op2 K (rI0 fun i j => .bl (decide (i ≤ j))) dLe := o2_cmp _
theorem o2_gt : Op2 K (rI0 fun i j => .bl (decide (j < i))) dGt := o2_cmp _
theorem o2_ge : Op2 K (rI0 fun i j => .bl (decide (j ≤ i))) dGe := o2_cmp _
theorem o2_eq : Op2 K (rEqD K) dEq := by
  intro v w x y o H ow Q hv hw e q
  obtain ⟨h, rfl⟩ := if_some e
  exact ⟨x, y, hv.dp, hw.dp, h.1, h.2, q _ _ _ .refl (.bl _)⟩
theorem o2_ne : Op2 K (rNeD K) dNe := by
  intro v w x y o H ow Q hv hw e q
  obtain ⟨h, rfl⟩ := if_some e
  exact ⟨x, y, hv.dp, hw.dp, h.1, h.2, q _ _ _ .refl (.bl _)⟩
def rIsAll : R2 := fun x y H Q => (y = .non ∧ Q (.bl (decide (x = .non))) H) ∨ ∃ a b : Bool, x = .bl a ∧ y = .bl b ∧ Q (.bl (decide (a = b))) H
def rIsNotAll : R2 := fun x y H Q => (y = .non ∧ Q (.bl (!decide (x = .non))) H) ∨ ∃ a b : Bool, x = .bl a ∧ y = .bl b ∧ Q (.bl (!decide (a = b))) H
theorem op_isAll : OpR X (compareOp .Is) rIsAll := op_isN.or op_isBl
theorem op_isNotAll : OpR X (compareOp .IsNot) rIsNotAll := op_notN.or op_notBl
theorem isNon_V {H : Hp} {ow : Ow} {v : V} {x : PyData} (h : DV K H ow v x) : decide (v = .non) = isNon x := by
  cases h <;> rfl
theorem o2_is : Op2 K rIsAll dIs := by
  intro v w x y o H ow Q hv hw e q
  cases hw with
  | non =>
    have e' : o = .bool (isNon x) := by cases x <;> (cases e; rfl)
    subst e'
    exact .inl ⟨rfl, by rw [isNon_V hv]; exact q _ _ _ .refl (.bl _)⟩
  | bl b => cases hv with
    | bl a => cases e; exact .inr ⟨a, b, rfl, rfl, q _ _ _ .refl (.bl _)⟩
    | _ => cases e
  | _ => cases x <;> cases e
theorem o2_isNot : Op2 K rIsNotAll dIsNot := by
  intro v w x y o H ow Q hv hw e q
  cases hw with
  | non =>
    have e' : o = .bool (!isNon x) := by cases x <;> (cases e; rfl)
    subst e'
    exact .inl ⟨rfl, by rw [isNon_V hv]; exact q _ _ _ .refl (.bl _)⟩
  | bl b => cases hv with
    | bl a => cases e; exact .inr ⟨a, b, rfl, rfl, q _ _ _ .refl (.bl _)⟩
    | _ => cases e
  | _ => cases x <;> cases e
/-- in, not in, of lists and tuples at any depth -/
def rInAll (K : PySem.W.Frag) : R2 := fun x y H Q => ∃ d ds, Dp K H x d ∧ (Dp K H y (.list ds) ∨ Dp K H y (.tuple ds)) ∧ SeqAt.shaped d = true ∧ SeqAt.shaped (.list ds) = true ∧ Q (.bl (ds.any fun z => PyData.eqv z d)) H
def rNotInAll (K : PySem.W.Frag) : R2 := fun x y H Q => ∃ d ds, Dp K H x d ∧ (Dp K H y (.list ds) ∨ Dp K H y (.tuple ds)) ∧ SeqAt.shaped d = true ∧ SeqAt.shaped (.list ds) = true ∧ Q (.bl (!ds.any fun z => PyData.eqv z d)) H
theorem op_inAll (hu : X.A.units + 65 < cLine) : OpR X (compareOp .In) (rInAll X.K) := by
  intro pins s σ H x y v u Q I rx ry h
  obtain ⟨d, ds, hd, he, sd, se, q⟩ := h
  obtain ⟨as, r1⟩ := Dp.reads I d x v hd rx
  rcases he with he | he
  · obtain ⟨bs, r2⟩ := Dp.reads I (.list ds) y u he ry
    exact SeqAt.in_list_reads r2 r1 (SeqAt.canLay_of_shaped se) (SeqAt.canLay_of_shaped sd) (room_in_shaped sd hu) ⟨.bl _, H, I, rfl, q⟩
  · obtain ⟨bs, r2⟩ := Dp.reads I (.tuple ds) y u he ry
    exact SeqAt.in_tuple_reads r2 r1 (SeqAt.canLay_of_shaped se) (SeqAt.canLay_of_shaped sd) (room_in_shaped sd hu) ⟨.bl _, H, I, rfl, q⟩
theorem op_notInAll (hu : X.A.units + 65 < cLine) : OpR X (compareOp .NotIn) (rNotInAll X.K) := by
  intro pins s σ H x y v u Q I rx ry h
  obtain ⟨d, ds, hd, he, sd, se, q⟩ := h
  obtain ⟨as, r1⟩ := Dp.reads I d x v hd rx
  rcases he with he | he
  · obtain ⟨bs, r2⟩ := Dp.reads I (.list ds) y u he ry
    exact SeqAt.notIn_list_reads r2 r1 (SeqAt.canLay_of_shaped se) (SeqAt.canLay_of_shaped sd) (room_in_shaped sd hu) ⟨.bl _, H, I, rfl, q⟩
  · obtain ⟨bs, r2⟩ := Dp.reads I (.tuple ds) y u he ry
    exact SeqAt.notIn_tuple_reads r2 r1 (SeqAt.canLay_of_shaped se) (SeqAt.canLay_of_shaped sd) (room_in_shaped sd hu) ⟨.bl _, H, I, rfl, q⟩
theorem shaped_tl (ds : List PyData) : SeqAt.shaped (.tuple ds) = SeqAt.shaped (.list ds) := rfl
theorem o2_in : Op2 K (rInAll K) dIn := by
  intro v w x y o H ow Q hv hw e q
  unfold dIn at e
  split at e
  · rename_i h
    cases y with
    | list ds => cases e; exact ⟨x, ds, hv.dp, .inl hw.dp, h.1, h.2, q _ _ _ .refl (.bl _)⟩
    | tuple ds => cases e; exact ⟨x, ds, hv.dp, .inr hw.dp, h.1, (shaped_tl ds).symm.trans h.2, q _ _ _ .refl (.bl _)⟩
    | _ => cases e
  · cases e
theorem o2_notIn : Op2 K (rNotInAll K) dNotIn := by
  intro v w x y o H ow Q hv hw e q
  unfold dNotIn at e
  split at e
  · rename_i h
    cases y with
    | list ds => cases e; exact ⟨x, ds, hv.dp, .inl hw.dp, h.1, h.2, q _ _ _ .refl (.bl _)⟩
    | tuple ds => cases e; exact ⟨x, ds, hv.dp, .inr hw.dp, h.1, (shaped_tl ds).symm.trans h.2, q _ _ _ .refl (.bl _)⟩
    | _ => cases e
  · cases e
variable {C : Cc} {a b : Expr} {pos : Pos} {ta tb : Env → Rs PyData}
theorem de_neg (ha : DE X C a ta) : DE X C (.UnaryOp .USub a pos) (e1 dNeg ta) :=
  PEweak (pe_un un_neg ha) fun σ H Q h => rd_one (R1 := RE X.K) h fun v x H ow env hv P h => by
    obtain ⟨o, e, h⟩ := rdAt_lift (v := V.non) h
    cases x with
    | int i => cases hv; cases e; exact ⟨i, rfl, h _ _ _ Ext.refl (.int _) P⟩
    | _ => cases e

/-! ### calls of built-ins -/
theorem CallR.or {f : Value} {r r' : List V → Hp → VK → Prop} (h : CallR X f r) (h' : CallR X f r') : CallR X f (fun xs H Q => r xs H Q ∨ r' xs H Q) := by
  intro pins s σ H xs us Q I rv q
  rcases q with q | q
  · exact h pins s σ H xs us Q I rv q
  · exact h' pins s σ H xs us Q I rv q
def OpB (K : PySem.W.Frag) (r : List V → Hp → VK → Prop) (f : List PyData → Option PyData) : Prop :=
  ∀ vs xs o H ow (Q : VK), DVs K H ow vs xs → f xs = some o → (∀ v' H' ow', Gr H ow H' ow' → DV K H' ow' v' o → Q v' H') → r vs H Q
def eB (f : List PyData → Option PyData) (t : Env → Rs (List PyData)) : Env → Rs PyData := fun env => (t env).bind fun xs e => lift (f xs) e
theorem rd_B {r : List V → Hp → VK → Prop} {f : List PyData → Option PyData} (hf : OpB K r f) {t : Env → Rs (List PyData)} {σ : L2.St} {H : Hp} {Q : VK} (h : rd K C (RE K) (eB f t) σ H Q) : tCB r (rd K C (RA K) t) σ H Q :=
  rd_one (R1 := RA K) h fun v x H ow env hv P h => by
    obtain ⟨o, e, h⟩ := rdAt_lift (v := V.non) h
    exact hf v x o H ow Q hv e fun v' H' ow' g d => h v' H' ow' g.ext d (P.gr g)
theorem de_B {x : Str} {id : String} {e : Expr} {es : List Expr} {p : Pos} {r : List V → Hp → VK → Prop} {f : List PyData → Option PyData} {t : Env → Rs (List PyData)} (hc : CallR X (.builtin id) r) (hf : OpB X.K r f) (hg : Gl X x) (hm : X.mg x = none) (hv : bootBuiltins x = some (.builtin id)) (ha : DA X C (e :: es) t)
    (hn : x ≠ "__name__" := by decide) (hdb : (x == ("__debug__" : Str)) = false := by decide)
    (he : starEach (e :: es) X.env = (false, eval e X.env) :: starEach es X.env := by rfl) (hpl : (backTo pos (starEach es X.env)).any (·.1) = false := by rfl) : DE X C (.Call (.Name x p) (e :: es) [] pos) (eB f t) :=
  PEweak (pe_callB hc hg hm hv ha hn hdb he hpl) fun σ H Q h => rd_B hf h
theorem de_Ty {x : Str} {T : String} {e : Expr} {es : List Expr} {p : Pos} {r : List V → Hp → VK → Prop} {f : List PyData → Option PyData} {t : Env → Rs (List PyData)} (hc : CallR X (.type T) r) (hf : OpB X.K r f) (hg : Gl X x) (hm : X.mg x = none) (hv : bootBuiltins x = some (.type T)) (ha : DA X C (e :: es) t)
    (hn : x ≠ "__name__" := by decide) (hdb : (x == ("__debug__" : Str)) = false := by decide)
    (he : starEach (e :: es) X.env = (false, eval e X.env) :: starEach es X.env := by rfl) (hpl : (backTo pos (starEach es X.env)).any (·.1) = false := by rfl) : DE X C (.Call (.Name x p) (e :: es) [] pos) (eB f t) :=
  PEweak (pe_callTy hc hg hm hv ha hn hdb he hpl) fun σ H Q h => rd_B hf h
def bLen : List PyData → Option PyData
  | [.list xs] => some (.int xs.length)
  | [.tuple xs] => some (.int xs.length)
  | [.str x] => if x.length ≤ 16777216 then some (.int x.length) else none
  | _ => none
theorem DVs.one {H : Hp} {ow : Ow} {x : PyData} {vs : List V} (h : DVs K H ow vs [x]) : ∃ v, vs = [v] ∧ DV K H ow v x := by
  cases h with
  | cons a b => cases b; exact ⟨_, rfl, a⟩
theorem DVs.two {H : Hp} {ow : Ow} {x y : PyData} {vs : List V} (h : DVs K H ow vs [x, y]) : ∃ v w, vs = [v, w] ∧ DV K H ow v x ∧ DV K H ow w y := by
  cases h with
  | cons a b => obtain ⟨w, rfl, c⟩ := b.one; exact ⟨_, _, rfl, a, c⟩
theorem ob_len : OpB K (fun xs H Q => ∃ x n, xs = [x] ∧ LenV K x H n ∧ Q (.int n) H) bLen := by
  intro vs xs o H ow Q h e q
  unfold bLen at e
  split at e
  · obtain ⟨v, rfl, d⟩ := h.one
    cases d with
    | lst h1 h2 h3 hz => cases e; exact ⟨_, _, rfl, .inl ⟨_, .of h1, rfl⟩, by rw [h3.length]; exact q _ _ _ .refl (.int _)⟩
  · obtain ⟨v, rfl, d⟩ := h.one
    cases d with
    | tup h1 h3 hz => cases e; exact ⟨_, _, rfl, .inr ⟨_, h1.sq, rfl⟩, by rw [h3.length]; exact q _ _ _ .refl (.int _)⟩
  · obtain ⟨v, rfl, d⟩ := h.one
    obtain ⟨hl, rfl⟩ := if_some e
    cases d with
    | str x => exact ⟨_, _, rfl, ⟨by rw [sizeLine_eq]; exact hl, rfl⟩, q _ _ _ .refl (.int _)⟩
  · cases e
def bAbs : List PyData → Option PyData
  | [.int i] => some (.int (if i < 0 then -i else i))
  | _ => none
theorem ob_abs : OpB K (fun xs H Q => ∃ i, xs = [.int i] ∧ Q (.int (if i < 0 then -i else i)) H) bAbs := by
  intro vs xs o H ow Q h e q
  unfold bAbs at e
  split at e
  · obtain ⟨v, rfl, d⟩ := h.one
    cases d; cases e; exact ⟨_, rfl, q _ _ _ .refl (.int _)⟩
  · cases e
def bInt : List PyData → Option PyData
  | [.int i] => some (.int i)
  | [.bool k] => some (.int (if k then 1 else 0))
  | _ => none
theorem ob_int : OpB K (fun xs H Q => (∃ i, xs = [.int i] ∧ Q (.int i) H) ∨ ∃ k, xs = [.bl k] ∧ Q (.int (if k then 1 else 0)) H) bInt := by
  intro vs xs o H ow Q h e q
  unfold bInt at e
  split at e
  · obtain ⟨v, rfl, d⟩ := h.one
    cases d; cases e; exact .inl ⟨_, rfl, q _ _ _ .refl (.int _)⟩
  · obtain ⟨v, rfl, d⟩ := h.one
    cases d; cases e; exact .inr ⟨_, rfl, q _ _ _ .refl (.int _)⟩
  · cases e
def boolsOf : List PyData → Option (List Bool)
  | [] => some []
  | .bool i :: r => (boolsOf r).map (i :: ·)
  | _ => none
theorem boolsOf_eq : ∀ {ds : List PyData} {ns : List Bool}, boolsOf ds = some ns → ds = ns.map PyData.bool
  | [], ns, e => by cases e; rfl
  | d :: ds, ns, e => by
    cases d with
    | bool i =>
      cases h : boolsOf ds with
      | none => simp [boolsOf, h] at e
      | some ms =>
        simp [boolsOf, h] at e
        subst e
        rw [boolsOf_eq h]
        rfl
    | _ => cases e
@[simp] theorem boolsOf_map : ∀ (ns : List Bool), boolsOf (ns.map PyData.bool) = some ns
  | [] => rfl
  | n :: ns => by simp [boolsOf, boolsOf_map ns]
/-- items of a list or a tuple -/
def seqOf : PyData → Option (List PyData)
  | .list xs => some xs
  | .tuple xs => some xs
  | _ => none
def rSumT (K : PySem.W.Frag) : List V → Hp → VK → Prop := fun vs H Q => ∃ (a : Addr) (ns : List Int), vs = [V.ref a] ∧ SqT K H a (ns.map V.int) ∧ Q (.int ns.sum) H
theorem cr_sumT (hc : X.calm = true) : CallR X (.builtin "sum") (rSumT X.K) := by
  intro pins s σ H vs us Q I r h
  obtain ⟨a, ns, rfl, hs, q⟩ := h
  obtain ⟨its, rv, hl, _⟩ := I.tuple hs
  rw [Vals.ref1 r]
  have hi := rv.ints
  obtain ⟨xs, e⟩ := hi.allInts.items
  have hn : numsOf (intItems xs).toList = ns := by rw [← e]; exact hi.numsOf
  rw [nums_intItems] at hn
  rw [e] at hl
  have hlt : a < s.heap.objs.size := hl.lt
  refine call_sum_walkG (iter_tuple hl ?_)
  refine ⟨_, _, _, _, _, _, numAt xs, rfl, Walks.tuple (A := X.A.in1) (I.ok.hd hc) _ a (Nat.ne_of_lt hlt) (intItems xs), ⟨⟨_, Heap.get?_push_size _ rfl, rfl, rfl⟩, ?_⟩, fun b hb => ?_, (fun _ _ => intItems_at), fun h' tk t' hk => ?_⟩
  · obtain ⟨o, ho, hcl, hd⟩ := hl
    exact ⟨o, Heap.get?_push_of_some _ ho, hcl, hd⟩
  · show b < (s.heap.push _).objs.size
    rw [Heap.size_push]
    have hb' : b = s.heap.objs.size ∨ b = a := by simpa using hb
    rcases hb' with z | z
    · rw [z]; exact Nat.lt_succ_self _
    · rw [z]; exact Nat.lt_succ_of_lt hlt
  · refine ⟨.int _, H, I.kept fun b o eo => hk b o (fun hmem => ?_) (Heap.get?_push_of_some _ eo), ⟨_, rfl⟩, ?_⟩
    · have z : b = s.heap.objs.size := by simpa using hmem
      exact absurd (z ▸ Heap.lt_size eo) (Nat.lt_irrefl _)
    · have e2 : preSum (numAt xs) (intItems xs).size = ns.sum := by
        rw [show (intItems xs).size = xs.size by simp [intItems], preSum_eq, List.take_of_length_le (by simp), hn]
      rw [e2]; exact q
def bSum : List PyData → Option PyData
  | [x] => (seqOf x).bind fun ds => (intsOf ds).map fun ns => .int ns.sum
  | _ => none
theorem ob_sum : OpB K (fun vs H Q => rSum K vs H Q ∨ rSumT K vs H Q) bSum := by
  intro vs xs o H ow Q h e q
  match xs, h, e with
  | [x], h, e =>
    obtain ⟨v, rfl, d⟩ := h.one
    cases d with
    | @lst a vs ds h1 h2 h3 hz =>
      cases hn : intsOf ds with
      | none => simp [bSum, seqOf, hn] at e
      | some ns =>
        simp [bSum, seqOf, hn] at e
        subst e
        have := intsOf_eq hn
        subst this
        have := h3.ints
        subst this
        exact .inl ⟨a, ns, rfl, .of h1, q _ _ _ .refl (.int _)⟩
    | @tup a vs ds h1 h3 hz =>
      cases hn : intsOf ds with
      | none => simp [bSum, seqOf, hn] at e
      | some ns =>
        simp [bSum, seqOf, hn] at e
        subst e
        have := intsOf_eq hn
        subst this
        have := h3.ints
        subst this
        exact .inr ⟨a, ns, rfl, h1.sq, q _ _ _ .refl (.int _)⟩
    | _ => cases e
def bAll : List PyData → Option PyData
  | [.list ds] => (boolsOf ds).map fun ns => .bool (ns.all id)
  | _ => none
def bAny : List PyData → Option PyData
  | [.list ds] => (boolsOf ds).map fun ns => .bool (ns.any id)
  | _ => none
theorem ob_all : OpB K (rAll K) bAll := by
  intro vs xs o H ow Q h e q
  unfold bAll at e
  split at e
  · rename_i ds
    obtain ⟨v, rfl, d⟩ := h.one
    cases hn : boolsOf ds with
    | none => simp [hn] at e
    | some ns =>
      simp only [hn, Option.map_some] at e
      cases e
      have := boolsOf_eq hn
      subst this
      cases d with
      | lst h1 h2 h3 hz =>
        have := h3.bls
        subst this
        exact ⟨_, ns, rfl, .of h1, q _ _ _ .refl (.bl _)⟩
  · cases e
theorem ob_any : OpB K (rAny K) bAny := by
  intro vs xs o H ow Q h e q
  unfold bAny at e
  split at e
  · rename_i ds
    obtain ⟨v, rfl, d⟩ := h.one
    cases hn : boolsOf ds with
    | none => simp [hn] at e
    | some ns =>
      simp only [hn, Option.map_some] at e
      cases e
      have := boolsOf_eq hn
      subst this
      cases d with
      | lst h1 h2 h3 hz =>
        have := h3.bls
        subst this
        exact ⟨_, ns, rfl, .of h1, q _ _ _ .refl (.bl _)⟩
  · cases e
/-- tuple(x), list(x) of lists and tuples -/
def bTup : List PyData → Option PyData
  | [.list ds] => some (.tuple ds)
  | [.tuple ds] => some (.tuple ds)
  | _ => none
theorem ob_tup : OpB K (DLT.zTupOf K) bTup := by
  intro vs xs o H ow Q h e q
  unfold bTup at e
  split at e
  · obtain ⟨v, rfl, d⟩ := h.one
    cases e
    cases d with
    | lst h1 h2 h3 hz => exact ⟨_, _, rfl, .inl ⟨.of h1, fun zo l hd hl => q _ _ _ (.new hl) (.tup (.new hd) (h3.stay (Gr.new hl).stay) hz)⟩⟩
  · obtain ⟨v, rfl, d⟩ := h.one
    cases e
    cases d with
    | tup h1 h3 hz => exact ⟨_, _, rfl, .inr ⟨h1.sq, q _ _ _ .refl (.tup h1 h3 hz)⟩⟩
  · cases e
def bList : List PyData → Option PyData
  | [.list ds] => some (.list ds)
  | [.tuple ds] => some (.list ds)
  | _ => none
theorem ob_list : OpB K (fun xs H Q => ∃ p ys, xs = [.ref p] ∧ (SqL K H p ys ∨ SqT K H p ys) ∧ ∀ l, H l = none → Q (.ref l) (upd H l (.lst ys))) bList := by
  intro vs xs o H ow Q h e q
  unfold bList at e
  split at e
  · obtain ⟨v, rfl, d⟩ := h.one
    cases e
    cases d with
    | lst h1 h2 h3 hz => exact ⟨_, _, rfl, .inl (.of h1), fun l hl => q _ _ _ (.new hl) (.lst upd_same off_same (h3.stay (Gr.new hl).stay) hz)⟩
  · obtain ⟨v, rfl, d⟩ := h.one
    cases e
    cases d with
    | tup h1 h3 hz => exact ⟨_, _, rfl, .inr h1.sq, fun l hl => q _ _ _ (.new hl) (.lst upd_same off_same (h3.stay (Gr.new hl).stay) hz)⟩
  · cases e
/-- an owned list from list(x), or from any built-in that hands back a new list -/
def mList (t : Env → Rs (List PyData)) : Env → Rs M := fun env => (t env).bind fun xs e => match xs with
  | [.list ds] => .ok (.l ds) e
  | [.tuple ds] => .ok (.l ds) e
  | _ => .no
theorem dm_list {e : Expr} {es : List Expr} {p : Pos} {t : Env → Rs (List PyData)} (hg : Gl X "list") (hm : X.mg "list" = none) (hv : bootBuiltins "list" = some (.type "list")) (ha : DA X C (e :: es) t)
    (he : starEach (e :: es) X.env = (false, eval e X.env) :: starEach es X.env := by rfl) (hpl : (backTo pos (starEach es X.env)).any (·.1) = false := by rfl) : DM X C (.Call (.Name "list" p) (e :: es) [] pos) (mList t) :=
  PEweak (pe_callTy call_list_of hg hm hv ha (by decide) (by decide) he hpl) fun σ H Q h => rd_one (R1 := RA X.K) h fun v x H ow env hv P h => by
    match x, h with
    | [.list ds], h =>
      obtain ⟨w, rfl, d⟩ := hv.one
      cases d with
      | lst h1 h2 h3 hz =>
        exact ⟨_, _, rfl, .inl (.of h1), fun l hl => rdAt_fin h (Gr.newG (i := C.N) hl) ⟨[l], .l upd_same (h3.stay (Gr.newG hl).stay) hz, by simp, fun q hq => by simp at hq; subst hq; exact give_same⟩ P⟩
    | [.tuple ds], h =>
      obtain ⟨w, rfl, d⟩ := hv.one
      cases d with
      | tup h1 h3 hz =>
        exact ⟨_, _, rfl, .inr h1.sq, fun l hl => rdAt_fin h (Gr.newG (i := C.N) hl) ⟨[l], .l upd_same (h3.stay (Gr.newG hl).stay) hz, by simp, fun q hq => by simp at hq; subst hq; exact give_same⟩ P⟩
    | [], h => exact h.elim
    | [.none], h => exact h.elim
    | [.bool _], h => exact h.elim
    | [.int _], h => exact h.elim
    | [.str _], h => exact h.elim
    | [.dict _], h => exact h.elim
    | x :: y :: r, h => cases x <;> exact False.elim h
/-- list(script) -/
def slotScr (env : Env) (i : Nat) : Option (List Int) := match env[i]? with
  | some (some (.scr ns)) => some ns
  | _ => none
def eListScr (i : Nat) : Env → Rs PyData := fun env => lift ((slotScr env i).map fun ns => .list (ns.map .int)) env
theorem slot_scr {H : Hp} {ow : Ow} {σ : L2.St} {env : Env} {i : Nat} {ns : List Int} (P : RpE K C H ow σ env) (e : slotScr env i = some ns) : ∃ a, σ[i]? = some (some (.ref a)) ∧ SqL K H a (ns.map V.int) ∧ ns.length ≤ 16777216 := by
  unfold slotScr at e
  split at e
  · rename_i y h
    cases e
    obtain ⟨v, fp, h1, h2, _⟩ := P.sl i _ h
    cases h2 with
    | scr hz h =>
      refine ⟨_, h1, ?_, hz⟩
      rcases h with ⟨o, h, _⟩ | ⟨h, _⟩ | h
      · exact .inl (.inr ⟨o, h⟩)
      · exact .of h
      · exact h H
  · cases e
theorem de_listScr (i : Nat) {x : Str} {p p2 : Pos} (hg : Gl X "list") (hm : X.mg "list" = none) (hv : bootBuiltins "list" = some (.type "list")) (ha : PA X [.Name x p2] (tCons (tVar i) tNil))
    (he : starEach [.Name x p2] X.env = (false, eval (.Name x p2) X.env) :: starEach [] X.env := by rfl) (hpl : (backTo pos (starEach [] X.env)).any (·.1) = false := by rfl) : DE X C (.Call (.Name "list" p) [.Name x p2] [] pos) (eListScr i) :=
  PEweak (pe_callTy call_list_of hg hm hv ha (by decide) (by decide) he hpl) fun σ H Q ⟨env, ow, P, h⟩ => by
    obtain ⟨d, e, h⟩ := rdAt_lift (v := V.non) h
    cases hn : slotScr env i with
    | none => rw [hn] at e; cases e
    | some ns =>
      rw [hn] at e
      cases e
      obtain ⟨a, h1, h2, hz⟩ := slot_scr P hn
      refine ⟨_, h1, a, _, rfl, .inl h2, fun l hl => rdAt_fin h (Gr.new hl) (.lst upd_same off_same (DVs.of_ints ns) (by rw [List.length_map]; exact hz)) P⟩
end
end DL


namespace DL
open PySem PySem.Spec PyProof.Rows L2

/-! ### slots are set -/
section
variable {K : PySem.W.Frag} {C : Cc} {H H' : Hp} {ow ow' : Ow} {σ : L2.St} {env : Env}
def IoFree (C : Cc) (i : Nat) : Prop := C.io i = none
theorem RpE.set (P : RpE K C H ow σ env) {i : Nat} {v : V} {m : M} {fp : List Addr} (h : VM K H ow v m fp) (nd : fp.Nodup) (hf : ∀ p ∈ fp, ow p = some i) (hio : IoFree C i) : RpE K C H ow (σ.set i (some v)) (env.set i (some m)) :=
  ⟨fun j m' e => by
    by_cases hj : i = j
    · subst hj
      by_cases hi : i < env.length
      · rw [List.getElem?_set_self hi] at e
        cases e
        exact ⟨v, fp, by rw [List.getElem?_set_self (by rw [P.lenS, ← P.len]; exact hi)], h, nd, hf⟩
      · rw [List.getElem?_eq_none (by simpa using hi)] at e; cases e
    · rw [List.getElem?_set_ne hj] at e ⊢
      exact P.sl j m' e,
  fun j v' e => by
    have hj : i ≠ j := fun z => by
      subst z
      rw [show C.io i = none from hio] at e
      cases e
    rw [List.getElem?_set_ne hj]
    exact P.io j v' e, by rw [List.length_set]; exact P.len, by rw [List.length_set]; exact P.lenS⟩
theorem RpE.setD (P : RpE K C H ow σ env) {i : Nat} {v : V} {d : PyData} (h : DV K H ow v d) (hio : IoFree C i) : RpE K C H ow (σ.set i (some v)) (env.set i (some (.d d))) :=
  P.set (.d h) List.nodup_nil (fun p hp => by cases hp) hio
/-- a slot forgotten -/
theorem RpE.drop (P : RpE K C H ow σ env) (i : Nat) : RpE K C H ow σ (env.set i none) :=
  ⟨fun j m' e => by
    by_cases hj : i = j
    · subst hj
      by_cases hi : i < env.length
      · rw [List.getElem?_set_self hi] at e; cases e
      · rw [List.getElem?_eq_none (by simpa using hi)] at e; cases e
    · rw [List.getElem?_set_ne hj] at e
      exact P.sl j m' e, P.io, by rw [List.length_set]; exact P.len, P.lenS⟩
def reown (ow : Ow) (a b : Nat) : Ow := fun x => if ow x = some a then some b else ow x
theorem reown_none {a b : Nat} {x : Addr} (h : ow x = none) : reown ow a b x = none := by
  unfold reown; rw [h]; rfl
theorem reown_ne {a b : Nat} {x : Addr} (h : ow x ≠ some a) : reown ow a b x = ow x := if_neg h
theorem reown_eq {a b : Nat} {x : Addr} (h : ow x = some a) : reown ow a b x = some b := if_pos h
theorem reown_stay {a b : Nat} : Stay H ow H (reown ow a b) := fun x o h h' => ⟨h, reown_none h'⟩
theorem RpE.reown (P : RpE K C H ow σ env) (b : Nat) : RpE K C H (reown ow C.N b) σ env :=
  ⟨fun j m e => by
    obtain ⟨v, fp, h1, h2, h3, h4⟩ := P.sl j m e
    refine ⟨v, fp, h1, h2.stay reown_stay fun _ _ => rfl, h3, fun p hp => ?_⟩
    have hj := (List.getElem?_eq_some_iff.mp e).1
    have := P.len
    rw [reown_ne]
    · exact h4 p hp
    · rw [h4 p hp]
      intro z
      have := Option.some.inj z
      omega, P.io, P.len, P.lenS⟩
theorem Ext.reown {N b : Nat} {H0 : Hp} {ow0 : Ow} (x : Ext N H0 ow0 H ow) : Ext N H0 ow0 H (reown ow N b) := fun a o h h' => by
  obtain ⟨p, q⟩ := x a o h h'
  refine ⟨p, (reown_ne fun z => ?_).trans q⟩
  rw [q] at z
  exact absurd (h' N z) (Nat.lt_irrefl _)
/-- a value at the end of an expression, put into a slot -/
theorem RpE.setM (P : RpE K C H ow σ env) {i : Nat} {v : V} {m : M} (h : RM K C.N H ow v m) (hio : IoFree C i) : RpE K C H (DL.reown ow C.N i) (σ.set i (some v)) (env.set i (some m)) := by
  obtain ⟨fp, h1, h2, h3⟩ := h
  exact (P.reown i).set (h1.stay reown_stay fun _ _ => rfl) h2 (fun p hp => reown_eq (h3 p hp)) hio
/-- the object of an owned list at slot i is changed -/
theorem RpE.upd (P : RpE K C H ow σ env) {i : Nat} {a : Addr} {vs' : List V} {ds' : List PyData} (hi : σ[i]? = some (some (.ref a))) (ha : ow a = some i) (hl : i < C.N) (h : DVs K H ow vs' ds') (hz : ds'.length ≤ 16777216) :
    RpE K C (upd H a (.lst vs')) ow σ (env.set i (some (.l ds'))) ∧ Ext C.N H ow (upd H a (.lst vs')) ow ∧ Stay H ow (upd H a (.lst vs')) ow := by
  have st : Stay H ow (L2.upd H a (.lst vs')) ow := fun b o hb hb' => ⟨by
    rw [upd_ne (fun z => by rw [z, ha] at hb'; cases hb')]; exact hb, hb'⟩
  refine ⟨⟨fun j m e => ?_, P.io, by rw [List.length_set]; exact P.len, P.lenS⟩, fun b o hb hb' => ⟨?_, rfl⟩, st⟩
  · by_cases hj : i = j
    · subst hj
      rw [List.getElem?_set_self (by rw [P.len]; exact hl)] at e
      cases e
      exact ⟨.ref a, [a], hi, .l upd_same (h.stay st) hz, by simp, fun p hp => by simp at hp; subst hp; exact ha⟩
    · rw [List.getElem?_set_ne hj] at e
      obtain ⟨v, fp, h1, h2, h3, h4⟩ := P.sl j m e
      refine ⟨v, fp, h1, h2.stay st fun p hp => upd_ne fun z => ?_, h3, h4⟩
      have := h4 p hp
      rw [z, ha] at this
      exact hj (Option.some.inj this)
  · refine (upd_ne fun z => ?_).trans hb
    have := hb' i (by rw [z]; exact ha)
    omega
end

/-! ### targets -/
def rdG (K : PySem.W.Frag) (C : Cc) (ts : List Nat) (g : PyData → Env → Option Env) : TG := fun v σ H Q => ∃ env ow d, RpE K C H ow σ env ∧ DV K H ow v d ∧
  match g d env with
  | some env' => ∀ σ', (∀ i, i ∉ ts → σ'[i]? = σ[i]?) → RpE K C H ow σ' env' → Q σ' H
  | none => False
def rdGs (K : PySem.W.Frag) (C : Cc) (ts : List Nat) (g : List PyData → Env → Option Env) : TGs := fun vs σ H Q => ∃ env ow ds, RpE K C H ow σ env ∧ DVs K H ow vs ds ∧
  match g ds env with
  | some env' => ∀ σ', (∀ i, i ∉ ts → σ'[i]? = σ[i]?) → RpE K C H ow σ' env' → Q σ' H
  | none => False
def DG (X : Cx) (C : Cc) (e : Expr) (ts : List Nat) (g : PyData → Env → Option Env) : Prop := PG X e (rdG X.K C ts g)
def DGs (X : Cx) (C : Cc) (es : List Expr) (ts : List Nat) (g : List PyData → Env → Option Env) : Prop := PGs X es (rdGs X.K C ts g)
theorem PGweak {X : Cx} {e : Expr} {t t' : TG} (h : PG X e t) (w : ∀ v σ H Q, t' v σ H Q → t v σ H Q) : PG X e t' := ⟨fun pins s σ H v u Q I r q => h.run pins s σ H v u Q I r (w v σ H Q q)⟩
theorem PGsweak {X : Cx} {e : List Expr} {t t' : TGs} (h : PGs X e t) (w : ∀ v σ H Q, t' v σ H Q → t v σ H Q) : PGs X e t' := ⟨fun pins s σ H v u Q I r q => h.run pins s σ H v u Q I r (w v σ H Q q)⟩
def gN (i : Nat) : PyData → Env → Option Env := fun d env => some (env.set i (some (.d d)))
def gsN : List PyData → Env → Option Env := fun ds env => match ds with | [] => some env | _ => none
def gsC (g : PyData → Env → Option Env) (gs : List PyData → Env → Option Env) : List PyData → Env → Option Env := fun ds env => match ds with | d :: r => (g d env).bind (gs r) | [] => none
def gT (n : Nat) (gs : List PyData → Env → Option Env) : PyData → Env → Option Env := fun d env => match d with | .tuple ds => if ds.length = n then gs ds env else none | _ => none
section
variable {X : Cx} {C : Cc} {pos : Pos}
theorem dg_name (i : Nat) {x : Str} (hN : X.N.Nodup) (hi : X.N[i]? = some x) (hx : Loc X.env.scope x) (hio : IoFree C i) (hf : X.fn x = true ∨ X.env.scope.names.lookup x = some .local := by first | exact .inl rfl | exact .inr rfl | assumption) : DG X C (.Name x pos) [i] (gN i) :=
  PGweak (pg_name hN hi hx hf) fun v σ H Q ⟨env, ow, d, P, hd, h⟩ => h _ (fun j hj => List.getElem?_set_ne (fun z => hj (by simp [z]))) (P.setD hd hio)
theorem dgs_nil : DGs X C [] [] gsN :=
  PGsweak pgs_nil fun vs σ H Q ⟨env, ow, ds, P, hd, h⟩ => by
    cases hd with
    | nil => exact ⟨rfl, h σ (fun _ _ => rfl) P⟩
    | cons => exact h.elim
theorem dgs_cons {e : Expr} {es : List Expr} {ts us : List Nat} {g : PyData → Env → Option Env} {gs : List PyData → Env → Option Env} (h1 : DG X C e ts g) (h2 : DGs X C es us gs)
    (hs : (assignEach (e :: es) X.env).map (·.2) = assign e X.env :: (assignEach es X.env).map (·.2) := by rfl) : DGs X C (e :: es) (ts ++ us) (gsC g gs) :=
  PGsweak (pgs_cons h1 h2 hs) fun vs σ H Q ⟨env, ow, ds, P, hd, h⟩ => by
    cases hd with
    | nil => exact h.elim
    | @cons v vs d ds hd hds =>
      refine ⟨v, vs, rfl, env, ow, d, P, hd, ?_⟩
      cases e1 : g d env with
      | none => simp only [gsC, e1, Option.bind_none] at h
      | some env1 =>
        simp only [gsC, e1, Option.bind_some] at h
        intro σ1 hσ1 P1
        refine ⟨env1, ow, ds, P1, hds, ?_⟩
        cases e2 : gs ds env1 with
        | none => rw [e2] at h; exact h
        | some env2 =>
          rw [e2] at h
          intro σ2 hσ2 P2
          exact h σ2 (fun i hi => (hσ2 i fun z => hi (by simp [z])).trans (hσ1 i fun z => hi (by simp [z]))) P2
theorem dg_tup {es : List Expr} {k n : Nat} {ts : List Nat} {gs : List PyData → Env → Option Env} (hc : X.calm = true) (h : DGs X C es ts gs)
    (hn : (assignEach es X.env).length = n := by rfl) (hst : (assignEach es X.env).findIdx? (·.1) = none := by rfl) : DG X C (.Tuple es k pos) ts (gT n gs) :=
  PGweak (pg_tup hc h hn hst) fun v σ H Q ⟨env, ow, d, P, hd, h⟩ => by
    cases hd with
    | @tup a xs ds h1 h3 hz =>
      by_cases hl : ds.length = n
      · simp only [gT, if_pos hl] at h
        exact ⟨a, xs, rfl, h1.sq, h3.length.trans hl, env, ow, ds, P, h3, h⟩
      · simp only [gT, if_neg hl] at h
    | _ => exact h.elim
end

/-! ### what is walked -/
structure Wk (K : PySem.W.Frag) (J : It) (ds : List PyData) (G : Hp → Ow → Prop) : Prop where
  st : ∀ H ow H' ow', G H ow → Stay H ow H' ow' → G H' ow'
  goes : ∀ i H ow, i < ds.length → G H ow → J.go i H
  stops : ∀ H ow, G H ow → J.stop ds.length H
  yields : ∀ i H ow x H', i < ds.length → G H ow → J.yld i H x H' → ∃ ow' d, ds[i]? = some d ∧ Gr H ow H' ow' ∧ DV K H' ow' x d
  len : ds.length ≤ 16777216
abbrev RI (K : PySem.W.Frag) : Hp → Ow → It → List PyData → Prop := fun H ow J ds => ∃ G, Wk K J ds G ∧ G H ow
def DI (X : Cx) (C : Cc) (tg e : Expr) (t : Env → Rs (List PyData)) : Prop := PI X tg e (rd X.K C (RI X.K) t)
theorem PIweak {X : Cx} {tg e : Expr} {t t' : TI} (h : PI X tg e t) (w : ∀ σ H Q, t' σ H Q → t σ H Q) : PI X tg e t' := ⟨fun pins s σ H Q I q => h.run pins s σ H Q I (w σ H Q q)⟩
def itSeq (t : Env → Rs PyData) : Env → Rs (List PyData) := fun env => (t env).bind fun d e => lift (seqOf d) e
section
variable {X : Cx} {C : Cc} {tg e : Expr} {K : PySem.W.Frag}
theorem wk_list {a : Addr} {xs : List V} {ds : List PyData} (hz : ds.length ≤ 16777216) (h : xs.length = ds.length) : Wk K (Itl K a) ds fun H ow => H a = some (.lst xs) ∧ ow a = none ∧ DVs K H ow xs ds where
  st := fun H ow H' ow' ⟨a, b, c⟩ st => let ⟨p, q⟩ := st _ _ a b; ⟨p, q, c.stay st⟩
  goes := fun i H ow hi ⟨a, b, c⟩ => ⟨xs, xs[i]'(by omega), .of a, by simp [h, hi]⟩
  stops := fun H ow ⟨a, b, c⟩ => ⟨xs, .of a, by omega⟩
  yields := fun i H ow x H' hi ⟨a, b, c⟩ ⟨e, y⟩ => by
    subst e
    obtain ⟨v, h1, h2⟩ := c.get (i := i) (d := ds[i]) (by simp)
    have := y xs (.of a)
    rw [h1] at this
    cases this
    exact ⟨ow, ds[i], by simp, .refl, h2⟩
  len := by omega
theorem wk_tup {a : Addr} {xs : List V} {ds : List PyData} (hz : ds.length ≤ 16777216) (h : xs.length = ds.length) : Wk K (Itt K a) ds fun H ow => FT K H ow a xs ∧ DVs K H ow xs ds where
  st := fun H ow H' ow' ⟨a, c⟩ st => ⟨a.stay st, c.stay st⟩
  goes := fun i H ow hi ⟨a, c⟩ => ⟨xs, xs[i]'(by omega), a.sq, by simp [h, hi]⟩
  stops := fun H ow ⟨a, c⟩ => ⟨xs, a.sq, by omega⟩
  yields := fun i H ow x H' hi ⟨a, c⟩ ⟨e, y⟩ => by
    subst e
    obtain ⟨v, h1, h2⟩ := c.get (i := i) (d := ds[i]) (by simp)
    have := y xs a.sq
    rw [h1] at this
    cases this
    exact ⟨ow, ds[i], by simp, .refl, h2⟩
  len := by omega
theorem di_seq {t : Env → Rs PyData} (h : DE X C e t) : DI X C tg e (itSeq t) := by
  refine ⟨fun pins s σ H R I ⟨env, ow, P, hw⟩ => ?_⟩
  refine thn (PE.run h pins s σ H _ I ⟨env, ow, P, rdAt_bind (R1 := RE X.K) hw⟩) fun v s1 ⟨x, H1, I1, r1, d, e1, ow1, X1, V1, P1, h1⟩ => ?_
  obtain ⟨ds, e2, h1⟩ := rdAt_lift (v := Itr 0 0) h1
  cases V1 with
  | @lst a xs ds h2 h3 h4 hl =>
    cases e2
    cases r1
    obtain ⟨its, rv, p, hz⟩ := I1.list (.of h2)
    refine wpAny_pyIter_list p.isList ?_
    refine ⟨s1.heap.objs.size, [s1.heap.objs.size], _, _, H1, rfl, I1.kept (t' := s1.toks) fun b o e => Heap.get?_push_of_some _ e, turn_list a _, ⟨_, Heap.get?_push_size _ rfl, rfl, rfl⟩, fun b hb => ?_, h1 _ H1 ow1 Ext.refl ⟨_, wk_list hl h4.length, h2, h3, h4⟩ P1⟩
    have e : b = s1.heap.objs.size := by simpa using hb
    subst e
    exact I1.fpOk (Nat.le_refl _) (I1.hok.fresh (Nat.le_refl _))
  | @tup a xs ds h2 h4 hl =>
    cases e2
    cases r1
    obtain ⟨its, rv, p, hz⟩ := I1.tuple h2.sq
    refine wpAny_pyIter_tuple (show s1.heap.IsTuple a its.toArray from p) ?_
    refine ⟨s1.heap.objs.size, [s1.heap.objs.size], _, _, H1, rfl, I1.kept (t' := s1.toks) fun b o e => Heap.get?_push_of_some _ e, turn_tuple a _, ⟨_, Heap.get?_push_size _ rfl, rfl, rfl⟩, fun b hb => ?_, h1 _ H1 ow1 Ext.refl ⟨_, wk_tup hl h4.length, h2, h4⟩ P1⟩
    have e : b = s1.heap.objs.size := by simpa using hb
    subst e
    exact I1.fpOk (Nat.le_refl _) (I1.hok.fresh (Nat.le_refl _))
  | _ => cases e2
def rangeD (lo : Int) (n : Nat) : List PyData := (List.range n).map fun (k : Nat) => .int (lo + k)
def bRange1 : List PyData → Option (List PyData)
  | [.int j] => if j ≤ 16777216 ∧ -(2 ^ 62) ≤ j then some (rangeD 0 j.toNat) else none
  | _ => none
def bRange2 : List PyData → Option (List PyData)
  | [.int i, .int j] => if j ≤ 16777216 ∧ -(2 ^ 62) ≤ j ∧ -1000 ≤ i ∧ i ≤ 16777216 ∧ j - i ≤ 16777216 then some (rangeD i (j - i).toNat) else none
  | _ => none
def itB (f : List PyData → Option (List PyData)) (t : Env → Rs (List PyData)) : Env → Rs (List PyData) := fun env => (t env).bind fun d e => lift (f d) e
theorem wk_range {lo : Int} {n : Nat} (hn : n ≤ 16777216) : Wk K (Itr lo n) (rangeD lo n) fun _ _ => True where
  st := fun _ _ _ _ _ _ => trivial
  goes := fun i H ow hi _ => by
    show i < n
    simpa [rangeD] using hi
  stops := fun H ow _ => by show n ≤ _; simp [rangeD]
  yields := fun i H ow x H' hi _ ⟨e, y⟩ => by
    subst e; subst y
    refine ⟨ow, .int (lo + i), ?_, .refl, .int _⟩
    have : i < n := by simpa [rangeD] using hi
    simp [rangeD, this]
  len := by simpa [rangeD] using hn
theorem di_range1 {a : Expr} {t : Env → Rs (List PyData)} {p pos : Pos} (hg : Gl X "range") (hm : X.mg "range" = none) (ha : DA X C [a] t) (hs : starEach [a] X.env = [(false, eval a X.env)] := by rfl) : DI X C tg (.Call (.Name "range" p) [a] [] pos) (itB bRange1 t) :=
  PIweak (pi_range1 hg hm ha hs) fun σ H Q h => rd_one (R1 := RA X.K) h fun v x H ow env hv P h => by
    obtain ⟨o, e, h⟩ := rdAt_lift (v := Itr 0 0) h
    unfold bRange1 at e
    split at e
    · obtain ⟨w, rfl, d⟩ := hv.one
      cases d
      obtain ⟨hj, rfl⟩ := if_some e
      exact ⟨_, rfl, by omega, by omega, h _ H ow Ext.refl ⟨_, wk_range (by omega), trivial⟩ P⟩
    · cases e
theorem di_range2 {a b : Expr} {t : Env → Rs (List PyData)} {p pos : Pos} (hg : Gl X "range") (hm : X.mg "range" = none) (ha : DA X C [a, b] t) (hs : starEach [a, b] X.env = [(false, eval a X.env), (false, eval b X.env)] := by rfl) (hs2 : starEach [b] X.env = [(false, eval b X.env)] := by rfl) : DI X C tg (.Call (.Name "range" p) [a, b] [] pos) (itB bRange2 t) :=
  PIweak (pi_range2 hg hm ha hs hs2) fun σ H Q h => rd_one (R1 := RA X.K) h fun v x H ow env hv P h => by
    obtain ⟨o, e, h⟩ := rdAt_lift (v := Itr 0 0) h
    unfold bRange2 at e
    split at e
    · obtain ⟨w, w', rfl, d, d'⟩ := hv.two
      cases d
      cases d'
      obtain ⟨hj, rfl⟩ := if_some e
      exact ⟨_, _, rfl, by omega, h _ H ow Ext.refl ⟨_, wk_range (by omega), trivial⟩ P⟩
    · cases e
/-- zip of two lists, of two tuples -/
def zip2 (xs ys : List PyData) : List PyData := List.zipWith (fun x y => .tuple [x, y]) xs ys
def bZip : List PyData → Option (List PyData)
  | [.list xs, .list ys] => some (zip2 xs ys)
  | [.tuple xs, .tuple ys] => some (zip2 xs ys)
  | _ => none
theorem wk_zipL {a b : Addr} {xs ys : List V} {ds es : List PyData} (hz : ds.length ≤ 16777216) (h : xs.length = ds.length) (h' : ys.length = es.length) :
    Wk K (DLT.ItzZ K a b) (zip2 ds es) fun H ow => (H a = some (.lst xs) ∧ ow a = none ∧ DVs K H ow xs ds) ∧ (H b = some (.lst ys) ∧ ow b = none ∧ DVs K H ow ys es) where
  st := fun H ow H' ow' ⟨⟨a, b, c⟩, ⟨a', b', c'⟩⟩ st => ⟨let ⟨p, q⟩ := st _ _ a b; ⟨p, q, c.stay st⟩, let ⟨p, q⟩ := st _ _ a' b'; ⟨p, q, c'.stay st⟩⟩
  goes := fun i H ow hi ⟨⟨a, b, c⟩, ⟨a', b', c'⟩⟩ => by
    have hi' : i < min ds.length es.length := by simpa [zip2] using hi
    exact ⟨xs, ys, xs[i]'(by omega), ys[i]'(by omega), .of a, .of a', by simp, by simp⟩
  stops := fun H ow ⟨⟨a, b, c⟩, ⟨a', b', c'⟩⟩ => ⟨xs, ys, .of a, .of a', by
    simp only [zip2, List.length_zipWith]
    omega⟩
  yields := fun i H ow x H' hi ⟨⟨a, b, c⟩, ⟨a', b', c'⟩⟩ ⟨T, u, w, zo, e1, e2, e3, hd, e4, e5⟩ => by
    have hi' : i < min ds.length es.length := by simpa [zip2] using hi
    subst e1; subst e3
    obtain ⟨v1, h1, h2⟩ := c.get (i := i) (d := ds[i]'(by omega)) (by simp)
    obtain ⟨v2, k1, k2⟩ := c'.get (i := i) (d := es[i]'(by omega)) (by simp)
    have t1 := e4 xs (.of a)
    have t2 := e5 ys (.of a')
    rw [h1] at t1
    rw [k1] at t2
    cases t1; cases t2
    refine ⟨off ow T, .tuple [ds[i]'(by omega), es[i]'(by omega)], ?_, Gr.new e2, .tup (.new hd) (.cons (h2.stay (Gr.new e2).stay) (.cons (k2.stay (Gr.new e2).stay) .nil)) (by simp)⟩
    simp [zip2, List.getElem?_zipWith, show i < ds.length by omega, show i < es.length by omega]
  len := by
    simp only [zip2, List.length_zipWith]
    omega
theorem wk_zipT {a b : Addr} {xs ys : List V} {ds es : List PyData} (hz : ds.length ≤ 16777216) (h : xs.length = ds.length) (h' : ys.length = es.length) :
    Wk K (DLT.ItzTZ K a b) (zip2 ds es) fun H ow => (FT K H ow a xs ∧ DVs K H ow xs ds) ∧ (FT K H ow b ys ∧ DVs K H ow ys es) where
  st := fun H ow H' ow' ⟨⟨a, c⟩, ⟨a', c'⟩⟩ st => ⟨⟨a.stay st, c.stay st⟩, ⟨a'.stay st, c'.stay st⟩⟩
  goes := fun i H ow hi ⟨⟨a, c⟩, ⟨a', c'⟩⟩ => by
    have hi' : i < min ds.length es.length := by simpa [zip2] using hi
    exact ⟨xs, ys, xs[i]'(by omega), ys[i]'(by omega), a.sq, a'.sq, by simp, by simp⟩
  stops := fun H ow ⟨⟨a, c⟩, ⟨a', c'⟩⟩ => ⟨xs, ys, a.sq, a'.sq, by
    simp only [zip2, List.length_zipWith]
    omega⟩
  yields := fun i H ow x H' hi ⟨⟨a, c⟩, ⟨a', c'⟩⟩ ⟨T, u, w, zo, e1, e2, e3, hd, e4, e5⟩ => by
    have hi' : i < min ds.length es.length := by simpa [zip2] using hi
    subst e1; subst e3
    obtain ⟨v1, h1, h2⟩ := c.get (i := i) (d := ds[i]'(by omega)) (by simp)
    obtain ⟨v2, k1, k2⟩ := c'.get (i := i) (d := es[i]'(by omega)) (by simp)
    have t1 := e4 xs a.sq
    have t2 := e5 ys a'.sq
    rw [h1] at t1
    rw [k1] at t2
    cases t1; cases t2
    refine ⟨off ow T, .tuple [ds[i]'(by omega), es[i]'(by omega)], ?_, Gr.new e2, .tup (.new hd) (.cons (h2.stay (Gr.new e2).stay) (.cons (k2.stay (Gr.new e2).stay) .nil)) (by simp)⟩
    simp [zip2, List.getElem?_zipWith, show i < ds.length by omega, show i < es.length by omega]
  len := by
    simp only [zip2, List.length_zipWith]
    omega
theorem di_zip {a b : Expr} {elts : List Expr} {kk : Nat} {tpos : Pos} {t : Env → Rs (List PyData)} {p pos : Pos} (hg : Gl X "zip") (hm : X.mg "zip" = none) (ha : DA X C [a, b] t)
    (hs : starEach [a, b] X.env = (false, eval a X.env) :: starEach [b] X.env := by rfl) (hpl : (backTo pos (starEach [b] X.env)).any (·.1) = false := by rfl) : DI X C (.Tuple elts kk tpos) (.Call (.Name "zip" p) [a, b] [] pos) (itB bZip t) :=
  PIweak (DLT.pi_zipZ hg hm ha hs hpl) fun σ H Q h => rd_one (R1 := RA X.K) h fun v x H ow env hv P h => by
    obtain ⟨o, e, h⟩ := rdAt_lift (v := Itr 0 0) h
    unfold bZip at e
    split at e
    · obtain ⟨w, w', rfl, d, d'⟩ := hv.two
      cases d with
      | @lst a xs ds h1 h2 h3 hz =>
        cases d' with
        | @lst b ys es k1 k2 k3 hz' =>
          cases e
          exact ⟨a, b, xs, ys, rfl, .inl ⟨.of h1, .of k1, h _ H ow Ext.refl ⟨_, wk_zipL hz h3.length k3.length, ⟨h1, h2, h3⟩, ⟨k1, k2, k3⟩⟩ P⟩⟩
    · obtain ⟨w, w', rfl, d, d'⟩ := hv.two
      cases d with
      | @tup a xs ds h1 h3 hz =>
        cases d' with
        | @tup b ys es k1 k3 hz' =>
          cases e
          exact ⟨a, b, xs, ys, rfl, .inr ⟨h1.sq, k1.sq, h _ H ow Ext.refl ⟨_, wk_zipT hz h3.length k3.length, ⟨h1, h3⟩, ⟨k1, k3⟩⟩ P⟩⟩
    · cases e
/-- enumerate of a list -/
def enumD (n : Nat) : List PyData → List PyData
  | [] => []
  | x :: r => .tuple [.int n, x] :: enumD (n + 1) r
theorem enumD_length : ∀ (ds : List PyData) (n : Nat), (enumD n ds).length = ds.length
  | [], _ => rfl
  | _ :: r, n => by simp [enumD, enumD_length r]
theorem enumD_get : ∀ (ds : List PyData) (n i : Nat), (enumD n ds)[i]? = ds[i]?.map fun x => .tuple [.int ((n + i : Nat) : Int), x]
  | [], _, _ => by simp [enumD]
  | x :: r, n, 0 => by simp [enumD]
  | x :: r, n, i + 1 => by
    simp only [enumD, List.getElem?_cons_succ]
    rw [enumD_get r (n + 1) i]
    rw [show n + 1 + i = n + (i + 1) by omega]
def bEnumL : List PyData → Option (List PyData)
  | [.list xs] => some (enumD 0 xs)
  | _ => none
theorem wk_enumL {a : Addr} {xs : List V} {ds : List PyData} (hz : ds.length ≤ 16777216) (h : xs.length = ds.length) : Wk K (DLT.IteZ K a) (enumD 0 ds) fun H ow => H a = some (.lst xs) ∧ ow a = none ∧ DVs K H ow xs ds where
  st := fun H ow H' ow' ⟨a, b, c⟩ st => let ⟨p, q⟩ := st _ _ a b; ⟨p, q, c.stay st⟩
  goes := fun i H ow hi ⟨a, b, c⟩ => by
    rw [enumD_length] at hi
    exact ⟨xs, xs[i]'(by omega), .of a, by simp [h, hi]⟩
  stops := fun H ow ⟨a, b, c⟩ => ⟨xs, .of a, by rw [enumD_length]; omega⟩
  yields := fun i H ow x H' hi ⟨a, b, c⟩ ⟨T, u, zo, e1, e2, e3, hd, e4⟩ => by
    rw [enumD_length] at hi
    subst e1; subst e3
    obtain ⟨v, h1, h2⟩ := c.get (i := i) (d := ds[i]) (by simp)
    have := e4 xs (.of a)
    rw [h1] at this
    cases this
    refine ⟨off ow T, .tuple [.int i, ds[i]], ?_, Gr.new e2, .tup (.new hd) (.cons (.int _) (.cons (h2.stay (Gr.new e2).stay) .nil)) (by simp)⟩
    rw [enumD_get]
    simp [hi]
  len := by rw [enumD_length]; exact hz
theorem di_enumL {a : Expr} {elts : List Expr} {kk : Nat} {tpos : Pos} {t : Env → Rs (List PyData)} {p pos : Pos} (hg : Gl X "enumerate") (hm : X.mg "enumerate" = none) (ha : DA X C [a] t) (hs : starEach [a] X.env = [(false, eval a X.env)] := by rfl) :
    DI X C (.Tuple elts kk tpos) (.Call (.Name "enumerate" p) [a] [] pos) (itB bEnumL t) :=
  PIweak (DLT.pi_enumZ hg hm ha hs) fun σ H Q h => rd_one (R1 := RA X.K) h fun v x H ow env hv P h => by
    obtain ⟨o, e, h⟩ := rdAt_lift (v := Itr 0 0) h
    unfold bEnumL at e
    split at e
    · obtain ⟨w, rfl, d⟩ := hv.one
      cases d with
      | @lst a xs ds h1 h2 h3 hz =>
        cases e
        exact ⟨a, xs, rfl, .of h1, h _ H ow Ext.refl ⟨_, wk_enumL hz h3.length, h1, h2, h3⟩ P⟩
    · cases e
end
end DL


namespace DL
open PySem PySem.Spec PyProof.Rows L2

/-! ### comprehensions -/
def wipeE (e : Env) : List Nat → Env
  | [] => e
  | v :: vs => (wipeE e vs).set v none
def keepD : Option (Option M) → Option M
  | some (some (.d x)) => some (.d x)
  | _ => none
def restE (e0 : Env) : List Nat → Env → Env
  | [], e => e
  | v :: vs, e => restE e0 vs (e.set v (keepD e0[v]?))
def compGo (g : PyData → Env → Option Env) (tt : Env → Rs Bool) (te : Env → Rs PyData) (vs : List Nat) : List PyData → List PyData → Env → Rs (List PyData)
  | [], acc, e => .ok acc e
  | x :: xs, acc, e => match g x e with
    | none => .no
    | some e1 => (tt e1).bind fun b e2 => if b = true then (te e2).bind fun y e3 => compGo g tt te vs xs (acc ++ [y]) (wipeE e3 vs) else compGo g tt te vs xs acc (wipeE e2 vs)
def compR (vs : List Nat) (e0 : Env) : Rs (List PyData) → Rs (List PyData)
  | .ok r e => .ok r (restE e0 vs e)
  | _ => .no
def eComp0 (it : Env → Rs (List PyData)) (g : PyData → Env → Option Env) (tt : Env → Rs Bool) (te : Env → Rs PyData) (vs : List Nat) : Env → Rs (List PyData) := fun env =>
  (it env).bind fun ds e => compR vs e (compGo g tt te vs ds [] (wipeE e vs))
def eComp (it : Env → Rs (List PyData)) (g : PyData → Env → Option Env) (tt : Env → Rs Bool) (te : Env → Rs PyData) (vs : List Nat) : Env → Rs PyData := fun env => (eComp0 it g tt te vs env).bind fun r e => .ok (.list r) e
def mComp (it : Env → Rs (List PyData)) (g : PyData → Env → Option Env) (tt : Env → Rs Bool) (te : Env → Rs PyData) (vs : List Nat) : Env → Rs M := fun env => (eComp0 it g tt te vs env).bind fun r e => .ok (.l r) e
def tYesD : Env → Rs Bool := fun e => .ok true e
theorem wipeE_length (e : Env) : ∀ vs, (wipeE e vs).length = e.length
  | [] => rfl
  | v :: vs => by unfold wipeE; rw [List.length_set, wipeE_length e vs]
theorem wipeE_some {e : Env} {i : Nat} {m : M} : ∀ {vs : List Nat}, (wipeE e vs)[i]? = some (some m) → e[i]? = some (some m) ∧ i ∉ vs
  | [], h => ⟨h, by simp⟩
  | v :: vs, h => by
    unfold wipeE at h
    by_cases hi : v = i
    · subst hi
      by_cases hv : v < (wipeE e vs).length
      · rw [List.getElem?_set_self hv] at h; cases h
      · rw [List.getElem?_eq_none (by simpa using hv)] at h; cases h
    · rw [List.getElem?_set_ne hi] at h
      obtain ⟨h1, h2⟩ := wipeE_some h
      exact ⟨h1, by simp only [List.mem_cons, not_or]; exact ⟨fun e => hi e.symm, h2⟩⟩
theorem wipe_in {σ : L2.St} {i : Nat} : ∀ {vs : List Nat}, i ∈ vs → i < σ.length → (wipe σ vs)[i]? = some none
  | v :: vs, h, hl => by
    unfold wipe
    by_cases hi : v = i
    · subst hi; rw [List.getElem?_set_self (by rw [wipe_length]; exact hl)]
    · rw [List.getElem?_set_ne hi]
      exact wipe_in ((List.mem_cons.mp h).resolve_left fun z => hi z.symm) hl
theorem wipe_eq {σ σ2 : L2.St} {vs : List Nat} (hl : σ2.length = σ.length) (h : ∀ i, i ∉ vs → σ2[i]? = σ[i]?) : wipe σ2 vs = wipe σ vs := by
  apply List.ext_getElem?
  intro i
  by_cases hi : i ∈ vs
  · by_cases hb : i < σ.length
    · rw [wipe_in hi hb, wipe_in hi (by rw [hl]; exact hb)]
    · rw [List.getElem?_eq_none (by rw [wipe_length]; omega), List.getElem?_eq_none (by rw [wipe_length]; omega)]
  · rw [wipe_out hi, wipe_out hi]
    exact h i hi
section
variable {K : PySem.W.Frag} {C : Cc} {H H' : Hp} {ow ow' : Ow} {σ : L2.St} {env : Env}
def IoFreeAll (C : Cc) (vs : List Nat) : Prop := ∀ i ∈ vs, IoFree C i
theorem RpE.wipe (P : RpE K C H ow σ env) {vs : List Nat} (hio : IoFreeAll C vs) : RpE K C H ow (L2.wipe σ vs) (wipeE env vs) :=
  ⟨fun i m e => by
    obtain ⟨h1, h2⟩ := wipeE_some e
    obtain ⟨v, fp, a, b, c, d⟩ := P.sl i m h1
    exact ⟨v, fp, by rw [wipe_out h2]; exact a, b, c, d⟩, fun i v e => by
    have hi : i ∉ vs := fun z => by
      rw [show C.io i = none from hio i z] at e
      cases e
    rw [wipe_out hi]; exact P.io i v e, by rw [wipeE_length]; exact P.len, by rw [wipe_length]; exact P.lenS⟩
theorem restE_length (e0 : Env) : ∀ (vs : List Nat) (e : Env), (restE e0 vs e).length = e.length
  | [], _ => rfl
  | v :: vs, e => by unfold restE; rw [restE_length e0 vs, List.length_set]
/-- behind the block: its own names are as before it -/
theorem restE_get {e0 : Env} {i : Nat} {m : M} : ∀ {vs : List Nat} {e : Env}, (restE e0 vs e)[i]? = some (some m) → (i ∈ vs ∧ ∃ x, m = .d x ∧ e0[i]? = some (some (.d x))) ∨ (i ∉ vs ∧ e[i]? = some (some m))
  | [], e, h => .inr ⟨by simp, h⟩
  | v :: vs, e, h => by
    unfold restE at h
    rcases restE_get h with ⟨a, b⟩ | ⟨a, b⟩
    · exact .inl ⟨List.mem_cons_of_mem _ a, b⟩
    · by_cases hv : v = i
      · subst hv
        by_cases hl : v < e.length
        · rw [List.getElem?_set_self hl] at b
          have b' : keepD e0[v]? = some m := Option.some.inj b
          unfold keepD at b'
          split at b'
          · rename_i x hx
            cases b'
            exact .inl ⟨List.mem_cons_self, x, rfl, hx⟩
          · cases b'
        · rw [List.getElem?_eq_none (by simpa using hl)] at b; cases b
      · rw [List.getElem?_set_ne hv] at b
        exact .inr ⟨fun z => (List.mem_cons.mp z).elim (fun q => hv q.symm) a, b⟩
theorem RpE.rest {e0 : Env} {vs : List Nat} {H0 : Hp} {ow0 : Ow} (P0 : RpE K C H0 ow0 σ e0) (st : Stay H0 ow0 H ow) (P : RpE K C H ow (L2.wipe σ vs) env) : RpE K C H ow σ (restE e0 vs env) :=
  ⟨fun i m e => by
    rcases restE_get e with ⟨a, x, rfl, hx⟩ | ⟨a, b⟩
    · obtain ⟨v, fp, h1, h2, h3, h4⟩ := P0.sl i _ hx
      cases h2 with
      | d h2 => exact ⟨v, [], h1, .d (h2.stay st), List.nodup_nil, fun p hp => by cases hp⟩
    · obtain ⟨v, fp, h1, h2, h3, h4⟩ := P.sl i m b
      exact ⟨v, fp, by rw [wipe_out a] at h1; exact h1, h2, h3, h4⟩, P0.io, by rw [restE_length]; exact P.len, P0.lenS⟩
end
theorem RpE.other {K : PySem.W.Frag} {C : Cc} {H H' : Hp} {ow ow' : Ow} {σ : L2.St} {env : Env} (h : ∀ a o, H a = some o → (∀ i, ow a = some i → i < C.N) → H' a = some o ∧ ow' a = ow a) (P : RpE K C H ow σ env) : RpE K C H' ow' σ env :=
  ⟨fun i m e => by
    obtain ⟨v, fp, h1, h2, h3, h4⟩ := P.sl i m e
    have hi := (List.getElem?_eq_some_iff.mp e).1
    have hN := P.len
    have hk : ∀ p ∈ fp, H' p = H p ∧ ow' p = ow p := fun p hp => by
      obtain ⟨o, ho⟩ := h2.there p hp
      obtain ⟨a, b⟩ := h p o ho fun j z => by
        rw [h4 p hp] at z
        have := Option.some.inj z
        omega
      exact ⟨a.trans ho.symm, b⟩
    refine ⟨v, fp, h1, h2.stay (fun a o ha ha' => ?_) fun p hp => (hk p hp).1, h3, fun p hp => (hk p hp).2.trans (h4 p hp)⟩
    obtain ⟨p, q⟩ := h a o ha fun j z => by rw [ha'] at z; cases z
    exact ⟨p, q.trans ha'⟩, P.io, P.len, P.lenS⟩
def Cc.blk (C : Cc) : Cc := { C with W := fun _ _ _ _ => False }
theorem RpE.blk {K : PySem.W.Frag} {C : Cc} {H : Hp} {ow : Ow} {σ : L2.St} {env : Env} (P : RpE K C H ow σ env) : RpE K C.blk H ow σ env := ⟨P.sl, P.io, P.len, P.lenS⟩
theorem RpE.unblk {K : PySem.W.Frag} {C : Cc} {H : Hp} {ow : Ow} {σ : L2.St} {env : Env} (P : RpE K C.blk H ow σ env) : RpE K C H ow σ env := ⟨P.sl, P.io, P.len, P.lenS⟩
def Ex0 {α : Type} : Rs α → Prop
  | .ok _ _ => True
  | _ => False
section
variable {X : Cx} {C : Cc} {K : PySem.W.Frag} {it : Env → Rs (List PyData)} {g : PyData → Env → Option Env} {tt : Env → Rs Bool} {te : Env → Rs PyData} {vs ts : List Nat}
/-- the reading of a comprehension, R the representation of its end (N1: the new list's owner on the way) -/
theorem rd_comp {α : Type} {R : Hp → Ow → V → α → Prop} {k : List PyData → α} (hts : ∀ i ∈ ts, i ∈ vs) (hio : IoFreeAll C vs)
    (hk : ∀ (H : Hp) (ow : Ow) (D : Addr) (xs : List V) (ds : List PyData), H D = some (.lst xs) → ow D = some (C.N + 1) → DVs K H ow xs ds → ds.length ≤ 16777216 → ∃ o : Option Nat, (o = none ∨ o = some C.N) ∧ R H (fun a => if a = D then o else ow a) (.ref D) (k ds))
    {σ : L2.St} {H : Hp} {Q : VK} (h : rd K C R (fun env => (eComp0 it g tt te vs env).bind fun r e => .ok (k r) e) σ H Q) :
    tLc (rd K C (RI K) it) (rdG K C.blk ts g) (rd K C.blk RT tt) (rd K C.blk (RE K) te) vs σ H Q := by
  obtain ⟨env, ow, P, h⟩ := h
  have h : rdAt K C R σ H ow Q ((it env).bind fun ds e => (compR vs e (compGo g tt te vs ds [] (wipeE e vs))).bind fun r e => .ok (k r) e) := by
    have e : (eComp0 it g tt te vs env).bind (fun r e => Rs.ok (k r) e) = ((it env).bind fun ds e => (compR vs e (compGo g tt te vs ds [] (wipeE e vs))).bind fun r e => .ok (k r) e) := by
      unfold eComp0
      cases it env <;> rfl
    rw [← e]; exact h
  refine ⟨env, ow, P, rdAt_mono (rdAt_bind (R1 := RI K) h) fun J H1 ⟨ds, e1, ow1, X1, ⟨G, W, hG⟩, P1, h1⟩ => fun D hD => ?_⟩
  have grD : Gr H1 ow1 (upd H1 D (.lst [])) (give ow1 D (C.N + 1)) := Gr.newG hD
  have start : compGo g tt te vs (ds.drop 0) [] (wipeE e1 vs) = compGo g tt te vs ds [] (wipeE e1 vs) := by rw [List.drop_zero]
  generalize compGo g tt te vs ds [] (wipeE e1 vs) = rr at h1 start
  have okc : Ex0 rr := by
    cases rr with
    | ok _ _ => trivial
    | ex _ _ => exact h1.elim
    | no => exact h1.elim
  let Pv : Nat → Hp → Prop := fun i H2 => ∃ acc xs env2 ow2, H2 D = some (.lst xs) ∧ ow2 D = some (C.N + 1) ∧ DVs K H2 ow2 xs acc ∧ acc.length ≤ i ∧ G H2 ow2 ∧ Ext C.N H1 ow1 H2 ow2 ∧ RpE K C.blk H2 ow2 (wipe σ vs) env2 ∧
    compGo g tt te vs (ds.drop i) acc env2 = rr
  refine lc_it (n := ds.length) (G := fun H => ∃ ow, G H ow) (Y := fun i H x H' => ∀ ow, G H ow → ∃ ow' d, ds[i]? = some d ∧ Gr H ow H' ow' ∧ DV K H' ow' x d)
    ⟨fun i H hi ⟨ow, q⟩ => W.goes i H ow hi q, fun H ⟨ow, q⟩ => W.stops H ow q, fun i H x H' hi ⟨ow, q⟩ y ow' q' => W.yields i H ow' x H' hi q' y⟩ Pv ?_ ?_ ?_ ?_
  · exact ⟨[], [], wipeE e1 vs, _, upd_same, give_same, .nil, Nat.zero_le _, W.st _ _ _ _ hG grD.stay, grD.ext, ((P1.gr grD).wipe hio).blk, start⟩
  · rintro i H2 _ ⟨acc, xs, env2, ow2, _, _, _, _, q, _⟩
    exact ⟨ow2, q⟩
  · rintro i x H2 H3 hi ⟨acc, xs, env2, ow2, a1, a2, a3, a4, a5, a6, a7, a8⟩ y
    obtain ⟨ow3, d, e2, g3, d3⟩ := y ow2 a5
    have hd : ds.drop i = d :: ds.drop (i + 1) := by
      have hl : i < ds.length := hi
      rw [List.drop_eq_getElem_cons hl]
      rw [List.getElem?_eq_getElem hl] at e2
      cases e2; rfl
    rw [hd, compGo] at a8
    have P3 := a7.gr g3
    refine ⟨env2, ow3, d, P3, d3, ?_⟩
    cases e3 : g d env2 with
    | none => rw [e3] at a8; rw [← a8] at okc; exact okc.elim
    | some env3 =>
      rw [e3] at a8
      replace a8 : ((tt env3).bind fun b e2 => if b = true then (te e2).bind fun y e3 => compGo g tt te vs (ds.drop (i + 1)) (acc ++ [y]) (wipeE e3 vs) else compGo g tt te vs (ds.drop (i + 1)) acc (wipeE e2 vs)) = rr := a8
      intro σ2 hσ P4
      have hw : wipe σ2 vs = wipe σ vs := by
        rw [wipe_eq (σ := wipe σ vs) (σ2 := σ2) (P4.lenS.trans P3.lenS.symm) fun j hj => hσ j fun z => hj (hts j z)]
        exact wipe_eq (wipe_length _ _) fun j hj => wipe_out hj
      refine ⟨hw, env3, ow3, P4, ?_⟩
      have bD3 := g3 D _ a1
      have X3 : Ext C.N H1 ow1 H3 ow3 := a6.trans g3.ext
      cases e4 : tt env3 with
      | no => rw [e4] at a8; rw [← a8] at okc; exact okc.elim
      | ex x e => rw [e4] at a8; rw [← a8] at okc; exact okc.elim
      | ok b env4 =>
        rw [e4] at a8
        intro b' H5 ow5 X5 eb P5
        subst eb
        have bD5 := X5 D _ bD3.1 (fun j z => by rw [bD3.2, a2] at z; have := Option.some.inj z; show C.N < j; omega)
        have c5 : DVs K H5 ow5 xs acc := (a3.stay g3.stay).stay X5.stay
        have G5 : G H5 ow5 := W.st _ _ _ _ (W.st _ _ _ _ a5 g3.stay) X5.stay
        cases b' with
        | false =>
          refine iteF ⟨acc, xs, wipeE env4 vs, ow5, bD5.1, bD5.2.trans (bD3.2.trans a2), c5, by omega, G5, X3.trans X5, ?_, ?_⟩
          · have := P5.wipe (vs := vs) (fun j hj => hio j hj)
            rw [hw] at this
            exact this
          · exact a8
        | true =>
          refine iteT ⟨env4, ow5, P5, ?_⟩
          cases e5 : te env4 with
          | no => simp only [Rs.bind_ok, if_true, e5, Rs.bind_no] at a8; rw [← a8] at okc; exact okc.elim
          | ex x e => simp only [Rs.bind_ok, if_true, e5, Rs.bind_ex] at a8; rw [← a8] at okc; exact okc.elim
          | ok yd env5 =>
            simp only [Rs.bind_ok, if_true, e5] at a8
            intro yv H6 ow6 X6 dy P6
            have bD6 := X6 D _ bD5.1 (fun j z => by rw [bD5.2, bD3.2, a2] at z; have := Option.some.inj z; show C.N < j; omega)
            have o6 : ow6 D = some (C.N + 1) := bD6.2.trans (bD5.2.trans (bD3.2.trans a2))
            have lenA := W.len
            have st6 : Stay H6 ow6 (upd H6 D (.lst (xs ++ [yv]))) ow6 := fun a o h h' => ⟨by rw [upd_ne (fun z => by rw [z, o6] at h'; cases h')]; exact h, h'⟩
            refine ⟨xs, bD6.1, ?_, acc ++ [yd], xs ++ [yv], wipeE env5 vs, ow6, upd_same, o6, ?_, ?_, ?_, ?_, ?_, a8⟩
            · rw [sizeLine_eq, (c5.stay X6.stay).length]; omega
            · exact ((c5.stay X6.stay).append (.cons dy .nil)).stay st6
            · rw [List.length_append, List.length_singleton]; omega
            · exact W.st _ _ _ _ (W.st _ _ _ _ G5 X6.stay) st6
            · intro a o h h'
              obtain ⟨p, q⟩ := ((X3.trans X5).trans X6) a o h h'
              exact ⟨by rw [upd_ne (ne_of_none h hD)]; exact p, q⟩
            · have := P6.wipe (vs := vs) (fun j hj => hio j hj)
              rw [hw] at this
              refine this.other fun a o h h' => ⟨?_, rfl⟩
              rw [upd_ne fun z => ?_]
              · exact h
              · have := h' _ (by rw [z]; exact o6)
                change C.N + 1 < C.N at this
                omega
  · rintro H2 ⟨acc, xs, env2, ow2, a1, a2, a3, a4, a5, a6, a7, a8⟩
    rw [List.drop_length, compGo] at a8
    subst a8
    obtain ⟨o, ho, hR⟩ := hk H2 ow2 D xs acc a1 a2 a3 (by have := W.len; omega)
    have X2 : Ext C.N H1 ow1 H2 (fun a => if a = D then o else ow2 a) := fun a u h h' => by
      obtain ⟨p, q⟩ := a6 a u h h'
      exact ⟨p, (if_neg (ne_of_none h hD)).trans q⟩
    refine h1 _ H2 _ X2 hR (RpE.rest P1 X2.stay ?_)
    refine a7.unblk.other fun a u h h' => ⟨h, if_neg fun z => ?_⟩
    have := h' _ (by rw [z]; exact a2)
    omega
theorem hk_data {K : PySem.W.Frag} {C : Cc} (H : Hp) (ow : Ow) (D : Addr) (xs : List V) (ds : List PyData) (h : H D = some (.lst xs)) (ho : ow D = some (C.N + 1)) (hd : DVs K H ow xs ds) (hz : ds.length ≤ 16777216) :
    ∃ o : Option Nat, (o = none ∨ o = some C.N) ∧ RE K H (fun a => if a = D then o else ow a) (.ref D) (.list ds) :=
  ⟨none, .inl rfl, .lst h (if_pos rfl) (hd.stay fun a o h h' => ⟨h, by show (if a = D then none else ow a) = none; split; rfl; exact h'⟩) hz⟩
theorem hk_own {K : PySem.W.Frag} {C : Cc} (H : Hp) (ow : Ow) (D : Addr) (xs : List V) (ds : List PyData) (h : H D = some (.lst xs)) (ho : ow D = some (C.N + 1)) (hd : DVs K H ow xs ds) (hz : ds.length ≤ 16777216) :
    ∃ o : Option Nat, (o = none ∨ o = some C.N) ∧ RM K C.N H (fun a => if a = D then o else ow a) (.ref D) (.l ds) :=
  ⟨some C.N, .inr rfl, [D], .l h (hd.stay fun a o h h' => ⟨h, by
    show (if a = D then some C.N else ow a) = none
    rw [if_neg fun z => by rw [z, ho] at h'; cases h']; exact h'⟩) hz, by simp, fun p hp => by simp at hp; subst hp; exact if_pos rfl⟩
variable {elt tg iter : Expr} {ifs : List Expr} {scope : Scope} {own : List (Str × Nat)} {pos : Pos}
def DTs (X : Cx) (C : Cc) (ifs : List Expr) (t : Env → Rs Bool) : Prop := PTs X ifs (rd X.K C RT t)
theorem PTsweak {X : Cx} {e : List Expr} {t t' : TT} (h : PTs X e t) (w : ∀ σ H Q, t' σ H Q → t σ H Q) : PTs X e t' := ⟨fun pins s σ H Q I q => h.run pins s σ H Q I (w σ H Q q)⟩
theorem dts_nil : DTs X C [] tYesD := PTsweak pts_nil fun σ H Q ⟨env, ow, P, h⟩ => h true H ow Ext.refl rfl P
theorem dts_one {c : Expr} {t : Env → Rs Bool} (h : DT X C c t) : DTs X C [c] t := pts_one h
/-- a block's parts, wherever the block starts -/
abbrev Blk (X : Cx) (s : Shared) (H : Hp) (scope : Scope) (Cc : Addr) (cl : List (Str × Addr)) (fp : List Addr) : Cx := X.blk s H scope (compEnvC scope cl Cc X.env) fp
theorem de_comp (hc : X.calm = true) (hN : X.N.Nodup) (hi : DI X C tg iter it) (ok : BlkOk X.N X.env.scope scope own)
    (hg : ∀ (s : Shared) (H : Hp) (D : Addr) (cl : List (Str × Addr)) (fp : List Addr), DG (Blk X s H scope D cl fp) C.blk tg ts g) (ht : ∀ (s : Shared) (H : Hp) (D : Addr) (cl : List (Str × Addr)) (fp : List Addr), DTs (Blk X s H scope D cl fp) C.blk ifs tt)
    (he : ∀ (s : Shared) (H : Hp) (D : Addr) (cl : List (Str × Addr)) (fp : List Addr), DE (Blk X s H scope D cl fp) C.blk elt te) (hts : ∀ i ∈ ts, i ∈ vs) (hio : IoFreeAll C vs) (hs : ∀ x, foldedSetIterable iter X.env x = pure x := by intro _; rfl) (hvs : own.map (·.2) = vs := by rfl) :
    DE X C (.ListComp elt [⟨tg, iter, ifs, 0⟩] scope pos) (eComp it g tt te vs) := by
  subst hvs
  exact PEweak (pe_lc (g := rdG X.K C.blk ts g) (tt := rd X.K C.blk RT tt) (te := rd X.K C.blk (RE X.K) te) hc hN hi ok hg ht he hs) fun σ H Q h => rd_comp (k := PyData.list) hts hio hk_data h
theorem dm_comp (hc : X.calm = true) (hN : X.N.Nodup) (hi : DI X C tg iter it) (ok : BlkOk X.N X.env.scope scope own)
    (hg : ∀ (s : Shared) (H : Hp) (D : Addr) (cl : List (Str × Addr)) (fp : List Addr), DG (Blk X s H scope D cl fp) C.blk tg ts g) (ht : ∀ (s : Shared) (H : Hp) (D : Addr) (cl : List (Str × Addr)) (fp : List Addr), DTs (Blk X s H scope D cl fp) C.blk ifs tt)
    (he : ∀ (s : Shared) (H : Hp) (D : Addr) (cl : List (Str × Addr)) (fp : List Addr), DE (Blk X s H scope D cl fp) C.blk elt te) (hts : ∀ i ∈ ts, i ∈ vs) (hio : IoFreeAll C vs) (hs : ∀ x, foldedSetIterable iter X.env x = pure x := by intro _; rfl) (hvs : own.map (·.2) = vs := by rfl) :
    DM X C (.ListComp elt [⟨tg, iter, ifs, 0⟩] scope pos) (mComp it g tt te vs) := by
  subst hvs
  exact PEweak (pe_lc (g := rdG X.K C.blk ts g) (tt := rd X.K C.blk RT tt) (te := rd X.K C.blk (RE X.K) te) hc hN hi ok hg ht he hs) fun σ H Q h => rd_comp (k := M.l) hts hio hk_own h
end
end DL


namespace DL
open PySem PySem.Spec PyProof.Rows L2

/-! ### statements -/
def outAt (K : PySem.W.Frag) (C : Cc) (D : Ends) (H : Hp) (ow : Ow) : Out → Prop
  | .nx env' => ∀ σ' H' ow', Ext C.N H ow H' ow' → RpE K C H' ow' σ' env' → D.nx σ' H'
  | .rt m env' => ∀ v σ' H' ow', Ext C.N H ow H' ow' → RM K C.N H' ow' v m → RpE K C H' ow' σ' env' → D.rt v H'
  | .bk env' => ∀ σ' H' ow', Ext C.N H ow H' ow' → RpE K C H' ow' σ' env' → D.bk σ' H'
  | .ct env' => ∀ σ' H' ow', Ext C.N H ow H' ow' → RpE K C H' ow' σ' env' → D.ct σ' H'
  | .ex x env' => ∀ c dx σ' H' ow', Ext C.N H ow H' ow' → XR K C H' ow' x c dx → RpE K C H' ow' σ' env' → C.W c dx σ' H'
  | .no => False
def rdS (K : PySem.W.Frag) (C : Cc) (t : Env → Out) : TS := fun D σ H => ∃ env ow, RpE K C H ow σ env ∧ outAt K C D H ow (t env)
def DS (X : Cx) (C : Cc) (st : Stmt) (t : Env → Out) : Prop := PS X st (rdS X.K C t)
def DSs (X : Cx) (C : Cc) (st : List Stmt) (t : Env → Out) : Prop := PSs X st (rdS X.K C t)
section
variable {K : PySem.W.Frag} {C : Cc} {D : Ends} {H H' : Hp} {ow ow' : Ow} {σ : L2.St} {env : Env} {o : Out}
theorem outAt_from (x : Ext C.N H ow H' ow') (h : outAt K C D H ow o) : outAt K C D H' ow' o := by
  cases o with
  | nx e => exact fun a b c y => h a b c (x.trans y)
  | rt m e => exact fun v a b c y => h v a b c (x.trans y)
  | bk e => exact fun a b c y => h a b c (x.trans y)
  | ct e => exact fun a b c y => h a b c (x.trans y)
  | ex a e => exact fun u v a b c y => h u v a b c (x.trans y)
  | no => exact h
def sThen (t u : Env → Out) : Env → Out := fun env => match t env with
  | .nx e => u e
  | .rt m e => .rt m e
  | .bk e => .bk e
  | .ct e => .ct e
  | .ex x e => .ex x e
  | .no => .no
def sNx : Env → Out := fun env => .nx env
theorem out_then {t u : Env → Out} (h : outAt K C D H ow (sThen t u env)) : outAt K C { D with nx := fun σ1 H1 => rdS K C u D σ1 H1 } H ow (t env) := by
  unfold sThen at h
  cases e : t env with
  | nx e1 => rw [e] at h; exact fun σ1 H1 ow1 x P => ⟨e1, ow1, P, outAt_from x h⟩
  | rt m e1 => rw [e] at h; exact h
  | bk e1 => rw [e] at h; exact h
  | ct e1 => rw [e] at h; exact h
  | ex x e1 => rw [e] at h; exact h
  | no => rw [e] at h; exact h
/-- an expression in a statement -/
def sE {α : Type} (t : Env → Rs α) (k : α → Env → Out) : Env → Out := fun env => match t env with
  | .ok a e => k a e
  | .ex x e => .ex x e
  | .no => .no
theorem out_E {α β : Type} {R : Hp → Ow → β → α → Prop} {t : Env → Rs α} {k : α → Env → Out} (P : RpE K C H ow σ env) (h : outAt K C D H ow (sE t k env)) {Q : β → Hp → Prop}
    (q : ∀ v H1 a e1 ow1, R H1 ow1 v a → RpE K C H1 ow1 σ e1 → outAt K C D H1 ow1 (k a e1) → Q v H1) : rd K C R t σ H Q := by
  refine ⟨env, ow, P, ?_⟩
  unfold sE at h
  cases e : t env with
  | ok a e1 => rw [e] at h; exact fun v H1 ow1 x y z => q v H1 a e1 ow1 y z (outAt_from x h)
  | ex x e1 => rw [e] at h; exact fun c dx H1 ow1 y z w => h c dx σ H1 ow1 y z w
  | no => rw [e] at h; exact h.elim
theorem out_EX {α β : Type} {R : Hp → Ow → β → α → Prop} {t : Env → Rs α} {k : α → Env → Out} (P : RpE K C H ow σ env) (h : outAt K C D H ow (sE t k env)) {Q : β → Hp → Prop}
    (q : ∀ v H1 a e1 ow1, Ext C.N H ow H1 ow1 → R H1 ow1 v a → RpE K C H1 ow1 σ e1 → outAt K C D H1 ow1 (k a e1) → Q v H1) : rd K C R t σ H Q := by
  refine ⟨env, ow, P, ?_⟩
  unfold sE at h
  cases e : t env with
  | ok a e1 => rw [e] at h; exact fun v H1 ow1 x y z => q v H1 a e1 ow1 x y z (outAt_from x h)
  | ex x e1 => rw [e] at h; exact fun c dx H1 ow1 y z w => h c dx σ H1 ow1 y z w
  | no => rw [e] at h; exact h.elim
end
section
variable {X : Cx} {C : Cc} {st : Stmt} {sts : List Stmt} {e : Expr} {pos : Pos} {t u : Env → Out}
theorem dss_nil : DSs X C [] sNx := PSsweak pss_nil fun D σ H ⟨env, ow, P, h⟩ => h σ H ow Ext.refl P
theorem dss_cons (h1 : DS X C st t) (h2 : DSs X C sts u) : DSs X C (st :: sts) (sThen t u) :=
  PSsweak (pss_cons h1 h2) fun D σ H ⟨env, ow, P, h⟩ => ⟨env, ow, P, out_then h⟩
theorem dss_one (h : DS X C st t) : DSs X C [st] t := pss_one h
theorem ds_pass : DS X C (.Pass pos) sNx := PSweak ps_pass fun D σ H ⟨env, ow, P, h⟩ => h σ H ow Ext.refl P
def sBk : Env → Out := fun env => .bk env
def sCt : Env → Out := fun env => .ct env
def sNo : Env → Out := fun _ => .no
theorem ds_break : DS X C (.Break pos) sBk := PSweak ps_break fun D σ H ⟨env, ow, P, h⟩ => h σ H ow Ext.refl P
theorem ds_continue : DS X C (.Continue pos) sCt := PSweak ps_continue fun D σ H ⟨env, ow, P, h⟩ => h σ H ow Ext.refl P
/-- a statement that is never reached -/
theorem ds_never : DS X C st sNo := PSweak ps_never fun D σ H ⟨env, ow, P, h⟩ => h.elim
def sRet (t : Env → Rs M) : Env → Out := sE t fun m e => .rt m e
theorem ds_ret {t : Env → Rs M} (h : DM X C e t) : DS X C (.Return (some e) pos) (sRet t) :=
  PSweak (ps_ret h) fun D σ H ⟨env, ow, P, h⟩ => out_E P h fun v H1 a e1 ow1 y z q => q v σ H1 ow1 Ext.refl y z
def sRetN : Env → Out := fun env => .rt (.d .none) env
theorem ds_retN : DS X C (.Return none pos) sRetN :=
  PSweak ps_retN fun D σ H ⟨env, ow, P, h⟩ => h .non σ H ow Ext.refl ⟨[], .d .non, by simp, fun p hp => by cases hp⟩ P
def sDrop (t : Env → Rs M) : Env → Out := sE t fun _ e => .nx e
theorem ds_expr {t : Env → Rs M} (h : DM X C e t) (hs : swapsWith e none pos.line X.env = pure false := by rfl) : DS X C (.Expr e pos) (sDrop t) :=
  PSweak (ps_expr h hs) fun D σ H ⟨env, ow, P, h⟩ => out_E P h fun v H1 a e1 ow1 y z q => q σ H1 ow1 Ext.refl z
def sIf (c : Env → Rs Bool) (t u : Env → Out) : Env → Out := sE c fun b e => if b = true then t e else u e
theorem ds_if {c : Expr} {a b : List Stmt} {tc : Env → Rs Bool} (hc : DT X C c tc) (ha : DSs X C a t) (hb : DSs X C b u) : DS X C (.If c a b pos) (sIf tc t u) :=
  PSweak (ps_if hc ha hb) fun D σ H ⟨env, ow, P, h⟩ => out_E (R := RT) P h fun v H1 a e1 ow1 y z q => by
    cases y
    cases v with
    | true => exact iteT ⟨e1, ow1, z, q⟩
    | false => exact iteF ⟨e1, ow1, z, q⟩
def sSet (i : Nat) (t : Env → Rs M) : Env → Out := sE t fun m e => .nx (e.set i (some m))
theorem ds_set {i : Nat} {x : Str} {t : Env → Rs M} {pos' : Pos} (h : DM X C e t) (hN : X.N.Nodup) (hi : X.N[i]? = some x) (hx : Loc X.env.scope x) (hio : IoFree C i) (hs : swapsWith e (some (.Name x pos')) pos.line X.env = pure false := by rfl) (hf : X.fn x = true ∨ X.env.scope.names.lookup x = some .local := by first | exact .inl rfl | exact .inr rfl | assumption) :
    DS X C (.Assign [.Name x pos'] e pos) (sSet i t) :=
  PSweak (ps_set hN hi hx h hs hf) fun D σ H ⟨env, ow, P, h⟩ => out_E P h fun v H1 a e1 ow1 y z q => q _ H1 _ (Ext.reown Ext.refl) (z.setM y hio)
/-- name = [.. for ..] -/
theorem ds_setLc {i : Nat} {y : Str} {py : Pos} {elt tg iter : Expr} {ifs : List Expr} {scope : Scope} {own : List (Str × Nat)} {spos : Pos} {ts vs : List Nat} {it : Env → Rs (List PyData)} {g : PyData → Env → Option Env} {tt : Env → Rs Bool} {te : Env → Rs PyData}
    (hc : X.calm = true) (hN : X.N.Nodup) (hy : X.N[i]? = some y) (hyl : X.env.scope.names.lookup y = some .local) (hsw : swapsWith (.ListComp elt [⟨tg, iter, ifs, 0⟩] scope pos) (some (.Name y py)) spos.line X.env = pure true)
    (hi : DI X C tg iter it) (ok : BlkOk X.N X.env.scope scope own)
    (hg : ∀ (s : Shared) (H : Hp) (D : Addr) (cl : List (Str × Addr)) (fp : List Addr), DG (Blk X s H scope D cl fp) C.blk tg ts g) (ht : ∀ (s : Shared) (H : Hp) (D : Addr) (cl : List (Str × Addr)) (fp : List Addr), DTs (Blk X s H scope D cl fp) C.blk ifs tt)
    (he : ∀ (s : Shared) (H : Hp) (D : Addr) (cl : List (Str × Addr)) (fp : List Addr), DE (Blk X s H scope D cl fp) C.blk elt te) (hts : ∀ i ∈ ts, i ∈ vs) (hio : IoFreeAll C vs) (hioi : IoFree C i) (hs : ∀ x, foldedSetIterable iter X.env x = pure x := by intro _; rfl) (hvs : own.map (·.2) = vs := by rfl) :
    DS X C (.Assign [.Name y py] (.ListComp elt [⟨tg, iter, ifs, 0⟩] scope pos) spos) (sSet i (mComp it g tt te vs)) := by
  subst hvs
  exact PSweak (ps_setLc (g := rdG X.K C.blk ts g) (tt := rd X.K C.blk RT tt) (te := rd X.K C.blk (RE X.K) te) hc hN hy hyl hsw hi ok hg ht he hs) fun D σ H ⟨env, ow, P, h⟩ =>
    rd_comp (k := M.l) hts hio hk_own (out_E (R := RM X.K C.N) P h fun v H1 a e1 ow1 y z q => q _ H1 _ (Ext.reown Ext.refl) (z.setM y hioi))
/-- a, b = e -/
def sAsg (t : Env → Rs PyData) (g : PyData → Env → Option Env) : Env → Out := sE t fun d e => match g d e with | some e' => .nx e' | none => .no
theorem ds_asg {tg : Expr} {t : Env → Rs PyData} {ts : List Nat} {g : PyData → Env → Option Env} (h : DE X C e t) (hg : DG X C tg ts g) (hs : swapsWithSole [tg] e pos.line X.env = pure false := by rfl) (hw : swappedStores [tg] e X.env = pure none := by rfl)
    (h1 : (assignEach [tg] X.env).map (·.2) = [assign tg X.env] := by rfl) : DS X C (.Assign [tg] e pos) (sAsg t g) :=
  PSweak (ps_asg h hg hs hw h1) fun D σ H ⟨env, ow, P, h⟩ => out_E (R := RE X.K) P h fun v H1 a e1 ow1 y z q => by
    refine ⟨e1, ow1, a, z, y, ?_⟩
    cases eg : g a e1 with
    | none => rw [eg] at q; exact q
    | some e2 => rw [eg] at q; exact fun σ' _ P' => q σ' H1 ow1 Ext.refl P'
/-- x op= e -/
def sAug (i : Nat) (f : PyData → PyData → Option PyData) (t : Env → Rs PyData) : Env → Out := fun env => match slotD env i with
  | none => .no
  | some x => sE t (fun y e => match f x y with | some z => .nx (e.set i (some (.d z))) | none => .no) env
theorem ds_aug {i : Nat} {x : Str} {op : Operator} {r : R2} {f : PyData → PyData → Option PyData} {t : Env → Rs PyData} {pos' : Pos} (ho : OpR X (inplaceOp op) r) (hop : Op2 X.K r f) (h : DE X C e t) (hN : X.N.Nodup) (hi : X.N[i]? = some x) (hx : Loc X.env.scope x) (hio : IoFree C i)
    (hf : X.fn x = true ∨ X.env.scope.names.lookup x = some .local := by first | exact .inl rfl | exact .inr rfl | assumption) : DS X C (.AugAssign (.Name x pos') op e pos) (sAug i f t) :=
  PSweak (ps_aug (ti := r) hN hi hx h ho hf) fun D σ H ⟨env, ow, P, h⟩ => by
    unfold sAug at h
    cases hs : slotD env i with
    | none => rw [hs] at h; exact h.elim
    | some x =>
      rw [hs] at h
      obtain ⟨v, h1, h2⟩ := slot_d P hs
      refine ⟨v, h1, env, ow, P, ?_⟩
      have h : outAt X.K C D H ow (sE t (fun y e => match f x y with | some z => .nx (e.set i (some (.d z))) | none => .no) env) := h
      unfold sE at h
      cases et : t env with
      | no => rw [et] at h; exact h
      | ex a b => rw [et] at h; exact fun c dx H1 ow1 y z w => h c dx σ H1 ow1 y z w
      | ok y e3 =>
        rw [et] at h
        intro w H1 ow1 X1 dw P1
        have h : outAt X.K C D H ow (match f x y with | some z => .nx (e3.set i (some (.d z))) | none => .no) := h
        cases ef : f x y with
        | none => rw [ef] at h; exact h.elim
        | some z =>
          rw [ef] at h
          exact hop v w x y z H1 ow1 _ (h2.stay X1.stay) dw ef fun v' H' ow' g d => h _ H' ow' (X1.trans g.ext) ((P1.gr g).setD d hio)
/-! ### owned lists -/
def slotL (env : Env) (i : Nat) : Option (List PyData) := match env[i]? with
  | some (some (.l x)) => some x
  | _ => none
theorem slot_l {K : PySem.W.Frag} {H : Hp} {ow : Ow} {σ : L2.St} {env : Env} {i : Nat} {x : List PyData} (P : RpE K C H ow σ env) (e : slotL env i = some x) :
    ∃ a vs, σ[i]? = some (some (.ref a)) ∧ H a = some (.lst vs) ∧ DVs K H ow vs x ∧ ow a = some i ∧ x.length ≤ 16777216 ∧ i < C.N := by
  unfold slotL at e
  split at e
  · rename_i y h
    cases e
    obtain ⟨v, fp, h1, h2, _, h4⟩ := P.sl i _ h
    cases h2 with
    | l h hd hz => exact ⟨_, _, h1, h, hd, h4 _ (by simp), hz, by rw [← P.len]; exact (List.getElem?_eq_some_iff.mp (by assumption)).1⟩
  · cases e
/-- a name whose owned list is let go -/
def eVarF (i : Nat) : Env → Rs PyData := fun env => match env[i]? with
  | some (some (.d x)) => .ok x env
  | some (some (.l ds)) => .ok (.list ds) (env.set i (some (.d (.list ds))))
  | _ => .no
theorem freeze {K : PySem.W.Frag} {H : Hp} {ow : Ow} {σ : L2.St} {env : Env} {i : Nat} {ds : List PyData} {a : Addr} {vs : List V} (P : RpE K C H ow σ env) (h1 : σ[i]? = some (some (.ref a))) (h2 : H a = some (.lst vs)) (h3 : DVs K H ow vs ds) (h4 : ow a = some i) (hz : ds.length ≤ 16777216) (hi : i < C.N) :
    RpE K C H (off ow a) σ (env.set i (some (.d (.list ds)))) ∧ Ext C.N H ow H (off ow a) ∧ DV K H (off ow a) (.ref a) (.list ds) := by
  have st : Stay H ow H (off ow a) := fun b o hb hb' => ⟨hb, by
    by_cases z : b = a
    · rw [z]; exact off_same
    · rw [off_ne z]; exact hb'⟩
  have dv : DV K H (off ow a) (.ref a) (.list ds) := .lst h2 off_same (h3.stay st) hz
  refine ⟨⟨fun j m e => ?_, P.io, by rw [List.length_set]; exact P.len, P.lenS⟩, fun b o hb hb' => ⟨hb, off_ne fun z => ?_⟩, dv⟩
  · by_cases hj : i = j
    · subst hj
      rw [List.getElem?_set_self (by rw [P.len]; exact hi)] at e
      cases e
      exact ⟨.ref a, [], h1, .d dv, List.nodup_nil, fun p hp => by cases hp⟩
    · rw [List.getElem?_set_ne hj] at e
      obtain ⟨v, fp, a1, a2, a3, a4⟩ := P.sl j m e
      refine ⟨v, fp, a1, a2.stay st fun _ _ => rfl, a3, fun p hp => ?_⟩
      rw [off_ne fun z => ?_]
      · exact a4 p hp
      · have := a4 p hp
        rw [z, h4] at this
        exact hj (Option.some.inj this)
  · have := hb' i (by rw [z]; exact h4)
    omega
theorem de_varF (i : Nat) {x : Str} (hN : X.N[i]? = some x := by rfl) (hv : Vis X.env.scope x := by first | exact Or.inl rfl | exact Or.inr (Or.inl rfl) | exact Or.inr (Or.inr rfl)) (hd : (x == ("__debug__" : Str)) = false := by decide)
    (hcd : (x == ("__classdict__" : Str)) = false := by decide) : DE X C (.Name x pos) (eVarF i) :=
  PEweak (pe_var hN hv hd hcd) fun σ H Q ⟨env, ow, P, h⟩ => by
    unfold eVarF at h
    cases he : env[i]? with
    | none => rw [he] at h; exact h.elim
    | some o =>
      rw [he] at h
      cases o with
      | none => exact h.elim
      | some m =>
        cases m with
        | d x =>
          obtain ⟨v, h1, h2⟩ := slot_d P (show slotD env i = some x by unfold slotD; rw [he])
          exact ⟨v, h1, h v H ow Ext.refl h2 P⟩
        | l ds =>
          obtain ⟨a, vs, h1, h2, h3, h4, hz, hi⟩ := slot_l P (show slotL env i = some ds by unfold slotL; rw [he])
          obtain ⟨P', x, d⟩ := freeze P h1 h2 h3 h4 hz hi
          exact ⟨_, h1, h _ H _ x d P'⟩
        | scr ns => exact h.elim
/-- xs.append(e) -/
def sApp (i : Nat) (t : Env → Rs PyData) : Env → Out := sE t fun d e => match slotL e i with
  | some ds => if ds.length < 16777216 then .nx (e.set i (some (.l (ds ++ [d])))) else .no
  | none => .no
theorem ty_list {K : PySem.W.Frag} {a : Addr} {vs : List V} {H : Hp} (h : H a = some (.lst vs)) : tyV K "list" (.ref a) H := .inl ⟨rfl, _, .of h⟩
/-- what a method does to an owned list: xs and an argument list to the answer and the new xs -/
def MtD (K : PySem.W.Frag) (r : V → List V → Hp → VK → Prop) (f : List PyData → List PyData → Option (PyData × List PyData)) : Prop :=
  ∀ (a : Addr) vs ws xs ys o zs H ow (Q : VK), H a = some (.lst vs) → DVs K H ow vs xs → xs.length ≤ 16777216 → DVs K H ow ws ys → f xs ys = some (o, zs) →
    (∀ v us, DVs K H ow us zs → DV K H ow v o → zs.length ≤ 16777216 → Q v (upd H a (.lst us))) → r (.ref a) ws H Q
def eMt (i : Nat) (f : List PyData → List PyData → Option (PyData × List PyData)) (t : Env → Rs (List PyData)) : Env → Rs PyData := fun env => match slotL env i with
  | none => .no
  | some _ => (t env).bind fun ys e => match slotL e i with
    | some xs => match f xs ys with
      | some (o, zs) => .ok o (e.set i (some (.l zs)))
      | none => .no
    | none => .no
theorem rd_mt {K : PySem.W.Frag} {i : Nat} {r : V → List V → Hp → VK → Prop} {f : List PyData → List PyData → Option (PyData × List PyData)} {t : Env → Rs (List PyData)} (hf : MtD K r f) {σ : L2.St} {H : Hp} {Q : VK} (h : rd K C (RE K) (eMt i f t) σ H Q) :
    tVar i σ H fun x H1 => tyV K "list" x H1 ∧ rd K C (RA K) t σ H1 fun xs H2 => r x xs H2 Q := by
  obtain ⟨env, ow, P, h⟩ := h
  unfold eMt at h
  cases hs : slotL env i with
  | none => rw [hs] at h; exact h.elim
  | some xs0 =>
    rw [hs] at h
    obtain ⟨a, vs, h1, h2, h3, h4, hz, hi⟩ := slot_l P hs
    refine ⟨.ref a, h1, ty_list h2, env, ow, P, rdAt_mono (rdAt_bind (R1 := RA K) h) fun ws H1 ⟨ys, e1, ow1, X1, V1, P1, h5⟩ => ?_⟩
    cases hs1 : slotL e1 i with
    | none => rw [hs1] at h5; exact h5.elim
    | some xs =>
      rw [hs1] at h5
      obtain ⟨a', vs', k1, k2, k3, k4, kz, ki⟩ := slot_l P1 hs1
      rw [h1] at k1
      cases k1
      have h5 : rdAt K C (RE K) σ H1 ow1 Q (match f xs ys with | some (o, zs) => .ok o (e1.set i (some (.l zs))) | none => .no) := h5
      cases hf1 : f xs ys with
      | none => rw [hf1] at h5; exact h5.elim
      | some oz =>
        obtain ⟨o, zs⟩ := oz
        rw [hf1] at h5
        refine hf a vs' ws xs ys o zs H1 ow1 Q k2 k3 kz V1 hf1 fun v us du dv hzz => ?_
        obtain ⟨P2, x, st⟩ := P1.upd h1 k4 ki du hzz
        exact h5 v _ ow1 x (dv.stay st) P2
variable {o e0 : Expr} {es : List Expr} {name : Str} {apos cpos : Pos} {id : String} {r : V → List V → Hp → VK → Prop} {f : List PyData → List PyData → Option (PyData × List PyData)}
theorem de_mt {i : Nat} {t : Env → Rs (List PyData)} (hf : MtD X.K r f) (slot : Slot "list" name id) (hty : typeOf (.builtin id) = pure (.type "method_descriptor")) (hm : MtR X id r) (ho : PE X o (tVar i)) (ha : DA X C (e0 :: es) t)
    (hbase : attributeBase o name X.env (eval o X.env) = eval o X.env := by rfl)
    (hfew : ((backTo cpos (starEach (e0 :: es) X.env)).all (fun x => !x.1) && (backToKw cpos (keywordEach [] X.env)).all (fun x => x.1.isSome)
      && decide ((e0 :: es).length + ([] : List Keyword).length + (if ([] : List Keyword).isEmpty then 0 else 1) < 30)) = true := by rfl)
    (hline : (apos.endLine == cpos.line) = true := by rfl) (hs : starEach (e0 :: es) X.env = (false, eval e0 X.env) :: starEach es X.env := by rfl) (hplain : (backTo cpos (starEach es X.env)).any (·.1) = false := by rfl) :
    DE X C (.Call (.Attribute o name apos) (e0 :: es) [] cpos) (eMt i f t) :=
  PEweak (pe_bm F.plainAttrs_list slot hty hm ho ha hbase hfew hline hs hplain) fun σ H Q h => rd_mt hf h
theorem de_mt0 {i : Nat} (hf : MtD X.K r f) (slot : Slot "list" name id) (hty : typeOf (.builtin id) = pure (.type "method_descriptor")) (hm : MtR X id r) (ho : PE X o (tVar i))
    (hbase : attributeBase o name X.env (eval o X.env) = eval o X.env := by rfl) (hline : (apos.endLine == cpos.line) = true := by rfl) : DE X C (.Call (.Attribute o name apos) [] [] cpos) (eMt i f aNil) :=
  PEweak (pe_bm0 F.plainAttrs_list slot hty hm ho hbase hline) fun σ H Q h => by
    obtain ⟨v, h1, h2, env, ow, P, h3⟩ := rd_mt hf h
    exact ⟨v, h1, h2, h3 [] H ow Ext.refl .nil P⟩
def mApp : List PyData → List PyData → Option (PyData × List PyData)
  | xs, [y] => if xs.length < 16777216 then some (.none, xs ++ [y]) else none
  | _, _ => none
def mPop : List PyData → List PyData → Option (PyData × List PyData)
  | xs, [] => xs.getLast?.map fun y => (y, xs.dropLast)
  | _, _ => none
def mPopAt : List PyData → List PyData → Option (PyData × List PyData)
  | xs, [.int i] => (ixN xs.length i).bind fun k => xs[k]?.map fun y => (y, xs.eraseIdx k)
  | _, _ => none
def mExt : List PyData → List PyData → Option (PyData × List PyData)
  | xs, [.list ys] => if xs.length + ys.length ≤ 16777216 then some (.none, xs ++ ys) else none
  | _, _ => none
def mRev : List PyData → List PyData → Option (PyData × List PyData)
  | xs, [] => some (.none, xs.reverse)
  | _, _ => none
variable {K : PySem.W.Frag}
theorem md_app : MtD K rAppend mApp := by
  intro a vs ws xs ys o zs H ow Q h1 h2 hz h3 e q
  unfold mApp at e
  split at e
  · obtain ⟨hl, e⟩ := if_some e
    cases e
    obtain ⟨w, rfl, d⟩ := h3.one
    exact ⟨a, vs, w, rfl, rfl, h1, by rw [sizeLine_eq, h2.length]; exact hl, q _ _ (h2.append (.cons d .nil)) .non (by rw [List.length_append, List.length_singleton]; omega)⟩
  · cases e
theorem md_pop : MtD K rPop mPop := by
  intro a vs ws xs ys o zs H ow Q h1 h2 hz h3 e q
  unfold mPop at e
  split at e
  · cases h3
    rw [List.getLast?_eq_getElem?] at e
    cases hx : xs[xs.length - 1]? with
    | none => rw [hx] at e; cases e
    | some y =>
      rw [hx] at e
      cases e
      obtain ⟨v, k1, k2⟩ := h2.get hx
      exact ⟨a, vs, v, rfl, rfl, h1, by rw [h2.length]; exact k1, q _ _ h2.dropLast k2 (by rw [List.length_dropLast]; omega)⟩
  · cases e
theorem md_popAt : MtD K rPopAt mPopAt := by
  intro a vs ws xs ys o zs H ow Q h1 h2 hz h3 e q
  unfold mPopAt at e
  split at e
  · rename_i i
    obtain ⟨w, rfl, d⟩ := h3.one
    cases d
    cases hi : ixN xs.length i with
    | none => rw [hi] at e; cases e
    | some k =>
      rw [hi] at e
      simp only [Option.bind_some] at e
      cases hx : xs[k]? with
      | none => rw [hx] at e; cases e
      | some y =>
        rw [hx] at e
        cases e
        obtain ⟨v, k1, k2⟩ := h2.get hx
        obtain ⟨s1, s2, s3, s4⟩ := ixN_seq hi
        exact ⟨a, vs, i, k, v, rfl, rfl, h1, by omega, by omega, by rw [h2.length]; exact s1, k1, q _ _ (h2.eraseIdx _) k2 (by rw [List.length_eraseIdx]; split <;> omega)⟩
  · cases e
theorem md_rev : MtD K rReverse mRev := by
  intro a vs ws xs ys o zs H ow Q h1 h2 hz h3 e q
  unfold mRev at e
  split at e
  · cases h3; cases e
    exact ⟨a, vs, rfl, rfl, h1, q _ _ h2.reverse .non (by rw [List.length_reverse]; exact hz)⟩
  · cases e
theorem md_ext : MtD K rExtend mExt := by
  intro a vs ws xs ys o zs H ow Q h1 h2 hz h3 e q
  unfold mExt at e
  split at e
  · obtain ⟨hl, e⟩ := if_some e
    cases e
    obtain ⟨w, rfl, d⟩ := h3.one
    cases d with
    | @lst b us ds k1 k2 k3 kz => exact ⟨a, b, vs, us, rfl, rfl, h1, k1, by rw [sizeLine_eq, h2.length, k3.length]; exact hl, q _ _ (h2.append k3) .non (by rw [List.length_append]; exact hl)⟩
  · cases e
/-- xs[k] = e -/
def setIt (i : Nat) (d k : PyData) (e : Env) : Out := match slotL e i with
  | some xs => match k with
    | .int j => match ixN xs.length j with
      | some n => .nx (e.set i (some (.l (xs.set n d))))
      | none => .no
    | _ => .no
  | none => .no
def sSetItem (i : Nat) (t tk : Env → Rs PyData) : Env → Out := sE t fun d e => match slotL e i with
  | none => .no
  | some _ => sE tk (setIt i d) e
end
end DL


namespace DL
open PySem PySem.Spec PyProof.Rows L2
section
variable {X : Cx} {C : Cc} {K : PySem.W.Frag} {e k : Expr} {pos tpos : Pos} {t tk : Env → Rs PyData}
/-! ### xs[k] = e, xs[k], xs[a:b] -/
theorem ds_setItem {i : Nat} {o : Expr} (h : DE X C e t) (ho : PE X o (tVar i)) (hk : DE X C k tk)
    (ha : ∀ v, assign (.Subscript o k tpos) X.env v = (do
      let ov ← holding [v] (eval o X.env)
      let iv ← holding [v, ov] (eval k X.env)
      standAt tpos
      holding [v, ov, iv] (setItem ov iv v)
      release [v, ov, iv] []) := by intro _; rfl)
    (hs : swapsWithSole [.Subscript o k tpos] e pos.line X.env = pure false := by rfl) (hw : swappedStores [.Subscript o k tpos] e X.env = pure none := by rfl)
    (h1 : (assignEach [.Subscript o k tpos] X.env).map (·.2) = [assign (.Subscript o k tpos) X.env] := by rfl) : DS X C (.Assign [.Subscript o k tpos] e pos) (sSetItem i t tk) :=
  PSweak (ps_asg h (pg_sub ho hk set_list ha) hs hw h1) fun D σ H ⟨env, ow, P, h⟩ => out_E (R := RE X.K) P h fun v H1 d e1 ow1 dv P1 q => by
    cases hs1 : slotL e1 i with
    | none => rw [hs1] at q; exact q.elim
    | some xs0 =>
      rw [hs1] at q
      obtain ⟨a, vs0, k1, k2, k3, k4, kz, ki⟩ := slot_l P1 hs1
      refine ⟨.ref a, k1, ?_⟩
      have q : outAt X.K C D H1 ow1 (sE tk (setIt i d) e1) := q
      refine out_EX (R := RE X.K) P1 q fun kv H2 kd e2 ow2 X2 dk P2 q => ?_
      have dv2 : DV X.K H2 ow2 v d := dv.stay X2.stay
      unfold setIt at q
      cases hs2 : slotL e2 i with
      | none => rw [hs2] at q; exact q.elim
      | some xs =>
        rw [hs2] at q
        obtain ⟨a', vs, l1, l2, l3, l4, lz, li⟩ := slot_l P2 hs2
        rw [k1] at l1
        cases l1
        cases dk with
        | int j =>
          have q : outAt X.K C D H2 ow2 (match ixN xs.length j with | some n => .nx (e2.set i (some (.l (xs.set n d)))) | none => .no) := q
          cases hn : ixN xs.length j with
          | none => rw [hn] at q; exact q.elim
          | some n =>
            rw [hn] at q
            obtain ⟨P3, x3, st3⟩ := P2.upd k1 l4 li (l3.set dv2 n) (by rw [List.length_set]; exact lz)
            exact ⟨a, vs, j, n, rfl, rfl, l2, by rw [l3.length]; exact hn, q σ _ ow2 x3 P3⟩
        | _ => exact q.elim
def dIx : PyData → PyData → Option PyData
  | .list xs, .int i => atI xs i
  | .tuple xs, .int i => atI xs i
  | .str z, .int i => if z.length ≤ 16777216 then (atI z.cps.toList i).map fun c => .str ⟨#[c]⟩ else none
  | _, _ => none
theorem atI_dv {H : Hp} {ow : Ow} {vs : List V} {ds : List PyData} (h : DVs K H ow vs ds) {i : Int} {d : PyData} (e : atI ds i = some d) : ∃ v, atI vs i = some v ∧ DV K H ow v d := by
  unfold atI at e ⊢
  rw [h.length]
  cases hn : ixN ds.length i with
  | none => rw [hn] at e; cases e
  | some n =>
    rw [hn] at e
    exact h.get e
theorem o2_ix : Op2 K (rIx K) dIx := by
  intro v w x y o H ow Q hv hw e q
  cases hw with
  | int i =>
    cases hv with
    | @lst a xs ds h1 h2 h3 hz =>
      obtain ⟨u, k1, k2⟩ := atI_dv h3 e
      exact .inl ⟨a, xs, i, u, rfl, rfl, .of h1, k1, q _ _ _ .refl k2⟩
    | @tup a xs ds h1 h3 hz =>
      obtain ⟨u, k1, k2⟩ := atI_dv h3 e
      exact .inr (.inl ⟨a, xs, i, u, rfl, rfl, h1.sq, k1, q _ _ _ .refl k2⟩)
    | str z =>
      have e : (if z.length ≤ 16777216 then (atI z.cps.toList i).map fun c => PyData.str ⟨#[c]⟩ else none) = some o := e
      by_cases hl : z.length ≤ 16777216
      · rw [if_pos hl] at e
        cases hc : atI z.cps.toList i with
        | none => rw [hc] at e; cases e
        | some c => rw [hc] at e; cases e; exact .inr (.inr ⟨z, i, c, rfl, rfl, by rw [sizeLine_eq]; exact hl, hc, q _ _ _ .refl (.str _)⟩)
      · rw [if_neg hl] at e; cases e
    | _ => cases e
  | _ => cases x <;> cases e
theorem de_ix {a b : Expr} {ta tb : Env → Rs PyData} (ha : DE X C a ta) (hb : DE X C b tb) (hs : PlainIx b) : DE X C (.Subscript a b pos) (e2 dIx ta tb) :=
  PEweak (pe_ix ix_seq ha hb hs) fun σ H Q h => rd_op o2_ix h
/-- an item of an owned list -/
def eIxO (i : Nat) (tb : Env → Rs PyData) : Env → Rs PyData := fun env => match slotL env i with
  | none => .no
  | some _ => (tb env).bind fun k e => match slotL e i, k with
    | some xs, .int j => lift (atI xs j) e
    | _, _ => .no
theorem de_ixO {i : Nat} {a b : Expr} {tb : Env → Rs PyData} (ha : PE X a (tVar i)) (hb : DE X C b tb) (hs : PlainIx b) : DE X C (.Subscript a b pos) (eIxO i tb) :=
  PEweak (pe_ix ix_list ha hb hs) fun σ H Q ⟨env, ow, P, h⟩ => by
    unfold eIxO at h
    cases hs : slotL env i with
    | none => rw [hs] at h; exact h.elim
    | some xs0 =>
      rw [hs] at h
      obtain ⟨a, vs0, k1, k2, k3, k4, kz, ki⟩ := slot_l P hs
      refine ⟨.ref a, k1, env, ow, P, rdAt_mono (rdAt_bind (R1 := RE X.K) h) fun kv H1 ⟨kd, e1, ow1, X1, V1, P1, h1⟩ => ?_⟩
      cases hs1 : slotL e1 i with
      | none => rw [hs1] at h1; exact h1.elim
      | some xs =>
        rw [hs1] at h1
        obtain ⟨a', vs, l1, l2, l3, l4, lz, li⟩ := slot_l P1 hs1
        rw [k1] at l1
        cases l1
        cases V1 with
        | int j =>
          obtain ⟨d, e, h1⟩ := rdAt_lift (v := V.non) h1
          obtain ⟨u, m1, m2⟩ := atI_dv l3 e
          exact ⟨a, vs, j, u, rfl, rfl, .of l2, m1, h1 _ _ _ Ext.refl m2 P1⟩
        | _ => exact h1.elim
/-- slices -/
def cutD (xs : List PyData) (lo hi : Option Int) : List PyData := (xs.drop (HT.sIx xs.length 0 lo)).take (HT.sIx xs.length xs.length hi - HT.sIx xs.length 0 lo)
theorem cut_dv {H : Hp} {ow : Ow} {vs : List V} {ds : List PyData} (h : DVs K H ow vs ds) (lo hi : Option Int) : DVs K H ow (cutV vs lo hi) (cutD ds lo hi) := by
  unfold cutV cutD
  rw [h.length]
  exact (h.drop _).take _
theorem cutD_length (xs : List PyData) (lo hi : Option Int) : (cutD xs lo hi).length ≤ xs.length := by
  unfold cutD
  rw [List.length_take, List.length_drop]
  omega
def oInt : PyData → Option (Option Int)
  | .int i => some (some i)
  | _ => none
def pNo : Env → Rs (Option Int) := fun e => .ok none e
def pSome (t : Env → Rs PyData) : Env → Rs (Option Int) := fun env => (t env).bind fun d e => lift (oInt d) e
def DP (X : Cx) (C : Cc) (e : Option Expr) (t : Env → Rs (Option Int)) : Prop := PO X e (rd X.K C (fun _ _ (a b : Option Int) => a = b) t)
theorem POweak {X : Cx} {e : Option Expr} {t t' : TO} (h : PO X e t) (w : ∀ σ H Q, t' σ H Q → t σ H Q) : PO X e t' := ⟨fun pins s σ H Q I q => h.run pins s σ H Q I (w σ H Q q)⟩
theorem dp_no : DP X C none pNo := POweak po_none fun σ H Q ⟨env, ow, P, h⟩ => h none H ow Ext.refl rfl P
theorem dp_some {e : Expr} {t : Env → Rs PyData} (h : DE X C e t) : DP X C (some e) (pSome t) :=
  POweak (po_some h) fun σ H Q h => rd_one (R1 := RE X.K) h fun v x H ow env hv P h => by
    obtain ⟨o, e, h⟩ := rdAt_lift (v := (none : Option Int)) h
    cases hv with
    | int i => cases e; exact ⟨i, rfl, h _ H ow Ext.refl rfl P⟩
    | _ => cases e
def dSlice : PyData → Option Int → Option Int → Option PyData
  | .list xs, lo, hi => some (.list (cutD xs lo hi))
  | .tuple xs, lo, hi => some (.tuple (cutD xs lo hi))
  | _, _, _ => none
def eSlice (t : Env → Rs PyData) (lo hi : Env → Rs (Option Int)) : Env → Rs PyData := fun env => (t env).bind fun x e1 => (lo e1).bind fun l e2 => (hi e2).bind fun u e3 => lift (dSlice x l u) e3
theorem de_slice {lo hi : Option Expr} {tl th : Env → Rs (Option Int)} {p2 : Pos} (h : DE X C e t) (hl : DP X C lo tl) (hh : DP X C hi th) : DE X C (.Subscript e (.Slice lo hi none p2) pos) (eSlice t tl th) :=
  PEweak (pe_slice (sl_list.or DLT.sl_tupZ) h hl hh) fun σ H Q ⟨env, ow, P, h⟩ => ⟨env, ow, P, rdAt_mono (rdAt_bind (R1 := RE X.K) h) fun v H1 ⟨x, e1, ow1, X1, V1, P1, h1⟩ =>
    ⟨e1, ow1, P1, rdAt_mono (rdAt_bind (R1 := fun _ _ (a b : Option Int) => a = b) h1) fun l H2 ⟨l', e2, ow2, X2, V2, P2, h2⟩ =>
      ⟨e2, ow2, P2, rdAt_mono (rdAt_bind (R1 := fun _ _ (a b : Option Int) => a = b) h2) fun u H3 ⟨u', e3, ow3, X3, V3, P3, h3⟩ => by
        cases V2
        cases V3
        obtain ⟨o, e, h3⟩ := rdAt_lift (v := V.non) h3
        have V := (V1.stay X2.stay).stay X3.stay
        cases V with
        | @lst a xs ds k1 k2 k3 kz =>
          cases e
          exact .inl ⟨a, xs, rfl, .of k1, fun p hp => rdAt_fin h3 (Gr.new hp) (.lst upd_same off_same ((cut_dv k3 l u).stay (Gr.new hp).stay) (Nat.le_trans (cutD_length ..) kz)) P3⟩
        | @tup a xs ds k1 k3 kz =>
          cases e
          refine .inr ⟨a, xs, rfl, k1.sq, fun hw => ?_, fun hw zo p hd hp => rdAt_fin h3 (Gr.new hp) (.tup (.new hd) ((cut_dv k3 l u).stay (Gr.new hp).stay) (Nat.le_trans (cutD_length ..) kz)) P3⟩
          have e : cutD ds l u = ds := by
            unfold cutD
            rw [k3.length] at hw
            rw [hw.1, hw.2, List.drop_zero, Nat.sub_zero, List.take_length]
          rw [e] at h3
          exact h3 _ H3 ow3 Ext.refl (.tup k1 k3 kz) P3
        | _ => cases e⟩⟩⟩

/-! ### a list is read while it stays owned -/
def scalar : PyData → Bool
  | .none | .bool _ | .int _ | .str _ => true
  | _ => false
theorem DV.scal {H H' : Hp} {ow ow' : Ow} {v : V} {d : PyData} (h : DV K H ow v d) (s : scalar d = true) : DV K H' ow' v d := by
  cases h with
  | non => exact .non
  | bl b => exact .bl b
  | int b => exact .int b
  | str b => exact .str b
  | lst => cases s
  | tup => cases s
theorem Gr.back {H H' : Hp} {ow ow' : Ow} {a : Addr} {i : Nat} (g : Gr H (off ow a) H' ow') (h : ow a = some i) : Gr H ow H' (give ow' a i) := fun b o hb => by
  obtain ⟨p, q⟩ := g b o hb
  by_cases z : b = a
  · subst z; exact ⟨p, give_same.trans h.symm⟩
  · exact ⟨p, by rw [give_ne z, q, off_ne z]⟩
def chkS : Option PyData → Option PyData
  | some d => if scalar d = true then some d else none
  | none => none
theorem chkS_some {o : Option PyData} {d : PyData} (h : chkS o = some d) : o = some d ∧ scalar d = true := by
  cases o with
  | none => cases h
  | some x => obtain ⟨a, rfl⟩ := if_some h; exact ⟨rfl, a⟩
/-- len(xs), sum(xs), .. of an owned list -/
def eBO (i : Nat) (f : List PyData → Option PyData) : Env → Rs PyData := fun env => lift ((slotL env i).bind fun ds => chkS (f [.list ds])) env
theorem rd_BO {r : List V → Hp → VK → Prop} {f : List PyData → Option PyData} {i : Nat} (hf : OpB K r f) {σ : L2.St} {H : Hp} {Q : VK} (h : rd K C (RE K) (eBO i f) σ H Q) : tCB r (tCons (tVar i) tNil) σ H Q := by
  obtain ⟨env, ow, P, h⟩ := h
  obtain ⟨d, e, h⟩ := rdAt_lift (v := V.non) h
  cases hs : slotL env i with
  | none => rw [hs] at e; cases e
  | some ds =>
    rw [hs] at e
    obtain ⟨e, sc⟩ := chkS_some e
    obtain ⟨a, vs, h1, h2, h3, h4, hz, hi⟩ := slot_l P hs
    obtain ⟨P', x, dv⟩ := freeze P h1 h2 h3 h4 hz hi
    exact ⟨_, h1, hf _ _ d H (off ow a) Q (.cons dv .nil) e fun v' H' ow' g d => h v' H' _ (g.back h4).ext (d.scal sc) (P.gr (g.back h4))⟩
theorem de_BO {i : Nat} {x : Str} {id : String} {e : Expr} {p : Pos} {r : List V → Hp → VK → Prop} {f : List PyData → Option PyData} (hc : CallR X (.builtin id) r) (hf : OpB X.K r f) (hg : Gl X x) (hm : X.mg x = none) (hv : bootBuiltins x = some (.builtin id)) (ha : PE X e (tVar i))
    (hn : x ≠ "__name__" := by decide) (hdb : (x == ("__debug__" : Str)) = false := by decide)
    (he : starEach [e] X.env = (false, eval e X.env) :: starEach [] X.env := by rfl) (hpl : (backTo pos (starEach [] X.env)).any (·.1) = false := by rfl) : DE X C (.Call (.Name x p) [e] [] pos) (eBO i f) :=
  PEweak (pe_callB hc hg hm hv (pa_cons ha pa_nil he) hn hdb he hpl) fun σ H Q h => rd_BO hf h
/-- t op xs, xs an owned list -/
def e2R (f : PyData → PyData → Option PyData) (t : Env → Rs PyData) (i : Nat) : Env → Rs PyData := fun env => (t env).bind fun x e => lift ((slotL e i).bind fun ds => chkS (f x (.list ds))) e
theorem rd_2R {r : R2} {f : PyData → PyData → Option PyData} {i : Nat} (hf : Op2 K r f) {σ : L2.St} {H : Hp} {Q : VK} (h : rd K C (RE K) (e2R f t i) σ H Q) : tOp r (rd K C (RE K) t) (tVar i) σ H Q := by
  refine rd_one (R1 := RE K) h fun v x H ow env hv P h => ?_
  obtain ⟨d, e, h⟩ := rdAt_lift (v := V.non) h
  cases hs : slotL env i with
  | none => rw [hs] at e; cases e
  | some ds =>
    rw [hs] at e
    obtain ⟨e, sc⟩ := chkS_some e
    obtain ⟨a, vs, h1, h2, h3, h4, hz, hi⟩ := slot_l P hs
    obtain ⟨P', X', dv⟩ := freeze P h1 h2 h3 h4 hz hi
    exact ⟨_, h1, hf _ _ x _ d H (off ow a) Q (hv.stay X'.stay) dv e fun v' H' ow' g d => h v' H' _ (g.back h4).ext (d.scal sc) (P.gr (g.back h4))⟩
theorem de_cmpR {i : Nat} {a b : Expr} {op : CmpOp} {r : R2} {f : PyData → PyData → Option PyData} (ho : OpR X (compareOp op) r) (hop : Op2 X.K r f) (ha : DE X C a t) (hb : PE X b (tVar i)) (hm : behindInMarks op b = false) : DE X C (.Compare a [op] [b] pos) (e2R f t i) :=
  PEweak (pe_cmpR ho ha hb hm) fun σ H Q h => rd_2R hop h
theorem dt_cmpR {i : Nat} {a b : Expr} {op : CmpOp} {r : R2} {f : PyData → PyData → Option PyData} (ho : OpR X (compareOp op) r) (hop : Op2 X.K r f) (ha : DE X C a t) (hb : PE X b (tVar i)) (hm : behindInMarks op b = false) : DT X C (.Compare a [op] [b] pos) (tb1 (e2R f t i)) :=
  PTweak (pt_cmpR ho ha hb hm) fun σ H Q h => rd_2R hop (rd_tb h)
/-- truth of an owned list -/
def ttO (i : Nat) : Env → Rs Bool := fun env => lift ((slotL env i).map fun ds => !ds.isEmpty) env
theorem dt_truthO {i : Nat} {e : Expr} (h : PE X e (tVar i)) (he : ∀ whole, isTrue e X.env whole = (do let v ← whole; standAt e.pos; holding [v] (truthy v)) := by intro _; rfl) : DT X C e (ttO i) :=
  PTweak (pt_truth h he) fun σ H Q ⟨env, ow, P, h⟩ => by
    obtain ⟨d, e, h⟩ := rdAt_lift (v := true) h
    cases hs : slotL env i with
    | none => rw [hs] at e; cases e
    | some ds =>
      rw [hs] at e
      cases e
      obtain ⟨a, vs, h1, h2, h3, h4, hz, hi⟩ := slot_l P hs
      exact ⟨_, h1, _, .inl ⟨vs, .of h2, by rw [h3.isEmpty]⟩, h _ H ow Ext.refl rfl P⟩
/-- tuple(xs), list(xs) of an owned list: a copy -/
def eTupO (i : Nat) : Env → Rs PyData := fun env => lift ((slotL env i).map fun ds => .tuple ds) env
theorem de_tupO {i : Nat} {e : Expr} {p : Pos} (hg : Gl X "tuple") (hm : X.mg "tuple" = none) (hv : bootBuiltins "tuple" = some (.type "tuple")) (ha : PE X e (tVar i))
    (he : starEach [e] X.env = (false, eval e X.env) :: starEach [] X.env := by rfl) (hpl : (backTo pos (starEach [] X.env)).any (·.1) = false := by rfl) : DE X C (.Call (.Name "tuple" p) [e] [] pos) (eTupO i) :=
  PEweak (pe_callTy DLT.call_tupZ hg hm hv (pa_cons ha pa_nil he) (by decide) (by decide) he hpl) fun σ H Q ⟨env, ow, P, h⟩ => by
    obtain ⟨d, e, h⟩ := rdAt_lift (v := V.non) h
    cases hs : slotL env i with
    | none => rw [hs] at e; cases e
    | some ds =>
      rw [hs] at e
      cases e
      obtain ⟨a, vs, h1, h2, h3, h4, hz, hi⟩ := slot_l P hs
      exact ⟨_, h1, a, vs, rfl, .inl ⟨.of h2, fun zo l hd hl => rdAt_fin h (Gr.new hl) (.tup (.new hd) (h3.stay (Gr.new hl).stay) hz) P⟩⟩
def eListO (i : Nat) : Env → Rs PyData := fun env => lift ((slotL env i).map fun ds => .list ds) env
theorem de_listO {i : Nat} {e : Expr} {p : Pos} (hg : Gl X "list") (hm : X.mg "list" = none) (hv : bootBuiltins "list" = some (.type "list")) (ha : PE X e (tVar i))
    (he : starEach [e] X.env = (false, eval e X.env) :: starEach [] X.env := by rfl) (hpl : (backTo pos (starEach [] X.env)).any (·.1) = false := by rfl) : DE X C (.Call (.Name "list" p) [e] [] pos) (eListO i) :=
  PEweak (pe_callTy call_list_of hg hm hv (pa_cons ha pa_nil he) (by decide) (by decide) he hpl) fun σ H Q ⟨env, ow, P, h⟩ => by
    obtain ⟨d, e, h⟩ := rdAt_lift (v := V.non) h
    cases hs : slotL env i with
    | none => rw [hs] at e; cases e
    | some ds =>
      rw [hs] at e
      cases e
      obtain ⟨a, vs, h1, h2, h3, h4, hz, hi⟩ := slot_l P hs
      exact ⟨_, h1, a, vs, rfl, .inl (.of h2), fun l hl => rdAt_fin h (Gr.new hl) (.lst upd_same off_same (h3.stay (Gr.new hl).stay) hz) P⟩
end
end DL


namespace DL
open PySem PySem.Spec PyProof.Rows L2
section
variable {X : Cx} {C : Cc} {K : PySem.W.Frag} {pos : Pos}
/-! ### loops -/
def forGo (g : PyData → Env → Option Env) (body : Env → Out) : List PyData → Env → Out
  | [], e => .nx e
  | x :: xs, e => match g x e with
    | none => .no
    | some e1 => match body e1 with
      | .nx e2 => forGo g body xs e2
      | .ct e2 => forGo g body xs e2
      | .bk e2 => .nx e2
      | .rt m e2 => .rt m e2
      | .ex x e2 => .ex x e2
      | .no => .no
def sFor (it : Env → Rs (List PyData)) (g : PyData → Env → Option Env) (body : Env → Out) : Env → Out := sE it (forGo g body)
theorem rd_for {it : Env → Rs (List PyData)} {g : PyData → Env → Option Env} {ts : List Nat} {body : Env → Out} {D : Ends} {σ : L2.St} {H : Hp} (h : rdS K C (sFor it g body) D σ H) :
    tFor (rd K C (RI K) it) (rdG K C ts g) (rdS K C body) D σ H := by
  obtain ⟨env, ow, P, h⟩ := h
  refine out_EX (R := RI K) P h fun J H1 ds e1 ow1 X1 ⟨G, W, hG⟩ P1 h1 => ?_
  refine for_it (n := ds.length) (G := fun H => ∃ ow, G H ow) (Y := fun i H x H' => ∀ ow, G H ow → ∃ ow' d, ds[i]? = some d ∧ Gr H ow H' ow' ∧ DV K H' ow' x d)
    ⟨fun i H hi ⟨ow, q⟩ => W.goes i H ow hi q, fun H ⟨ow, q⟩ => W.stops H ow q, fun i H x H' hi ⟨ow, q⟩ y ow' q' => W.yields i H ow' x H' hi q' y⟩
    (fun i σ2 H2 => ∃ env2 ow2, G H2 ow2 ∧ RpE K C H2 ow2 σ2 env2 ∧ outAt K C D H2 ow2 (forGo g body (ds.drop i) env2)) ?_ ?_ ?_ ?_
  · exact ⟨e1, ow1, hG, P1, by rw [List.drop_zero]; exact h1⟩
  · rintro i σ2 H2 _ ⟨env2, ow2, q, _⟩
    exact ⟨ow2, q⟩
  · rintro i x σ2 H2 H3 hi ⟨env2, ow2, a5, a7, a8⟩ y
    obtain ⟨ow3, d, e2, g3, d3⟩ := y ow2 a5
    have hd : ds.drop i = d :: ds.drop (i + 1) := by
      have hl : i < ds.length := hi
      rw [List.drop_eq_getElem_cons hl]
      rw [List.getElem?_eq_getElem hl] at e2
      cases e2; rfl
    rw [hd, forGo] at a8
    replace a8 := outAt_from (Gr.ext g3) a8
    refine ⟨env2, ow3, d, a7.gr g3, d3, ?_⟩
    cases e3 : g d env2 with
    | none => rw [e3] at a8; exact a8.elim
    | some env3 =>
      rw [e3] at a8
      intro σ3 hσ P3
      refine ⟨env3, ow3, P3, ?_⟩
      have a8 : outAt K C D H3 ow3 (match body env3 with
        | .nx e2 => forGo g body (ds.drop (i + 1)) e2
        | .ct e2 => forGo g body (ds.drop (i + 1)) e2
        | .bk e2 => .nx e2
        | .rt m e2 => .rt m e2
        | .ex x e2 => .ex x e2
        | .no => .no) := a8
      have G3 : G H3 ow3 := W.st _ _ _ _ a5 g3.stay
      cases e4 : body env3 with
      | nx e => rw [e4] at a8; exact fun σ4 H4 ow4 X4 P4 => ⟨e, ow4, W.st _ _ _ _ G3 X4.stay, P4, outAt_from X4 a8⟩
      | ct e => rw [e4] at a8; exact fun σ4 H4 ow4 X4 P4 => ⟨e, ow4, W.st _ _ _ _ G3 X4.stay, P4, outAt_from X4 a8⟩
      | bk e => rw [e4] at a8; exact a8
      | rt m e => rw [e4] at a8; exact a8
      | ex x e => rw [e4] at a8; exact a8
      | no => rw [e4] at a8; exact a8
  · rintro σ2 H2 ⟨env2, ow2, a5, a7, a8⟩
    rw [List.drop_length] at a8
    exact a8 σ2 H2 ow2 Ext.refl a7
theorem ds_for {tg iter : Expr} {sts : List Stmt} {it : Env → Rs (List PyData)} {g : PyData → Env → Option Env} {ts : List Nat} {body : Env → Out} (hp : PassesOwn (model X.prog X.w) X.A X.env X.xe) (hc : X.calm = true) (hi : DI X C tg iter it) (hg : DG X C tg ts g) (hb : DSs X C sts body)
    (hs : ∀ x, foldedSetIterable iter X.env x = pure x := by intro _; rfl) : DS X C (.For tg iter sts [] pos) (sFor it g body) :=
  PSweak (ps_for hp hc hi hg hb hs) fun D σ H h => rd_for h
def whileGo (c : Env → Rs Bool) (body : Env → Out) : Nat → Env → Out
  | 0, _ => .no
  | n + 1, e => match c e with
    | .ok true e1 => match body e1 with
      | .nx e2 => whileGo c body n e2
      | .ct e2 => whileGo c body n e2
      | .bk e2 => .nx e2
      | .rt m e2 => .rt m e2
      | .ex x e2 => .ex x e2
      | .no => .no
    | .ok false e1 => .nx e1
    | .ex x e1 => .ex x e1
    | .no => .no
open Classical in
noncomputable def sWhile (c : Env → Rs Bool) (body : Env → Out) : Env → Out := fun e => if h : ∃ n, whileGo c body n e ≠ .no then whileGo c body (Classical.choose h) e else .no
theorem whileGo_mono {c : Env → Rs Bool} {body : Env → Out} : ∀ {n m : Nat} {e : Env}, n ≤ m → whileGo c body n e ≠ .no → whileGo c body m e = whileGo c body n e
  | 0, _, _, _, h => absurd rfl h
  | n + 1, 0, _, hm, _ => absurd hm (by omega)
  | n + 1, m + 1, e, hm, h => by
    have ih := @whileGo_mono c body n m
    unfold whileGo at h ⊢
    cases hc : c e with
    | ok b e1 =>
      rw [hc] at h
      cases b with
      | false => rfl
      | true =>
        cases hb : body e1 with
        | nx e2 => simp only [hb] at h ⊢; exact ih (by omega) h
        | ct e2 => simp only [hb] at h ⊢; exact ih (by omega) h
        | _ => simp only [hb]
    | ex x e1 => rfl
    | no => rfl
theorem sWhile_eq {c : Env → Rs Bool} {body : Env → Out} {n : Nat} {e : Env} {o : Out} (h : whileGo c body n e = o) (ho : o ≠ .no) : sWhile c body e = o := by
  have hx : ∃ n, whileGo c body n e ≠ .no := ⟨n, by rw [h]; exact ho⟩
  unfold sWhile
  rw [dif_pos hx]
  have h1 := Classical.choose_spec hx
  rcases Nat.le_total n (Classical.choose hx) with l | l
  · rw [whileGo_mono l (by rw [h]; exact ho)]; exact h
  · rw [← whileGo_mono l h1]; exact h
theorem sWhile_get {c : Env → Rs Bool} {body : Env → Out} {e : Env} (h : sWhile c body e ≠ .no) : ∃ n, sWhile c body e = whileGo c body n e := by
  by_cases hx : ∃ n, whileGo c body n e ≠ .no
  · exact ⟨Classical.choose hx, by unfold sWhile; rw [dif_pos hx]⟩
  · exact absurd (by unfold sWhile; rw [dif_neg hx]) h
theorem ds_while {c : Expr} {sts : List Stmt} {tc : Env → Rs Bool} {body : Env → Out} (hp : PassesOwn (model X.prog X.w) X.A X.env X.xe) (hc : DT X C c tc) (hb : DSs X C sts body) : DS X C (.While c sts [] pos) (sWhile tc body) :=
  PSweak (ps_while hp hc hb) fun D σ H ⟨env, ow, P, h⟩ => by
    have hne : sWhile tc body env ≠ .no := fun z => by rw [z] at h; exact h
    obtain ⟨n, en⟩ := sWhile_get hne
    rw [en] at h
    refine ⟨fun m σ2 H2 => ∃ env2 ow2, RpE X.K C H2 ow2 σ2 env2 ∧ outAt X.K C D H2 ow2 (whileGo tc body m env2), ⟨n, env, ow, P, h⟩, ?_⟩
    rintro m σ2 H2 ⟨env2, ow2, P2, h2⟩
    cases m with
    | zero => exact h2.elim
    | succ m =>
      refine ⟨env2, ow2, P2, ?_⟩
      unfold whileGo at h2
      cases e1 : tc env2 with
      | no => rw [e1] at h2; exact h2.elim
      | ex x e => rw [e1] at h2; exact fun cc dx H3 ow3 y z w => h2 cc dx σ2 H3 ow3 y z w
      | ok b env3 =>
        rw [e1] at h2
        intro b' H3 ow3 X3 eb P3
        cases eb
        cases b with
        | false => exact iteF (h2 σ2 H3 ow3 X3 P3)
        | true =>
          refine iteT ⟨fun σ4 H4 => ∃ env2 ow2, RpE X.K C H4 ow2 σ4 env2 ∧ outAt X.K C D H4 ow2 (whileGo tc body m env2), fun σ' H' q => ⟨m, by omega, q⟩, env3, ow3, P3, ?_⟩
          replace h2 := outAt_from X3 h2
          have h2 : outAt X.K C D H3 ow3 (match body env3 with
            | .nx e2 => whileGo tc body m e2
            | .ct e2 => whileGo tc body m e2
            | .bk e2 => .nx e2
            | .rt m e2 => .rt m e2
            | .ex x e2 => .ex x e2
            | .no => .no) := h2
          cases e4 : body env3 with
          | nx e => rw [e4] at h2; exact fun σ4 H4 ow4 X4 P4 => ⟨e, ow4, P4, outAt_from X4 h2⟩
          | ct e => rw [e4] at h2; exact fun σ4 H4 ow4 X4 P4 => ⟨e, ow4, P4, outAt_from X4 h2⟩
          | bk e => rw [e4] at h2; exact h2
          | rt m e => rw [e4] at h2; exact h2
          | ex x e => rw [e4] at h2; exact h2
          | no => rw [e4] at h2; exact h2

/-! ### defs -/
inductive FOut where
  | rt (m : M) (os : List (Option M))
  | ex (x : Exn) (os : List (Option M))
  | no
abbrev Fn := List M → FOut
def outs : List Bool → Env → List (Option M)
  | b :: r, m :: e => (if b = true then m else none) :: outs r e
  | _, _ => []
def start0 (n : Nat) (ms : List M) : Env := ms.map some ++ List.replicate (n - ms.length) none
def runDef (ios : List Bool) (n : Nat) (body : Env → Out) : Fn := fun ms => match body (start0 n ms) with
  | .nx e => .rt (.d .none) (outs ios e)
  | .rt m e => .rt m (outs ios e)
  | .ex x e => .ex x (outs ios e)
  | _ => .no
theorem outs_get : ∀ {ios : List Bool} {e : Env} {i : Nat} {m : M}, (outs ios e)[i]? = some (some m) → ios.getD i false = true ∧ e[i]? = some (some m)
  | [], _, _, _, h => by simp [outs] at h
  | _ :: _, [], _, _, h => by simp [outs] at h
  | b :: r, m0 :: e, 0, m, h => by
    simp only [outs, List.getElem?_cons_zero] at h
    cases b with
    | false => cases h
    | true => exact ⟨rfl, h⟩
  | b :: r, m0 :: e, i + 1, m, h => by
    simp only [outs, List.getElem?_cons_succ] at h
    obtain ⟨a, b⟩ := outs_get h
    exact ⟨by simpa using a, by simpa using b⟩
def RpL (K : PySem.W.Frag) (H : Hp) (ow : Ow) (vs : List V) (ms : List M) : Prop := ∀ (i : Nat) (m : M), ms[i]? = some m → ∃ v fp, vs[i]? = some v ∧ VM K H ow v m fp ∧ fp.Nodup ∧ ∀ p ∈ fp, ow p = some i
def RpO (K : PySem.W.Frag) (H : Hp) (ow : Ow) (vs : List V) (os : List (Option M)) : Prop := ∀ (i : Nat) (m : M), os[i]? = some (some m) → ∃ v fp, vs[i]? = some v ∧ VM K H ow v m fp ∧ fp.Nodup ∧ ∀ p ∈ fp, ow p = some i
def foAt (K : PySem.W.Frag) (cl : Str → Option Addr) (n : Nat) (vs : List V) (H : Hp) (ow : Ow) (Q : VK) (E : XK) : FOut → Prop
  | .rt m os => ∀ v H' ow', Ext n H ow H' ow' → RM K n H' ow' v m → RpO K H' ow' vs os → Q v H'
  | .ex x os => ∀ c dx H' ow', Ext n H ow H' ow' → XR K ⟨n, fun _ => none, cl, fun _ _ _ _ => False⟩ H' ow' x c dx → RpO K H' ow' vs os → E c dx H'
  | .no => False
def spD (K : PySem.W.Frag) (cl : Str → Option Addr) (n ar : Nat) (F : Fn) : Sp := fun vs H Q E => vs.length = ar ∧ ∃ ms ow, ms.length = ar ∧ RpL K H ow vs ms ∧ foAt K cl n vs H ow Q E (F ms)
def ioOf (ios : List Bool) (vs : List V) : Nat → Option V := fun i => if ios.getD i false = true then vs[i]? else none
theorem start_get {N : List Str} {vs : List V} {i : Nat} {v : V} (h : vs[i]? = some v) : (L2.start N vs)[i]? = some (some v) := by
  unfold L2.start
  have hi := (List.getElem?_eq_some_iff.mp h).1
  rw [List.getElem?_append_left (by simpa using hi), List.getElem?_map, h]
  rfl
theorem rp_start {N : List Str} {vs : List V} {ms : List M} {H : Hp} {ow : Ow} {ios : List Bool} {cl : Str → Option Addr} {W : WX} (hl : vs.length ≤ N.length) (hm : ms.length = vs.length) (h : RpL K H ow vs ms) : RpE K ⟨N.length, ioOf ios vs, cl, W⟩ H ow (L2.start N vs) (start0 N.length ms) := by
  refine ⟨fun i m e => ?_, fun i v e => ?_, ?_, ?_⟩
  · unfold start0 at e
    by_cases hi : i < ms.length
    · rw [List.getElem?_append_left (by simpa using hi), List.getElem?_map] at e
      cases hms : ms[i]? with
      | none => rw [hms] at e; cases e
      | some m' =>
        rw [hms] at e
        cases e
        obtain ⟨v, fp, a, b⟩ := h i m hms
        exact ⟨v, fp, start_get a, b⟩
    · rw [List.getElem?_append_right (by simpa using hi), List.getElem?_replicate] at e
      split at e
      · cases e
      · cases e
  · have e : (if ios.getD i false = true then vs[i]? else none) = some v := e
    by_cases hb : ios.getD i false = true
    · rw [if_pos hb] at e
      exact start_get e
    · rw [if_neg hb] at e; cases e
  · show (start0 N.length ms).length = N.length
    unfold start0
    rw [List.length_append, List.length_map, List.length_replicate]
    omega
  · show (L2.start N vs).length = N.length
    unfold L2.start
    rw [List.length_append, List.length_map, List.length_replicate]
    omega
/-- a def keeps its promise, by its body -/
theorem fn_d {P : Program} {w : World} {mg : Str → Option Value} {base : Heap} {x qual : Str} {st : Stmt} {f : Addr} {fd : FuncData} {N ps : List Str} {k : Nat} {cl : Str → Option Addr} {ios : List Bool} {body : Env → Out} (F : Fun K x qual st f fd) (S : FnScope N ps (defScope st)) (hps : ps.length ≤ N.length) (hios : ios.length ≤ ps.length)
    (hb : ∀ (cdv : Value) (A : Around) (outer : List PySem.Env) (s : Shared) (H : Hp) (vs : List V) (E : XK), Room k (A.deeper (envOfC qual (defScope st) s.heap.objs.size f cdv)) →
      DSs (cxOf CX0 P w K mg base N qual (defScope st) f cdv A outer s H E).nox ⟨N.length, ioOf ios vs, cl, fun c d σ H => E c d H⟩ (defBody st) body) :
    FnOk P w K mg base CX0 (k + 1) f fd ps (spD K cl N.length ps.length (runDef ios N.length body)) := by
  refine F.ok S (fun vs H Q E h => h.1) fun cdv A outer s H vs Q E hr ⟨hl, ms, ow, hm, hp, hf⟩ => ⟨_, hb cdv A outer s H vs E hr, ?_⟩
  have P0 : RpE K ⟨N.length, ioOf ios vs, cl, fun c d σ H => E c d H⟩ H ow (L2.start N vs) (start0 N.length ms) := rp_start (by omega) (by omega) hp
  refine ⟨_, ow, P0, ?_⟩
  have ro : ∀ {H' : Hp} {ow' : Ow} {σ' : L2.St} {e : Env}, RpE K ⟨N.length, ioOf ios vs, cl, fun c d σ H => E c d H⟩ H' ow' σ' e → RpO K H' ow' vs (outs ios e) := fun {H' ow' σ' e} P' i m hi => by
    obtain ⟨a, b⟩ := outs_get hi
    obtain ⟨v, fp, c1, c2, c3, c4⟩ := P'.sl i m b
    have hv : vs[i]? = some v := by
      have hlt : i < vs.length := by
        have : i < ios.length := Nat.lt_of_not_le fun z => by
          rw [List.getD_eq_getElem?_getD, List.getElem?_eq_none z] at a
          cases a
        omega
      have h2 := P'.io i vs[i] (by show (if ios.getD i false = true then vs[i]? else none) = _; rw [if_pos a]; simp)
      rw [c1] at h2
      cases h2
      simp
    exact ⟨v, fp, hv, c2, c3, c4⟩
  unfold runDef at hf
  cases e : body (start0 N.length ms) with
  | nx env => rw [e] at hf; exact fun σ' H' ow' x P' => hf .non H' ow' x ⟨[], .d .non, by simp, fun p hp => by cases hp⟩ (ro P')
  | rt m env => rw [e] at hf; exact fun v σ' H' ow' x r P' => hf v H' ow' x r (ro P')
  | ex x env => rw [e] at hf; exact fun c dx σ' H' ow' x r P' => hf c dx H' ow' x r (ro P')
  | bk env => rw [e] at hf; exact hf.elim
  | ct env => rw [e] at hf; exact hf.elim
  | no => rw [e] at hf; exact hf.elim
end
end DL


namespace DL
open PySem PySem.Spec PyProof.Rows L2
/-! ### calls of defs -/
/-- an argument: data, or a slot that the callee may change -/
inductive AV where
  | d (x : PyData)
  | s (j : Nat)
inductive RVi (K : PySem.W.Frag) (σ : L2.St) (H : Hp) (ow : Ow) : List V → List AV → Prop
  | nil : RVi K σ H ow [] []
  | d {v : V} {x : PyData} {vs : List V} {r : List AV} : DV K H ow v x → RVi K σ H ow vs r → RVi K σ H ow (v :: vs) (.d x :: r)
  | s {v : V} {j : Nat} {vs : List V} {r : List AV} : σ[j]? = some (some v) → RVi K σ H ow vs r → RVi K σ H ow (v :: vs) (.s j :: r)
abbrev RV (K : PySem.W.Frag) (σ : L2.St) : Hp → Ow → List V → List AV → Prop := fun H ow vs r => RVi K σ H ow vs r
theorem RVi.length {K : PySem.W.Frag} {σ : L2.St} {H : Hp} {ow : Ow} : ∀ {vs : List V} {r : List AV}, RVi K σ H ow vs r → vs.length = r.length
  | _, _, .nil => rfl
  | _, _, .d _ t => by simp [t.length]
  | _, _, .s _ t => by simp [t.length]
theorem RVi.getS {K : PySem.W.Frag} {σ : L2.St} {H : Hp} {ow : Ow} {j : Nat} : ∀ {vs : List V} {r : List AV} {i : Nat}, RVi K σ H ow vs r → r[i]? = some (.s j) → ∃ v, vs[i]? = some v ∧ σ[j]? = some (some v)
  | _, _, _, .nil, h => by simp at h
  | _, _, 0, .d _ t, h => by simp at h
  | _, _, 0, .s a t, h => by simp at h; subst h; exact ⟨_, rfl, a⟩
  | _, _, i + 1, .d _ t, h => by simpa using t.getS (i := i) (by simpa using h)
  | _, _, i + 1, .s _ t, h => by simpa using t.getS (i := i) (by simpa using h)
theorem RVi.getD {K : PySem.W.Frag} {σ : L2.St} {H : Hp} {ow : Ow} {x : PyData} : ∀ {vs : List V} {r : List AV} {i : Nat}, RVi K σ H ow vs r → r[i]? = some (.d x) → ∃ v, vs[i]? = some v ∧ DV K H ow v x
  | _, _, _, .nil, h => by simp at h
  | _, _, 0, .d a t, h => by simp at h; subst h; exact ⟨_, rfl, a⟩
  | _, _, 0, .s a t, h => by simp at h
  | _, _, i + 1, .d _ t, h => by simpa using t.getD (i := i) (by simpa using h)
  | _, _, i + 1, .s _ t, h => by simpa using t.getD (i := i) (by simpa using h)
def avNil : Env → Rs (List AV) := fun env => .ok [] env
def avD (t : Env → Rs PyData) (u : Env → Rs (List AV)) : Env → Rs (List AV) := fun env => (t env).bind fun x e1 => (u e1).bind fun r e2 => .ok (.d x :: r) e2
def avS (j : Nat) (u : Env → Rs (List AV)) : Env → Rs (List AV) := fun env => match env[j]? with
  | some (some _) => (u env).bind fun r e2 => .ok (.s j :: r) e2
  | _ => .no
def DAv (X : Cx) (C : Cc) (es : List Expr) (t : Env → Rs (List AV)) : Prop := PA X es fun σ H Q => rd X.K C (RV X.K σ) t σ H Q
section
variable {X : Cx} {C : Cc} {e : Expr} {es : List Expr} {t : Env → Rs PyData} {u : Env → Rs (List AV)}
theorem dav_nil : DAv X C [] avNil := PAweak pa_nil fun σ H Q ⟨env, ow, P, h⟩ => h [] H ow Ext.refl .nil P
theorem dav_d (h : DE X C e t) (k : DAv X C es u) (hs : starEach (e :: es) X.env = (false, eval e X.env) :: starEach es X.env := by rfl) : DAv X C (e :: es) (avD t u) :=
  PAweak (pa_cons h k hs) fun σ H Q h => rd_two (R1 := RE X.K) (R2 := RV X.K σ) h (fun H H' ow ow' v d st x => DV.stay st x) fun v w x y H ow env hv hw P h => h _ H ow Ext.refl (.d hv hw) P
theorem dav_s {j : Nat} (h : PE X e (tVar j)) (k : DAv X C es u) (hs : starEach (e :: es) X.env = (false, eval e X.env) :: starEach es X.env := by rfl) : DAv X C (e :: es) (avS j u) :=
  PAweak (pa_cons h k hs) fun σ H Q ⟨env, ow, P, h⟩ => by
    unfold avS at h
    cases he : env[j]? with
    | none => rw [he] at h; exact h.elim
    | some o =>
      rw [he] at h
      cases o with
      | none => exact h.elim
      | some m =>
        obtain ⟨v, fp, a, b⟩ := P.sl j m he
        exact ⟨v, a, env, ow, P, rdAt_mono (rdAt_bind (R1 := RV X.K σ) h) fun w H1 ⟨y, e1, ow1, X1, V1, P1, h1⟩ => h1 _ H1 ow1 Ext.refl (.s a V1) P1⟩
end
def avM (env : Env) : AV → Option M
  | .d x => some (.d x)
  | .s j => match env[j]? with
    | some (some m) => some m
    | _ => none
theorem avM_s {env : Env} {j : Nat} {m : M} (h : avM env (.s j) = some m) : env[j]? = some (some m) := by
  have h : (match env[j]? with | some (some m) => some m | _ => none) = some m := h
  cases e : env[j]? with
  | none => rw [e] at h; cases h
  | some o =>
    rw [e] at h
    cases o with
    | none => cases h
    | some m' => cases h; rfl
def avMs (env : Env) : List AV → Option (List M)
  | [] => some []
  | a :: r => (avM env a).bind fun m => (avMs env r).map (m :: ·)
def jsOf : List AV → List Nat
  | [] => []
  | .d _ :: r => jsOf r
  | .s j :: r => j :: jsOf r
def putBack : List AV → List (Option M) → Env → Env
  | [], _, e => e
  | .d _ :: r, os, e => putBack r os.tail e
  | .s j :: r, os, e => putBack r os.tail (e.set j (os.head?.join))
def callM (ar : Nat) (F : Fn) (avs : List AV) (env : Env) : Rs M := match avMs env avs with
  | none => .no
  | some ms => if avs.length = ar ∧ (jsOf avs).Nodup then match F ms with
    | .rt m os => .ok m (putBack avs os env)
    | _ => .no
    else .no
def eCall (ar : Nat) (F : Fn) (t : Env → Rs (List AV)) : Env → Rs M := fun env => (t env).bind fun avs e => callM ar F avs e
theorem avMs_get {env : Env} : ∀ {avs : List AV} {ms : List M} {i : Nat} {m : M}, avMs env avs = some ms → ms[i]? = some m → ∃ a, avs[i]? = some a ∧ avM env a = some m
  | [], _, _, _, h, e => by cases h; simp at e
  | a :: r, ms, i, m, h, e => by
    simp only [avMs] at h
    cases ha : avM env a with
    | none => rw [ha] at h; cases h
    | some m0 =>
      rw [ha] at h
      cases hr : avMs env r with
      | none => rw [hr] at h; cases h
      | some ms0 =>
        rw [hr] at h
        cases h
        cases i with
        | zero => simp at e; subst e; exact ⟨a, rfl, ha⟩
        | succ i => simpa using avMs_get (i := i) hr (by simpa using e)
theorem avMs_length {env : Env} : ∀ {avs : List AV} {ms : List M}, avMs env avs = some ms → ms.length = avs.length
  | [], _, h => by cases h; rfl
  | a :: r, ms, h => by
    simp only [avMs] at h
    cases ha : avM env a with
    | none => rw [ha] at h; cases h
    | some m0 =>
      rw [ha] at h
      cases hr : avMs env r with
      | none => rw [hr] at h; cases h
      | some ms0 => rw [hr] at h; cases h; simp [avMs_length hr]
theorem avMs_slot {env : Env} {j : Nat} : ∀ {avs : List AV} {ms : List M}, avMs env avs = some ms → j ∈ jsOf avs → j < env.length
  | [], _, _, h => by simp [jsOf] at h
  | a :: r, ms, h, hj => by
    simp only [avMs] at h
    cases ha : avM env a with
    | none => rw [ha] at h; cases h
    | some m0 =>
      rw [ha] at h
      cases hr : avMs env r with
      | none => rw [hr] at h; cases h
      | some ms0 =>
        cases a with
        | d x => exact avMs_slot hr hj
        | s k =>
          rcases List.mem_cons.mp hj with rfl | hj
          · exact (List.getElem?_eq_some_iff.mp (avM_s ha)).1
          · exact avMs_slot hr hj
theorem mem_js {j : Nat} : ∀ {avs : List AV} {i : Nat}, avs[i]? = some (.s j) → j ∈ jsOf avs
  | [], _, h => by simp at h
  | .d x :: r, 0, h => by simp at h
  | .s k :: r, 0, h => by simp at h; subst h; exact List.mem_cons_self
  | .d x :: r, i + 1, h => by have := mem_js (avs := r) (i := i) (by simpa using h); exact this
  | .s k :: r, i + 1, h => List.mem_cons_of_mem _ (mem_js (avs := r) (i := i) (by simpa using h))
theorem putBack_get {j : Nat} {m : M} : ∀ {avs : List AV} {os : List (Option M)} {e : Env}, (putBack avs os e)[j]? = some (some m) → (∃ i : Nat, avs[i]? = some (.s j) ∧ os[i]? = some (some m)) ∨ (j ∉ jsOf avs ∧ e[j]? = some (some m))
  | [], os, e, h => .inr ⟨by simp [jsOf], h⟩
  | .d x :: r, os, e, h => by
    rcases putBack_get (avs := r) h with ⟨i, a, b⟩ | ⟨a, b⟩
    · refine .inl ⟨i + 1, by simpa using a, ?_⟩
      cases os with
      | nil => simp at b
      | cons o os => simpa using b
    · exact .inr ⟨a, b⟩
  | .s k :: r, os, e, h => by
    rcases putBack_get (avs := r) h with ⟨i, a, b⟩ | ⟨a, b⟩
    · refine .inl ⟨i + 1, by simpa using a, ?_⟩
      cases os with
      | nil => simp at b
      | cons o os => simpa using b
    · by_cases hk : k = j
      · subst hk
        by_cases hl : k < e.length
        · rw [List.getElem?_set_self hl] at b
          cases os with
          | nil => simp at b
          | cons o os => exact .inl ⟨0, rfl, by simpa using b⟩
        · rw [List.getElem?_eq_none (by simpa using hl)] at b; cases b
      · rw [List.getElem?_set_ne hk] at b
        exact .inr ⟨fun z => (List.mem_cons.mp z).elim (fun q => hk q.symm) a, b⟩
theorem putBack_length : ∀ (avs : List AV) (os : List (Option M)) (e : Env), (putBack avs os e).length = e.length
  | [], _, _ => rfl
  | .d _ :: r, os, e => putBack_length r _ _
  | .s j :: r, os, e => by
    show (putBack r os.tail (e.set j _)).length = _
    rw [putBack_length r, List.length_set]
/-- the place of slot j among the arguments -/
def posOf : List AV → Nat → Option Nat
  | [], _ => none
  | .d _ :: r, j => (posOf r j).map (· + 1)
  | .s k :: r, j => if k = j then some 0 else (posOf r j).map (· + 1)
theorem posOf_at : ∀ {avs : List AV} {i j : Nat}, (jsOf avs).Nodup → avs[i]? = some (.s j) → posOf avs j = some i
  | [], _, _, _, h => by simp at h
  | .d x :: r, 0, j, _, h => by simp at h
  | .d x :: r, i + 1, j, nd, h => by simp [posOf, posOf_at (avs := r) (i := i) nd (by simpa using h)]
  | .s k :: r, 0, j, _, h => by simp at h; simp [posOf, h]
  | .s k :: r, i + 1, j, nd, h => by
    have h' : r[i]? = some (.s j) := by simpa using h
    have nd' := List.nodup_cons.mp nd
    have hne : k ≠ j := fun z => nd'.1 (by rw [z]; exact mem_js h')
    simp [posOf, hne, posOf_at nd'.2 h']
theorem posOf_none : ∀ {avs : List AV} {j : Nat}, j ∉ jsOf avs → posOf avs j = none
  | [], _, _ => rfl
  | .d x :: r, j, h => by simp [posOf, posOf_none (avs := r) h]
  | .s k :: r, j, h => by
    have h1 : k ≠ j := fun z => h (by rw [z]; exact List.mem_cons_self)
    have h2 : j ∉ jsOf r := fun z => h (List.mem_cons_of_mem _ z)
    simp [posOf, h1, posOf_none h2]
section
variable {K : PySem.W.Frag} {C : Cc}
def owIn (ow : Ow) (avs : List AV) (n : Nat) : Ow := fun a => (ow a).map fun j => (posOf avs j).getD (n + 1)
def owOut (N : Nat) (ow : Ow) (avs : List AV) (n : Nat) (ow' : Ow) : Ow := fun a => match ow' a with
  | none => none
  | some i => if i = n then some N else match avs[i]? with
    | some (.s j) => some j
    | _ => if n < i then ow a else none
theorem owOut_none {N : Nat} {ow ow' : Ow} {avs : List AV} {n : Nat} {a : Addr} (h : ow' a = none) : owOut N ow avs n ow' a = none := by unfold owOut; rw [h]
theorem owOut_res {N : Nat} {ow ow' : Ow} {avs : List AV} {n : Nat} {a : Addr} (h : ow' a = some n) : owOut N ow avs n ow' a = some N := by unfold owOut; rw [h]; exact if_pos rfl
theorem owOut_arg {N : Nat} {ow ow' : Ow} {avs : List AV} {n i j : Nat} {a : Addr} (h : ow' a = some i) (hi : avs[i]? = some (.s j)) (hl : avs.length ≤ n) : owOut N ow avs n ow' a = some j := by
  unfold owOut
  rw [h]
  have := (List.getElem?_eq_some_iff.mp hi).1
  show (if i = n then some N else _) = _
  rw [if_neg (by omega), hi]
theorem owOut_out {N : Nat} {ow ow' : Ow} {avs : List AV} {n : Nat} {a : Addr} (h : ow' a = some (n + 1)) (hl : avs.length ≤ n) : owOut N ow avs n ow' a = ow a := by
  unfold owOut
  rw [h]
  show (if n + 1 = n then some N else match avs[n + 1]? with | some (.s j) => some j | _ => if n < n + 1 then ow a else none) = _
  rw [if_neg (by omega), List.getElem?_eq_none (by omega)]
  exact if_pos (by omega)
/-- the callee's end, in the caller's eyes -/
theorem call_back {σ : L2.St} {H H' : Hp} {ow ow' : Ow} {env : Env} {avs : List AV} {ms : List M} {vs : List V} {n : Nat} {os : List (Option M)} (P : RpE K C H ow σ env) (hv : RVi K σ H ow vs avs) (hm : avMs env avs = some ms) (nd : (jsOf avs).Nodup) (hl : avs.length ≤ n)
    (x : Ext n H (owIn ow avs n) H' ow') (ro : RpO K H' ow' vs os) :
    Ext C.N H ow H' (owOut C.N ow avs n ow') ∧ RpE K C H' (owOut C.N ow avs n ow') σ (putBack avs os env) := by
  have st2 : Stay H' ow' H' (owOut C.N ow avs n ow') := fun a o h h' => ⟨h, owOut_none h'⟩
  have far : ∀ a o, H a = some o → (ow a = none ∨ ∃ j, ow a = some j ∧ j ∉ jsOf avs) → H' a = some o ∧ owOut C.N ow avs n ow' a = ow a := fun a o h hj => by
    rcases hj with hj | ⟨j, hj, nj⟩
    · have e : owIn ow avs n a = none := by unfold owIn; rw [hj]; rfl
      obtain ⟨p, q⟩ := x a o h fun i z => by rw [e] at z; cases z
      exact ⟨p, by rw [owOut_none (q.trans e), hj]⟩
    · have e : owIn ow avs n a = some (n + 1) := by unfold owIn; rw [hj]; simp [posOf_none nj]
      obtain ⟨p, q⟩ := x a o h fun i z => by rw [e] at z; cases z; omega
      exact ⟨p, owOut_out (q.trans e) hl⟩
  have X : Ext C.N H ow H' (owOut C.N ow avs n ow') := fun a o h h' => by
    refine far a o h ?_
    cases hj : ow a with
    | none => exact .inl rfl
    | some j =>
      refine .inr ⟨j, rfl, fun z => ?_⟩
      have h1 := avMs_slot hm z
      have h2 := h' j hj
      have := P.len
      omega
  refine ⟨X, fun j m e => ?_, P.io, by rw [putBack_length]; exact P.len, P.lenS⟩
  rcases putBack_get e with ⟨i, a, b⟩ | ⟨a, b⟩
  · obtain ⟨v, fp, c1, c2, c3, c4⟩ := ro i m b
    obtain ⟨v', d1, d2⟩ := hv.getS a
    rw [c1] at d1
    cases d1
    exact ⟨v, fp, d2, c2.stay st2 fun _ _ => rfl, c3, fun p hp => owOut_arg (c4 p hp) a hl⟩
  · obtain ⟨v, fp, c1, c2, c3, c4⟩ := P.sl j m b
    have hk : ∀ p ∈ fp, H' p = H p ∧ owOut C.N ow avs n ow' p = ow p := fun p hp => by
      obtain ⟨o, ho⟩ := c2.there p hp
      obtain ⟨q, r⟩ := far p o ho (.inr ⟨j, c4 p hp, a⟩)
      exact ⟨q.trans ho.symm, r⟩
    exact ⟨v, fp, c1, c2.stay X.stay fun p hp => (hk p hp).1, c3, fun p hp => (hk p hp).2.trans (c4 p hp)⟩
theorem call_in {σ : L2.St} {H : Hp} {ow : Ow} {env : Env} {avs : List AV} {ms : List M} {vs : List V} {n : Nat} (P : RpE K C H ow σ env) (hv : RVi K σ H ow vs avs) (hm : avMs env avs = some ms) (nd : (jsOf avs).Nodup) : RpL K H (owIn ow avs n) vs ms := fun i m e => by
  have st : Stay H ow H (owIn ow avs n) := fun a o h h' => ⟨h, by unfold owIn; rw [h']; rfl⟩
  obtain ⟨a, h1, h2⟩ := avMs_get hm e
  cases a with
  | d x =>
    cases h2
    obtain ⟨v, k1, k2⟩ := hv.getD h1
    exact ⟨v, [], k1, .d (k2.stay st), List.nodup_nil, fun p hp => by cases hp⟩
  | s j =>
    obtain ⟨v, fp, c1, c2, c3, c4⟩ := P.sl j m (avM_s h2)
    obtain ⟨v', d1, d2⟩ := hv.getS h1
    rw [c1] at d2
    cases d2
    refine ⟨v, fp, d1, c2.stay st fun _ _ => rfl, c3, fun p hp => ?_⟩
    unfold owIn
    rw [c4 p hp, Option.map_some, posOf_at nd h1]
    rfl
theorem rd_call {cl : Str → Option Addr} {n ar : Nat} {F : Fn} {t : Env → Rs (List AV)} (hn : ar ≤ n) {σ : L2.St} {H : Hp} {Q : VK} (h : rd K C (RM K C.N) (eCall ar F t) σ H Q) :
    tCall (spD K cl n ar F) [] E0 (fun σ H Q => rd K C (RV K σ) t σ H Q) σ H Q := by
  refine rd_one (R1 := RV K σ) h fun vs avs H ow env hv P h => ?_
  unfold callM at h
  cases hm : avMs env avs with
  | none => rw [hm] at h; exact h.elim
  | some ms =>
    rw [hm] at h
    by_cases hc : avs.length = ar ∧ (jsOf avs).Nodup
    · have h : rdAt K C (RM K C.N) σ H ow Q (if avs.length = ar ∧ (jsOf avs).Nodup then match F ms with
        | .rt m os => .ok m (putBack avs os env)
        | _ => .no
        else .no) := h
      rw [if_pos hc] at h
      rw [List.append_nil]
      refine ⟨hv.length.trans hc.1, ms, owIn ow avs n, (avMs_length hm).trans hc.1, call_in P hv hm hc.2, ?_⟩
      cases hF : F ms with
      | no => rw [hF] at h; exact h.elim
      | ex x os => rw [hF] at h; exact h.elim
      | rt m os =>
        rw [hF] at h
        intro v H' ow' x ⟨fp, r1, r2, r3⟩ ro
        obtain ⟨X, P'⟩ := call_back P hv hm hc.2 (by omega) x ro
        exact h v H' _ X ⟨fp, r1.stay (fun a o h h' => ⟨h, owOut_none h'⟩) fun _ _ => rfl, r2, fun p hp => owOut_res (r3 p hp)⟩ P'
    · have h : rdAt K C (RM K C.N) σ H ow Q (if avs.length = ar ∧ (jsOf avs).Nodup then match F ms with
        | .rt m os => .ok m (putBack avs os env)
        | _ => .no
        else .no) := h
      rw [if_neg hc] at h
      exact h.elim
variable {X : Cx}
theorem dm_call {k n ar : Nat} {f : Addr} {fd : FuncData} {ps : List Str} {cl : Str → Option Addr} {F : Fn} {x : Str} {p pos : Pos} {e : Expr} {es : List Expr} {t : Env → Rs (List AV)} (Fo : FnOk X.prog X.w X.K X.mg X.base CX0 k f fd ps (spD X.K cl n ar F)) (hr : Room k X.A) (hg : Gl X x) (hm : X.mg x = some (.ref f)) (hk : PySem.W.keepIn X.K (.ref f) = true) (hb : Binds X.K fd ps [])
    (ha : DAv X C (e :: es) t) (hn : ar ≤ n := by decide) (hdb : (x == ("__debug__" : Str)) = false := by decide) (he : starEach (e :: es) X.env = (false, eval e X.env) :: starEach es X.env := by rfl) (hpl : (backTo pos (starEach es X.env)).any (·.1) = false := by rfl) :
    DM X C (.Call (.Name x p) (e :: es) [] pos) (eCall ar F t) :=
  PEweak (pe_call Fo hr hg hm hk hb .nil pass0 ha hdb he hpl) fun σ H Q h => rd_call hn h
end
theorem fn_no {P : Program} {w : World} {K : PySem.W.Frag} {mg : Str → Option Value} {base : Heap} {k n ar : Nat} {f : Addr} {fd : FuncData} {ps : List Str} {cl : Str → Option Addr} : FnOk P w K mg base CX0 k f fd ps (spD K cl n ar fun _ => .no) :=
  ⟨fun _ _ _ _ h => (by obtain ⟨_, _, _, _, _, h⟩ := h; exact h.elim), fun _ _ _ _ _ _ _ _ _ _ _ _ _ h => (by obtain ⟨_, _, _, _, _, h⟩ := h; exact h.elim)⟩
end DL


namespace DLS
open PySem PyProof.Rows Srt SrtO
section
variable {prog : Program} {w : World} {A : Around} {E : Value → Shared → Prop} {s : Shared}
/-- a tuple's items, collected -/
theorem collect_tup {l : Addr} {vs : List Value} {Q : List Value → Shared → Prop} (hl : IsTup s.heap l vs.toArray)
    (h : Q vs { s with heap := (s.heap.push (seqObj "list" #[] 0)).update s.heap.objs.size (Obj.mapSeq (· ++ vs.toArray)) }) (hsz : vs.length ≤ sizeLine) :
    wpAny (model prog w) A (collect (.ref l)) Q E s := by
  obtain ⟨o, ho, hc, n, hd⟩ := id hl
  unfold collect
  refine wpAny_bind (wpAny_runValue (codeAny_builtin entry_proto_collect' ?_))
  show wpAny _ _ (do again (.builtin "list.__iadd__" ⟨[← newList [], .ref l], []⟩)) _ _ s
  refine wpAny_bind (wpAny_newList (wpAny_pure ⟨Code.quiet_builtin _ (by decide +kernel), codeAny_builtin entry_list_iadd' ?_⟩))
  show wpAny _ _ (Builtin.List.listExtendWith (.ref s.heap.objs.size) (.ref l) (.ref s.heap.objs.size)) _ _ { s with heap := s.heap.push (seqObj "list" #[] 0) }
  unfold Builtin.List.listExtendWith
  have ho' : (s.heap.push (seqObj "list" #[] 0)).get? l = some o := Heap.get?_push_of_some _ ho
  refine wpAny_bind (wpAny_typeOf (T := "tuple") ⟨o, ho', hc⟩ ?_)
  have ht : (Value.type "tuple" == Value.type "tuple") = true := by rfl
  rw [if_pos (by rw [ht]; simp)]
  refine wpAny_bind (listItems_at ho' hd ?_)
  refine wpAny_bind (listItems_at (xs := #[]) (n := 0) (Heap.get?_push_size _ rfl) rfl ?_)
  rw [if_neg (by simp)]
  refine wpAny_bind (listUpdate_at (xs := #[]) (n := 0) (Heap.get?_push_size _ rfl) rfl ?_ (Nat.zero_le _) (by show (#[] ++ vs.toArray).size ≤ sizeLine + 1; simp only [Array.size_append, List.size_toArray, List.length_nil]; omega))
  refine wpAny_pure ?_
  show wpAny (model prog w) A (do
      let o ← load s.heap.objs.size
      match o.data with
      | .seq xs _ => pure xs.toList
      | _ => unsupported "internal:collect") Q E { s with heap := (s.heap.push (seqObj "list" #[] 0)).update s.heap.objs.size (Obj.mapSeq (· ++ vs.toArray)) }
  refine wpAny_bind (wpAny_load (get?_update_seq (Heap.get?_push_size _ rfl) _) ?_)
  show wpAny _ _ (pure ((#[] : Array Value) ++ vs.toArray).toList) Q E _
  rw [show ((#[] : Array Value) ++ vs.toArray).toList = vs by simp]
  exact wpAny_pure h
theorem sorted_tup {l : Addr} {vs : List Value} {ltv : Value → Value → Bool} {Q : Value → Shared → Prop} (O : Swo ltv) (hl : IsTup s.heap l vs.toArray) (hz : vs.length ≤ sizeLine)
    (hS : 2 ≤ vs.length → ∀ (h₁ : Heap) (a : Addr), h₁.get? a = some (seqObj "list" vs.toArray 0) → (∀ b o, s.heap.get? b = some o → b ≠ a ∧ h₁.get? b = some o) → SortableO prog w A.in1.in1 { s with heap := h₁ } a vs ltv)
    (h : ∀ out : List Value, Srtd ltv out → Stb ltv out vs → Q (.ref (s.heap.objs.size + 1)) { s with heap := sortedAll s.heap vs out.toArray }) :
    wpAny (model prog w) A (call (.builtin "sorted") [.ref l]) Q E s := by
  refine Calls.call_function_entry kind_sorted plain_sorted entry_sorted (args_sorted1 _) ?_
  unfold Builtin.«sorted»
  refine wpAny_bind (m := checkCount "sorted" 1 1 _) (wpAny_pure ?_)
  refine wpAny_bind (collect_tup hl ?_ hz)
  refine wpAny_bind (wpAny_newList ?_ hz)
  have hsz : ((s.heap.push (seqObj "list" #[] 0)).update s.heap.objs.size (Obj.mapSeq (· ++ vs.toArray))).objs.size = s.heap.objs.size + 1 := by
    rw [Heap.size_update, size_push']
  have hoL : (((s.heap.push (seqObj "list" #[] 0)).update s.heap.objs.size (Obj.mapSeq (· ++ vs.toArray))).push (seqObj "list" vs.toArray 0)).get? (s.heap.objs.size + 1) = some (seqObj "list" vs.toArray 0) := by
    rw [← hsz]; exact Heap.get?_push_size _ rfl
  have keep : ∀ b o, s.heap.get? b = some o → b ≠ s.heap.objs.size + 1 ∧ (((s.heap.push (seqObj "list" #[] 0)).update s.heap.objs.size (Obj.mapSeq (· ++ vs.toArray))).push (seqObj "list" vs.toArray 0)).get? b = some o := fun b o q => by
    have hlt : b < s.heap.objs.size := Heap.lt_size q
    refine ⟨Nat.ne_of_lt (Nat.lt_succ_of_lt hlt), Heap.get?_push_of_some _ ?_⟩
    rw [Heap.get?_update_ne _ _ _ _ (Nat.ne_of_lt hlt)]
    exact Heap.get?_push_of_some _ q
  show wpAny _ _ _ _ _ { s with heap := ((s.heap.push (seqObj "list" #[] 0)).update s.heap.objs.size (Obj.mapSeq (· ++ vs.toArray))).push (seqObj "list" vs.toArray 0) }
  rw [hsz]
  refine wpAny_bind (wpAny_holding (wpAny_call_entry slot_list_sort ⟨_, hoL, rfl⟩ entry_list_sort (list_sort_ord O hoL hz (fun h2 => hS h2 _ _ hoL keep) fun out hs hb => ⟨_, rfl, ?_⟩) (args_list_sort _)))
  exact wpAny_pure ⟨_, rfl, h out hs hb⟩
end
end DLS
namespace DL
open PySem PySem.Spec PyProof.Rows L2
section
variable {X : Cx} {C : Cc} {K : PySem.W.Frag} {pos : Pos}
def rSortedT (K : PySem.W.Frag) : List V → Hp → VK → Prop := fun vs H Q => ∃ (a : Addr) (ns : List Int), vs = [V.ref a] ∧ SqT K H a (ns.map V.int) ∧
  ∀ (ns' : List Int) (p : Addr), ns'.Perm ns → ns'.Pairwise (· ≤ ·) → H p = none → Q (.ref p) (upd H p (.lst (ns'.map V.int)))
theorem cr_sortedT : CallR X (.builtin "sorted") (rSortedT X.K) := by
  intro pins s σ H vs us Q I r h
  obtain ⟨a, ns, rfl, hs, q⟩ := h
  obtain ⟨its, rv, hl, hz⟩ := I.tuple hs
  rw [Vals.ref1 r]
  have hi := rv.ints
  refine DLS.sorted_tup SrtO.swo_int hl (by rw [← rv.length]; exact hz) (fun h2 h₁ a' _ _ => SrtO.ints_sortable hi h2) fun out h1 h2 => ?_
  obtain ⟨k1, k2, k3⟩ := SrtO.ints_out hi h1 h2
  obtain ⟨ep, he'⟩ := PyProof.Rows.sortedAll_at s.heap its out.toArray
  have hlen : ((out.map SrtO.iv).map V.int).length ≤ sizeLine := by
    rw [List.length_map, k2.length_eq]
    rw [List.length_map] at hz
    exact hz
  exact ⟨.ref _, upd H (s.heap.objs.size + 1) (.lst ((out.map SrtO.iv).map V.int)), I.laid (t' := s.toks) (fun _ _ => PyProof.Rows.sortedAll_old) (Nat.le_succ _) ⟨hlen, out, ep, vals_of_ints k1, he'⟩, rfl, q _ _ k2 k3 (I.hok.fresh (Nat.le_succ _))⟩
/-- ints in order -/
def insI (x : Int) : List Int → List Int
  | [] => [x]
  | y :: r => if x ≤ y then x :: y :: r else y :: insI x r
def sortI : List Int → List Int
  | [] => []
  | x :: r => insI x (sortI r)
theorem insI_perm (x : Int) : ∀ l : List Int, (insI x l).Perm (x :: l)
  | [] => .refl _
  | y :: r => by
    unfold insI
    split
    · exact .refl _
    · exact ((insI_perm x r).cons y).trans (.swap x y r)
theorem sortI_perm : ∀ l : List Int, (sortI l).Perm l
  | [] => .refl _
  | x :: r => (insI_perm x _).trans ((sortI_perm r).cons x)
theorem insI_sorted (x : Int) : ∀ {l : List Int}, l.Pairwise (· ≤ ·) → (insI x l).Pairwise (· ≤ ·)
  | [], _ => by simp [insI]
  | y :: r, h => by
    unfold insI
    split
    · rename_i hxy
      refine .cons (fun z hz => ?_) h
      rcases List.mem_cons.mp hz with rfl | hz
      · exact hxy
      · exact Int.le_trans hxy (List.rel_of_pairwise_cons h hz)
    · rename_i hxy
      refine .cons (fun z hz => ?_) (insI_sorted x h.of_cons)
      rcases List.mem_cons.mp ((insI_perm x r).mem_iff.mp hz) with rfl | hz
      · omega
      · exact List.rel_of_pairwise_cons h hz
theorem sortI_sorted : ∀ l : List Int, (sortI l).Pairwise (· ≤ ·)
  | [] => .nil
  | x :: r => insI_sorted x (sortI_sorted r)
theorem sorted_unique : ∀ {l m : List Int}, l.Perm m → l.Pairwise (· ≤ ·) → m.Pairwise (· ≤ ·) → l = m
  | [], m, p, _, _ => by rw [List.nil_perm.mp p]
  | x :: l, [], p, _, _ => by simp at p
  | x :: l, y :: m, p, h1, h2 => by
    have e : x = y := by
      have a : x ∈ y :: m := p.mem_iff.mp List.mem_cons_self
      have b : y ∈ x :: l := p.mem_iff.mpr List.mem_cons_self
      rcases List.mem_cons.mp a with a | a
      · exact a
      · rcases List.mem_cons.mp b with b | b
        · exact b.symm
        · have := List.rel_of_pairwise_cons h2 a
          have := List.rel_of_pairwise_cons h1 b
          omega
    subst e
    rw [sorted_unique ((List.perm_cons x).mp p) h1.of_cons h2.of_cons]
/-! pairs in order -/
def pairsOf : List PyData → Option (List (Int × Int))
  | [] => some []
  | .tuple [.int i, .int j] :: r => (pairsOf r).map ((i, j) :: ·)
  | _ => none
def prD (p : Int × Int) : PyData := .tuple [.int p.1, .int p.2]
theorem pairsOf_map : ∀ ps : List (Int × Int), pairsOf (ps.map prD) = some ps
  | [] => rfl
  | p :: ps => by simp [pairsOf, prD, pairsOf_map ps]
theorem pairsOf_eq : ∀ {ds : List PyData} {ps : List (Int × Int)}, pairsOf ds = some ps → ds = ps.map prD
  | [], ps, e => by cases e; rfl
  | d :: ds, ps, e => by
    unfold pairsOf at e
    split at e
    · rename_i h; cases h
    · rename_i i j r h
      cases h
      cases h2 : pairsOf ds with
      | none => rw [h2] at e; cases e
      | some qs =>
        rw [h2] at e
        cases e
        rw [pairsOf_eq h2]
        rfl
    · cases e
def cod (p : Int × Int) : Int := p.1 * 64 + p.2
def dec (c : Int) : Int × Int := (c / 64, c % 64)
def inB (p : Int × Int) : Prop := (0 ≤ p.1 ∧ p.1 < 64) ∧ 0 ≤ p.2 ∧ p.2 < 64
instance (p : Int × Int) : Decidable (inB p) := by unfold inB; exact inferInstance
theorem dec_cod (p : Int × Int) (h : inB p) : dec (cod p) = p := by
  obtain ⟨a, b⟩ := p
  obtain ⟨⟨h1, h2⟩, h3, h4⟩ := h
  simp only at h1 h2 h3 h4
  unfold dec cod
  simp only
  rw [show (a * 64 + b) / 64 = a by omega, show (a * 64 + b) % 64 = b by omega]
def sortP (ps : List (Int × Int)) : List (Int × Int) := (sortI (ps.map cod)).map dec
theorem sortP_eq {ps qs : List (Int × Int)} (hb : ∀ p ∈ ps, inB p) (h : qs.Perm ps) (hs : (qs.map cod).Pairwise (· ≤ ·)) : qs = sortP ps := by
  have e : qs.map cod = sortI (ps.map cod) := sorted_unique ((h.map cod).trans (sortI_perm _).symm) hs (sortI_sorted _)
  unfold sortP
  rw [← e, List.map_map]
  conv => lhs; rw [← List.map_id qs]
  exact List.map_congr_left fun p hp => (dec_cod p (hb p (h.mem_iff.1 hp))).symm
theorem DVs.permV {H : Hp} {ow : Ow} {xs ys : List V} (p : ys.Perm xs) : ∀ {ds : List PyData}, DVs K H ow xs ds → ∃ es : List PyData, es.Perm ds ∧ DVs K H ow ys es := by
  induction p with
  | nil => intro ds h; exact ⟨ds, .refl _, h⟩
  | cons x p ih =>
    intro ds h
    cases h with
    | cons h1 h2 =>
      obtain ⟨es, e1, e2⟩ := ih h2
      exact ⟨_ :: es, e1.cons _, .cons h1 e2⟩
  | swap x y l =>
    intro ds h
    cases h with
    | cons h1 h2 => cases h2 with
      | cons h2 h3 => exact ⟨_, .swap _ _ _, .cons h2 (.cons h1 h3)⟩
  | trans p q ihp ihq =>
    intro ds h
    obtain ⟨es, e1, e2⟩ := ihq h
    obtain ⟨fs, f1, f2⟩ := ihp e2
    exact ⟨fs, f1.trans e1, f2⟩
theorem DV.pair {H : Hp} {ow : Ow} {x : V} {p : Int × Int} (h : DV K H ow x (prD p)) : TupI K H x [p.1, p.2] := by
  cases h with
  | @tup a xs ds h1 h3 hz =>
    have e : xs = [p.1, p.2].map V.int := DVs.ints (ns := [p.1, p.2]) h3
    exact ⟨a, rfl, by rw [← e]; exact h1.sq⟩
theorem DVs.mem {H : Hp} {ow : Ow} : ∀ {ds : List PyData} {vs : List V}, DVs K H ow vs ds → ∀ x ∈ vs, ∃ d ∈ ds, DV K H ow x d
  | [], _, h, x, hx => by cases h; cases hx
  | d :: ds, _, h, x, hx => by
    cases h with
    | cons h1 h2 =>
      rcases List.mem_cons.1 hx with rfl | hx
      · exact ⟨d, List.mem_cons_self, h1⟩
      · obtain ⟨e, e1, e2⟩ := DVs.mem h2 x hx
        exact ⟨e, List.mem_cons_of_mem _ e1, e2⟩
theorem DVs.pairwise {H : Hp} {ow : Ow} {R : V → V → Prop} {S : Int × Int → Int × Int → Prop} (h : ∀ x y p q, DV K H ow x (prD p) → DV K H ow y (prD q) → R x y → S p q) : ∀ {ps : List (Int × Int)} {vs : List V}, DVs K H ow vs (ps.map prD) → vs.Pairwise R → ps.Pairwise S
  | [], _, _, _ => .nil
  | p :: ps, _, hd, hp => by
    cases hd with
    | cons h1 h2 =>
      refine .cons (fun q hq => ?_) (DVs.pairwise h h2 hp.of_cons)
      have key : ∀ {qs : List (Int × Int)} {ws : List V}, DVs K H ow ws (qs.map prD) → q ∈ qs → ∃ y ∈ ws, DV K H ow y (prD q) := by
        intro qs
        induction qs with
        | nil => intro ws _ hq; cases hq
        | cons r qs ih =>
          intro ws hw hq
          cases hw with
          | cons k1 k2 =>
            rcases List.mem_cons.1 hq with rfl | hq
            · exact ⟨_, List.mem_cons_self, k1⟩
            · obtain ⟨y, y1, y2⟩ := ih k2 hq
              exact ⟨y, List.mem_cons_of_mem _ y1, y2⟩
      obtain ⟨y, y1, y2⟩ := key h2 hq
      exact h _ _ _ _ h1 y2 (List.rel_of_pairwise_cons hp y1)
def bSorted : List PyData → Option PyData
  | [x] => (seqOf x).bind fun ds => match intsOf ds with
    | some ns => some (.list ((sortI ns).map .int))
    | none => match x, pairsOf ds with
      | .list _, some ps => if ps.length < 64 ∧ ∀ p ∈ ps, inB p then some (.list ((sortP ps).map prD)) else none
      | _, _ => none
  | _ => none
def rSortedAll (K : PySem.W.Frag) : List V → Hp → VK → Prop := fun vs H Q => (rSortedI K vs H Q ∨ rSortedT K vs H Q) ∨ rSortU K 2 64 vs H Q
theorem ob_sorted : OpB K (rSortedAll K) bSorted := by
  intro vs xs o H ow Q h e q
  match xs, h, e with
  | [x], h, e =>
    obtain ⟨v, rfl, d⟩ := h.one
    have fin : ∀ (ns ns' : List Int) (p : Addr), ns.length ≤ 16777216 → ns'.Perm ns → ns'.Pairwise (· ≤ ·) → H p = none → o = .list ((sortI ns).map .int) → Q (.ref p) (upd H p (.lst (ns'.map V.int))) := fun ns ns' p hz h1 h2 hp ho => by
      have e : ns' = sortI ns := sorted_unique (h1.trans (sortI_perm ns).symm) h2 (sortI_sorted ns)
      subst e
      subst ho
      exact q _ _ _ (Gr.new hp) (.lst upd_same off_same (DVs.of_ints _) (by rw [List.length_map, (sortI_perm ns).length_eq]; exact hz))
    cases d with
    | @lst a vs ds h1 h2 h3 hz =>
      cases hn : intsOf ds with
      | none =>
        simp only [bSorted, seqOf, hn, Option.bind_some] at e
        cases hp : pairsOf ds with
        | none => simp [hp] at e
        | some ps =>
          simp only [hp] at e
          obtain ⟨⟨hl, hb⟩, rfl⟩ := if_some e
          have he := pairsOf_eq hp
          subst he
          have hvl : vs.length < 64 := by rw [h3.length, List.length_map]; exact hl
          refine .inr ⟨a, vs, rfl, .of h1, hvl, fun x hx => ?_, fun ys p k1 k2 k3 => ?_⟩
          · obtain ⟨d, d1, d2⟩ := DVs.mem h3 x hx
            obtain ⟨r, r1, rfl⟩ := List.mem_map.1 d1
            have b := hb r r1
            exact ⟨_, d2.pair, rfl, fun m hm => by
              rcases List.mem_cons.1 hm with rfl | hm
              · exact b.1
              · rw [List.mem_singleton.1 hm]; exact b.2⟩
          · obtain ⟨es, e1, e2⟩ := DVs.permV k1 h3
            have : ∃ qs : List (Int × Int), es = qs.map prD := by
              have : ∀ l : List PyData, (∀ d ∈ l, ∃ r : Int × Int, d = prD r) → ∃ qs : List (Int × Int), l = qs.map prD := fun l => by
                induction l with
                | nil => intro _; exact ⟨[], rfl⟩
                | cons d l ih =>
                  intro hl
                  obtain ⟨r, rfl⟩ := hl d List.mem_cons_self
                  obtain ⟨qs, rfl⟩ := ih fun x hx => hl x (List.mem_cons_of_mem _ hx)
                  exact ⟨r :: qs, rfl⟩
              refine this es fun d hd => ?_
              obtain ⟨r, _, rfl⟩ := List.mem_map.1 (e1.mem_iff.1 hd)
              exact ⟨r, rfl⟩
            obtain ⟨qs, rfl⟩ := this
            have hqp : qs.Perm ps := by
              have inj : ∀ p : Int × Int, (pairsOf [prD p]) = some [p] := fun p => rfl
              have dd : ∀ p : Int × Int, (fun d : PyData => match d with | .tuple [.int i, .int j] => (i, j) | _ => (0, 0)) (prD p) = p := fun p => rfl
              have := e1.map (fun d : PyData => match d with | .tuple [.int i, .int j] => (i, j) | _ => ((0 : Int), (0 : Int)))
              rw [List.map_map, List.map_map] at this
              have e0 : ∀ l : List (Int × Int), l.map ((fun d : PyData => match d with | .tuple [.int i, .int j] => (i, j) | _ => ((0 : Int), (0 : Int))) ∘ prD) = l := fun l => by
                conv => rhs; rw [← List.map_id l]
                exact List.map_congr_left fun p _ => rfl
              rwa [e0, e0] at this
            have hs : (qs.map cod).Pairwise (· ≤ ·) := by
              rw [List.pairwise_map]
              refine DVs.pairwise (R := fun x y => ∀ n m, TupI K H x n → TupI K H y m → TS.code 64 n ≤ TS.code 64 m) (fun x y p q hx hy hr => ?_) e2 k2
              have := hr _ _ hx.pair hy.pair
              rw [code_pair, code_pair] at this
              exact this
            have := sortP_eq hb hqp hs
            subst this
            exact q _ _ _ (Gr.new k3) (.lst upd_same off_same (e2.stay (Gr.new k3).stay) (by rw [← e2.length, k1.length_eq]; omega))
      | some ns =>
        simp only [bSorted, seqOf, hn, Option.bind_some] at e
        have := intsOf_eq hn
        subst this
        have := h3.ints
        subst this
        exact .inl <| .inl ⟨a, ns, rfl, .of h1, fun ns' p k1 k2 k3 => fin ns ns' p (by simpa using hz) k1 k2 k3 (Option.some.inj e).symm⟩
    | @tup a vs ds h1 h3 hz =>
      cases hn : intsOf ds with
      | none => simp [bSorted, seqOf, hn] at e
      | some ns =>
        simp only [bSorted, seqOf, hn, Option.bind_some] at e
        have := intsOf_eq hn
        subst this
        have := h3.ints
        subst this
        exact .inl <| .inr ⟨a, ns, rfl, h1.sq, fun ns' p k1 k2 k3 => fin ns ns' p (by simpa using hz) k1 k2 k3 (Option.some.inj e).symm⟩
    | _ => cases e
theorem cr_sortedAll : CallR X (.builtin "sorted") (rSortedAll X.K) := (cr_sortedI.or cr_sortedT).or (cr_sortT (by omega))
theorem cr_sumAll (hc : X.calm = true) : CallR X (.builtin "sum") (fun vs H Q => rSum X.K vs H Q ∨ rSumT X.K vs H Q) := (cr_sum hc).or (cr_sumT hc)
/-! max, min of two ints, of a list of ints -/
def maxL : Int → List Int → Int
  | m, [] => m
  | m, x :: r => maxL (if x > m then x else m) r
def minL : Int → List Int → Int
  | m, [] => m
  | m, x :: r => minL (if x < m then x else m) r
def bMax : List PyData → Option PyData
  | [.int i, .int j] => some (.int (if j > i then j else i))
  | [.list ds] => (intsOf ds).bind fun ns => match ns with | [] => none | n :: r => some (.int (maxL n r))
  | _ => none
def bMin : List PyData → Option PyData
  | [.int i, .int j] => some (.int (if j < i then j else i))
  | [.list ds] => (intsOf ds).bind fun ns => match ns with | [] => none | n :: r => some (.int (minL n r))
  | _ => none
theorem maxL_ge : ∀ (r : List Int) (m : Int), m ≤ maxL m r ∧ ∀ y ∈ r, y ≤ maxL m r
  | [], m => ⟨Int.le_refl _, by simp⟩
  | x :: r, m => by
    obtain ⟨a, b⟩ := maxL_ge r (if x > m then x else m)
    simp only [maxL]
    refine ⟨?_, fun y hy => ?_⟩
    · split at a <;> (rename_i h; simp only [h, if_true, if_false]; omega)
    · rcases List.mem_cons.mp hy with rfl | hy
      · split at a <;> (rename_i h; simp only [h, if_true, if_false]; omega)
      · exact b y hy
theorem maxL_mem : ∀ (r : List Int) (m : Int), maxL m r ∈ m :: r
  | [], m => by simp [maxL]
  | x :: r, m => by
    have := maxL_mem r (if x > m then x else m)
    simp only [maxL]
    rcases List.mem_cons.mp this with h | h
    · rw [h]; split <;> simp
    · simp [h]
theorem minL_le : ∀ (r : List Int) (m : Int), minL m r ≤ m ∧ ∀ y ∈ r, minL m r ≤ y
  | [], m => ⟨Int.le_refl _, by simp⟩
  | x :: r, m => by
    obtain ⟨a, b⟩ := minL_le r (if x < m then x else m)
    simp only [minL]
    refine ⟨?_, fun y hy => ?_⟩
    · split at a <;> (rename_i h; simp only [h, if_true, if_false]; omega)
    · rcases List.mem_cons.mp hy with rfl | hy
      · split at a <;> (rename_i h; simp only [h, if_true, if_false]; omega)
      · exact b y hy
theorem minL_mem : ∀ (r : List Int) (m : Int), minL m r ∈ m :: r
  | [], m => by simp [minL]
  | x :: r, m => by
    have := minL_mem r (if x < m then x else m)
    simp only [minL]
    rcases List.mem_cons.mp this with h | h
    · rw [h]; split <;> simp
    · simp [h]
def rMaxAll (K : PySem.W.Frag) : List V → Hp → VK → Prop := fun xs H Q => (∃ i j, xs = [.int i, .int j] ∧ Q (.int (if j > i then j else i)) H) ∨ rMax K xs H Q
def rMinAll (K : PySem.W.Frag) : List V → Hp → VK → Prop := fun xs H Q => (∃ i j, xs = [.int i, .int j] ∧ Q (.int (if j < i then j else i)) H) ∨ rMin K xs H Q
theorem cr_maxAll (hc : X.calm = true) : CallR X (.builtin "max") (rMaxAll X.K) := (call_max2 hc).or (cr_max hc)
theorem cr_minAll (hc : X.calm = true) : CallR X (.builtin "min") (rMinAll X.K) := (call_min2 hc).or (cr_min hc)
theorem ob_max : OpB K (rMaxAll K) bMax := by
  intro vs xs o H ow Q h e q
  unfold bMax at e
  split at e
  · obtain ⟨v, w, rfl, d, d'⟩ := h.two
    cases d; cases d'; cases e
    exact .inl ⟨_, _, rfl, q _ _ _ .refl (.int _)⟩
  · obtain ⟨v, rfl, d⟩ := h.one
    rename_i ds
    cases d with
    | @lst a vs ds h1 h2 h3 hz =>
      cases hn : intsOf ds with
      | none => simp [hn] at e
      | some ns =>
        have := intsOf_eq hn
        subst this
        have := h3.ints
        subst this
        simp only [hn, Option.bind_some] at e
        cases ns with
        | nil => cases e
        | cons n r =>
          cases e
          refine .inr ⟨a, n :: r, rfl, .of h1, by simp, fun m hm hle => ?_⟩
          have hm' : m = maxL n r := by
            have a1 := hle _ (maxL_mem r n)
            obtain ⟨b1, b2⟩ := maxL_ge r n
            rcases List.mem_cons.mp hm with rfl | hm
            · omega
            · have := b2 m hm; omega
          subst hm'
          exact q _ _ _ .refl (.int _)
  · cases e
theorem ob_min : OpB K (rMinAll K) bMin := by
  intro vs xs o H ow Q h e q
  unfold bMin at e
  split at e
  · obtain ⟨v, w, rfl, d, d'⟩ := h.two
    cases d; cases d'; cases e
    exact .inl ⟨_, _, rfl, q _ _ _ .refl (.int _)⟩
  · obtain ⟨v, rfl, d⟩ := h.one
    rename_i ds
    cases d with
    | @lst a vs ds h1 h2 h3 hz =>
      cases hn : intsOf ds with
      | none => simp [hn] at e
      | some ns =>
        have := intsOf_eq hn
        subst this
        have := h3.ints
        subst this
        simp only [hn, Option.bind_some] at e
        cases ns with
        | nil => cases e
        | cons n r =>
          cases e
          refine .inr ⟨a, n :: r, rfl, .of h1, by simp, fun m hm hle => ?_⟩
          have hm' : m = minL n r := by
            have a1 := hle _ (minL_mem r n)
            obtain ⟨b1, b2⟩ := minL_le r n
            rcases List.mem_cons.mp hm with rfl | hm
            · omega
            · have := b2 m hm; omega
          subst hm'
          exact q _ _ _ .refl (.int _)
  · cases e
/-! list(range(..)) -/
theorem rgV_dv {H : Hp} {ow : Ow} (lo : Int) (n : Int) : DVs K H ow (rgV lo n) (rangeD lo (n - lo).toNat) := by
  unfold rgV rangeD
  generalize (n - lo).toNat = k
  have : ∀ (l : List Nat), DVs K H ow (l.map fun (i : Nat) => V.int (lo + (i : Nat))) (l.map fun (k : Nat) => PyData.int (lo + k)) := fun l => by
    induction l with
    | nil => exact .nil
    | cons x r ih => exact .cons (.int _) ih
  exact this _
def eListRg (f : List PyData → Option (List PyData)) (t : Env → Rs (List PyData)) : Env → Rs PyData := fun env => (t env).bind fun xs e => lift ((f xs).map .list) e
def mListRg (f : List PyData → Option (List PyData)) (t : Env → Rs (List PyData)) : Env → Rs M := fun env => (t env).bind fun xs e => lift ((f xs).map .l) e
def aOne (t : Env → Rs PyData) : Env → Rs (List PyData) := aCons t aNil
theorem bind_aOne {α : Type} {t : Env → Rs PyData} {f : List PyData → Env → Rs α} {env : Env} : (aOne t env).bind f = (t env).bind fun x e => f [x] e := by
  unfold aOne aCons aNil
  cases t env <;> rfl
theorem de_listRg {a : Expr} {t : Env → Rs PyData} {p p2 pos2 : Pos} (hc : X.calm = true) (hg : Gl X "list") (hm : X.mg "list" = none) (hg2 : Gl X "range") (hm2 : X.mg "range" = none) (ha : DE X C a t) (na2 : starEach [a] X.env = (false, eval a X.env) :: starEach [] X.env := by rfl)
    (na : starEach [.Call (.Name "range" p2) [a] [] pos2] X.env = (false, eval (.Call (.Name "range" p2) [a] [] pos2) X.env) :: starEach [] X.env := by rfl) : DE X C (.Call (.Name "list" p) [.Call (.Name "range" p2) [a] [] pos2] [] pos) (eListRg bRange1 (aOne t)) :=
  PEweak (pe_listRg hc hg hm (prg_1 hg2 hm2 ha na2) na) fun σ H Q ⟨env, ow, P, h⟩ => ⟨env, ow, P, rdAt_mono (rdAt_bind (R1 := RE X.K) (show rdAt X.K C (RE X.K) σ H ow Q ((t env).bind fun x e => lift ((bRange1 [x]).map .list) e) by unfold eListRg at h; rw [bind_aOne] at h; exact h)) fun v H1 ⟨x, e1, ow1, X1, V1, P1, h1⟩ => by
    obtain ⟨o, e, h1⟩ := rdAt_lift (v := V.non) h1
    cases V1 with
    | int j =>
      simp only [bRange1] at e
      by_cases hj : j ≤ 16777216 ∧ -(2 ^ 62) ≤ j
      · rw [if_pos hj] at e
        cases e
        refine ⟨j, rfl, ⟨by omega, by omega, by omega, by omega, by omega⟩, fun p hp => rdAt_fin h1 (Gr.new hp) (.lst upd_same off_same ?_ ?_) P1⟩
        · have := rgV_dv (K := X.K) (H := upd H1 p (.lst (rgV 0 j))) (ow := off ow1 p) 0 j
          rw [Int.sub_zero] at this
          exact this
        · simp [rangeD]; omega
      · rw [if_neg hj] at e; cases e
    | _ => cases e⟩
theorem dm_listRg {a : Expr} {t : Env → Rs PyData} {p p2 pos2 : Pos} (hc : X.calm = true) (hg : Gl X "list") (hm : X.mg "list" = none) (hg2 : Gl X "range") (hm2 : X.mg "range" = none) (ha : DE X C a t) (na2 : starEach [a] X.env = (false, eval a X.env) :: starEach [] X.env := by rfl)
    (na : starEach [.Call (.Name "range" p2) [a] [] pos2] X.env = (false, eval (.Call (.Name "range" p2) [a] [] pos2) X.env) :: starEach [] X.env := by rfl) : DM X C (.Call (.Name "list" p) [.Call (.Name "range" p2) [a] [] pos2] [] pos) (mListRg bRange1 (aOne t)) :=
  PEweak (pe_listRg hc hg hm (prg_1 hg2 hm2 ha na2) na) fun σ H Q ⟨env, ow, P, h⟩ => ⟨env, ow, P, rdAt_mono (rdAt_bind (R1 := RE X.K) (show rdAt X.K C (RM X.K C.N) σ H ow Q ((t env).bind fun x e => lift ((bRange1 [x]).map .l) e) by unfold mListRg at h; rw [bind_aOne] at h; exact h)) fun v H1 ⟨x, e1, ow1, X1, V1, P1, h1⟩ => by
    obtain ⟨o, e, h1⟩ := rdAt_lift (v := V.non) h1
    cases V1 with
    | int j =>
      simp only [bRange1] at e
      by_cases hj : j ≤ 16777216 ∧ -(2 ^ 62) ≤ j
      · rw [if_pos hj] at e
        cases e
        refine ⟨j, rfl, ⟨by omega, by omega, by omega, by omega, by omega⟩, fun p hp => rdAt_fin h1 (Gr.newG (i := C.N) hp) ⟨[p], .l upd_same ?_ ?_, by simp, fun q hq => by simp at hq; subst hq; exact give_same⟩ P1⟩
        · have := rgV_dv (K := X.K) (H := upd H1 p (.lst (rgV 0 j))) (ow := give ow1 p C.N) 0 j
          rw [Int.sub_zero] at this
          exact this
        · simp [rangeD]; omega
      · rw [if_neg hj] at e; cases e
    | _ => cases e⟩
/-! isinstance -/
inductive Ty where
  | int | bool | str | tup | lst
def Ty.nm : Ty → String
  | .int => "int" | .bool => "bool" | .str => "str" | .tup => "tuple" | .lst => "list"
def isI : Ty → PyData → Bool
  | .int, .int _ => true
  | .int, .bool _ => true
  | .bool, .bool _ => true
  | .str, .str _ => true
  | .tup, .tuple _ => true
  | .lst, .list _ => true
  | _, _ => false
def tyN : PyData → String
  | .none => "NoneType" | .bool _ => "bool" | .int _ => "int" | .str _ => "str" | .list _ => "list" | .tuple _ => "tuple" | .dict _ => "dict"
theorem kit_isI (T : Ty) (d : PyData) (h : ∀ kvs, d ≠ .dict kvs) : PySem.W.kitOne K (.type (tyN d)) (.type T.nm) = some (isI T d) := by
  refine kit_ty ?_
  cases d with
  | dict kvs => exact absurd rfl (h kvs)
  | _ => cases T <;> (dsimp only [tyN, Ty.nm, isI]; decide +kernel)
theorem tyx_dv {H : Hp} {ow : Ow} {v : V} {d : PyData} (h : DV K H ow v d) : TyX K H v (.type (tyN d)) ∧ ∀ kvs, d ≠ .dict kvs := by
  cases h with
  | non => exact ⟨.base .non, fun _ z => nomatch z⟩
  | bl b => exact ⟨.base (.bl b), fun _ z => nomatch z⟩
  | int i => exact ⟨.base (.int i), fun _ z => nomatch z⟩
  | str x => exact ⟨.base (.str x), fun _ z => nomatch z⟩
  | lst h1 h2 h3 hz => exact ⟨.base (.lst h1), fun _ z => nomatch z⟩
  | tup h1 h3 hz =>
    refine ⟨?_, fun _ z => nomatch z⟩
    rcases h1 with ⟨zo, h1, _⟩ | ⟨o, its, n, h1, h2, _⟩
    · exact .fTuple h1
    · exact .kTuple h1.1 h2
def eIsi (T : Ty) (t : Env → Rs PyData) : Env → Rs PyData := fun env => (t env).bind fun d e => .ok (.bool (isI T d)) e
theorem de_isi (T : Ty) {a : Expr} {t : Env → Rs PyData} {p p2 : Pos} {y : Str} (hg : Gl X "isinstance") (hm : X.mg "isinstance" = none) (hv : bootBuiltins "isinstance" = some (.builtin "isinstance")) (ha : DE X C a t) (hg2 : Gl X y) (hm2 : X.mg y = none) (hv2 : bootBuiltins y = some (.type T.nm))
    (hn2 : y ≠ "__name__" := by decide) (hd2 : (y == ("__debug__" : Str)) = false := by decide)
    (h1 : starEach [a, .Name y p2] X.env = (false, eval a X.env) :: starEach [.Name y p2] X.env := by rfl) (h2 : starEach [.Name y p2] X.env = (false, eval (.Name y p2) X.env) :: starEach [] X.env := by rfl) (hpl : (backTo pos (starEach [.Name y p2] X.env)).any (·.1) = false := by rfl) :
    DE X C (.Call (.Name "isinstance" p) [a, .Name y p2] [] pos) (eIsi T t) :=
  PEweak (pe_callB call_isi hg hm hv (pa_cons ha (pa_cons (pe_bltn (v := .ty T.nm) hg2 hm2 hv2 rfl hn2 hd2) pa_nil h2) h1) (by decide) (by decide) h1 hpl) fun σ H Q h => rd_one (R1 := RE X.K) h fun v x H ow env hv P h => by
    obtain ⟨t1, t2⟩ := tyx_dv hv
    exact ⟨v, .ty T.nm, _, _, _, rfl, .ty _, t1, kit_isI T x t2, h _ H ow Ext.refl (.bl _) P⟩
end
/-! ### the end of a law -/
theorem law_sp {K : PySem.W.Frag} {cl : Str → Option Addr} {n : Nat} {F : Fn} (hF : ∀ ns : List Int, ns.length ≤ 63 → ∃ os, F [.scr ns] = .rt (.d (.bool true)) os) {H : Hp} {a : Addr} {ns : List Int} (hl : ns.length ≤ 63) (hS : SqL K H a (ns.map V.int)) :
    spD K cl n 1 F [.ref a] H (fun v _ => v = .bl true) (fun _ _ _ => False) := by
  obtain ⟨os, e⟩ := hF ns hl
  refine ⟨rfl, [.scr ns], fun _ => none, rfl, fun i m hi => ?_, ?_⟩
  · cases i with
    | zero =>
      simp at hi
      subst hi
      refine ⟨.ref a, [], rfl, .scr (by omega) ?_, List.nodup_nil, fun p hp => by cases hp⟩
      rcases hS with (h | ⟨o, h⟩) | h
      · exact .inr (.inl ⟨h, rfl⟩)
      · exact .inl ⟨o, h, rfl⟩
      · exact .inr (.inr fun H' => .inr h)
    | succ i => simp at hi
  · rw [e]
    intro v H' ow' x ⟨fp, r1, _⟩ _
    cases r1 with
    | d h => cases h; rfl
end DL


namespace DL
open PySem PySem.Spec PyProof.Rows L2
theorem bt_len : bootBuiltins "len" = some (.builtin "len") := by decide +kernel
theorem bt_abs : bootBuiltins "abs" = some (.builtin "abs") := by decide +kernel
theorem bt_sum : bootBuiltins "sum" = some (.builtin "sum") := by decide +kernel
theorem bt_all : bootBuiltins "all" = some (.builtin "all") := by decide +kernel
theorem bt_any : bootBuiltins "any" = some (.builtin "any") := by decide +kernel
theorem bt_max : bootBuiltins "max" = some (.builtin "max") := by decide +kernel
theorem bt_min : bootBuiltins "min" = some (.builtin "min") := by decide +kernel
theorem bt_sorted : bootBuiltins "sorted" = some (.builtin "sorted") := by decide +kernel
theorem bt_isinstance : bootBuiltins "isinstance" = some (.builtin "isinstance") := by decide +kernel
theorem bt_int : bootBuiltins "int" = some (.type "int") := by decide +kernel
theorem bt_bool : bootBuiltins "bool" = some (.type "bool") := by decide +kernel
theorem bt_str : bootBuiltins "str" = some (.type "str") := by decide +kernel
theorem bt_tuple : bootBuiltins "tuple" = some (.type "tuple") := by decide +kernel
theorem bt_list : bootBuiltins "list" = some (.type "list") := by decide +kernel
theorem hu65 {k : Nat} {A : Around} (hr : Room k A) : A.units + 65 < cLine := by have := hr.un; omega
theorem ioAll {C : Cc} {vs : List Nat} (h : (vs.all fun i => (C.io i).isNone) = true) : IoFreeAll C vs := fun i hi => by
  have := List.all_eq_true.mp h i hi
  exact Option.isNone_iff_eq_none.mp this
section
variable {X : Cx} {C : Cc} {K : PySem.W.Frag} {pos : Pos}
/-- a module's constant -/
inductive Kon (mg : Str → Option Value) (x : Str) : PyData → Prop
  | int {i : Int} {t : Tok} (h : mg x = some (.int i t)) : Kon mg x (.int i)
theorem Kon.de {x : Str} {d : PyData} (k : Kon X.mg x d) (hg : Gl X x) (hd : (x == ("__debug__" : Str)) = false := by decide) : DE X C (.Name x pos) (eC d) := by
  cases k with
  | @int i t h => exact de_glob (v := .int i) hg h ⟨_, rfl⟩ (fun _ _ => .int _) hd
def dAddI : PyData → PyData → Option PyData
  | .int i, .int j => some (.int (i + j))
  | _, _ => none
theorem o2_addI : Op2 K (rI0 fun i j => .int (i + j)) dAddI := o2_rI0 (fun i j o h => by cases h; rfl) fun x y o h => by
  cases x <;> cases y <;> first | exact ⟨_, _, rfl, rfl⟩ | cases h
/-- name = [.. for ..], data -/
theorem ds_setLcD {i : Nat} {y : Str} {py : Pos} {elt tg iter : Expr} {ifs : List Expr} {scope : Scope} {own : List (Str × Nat)} {spos : Pos} {ts vs : List Nat} {it : Env → Rs (List PyData)} {g : PyData → Env → Option Env} {tt : Env → Rs Bool} {te : Env → Rs PyData}
    (hc : X.calm = true) (hN : X.N.Nodup) (hy : X.N[i]? = some y) (hyl : X.env.scope.names.lookup y = some .local) (hsw : swapsWith (.ListComp elt [⟨tg, iter, ifs, 0⟩] scope pos) (some (.Name y py)) spos.line X.env = pure true)
    (hi : DI X C tg iter it) (ok : BlkOk X.N X.env.scope scope own)
    (hg : ∀ (s : Shared) (H : Hp) (D : Addr) (cl : List (Str × Addr)) (fp : List Addr), DG (Blk X s H scope D cl fp) C.blk tg ts g) (ht : ∀ (s : Shared) (H : Hp) (D : Addr) (cl : List (Str × Addr)) (fp : List Addr), DTs (Blk X s H scope D cl fp) C.blk ifs tt)
    (he : ∀ (s : Shared) (H : Hp) (D : Addr) (cl : List (Str × Addr)) (fp : List Addr), DE (Blk X s H scope D cl fp) C.blk elt te) (hts : ∀ i ∈ ts, i ∈ vs) (hio : IoFreeAll C vs) (hioi : IoFree C i) (hs : ∀ x, foldedSetIterable iter X.env x = pure x := by intro _; rfl) (hvs : own.map (·.2) = vs := by rfl) :
    DS X C (.Assign [.Name y py] (.ListComp elt [⟨tg, iter, ifs, 0⟩] scope pos) spos) (sSet i (mD (eComp it g tt te vs))) := by
  subst hvs
  exact PSweak (ps_setLc (g := rdG X.K C.blk ts g) (tt := rd X.K C.blk RT tt) (te := rd X.K C.blk (RE X.K) te) hc hN hy hyl hsw hi ok hg ht he hs) fun D σ H ⟨env, ow, P, h⟩ => by
    refine rd_comp (k := PyData.list) hts hio hk_data (out_E (R := RE X.K) (k := fun d e => .nx (e.set i (some (.d d)))) P ?_ fun v H1 a e1 ow1 y z q => q _ H1 _ Ext.refl (z.setD y hioi))
    have e : sSet i (mD (eComp it g tt te (own.map (·.2)))) env = sE (fun env => (eComp0 it g tt te (own.map (·.2)) env).bind fun r e => .ok (.list r) e) (fun d e => .nx (e.set i (some (.d d)))) env := by
      unfold sSet sE mD eComp
      dsimp only
      cases eComp0 it g tt te (own.map (·.2)) env <;> rfl
    rw [← e]; exact h
/-- a name whose owned list goes on -/
def mVar (i : Nat) : Env → Rs M := fun env => match env[i]? with
  | some (some (.l ds)) => .ok (.l ds) (env.set i none)
  | some (some (.d x)) => .ok (.d x) env
  | _ => .no
theorem dm_var (i : Nat) {x : Str} (hN : X.N[i]? = some x := by rfl) (hv : Vis X.env.scope x := by first | exact Or.inl rfl | exact Or.inr (Or.inl rfl) | exact Or.inr (Or.inr rfl)) (hd : (x == ("__debug__" : Str)) = false := by decide)
    (hcd : (x == ("__classdict__" : Str)) = false := by decide) : DM X C (.Name x pos) (mVar i) :=
  PEweak (pe_var hN hv hd hcd) fun σ H Q ⟨env, ow, P, h⟩ => by
    unfold mVar at h
    cases he : env[i]? with
    | none => rw [he] at h; exact h.elim
    | some o =>
      rw [he] at h
      cases o with
      | none => exact h.elim
      | some m =>
        cases m with
        | d x =>
          obtain ⟨v, h1, h2⟩ := slot_d P (show slotD env i = some x by unfold slotD; rw [he])
          exact ⟨v, h1, h v H ow Ext.refl ⟨[], .d h2, by simp, fun p hp => by cases hp⟩ P⟩
        | l ds =>
          obtain ⟨a, vs, h1, h2, h3, h4, hz, hi⟩ := slot_l P (show slotL env i = some ds by unfold slotL; rw [he])
          refine ⟨_, h1, h _ H (reown ow i C.N) (fun b o hb hb' => ⟨hb, reown_ne fun z => ?_⟩) ⟨[a], .l h2 (h3.stay reown_stay) hz, by simp, fun p hp => by simp at hp; subst hp; exact reown_eq h4⟩ ⟨fun j m e => ?_, P.io, by rw [List.length_set]; exact P.len, P.lenS⟩⟩
          · have := hb' i z; omega
          · have hne : i ≠ j := fun z => by
              subst z
              rw [List.getElem?_set_self (by rw [P.len]; exact hi)] at e
              cases e
            rw [List.getElem?_set_ne hne] at e
            obtain ⟨v, fp, a1, a2, a3, a4⟩ := P.sl j m e
            refine ⟨v, fp, a1, a2.stay reown_stay fun _ _ => rfl, a3, fun p hp => ?_⟩
            rw [reown_ne fun z => ?_]
            · exact a4 p hp
            · rw [a4 p hp] at z
              exact hne (Option.some.inj z).symm
        | scr ns => exact h.elim
/-- a tuple of names takes a list -/
def gTL (n : Nat) (gs : List PyData → Env → Option Env) : PyData → Env → Option Env := fun d env => match d with | .list ds => if ds.length = n then gs ds env else none | _ => none
theorem dg_tupL {es : List Expr} {k n : Nat} {ts : List Nat} {gs : List PyData → Env → Option Env} (hc : X.calm = true) (h : DGs X C es ts gs)
    (hn : (assignEach es X.env).length = n := by rfl) (hst : (assignEach es X.env).findIdx? (·.1) = none := by rfl) : DG X C (.Tuple es k pos) ts (gTL n gs) :=
  PGweak (pg_lst hc h hn hst) fun v σ H Q ⟨env, ow, d, P, hd, h⟩ => by
    cases hd with
    | @lst a xs ds h1 h2 h3 hz =>
      by_cases hl : ds.length = n
      · simp only [gTL, if_pos hl] at h
        exact ⟨a, xs, rfl, .of h1, h3.length.trans hl, env, ow, ds, P, h3, h⟩
      · simp only [gTL, if_neg hl] at h
    | _ => exact h.elim
end
end DL


namespace DL
open PySem PySem.Spec PyProof.Rows L2
/-! methods of tuples and of lists that are data: count, index -/
section
variable {X : Cx} {C : Cc}
/-- x is a list, or a tuple whose object has no names of its own -/
def tyS (K : PySem.W.Frag) (T : String) (x : V) (H : Hp) : Prop := match x with
  | .ref p => (T = "list" ∧ ∃ xs, SqL K H p xs) ∨ (T = "tuple" ∧ ((∃ zo xs, H p = some (.frz zo (.tup xs)) ∧ zo.dict = none) ∨ ∃ o, K.lookup p = some o ∧ o.cls = .type "tuple" ∧ o.dict = none))
  | _ => False
theorem tyS_is {pps : List (Addr × Obj)} {σ : L2.St} {H : Hp} {sh : Shared} {T : String} {x : V} {v : Value} (I : Inv X pps σ H sh) (r : RelV x v) (ty : tyS X.K T x H) :
    sh.TypeIs v T ∧ ∀ a, v = .ref a → ∃ ob, sh.heap.get? a = some ob ∧ ob.dict = none := by
  cases x with
  | ref p =>
    rcases ty with ⟨rfl, xs, lq⟩ | ⟨rfl, ⟨zo, xs, e, d⟩ | ⟨o, e, c, d⟩⟩
    · exact tyV_is I r (T := "list") (.inl ⟨rfl, xs, lq⟩)
    · cases r
      obtain ⟨e1, _, jts, _, o, e2, c, _⟩ := (show ObjOk X.prog X.w H sh.heap p (.frz zo (.tup xs)) from I.hok p _ e)
      refine ⟨⟨o, e2, c⟩, fun a ea => ?_⟩
      cases ea
      exact ⟨zo, e1, d⟩
    · cases r
      exact ⟨⟨o, I.kIn p o e, c⟩, fun a ea => by cases ea; exact ⟨o, I.kIn _ o e, d⟩⟩
  | _ => exact ty.elim
/-- a call of a method of either type -/
def tSM (K : PySem.W.Frag) (r1 r2 : V → List V → Hp → VK → Prop) (to : TE) (t : TA) : TE := fun σ H Q => to σ H fun x H1 => (tyS K "list" x H1 ∧ t σ H1 fun xs H2 => r1 x xs H2 Q) ∨ (tyS K "tuple" x H1 ∧ t σ H1 fun xs H2 => r2 x xs H2 Q)
theorem pe_sm {o e : Expr} {es : List Expr} {to : TE} {t : TA} {name : Str} {apos cpos : Pos} {i1 i2 : String} {r1 r2 : V → List V → Hp → VK → Prop} (slot1 : Slot "list" name i1) (hty1 : typeOf (.builtin i1) = pure (.type "method_descriptor")) (hm1 : MtR X i1 r1)
    (slot2 : Slot "tuple" name i2) (hty2 : typeOf (.builtin i2) = pure (.type "method_descriptor")) (hm2 : MtR X i2 r2) (ho : PE X o to) (ha : PA X (e :: es) t)
    (hbase : attributeBase o name X.env (eval o X.env) = eval o X.env := by rfl)
    (hfew : ((backTo cpos (starEach (e :: es) X.env)).all (fun x => !x.1) && (backToKw cpos (keywordEach [] X.env)).all (fun x => x.1.isSome)
      && decide ((e :: es).length + ([] : List Keyword).length + (if ([] : List Keyword).isEmpty then 0 else 1) < 30)) = true := by rfl)
    (hline : (apos.endLine == cpos.line) = true := by rfl) (nst : starEach (e :: es) X.env = (false, eval e X.env) :: starEach es X.env := by rfl) (npl : (backTo cpos (starEach es X.env)).any (·.1) = false := by rfl) :
    PE X (.Call (.Attribute o name apos) (e :: es) [] cpos) (tSM X.K r1 r2 to t) := by
  refine ⟨fun pps sh σ H Q I h => ?_⟩
  refine wpAny_Call_method_late hbase hfew hline rfl (thn (ho.run pps sh σ H _ I h) fun v s1 ⟨x, H1, J, rv, y⟩ => ?_)
  have fin : ∀ (T id : String) (r : V → List V → Hp → VK → Prop) (pa : PlainAttrs T) (slot : Slot T name id) (hty : typeOf (.builtin id) = pure (.type "method_descriptor")) (hm : MtR X id r), tyS X.K T x H1 → t σ H1 (fun xs H2 => r x xs H2 Q) → MethodOn X.prog X.w X.A name cpos v (backTo cpos (starEach (e :: es) X.env)) (EP X pps σ Q) X.xe s1 := fun T id r pa slot hty hm ty y1 => by
    obtain ⟨z1, z2⟩ := tyS_is J rv ty
    refine ⟨T, id, pa, slot, hty, z1, z2, ?_⟩
    have zA := ha.run cpos pps s1 σ H1 _ J y1
    rw [nst] at zA ⊢
    refine Calls.callWith_builtin (by show (false || (backTo cpos (starEach es X.env)).any (·.1)) = false; rw [npl]; rfl) (Calls.evalArgs_plain ?_)
    exact thn zA fun uu s2 ⟨vs, H2, J2, rw2, y2⟩ => hm pps s2 σ H2 x vs v uu Q J2 rv rw2 y2
  rcases y with ⟨ty, y⟩ | ⟨ty, y⟩
  · exact fin _ _ _ PySem.F.plainAttrs_list slot1 hty1 hm1 ty y
  · exact fin _ _ _ PySem.F.plainAttrs_tuple slot2 hty2 hm2 ty y
/-- t.count(k) of whole numbers -/
def rCntTI (K : PySem.W.Frag) : V → List V → Hp → VK → Prop := fun x xs H Q => ∃ (p : Addr) (ns : List Int) (k : Int), x = .ref p ∧ xs = [.int k] ∧ SqT K H p (ns.map V.int) ∧ Q (.int (ns.count k : Nat)) H
theorem mt_tcount : MtR X "tuple.count" (rCntTI X.K) := by
  intro pps sh σ H x xs v us Q I rx rxs h
  obtain ⟨p, ns, k, rfl, rfl, lq, y⟩ := h
  cases rx
  obtain ⟨u, rfl, ru⟩ := rxs.one
  obtain ⟨t, rfl⟩ := ru
  obtain ⟨jts, sv, ⟨⟨cls, dd, data, sl⟩, ho, cc, n, cd⟩, lz⟩ := I.tuple lq
  simp only at cc cd
  subst cc cd
  have ji := ints_of_vals sv
  refine call_meets PySem.F.slot_tuple_count ⟨_, ho, rfl⟩ PySem.F.entry_tuple_count (PySem.F.args_tuple_count_2 _ _)
    (PySem.SeqAt.tuple_countAt p jts.toArray n dd sl (.int k t) (eqk k)) ⟨ho, fun w hw => (eqk_gives ji w (by simpa using hw)).at _ _, ?_⟩
  have ec : jts.toArray.toList.countP (eqk k) = ns.count k := eqk_count ji
  rw [ec]
  exact ⟨.int (ns.count k : Nat), H, I.tok _, ⟨sh.toks, rfl⟩, y⟩
/-- t.index(k) of whole numbers, the first place -/
def rIdxTI (K : PySem.W.Frag) : V → List V → Hp → VK → Prop := fun x xs H Q => ∃ (p : Addr) (ns : List Int) (k : Int) (j : Nat), x = .ref p ∧ xs = [.int k] ∧ SqT K H p (ns.map V.int) ∧ ns[j]? = some k ∧ (∀ m, m < j → ns[m]? ≠ some k) ∧ Q (.int (j : Nat)) H
theorem mt_tindex : MtR X "tuple.index" (rIdxTI X.K) := by
  intro pps sh σ H x xs v us Q I rx rxs h
  obtain ⟨p, ns, k, j, rfl, rfl, lq, hj, hno, y⟩ := h
  cases rx
  obtain ⟨u, rfl, ru⟩ := rxs.one
  obtain ⟨t, rfl⟩ := ru
  obtain ⟨jts, sv, ⟨⟨cls, dd, data, sl⟩, ho, cc, n, cd⟩, lz⟩ := I.tuple lq
  simp only at cc cd
  subst cc cd
  have ji := ints_of_vals sv
  have jl := sv.length
  rw [List.length_map] at jl
  have hjn : j < ns.length := (List.getElem?_eq_some_iff.mp hj).1
  have hjl : j < jts.toArray.size := by rw [List.size_toArray]; omega
  refine call_meets PySem.F.slot_tuple_index ⟨_, ho, rfl⟩ PySem.F.entry_tuple_index (PySem.F.args_tuple_index_2 _ _) (TI.tuple_indexAt p jts.toArray n dd sl (.int k t) (eqk k) j hjl ?_ ?_)
    ⟨ho, fun w hw => (eqk_gives ji w (by simpa using hw)).at _ _, ⟨.int (j : Nat), H, I.tok _, ⟨_, rfl⟩, y⟩⟩
  · obtain ⟨tj, hjt⟩ := ji.get j k hj
    obtain ⟨z1, z2⟩ := List.getElem?_eq_some_iff.mp hjt
    rw [show jts.toArray[j] = .int k tj by simpa using z2]
    exact beq_self_eq_true k
  · intro m mh hmj
    have hmn : m < ns.length := by omega
    obtain ⟨tm, hmt⟩ := ji.get m _ (List.getElem?_eq_getElem hmn)
    obtain ⟨z1, z2⟩ := List.getElem?_eq_some_iff.mp hmt
    rw [show jts.toArray[m] = .int ns[m] tm by simpa using z2]
    refine beq_eq_false_iff_ne.mpr fun e2 => hno m hmj ?_
    rw [List.getElem?_eq_getElem hmn, e2]
def isSq : PyData → Bool
  | .list _ | .tuple _ => true
  | _ => false
/-- what such a method answers -/
def eSM (f : PyData → List PyData → Option PyData) (t : Env → Rs PyData) (u : Env → Rs (List PyData)) : Env → Rs PyData := fun env => (t env).bind fun x e1 => if isSq x = true then (u e1).bind fun ys e2 => lift (f x ys) e2 else .no
def SmD (K : PySem.W.Frag) (r1 r2 : V → List V → Hp → VK → Prop) (f : PyData → List PyData → Option PyData) : Prop :=
  ∀ v ws x ys o H ow (Q : VK), DV K H ow v x → DVs K H ow ws ys → f x ys = some o → (∀ w, DV K H ow w o → Q w H) → match x with
    | .list _ => r1 v ws H Q
    | .tuple _ => r2 v ws H Q
    | _ => False
def cntD : PyData → List PyData → Option PyData
  | .list xs, [.int k] => (intsOf xs).map fun ns => .int (ns.count k : Nat)
  | .tuple xs, [.int k] => (intsOf xs).map fun ns => .int (ns.count k : Nat)
  | _, _ => none
theorem sm_cnt {K : PySem.W.Frag} : SmD K (rCntI K) (rCntTI K) cntD := by
  intro v ws x ys o H ow Q hv hw e q
  cases hv with
  | @lst a xs ds h1 h2 h3 hz =>
    unfold cntD at e
    split at e
    · rename_i xs' k e1
      cases e1
      obtain ⟨w, rfl, d⟩ := hw.one
      cases d
      cases hn : intsOf ds with
      | none => rw [hn] at e; cases e
      | some ns =>
        rw [hn] at e
        cases e
        have := intsOf_eq hn
        subst this
        have := h3.ints
        subst this
        exact ⟨a, ns, k, rfl, rfl, .of h1, q _ (.int _)⟩
    · rename_i e1; cases e1
    · cases e
  | @tup a xs ds h1 h3 hz =>
    unfold cntD at e
    split at e
    · rename_i e1; cases e1
    · rename_i xs' k e1
      cases e1
      obtain ⟨w, rfl, d⟩ := hw.one
      cases d
      cases hn : intsOf ds with
      | none => rw [hn] at e; cases e
      | some ns =>
        rw [hn] at e
        cases e
        have := intsOf_eq hn
        subst this
        have := h3.ints
        subst this
        exact ⟨a, ns, k, rfl, rfl, h1.sq, q _ (.int _)⟩
    · cases e
  | _ => cases e
theorem tyS_l {K : PySem.W.Frag} {H : Hp} {ow : Ow} {v : V} {xs : List PyData} (h : DV K H ow v (.list xs)) : tyS K "list" v H := by
  cases h with
  | lst h1 h2 h3 hz => exact .inl ⟨rfl, _, .of h1⟩
theorem tyS_t {K : PySem.W.Frag} {H : Hp} {ow : Ow} {v : V} {xs : List PyData} (h : DV K H ow v (.tuple xs)) : tyS K "tuple" v H := by
  cases h with
  | tup h1 h3 hz =>
    rcases h1 with ⟨zo, h1, h2, _⟩ | ⟨o, its, n, h1, h2, _⟩
    · exact .inr ⟨rfl, .inl ⟨zo, _, h1, h2⟩⟩
    · exact .inr ⟨rfl, .inr ⟨o, h1.1, h2, h1.2⟩⟩
theorem de_sm {o e0 : Expr} {es : List Expr} {name : Str} {apos cpos : Pos} {i1 i2 : String} {r1 r2 : V → List V → Hp → VK → Prop} {f : PyData → List PyData → Option PyData} {t : Env → Rs PyData} {u : Env → Rs (List PyData)} (hf : SmD X.K r1 r2 f)
    (slot1 : Slot "list" name i1) (hty1 : typeOf (.builtin i1) = pure (.type "method_descriptor")) (hm1 : MtR X i1 r1) (slot2 : Slot "tuple" name i2) (hty2 : typeOf (.builtin i2) = pure (.type "method_descriptor")) (hm2 : MtR X i2 r2)
    (ho : DE X C o t) (ha : DA X C (e0 :: es) u)
    (hbase : attributeBase o name X.env (eval o X.env) = eval o X.env := by rfl)
    (hfew : ((backTo cpos (starEach (e0 :: es) X.env)).all (fun x => !x.1) && (backToKw cpos (keywordEach [] X.env)).all (fun x => x.1.isSome)
      && decide ((e0 :: es).length + ([] : List Keyword).length + (if ([] : List Keyword).isEmpty then 0 else 1) < 30)) = true := by rfl)
    (hline : (apos.endLine == cpos.line) = true := by rfl) (nst : starEach (e0 :: es) X.env = (false, eval e0 X.env) :: starEach es X.env := by rfl) (npl : (backTo cpos (starEach es X.env)).any (·.1) = false := by rfl) :
    DE X C (.Call (.Attribute o name apos) (e0 :: es) [] cpos) (eSM f t u) :=
  PEweak (pe_sm slot1 hty1 hm1 slot2 hty2 hm2 ho ha hbase hfew hline nst npl) fun σ H Q ⟨env, ow, P, h⟩ => ⟨env, ow, P, rdAt_mono (rdAt_bind (R1 := RE X.K) h) fun v H1 ⟨x, e1, ow1, X1, V1, P1, h1⟩ => by
    by_cases hx : isSq x = true
    rotate_left
    · rw [if_neg hx] at h1
      exact h1.elim
    rw [if_pos hx] at h1
    have fin : ∀ (r : V → List V → Hp → VK → Prop), (∀ ws ys o H2 ow2, DV X.K H2 ow2 v x → DVs X.K H2 ow2 ws ys → f x ys = some o → (∀ w, DV X.K H2 ow2 w o → Q w H2) → r v ws H2 Q) → rd X.K C (RA X.K) u σ H1 fun xs H2 => r v xs H2 Q := fun r hr => by
      refine ⟨e1, ow1, P1, rdAt_mono (rdAt_bind (R1 := RA X.K) h1) fun ws H2 ⟨ys, e2, ow2, X2, V2, P2, h2⟩ => ?_⟩
      obtain ⟨o, e, h2⟩ := rdAt_lift (v := V.non) h2
      exact hr ws ys o H2 ow2 (V1.stay X2.stay) V2 e fun w dw => h2 _ H2 ow2 Ext.refl dw P2
    cases x with
    | list xs => exact .inl ⟨tyS_l V1, fin r1 fun ws ys o H2 ow2 d1 d2 e q => hf v ws _ ys o H2 ow2 Q d1 d2 e q⟩
    | tuple xs => exact .inr ⟨tyS_t V1, fin r2 fun ws ys o H2 ow2 d1 d2 e q => hf v ws _ ys o H2 ow2 Q d1 d2 e q⟩
    | _ => exact absurd hx (by simp [isSq])⟩
def idxD : PyData → List PyData → Option PyData
  | .list xs, [.int k] => (intsOf xs).bind fun ns => if k ∈ ns then some (.int (ns.idxOf k : Nat)) else none
  | .tuple xs, [.int k] => (intsOf xs).bind fun ns => if k ∈ ns then some (.int (ns.idxOf k : Nat)) else none
  | _, _ => none
theorem idx_first {ns : List Int} {k : Int} (h : k ∈ ns) : ns[ns.idxOf k]? = some k ∧ ∀ m, m < ns.idxOf k → ns[m]? ≠ some k := by
  induction ns with
  | nil => cases h
  | cons x xs ih =>
    rw [List.idxOf_cons]
    by_cases hx : x = k
    · subst hx
      simp
    · have hk : k ∈ xs := by
        rcases List.mem_cons.mp h with e | e
        · exact absurd e.symm hx
        · exact e
      obtain ⟨z1, z2⟩ := ih hk
      have hx' : (x == k) = false := by simpa using hx
      rw [hx', cond_false]
      refine ⟨by simpa using z1, fun m hm => ?_⟩
      cases m with
      | zero => simpa using hx
      | succ m => simpa using z2 m (by omega)
theorem sm_idx {K : PySem.W.Frag} : SmD K (rIndex K) (rIdxTI K) idxD := by
  intro v ws x ys o H ow Q hv hw e q
  cases hv with
  | @lst a xs ds h1 h2 h3 hz =>
    unfold idxD at e
    split at e
    · rename_i xs' k e1
      cases e1
      obtain ⟨w, rfl, d⟩ := hw.one
      cases d
      cases hn : intsOf ds with
      | none => rw [hn] at e; cases e
      | some ns =>
        rw [hn] at e
        have e : (if k ∈ ns then some (PyData.int (ns.idxOf k : Nat)) else none) = some o := e
        by_cases hk : k ∈ ns
        · rw [if_pos hk] at e
          cases e
          have := intsOf_eq hn
          subst this
          have := h3.ints
          subst this
          obtain ⟨z1, z2⟩ := idx_first hk
          refine ⟨a, _, .int k, ns.idxOf k, .int k, rfl, rfl, .of h1, rfl, ?_, by simp [z1], by simp [eqV], fun m z' hm hz' => ?_, q _ (.int _)⟩
          · rw [List.all_map]
            exact List.all_eq_true.mpr fun _ _ => rfl
          · rw [List.getElem?_map] at hz'
            cases hg : ns[m]? with
            | none => rw [hg] at hz'; cases hz'
            | some i =>
              rw [hg] at hz'
              cases hz'
              have : i ≠ k := fun c => z2 m hm (by rw [hg, c])
              simpa [eqV] using this
        · rw [if_neg hk] at e; cases e
    · rename_i e1; cases e1
    · cases e
  | @tup a xs ds h1 h3 hz =>
    unfold idxD at e
    split at e
    · rename_i e1; cases e1
    · rename_i xs' k e1
      cases e1
      obtain ⟨w, rfl, d⟩ := hw.one
      cases d
      cases hn : intsOf ds with
      | none => rw [hn] at e; cases e
      | some ns =>
        rw [hn] at e
        have e : (if k ∈ ns then some (PyData.int (ns.idxOf k : Nat)) else none) = some o := e
        by_cases hk : k ∈ ns
        · rw [if_pos hk] at e
          cases e
          have := intsOf_eq hn
          subst this
          have := h3.ints
          subst this
          obtain ⟨z1, z2⟩ := idx_first hk
          exact ⟨a, ns, k, ns.idxOf k, rfl, rfl, h1.sq, z1, z2, q _ (.int _)⟩
        · rw [if_neg hk] at e; cases e
    · cases e
  | _ => cases e
end
end DL


/-! enumerate of a tuple -/
namespace DLT
open PySem PySem.Spec PyProof.Rows L2 RZ
section
variable {prog : Program} {w : World} {A : Around} {E : Value → Shared → Prop} {s : Shared}
set_option maxHeartbeats 1000000 in
theorem meets_enum_tup (a : Addr) (us : Array Value) :
    Meets (Builtin.«enumerate.__new__» ⟨[.type "enumerate", .ref a], []⟩) (fun _ R s => s.heap.IsTuple a us ∧
      R (.ok (.ret (.ref (s.heap.push { cls := .type "tuple_iterator", data := .fields #[.ref a, .int 0 0] }).objs.size)))
        { s with heap := (s.heap.push { cls := .type "tuple_iterator", data := .fields #[.ref a, .int 0 0] }).push { cls := .type "enumerate", data := .fields #[.none, .bool false, .ref s.heap.objs.size, rawInt 0, .none, .none] } }) :=
  .of_wp fun prog w A R s h => by
    obtain ⟨hp, g, d, tk, os⟩ := s; obtain ⟨ht, h⟩ := h
    have hsub := sub_enumerate
    have kk : Heap.IsTuple (Shared.heap ⟨hp, g, d, tk, os⟩) a us := ht
    wp_walk using wpAny_pyIter_tuple kk
    refine wpAny_stack_any fun st => wpAny_pure ?_
    split
    · rename_i c _ _ _ _ _
      cases (c == Value.type "enumerate")
      · wp_walk using wpAny_pyIter_tuple kk
        exact ⟨_, rfl, h⟩
      · wp_walk using wpAny_pyIter_tuple kk
        exact ⟨_, rfl, h⟩
    · wp_walk using wpAny_pyIter_tuple kk
      exact ⟨_, rfl, h⟩
theorem call_enum_tup {a : Addr} {us : Array Value} {Q : Value → Shared → Prop} (ht : s.heap.IsTuple a us)
    (h : ∀ h', IsEnum h' (s.heap.objs.size + 1) s.heap.objs.size 0 .none → h'.IsTupleIter s.heap.objs.size a 0 → h'.objs.size = s.heap.objs.size + 2 →
      (∀ b o, s.heap.get? b = some o → h'.get? b = some o) → Q (.ref (s.heap.objs.size + 1)) { s with heap := h' }) :
    wpAny (model prog w) A (call (.type "enumerate") [.ref a]) Q E s := by
  refine callType_new F.called_enumerate (by decide) (F.typeCall_enumerate_1 _) (F.newCall_enumerate_1 _) (fun z => F.args_object_init_2 z _) F.entry_enumerate_new (meets_enum_tup a us) ⟨ht, ?_⟩
  have gz : (s.heap.push { cls := .type "tuple_iterator", data := .fields #[.ref a, .int 0 0] }).objs.size = s.heap.objs.size + 1 := Heap.size_push ..
  show _ ∧ _
  rw [gz]
  have te : IsEnum ((s.heap.push { cls := .type "tuple_iterator", data := .fields #[.ref a, .int 0 0] }).push { cls := .type "enumerate", data := .fields #[.none, .bool false, .ref s.heap.objs.size, rawInt 0, .none, .none] }) (s.heap.objs.size + 1) s.heap.objs.size 0 .none := by
    have z := Heap.get?_push_size (s.heap.push { cls := .type "tuple_iterator", data := .fields #[.ref a, .int 0 0] }) (o := { cls := .type "enumerate", data := .fields #[.none, .bool false, .ref s.heap.objs.size, rawInt 0, .none, .none] }) rfl
    rw [gz] at z; exact z
  exact ⟨⟨_, te, rfl⟩, h _ te ⟨_, Heap.get?_push_of_some _ (Heap.get?_push_size _ rfl), rfl, rfl⟩ (by rw [Heap.size_push, gz]) fun b o x => Heap.get?_push_of_some _ (Heap.get?_push_of_some _ x)⟩
theorem enum_endT {e it a : Addr} {i : Nat} {us : Array Value} {old : Value} {Q : Option Value → Shared → Prop} (hh : A.handled = none) (he : IsEnum s.heap e it i old) (hit : s.heap.IsTupleIter it a i) (ht : s.heap.IsTuple a us) (hx : us[i]? = none)
    (hQ : ∀ h', Heap.ExtBut it s.heap h' → Q none { s with heap := h' }) : wpAny (model prog w) A (pyNext (.ref e)) Q E s := by
  have hT : s.TypeIs (.ref e) "enumerate" := ⟨_, he, rfl⟩
  unfold pyNext
  refine wpAny_bind (wpAny_attempt (wpAny_callSpecial?_slot (name := Str.ofString "__next__") hT F.slot_enumerate_next (wpAny_call_entry F.slot_enumerate_next hT F.entry_enumerate_next ?_ (F.args_enumerate_next_1 _))))
  show wpAny _ _ (field (.ref e) 2 >>= _) _ _ _
  refine wpAny_bind (wpAny_field he rfl (x := .ref it) rfl ?_)
  refine wpAny_bind (wpAny_nextOf_tuple_end hh hit ht hx fun h' x z1 z2 => ?_)
  obtain ⟨o, ho, ct⟩ := z2
  exact wpAny_bind (wpAny_isInstance (T := "StopIteration") (b := true) ⟨o, ho, ct⟩ isSubtype_stop (wpAny_pure (hQ _ z1)))
end
/-- the tuple at a as it stands at each turn, each item in a new pair -/
def IteT (K : PySem.W.Frag) (a : Addr) : It :=
  ⟨fun i H => ∃ (xs : List V) (x : V), SqT K H a xs ∧ xs[i]? = some x, fun i H v H' => ∃ T x zo, v = .ref T ∧ H T = none ∧ H' = upd H T (.frz zo (.tup [.int (i : Nat), x])) ∧ zo.dict = none ∧ ∀ xs, SqT K H a xs → xs[i]? = some x, fun i H => ∃ xs : List V, SqT K H a xs ∧ xs.length ≤ i⟩
theorem turn_enumT {P : Program} {w : World} {K : PySem.W.Frag} {elts : List Expr} {kk : Nat} {tpos : Pos} (a e it : Addr) :
    Turn P w K (.Tuple elts kk tpos) (IteT K a) [e, it] e (fun ix h => (∃ old, IsEnum h e it ((ix : Nat) : Int) old) ∧ h.IsTupleIter it a ix ∧ e ≠ it ∧ e ≠ a ∧ a ≠ it) where
  mem := by simp
  obj := fun ix h sta b nb => by
    obtain ⟨⟨old, he⟩, ⟨o, ho, cc, hd⟩, _⟩ := sta
    have ee : b = e ∨ b = it := by simpa using nb
    rcases ee with z | z
    · rw [z]; exact ⟨_, he, fun v qq => nomatch qq⟩
    · rw [z]; exact ⟨o, ho, fun v qq => by rw [hd] at qq; cases qq⟩
  keep := fun ix h h' sta k => let ⟨⟨old, he⟩, hi, hne⟩ := sta; ⟨⟨old, k e (by simp) _ he⟩, hi.at fun o qq => k it (by simp) o qq, hne⟩
  item := by
    intro X hP hw hK cc ix pps sh σ H EE I fo sta yg
    subst hP hw hK
    obtain ⟨⟨old, he⟩, hit, hn3⟩ := sta
    obtain ⟨hne, hea, hat⟩ := hn3
    obtain ⟨xs, x, lq, gx⟩ := yg
    obtain ⟨jts, sv, pl1, gz⟩ := I.tuple lq
    obtain ⟨u, hu, ru⟩ := sv.get gx
    have lel : e < sh.heap.objs.size := Heap.lt_size he
    have lil : it < sh.heap.objs.size := by obtain ⟨_, qq, _⟩ := hit; exact Heap.lt_size qq
    have hlt : ix < jts.toArray.size := by
      have := (List.getElem?_eq_some_iff.mp hu).1
      simpa using this
    refine wpAny_pyNext_enum_itemD (Draws.tuple (show X.A.in1.handled = none from I.ok.hd cc) it a hat jts.toArray) he ⟨hit, pl1⟩ hlt hne (by simp [hne, hea]) fun u' h' tk hPu ho hst' hT hsz hk => ?_
    have eu : u' = u := by
      have q2 : jts.toArray[ix]? = some u := by simpa using hu
      rw [q2] at hPu
      exact (Option.some.inj hPu).symm
    subst eu
    have hit' := hst'.1
    refine ⟨_, rfl, wpAny_letOwnedTupleGo_enum (s := { sh with heap := h', toks := tk + 1 }) ho fun h'' he' sb => ?_⟩
    have tT2 : h''.get? sh.heap.objs.size = some { cls := .type "tuple", data := .seq #[.int ix tk, u'] } := (sb.2 _ (Nat.ne_of_gt lel)).trans hT
    have neu : ObjOk X.prog X.w (upd H sh.heap.objs.size (.frz { cls := .type "tuple", data := .seq #[.int ix tk, u'] } (.tup [.int (ix : Nat), x]))) h'' sh.heap.objs.size (.frz { cls := .type "tuple", data := .seq #[.int ix tk, u'] } (.tup [.int (ix : Nat), x])) :=
      ⟨tT2, by show 2 ≤ sizeLine; decide, [.int ix tk, u'], .cons ⟨_, rfl⟩ (.cons ru .nil), ⟨_, tT2, rfl, _, rfl⟩⟩
    have I1 : Inv X pps σ (upd H sh.heap.objs.size (.frz { cls := .type "tuple", data := .seq #[.int ix tk, u'] } (.tup [.int (ix : Nat), x]))) { sh with heap := h'', toks := tk + 1 } :=
      I.turnedNew (ch := [e, it]) (fun b ob nb qq => (sb.2 b (fun z => nb (by simp [z]))).trans (hk b ob (fun z => nb (by simp [z])) (fun z => nb (by simp [z])) qq)) fo (Nat.le_refl _) neu
    refine ⟨.ref sh.heap.objs.size, _, I1, rfl, ⟨_, x, _, rfl, I.hok.fresh (Nat.le_refl _), rfl, rfl, fun ys hy => by rw [I.tuple_inj hy lq]; exact gx⟩, ⟨⟨u', ?_⟩, hit'.at fun o qq => (sb.2 it (Ne.symm hne)).trans qq, ⟨hne, hea, hat⟩⟩, fun b nb => ?_⟩
    · have e1 : ((ix + 1 : Nat) : Int) = (ix : Int) + 1 := by omega
      rw [e1]; exact he'
    · have hb' : b < sh.heap.objs.size := by
        have ee : b = e ∨ b = it := by simpa using nb
        rcases ee with z | z
        · rw [z]; exact lel
        · rw [z]; exact lil
      rw [upd_ne (Nat.ne_of_lt hb')]
      exact (fo b nb).1
  done := by
    intro X hP hw hK cc ix pps sh σ H EE I fo sta yg
    subst hP hw hK
    obtain ⟨⟨old, he⟩, hit, hne, hea, hat⟩ := sta
    obtain ⟨xs, lq, gx⟩ := yg
    obtain ⟨jts, sv, pl1, gz⟩ := I.tuple lq
    obtain ⟨f0, f1, f2, f3, f4, f5⟩ := fo it (by simp)
    have hl := sv.length
    exact enum_endT (I.ok.hd cc) he hit pl1 (by simp; omega) fun h' eb => ⟨rfl, I.turned (t' := sh.toks) (fun b o nb qq => eb b o nb qq) f0 f1 f3 f4 f5⟩
  self := fun A ix sh Q EE sta h => let ⟨⟨_, he⟩, _⟩ := sta; wpAny_pyIter_enum he h

def iEnumA (K : PySem.W.Frag) (ta : TA) : TI := fun σ H R => ta σ H fun vs H1 => ∃ a xs, vs = [.ref a] ∧ ((SqL K H1 a xs ∧ R (IteZ K a) H1) ∨ (SqT K H1 a xs ∧ R (IteT K a) H1))
theorem pi_enumA {X : Cx} {e : Expr} {ta : TA} {pl1 pos tpos : Pos} {elts : List Expr} {kk : Nat} (yg : Gl X "enumerate") (mz : X.mg "enumerate" = none) (pa1 : PA X [e] ta) (ns1 : starEach [e] X.env = [(false, eval e X.env)] := by rfl) :
    PI X (.Tuple elts kk tpos) (.Call (.Name "enumerate" pl1) [e] [] pos) (iEnumA X.K ta) := by
  refine ⟨fun pps sh σ H R I h => ?_⟩
  refine Call_ (ld_blt I yg mz boot_enumerate (PyProof.Rows.callWith_type1 (thn (pa1.run pos pps sh σ H _ I h) fun uu s1 ⟨vs, H1, J, r1, q1⟩ => ?_) ns1 rfl))
  obtain ⟨a, xs, ex, lqq⟩ := q1
  subst ex
  have far : ∀ b, b ∈ [s1.heap.objs.size + 1, s1.heap.objs.size] → FpOk X pps H1 b := fun b nb => by
    have ee : b = s1.heap.objs.size + 1 ∨ b = s1.heap.objs.size := by simpa using nb
    have lec : s1.heap.objs.size ≤ b := by rcases ee with z | z <;> rw [z] <;> omega
    exact J.fpOk lec (J.hok.fresh lec)
  cases r1 with
  | cons rr0 rr1 =>
    cases rr1
    cases rr0
    rcases lqq with ⟨lq, qq⟩ | ⟨lq, qq⟩
    · obtain ⟨jts, sv, pl, gz⟩ := J.list lq
      refine call_enumerate_list pl.isList fun h' he hit gsz gk => wpAny_pyIter_enum he ?_
      have J2 : Inv X pps σ H1 { s1 with heap := h' } := J.kept (t' := s1.toks) gk
      exact ⟨s1.heap.objs.size + 1, [s1.heap.objs.size + 1, s1.heap.objs.size], _, _, H1, rfl, J2, turn_enumZ a (s1.heap.objs.size + 1) s1.heap.objs.size, ⟨⟨.none, he⟩, hit, Nat.succ_ne_self _⟩, far, qq⟩
    · obtain ⟨jts, sv, pl, gz⟩ := J.tuple lq
      obtain ⟨oa, hoa, _⟩ := id pl
      have la := Heap.lt_size hoa
      refine call_enum_tup (show s1.heap.IsTuple a jts.toArray from pl) fun h' he hit gsz gk => wpAny_pyIter_enum he ?_
      have J2 : Inv X pps σ H1 { s1 with heap := h' } := J.kept (t' := s1.toks) gk
      exact ⟨s1.heap.objs.size + 1, [s1.heap.objs.size + 1, s1.heap.objs.size], _, _, H1, rfl, J2, turn_enumT a (s1.heap.objs.size + 1) s1.heap.objs.size, ⟨⟨.none, he⟩, hit, Nat.succ_ne_self _, Nat.ne_of_gt (Nat.lt_succ_of_lt la), Nat.ne_of_lt la⟩, far, qq⟩
end DLT
namespace DL
open PySem PySem.Spec PyProof.Rows L2
section
variable {X : Cx} {C : Cc} {K : PySem.W.Frag}
def bEnum : List PyData → Option (List PyData)
  | [.list xs] => some (enumD 0 xs)
  | [.tuple xs] => some (enumD 0 xs)
  | _ => none
theorem wk_enumT {a : Addr} {xs : List V} {ds : List PyData} (hz : ds.length ≤ 16777216) (h : xs.length = ds.length) : Wk K (DLT.IteT K a) (enumD 0 ds) fun H ow => FT K H ow a xs ∧ DVs K H ow xs ds where
  st := fun H ow H' ow' ⟨a, c⟩ st => ⟨a.stay st, c.stay st⟩
  goes := fun i H ow hi ⟨a, c⟩ => by
    rw [enumD_length] at hi
    exact ⟨xs, xs[i]'(by omega), a.sq, by simp [h, hi]⟩
  stops := fun H ow ⟨a, c⟩ => ⟨xs, a.sq, by rw [enumD_length]; omega⟩
  yields := fun i H ow x H' hi ⟨a, c⟩ ⟨T, u, zo, e1, e2, e3, hd, e4⟩ => by
    rw [enumD_length] at hi
    subst e1; subst e3
    obtain ⟨v, h1, h2⟩ := c.get (i := i) (d := ds[i]) (by simp)
    have := e4 xs a.sq
    rw [h1] at this
    cases this
    refine ⟨off ow T, .tuple [.int i, ds[i]], ?_, Gr.new e2, .tup (.new hd) (.cons (.int _) (.cons (h2.stay (Gr.new e2).stay) .nil)) (by simp)⟩
    rw [enumD_get]
    simp [hi]
  len := by rw [enumD_length]; exact hz
theorem di_enum {a : Expr} {elts : List Expr} {kk : Nat} {tpos : Pos} {t : Env → Rs (List PyData)} {p pos : Pos} (hg : Gl X "enumerate") (hm : X.mg "enumerate" = none) (ha : DA X C [a] t) (hs : starEach [a] X.env = [(false, eval a X.env)] := by rfl) :
    DI X C (.Tuple elts kk tpos) (.Call (.Name "enumerate" p) [a] [] pos) (itB bEnum t) :=
  PIweak (DLT.pi_enumA hg hm ha hs) fun σ H Q h => rd_one (R1 := RA X.K) h fun v x H ow env hv P h => by
    obtain ⟨o, e, h⟩ := rdAt_lift (v := Itr 0 0) h
    unfold bEnum at e
    split at e
    · obtain ⟨w, rfl, d⟩ := hv.one
      cases d with
      | @lst a xs ds h1 h2 h3 hz =>
        cases e
        exact ⟨a, xs, rfl, .inl ⟨.of h1, h _ H ow Ext.refl ⟨_, wk_enumL hz h3.length, h1, h2, h3⟩ P⟩⟩
    · obtain ⟨w, rfl, d⟩ := hv.one
      cases d with
      | @tup a xs ds h1 h3 hz =>
        cases e
        exact ⟨a, xs, rfl, .inr ⟨h1.sq, h _ H ow Ext.refl ⟨_, wk_enumT hz h3.length, h1, h3⟩ P⟩⟩
    · cases e
end
end DL


namespace DL
open PySem PySem.Spec PyProof.Rows L2
/-! ### calls that are lent owned lists, and answer something plain -/
inductive AL where
  | d (x : PyData)
  | l (j : Nat)
inductive RLi (K : PySem.W.Frag) (σ : L2.St) (H : Hp) (ow : Ow) : List V → List AL → Prop
  | nil : RLi K σ H ow [] []
  | d {v : V} {x : PyData} {vs : List V} {r : List AL} : DV K H ow v x → RLi K σ H ow vs r → RLi K σ H ow (v :: vs) (.d x :: r)
  | l {v : V} {j : Nat} {vs : List V} {r : List AL} : σ[j]? = some (some v) → RLi K σ H ow vs r → RLi K σ H ow (v :: vs) (.l j :: r)
abbrev RL (K : PySem.W.Frag) (σ : L2.St) : Hp → Ow → List V → List AL → Prop := fun H ow vs r => RLi K σ H ow vs r
def alNil : Env → Rs (List AL) := fun env => .ok [] env
def alD (t : Env → Rs PyData) (u : Env → Rs (List AL)) : Env → Rs (List AL) := fun env => (t env).bind fun x e1 => (u e1).bind fun r e2 => .ok (.d x :: r) e2
def alL (j : Nat) (u : Env → Rs (List AL)) : Env → Rs (List AL) := fun env => match env[j]? with
  | some (some _) => (u env).bind fun r e2 => .ok (.l j :: r) e2
  | _ => .no
def DAl (X : Cx) (C : Cc) (es : List Expr) (t : Env → Rs (List AL)) : Prop := PA X es fun σ H Q => rd X.K C (RL X.K σ) t σ H Q
section
variable {X : Cx} {C : Cc} {e : Expr} {es : List Expr} {t : Env → Rs PyData} {u : Env → Rs (List AL)}
theorem dal_nil : DAl X C [] alNil := PAweak pa_nil fun σ H Q ⟨env, ow, P, h⟩ => h [] H ow Ext.refl .nil P
theorem dal_d (h : DE X C e t) (k : DAl X C es u) (hs : starEach (e :: es) X.env = (false, eval e X.env) :: starEach es X.env := by rfl) : DAl X C (e :: es) (alD t u) :=
  PAweak (pa_cons h k hs) fun σ H Q h => rd_two (R1 := RE X.K) (R2 := RL X.K σ) h (fun H H' ow ow' v d st x => DV.stay st x) fun v w x y H ow env hv hw P h => h _ H ow Ext.refl (.d hv hw) P
theorem dal_l {j : Nat} (h : PE X e (tVar j)) (k : DAl X C es u) (hs : starEach (e :: es) X.env = (false, eval e X.env) :: starEach es X.env := by rfl) : DAl X C (e :: es) (alL j u) :=
  PAweak (pa_cons h k hs) fun σ H Q ⟨env, ow, P, h⟩ => by
    unfold alL at h
    cases he : env[j]? with
    | none => rw [he] at h; exact h.elim
    | some om =>
     rw [he] at h
     cases om with
     | none => exact h.elim
     | some m =>
      obtain ⟨v, fp, h1, _⟩ := P.sl j m he
      exact ⟨_, h1, env, ow, P, rdAt_mono (rdAt_bind (R1 := RL X.K σ) h) fun w H1 ⟨y, e1, ow1, X1, V1, P1, h2⟩ => h2 _ H1 ow1 Ext.refl (.l h1 V1) P1⟩
end
def alM (env : Env) : AL → Option M
  | .d x => some (.d x)
  | .l j => (env[j]?.join.bind frzM).map .d
def alMs (env : Env) : List AL → Option (List M)
  | [] => some []
  | a :: r => (alM env a).bind fun m => (alMs env r).map (m :: ·)
def jlOf : List AL → List Nat
  | [] => []
  | .d _ :: r => jlOf r
  | .l j :: r => j :: jlOf r
def callL (ar : Nat) (F : Fn) (als : List AL) (env : Env) : Rs PyData := match alMs env als with
  | none => .no
  | some ms => if als.length = ar then match F ms with
    | .rt (.d x) _ => if scalar x = true then .ok x env else .no
    | _ => .no
    else .no
def eCallL (ar : Nat) (F : Fn) (t : Env → Rs (List AL)) : Env → Rs PyData := fun env => (t env).bind fun als e => callL ar F als e
theorem alMs_length {env : Env} : ∀ {als : List AL} {ms : List M}, alMs env als = some ms → ms.length = als.length
  | [], _, h => by cases h; rfl
  | a :: r, ms, h => by
    simp only [alMs] at h
    cases ha : alM env a with
    | none => rw [ha] at h; cases h
    | some m0 =>
      rw [ha] at h
      cases hr : alMs env r with
      | none => rw [hr] at h; cases h
      | some ms0 => rw [hr] at h; cases h; simp [alMs_length hr]
section
variable {K : PySem.W.Frag} {C : Cc}
theorem RLi.length {σ : L2.St} {H : Hp} {ow : Ow} : ∀ {vs : List V} {r : List AL}, RLi K σ H ow vs r → vs.length = r.length
  | _, _, .nil => rfl
  | _, _, .d _ t => by simp [t.length]
  | _, _, .l _ t => by simp [t.length]
def owL (ow : Ow) (js : List Nat) (n : Nat) : Ow := fun a => match ow a with
  | some j => if j ∈ js then none else some (n + 1)
  | none => none
def owB (ow ow' : Ow) (N : Nat) : Ow := fun a => match ow a with
  | some j => some j
  | none => match ow' a with
    | some _ => some N
    | none => none
theorem lend_in {σ : L2.St} {H : Hp} {ow : Ow} {env : Env} {n : Nat} {js : List Nat} (P : RpE K C H ow σ env) : ∀ {als : List AL} {ms : List M} {vs : List V}, RLi K σ H ow vs als → alMs env als = some ms → (∀ j ∈ jlOf als, j ∈ js) →
    ∀ (i : Nat) (m : M), ms[i]? = some m → ∃ v, vs[i]? = some v ∧ ∃ x, m = .d x ∧ DV K H (owL ow js n) v x
  | _, _, _, .nil, hm, _, i, m, e => by cases hm; simp at e
  | .d x :: r, ms, _, .d (v := v) hd t, hm, hj, i, m, e => by
    have st : Stay H ow H (owL ow js n) := fun a o h h' => ⟨h, by unfold owL; rw [h']⟩
    simp only [alMs, alM, Option.bind_some] at hm
    cases hr : alMs env r with
    | none => rw [hr] at hm; cases hm
    | some ms0 =>
      rw [hr] at hm
      cases hm
      cases i with
      | zero => simp at e; subst e; exact ⟨v, rfl, x, rfl, hd.stay st⟩
      | succ i => exact lend_in P t hr hj i m (by simpa using e)
  | .l j :: r, ms, _, .l (v := v) hs t, hm, hj, i, m, e => by
    have st : Stay H ow H (owL ow js n) := fun a o h h' => ⟨h, by unfold owL; rw [h']⟩
    simp only [alMs, alM] at hm
    cases hl : env[j]? with
    | none => rw [hl] at hm; simp at hm
    | some om =>
      cases om with
      | none => rw [hl] at hm; simp at hm
      | some m0 =>
        rw [hl] at hm
        simp only [Option.join_some, Option.bind_some] at hm
        cases hf : frzM m0 with
        | none => rw [hf] at hm; cases hm
        | some y =>
          rw [hf] at hm
          simp only [Option.map_some, Option.bind_some] at hm
          cases hr : alMs env r with
          | none => rw [hr] at hm; cases hm
          | some ms0 =>
            rw [hr] at hm
            cases hm
            cases i with
            | zero =>
              simp at e
              subst e
              obtain ⟨w, fp, h1, h2, h3, h4⟩ := P.sl j m0 hl
              rw [hs] at h1
              cases h1
              cases h2 with
              | d hd =>
                cases hf
                exact ⟨_, rfl, _, rfl, hd.stay st⟩
              | @l a ws ds q1 q2 q3 =>
                cases hf
                refine ⟨_, rfl, .list ds, rfl, .lst q1 ?_ (q2.stay st) q3⟩
                have := h4 a (by simp)
                unfold owL
                rw [this]
                exact if_pos (hj j List.mem_cons_self)
              | scr _ _ => cases hf
            | succ i => exact lend_in P t hr (fun k hk => hj k (List.mem_cons_of_mem _ hk)) i m (by simpa using e)
theorem dv_scalar {H : Hp} {ow ow' : Ow} {v : V} {x : PyData} (h : DV K H ow v x) (s : scalar x = true) : DV K H ow' v x := by
  cases h with
  | non => exact .non
  | bl b => exact .bl b
  | int i => exact .int i
  | str x => exact .str x
  | _ => cases s
theorem rd_callL {cl : Str → Option Addr} {n ar : Nat} {F : Fn} {t : Env → Rs (List AL)} {σ : L2.St} {H : Hp} {Q : VK} (h : rd K C (RE K) (eCallL ar F t) σ H Q) :
    tCall (spD K cl n ar F) [] E0 (fun σ H Q => rd K C (RL K σ) t σ H Q) σ H Q := by
  refine rd_one (R1 := RL K σ) h fun vs als H ow env hv P h => ?_
  unfold callL at h
  cases hm : alMs env als with
  | none => rw [hm] at h; exact h.elim
  | some ms =>
    rw [hm] at h
    by_cases hc : als.length = ar
    · have h : rdAt K C (RE K) σ H ow Q (if als.length = ar then match F ms with
        | .rt (.d x) _ => if scalar x = true then .ok x env else .no
        | _ => .no
        else .no) := h
      rw [if_pos hc] at h
      rw [List.append_nil]
      refine ⟨hv.length.trans hc, ms, owL ow (jlOf als) n, (alMs_length hm).trans hc, fun i m e => ?_, ?_⟩
      · obtain ⟨v, h1, x, rfl, h2⟩ := lend_in (n := n) P hv hm (fun j hj => hj) i m e
        exact ⟨v, [], h1, .d h2, List.nodup_nil, fun p hp => by cases hp⟩
      · cases hF : F ms with
        | no => rw [hF] at h; exact h.elim
        | ex x os => rw [hF] at h; exact h.elim
        | rt m os =>
          rw [hF] at h
          cases m with
          | d x =>
            have h : rdAt K C (RE K) σ H ow Q (if scalar x = true then .ok x env else .no) := h
            by_cases hx : scalar x = true
            · rw [if_pos hx] at h
              intro v H' ow' X0 ⟨fp, r1, r2, r3⟩ ro
              have far : ∀ a o, H a = some o → H' a = some o ∧ owB ow ow' C.N a = ow a := fun a o ho => by
                obtain ⟨p, q⟩ := X0 a o ho fun i z => by
                  unfold owL at z
                  cases hj : ow a with
                  | none => rw [hj] at z; cases z
                  | some j =>
                    rw [hj] at z
                    have z : (if j ∈ jlOf als then none else some (n + 1)) = some i := z
                    split at z
                    · cases z
                    · cases z; omega
                refine ⟨p, ?_⟩
                unfold owB
                cases hj : ow a with
                | some j => rfl
                | none =>
                  have : ow' a = none := by rw [q]; unfold owL; rw [hj]
                  rw [this]
              have XX : Ext C.N H ow H' (owB ow ow' C.N) := fun a o ho _ => far a o ho
              refine h v H' _ XX ?_ ⟨fun j m e => ?_, P.io, P.len, P.lenS⟩
              · cases r1 with
                | d r1 => exact dv_scalar r1 hx
              · obtain ⟨w, fp, c1, c2, c3, c4⟩ := P.sl j m e
                have hk : ∀ p ∈ fp, H' p = H p ∧ owB ow ow' C.N p = ow p := fun p hp => by
                  obtain ⟨o, ho⟩ := c2.there p hp
                  obtain ⟨q, r⟩ := far p o ho
                  exact ⟨q.trans ho.symm, r⟩
                exact ⟨w, fp, c1, c2.stay XX.stay fun p hp => (hk p hp).1, c3, fun p hp => (hk p hp).2.trans (c4 p hp)⟩
            · rw [if_neg hx] at h; exact h.elim
          | l xs => exact h.elim
          | scr xs => exact h.elim
    · have h : rdAt K C (RE K) σ H ow Q (if als.length = ar then match F ms with
        | .rt (.d x) _ => if scalar x = true then .ok x env else .no
        | _ => .no
        else .no) := h
      rw [if_neg hc] at h
      exact h.elim
variable {X : Cx}
theorem de_callL {k n ar : Nat} {f : Addr} {fd : FuncData} {ps : List Str} {cl : Str → Option Addr} {F : Fn} {x : Str} {p pos : Pos} {e : Expr} {es : List Expr} {t : Env → Rs (List AL)} (Fo : FnOk X.prog X.w X.K X.mg X.base CX0 k f fd ps (spD X.K cl n ar F)) (hr : Room k X.A) (hg : Gl X x) (hm : X.mg x = some (.ref f)) (hk : PySem.W.keepIn X.K (.ref f) = true) (hb : Binds X.K fd ps [])
    (ha : DAl X C (e :: es) t) (hdb : (x == ("__debug__" : Str)) = false := by decide) (he : starEach (e :: es) X.env = (false, eval e X.env) :: starEach es X.env := by rfl) (hpl : (backTo pos (starEach es X.env)).any (·.1) = false := by rfl) :
    DE X C (.Call (.Name x p) (e :: es) [] pos) (eCallL ar F t) :=
  PEweak (pe_call Fo hr hg hm hk hb .nil pass0 ha hdb he hpl) fun σ H Q h => rd_callL h
end
end DL


/-! zip of three rows for a name: whether the tuple that was given out before still lives is left open -/
namespace ZN
open PySem PySem.Spec PyProof.Rows L2
abbrev ZA (hh : Heap) (zz ti tt : Addr) (mk : Value) (fl : Bool) : Prop :=
  hh.get? zz = some { cls := .type "zip", dict := none, data := .fields #[mk, .bool fl, .bool false, .ref ti, .ref tt], slots := #[] }
def Mk (mk : Value) : Prop := mk = .none ∨ ∃ T : Addr, mk = rawInt T
section
variable {pr : Program} {ww : World} {AA : Around} {EE : Value → Shared → Prop} {sh : Shared} {zz ti tt j1 j2 j3 : Addr} {q1 q2 q3 : List Addr} {m1 m2 m3 k : Nat} {R1 R2' R3 : Nat → Value → Prop} {U1 U2 U3 : Nat → Heap → Prop} {b1 b2 b3 : Value} {mk : Value} {fl : Bool}
theorem alive_none {a : Addr} {Q : Option Obj → Shared → Prop} (ho : sh.heap.get? a = none) (h : Q none sh) : wpAny (model pr ww) AA (loadIfAlive a) Q EE sh := by
  have h' : Q (sh.heap.get? a) sh := by rw [ho]; exact h
  exact fun _ _ _ => h'
theorem alive_some {a : Addr} {o : Obj} {Q : Option Obj → Shared → Prop} (ho : sh.heap.get? a = some o) (h : Q (some o) sh) : wpAny (model pr ww) AA (loadIfAlive a) Q EE sh := by
  have h' : Q (sh.heap.get? a) sh := by rw [ho]; exact h
  exact fun _ _ _ => h'
theorem isFree {Q : Bool → Shared → Prop} (hz : ZA sh.heap zz ti tt mk fl) (hm : Mk mk) (y : Q true sh) (n : ∀ h', ZA h' zz ti tt mk true → Heap.SameBut zz sh.heap h' → Q false { sh with heap := h' }) :
    wpAny (model pr ww) AA (Builtin.SmallTypes.ownedTupleIsFree (.ref zz)) Q EE sh := by
  unfold Builtin.SmallTypes.ownedTupleIsFree
  rcases hm with rfl | ⟨T, rfl⟩
  · exact wpAny_bind (wpAny_field hz rfl (x := .none) rfl (wpAny_pure y))
  · refine wpAny_bind (wpAny_field hz rfl (x := rawInt T) rfl ?_)
    show wpAny _ _ (loadIfAlive ((T : Int).toNat) >>= _) _ _ _
    rw [Int.toNat_natCast]
    cases e : sh.heap.get? T with
    | none =>
      refine wpAny_bind (alive_none e ?_)
      exact wpAny_pure y
    | some oT =>
      refine wpAny_bind (alive_some e ?_)
      simp only [Option.isNone_some, Bool.false_eq_true, if_false]
      refine wpAny_bind (wpAny_field hz rfl (x := .bool fl) rfl ?_)
      cases fl with
      | true =>
        rw [if_neg (show ¬ ((Value.bool true != Value.bool true) = true) from Bool.false_ne_true)]
        exact wpAny_pure (n _ hz (Heap.SameBut.refl _ _))
      | false =>
        rw [if_pos (show (Value.bool false != Value.bool true) = true from rfl)]
        exact wpAny_bind (wpAny_setField_rec hz (by simp) fun h₁ u₁ v₁ => wpAny_pure (n h₁ u₁ v₁))
theorem next_item {Q : Value → Shared → Prop} (S : ZipSep3 zz ti tt j1 j2 j3 q1 q2 q3) (D1 : Draws pr ww AA j1 q1 m1 R1 U1) (D2 : Draws pr ww AA j2 q2 m2 R2' U2) (D3 : Draws pr ww AA j3 q3 m3 R3 U3)
    (hz : ZA sh.heap zz ti tt mk fl) (hm : Mk mk) (hi : IsTupOf3 sh.heap ti (.ref j1) (.ref j2) (.ref j3)) (ho : IsTupOf3 sh.heap tt b1 b2 b3) (u1 : U1 k sh.heap) (u2 : U2 k sh.heap) (u3 : U3 k sh.heap) (l1 : k < m1) (l2 : k < m2) (l3 : k < m3)
    (hQ : ∀ x1 x2 x3 h' tk mk' fl', R1 k x1 → R2' k x2 → R3 k x3 → ZA h' zz ti tt mk' fl' → Mk mk' → (∃ c1 c2 c3, IsTupOf3 h' tt c1 c2 c3) → U1 (k + 1) h' → U2 (k + 1) h' → U3 (k + 1) h' → IsTupOf3 h' sh.heap.objs.size x1 x2 x3 → h'.objs.size = sh.heap.objs.size + 1 →
      (∀ c o, c ≠ zz → c ≠ tt → c ≠ j1 → c ≠ j2 → c ≠ j3 → sh.heap.get? c = some o → h'.get? c = some o) → Q (.ref sh.heap.objs.size) { sh with heap := h', toks := tk }) :
    wpAny (model pr ww) AA (Builtin.«zip.__next__» ⟨[.ref zz], []⟩) (fun fin s' => ∃ v, fin = .done (.ret v) ∧ Q v s') EE sh := by
  obtain ⟨pa, ge, de, ta, og⟩ := sh
  show wpAny _ _ (field (.ref zz) 2 >>= _) _ _ _
  refine wpAny_bind (wpAny_field hz rfl (x := .bool false) rfl ?_)
  show wpAny _ _ (field (.ref zz) 3 >>= _) _ _ _
  refine wpAny_bind (wpAny_field hz rfl (x := .ref ti) rfl ?_)
  refine wpAny_bind (wpAny_seqItems hi rfl ?_)
  show wpAny _ _ (Builtin.SmallTypes.ownedTupleIsFree (.ref zz) >>= _) _ _ _
  refine wpAny_bind (isFree hz hm ?_ fun g0 z0 v0 => ?_)
  · simp only [if_true]
    refine wpAny_bind (wpAny_rule ?_)
    refine wpAny_bind (wpAny_field hz rfl (x := .ref tt) rfl ?_)
    refine wpAny_bind (wpAny_setField_rec hz (by simp) fun g0 z0 v0 => ?_)
    replace z0 : ZA g0 zz ti tt .ellipsis fl := z0
    replace v0 : Heap.SameBut zz pa g0 := v0
    refine wpAny_bind ?_
    simp only [List.zipIdx_cons, List.zipIdx_nil, List.forIn_cons, List.forIn_nil]
    refine wpAny_bind (wpAny_bind (wpAny_onRaise ?_))
    show wpAny _ _ (Builtin.SmallTypes.nextOf (.ref j1) >>= _) _ _ ⟨g0, ge, de, ta, og⟩
    refine wpAny_bind (D1.item k _ _ _ l1 (D1.over u1 v0 S.zf1) fun x1 p1 t1 y1 w1 r1 => wpAny_pure ?_)
    replace r1 : Heap.SameBut j1 g0 p1 := r1
    have n1 : IsTupOf3 p1 tt b1 b2 b3 := r1.extBut _ _ S.Ti1 (v0.extBut _ _ S.TOz ho)
    refine wpAny_bind (wpAny_seqItems (s := ⟨p1, ge, de, t1, og⟩) n1 rfl ?_)
    refine wpAny_bind (updateSeq_IsTupOf3 (s := ⟨p1, ge, de, t1, og⟩) n1 fun g1 o1 v1 => ?_)
    replace o1 : IsTupOf3 g1 tt x1 b2 b3 := o1
    replace v1 : Heap.SameBut tt p1 g1 := v1
    refine wpAny_bind (wpAny_letGo (wpAny_pure ?_))
    refine wpAny_bind (wpAny_bind (wpAny_onRaise ?_))
    show wpAny _ _ (Builtin.SmallTypes.nextOf (.ref j2) >>= _) _ _ ⟨g1, ge, de, t1, og⟩
    refine wpAny_bind (D2.item k _ _ _ l2 (D2.over (D2.over (D2.over u2 v0 S.zf2) r1 S.sep1_2) v1 S.Tf2) fun x2 p2 t2 y2 w2 r2 => wpAny_pure ?_)
    replace r2 : Heap.SameBut j2 g1 p2 := r2
    have n2 : IsTupOf3 p2 tt x1 b2 b3 := r2.extBut _ _ S.Ti2 o1
    refine wpAny_bind (wpAny_seqItems (s := ⟨p2, ge, de, t2, og⟩) n2 rfl ?_)
    refine wpAny_bind (updateSeq_IsTupOf3 (s := ⟨p2, ge, de, t2, og⟩) n2 fun g2 o2 v2 => ?_)
    replace o2 : IsTupOf3 g2 tt x1 x2 b3 := o2
    replace v2 : Heap.SameBut tt p2 g2 := v2
    refine wpAny_bind (wpAny_letGo (wpAny_pure ?_))
    refine wpAny_bind (wpAny_bind (wpAny_onRaise ?_))
    show wpAny _ _ (Builtin.SmallTypes.nextOf (.ref j3) >>= _) _ _ ⟨g2, ge, de, t2, og⟩
    refine wpAny_bind (D3.item k _ _ _ l3 (D3.over (D3.over (D3.over (D3.over (D3.over u3 v0 S.zf3) r1 S.sep1_3) v1 S.Tf3) r2 S.sep2_3) v2 S.Tf3) fun x3 p3 t3 y3 w3 r3 => wpAny_pure ?_)
    replace r3 : Heap.SameBut j3 g2 p3 := r3
    have n3 : IsTupOf3 p3 tt x1 x2 b3 := r3.extBut _ _ S.Ti3 o2
    refine wpAny_bind (wpAny_seqItems (s := ⟨p3, ge, de, t3, og⟩) n3 rfl ?_)
    refine wpAny_bind (updateSeq_IsTupOf3 (s := ⟨p3, ge, de, t3, og⟩) n3 fun g3 o3 v3 => ?_)
    replace o3 : IsTupOf3 g3 tt x1 x2 x3 := o3
    replace v3 : Heap.SameBut tt p3 g3 := v3
    refine wpAny_bind (wpAny_letGo (wpAny_pure (wpAny_pure ?_)))
    refine wpAny_bind (wpAny_seqItems (s := ⟨g3, ge, de, t3, og⟩) o3 rfl ?_)
    refine wpAny_bind (wpAny_newTuple ?_)
    have sz : g3.objs.size = pa.objs.size := by rw [v3.1, r3.1, v2.1, r2.1, v1.1, r1.1, v0.1]
    have z3 : ZA g3 zz ti tt .ellipsis fl := v3.extBut _ _ S.TOz.symm <| r3.extBut _ _ S.zi3 <| v2.extBut _ _ S.TOz.symm <| r2.extBut _ _ S.zi2 <| v1.extBut _ _ S.TOz.symm <| r1.extBut _ _ S.zi1 z0
    have kk : ∀ c o, c ≠ zz → c ≠ tt → c ≠ j1 → c ≠ j2 → c ≠ j3 → pa.get? c = some o → g3.get? c = some o := fun c o cz cT c1 c2 c3 e =>
      v3.extBut _ _ cT <| r3.extBut _ _ c3 <| v2.extBut _ _ cT <| r2.extBut _ _ c2 <| v1.extBut _ _ cT <| r1.extBut _ _ c1 <| v0.extBut _ _ cz e
    have a1 : U1 (k + 1) g3 := D1.over (D1.over (D1.over (D1.over (D1.over w1 v1 S.Tf1) r2 S.sep2_1) v2 S.Tf1) r3 S.sep3_1) v3 S.Tf1
    have a2 : U2 (k + 1) g3 := D2.over (D2.over (D2.over w2 v2 S.Tf2) r3 S.sep3_2) v3 S.Tf2
    have a3 : U3 (k + 1) g3 := D3.over w3 v3 S.Tf3
    have zl : zz < g3.objs.size := Heap.lt_size z3
    show wpAny _ _ (Builtin.SmallTypes.ownedTupleHandOut (.ref zz) (.ref g3.objs.size) >>= _) _ _ ⟨g3.push { cls := .type "tuple", data := .seq #[x1, x2, x3] }, ge, de, t3, og⟩
    refine wpAny_bind ?_
    unfold Builtin.SmallTypes.ownedTupleHandOut
    have z4 : ZA (g3.push { cls := .type "tuple", data := .seq #[x1, x2, x3] }) zz ti tt .ellipsis fl := Heap.get?_push_of_some _ z3
    refine wpAny_bind (wpAny_setField_rec z4 (by simp) fun g5 z5 v5 => ?_)
    replace z5 : ZA g5 zz ti tt (rawInt g3.objs.size) fl := z5
    refine wpAny_setField_rec z5 (by simp) fun g6 z6 v6 => ?_
    replace z6 : ZA g6 zz ti tt (rawInt g3.objs.size) false := z6
    replace v5 : Heap.SameBut zz (g3.push { cls := .type "tuple", data := .seq #[x1, x2, x3] }) g5 := v5
    replace v6 : Heap.SameBut zz g5 g6 := v6
    have up : ∀ c o, c ≠ zz → g3.get? c = some o → g6.get? c = some o := fun c o c1 e => v6.extBut _ _ c1 (v5.extBut _ _ c1 (Heap.get?_push_of_some _ e))
    have nt : IsTupOf3 g6 g3.objs.size x1 x2 x3 := v6.extBut _ _ (Nat.ne_of_gt zl) (v5.extBut _ _ (Nat.ne_of_gt zl) (Heap.get?_push_size _ rfl))
    have s6 : g6.objs.size = g3.objs.size + 1 := by rw [v6.1, v5.1, Heap.size_push]
    rw [sz] at z6 nt s6
    refine wpAny_pure ⟨_, rfl, ?_⟩
    show Q (.ref g3.objs.size) ⟨g6, ge, de, t3, og⟩
    rw [sz]
    exact hQ x1 x2 x3 g6 t3 _ _ y1 y2 y3 z6 (.inr ⟨_, rfl⟩) ⟨_, _, _, up _ _ S.TOz o3⟩ (D1.frame _ _ _ a1 fun b hb o e => up b o (fun q => S.zf1 (q ▸ hb)) e) (D2.frame _ _ _ a2 fun b hb o e => up b o (fun q => S.zf2 (q ▸ hb)) e) (D3.frame _ _ _ a3 fun b hb o e => up b o (fun q => S.zf3 (q ▸ hb)) e) nt s6
      fun c o cz cT c1 c2 c3 e => up c o cz (kk c o cz cT c1 c2 c3 e)
  · simp only [Bool.false_eq_true, if_false]
    replace v0 : Heap.SameBut zz pa g0 := v0
    refine wpAny_bind ?_
    rw [← Array.forIn_toList]
    simp only [List.forIn_cons, List.forIn_nil]
    refine wpAny_bind (wpAny_bind (wpAny_holding ?_))
    show wpAny _ _ (Builtin.SmallTypes.nextOf (.ref j1) >>= _) _ _ ⟨g0, ge, de, ta, og⟩
    refine wpAny_bind (D1.item k _ _ _ l1 (D1.over u1 v0 S.zf1) fun x1 p1 t1 y1 w1 r1 => wpAny_pure ?_)
    replace r1 : Heap.SameBut j1 g0 p1 := r1
    refine wpAny_pure ?_
    refine wpAny_bind (wpAny_bind (wpAny_holding ?_))
    show wpAny _ _ (Builtin.SmallTypes.nextOf (.ref j2) >>= _) _ _ ⟨p1, ge, de, t1, og⟩
    refine wpAny_bind (D2.item k _ _ _ l2 (D2.over (D2.over u2 v0 S.zf2) r1 S.sep1_2) fun x2 p2 t2 y2 w2 r2 => wpAny_pure ?_)
    replace r2 : Heap.SameBut j2 p1 p2 := r2
    refine wpAny_pure ?_
    refine wpAny_bind (wpAny_bind (wpAny_holding ?_))
    show wpAny _ _ (Builtin.SmallTypes.nextOf (.ref j3) >>= _) _ _ ⟨p2, ge, de, t2, og⟩
    refine wpAny_bind (D3.item k _ _ _ l3 (D3.over (D3.over (D3.over u3 v0 S.zf3) r1 S.sep1_3) r2 S.sep2_3) fun x3 p3 t3 y3 w3 r3 => wpAny_pure ?_)
    replace r3 : Heap.SameBut j3 p2 p3 := r3
    refine wpAny_pure (wpAny_pure ?_)
    show wpAny _ _ (newTuple [x1, x2, x3] >>= _) _ _ _
    refine wpAny_bind (wpAny_newTuple ?_)
    have sz : p3.objs.size = pa.objs.size := by rw [r3.1, r2.1, r1.1, v0.1]
    have z3 : ZA p3 zz ti tt mk true := r3.extBut _ _ S.zi3 <| r2.extBut _ _ S.zi2 <| r1.extBut _ _ S.zi1 z0
    have kk : ∀ c o, c ≠ zz → c ≠ j1 → c ≠ j2 → c ≠ j3 → pa.get? c = some o → p3.get? c = some o := fun c o cz c1 c2 c3 e =>
      r3.extBut _ _ c3 <| r2.extBut _ _ c2 <| r1.extBut _ _ c1 <| v0.extBut _ _ cz e
    have a1 : U1 (k + 1) p3 := D1.over (D1.over w1 r2 S.sep2_1) r3 S.sep3_1
    have a2 : U2 (k + 1) p3 := D2.over w2 r3 S.sep3_2
    have up : ∀ c o, p3.get? c = some o → (p3.push { cls := .type "tuple", data := .seq #[x1, x2, x3] }).get? c = some o := fun c o e => Heap.get?_push_of_some _ e
    refine wpAny_pure ⟨_, rfl, ?_⟩
    show Q (.ref p3.objs.size) _
    have nt : IsTupOf3 (p3.push { cls := .type "tuple", data := .seq #[x1, x2, x3] }) p3.objs.size x1 x2 x3 := Heap.get?_push_size _ rfl
    have s6 : (p3.push { cls := .type "tuple", data := .seq #[x1, x2, x3] }).objs.size = p3.objs.size + 1 := Heap.size_push ..
    rw [sz] at nt s6 ⊢
    exact hQ x1 x2 x3 _ t3 _ _ y1 y2 y3 (up _ _ z3) hm ⟨_, _, _, up _ _ (kk _ _ S.TOz S.Ti1 S.Ti2 S.Ti3 ho)⟩ (D1.frame _ _ _ a1 fun b _ o e => up b o e) (D2.frame _ _ _ a2 fun b _ o e => up b o e) (D3.frame _ _ _ w3 fun b _ o e => up b o e) nt s6
      fun c o cz cT c1 c2 c3 e => up c o (kk c o cz c1 c2 c3 e)
theorem next_end {Q : Fin → Shared → Prop} (S : ZipSep3 zz ti tt j1 j2 j3 q1 q2 q3) (D1 : Draws pr ww AA j1 q1 m1 R1 U1) (D2 : Draws pr ww AA j2 q2 m2 R2' U2) (D3 : Draws pr ww AA j3 q3 m3 R3 U3)
    (hz : ZA sh.heap zz ti tt mk fl) (hm : Mk mk) (hi : IsTupOf3 sh.heap ti (.ref j1) (.ref j2) (.ref j3)) (ho : IsTupOf3 sh.heap tt b1 b2 b3) (u1 : U1 k sh.heap) (u2 : U2 k sh.heap) (u3 : U3 k sh.heap) (l1 : k ≤ m1) (l2 : k ≤ m2) (l3 : k ≤ m3) (en : k = m1 ∨ k = m2 ∨ k = m3)
    (hE : ∀ h' tk e, (∀ c o, c ≠ zz → c ≠ tt → c ≠ j1 → c ≠ j2 → c ≠ j3 → sh.heap.get? c = some o → h'.get? c = some o) → (∃ o, h'.get? e = some o ∧ o.cls = .type "StopIteration") → EE (.ref e) { sh with heap := h', toks := tk }) :
    wpAny (model pr ww) AA (Builtin.«zip.__next__» ⟨[.ref zz], []⟩) Q EE sh := by
  obtain ⟨pa, ge, de, ta, og⟩ := sh
  show wpAny _ _ (field (.ref zz) 2 >>= _) _ _ _
  refine wpAny_bind (wpAny_field hz rfl (x := .bool false) rfl ?_)
  show wpAny _ _ (field (.ref zz) 3 >>= _) _ _ _
  refine wpAny_bind (wpAny_field hz rfl (x := .ref ti) rfl ?_)
  refine wpAny_bind (wpAny_seqItems hi rfl ?_)
  show wpAny _ _ (Builtin.SmallTypes.ownedTupleIsFree (.ref zz) >>= _) _ _ _
  refine wpAny_bind (isFree hz hm ?_ fun g0 z0 v0 => ?_)
  · simp only [if_true]
    refine wpAny_bind (wpAny_rule ?_)
    refine wpAny_bind (wpAny_field hz rfl (x := .ref tt) rfl ?_)
    refine wpAny_bind (wpAny_setField_rec hz (by simp) fun g0 z0 v0 => ?_)
    replace z0 : ZA g0 zz ti tt .ellipsis fl := z0
    replace v0 : Heap.SameBut zz pa g0 := v0
    refine wpAny_bind ?_
    simp only [List.zipIdx_cons, List.zipIdx_nil, List.forIn_cons, List.forIn_nil]
    refine wpAny_bind (wpAny_bind (wpAny_onRaise ?_))
    show wpAny _ _ (Builtin.SmallTypes.nextOf (.ref j1) >>= _) _ _ ⟨g0, ge, de, ta, og⟩
    by_cases c1 : k < m1
    · refine wpAny_bind (D1.item k _ _ _ c1 (D1.over u1 v0 S.zf1) fun x1 p1 t1 y1 w1 r1 => wpAny_pure ?_)
      replace r1 : Heap.SameBut j1 g0 p1 := r1
      have n1 : IsTupOf3 p1 tt b1 b2 b3 := r1.extBut _ _ S.Ti1 (v0.extBut _ _ S.TOz ho)
      refine wpAny_bind (wpAny_seqItems (s := ⟨p1, ge, de, t1, og⟩) n1 rfl ?_)
      refine wpAny_bind (updateSeq_IsTupOf3 (s := ⟨p1, ge, de, t1, og⟩) n1 fun g1 o1 v1 => ?_)
      replace o1 : IsTupOf3 g1 tt x1 b2 b3 := o1
      replace v1 : Heap.SameBut tt p1 g1 := v1
      refine wpAny_bind (wpAny_letGo (wpAny_pure ?_))
      refine wpAny_bind (wpAny_bind (wpAny_onRaise ?_))
      show wpAny _ _ (Builtin.SmallTypes.nextOf (.ref j2) >>= _) _ _ ⟨g1, ge, de, t1, og⟩
      by_cases c2 : k < m2
      · refine wpAny_bind (D2.item k _ _ _ c2 (D2.over (D2.over (D2.over u2 v0 S.zf2) r1 S.sep1_2) v1 S.Tf2) fun x2 p2 t2 y2 w2 r2 => wpAny_pure ?_)
        replace r2 : Heap.SameBut j2 g1 p2 := r2
        have n2 : IsTupOf3 p2 tt x1 b2 b3 := r2.extBut _ _ S.Ti2 o1
        refine wpAny_bind (wpAny_seqItems (s := ⟨p2, ge, de, t2, og⟩) n2 rfl ?_)
        refine wpAny_bind (updateSeq_IsTupOf3 (s := ⟨p2, ge, de, t2, og⟩) n2 fun g2 o2 v2 => ?_)
        replace o2 : IsTupOf3 g2 tt x1 x2 b3 := o2
        replace v2 : Heap.SameBut tt p2 g2 := v2
        refine wpAny_bind (wpAny_letGo (wpAny_pure ?_))
        have e3 : k = m3 := by omega
        refine wpAny_bind (wpAny_bind (wpAny_onRaise ?_))
        show wpAny _ _ (Builtin.SmallTypes.nextOf (.ref j3) >>= _) _ _ ⟨g2, ge, de, t2, og⟩
        refine wpAny_bind (D3.done ⟨g2, ge, de, t2, og⟩ _ _ (by rw [← e3]; exact D3.over (D3.over (D3.over (D3.over (D3.over u3 v0 S.zf3) r1 S.sep1_3) v1 S.Tf3) r2 S.sep2_3) v2 S.Tf3) fun gq e hq he => ?_)
        replace hq : Heap.ExtBut j3 g2 gq := hq
        obtain ⟨oe, f1, f2⟩ := he
        replace f1 : gq.get? e = some oe := f1
        have zq : ZA gq zz ti tt .ellipsis fl := hq _ _ S.zi3 <| v2.extBut _ _ S.TOz.symm <| r2.extBut _ _ S.zi2 <| v1.extBut _ _ S.TOz.symm <| r1.extBut _ _ S.zi1 z0
        have ez : e ≠ zz := fun x => by subst x; rw [zq] at f1; cases f1; simp at f2
        refine wpAny_setField_rec (s := ⟨gq, ge, de, t2, og⟩) zq (by simp) fun gr _ hr => ?_
        replace hr : Heap.SameBut zz gq gr := hr
        exact hE gr t2 e (fun c o cz cT d1 d2 d3 x => hr.extBut _ _ cz <| hq _ _ d3 <| v2.extBut _ _ cT <| r2.extBut _ _ d2 <| v1.extBut _ _ cT <| r1.extBut _ _ d1 <| v0.extBut _ _ cz x) ⟨oe, hr.extBut _ _ ez f1, f2⟩
      · have e2 : k = m2 := by omega
        refine wpAny_bind (D2.done ⟨g1, ge, de, t1, og⟩ _ _ (by rw [← e2]; exact D2.over (D2.over (D2.over u2 v0 S.zf2) r1 S.sep1_2) v1 S.Tf2) fun gq e hq he => ?_)
        replace hq : Heap.ExtBut j2 g1 gq := hq
        obtain ⟨oe, f1, f2⟩ := he
        replace f1 : gq.get? e = some oe := f1
        have zq : ZA gq zz ti tt .ellipsis fl := hq _ _ S.zi2 <| v1.extBut _ _ S.TOz.symm <| r1.extBut _ _ S.zi1 z0
        have ez : e ≠ zz := fun x => by subst x; rw [zq] at f1; cases f1; simp at f2
        refine wpAny_setField_rec (s := ⟨gq, ge, de, t1, og⟩) zq (by simp) fun gr _ hr => ?_
        replace hr : Heap.SameBut zz gq gr := hr
        exact hE gr t1 e (fun c o cz cT d1 d2 d3 x => hr.extBut _ _ cz <| hq _ _ d2 <| v1.extBut _ _ cT <| r1.extBut _ _ d1 <| v0.extBut _ _ cz x) ⟨oe, hr.extBut _ _ ez f1, f2⟩
    · have e1 : k = m1 := by omega
      refine wpAny_bind (D1.done ⟨g0, ge, de, ta, og⟩ _ _ (by rw [← e1]; exact D1.over u1 v0 S.zf1) fun gq e hq he => ?_)
      replace hq : Heap.ExtBut j1 g0 gq := hq
      obtain ⟨oe, f1, f2⟩ := he
      replace f1 : gq.get? e = some oe := f1
      have zq : ZA gq zz ti tt .ellipsis fl := hq _ _ S.zi1 z0
      have ez : e ≠ zz := fun x => by subst x; rw [zq] at f1; cases f1; simp at f2
      refine wpAny_setField_rec (s := ⟨gq, ge, de, ta, og⟩) zq (by simp) fun gr _ hr => ?_
      replace hr : Heap.SameBut zz gq gr := hr
      exact hE gr ta e (fun c o cz cT d1 d2 d3 x => hr.extBut _ _ cz <| hq _ _ d1 <| v0.extBut _ _ cz x) ⟨oe, hr.extBut _ _ ez f1, f2⟩
  · simp only [Bool.false_eq_true, if_false]
    replace v0 : Heap.SameBut zz pa g0 := v0
    refine wpAny_bind ?_
    rw [← Array.forIn_toList]
    simp only [List.forIn_cons, List.forIn_nil]
    refine wpAny_bind (wpAny_bind (wpAny_holding ?_))
    show wpAny _ _ (Builtin.SmallTypes.nextOf (.ref j1) >>= _) _ _ ⟨g0, ge, de, ta, og⟩
    by_cases c1 : k < m1
    · refine wpAny_bind (D1.item k _ _ _ c1 (D1.over u1 v0 S.zf1) fun x1 p1 t1 y1 w1 r1 => wpAny_pure ?_)
      replace r1 : Heap.SameBut j1 g0 p1 := r1
      refine wpAny_pure ?_
      refine wpAny_bind (wpAny_bind (wpAny_holding ?_))
      show wpAny _ _ (Builtin.SmallTypes.nextOf (.ref j2) >>= _) _ _ ⟨p1, ge, de, t1, og⟩
      by_cases c2 : k < m2
      · refine wpAny_bind (D2.item k _ _ _ c2 (D2.over (D2.over u2 v0 S.zf2) r1 S.sep1_2) fun x2 p2 t2 y2 w2 r2 => wpAny_pure ?_)
        replace r2 : Heap.SameBut j2 p1 p2 := r2
        refine wpAny_pure ?_
        refine wpAny_bind (wpAny_bind (wpAny_holding ?_))
        show wpAny _ _ (Builtin.SmallTypes.nextOf (.ref j3) >>= _) _ _ ⟨p2, ge, de, t2, og⟩
        have e3 : k = m3 := by omega
        refine wpAny_bind (D3.done ⟨p2, ge, de, t2, og⟩ _ _ (by rw [← e3]; exact D3.over (D3.over (D3.over u3 v0 S.zf3) r1 S.sep1_3) r2 S.sep2_3) fun gq e hq he => ?_)
        exact hE gq t2 e (fun c o cz cT d1 d2 d3 x => hq _ _ d3 <| r2.extBut _ _ d2 <| r1.extBut _ _ d1 <| v0.extBut _ _ cz x) he
      · have e2 : k = m2 := by omega
        refine wpAny_bind (D2.done ⟨p1, ge, de, t1, og⟩ _ _ (by rw [← e2]; exact D2.over (D2.over u2 v0 S.zf2) r1 S.sep1_2) fun gq e hq he => ?_)
        exact hE gq t1 e (fun c o cz cT d1 d2 d3 x => hq _ _ d2 <| r1.extBut _ _ d1 <| v0.extBut _ _ cz x) he
    · have e1 : k = m1 := by omega
      refine wpAny_bind (D1.done ⟨g0, ge, de, ta, og⟩ _ _ (by rw [← e1]; exact D1.over u1 v0 S.zf1) fun gq e hq he => ?_)
      exact hE gq ta e (fun c o cz cT d1 d2 d3 x => hq _ _ d1 <| v0.extBut _ _ cz x) he
end
end ZN
namespace DLT
open PySem PySem.Spec PyProof.Rows L2 ZN
theorem sep3 (n a b c : Nat) (ha : a < n) (hb : b < n) (hc : c < n) : ZipSep3 (n + 5) (n + 3) (n + 4) n (n + 1) (n + 2) [n, a] [n + 1, b] [n + 2, c] := by
  have key : ∀ x y : Nat, x ≠ y → ¬ @Eq Addr x y := fun _ _ h => h
  constructor <;> (simp only [List.mem_cons, List.not_mem_nil, or_false, not_or, ne_eq]) <;> first | exact key _ _ (by omega) | exact ⟨key _ _ (by omega), key _ _ (by omega)⟩ | simp
/-- three tuples, turn by turn, each three items in a new tuple -/
def It3 (K : PySem.W.Frag) (a b c : Addr) : It :=
  ⟨fun ix H => ∃ (xs ys zs : List V) (x y z : V), SqT K H a xs ∧ SqT K H b ys ∧ SqT K H c zs ∧ xs[ix]? = some x ∧ ys[ix]? = some y ∧ zs[ix]? = some z,
    fun ix H v H' => ∃ T x y z zo, v = .ref T ∧ H T = none ∧ H' = upd H T (.frz zo (.tup [x, y, z])) ∧ zo.dict = none ∧ (∀ xs, SqT K H a xs → xs[ix]? = some x) ∧ (∀ ys, SqT K H b ys → ys[ix]? = some y) ∧ ∀ zs, SqT K H c zs → zs[ix]? = some z,
    fun ix H => ∃ xs ys zs : List V, SqT K H a xs ∧ SqT K H b ys ∧ SqT K H c zs ∧ ix ≤ xs.length ∧ ix ≤ ys.length ∧ ix ≤ zs.length ∧ (ix = xs.length ∨ ix = ys.length ∨ ix = zs.length)⟩
theorem turn_zip3 {P : Program} {w : World} {K : PySem.W.Frag} {nm : Str} {tpos : Pos} {a b c z TI TO i1 i2 i3 : Addr} (S : ZipSep3 z TI TO i1 i2 i3 [i1, a] [i2, b] [i3, c]) (na : a ≠ i1) (nb : b ≠ i2) (nc : c ≠ i3) :
    Turn P w K (.Name nm tpos) (It3 K a b c) [z, TI, TO, i1, i2, i3] z (fun ix h => (∃ mk fl, ZA h z TI TO mk fl ∧ Mk mk) ∧ IsTupOf3 h TI (.ref i1) (.ref i2) (.ref i3) ∧ (∃ x y u, IsTupOf3 h TO x y u) ∧ h.IsTupleIter i1 a ix ∧ h.IsTupleIter i2 b ix ∧ h.IsTupleIter i3 c ix) where
  mem := by simp
  obj := fun ix h sta b' cc => by
    obtain ⟨⟨mk, fl, gz, _⟩, gTI, ⟨x, y, u, gTO⟩, ⟨o1, e1, _, d1⟩, ⟨o2, e2, _, d2⟩, ⟨o3, e3, _, d3⟩⟩ := sta
    have ee : b' = z ∨ b' = TI ∨ b' = TO ∨ b' = i1 ∨ b' = i2 ∨ b' = i3 := by simpa using cc
    rcases ee with q | q | q | q | q | q
    · rw [q]; exact ⟨_, gz, fun v e => nomatch e⟩
    · rw [q]; exact ⟨_, gTI, fun v e => nomatch e⟩
    · rw [q]; exact ⟨_, gTO, fun v e => nomatch e⟩
    · rw [q]; exact ⟨o1, e1, fun v e => by rw [d1] at e; cases e⟩
    · rw [q]; exact ⟨o2, e2, fun v e => by rw [d2] at e; cases e⟩
    · rw [q]; exact ⟨o3, e3, fun v e => by rw [d3] at e; cases e⟩
  keep := fun ix h h' sta k => by
    obtain ⟨⟨mk, fl, gz, gm⟩, gTI, ⟨x, y, u, gTO⟩, g1, g2, g3⟩ := sta
    exact ⟨⟨mk, fl, k z (by simp) _ gz, gm⟩, k TI (by simp) _ gTI, ⟨x, y, u, k TO (by simp) _ gTO⟩, g1.at fun o e => k i1 (by simp) o e, g2.at fun o e => k i2 (by simp) o e, g3.at fun o e => k i3 (by simp) o e⟩
  item := by
    intro X hP hw hK cc ix pps sh σ H EE I fo sta yg
    subst hP hw hK
    obtain ⟨⟨mk, fl, gz, gm⟩, gTI, ⟨x0, y0, u0, gTO⟩, g1, g2, g3⟩ := sta
    obtain ⟨xs, ys, zs, x, y, u, lx, ly, lz, gx, gy, gu⟩ := yg
    obtain ⟨t1, s1, p1, _⟩ := I.tuple lx
    obtain ⟨t2, s2, p2, _⟩ := I.tuple ly
    obtain ⟨t3, s3, p3, _⟩ := I.tuple lz
    obtain ⟨v1, hv1, r1⟩ := s1.get gx
    obtain ⟨v2, hv2, r2⟩ := s2.get gy
    obtain ⟨v3, hv3, r3⟩ := s3.get gu
    have hzl : z < sh.heap.objs.size := Heap.lt_size gz
    have hTy : sh.TypeIs (.ref z) "zip" := ⟨_, gz, rfl⟩
    have k1 : ix < t1.toArray.size := by have := (List.getElem?_eq_some_iff.mp hv1).1; simpa using this
    have k2 : ix < t2.toArray.size := by have := (List.getElem?_eq_some_iff.mp hv2).1; simpa using this
    have k3 : ix < t3.toArray.size := by have := (List.getElem?_eq_some_iff.mp hv3).1; simpa using this
    have hh : X.A.in1.handled = none := I.ok.hd cc
    unfold pyNext
    refine wpAny_bind (wpAny_attempt (wpAny_callSpecial?_slot (name := Str.ofString "__next__") hTy F.slot_zip_next (wpAny_call_entry F.slot_zip_next hTy F.entry_zip_next
      (next_item S (Draws.tuple hh i1 a na t1.toArray) (Draws.tuple hh i2 b nb t2.toArray) (Draws.tuple hh i3 c nc t3.toArray) gz gm gTI gTO ⟨g1, p1⟩ ⟨g2, p2⟩ ⟨g3, p3⟩ k1 k2 k3 fun w1 w2 w3 h' tk mk' fl' y1 y2 y3 gz' gm' gTO' n1 n2 n3 hT hsz hk => wpAny_pure ?_) (F.args_zip_next_1 _))))
    have f1 : w1 = v1 := by
      have q : t1.toArray[ix]? = some v1 := by simpa using hv1
      rw [q] at y1; exact (Option.some.inj y1).symm
    have f2 : w2 = v2 := by
      have q : t2.toArray[ix]? = some v2 := by simpa using hv2
      rw [q] at y2; exact (Option.some.inj y2).symm
    have f3 : w3 = v3 := by
      have q : t3.toArray[ix]? = some v3 := by simpa using hv3
      rw [q] at y3; exact (Option.some.inj y3).symm
    subst f1 f2 f3
    refine ⟨_, rfl, ?_⟩
    unfold letOwnedTupleGo
    refine wpAny_pure ?_
    have neu : ObjOk X.prog X.w (upd H sh.heap.objs.size (.frz { cls := .type "tuple", data := .seq #[w1, w2, w3] } (.tup [x, y, u]))) h' sh.heap.objs.size (.frz { cls := .type "tuple", data := .seq #[w1, w2, w3] } (.tup [x, y, u])) :=
      ⟨hT, by show 3 ≤ sizeLine; decide, [w1, w2, w3], .cons r1 (.cons r2 (.cons r3 .nil)), ⟨_, hT, rfl, _, rfl⟩⟩
    have I1 : Inv X pps σ (upd H sh.heap.objs.size (.frz { cls := .type "tuple", data := .seq #[w1, w2, w3] } (.tup [x, y, u]))) { sh with heap := h', toks := tk } :=
      I.turnedNew (ch := [z, TI, TO, i1, i2, i3]) (fun d o nb q => hk d o (fun e => nb (by simp [e])) (fun e => nb (by simp [e])) (fun e => nb (by simp [e])) (fun e => nb (by simp [e])) (fun e => nb (by simp [e])) q) fo (Nat.le_refl _) neu
    refine ⟨.ref sh.heap.objs.size, _, I1, rfl, ⟨_, x, y, u, _, rfl, I.hok.fresh (Nat.le_refl _), rfl, rfl, fun l hl => by rw [I.tuple_inj hl lx]; exact gx, fun l hl => by rw [I.tuple_inj hl ly]; exact gy, fun l hl => by rw [I.tuple_inj hl lz]; exact gu⟩,
      ⟨⟨mk', fl', gz', gm'⟩, hk _ _ S.TIz S.TITO S.TIi1 S.TIi2 S.TIi3 gTI, gTO', n1.1, n2.1, n3.1⟩, fun d hd => ?_⟩
    have ltc : d < sh.heap.objs.size := by
      have ee : d = z ∨ d = TI ∨ d = TO ∨ d = i1 ∨ d = i2 ∨ d = i3 := by simpa using hd
      rcases ee with q | q | q | q | q | q
      · rw [q]; exact hzl
      · rw [q]; exact Heap.lt_size gTI
      · rw [q]; exact Heap.lt_size gTO
      · rw [q]; obtain ⟨_, e, _⟩ := g1; exact Heap.lt_size e
      · rw [q]; obtain ⟨_, e, _⟩ := g2; exact Heap.lt_size e
      · rw [q]; obtain ⟨_, e, _⟩ := g3; exact Heap.lt_size e
    rw [upd_ne (Nat.ne_of_lt ltc)]
    exact (fo d hd).1
  done := by
    intro X hP hw hK cc ix pps sh σ H EE I fo sta yg
    subst hP hw hK
    obtain ⟨⟨mk, fl, gz, gm⟩, gTI, ⟨x0, y0, u0, gTO⟩, g1, g2, g3⟩ := sta
    obtain ⟨xs, ys, zs, lx, ly, lz, k1, k2, k3, en⟩ := yg
    obtain ⟨t1, s1, p1, _⟩ := I.tuple lx
    obtain ⟨t2, s2, p2, _⟩ := I.tuple ly
    obtain ⟨t3, s3, p3, _⟩ := I.tuple lz
    have l1 := s1.length
    have l2 := s2.length
    have l3 := s3.length
    have hh : X.A.in1.handled = none := I.ok.hd cc
    have hTy : sh.TypeIs (.ref z) "zip" := ⟨_, gz, rfl⟩
    unfold pyNext
    refine wpAny_bind (wpAny_attempt (wpAny_callSpecial?_slot (name := Str.ofString "__next__") hTy F.slot_zip_next (wpAny_call_entry F.slot_zip_next hTy F.entry_zip_next
      (next_end S (Draws.tuple hh i1 a na t1.toArray) (Draws.tuple hh i2 b nb t2.toArray) (Draws.tuple hh i3 c nc t3.toArray) gz gm gTI gTO ⟨g1, p1⟩ ⟨g2, p2⟩ ⟨g3, p3⟩ (by simp; omega) (by simp; omega) (by simp; omega) (by simp; omega) fun h' tk e hk he => ?_) (F.args_zip_next_1 _))))
    obtain ⟨o, ho, hc⟩ := he
    refine wpAny_bind (wpAny_isInstance (T := "StopIteration") (b := true) ⟨o, ho, hc⟩ isSubtype_stop ?_)
    refine wpAny_pure ⟨rfl, I.turnedL (t' := tk) (ch := [z, TI, TO, i1, i2, i3]) (fun d o nb q => hk d o (fun e => nb (by simp [e])) (fun e => nb (by simp [e])) (fun e => nb (by simp [e])) (fun e => nb (by simp [e])) (fun e => nb (by simp [e])) q) fo⟩
  self := fun A ix sh Q EE sta h => by
    obtain ⟨⟨mk, fl, gz, gm⟩, _⟩ := sta
    have hT : sh.TypeIs (.ref z) "zip" := ⟨_, gz, rfl⟩
    refine wpAny_pyIter_slot hT F.slot_zip_iter (wpAny_call_entry F.slot_zip_iter hT F.entry_zip_iter ?_ (F.args_zip_iter_1 _))
    show wpAny _ _ (ret (.ref z)) _ _ sh
    exact wpAny_pure ⟨_, rfl, "zip", _, hT, F.slot_zip_next.lookup, h⟩
def iZip3 (K : PySem.W.Frag) (ta : TA) : TI := fun σ H R => ta σ H fun vs H1 => ∃ a b c xs ys zs, vs = [.ref a, .ref b, .ref c] ∧ SqT K H1 a xs ∧ SqT K H1 b ys ∧ SqT K H1 c zs ∧ R (It3 K a b c) H1
theorem pi_zip3 {X : Cx} {e1 e2 e3 : Expr} {ta : TA} {pl1 pos tpos : Pos} {nm : Str} (yg : Gl X "zip") (mz : X.mg "zip" = none) (pa1 : PA X [e1, e2, e3] ta)
    (ns1 : starEach [e1, e2, e3] X.env = (false, eval e1 X.env) :: starEach [e2, e3] X.env := by rfl) (npl : (backTo pos (starEach [e2, e3] X.env)).any (·.1) = false := by rfl) :
    PI X (.Name nm tpos) (.Call (.Name "zip" pl1) [e1, e2, e3] [] pos) (iZip3 X.K ta) := by
  refine ⟨fun pps sh σ H R I h => ?_⟩
  refine Call_ (ld_blt I yg mz PyProof.Rows.boot_zip (PyProof.Rows.callWith_type1 (thn (pa1.run pos pps sh σ H _ I h) fun uu s1 ⟨vs, H1, I1, r1, q1⟩ => ?_) ns1 npl))
  obtain ⟨a, b, c, xs, ys, zs, ex, lx, ly, lz, qq⟩ := q1
  subst ex
  cases r1 with
  | cons k1 r1 =>
    cases r1 with
    | cons k2 r1 =>
      cases r1 with
      | cons k3 r1 =>
        cases r1
        cases k1
        cases k2
        cases k3
        obtain ⟨t1, s1', p1, _⟩ := I1.tuple lx
        obtain ⟨t2, s2', p2, _⟩ := I1.tuple ly
        obtain ⟨t3, s3', p3, _⟩ := I1.tuple lz
        obtain ⟨o1, ho1, _⟩ := id p1
        obtain ⟨o2, ho2, _⟩ := id p2
        obtain ⟨o3, ho3, _⟩ := id p3
        have l1 := Heap.lt_size ho1
        have l2 := Heap.lt_size ho2
        have l3 := Heap.lt_size ho3
        refine zip_begins3 (begins_tuple a t1.toArray) (begins_tuple b t2.toArray) (begins_tuple c t3.toArray) p1 p2 p3 fun h' gz gTI gTO g1 g2 g3 hsz hk => wpAny_pyIter_zip gz ?_
        have I2 : Inv X pps σ H1 { s1 with heap := h' } := I1.kept (t' := s1.toks) hk
        refine ⟨s1.heap.objs.size + 5, [s1.heap.objs.size + 5, s1.heap.objs.size + 3, s1.heap.objs.size + 4, s1.heap.objs.size, s1.heap.objs.size + 1, s1.heap.objs.size + 2], _, _, H1, rfl, I2, turn_zip3 (sep3 _ a b c l1 l2 l3) (Nat.ne_of_lt l1) (Nat.ne_of_lt (Nat.lt_succ_of_lt l2)) (Nat.ne_of_lt (Nat.lt_succ_of_lt (Nat.lt_succ_of_lt l3))),
          ⟨⟨_, _, gz, .inl rfl⟩, gTI, ⟨_, _, _, gTO⟩, ⟨_, g1, rfl, rfl⟩, ⟨_, g2, rfl, rfl⟩, ⟨_, g3, rfl, rfl⟩⟩, fun d hd => ?_, qq⟩
        have ee : d = s1.heap.objs.size + 5 ∨ d = s1.heap.objs.size + 3 ∨ d = s1.heap.objs.size + 4 ∨ d = s1.heap.objs.size ∨ d = s1.heap.objs.size + 1 ∨ d = s1.heap.objs.size + 2 := by simpa using hd
        have le : s1.heap.objs.size ≤ d := by
          rcases ee with q | q | q | q | q | q <;> rw [q] <;> omega
        exact I1.fpOk le (I1.hok.fresh le)
end DLT
namespace DL
open PySem PySem.Spec PyProof.Rows L2
section
variable {X : Cx} {C : Cc} {K : PySem.W.Frag}
def zip3 : List PyData → List PyData → List PyData → List PyData
  | x :: xs, y :: ys, z :: zs => .tuple [x, y, z] :: zip3 xs ys zs
  | _, _, _ => []
theorem zip3_len : ∀ xs ys zs : List PyData, (zip3 xs ys zs).length = min xs.length (min ys.length zs.length)
  | x :: xs, y :: ys, z :: zs => by simp only [zip3, List.length_cons, zip3_len xs ys zs]; omega
  | [], _, _ => by simp [zip3]
  | _ :: _, [], _ => by simp [zip3]
  | _ :: _, _ :: _, [] => by simp [zip3]
theorem zip3_get : ∀ (xs ys zs : List PyData) (i : Nat) (h1 : i < xs.length) (h2 : i < ys.length) (h3 : i < zs.length), (zip3 xs ys zs)[i]? = some (.tuple [xs[i], ys[i], zs[i]])
  | x :: xs, y :: ys, z :: zs, 0, _, _, _ => rfl
  | x :: xs, y :: ys, z :: zs, i + 1, h1, h2, h3 => by
    simp only [zip3, List.getElem?_cons_succ, List.getElem_cons_succ]
    exact zip3_get xs ys zs i (by simpa using h1) (by simpa using h2) (by simpa using h3)
  | [], _, _, _, h, _, _ => by simp at h
  | _ :: _, [], _, _, _, h, _ => by simp at h
  | _ :: _, _ :: _, [], _, _, _, h => by simp at h
def bZip3 : List PyData → Option (List PyData)
  | [.tuple xs, .tuple ys, .tuple zs] => some (zip3 xs ys zs)
  | _ => none
theorem wk_zip3 {a b c : Addr} {xs ys zs : List V} {ds es fs : List PyData} (hz : ds.length ≤ 16777216) (h : xs.length = ds.length) (h' : ys.length = es.length) (h'' : zs.length = fs.length) :
    Wk K (DLT.It3 K a b c) (zip3 ds es fs) fun H ow => (FT K H ow a xs ∧ DVs K H ow xs ds) ∧ (FT K H ow b ys ∧ DVs K H ow ys es) ∧ (FT K H ow c zs ∧ DVs K H ow zs fs) where
  st := fun H ow H' ow' ⟨⟨a, c⟩, ⟨a', c'⟩, ⟨a'', c''⟩⟩ st => ⟨⟨a.stay st, c.stay st⟩, ⟨a'.stay st, c'.stay st⟩, ⟨a''.stay st, c''.stay st⟩⟩
  goes := fun i H ow hi ⟨⟨a, c⟩, ⟨a', c'⟩, ⟨a'', c''⟩⟩ => by
    rw [zip3_len] at hi
    exact ⟨xs, ys, zs, xs[i]'(by omega), ys[i]'(by omega), zs[i]'(by omega), a.sq, a'.sq, a''.sq, by simp, by simp, by simp⟩
  stops := fun H ow ⟨⟨a, c⟩, ⟨a', c'⟩, ⟨a'', c''⟩⟩ => ⟨xs, ys, zs, a.sq, a'.sq, a''.sq, by rw [zip3_len]; omega, by rw [zip3_len]; omega, by rw [zip3_len]; omega, by rw [zip3_len]; omega⟩
  yields := fun i H ow x H' hi ⟨⟨a, c⟩, ⟨a', c'⟩, ⟨a'', c''⟩⟩ ⟨T, u, w, q, zo, e1, e2, e3, hd, e4, e5, e6⟩ => by
    rw [zip3_len] at hi
    subst e1; subst e3
    obtain ⟨v1, h1, h2⟩ := c.get (i := i) (d := ds[i]'(by omega)) (by simp)
    obtain ⟨v2, k1, k2⟩ := c'.get (i := i) (d := es[i]'(by omega)) (by simp)
    obtain ⟨v3, l1, l2⟩ := c''.get (i := i) (d := fs[i]'(by omega)) (by simp)
    have t1 := e4 xs a.sq
    have t2 := e5 ys a'.sq
    have t3 := e6 zs a''.sq
    rw [h1] at t1
    rw [k1] at t2
    rw [l1] at t3
    cases t1; cases t2; cases t3
    refine ⟨off ow T, .tuple [ds[i]'(by omega), es[i]'(by omega), fs[i]'(by omega)], ?_, Gr.new e2, .tup (.new hd) (.cons (h2.stay (Gr.new e2).stay) (.cons (k2.stay (Gr.new e2).stay) (.cons (l2.stay (Gr.new e2).stay) .nil))) (by simp)⟩
    exact zip3_get ds es fs i (by omega) (by omega) (by omega)
  len := by
    rw [zip3_len]
    omega
theorem di_zip3 {a b c : Expr} {nm : Str} {tpos : Pos} {t : Env → Rs (List PyData)} {p pos : Pos} (hg : Gl X "zip") (hm : X.mg "zip" = none) (ha : DA X C [a, b, c] t)
    (hs : starEach [a, b, c] X.env = (false, eval a X.env) :: starEach [b, c] X.env := by rfl) (hpl : (backTo pos (starEach [b, c] X.env)).any (·.1) = false := by rfl) : DI X C (.Name nm tpos) (.Call (.Name "zip" p) [a, b, c] [] pos) (itB bZip3 t) :=
  PIweak (DLT.pi_zip3 hg hm ha hs hpl) fun σ H Q h => rd_one (R1 := RA X.K) h fun v x H ow env hv P h => by
    obtain ⟨o, e, h⟩ := rdAt_lift (v := Itr 0 0) h
    unfold bZip3 at e
    split at e
    · cases hv with
      | cons d1 hv =>
        obtain ⟨w, w', rfl, d2, d3⟩ := hv.two
        cases d1 with
        | @tup a xs ds h1 h3 hz =>
          cases d2 with
          | @tup b ys es k1 k3 hz' =>
            cases d3 with
            | @tup c zs fs l1 l3 hz'' =>
              cases e
              exact ⟨a, b, c, xs, ys, zs, rfl, h1.sq, k1.sq, l1.sq, h _ H ow Ext.refl ⟨_, wk_zip3 hz h3.length k3.length l3.length, ⟨h1, h3⟩, ⟨k1, k3⟩, ⟨l1, l3⟩⟩ P⟩
    · cases e
end
end DL


namespace DL
open PySem
/-! evaluation by simp -/
def Out.thn (o : Out) (u : Env → Out) : Out := match o with
  | .nx e => u e
  | .rt m e => .rt m e
  | .bk e => .bk e
  | .ct e => .ct e
  | .ex x e => .ex x e
  | .no => .no
@[simp] theorem thn_nx (e u) : (Out.nx e).thn u = u e := id rfl
@[simp] theorem thn_rt (m e u) : (Out.rt m e).thn u = .rt m e := id rfl
@[simp] theorem thn_bk (e u) : (Out.bk e).thn u = .bk e := id rfl
@[simp] theorem thn_ct (e u) : (Out.ct e).thn u = .ct e := id rfl
@[simp] theorem thn_ex (x e u) : (Out.ex x e).thn u = .ex x e := id rfl
@[simp] theorem thn_no (u) : (Out.no).thn u = .no := id rfl
theorem thn_ite (c : Prop) [Decidable c] (a b u) : (if c then a else b : Out).thn u = if c then a.thn u else b.thn u := by split <;> rfl
def Rs.to {α : Type} (r : Rs α) (k : α → Env → Out) : Out := match r with
  | .ok a e => k a e
  | .ex x e => .ex x e
  | .no => .no
@[simp] theorem to_ok {α : Type} (a : α) (e k) : (Rs.ok a e).to k = k a e := id rfl
@[simp] theorem to_ex {α : Type} (x e) (k : α → Env → Out) : (Rs.ex x e).to k = .ex x e := id rfl
@[simp] theorem to_no {α : Type} (k : α → Env → Out) : (Rs.no).to k = .no := id rfl
theorem to_ite {α : Type} (c : Prop) [Decidable c] (a b : Rs α) (k) : (if c then a else b : Rs α).to k = if c then a.to k else b.to k := by split <;> rfl
theorem bind_ite {α β : Type} (c : Prop) [Decidable c] (a b : Rs α) (k : α → Env → Rs β) : (if c then a else b : Rs α).bind k = if c then a.bind k else b.bind k := by split <;> rfl
theorem lift_ite {α : Type} (c : Prop) [Decidable c] (a b : Option α) (e) : lift (if c then a else b) e = if c then lift a e else lift b e := by split <;> rfl
def Out.fin (ios : List Bool) (o : Out) : FOut := match o with
  | .nx e => .rt (.d .none) (outs ios e)
  | .rt m e => .rt m (outs ios e)
  | .ex x e => .ex x (outs ios e)
  | _ => .no
@[simp] theorem fin_nx (ios e) : (Out.nx e).fin ios = .rt (.d .none) (outs ios e) := id rfl
@[simp] theorem fin_rt (ios m e) : (Out.rt m e).fin ios = .rt m (outs ios e) := id rfl
theorem fin_ite (c : Prop) [Decidable c] (a b ios) : (if c then a else b : Out).fin ios = if c then a.fin ios else b.fin ios := by split <;> rfl
def optOut {α : Type} (o : Option α) (k : α → Out) : Out := match o with | some a => k a | none => .no
@[simp] theorem optOut_s {α : Type} (a : α) (k) : optOut (some a) k = k a := id rfl
@[simp] theorem optOut_n {α : Type} (k : α → Out) : optOut none k = .no := id rfl
def optRs {α β : Type} (o : Option α) (k : α → Rs β) : Rs β := match o with | some a => k a | none => .no
@[simp] theorem optRs_s {α β : Type} (a : α) (k : α → Rs β) : optRs (some a) k = k a := id rfl
@[simp] theorem optRs_n {α β : Type} (k : α → Rs β) : optRs none k = .no := id rfl
def asB : PyData → Env → Rs Bool
  | .bool b, e => .ok b e
  | _, _ => .no
@[simp] theorem asB_b (b e) : asB (.bool b) e = .ok b e := id rfl
def chB {α : Type} (o : Option PyData) (t u : Rs α) : Rs α := match o with
  | some (.bool true) => t
  | some (.bool false) => u
  | _ => .no
@[simp] theorem chB_b {α : Type} (b) (t u : Rs α) : chB (some (.bool b)) t u = if b = true then t else u := by cases b <;> rfl
@[simp] theorem eVar_eq (i : Nat) (env : Env) : eVar i env = lift (slotD env i) env := id rfl
@[simp] theorem slotD_0 (x : PyData) (r : Env) : slotD (some (.d x) :: r) 0 = some x := id rfl
@[simp] theorem slotD_s (o : Option M) (r : Env) (i : Nat) : slotD (o :: r) (i + 1) = slotD r i := id rfl
@[simp] theorem slotL_0 (x : List PyData) (r : Env) : slotL (some (.l x) :: r) 0 = some x := id rfl
@[simp] theorem slotL_s (o : Option M) (r : Env) (i : Nat) : slotL (o :: r) (i + 1) = slotL r i := id rfl
@[simp] theorem slotScr_0 (x : List Int) (r : Env) : slotScr (some (.scr x) :: r) 0 = some x := id rfl
@[simp] theorem slotScr_s (o : Option M) (r : Env) (i : Nat) : slotScr (o :: r) (i + 1) = slotScr r i := id rfl
@[simp] theorem eC_eq (x : PyData) (env : Env) : eC x env = .ok x env := id rfl
@[simp] theorem e2_eq (f) (a b : Env → Rs PyData) (env : Env) : e2 f a b env = (a env).bind fun x e1 => (b e1).bind fun y e2 => lift (f x y) e2 := id rfl
@[simp] theorem e1_eq (f) (a : Env → Rs PyData) (env : Env) : e1 f a env = (a env).bind fun x e1 => lift (f x) e1 := id rfl
@[simp] theorem tb1_eq (t : Env → Rs PyData) (env : Env) : tb1 t env = (t env).bind asB := by
  unfold tb1
  congr
  funext d e
  cases d <;> rfl
@[simp] theorem tt1_eq (t : Env → Rs PyData) (env : Env) : tt1 t env = (t env).bind fun d e => lift (tru d) e := id rfl
@[simp] theorem tNotD_eq (t : Env → Rs Bool) (env : Env) : tNotD t env = (t env).bind fun b e => .ok (!b) e := id rfl
@[simp] theorem tAndD_eq (t u : Env → Rs Bool) (env : Env) : tAndD t u env = (t env).bind fun b e => if b = true then u e else .ok false e := id rfl
@[simp] theorem tOrD_eq (t u : Env → Rs Bool) (env : Env) : tOrD t u env = (t env).bind fun b e => if b = true then .ok true e else u e := id rfl
@[simp] theorem eNot_eq (t : Env → Rs PyData) (env : Env) : eNot t env = (tb1 t env).bind fun b e => .ok (.bool (!b)) e := id rfl
@[simp] theorem eAnd_eq (t u : Env → Rs PyData) (env : Env) : eAnd t u env = (tb1 t env).bind fun b e => if b = true then u e else .ok (.bool false) e := id rfl
@[simp] theorem eOr_eq (t u : Env → Rs PyData) (env : Env) : eOr t u env = (tb1 t env).bind fun b e => if b = true then .ok (.bool true) e else u e := id rfl
@[simp] theorem eIf_eq {α : Type} (c : Env → Rs Bool) (t u : Env → Rs α) (env : Env) : eIf c t u env = (c env).bind fun b e => if b = true then t e else u e := id rfl
@[simp] theorem eChain_eq (f g) (a b c : Env → Rs PyData) (env : Env) : eChain f g a b c env = (a env).bind fun x e1 => (b e1).bind fun y e2 => chB (f x y) ((c e2).bind fun z e3 => lift (g y z) e3) (.ok (.bool false) e2) := by
  unfold eChain
  refine congrArg _ (funext fun x => funext fun e1 => congrArg _ (funext fun y => funext fun e2 => ?_))
  cases f x y with
  | none => rfl
  | some d => cases d with
    | bool b => cases b <;> rfl
    | _ => rfl
@[simp] theorem aNil_eq (env : Env) : aNil env = .ok [] env := id rfl
@[simp] theorem aCons_eq (t : Env → Rs PyData) (u) (env : Env) : aCons t u env = (t env).bind fun x e1 => (u e1).bind fun xs e2 => .ok (x :: xs) e2 := id rfl
@[simp] theorem aOne_eq (t : Env → Rs PyData) (env : Env) : aOne t env = (t env).bind fun x e1 => .ok [x] e1 := id rfl
@[simp] theorem eTup_eq (t) (env : Env) : eTup t env = (t env).bind fun xs e => if xs.length ≤ 16777216 then .ok (.tuple xs) e else .no := id rfl
@[simp] theorem eLst_eq (t) (env : Env) : eLst t env = (t env).bind fun xs e => if xs.length ≤ 16777216 then .ok (.list xs) e else .no := id rfl
@[simp] theorem mLst_eq (t) (env : Env) : mLst t env = (t env).bind fun xs e => if xs.length ≤ 16777216 then .ok (.l xs) e else .no := id rfl
@[simp] theorem mD_eq (t : Env → Rs PyData) (env : Env) : mD t env = (t env).bind fun x e => .ok (.d x) e := id rfl
@[simp] theorem eFrz_eq (t : Env → Rs M) (env : Env) : eFrz t env = (t env).bind fun m e => lift (frzM m) e := id rfl
@[simp] theorem frzM_d (x : PyData) : frzM (.d x) = some x := id rfl
@[simp] theorem frzM_l (x : List PyData) : frzM (.l x) = some (.list x) := id rfl
@[simp] theorem eB_eq (f) (t) (env : Env) : eB f t env = (t env).bind fun xs e => lift (f xs) e := id rfl
@[simp] theorem eListScr_eq (i) (env : Env) : eListScr i env = lift ((slotScr env i).map fun ns => .list (ns.map .int)) env := id rfl
def ixOf : List PyData → PyData → Option PyData
  | xs, .int j => L2.atI xs j
  | _, _ => none
@[simp] theorem ixOf_i (xs j) : ixOf xs (.int j) = L2.atI xs j := id rfl
@[simp] theorem eIxO_eq (i) (tb) (env : Env) : eIxO i tb env = optRs (slotL env i) fun _ => (tb env).bind fun k e => optRs (slotL e i) fun xs => lift (ixOf xs k) e := by
  unfold eIxO
  cases slotL env i with
  | none => rfl
  | some _ =>
    show (tb env).bind _ = (tb env).bind _
    congr
    funext k e
    cases slotL e i with
    | none => rfl
    | some xs => cases k <;> rfl
@[simp] theorem pNo_eq (env : Env) : pNo env = .ok none env := id rfl
@[simp] theorem pSome_eq (t) (env : Env) : pSome t env = (t env).bind fun d e => lift (oInt d) e := id rfl
@[simp] theorem oInt_i (i : Int) : oInt (.int i) = some (some i) := id rfl
@[simp] theorem eSlice_eq (t lo hi) (env : Env) : eSlice t lo hi env = (t env).bind fun x e1 => (lo e1).bind fun l e2 => (hi e2).bind fun u e3 => lift (dSlice x l u) e3 := id rfl
@[simp] theorem eBO_eq (i f) (env : Env) : eBO i f env = lift ((slotL env i).bind fun ds => chkS (f [.list ds])) env := id rfl
@[simp] theorem e2R_eq (f t i) (env : Env) : e2R f t i env = (t env).bind fun x e => lift ((slotL e i).bind fun ds => chkS (f x (.list ds))) e := id rfl
@[simp] theorem ttO_eq (i) (env : Env) : ttO i env = lift ((slotL env i).map fun ds => !ds.isEmpty) env := id rfl
@[simp] theorem eTupO_eq (i) (env : Env) : eTupO i env = lift ((slotL env i).map fun ds => .tuple ds) env := id rfl
@[simp] theorem eListO_eq (i) (env : Env) : eListO i env = lift ((slotL env i).map fun ds => .list ds) env := id rfl
@[simp] theorem eIsi_eq (T t) (env : Env) : eIsi T t env = (t env).bind fun d e => .ok (.bool (isI T d)) e := id rfl
@[simp] theorem eListRg_eq (f t) (env : Env) : eListRg f t env = (t env).bind fun xs e => lift ((f xs).map .list) e := id rfl
@[simp] theorem mListRg_eq (f t) (env : Env) : mListRg f t env = (t env).bind fun xs e => lift ((f xs).map .l) e := id rfl
@[simp] theorem eMt_eq (i f t) (env : Env) : eMt i f t env = optRs (slotL env i) fun _ => (t env).bind fun ys e => optRs (slotL e i) fun xs => optRs (f xs ys) fun p => .ok p.1 (e.set i (some (.l p.2))) := by
  unfold eMt
  cases slotL env i with
  | none => rfl
  | some _ =>
    show (t env).bind _ = (t env).bind _
    congr
    funext ys e
    cases slotL e i with
    | none => rfl
    | some xs =>
      show (match f xs ys with | some (o, zs) => Rs.ok o (e.set i (some (.l zs))) | none => .no) = optRs (f xs ys) _
      cases f xs ys <;> rfl
def seqOne : List PyData → Option (List PyData)
  | [.list ds] => some ds
  | [.tuple ds] => some ds
  | _ => none
@[simp] theorem seqOne_l (ds) : seqOne [.list ds] = some ds := id rfl
@[simp] theorem seqOne_t (ds) : seqOne [.tuple ds] = some ds := id rfl
@[simp] theorem mList_eq (t) (env : Env) : mList t env = (t env).bind fun xs e => (lift (seqOne xs) e).bind fun ds e => .ok (.l ds) e := by
  unfold mList
  refine congrArg _ (funext fun xs => funext fun e => ?_)
  match xs with
  | [] => rfl
  | [.list ds] => rfl
  | [.tuple ds] => rfl
  | [.int _] => rfl
  | [.bool _] => rfl
  | [.none] => rfl
  | [.str _] => rfl
  | [.dict _] => rfl
  | x :: _ :: _ => cases x <;> rfl
@[simp] theorem itSeq_eq (t) (env : Env) : itSeq t env = (t env).bind fun d e => lift (seqOf d) e := id rfl
@[simp] theorem itB_eq (f t) (env : Env) : itB f t env = (t env).bind fun d e => lift (f d) e := id rfl
@[simp] theorem seqOf_l (x) : seqOf (.list x) = some x := id rfl
@[simp] theorem seqOf_t (x) : seqOf (.tuple x) = some x := id rfl
@[simp] theorem avNil_eq (env : Env) : avNil env = .ok [] env := id rfl
@[simp] theorem avD_eq (t u) (env : Env) : avD t u env = (t env).bind fun x e1 => (u e1).bind fun r e2 => .ok (.d x :: r) e2 := id rfl
@[simp] theorem avS_eq (j u) (env : Env) : avS j u env = optRs (env[j]?.join) fun _ => (u env).bind fun r e2 => .ok (.s j :: r) e2 := by
  unfold avS
  cases env[j]? with
  | none => rfl
  | some o => cases o <;> rfl
@[simp] theorem avMs_nil (env : Env) : avMs env [] = some [] := id rfl
@[simp] theorem avMs_cons (env : Env) (a r) : avMs env (a :: r) = (avM env a).bind fun m => (avMs env r).map (m :: ·) := id rfl
@[simp] theorem avM_d (env : Env) (x) : avM env (.d x) = some (.d x) := id rfl
@[simp] theorem avM_sl (env : Env) (j) : avM env (.s j) = env[j]?.join := by
  show (match env[j]? with | some (some m) => some m | _ => none) = _
  cases env[j]? with
  | none => rfl
  | some o => cases o <;> rfl
@[simp] theorem jsOf_nil : jsOf [] = [] := id rfl
@[simp] theorem jsOf_d (x r) : jsOf (.d x :: r) = jsOf r := id rfl
@[simp] theorem jsOf_s (j r) : jsOf (.s j :: r) = j :: jsOf r := id rfl
@[simp] theorem putBack_nil (os e) : putBack [] os e = e := id rfl
@[simp] theorem putBack_d (x r os e) : putBack (.d x :: r) os e = putBack r os.tail e := id rfl
@[simp] theorem putBack_s (j r os e) : putBack (.s j :: r) os e = putBack r os.tail (e.set j (os.head?.join)) := id rfl
def FOut.toRs (f : FOut) (k : List (Option M) → Env) : Rs M := match f with
  | .rt m os => .ok m (k os)
  | _ => .no
@[simp] theorem toRs_rt (m os k) : (FOut.rt m os).toRs k = .ok m (k os) := id rfl
@[simp] theorem callM_eq (ar F avs) (env : Env) : callM ar F avs env = optRs (avMs env avs) fun ms => if avs.length = ar ∧ (jsOf avs).Nodup then (F ms).toRs fun os => putBack avs os env else .no := by
  unfold callM
  cases avMs env avs with
  | none => rfl
  | some ms =>
    show (if _ then _ else _) = (if _ then _ else _)
    congr
@[simp] theorem eCall_eq (ar F t) (env : Env) : eCall ar F t env = (t env).bind fun avs e => callM ar F avs e := id rfl
@[simp] theorem sThen_eq (t u) (env : Env) : sThen t u env = (t env).thn u := id rfl
@[simp] theorem sE_eq {α : Type} (t : Env → Rs α) (k) (env : Env) : sE t k env = (t env).to k := id rfl
@[simp] theorem sNx_eq (env : Env) : sNx env = .nx env := id rfl
@[simp] theorem sBk_eq (env : Env) : sBk env = .bk env := id rfl
@[simp] theorem sCt_eq (env : Env) : sCt env = .ct env := id rfl
@[simp] theorem sNo_eq (env : Env) : sNo env = .no := id rfl
@[simp] theorem sRet_eq (t) (env : Env) : sRet t env = sE t (fun m e => .rt m e) env := id rfl
@[simp] theorem sRetN_eq (env : Env) : sRetN env = .rt (.d .none) env := id rfl
@[simp] theorem sDrop_eq (t) (env : Env) : sDrop t env = sE t (fun _ e => .nx e) env := id rfl
@[simp] theorem sIf_eq (c t u) (env : Env) : sIf c t u env = sE c (fun b e => if b = true then t e else u e) env := id rfl
@[simp] theorem sSet_eq (i t) (env : Env) : sSet i t env = sE t (fun m e => .nx (e.set i (some m))) env := id rfl
@[simp] theorem sAsg_eq (t g) (env : Env) : sAsg t g env = sE t (fun d e => optOut (g d e) .nx) env := by
  refine congrFun ?_ env
  unfold sAsg
  congr
  funext d e
  cases g d e <;> rfl
@[simp] theorem sAug_eq (i f t) (env : Env) : sAug i f t env = optOut (slotD env i) fun x => sE t (fun y e => optOut (f x y) fun z => .nx (e.set i (some (.d z)))) env := by
  unfold sAug
  cases slotD env i with
  | none => rfl
  | some x =>
    show sE t _ env = sE t _ env
    congr
    funext y e
    cases f x y <;> rfl
@[simp] theorem sSetItem_eq (i t tk) (env : Env) : sSetItem i t tk env = sE t (fun d e => optOut (slotL e i) fun _ => sE tk (setIt i d) e) env := by
  refine congrFun ?_ env
  unfold sSetItem
  congr
  funext d e
  cases slotL e i <;> rfl
def asI : PyData → Option Int
  | .int i => some i
  | _ => none
@[simp] theorem asI_i (i) : asI (.int i) = some i := id rfl
@[simp] theorem setIt_eq (i d k e) : setIt i d k e = optOut (slotL e i) fun xs => optOut (asI k) fun j => optOut (L2.ixN xs.length j) fun n => .nx (e.set i (some (.l (xs.set n d)))) := by
  unfold setIt
  cases slotL e i with
  | none => rfl
  | some xs =>
    cases k with
    | int j =>
      show (match L2.ixN xs.length j with | some n => Out.nx (e.set i (some (.l (xs.set n d)))) | none => .no) = optOut (L2.ixN xs.length j) _
      cases L2.ixN xs.length j <;> rfl
    | _ => rfl
@[simp] theorem sFor_eq (it g body) (env : Env) : sFor it g body env = sE it (forGo g body) env := id rfl
@[simp] theorem runDef_eq (ios n body) (ms : List M) : runDef ios n body ms = (body (start0 n ms)).fin ios := id rfl
@[simp] theorem start0_eq (n ms) : start0 n ms = ms.map some ++ List.replicate (n - ms.length) none := id rfl
@[simp] theorem outs_nil (e) : outs [] e = [] := by cases e <;> rfl
@[simp] theorem outs_cons (b r m e) : outs (b :: r) (m :: e) = (if b = true then m else none) :: outs r e := id rfl
@[simp] theorem rep_succ (n : Nat) : List.replicate (n + 1) (none : Option M) = none :: List.replicate n none := id rfl
def mvM : M → Env → Nat → Rs M
  | .l ds, env, i => .ok (.l ds) (env.set i none)
  | .d x, env, _ => .ok (.d x) env
  | .scr _, _, _ => .no
@[simp] theorem mvM_l (ds env i) : mvM (.l ds) env i = .ok (.l ds) (env.set i none) := id rfl
@[simp] theorem mvM_d (x env i) : mvM (.d x) env i = .ok (.d x) env := id rfl
@[simp] theorem alNil_eq (env : Env) : alNil env = .ok [] env := id rfl
@[simp] theorem alD_eq (t u) (env : Env) : alD t u env = (t env).bind fun x e1 => (u e1).bind fun r e2 => .ok (.d x :: r) e2 := id rfl
@[simp] theorem alL_eq (j u) (env : Env) : alL j u env = optRs (env[j]?.join) fun _ => (u env).bind fun r e2 => .ok (.l j :: r) e2 := by
  unfold alL
  cases env[j]? with
  | none => rfl
  | some o => cases o <;> rfl
@[simp] theorem alMs_nil (env : Env) : alMs env [] = some [] := id rfl
@[simp] theorem alMs_cons (env : Env) (a r) : alMs env (a :: r) = (alM env a).bind fun m => (alMs env r).map (m :: ·) := id rfl
@[simp] theorem alM_d (env : Env) (x) : alM env (.d x) = some (.d x) := id rfl
@[simp] theorem alM_l (env : Env) (j) : alM env (.l j) = (env[j]?.join.bind frzM).map .d := id rfl
def FOut.toSc (f : FOut) (e : Env) : Rs PyData := match f with
  | .rt (.d x) _ => if scalar x = true then .ok x e else .no
  | _ => .no
@[simp] theorem toSc_rt (x os e) : (FOut.rt (.d x) os).toSc e = if scalar x = true then .ok x e else .no := id rfl
@[simp] theorem eCallL_eq (ar F t) (env : Env) : eCallL ar F t env = (t env).bind fun als e => optRs (alMs e als) fun ms => if als.length = ar then (F ms).toSc e else .no := by
  unfold eCallL
  refine congrArg _ (funext fun als => funext fun e => ?_)
  unfold callL
  cases alMs e als with
  | none => rfl
  | some ms =>
    show (if _ then _ else _) = (if _ then _ else _)
    congr
@[simp] theorem bEnum_l (x) : bEnum [.list x] = some (enumD 0 x) := id rfl
@[simp] theorem bEnum_t (x) : bEnum [.tuple x] = some (enumD 0 x) := id rfl
@[simp] theorem eSM_eq (f t u) (env : Env) : eSM f t u env = (t env).bind fun x e1 => if isSq x = true then (u e1).bind fun ys e2 => lift (f x ys) e2 else .no := id rfl
@[simp] theorem isSq_l (x) : isSq (.list x) = true := id rfl
@[simp] theorem isSq_t (x) : isSq (.tuple x) = true := id rfl
@[simp] theorem cntD_l (ns : List Int) (k) : cntD (.list (ns.map .int)) [.int k] = some (.int (ns.count k : Nat)) := by simp [cntD]
@[simp] theorem cntD_t (ns : List Int) (k) : cntD (.tuple (ns.map .int)) [.int k] = some (.int (ns.count k : Nat)) := by simp [cntD]
theorem idxD_t (ns : List Int) (k) (h : k ∈ ns) : idxD (.tuple (ns.map .int)) [.int k] = some (.int (ns.idxOf k : Nat)) := by simp [idxD, h]
theorem idxD_l (ns : List Int) (k) (h : k ∈ ns) : idxD (.list (ns.map .int)) [.int k] = some (.int (ns.idxOf k : Nat)) := by simp [idxD, h]
@[simp] theorem mVar_eq (i) (env : Env) : mVar i env = optRs (env[i]?.join) fun m => mvM m env i := by
  unfold mVar
  cases env[i]? with
  | none => rfl
  | some o => cases o with
    | none => rfl
    | some m => cases m <;> rfl
def mvF : M → Env → Nat → Rs PyData
  | .l ds, env, i => .ok (.list ds) (env.set i (some (.d (.list ds))))
  | .d x, env, _ => .ok x env
  | .scr _, _, _ => .no
@[simp] theorem mvF_l (ds env i) : mvF (.l ds) env i = .ok (.list ds) (env.set i (some (.d (.list ds)))) := id rfl
@[simp] theorem mvF_d (x env i) : mvF (.d x) env i = .ok x env := id rfl
@[simp] theorem eVarF_eq (i) (env : Env) : eVarF i env = optRs (env[i]?.join) fun m => mvF m env i := by
  unfold eVarF
  cases env[i]? with
  | none => rfl
  | some o => cases o with
    | none => rfl
    | some m => cases m <;> rfl
/-! operators on data -/
@[simp] theorem dAdd_ii (i j) : dAdd (.int i) (.int j) = some (.int (i + j)) := id rfl
@[simp] theorem dAddI_ii (i j) : dAddI (.int i) (.int j) = some (.int (i + j)) := id rfl
@[simp] theorem dSub_ii (i j) : dSub (.int i) (.int j) = some (.int (i - j)) := id rfl
@[simp] theorem dMul_ii (i j) : dMul (.int i) (.int j) = if okM i j = true then some (.int (i * j)) else none := id rfl
@[simp] theorem dDiv_ii (i j) : dDiv (.int i) (.int j) = if 0 < j ∧ j < 1073741824 then some (.int (i / j)) else none := id rfl
@[simp] theorem dMod_ii (i j) : dMod (.int i) (.int j) = if 0 < j then some (.int (i % j)) else none := id rfl
@[simp] theorem dLt_ii (i j) : dLt (.int i) (.int j) = some (.bool (decide (i < j))) := id rfl
theorem dLt_tt (ns ms : List Int) : dLt (.tuple (ns.map .int)) (.tuple (ms.map .int)) = some (.bool (HT.lexLt ns ms)) := by simp [dLt]
@[simp] theorem dLe_ii (i j) : dLe (.int i) (.int j) = some (.bool (decide (i ≤ j))) := id rfl
@[simp] theorem dGt_ii (i j) : dGt (.int i) (.int j) = some (.bool (decide (j < i))) := id rfl
@[simp] theorem dGe_ii (i j) : dGe (.int i) (.int j) = some (.bool (decide (j ≤ i))) := id rfl
@[simp] theorem dNeg_i (i) : dNeg (.int i) = some (.int (-i)) := id rfl
@[simp] theorem dEq_ii (i j : Int) : dEq (.int i) (.int j) = some (.bool (i == j)) := id rfl
@[simp] theorem dNe_ii (i j : Int) : dNe (.int i) (.int j) = some (.bool (!(i == j))) := id rfl
@[simp] theorem dEq_bb (i j : Bool) : dEq (.bool i) (.bool j) = some (.bool (i == j)) := id rfl
@[simp] theorem dNe_bb (i j : Bool) : dNe (.bool i) (.bool j) = some (.bool (!(i == j))) := id rfl
@[simp] theorem dIs_none (x) : dIs x .none = some (.bool (isNon x)) := by cases x <;> rfl
@[simp] theorem dIsNot_none (x) : dIsNot x .none = some (.bool (!isNon x)) := by cases x <;> rfl
@[simp] theorem isNon_none : isNon .none = true := id rfl
@[simp] theorem isNon_b (b) : isNon (.bool b) = false := id rfl
@[simp] theorem isNon_i (b) : isNon (.int b) = false := id rfl
@[simp] theorem isNon_s (b) : isNon (.str b) = false := id rfl
@[simp] theorem isNon_l (b) : isNon (.list b) = false := id rfl
@[simp] theorem isNon_t (b) : isNon (.tuple b) = false := id rfl
@[simp] theorem tru_b (b) : tru (.bool b) = some b := id rfl
@[simp] theorem tru_i (b) : tru (.int b) = some (b != 0) := id rfl
@[simp] theorem tru_n : tru .none = some false := id rfl
@[simp] theorem tru_l (b) : tru (.list b) = some (!b.isEmpty) := id rfl
@[simp] theorem tru_t (b) : tru (.tuple b) = some (!b.isEmpty) := id rfl
@[simp] theorem bLen_l (x) : bLen [.list x] = some (.int x.length) := id rfl
@[simp] theorem bLen_t (x) : bLen [.tuple x] = some (.int x.length) := id rfl
@[simp] theorem bAbs_i (i) : bAbs [.int i] = some (.int (if i < 0 then -i else i)) := id rfl
@[simp] theorem bInt_i (i) : bInt [.int i] = some (.int i) := id rfl
@[simp] theorem bInt_b (i) : bInt [.bool i] = some (.int (if i then 1 else 0)) := id rfl
@[simp] theorem bSum_l (ns : List Int) : bSum [.list (ns.map .int)] = some (.int ns.sum) := by simp [bSum]
@[simp] theorem bSum_t (ns : List Int) : bSum [.tuple (ns.map .int)] = some (.int ns.sum) := by simp [bSum]
@[simp] theorem bAll_l (ns : List Bool) : bAll [.list (ns.map .bool)] = some (.bool (ns.all id)) := by simp [bAll]
@[simp] theorem bAny_l (ns : List Bool) : bAny [.list (ns.map .bool)] = some (.bool (ns.any id)) := by simp [bAny]
@[simp] theorem bTup_l (x) : bTup [.list x] = some (.tuple x) := id rfl
@[simp] theorem bTup_t (x) : bTup [.tuple x] = some (.tuple x) := id rfl
@[simp] theorem bList_l (x) : bList [.list x] = some (.list x) := id rfl
@[simp] theorem bList_t (x) : bList [.tuple x] = some (.list x) := id rfl
@[simp] theorem bSorted_l (ns : List Int) : bSorted [.list (ns.map .int)] = some (.list ((sortI ns).map .int)) := by simp [bSorted]
@[simp] theorem bSorted_t (ns : List Int) : bSorted [.tuple (ns.map .int)] = some (.list ((sortI ns).map .int)) := by simp [bSorted]
theorem bSorted_p (ps : List (Int × Int)) (h : ps ≠ []) (h1 : ps.length < 64 ∧ ∀ p ∈ ps, inB p) : bSorted [.list (ps.map prD)] = some (.list ((sortP ps).map prD)) := by
  have e : intsOf (ps.map prD) = none := by
    cases ps with
    | nil => exact absurd rfl h
    | cons p ps => rfl
  simp only [bSorted, seqOf, Option.bind_some, e, pairsOf_map, if_pos h1]
@[simp] theorem bMax_ii (i j) : bMax [.int i, .int j] = some (.int (if j > i then j else i)) := id rfl
@[simp] theorem bMin_ii (i j) : bMin [.int i, .int j] = some (.int (if j < i then j else i)) := id rfl
@[simp] theorem bRange1_i (j) : bRange1 [.int j] = if j ≤ 16777216 ∧ -(2 ^ 62) ≤ j then some (rangeD 0 j.toNat) else none := id rfl
@[simp] theorem bZip_l (x y) : bZip [.list x, .list y] = some (zip2 x y) := id rfl
@[simp] theorem bZip_t (x y) : bZip [.tuple x, .tuple y] = some (zip2 x y) := id rfl
@[simp] theorem bZip3_t (x y z) : bZip3 [.tuple x, .tuple y, .tuple z] = some (zip3 x y z) := id rfl
@[simp] theorem dIx_l (xs i) : dIx (.list xs) (.int i) = L2.atI xs i := id rfl
@[simp] theorem dIx_t (xs i) : dIx (.tuple xs) (.int i) = L2.atI xs i := id rfl
@[simp] theorem dSlice_l (xs lo hi) : dSlice (.list xs) lo hi = some (.list (cutD xs lo hi)) := id rfl
@[simp] theorem dSlice_t (xs lo hi) : dSlice (.tuple xs) lo hi = some (.tuple (cutD xs lo hi)) := id rfl
@[simp] theorem isI_1 (i) : isI .int (.int i) = true := id rfl
@[simp] theorem isI_2 (i) : isI .int (.bool i) = true := id rfl
@[simp] theorem isI_3 (i) : isI .bool (.bool i) = true := id rfl
@[simp] theorem isI_4 (i) : isI .bool (.int i) = false := id rfl
@[simp] theorem isI_5 (i) : isI .tup (.tuple i) = true := id rfl
@[simp] theorem isI_6 (i) : isI .lst (.list i) = true := id rfl
@[simp] theorem isI_7 (i) : isI .tup (.list i) = false := id rfl
@[simp] theorem isI_8 (i) : isI .lst (.tuple i) = false := id rfl
@[simp] theorem isI_9 (i) : isI .int (.tuple i) = false := id rfl
@[simp] theorem isI_10 (i) : isI .int (.list i) = false := id rfl
@[simp] theorem isI_11 (i) : isI .bool (.tuple i) = false := id rfl
@[simp] theorem isI_12 (i) : isI .bool (.list i) = false := id rfl
@[simp] theorem isI_13 (i) : isI .tup (.int i) = false := id rfl
@[simp] theorem isI_14 (i) : isI .tup (.bool i) = false := id rfl
@[simp] theorem isI_15 (T) : isI T .none = false := by cases T <;> rfl
@[simp] theorem isI_16 (i) : isI .str (.str i) = true := id rfl
@[simp] theorem isI_17 (i) : isI .tup (.str i) = false := id rfl
@[simp] theorem isI_18 (i) : isI .int (.str i) = false := id rfl
@[simp] theorem isI_19 (i) : isI .bool (.str i) = false := id rfl
@[simp] theorem isI_20 (i) : isI .lst (.str i) = false := id rfl
@[simp] theorem isI_21 (i) : isI .lst (.int i) = false := id rfl
@[simp] theorem isI_22 (i) : isI .lst (.bool i) = false := id rfl
@[simp] theorem isI_23 (i) : isI .str (.int i) = false := id rfl
@[simp] theorem isI_24 (i) : isI .str (.bool i) = false := id rfl
@[simp] theorem isI_25 (i) : isI .str (.list i) = false := id rfl
@[simp] theorem isI_26 (i) : isI .str (.tuple i) = false := id rfl
@[simp] theorem scalar_1 (i) : scalar (.int i) = true := id rfl
@[simp] theorem scalar_2 (i) : scalar (.bool i) = true := id rfl
@[simp] theorem scalar_3 : scalar .none = true := id rfl
@[simp] theorem scalar_4 (i) : scalar (.str i) = true := id rfl
@[simp] theorem chkS_i (i) : chkS (some (.int i)) = some (.int i) := id rfl
@[simp] theorem chkS_b (i) : chkS (some (.bool i)) = some (.bool i) := id rfl
@[simp] theorem gN_eq (i d env) : gN i d env = some (env.set i (some (.d d))) := id rfl
@[simp] theorem gT_eq (n gs ds env) : gT n gs (.tuple ds) env = if ds.length = n then gs ds env else none := id rfl
@[simp] theorem gTL_eq (n gs ds env) : gTL n gs (.list ds) env = if ds.length = n then gs ds env else none := id rfl
@[simp] theorem gsN_nil (env) : gsN [] env = some env := id rfl
@[simp] theorem gsC_cons (g gs d r env) : gsC g gs (d :: r) env = (g d env).bind (gs r) := id rfl
@[simp] theorem wipeE_nil (e) : wipeE e [] = e := id rfl
@[simp] theorem wipeE_cons (e v vs) : wipeE e (v :: vs) = (wipeE e vs).set v none := id rfl
@[simp] theorem restE_nil (e0 e) : restE e0 [] e = e := id rfl
@[simp] theorem restE_cons (e0 v vs e) : restE e0 (v :: vs) e = restE e0 vs (e.set v (keepD e0[v]?)) := id rfl
@[simp] theorem keepD_n : keepD (some none) = none := id rfl
@[simp] theorem keepD_d (x) : keepD (some (some (.d x))) = some (.d x) := id rfl
@[simp] theorem keepD_l (x) : keepD (some (some (.l x))) = none := id rfl
@[simp] theorem keepD_x : keepD none = none := id rfl
@[simp] theorem tYesD_eq (e) : tYesD e = .ok true e := id rfl
@[simp] theorem eComp_eq (it g tt te vs) (env : Env) : eComp it g tt te vs env = (it env).bind fun ds e => (compR vs e (compGo g tt te vs ds [] (wipeE e vs))).bind fun r e => .ok (.list r) e := by
  unfold eComp eComp0
  cases it env <;> rfl
@[simp] theorem mComp_eq (it g tt te vs) (env : Env) : mComp it g tt te vs env = (it env).bind fun ds e => (compR vs e (compGo g tt te vs ds [] (wipeE e vs))).bind fun r e => .ok (.l r) e := by
  unfold mComp eComp0
  cases it env <;> rfl
@[simp] theorem compR_ok (vs e0 r e) : compR vs e0 (.ok r e) = .ok r (restE e0 vs e) := id rfl
@[simp] theorem compGo_nil (g tt te vs acc e) : compGo g tt te vs [] acc e = .ok acc e := id rfl
theorem compGo_cons (g tt te vs x xs acc e) : compGo g tt te vs (x :: xs) acc e = optRs (g x e) fun e1 => (tt e1).bind fun b e2 => if b = true then (te e2).bind fun y e3 => compGo g tt te vs xs (acc ++ [y]) (wipeE e3 vs) else compGo g tt te vs xs acc (wipeE e2 vs) := by
  rw [compGo]
  cases g x e <;> rfl
/-- a comprehension whose turns leave the slots as they were -/
theorem compGo_map {g : PyData → Env → Option Env} {tt : Env → Rs Bool} {te : Env → Rs PyData} {vs : List Nat} {α : Type} {emb : α → PyData} {e : Env} (p : α → Bool) (f : α → PyData) : ∀ (xs : List α) (acc : List PyData),
    (∀ x ∈ xs, ∃ e1, g (emb x) e = some e1 ∧ tt e1 = .ok (p x) e1 ∧ (p x = true → te e1 = .ok (f x) e1) ∧ wipeE e1 vs = e) → compGo g tt te vs (xs.map emb) acc e = .ok (acc ++ (xs.filter p).map f) e
  | [], acc, _ => by simp
  | x :: xs, acc, h => by
    obtain ⟨e1, h1, h2, h3, h4⟩ := h x List.mem_cons_self
    have ih := fun acc => compGo_map p f xs acc fun y hy => h y (List.mem_cons_of_mem _ hy)
    rw [List.map_cons, compGo_cons, h1, optRs_s, h2]
    cases hp : p x with
    | true =>
      simp only [Rs.bind_ok, if_true, h3 hp, h4, ih]
      simp [hp]
    | false =>
      simp only [Rs.bind_ok, Bool.false_eq_true, if_false, h4, ih]
      simp [hp]
@[simp] theorem forGo_nil (g body e) : forGo g body [] e = .nx e := id rfl
/-- a turn's end in a loop -/
def Out.lp (o : Out) (k : Env → Out) : Out := match o with
  | .nx e => k e
  | .ct e => k e
  | .bk e => .nx e
  | .rt m e => .rt m e
  | .ex x e => .ex x e
  | .no => .no
@[simp] theorem lp_nx (e k) : (Out.nx e).lp k = k e := id rfl
@[simp] theorem lp_ct (e k) : (Out.ct e).lp k = k e := id rfl
@[simp] theorem lp_bk (e k) : (Out.bk e).lp k = .nx e := id rfl
@[simp] theorem lp_rt (m e k) : (Out.rt m e).lp k = .rt m e := id rfl
theorem lp_ite (c : Prop) [Decidable c] (a b k) : (if c then a else b : Out).lp k = if c then a.lp k else b.lp k := by split <;> rfl
theorem forGo_cons (g body x xs e) : forGo g body (x :: xs) e = optOut (g x e) fun e1 => (body e1).lp (forGo g body xs) := by
  rw [forGo]
  cases g x e with
  | none => rfl
  | some e1 =>
    show (match body e1 with | .nx e2 => forGo g body xs e2 | .ct e2 => forGo g body xs e2 | .bk e2 => .nx e2 | .rt m e2 => .rt m e2 | .ex x e2 => .ex x e2 | .no => .no) = (body e1).lp _
    cases body e1 <;> rfl
end DL
namespace DL
open PySem
/-! places -/
theorem atI_nat {α : Type} (xs : List α) (n : Nat) : L2.atI xs (n : Int) = xs[n]? := by
  by_cases h : n < xs.length
  · rw [L2.atI_nat (v := xs[n]) (by simp [h])]
    simp [h]
  · unfold L2.atI L2.ixN
    simp [h]
@[simp] theorem atI_2 {α : Type} (xs : List α) : L2.atI xs 2 = xs[2]? := atI_nat xs 2
@[simp] theorem atI_3 {α : Type} (xs : List α) : L2.atI xs 3 = xs[3]? := atI_nat xs 3
@[simp] theorem atI_4 {α : Type} (xs : List α) : L2.atI xs 4 = xs[4]? := atI_nat xs 4
@[simp] theorem atI_5 {α : Type} (xs : List α) : L2.atI xs 5 = xs[5]? := atI_nat xs 5
@[simp] theorem atI_6 {α : Type} (xs : List α) : L2.atI xs 6 = xs[6]? := atI_nat xs 6
@[simp] theorem atI_7 {α : Type} (xs : List α) : L2.atI xs 7 = xs[7]? := atI_nat xs 7
@[simp] theorem atI_zero {α : Type} (xs : List α) : L2.atI xs 0 = xs[0]? := atI_nat xs 0
@[simp] theorem atI_one {α : Type} (xs : List α) : L2.atI xs 1 = xs[1]? := atI_nat xs 1
theorem atI_int {α : Type} (xs : List α) (i : Int) (h : 0 ≤ i) : L2.atI xs i = xs[i.toNat]? := by
  have := atI_nat xs i.toNat
  rw [Int.toNat_of_nonneg h] at this
  exact this
theorem ixN_int (n : Nat) (i : Int) (h : 0 ≤ i) (h2 : i < n) : L2.ixN n i = some i.toNat := by
  unfold L2.ixN
  rw [if_pos h, if_pos h2]
theorem ixN_nat (n i : Nat) (h2 : i < n) : L2.ixN n (i : Int) = some i := by
  rw [ixN_int n i (by omega) (by omega)]
  simp
@[simp] theorem dPow_10_18 : dPow (.int 10) (.int 18) = some (.int 1000000000000000000) := by
  have e : (10 : Int) ^ (18 : Int).toNat = 1000000000000000000 := by decide +kernel
  show (if 0 ≤ (18 : Int) ∧ (18 : Int) ≤ 1000000 ∧ (10 : Int).natAbs < 2 ^ 64 then some (PyData.int ((10 : Int) ^ (18 : Int).toNat)) else none) = _
  rw [e, if_pos (by decide)]
theorem okM_lit (i j : Int) (h1 : -(2 ^ 64) < j) (h2 : j < 2 ^ 64) : okM i j = true := by
  unfold okM
  simp only [Bool.or_eq_true, Bool.and_eq_true, decide_eq_true_eq]
  exact .inr ⟨h1, h2⟩
theorem okM_lit' (i j : Int) (h1 : -(2 ^ 64) < i) (h2 : i < 2 ^ 64) : okM i j = true := by
  unfold okM
  simp only [Bool.or_eq_true, Bool.and_eq_true, decide_eq_true_eq]
  exact .inl ⟨h1, h2⟩
end DL


namespace DL
open PySem
/-! loops by what stays true -/
theorem compGo_rel {g : PyData → Env → Option Env} {tt : Env → Rs Bool} {te : Env → Rs PyData} {vs : List Nat} (Inv : List PyData → List PyData → Env → Prop)
    (step : ∀ x xs acc e, Inv (x :: xs) acc e → ∃ e1 y e2, g x e = some e1 ∧ tt e1 = .ok true e1 ∧ te e1 = .ok y e2 ∧ Inv xs (acc ++ [y]) (wipeE e2 vs)) :
    ∀ (xs acc : List PyData) (e : Env), Inv xs acc e → ∃ ys e', compGo g tt te vs xs acc e = .ok ys e' ∧ Inv [] ys e'
  | [], acc, e, h => ⟨acc, e, compGo_nil .., h⟩
  | x :: xs, acc, e, h => by
    obtain ⟨e1, y, e2, h1, h2, h3, h4⟩ := step x xs acc e h
    obtain ⟨ys, e', h5, h6⟩ := compGo_rel Inv step xs _ _ h4
    refine ⟨ys, e', ?_, h6⟩
    rw [compGo_cons, h1, optRs_s, h2, Rs.bind_ok, if_pos rfl, h3, Rs.bind_ok, h5]
theorem forGo_rel {g : PyData → Env → Option Env} {body : Env → Out} (Inv : List PyData → Env → Prop)
    (step : ∀ x xs e, Inv (x :: xs) e → ∃ e1 e2, g x e = some e1 ∧ (body e1 = .nx e2 ∨ body e1 = .ct e2) ∧ Inv xs e2) :
    ∀ (xs : List PyData) (e : Env), Inv xs e → ∃ e', forGo g body xs e = .nx e' ∧ Inv [] e'
  | [], e, h => ⟨e, forGo_nil .., h⟩
  | x :: xs, e, h => by
    obtain ⟨e1, e2, h1, h2, h3⟩ := step x xs e h
    obtain ⟨e', h4, h5⟩ := forGo_rel Inv step xs _ h3
    refine ⟨e', ?_, h5⟩
    rw [forGo_cons, h1, optOut_s]
    rcases h2 with h2 | h2 <;> (rw [h2]; exact h4)
/-- a loop over range(N) -/
theorem forGo_range {g : PyData → Env → Option Env} {body : Env → Out} (N : Nat) (Inv : Nat → Env → Prop)
    (step : ∀ k e, k < N → Inv k e → ∃ e1 e2, g (.int k) e = some e1 ∧ (body e1 = .nx e2 ∨ body e1 = .ct e2) ∧ Inv (k + 1) e2) (e : Env) (h0 : Inv 0 e) : ∃ e', forGo g body (rangeD 0 N) e = .nx e' ∧ Inv N e' := by
  obtain ⟨e', h1, k, hk, h2, h3⟩ := forGo_rel (g := g) (body := body) (fun l e => ∃ k : Nat, k ≤ N ∧ l = (List.range' k (N - k)).map (fun i : Nat => PyData.int i) ∧ Inv k e) (by
    rintro x l e ⟨k, hk, h1, h2⟩
    have hk' : k < N := Nat.lt_of_not_le fun z => by
      rw [Nat.sub_eq_zero_of_le z] at h1
      simp at h1
    rw [show N - k = (N - (k + 1)) + 1 by omega, List.range'_succ, List.map_cons] at h1
    cases h1
    obtain ⟨e1, e2, a, b, c⟩ := step k e hk' h2
    exact ⟨e1, e2, a, b, k + 1, hk', rfl, c⟩) (rangeD 0 N) e ⟨0, by omega, by
      have : rangeD 0 N = (List.range N).map fun i : Nat => .int i := by simp [rangeD]
      rw [this, List.range_eq_range']; rfl, h0⟩
  have hN : k = N := by
    have hl := congrArg List.length h2
    simp at hl
    omega
  exact ⟨e', h1, by rw [← hN]; exact h3⟩
/-- a loop over a row, by what is done and what is left -/
theorem forGo_list {α : Type} {emb : α → PyData} {g : PyData → Env → Option Env} {body : Env → Out} (Inv : List α → List α → Env → Prop)
    (step : ∀ d x r e, Inv d (x :: r) e → ∃ e1 e2, g (emb x) e = some e1 ∧ (body e1 = .nx e2 ∨ body e1 = .ct e2) ∧ Inv (d ++ [x]) r e2) : ∀ (r d : List α) (e : Env), Inv d r e → ∃ e', forGo g body (r.map emb) e = .nx e' ∧ Inv (d ++ r) [] e'
  | [], d, e, h => ⟨e, forGo_nil .., by rw [List.append_nil]; exact h⟩
  | x :: r, d, e, h => by
    obtain ⟨e1, e2, h1, h2, h3⟩ := step d x r e h
    obtain ⟨e', h4, h5⟩ := forGo_list Inv step r (d ++ [x]) e2 h3
    refine ⟨e', ?_, by rw [List.append_assoc] at h5; exact h5⟩
    rw [List.map_cons, forGo_cons, h1, optOut_s]
    rcases h2 with h2 | h2 <;> (rw [h2]; exact h4)
/-- a comprehension over range(N) whose turns may draw -/
theorem compGo_range {g : PyData → Env → Option Env} {tt : Env → Rs Bool} {te : Env → Rs PyData} {vs : List Nat} (N : Nat) (Inv : Nat → List PyData → Env → Prop)
    (step : ∀ k acc e, k < N → Inv k acc e → ∃ e1 y e2, g (.int k) e = some e1 ∧ tt e1 = .ok true e1 ∧ te e1 = .ok y e2 ∧ Inv (k + 1) (acc ++ [y]) (wipeE e2 vs)) (e : Env) (h0 : Inv 0 [] e) :
    ∃ ys e', compGo g tt te vs (rangeD 0 N) [] e = .ok ys e' ∧ Inv N ys e' := by
  obtain ⟨ys, e', h1, k, hk, h2, h3⟩ := compGo_rel (g := g) (tt := tt) (te := te) (vs := vs) (fun l acc e => ∃ k : Nat, k ≤ N ∧ l = (List.range' k (N - k)).map (fun i : Nat => PyData.int i) ∧ Inv k acc e) (by
    rintro x l acc e ⟨k, hk, h1, h2⟩
    have hk' : k < N := Nat.lt_of_not_le fun z => by
      rw [Nat.sub_eq_zero_of_le z] at h1
      simp at h1
    rw [show N - k = (N - (k + 1)) + 1 by omega, List.range'_succ, List.map_cons] at h1
    cases h1
    obtain ⟨e1, y, e2, a, b, c, d⟩ := step k acc e hk' h2
    exact ⟨e1, y, e2, a, b, c, k + 1, hk', rfl, d⟩) (rangeD 0 N) [] e ⟨0, by omega, by
      have : rangeD 0 N = (List.range N).map fun i : Nat => .int i := by simp [rangeD]
      rw [this, List.range_eq_range']; rfl, h0⟩
  have hN : k = N := by
    have hl := congrArg List.length h2
    simp at hl
    omega
  exact ⟨ys, e', h1, by rw [← hN]; exact h3⟩
/-- a comprehension over data whose turns leave the slots as they were -/
theorem compGo_id {g : PyData → Env → Option Env} {te : Env → Rs PyData} {vs : List Nat} {e : Env} (f : PyData → PyData) (xs acc : List PyData)
    (h : ∀ x ∈ xs, ∃ e1, g x e = some e1 ∧ te e1 = .ok (f x) e1 ∧ wipeE e1 vs = e) : compGo g tYesD te vs xs acc e = .ok (acc ++ xs.map f) e := by
  have := compGo_map (g := g) (tt := tYesD) (te := te) (vs := vs) (emb := id) (e := e) (fun _ => true) f xs acc (fun x hx => by
    obtain ⟨e1, h1, h2, h3⟩ := h x hx
    exact ⟨e1, h1, rfl, fun _ => h2, h3⟩)
  rw [List.map_id, List.filter_eq_self.2 (by simp)] at this
  exact this
theorem rangeD_len (a : Int) (n : Nat) : (rangeD a n).length = n := by simp [rangeD]
theorem rangeD_eq (n : Nat) : rangeD 0 n = (List.range n).map fun i : Nat => .int i := by simp [rangeD]
/-- a whole number -/
def whole : PyData → Bool
  | .int _ => true
  | _ => false
@[simp] theorem whole_i (i) : whole (.int i) = true := rfl
@[simp] theorem whole_b (i) : whole (.bool i) = false := rfl
@[simp] theorem whole_n : whole .none = false := rfl
@[simp] theorem whole_s (i) : whole (.str i) = false := rfl
@[simp] theorem whole_t (i) : whole (.tuple i) = false := rfl
@[simp] theorem whole_l (i) : whole (.list i) = false := rfl
theorem ints_of_whole : ∀ xs : List PyData, (∀ x ∈ xs, whole x = true) → ∃ ns : List Int, xs = ns.map .int
  | [], _ => ⟨[], rfl⟩
  | x :: xs, h => by
    obtain ⟨ns, e⟩ := ints_of_whole xs fun y hy => h y (List.mem_cons_of_mem _ hy)
    have := h x List.mem_cons_self
    cases x with
    | int i => exact ⟨i :: ns, by rw [e]; rfl⟩
    | _ => cases this
def btw (a b : Int) : PyData → Bool
  | .int i => decide (a ≤ i) && decide (i ≤ b)
  | _ => false
theorem map_int_inj {ns ms : List Int} (h : ns.map PyData.int = ms.map PyData.int) : ns = ms :=
  (List.map_inj_right (fun _ _ e => PyData.int.inj e)).1 h
/-! equality of rows of whole numbers, and of answers -/
theorem lay_ints : ∀ ns : List Int, PyData.canLayAll0 (ns.map .int) = true ∧ PyData.depthAll (ns.map .int) = 0
  | [] => ⟨rfl, rfl⟩
  | x :: xs => by
    obtain ⟨h1, h2⟩ := lay_ints xs
    rw [List.map_cons, PyData.canLayAll0, PyData.depthAll, h1, h2]
    exact ⟨rfl, rfl⟩
theorem lay_bools : ∀ ns : List Bool, PyData.canLayAll0 (ns.map .bool) = true ∧ PyData.depthAll (ns.map .bool) = 0
  | [] => ⟨rfl, rfl⟩
  | x :: xs => by
    obtain ⟨h1, h2⟩ := lay_bools xs
    rw [List.map_cons, PyData.canLayAll0, PyData.depthAll, h1, h2]
    exact ⟨rfl, rfl⟩
theorem shp_list {xs : List PyData} (h : PyData.canLayAll0 xs = true) (d : PyData.depthAll xs ≤ 63) : SeqAt.shaped (.list xs) = true := by
  unfold SeqAt.shaped
  rw [PyData.canLay0, PyData.depth, h, Bool.true_and, decide_eq_true_eq]
  omega
theorem shp_tup {xs : List PyData} (h : PyData.canLayAll0 xs = true) (d : PyData.depthAll xs ≤ 63) : SeqAt.shaped (.tuple xs) = true := by
  unfold SeqAt.shaped
  rw [PyData.canLay0, PyData.depth, h, Bool.true_and, decide_eq_true_eq]
  omega
theorem shp_il (ns : List Int) : SeqAt.shaped (.list (ns.map .int)) = true := shp_list (lay_ints ns).1 (by rw [(lay_ints ns).2]; omega)
theorem shp_it (ns : List Int) : SeqAt.shaped (.tuple (ns.map .int)) = true := shp_tup (lay_ints ns).1 (by rw [(lay_ints ns).2]; omega)
theorem shp_bl (ns : List Bool) : SeqAt.shaped (.list (ns.map .bool)) = true := shp_list (lay_bools ns).1 (by rw [(lay_bools ns).2]; omega)
theorem shp_i (i : Int) : SeqAt.shaped (.int i) = true := by simp [SeqAt.shaped, PyData.canLay0, PyData.depth]
theorem eqv_i (i j : Int) : PyData.eqv (.int i) (.int j) = (i == j) := by simp [PyData.eqv]
theorem eqv_b (i j : Bool) : PyData.eqv (.bool i) (.bool j) = (i == j) := by simp [PyData.eqv]
theorem eqvAll_ints : ∀ ns ms : List Int, PyData.eqvAll (ns.map .int) (ms.map .int) = (ns == ms)
  | [], [] => by simp [PyData.eqvAll]
  | [], _ :: _ => by simp [PyData.eqvAll]
  | _ :: _, [] => by simp [PyData.eqvAll]
  | x :: xs, y :: ys => by
    rw [List.map_cons, List.map_cons, PyData.eqvAll, eqvAll_ints xs ys, eqv_i]
    rfl
theorem eqvAll_bools : ∀ ns ms : List Bool, PyData.eqvAll (ns.map .bool) (ms.map .bool) = (ns == ms)
  | [], [] => by simp [PyData.eqvAll]
  | [], _ :: _ => by simp [PyData.eqvAll]
  | _ :: _, [] => by simp [PyData.eqvAll]
  | x :: xs, y :: ys => by
    rw [List.map_cons, List.map_cons, PyData.eqvAll, eqvAll_bools xs ys, eqv_b]
    rfl
theorem eqv_ll (x y : List PyData) : PyData.eqv (.list x) (.list y) = PyData.eqvAll x y := by rw [PyData.eqv]
theorem eqv_tt (x y : List PyData) : PyData.eqv (.tuple x) (.tuple y) = PyData.eqvAll x y := by rw [PyData.eqv]
theorem dEq_ll (ns ms : List Int) : dEq (.list (ns.map .int)) (.list (ms.map .int)) = some (.bool (ns == ms)) := by
  unfold dEq
  rw [if_pos ⟨shp_il ns, shp_il ms⟩, eqv_ll, eqvAll_ints]
theorem dNe_ll (ns ms : List Int) : dNe (.list (ns.map .int)) (.list (ms.map .int)) = some (.bool (!(ns == ms))) := by
  unfold dNe
  rw [if_pos ⟨shp_il ns, shp_il ms⟩, eqv_ll, eqvAll_ints]
theorem dEq_tt (ns ms : List Int) : dEq (.tuple (ns.map .int)) (.tuple (ms.map .int)) = some (.bool (ns == ms)) := by
  unfold dEq
  rw [if_pos ⟨shp_it ns, shp_it ms⟩, eqv_tt, eqvAll_ints]
theorem dNe_tt (ns ms : List Int) : dNe (.tuple (ns.map .int)) (.tuple (ms.map .int)) = some (.bool (!(ns == ms))) := by
  unfold dNe
  rw [if_pos ⟨shp_it ns, shp_it ms⟩, eqv_tt, eqvAll_ints]
theorem dNe_bools (ns ms : List Bool) : dNe (.list (ns.map .bool)) (.list (ms.map .bool)) = some (.bool (!(ns == ms))) := by
  unfold dNe
  rw [if_pos ⟨shp_bl ns, shp_bl ms⟩, eqv_ll, eqvAll_bools]
theorem dEq_bools (ns ms : List Bool) : dEq (.list (ns.map .bool)) (.list (ms.map .bool)) = some (.bool (ns == ms)) := by
  unfold dEq
  rw [if_pos ⟨shp_bl ns, shp_bl ms⟩, eqv_ll, eqvAll_bools]
theorem any_eqv_ints (i : Int) (ns : List Int) : ((ns.map PyData.int).any fun z => PyData.eqv z (.int i)) = ns.contains i := by
  rw [List.any_map]
  induction ns with
  | nil => rfl
  | cons x xs ih =>
    rw [List.any_cons, ih, List.contains_cons]
    show (PyData.eqv (.int x) (.int i) || _) = _
    rw [eqv_i, Bool.beq_comm]
end DL


namespace DCom
open PySem DL
def b_is_whole : DL.Env → Out :=
  sRet (mD (eAnd (eIsi .int (eVar 0)) (eNot (eIsi .bool (eVar 0)))))
def f_is_whole : Fn := runDef [false] 1 b_is_whole
def b__law_stream : DL.Env → Out :=
  sRet (mLst (aCons (eListScr 0) (aCons (eC (.int 0)) (aCons (eC (.int 0)) (aNil)))))
def f__law_stream : Fn := runDef [true] 1 b__law_stream
def b__law_next : DL.Env → Out :=
  sThen (sIf (tb1 (e2 dEq (eIxO 0 (eC (.int 1))) (eC (.int 0)))) (sThen (sSet 3 (mD (eIxO 0 (eC (.int 2)))))
    (sThen (sSet 4 (mD (e2 dAdd (eC (.int 7)) (eVar 3))))
    (sThen (sIf (tb1 (e2 dLt (eVar 3) (eB bLen (aCons (eIxO 0 (eC (.int 0))) (aNil))))) (sSet 4 (mD (eB bAbs (aCons (e2 dIx (eIxO 0 (eC (.int 0))) (eVar 3)) (aNil))))) (sNx))
    (sThen (sIf (tb1 (e2 dLt (eVar 4) (e2 dPow (eC (.int 10)) (eC (.int 18))))) (sThen (sSet 4 (mD (e2 dMod (eB bInt (aCons (e2 dAdd (e2 dAdd (e2 dMul (eVar 4) (eC (.int 48271))) (e2 dMul (eVar 3) (eC (.int 69621)))) (eC (.int 11))) (aNil))) (eC (.int 2147483647)))))
      (sSet 4 (mD (e2 dAdd (e2 dMul (e2 dMod (eB bInt (aCons (e2 dAdd (e2 dMul (eVar 4) (eC (.int 16807))) (eC (.int 13))) (aNil))) (eC (.int 2147483647))) (eC (.int 65537))) (eVar 4))))) (sNx))
    (sThen (sSetItem 0 (eVar 4) (eC (.int 1)))
    (sSetItem 0 (e2 dAdd (eVar 3) (eC (.int 1))) (eC (.int 2)))))))) (sNx))
  (sThen (sSet 2 (mD (e2 dMod (eB bInt (aCons (eIxO 0 (eC (.int 1))) (aNil))) (eVar 1))))
  (sThen (sSetItem 0 (e2 dDiv (eIxO 0 (eC (.int 1))) (eVar 1)) (eC (.int 1)))
  (sRet (mD (eVar 2)))))
def f__law_next : Fn := runDef [true, false] 5 b__law_next
def b_is_between : DL.Env → Out :=
  sRet (mD (eAnd (eFrz (eCall 1 f_is_whole (avD (eVar 0) (avNil)))) (eChain dLe dLe (eVar 1) (eVar 0) (eVar 2))))
def f_is_between : Fn := runDef [false, false, false] 3 b_is_between
def b_is_allocation : DL.Env → Out :=
  sThen (sIf (tOrD (tNotD (tt1 (eIsi .tup (eVar 0)))) (tb1 (e2 dNe (eB bLen (aCons (eVar 0) (aNil))) (eVar 1)))) (sRet (mD (eC (.bool false)))) (sNx))
  (sRet (mD (eAnd (eB bAll (aCons (eComp (itSeq (eVar 0)) (gN 3) (tYesD) (eAnd (eFrz (eCall 1 f_is_whole (avD (eVar 3) (avNil)))) (e2 dGe (eVar 3) (eC (.int 0)))) [3]) (aNil))) (e2 dEq (eB bSum (aCons (eVar 0) (aNil))) (eVar 2)))))
def f_is_allocation : Fn := runDef [false, false, false] 4 b_is_allocation
def b_is_order : DL.Env → Out :=
  sThen (sIf (tOrD (tNotD (tt1 (eIsi .tup (eVar 0)))) (tOrD (tb1 (e2 dNe (eB bLen (aCons (eVar 0) (aNil))) (eVar 1))) (tNotD (tt1 (eB bAll (aCons (eComp (itSeq (eVar 0)) (gN 2) (tYesD) (eFrz (eCall 1 f_is_whole (avD (eVar 2) (avNil)))) [2]) (aNil))))))) (sRet (mD (eC (.bool false)))) (sNx))
  (sRet (mD (e2 dEq (eB bSorted (aCons (eVar 0) (aNil))) (eListRg bRange1 (aOne (eVar 1))))))
def f_is_order : Fn := runDef [false, false] 3 b_is_order
def b__law_pick : DL.Env → Out :=
  sRet (mD (e2 dIx (eVar 1) (eFrz (eCall 2 f__law_next (avS 0 (avD (eB bLen (aCons (eVar 1) (aNil))) (avNil)))))))
def f__law_pick : Fn := runDef [true, false] 2 b__law_pick
def b__law_allocation : DL.Env → Out :=
  sThen (sSet 3 (mComp (itB bRange1 (aCons (eVar 1) (aNil))) (gN 5) (tYesD) (eC (.int 0)) [5]))
  (sThen (sFor (itB bRange1 (aCons (eVar 2) (aNil))) (gN 4) (sThen (sSet 5 (mD (eFrz (eCall 2 f__law_next (avS 0 (avD (eVar 1) (avNil)))))))
    (sSetItem 3 (e2 dAdd (eIxO 3 (eVar 5)) (eC (.int 1))) (eVar 5))))
  (sRet (mD (eTupO 3))))
def f__law_allocation : Fn := runDef [true, false, false] 6 b__law_allocation
def b__law_assignment : DL.Env → Out :=
  sRet (mD (eB bTup (aCons (eComp (itB bRange1 (aCons (eVar 2) (aNil))) (gN 3) (tYesD) (eFrz (eCall 2 f__law_next (avS 0 (avD (eVar 1) (avNil))))) [3]) (aNil))))
def f__law_assignment : Fn := runDef [true, false, false] 4 b__law_assignment
def b__law_order : DL.Env → Out :=
  sThen (sSet 2 (mListRg bRange1 (aOne (eVar 1))))
  (sRet (mD (eB bTup (aCons (eComp (itB bRange1 (aCons (eVar 1) (aNil))) (gN 3) (tYesD) (eMt 2 mPopAt (aCons (eFrz (eCall 2 f__law_next (avS 0 (avD (eBO 2 bLen) (avNil))))) (aNil))) [3]) (aNil)))))
def f__law_order : Fn := runDef [true, false] 4 b__law_order
def b_is_assignment : DL.Env → Out :=
  sThen (sIf (tOrD (tNotD (tt1 (eIsi .tup (eVar 0)))) (tb1 (e2 dNe (eB bLen (aCons (eVar 0) (aNil))) (eVar 2)))) (sRet (mD (eC (.bool false)))) (sNx))
  (sRet (mD (eB bAll (aCons (eComp (itSeq (eVar 0)) (gN 3) (tYesD) (eFrz (eCall 3 f_is_between (avD (eVar 3) (avD (eC (.int 0)) (avD (e2 dSub (eVar 1) (eC (.int 1))) (avNil)))))) [3]) (aNil)))))
def f_is_assignment : Fn := runDef [false, false, false] 4 b_is_assignment
def b__law_is_integer : DL.Env → Out :=
  sRet (mD (eAnd (eIsi .int (eVar 0)) (eNot (eIsi .bool (eVar 0)))))
def f__law_is_integer : Fn := runDef [false] 1 b__law_is_integer
def b__law_equal (F : Fn) : DL.Env → Out :=
  sThen (sIf (tb1 (e2 dIs (eVar 1) (eC (.none)))) (sRet (mD (e2 dIs (eVar 0) (eC (.none))))) (sNx))
  (sThen (sIf (tt1 (eIsi .bool (eVar 1))) (sRet (mD (eAnd (eIsi .bool (eVar 0)) (e2 dEq (eVar 0) (eVar 1))))) (sNx))
  (sThen (sIf (tt1 (eIsi .int (eVar 1))) (sRet (mD (eAnd (eFrz (eCall 1 f__law_is_integer (avD (eVar 0) (avNil)))) (e2 dEq (eVar 0) (eVar 1))))) (sNx))
  (sThen (sIf (tt1 (eIsi .str (eVar 1))) (sRet (mD (eAnd (eIsi .str (eVar 0)) (e2 dEq (eVar 0) (eVar 1))))) (sNx))
  (sThen (sIf (tAndD (tt1 (eIsi .tup (eVar 1))) (tNotD (tt1 (eIsi .tup (eVar 0))))) (sRet (mD (eC (.bool false)))) (sNx))
  (sThen (sIf (tAndD (tt1 (eIsi .lst (eVar 1))) (tNotD (tt1 (eIsi .lst (eVar 0))))) (sRet (mD (eC (.bool false)))) (sNx))
  (sThen (sIf (tb1 (e2 dNe (eB bLen (aCons (eVar 0) (aNil))) (eB bLen (aCons (eVar 1) (aNil))))) (sRet (mD (eC (.bool false)))) (sNx))
  (sRet (mD (eB bAll (aCons (eComp (itB bRange1 (aCons (eB bLen (aCons (eVar 1) (aNil))) (aNil))) (gN 2) (tYesD) (eFrz (eCall 2 F (avD (e2 dIx (eVar 0) (eVar 2)) (avD (e2 dIx (eVar 1) (eVar 2)) (avNil))))) [2]) (aNil)))))))))))
def r__law_equal : Nat → Fn
  | 0 => fun _ => .no
  | n + 1 => runDef [false, false] 3 (b__law_equal (r__law_equal n))
abbrev f__law_equal : Fn := r__law_equal 8
def b_transfer_of : DL.Env → Out :=
  sRet (mD (eB bSum (aCons (eComp (itB bZip (aCons (eVar 0) (aCons (eVar 1) (aNil)))) (gT 2 (gsC (gN 3) (gsC (gN 2) (gsN)))) (tYesD) (eB bMax (aCons (eC (.int 0)) (aCons (e2 dSub (eVar 3) (eVar 2)) (aNil)))) [3, 2]) (aNil))))
def f_transfer_of : Fn := runDef [false, false] 4 b_transfer_of
def b_check_allocation : DL.Env → Out :=
  sThen (sIf (tOrD (tNotD (tt1 (eIsi .tup (eVar 0)))) (tNotD (tb1 (eChain dLe dLe (eC (.int 1)) (eB bLen (aCons (eVar 0) (aNil))) (eC (.int 5)))))) (sNo) (sNx))
  (sIf (tOrD (tNotD (tt1 (eB bAll (aCons (eComp (itSeq (eVar 0)) (gN 2) (tYesD) (eFrz (eCall 3 f_is_between (avD (eVar 2) (avD (eC (.int 0)) (avD (eC (.int 20)) (avNil)))))) [2]) (aNil))))) (tb1 (e2 dGt (eB bSum (aCons (eVar 0) (aNil))) (eC (.int 20))))) (sNo) (sNx))
def f_check_allocation : Fn := runDef [false, false] 3 b_check_allocation
def b_check_alike : DL.Env → Out :=
  sIf (tNotD (tt1 (eFrz (eCall 3 f_is_allocation (avD (eVar 0) (avD (eB bLen (aCons (eVar 1) (aNil))) (avD (eB bSum (aCons (eVar 1) (aNil))) (avNil)))))))) (sNo) (sNx)
def f_check_alike : Fn := runDef [false, false, false] 3 b_check_alike
def b_counts_of : DL.Env → Out :=
  sRet (mD (eB bTup (aCons (eComp (itB bRange1 (aCons (eVar 1) (aNil))) (gN 2) (tYesD) (eSM cntD (eVar 0) (aCons (eVar 2) (aNil))) [2]) (aNil))))
def f_counts_of : Fn := runDef [false, false] 3 b_counts_of
def b_churn_of : DL.Env → Out :=
  sRet (mD (eB bSum (aCons (eComp (itB bZip (aCons (eVar 0) (aCons (eVar 1) (aNil)))) (gT 2 (gsC (gN 3) (gsC (gN 2) (gsN)))) (tYesD) (eB bInt (aCons (e2 dNe (eVar 3) (eVar 2)) (aNil))) [3, 2]) (aNil))))
def f_churn_of : Fn := runDef [false, false] 4 b_churn_of
def b__law_back : DL.Env → Out :=
  sRet (mD (eB bTup (aCons (eComp (itB bRange1 (aCons (eB bLen (aCons (eVar 0) (aNil))) (aNil))) (gN 1) (tYesD) (eSM idxD (eVar 0) (aCons (eVar 1) (aNil))) [1]) (aNil))))
def f__law_back : Fn := runDef [false] 2 b__law_back
def b_transfer : DL.Env → Out :=
  sThen (sDrop (eCall 2 f_check_allocation (avD (eVar 0) (avD (eC (.str "first")) (avNil)))))
  (sThen (sDrop (eCall 3 f_check_alike (avD (eVar 1) (avD (eVar 0) (avD (eC (.str "second")) (avNil))))))
  (sRet (mD (eFrz (eCall 2 f_transfer_of (avD (eVar 0) (avD (eVar 1) (avNil))))))))
def f_transfer : Fn := runDef [false, false] 2 b_transfer
def b_renamed_shares : DL.Env → Out :=
  sThen (sDrop (eCall 2 f_check_allocation (avD (eVar 0) (avD (eC (.str "allocation")) (avNil)))))
  (sThen (sIf (tNotD (tt1 (eFrz (eCall 2 f_is_order (avD (eVar 1) (avD (eB bLen (aCons (eVar 0) (aNil))) (avNil))))))) (sNo) (sNx))
  (sRet (mD (eB bTup (aCons (eComp (itB bRange1 (aCons (eB bLen (aCons (eVar 0) (aNil))) (aNil))) (gN 2) (tYesD) (e2 dIx (eVar 0) (eSM idxD (eVar 1) (aCons (eVar 2) (aNil)))) [2]) (aNil))))))
def f_renamed_shares : Fn := runDef [false, false] 3 b_renamed_shares
def b_check_assignment : DL.Env → Out :=
  sThen (sIf (tOrD (tNotD (tt1 (eIsi .tup (eVar 0)))) (tb1 (e2 dGt (eB bLen (aCons (eVar 0) (aNil))) (eC (.int 20))))) (sNo) (sNx))
  (sIf (tNotD (tt1 (eFrz (eCall 3 f_is_assignment (avD (eVar 0) (avD (eVar 1) (avD (eB bLen (aCons (eVar 0) (aNil))) (avNil)))))))) (sNo) (sNx))
def f_check_assignment : Fn := runDef [false, false, false] 3 b_check_assignment
def b_check_variants : DL.Env → Out :=
  sThen (sIf (tNotD (tt1 (eFrz (eCall 3 f_is_between (avD (eVar 0) (avD (eC (.int 1)) (avD (eC (.int 5)) (avNil)))))))) (sNo) (sNx))
  (sIf (tNotD (tt1 (eB bAll (aCons (eComp (itSeq (eVar 1)) (gN 2) (tYesD) (eFrz (eCall 3 f_is_assignment (avD (eVar 2) (avD (eVar 0) (avD (eB bLen (aCons (eVar 2) (aNil))) (avNil)))))) [2]) (aNil))))) (sNo) (sNx))
def f_check_variants : Fn := runDef [false, false] 3 b_check_variants
def b_check_two : DL.Env → Out :=
  sThen (sDrop (eCall 3 f_check_assignment (avD (eVar 0) (avD (eC (.int 5)) (avD (eC (.str "first")) (avNil))))))
  (sIf (tNotD (tt1 (eFrz (eCall 3 f_is_assignment (avD (eVar 1) (avD (eC (.int 5)) (avD (eB bLen (aCons (eVar 0) (aNil))) (avNil)))))))) (sNo) (sNx))
def f_check_two : Fn := runDef [false, false] 2 b_check_two
def b_allocation_of : DL.Env → Out :=
  sThen (sDrop (eCall 3 f_check_assignment (avD (eVar 0) (avD (eC (.int 5)) (avD (eC (.str "assignment")) (avNil))))))
  (sThen (sDrop (eCall 2 f_check_variants (avD (eVar 1) (avD (eLst (aCons (eVar 0) (aNil))) (avNil)))))
  (sRet (mD (eFrz (eCall 2 f_counts_of (avD (eVar 0) (avD (eVar 1) (avNil))))))))
def f_allocation_of : Fn := runDef [false, false] 2 b_allocation_of
def b_renamed : DL.Env → Out :=
  sThen (sDrop (eCall 3 f_check_assignment (avD (eVar 0) (avD (eC (.int 5)) (avD (eC (.str "assignment")) (avNil))))))
  (sThen (sIf (tNotD (tt1 (eFrz (eCall 2 f_is_order (avD (eVar 1) (avD (eC (.int 5)) (avNil))))))) (sNo) (sNx))
  (sRet (mD (eB bTup (aCons (eComp (itSeq (eVar 0)) (gN 2) (tYesD) (e2 dIx (eVar 1) (eVar 2)) [2]) (aNil))))))
def f_renamed : Fn := runDef [false, false] 3 b_renamed
def b_rearranged : DL.Env → Out :=
  sThen (sDrop (eCall 3 f_check_assignment (avD (eVar 0) (avD (eC (.int 5)) (avD (eC (.str "assignment")) (avNil))))))
  (sThen (sIf (tNotD (tt1 (eFrz (eCall 2 f_is_order (avD (eVar 1) (avD (eB bLen (aCons (eVar 0) (aNil))) (avNil))))))) (sNo) (sNx))
  (sRet (mD (eB bTup (aCons (eComp (itB bRange1 (aCons (eB bLen (aCons (eVar 0) (aNil))) (aNil))) (gN 2) (tYesD) (e2 dIx (eVar 0) (eSM idxD (eVar 1) (aCons (eVar 2) (aNil)))) [2]) (aNil))))))
def f_rearranged : Fn := runDef [false, false] 3 b_rearranged
def b_churn : DL.Env → Out :=
  sThen (sDrop (eCall 2 f_check_two (avD (eVar 0) (avD (eVar 1) (avNil)))))
  (sRet (mD (eFrz (eCall 2 f_churn_of (avD (eVar 0) (avD (eVar 1) (avNil)))))))
def f_churn : Fn := runDef [false, false] 2 b_churn
end DCom


namespace DCom
open PySem DL
/-! what the shared defs answer -/
structure Strm where
  ns : List Int
  c : Nat
  k : Nat
def Strm.m (s : Strm) : M := .l [.list (s.ns.map .int), .int s.c, .int s.k]
theorem stream_e (ns : List Int) : f__law_stream [.scr ns] = .rt (Strm.m ⟨ns, 0, 0⟩) [some (.scr ns)] := by
  simp [f__law_stream, b__law_stream, Strm.m]
abbrev nxA : DL.Env → Out := sIf (tb1 (e2 dLt (eVar 4) (e2 dPow (eC (.int 10)) (eC (.int 18))))) (sThen (sSet 4 (mD (e2 dMod (eB bInt (aCons (e2 dAdd (e2 dAdd (e2 dMul (eVar 4) (eC (.int 48271))) (e2 dMul (eVar 3) (eC (.int 69621)))) (eC (.int 11))) (aNil))) (eC (.int 2147483647)))))
      (sSet 4 (mD (e2 dAdd (e2 dMul (e2 dMod (eB bInt (aCons (e2 dAdd (e2 dMul (eVar 4) (eC (.int 16807))) (eC (.int 13))) (aNil))) (eC (.int 2147483647))) (eC (.int 65537))) (eVar 4))))) (sNx)
abbrev nxB : DL.Env → Out := sThen (sSetItem 0 (eVar 4) (eC (.int 1))) (sSetItem 0 (e2 dAdd (eVar 3) (eC (.int 1))) (eC (.int 2)))
abbrev nxC : DL.Env → Out := sThen (sSet 2 (mD (e2 dMod (eB bInt (aCons (eIxO 0 (eC (.int 1))) (aNil))) (eVar 1))))
  (sThen (sSetItem 0 (e2 dDiv (eIxO 0 (eC (.int 1))) (eVar 1)) (eC (.int 1)))
  (sRet (mD (eVar 2))))
theorem nxA_e (a b c : Option M) (k cell : Int) (hcell : 0 ≤ cell) : ∃ c' : Nat, nxA [a, b, c, some (.d (.int k)), some (.d (.int cell))] = .nx [a, b, c, some (.d (.int k)), some (.d (.int c'))] := by
  by_cases h18 : cell < 1000000000000000000
  · have h1 := Int.emod_nonneg (cell * 48271 + k * 69621 + 11) (show (2147483647 : Int) ≠ 0 by omega)
    have h2 := Int.emod_nonneg ((cell * 48271 + k * 69621 + 11) % 2147483647 * 16807 + 13) (show (2147483647 : Int) ≠ 0 by omega)
    have g1 : ∀ i : Int, okM i 48271 = true := fun i => okM_lit _ _ (by omega) (by omega)
    have g2 : ∀ i : Int, okM i 69621 = true := fun i => okM_lit _ _ (by omega) (by omega)
    have g3 : ∀ i : Int, okM i 16807 = true := fun i => okM_lit _ _ (by omega) (by omega)
    have g4 : ∀ i : Int, okM i 65537 = true := fun i => okM_lit _ _ (by omega) (by omega)
    have g5 : (0 : Int) < 2147483647 := by omega
    generalize hx : cell * 48271 + k * 69621 + 11 = x at h1 h2
    generalize hy : x % 2147483647 = y at h1 h2
    generalize hz : (y * 16807 + 13) % 2147483647 = z at h2
    refine ⟨(z * 65537 + y).toNat, ?_⟩
    have e : ((z * 65537 + y).toNat : Int) = z * 65537 + y := Int.toNat_of_nonneg (by omega)
    rw [e]
    simp only [nxA, sIf_eq, sE_eq, tb1_eq, e2_eq, eVar_eq, slotD_0, slotD_s, lift_some, Rs.bind_ok, eC_eq, dPow_10_18, dLt_ii, asB_b, to_ok, h18, decide_true, if_true, sThen_eq, sSet_eq, mD_eq, eB_eq, aCons_eq, aNil_eq, dMul_ii, g1, g2, g3, g4, dAdd_ii, bInt_i, dMod_ii, g5, hx, hy, hz, thn_nx, List.set_cons_succ, List.set_cons_zero]
  · refine ⟨cell.toNat, ?_⟩
    have e : (cell.toNat : Int) = cell := Int.toNat_of_nonneg hcell
    rw [e]
    simp only [nxA, sIf_eq, sE_eq, tb1_eq, e2_eq, eVar_eq, slotD_0, slotD_s, lift_some, Rs.bind_ok, eC_eq, dPow_10_18, dLt_ii, asB_b, to_ok, h18, decide_false, Bool.false_eq_true, if_false, sNx_eq]
theorem nxB_e (L : PyData) (c k k' : Int) (b a : Option M) (c' : Int) : nxB [some (.l [L, .int c, .int k]), b, a, some (.d (.int k')), some (.d (.int c'))] = .nx [some (.l [L, .int c', .int (k' + 1)]), b, a, some (.d (.int k')), some (.d (.int c'))] := by
  simp [nxB, L2.ixN]
theorem nxC_e (L : PyData) (c k m : Int) (b d : Option M) (hm : 0 < m) (hm2 : m < 1073741824) : (nxC [some (.l [L, .int c, .int k]), some (.d (.int m)), none, b, d]).fin [true, false] = .rt (.d (.int (c % m))) [some (.l [L, .int (c / m), .int k]), none] := by
  simp [nxC, L2.ixN, hm, hm2]
def nxZ : DL.Env → Out := sThen nxA nxB
theorem unf : f__law_next = runDef [true, false] 5 (sThen (sIf (tb1 (e2 dEq (eIxO 0 (eC (.int 1))) (eC (.int 0)))) (sThen (sSet 3 (mD (eIxO 0 (eC (.int 2)))))
    (sThen (sSet 4 (mD (e2 dAdd (eC (.int 7)) (eVar 3))))
    (sThen (sIf (tb1 (e2 dLt (eVar 3) (eB bLen (aCons (eIxO 0 (eC (.int 0))) (aNil))))) (sSet 4 (mD (eB bAbs (aCons (e2 dIx (eIxO 0 (eC (.int 0))) (eVar 3)) (aNil))))) (sNx))
    nxZ))) sNx) nxC) := rfl
theorem nxZ_e (a b : Option M) (L : PyData) (c k cell : Int) (hcell : 0 ≤ cell) : ∃ c' : Nat, nxZ [some (M.l [L, .int c, .int k]), b, a, some (.d (.int k)), some (.d (.int cell))] =
      .nx [some (M.l [L, .int c', .int (k + 1)]), b, a, some (.d (.int k)), some (.d (.int c'))] := by
  obtain ⟨c', e⟩ := nxA_e (some (M.l [L, .int c, .int k])) b a k cell hcell
  exact ⟨c', by rw [nxZ, sThen_eq, e, thn_nx, nxB_e]⟩
theorem nxC_f (ns : List Int) (m : Int) (hm : 0 < m) (hm2 : m < 1073741824) (c' k' : Nat) (e3 e4 : Option M) : ∃ d s', Out.fin [true, false] (nxC [some (M.l [PyData.list (ns.map .int), .int c', .int k']), some (.d (.int m)), none, e3, e4]) = .rt (.d (.int d)) [some (Strm.m s'), none] ∧ 0 ≤ d ∧ d < m := by
  refine ⟨c' % m, ⟨ns, (c' / m).toNat, k'⟩, ?_, Int.emod_nonneg _ (by omega), Int.emod_lt_of_pos _ hm⟩
  have hd : ((c' / m : Int).toNat : Int) = c' / m := Int.toNat_of_nonneg (Int.ediv_nonneg (by omega) (by omega))
  rw [nxC_e _ _ _ _ _ _ hm hm2]
  simp only [Strm.m, hd]
theorem next_ex (s : Strm) (m : Int) (hm : 0 < m) (hm2 : m < 1073741824) : ∃ d s', f__law_next [s.m, .d (.int m)] = .rt (.d (.int d)) [some (Strm.m s'), none] ∧ 0 ≤ d ∧ d < m := by
  obtain ⟨ns, c, k⟩ := s
  have fin := nxC_f ns m hm hm2
  rw [unf]
  have key := fun cell h => nxZ_e none (some (.d (.int m))) (PyData.list (ns.map .int)) c k cell h
  generalize nxZ = Z at key ⊢
  generalize nxC = C at fin ⊢
  by_cases hc : (c : Int) = 0
  · by_cases hk : (k : Int) < (ns.length : Int)
    · have hk' : k < ns.length := by omega
      obtain ⟨c', e⟩ := key (if ns[k] < 0 then -ns[k] else ns[k]) (by split <;> omega)
      obtain ⟨d, s', e2, h⟩ := fin c' (k + 1) (some (.d (.int k))) (some (.d (.int c')))
      refine ⟨d, s', ?_, h⟩
      rw [← e2]
      simp only [Rs.bind_ok, Rs.bind_ex, Rs.bind_no, lift_some, lift_none, thn_nx, thn_rt, thn_bk, thn_ct, thn_ex, thn_no, to_ok, to_ex, to_no, fin_nx, fin_rt, optOut_s, optOut_n, optRs_s, optRs_n, asB_b, chB_b, eVar_eq, slotD_0, slotD_s, slotL_0, slotL_s, slotScr_0, slotScr_s, eC_eq, e2_eq, e1_eq, tb1_eq, tt1_eq, tNotD_eq, tAndD_eq, tOrD_eq, eNot_eq, eAnd_eq, eOr_eq, eIf_eq, eChain_eq, aNil_eq, aCons_eq, aOne_eq, eTup_eq, eLst_eq, mLst_eq, mD_eq, eFrz_eq, frzM_d, frzM_l, eB_eq, eListScr_eq, ixOf_i, eIxO_eq, pNo_eq, pSome_eq, oInt_i, eSlice_eq, eBO_eq, e2R_eq, ttO_eq, eTupO_eq, eListO_eq, eIsi_eq, eListRg_eq, mListRg_eq, eMt_eq, seqOne_l, seqOne_t, mList_eq, itSeq_eq, itB_eq, seqOf_l, seqOf_t, avNil_eq, avD_eq, avS_eq, avMs_nil, avMs_cons, avM_d, avM_sl, jsOf_nil, jsOf_d, jsOf_s, putBack_nil, putBack_d, putBack_s, toRs_rt, callM_eq, eCall_eq, sThen_eq, sE_eq, sNx_eq, sBk_eq, sCt_eq, sNo_eq, sRet_eq, sRetN_eq, sDrop_eq, sIf_eq, sSet_eq, sAsg_eq, sAug_eq, sSetItem_eq, asI_i, setIt_eq, sFor_eq, runDef_eq, start0_eq, outs_nil, outs_cons, rep_succ, mvM_l, mvM_d, alNil_eq, alD_eq, alL_eq, alMs_nil, alMs_cons, alM_d, alM_l, toSc_rt, eCallL_eq, bEnum_l, bEnum_t, eSM_eq, isSq_l, isSq_t, cntD_l, cntD_t, mVar_eq, mvF_l, mvF_d, eVarF_eq, dAdd_ii, dAddI_ii, dSub_ii, dMul_ii, dDiv_ii, dMod_ii, dLt_ii, dLe_ii, dGt_ii, dGe_ii, dNeg_i, dEq_ii, dNe_ii, dEq_bb, dNe_bb, dIs_none, dIsNot_none, isNon_none, isNon_b, isNon_i, isNon_s, isNon_l, isNon_t, tru_b, tru_i, tru_n, tru_l, tru_t, bLen_l, bLen_t, bAbs_i, bInt_i, bInt_b, bSum_l, bSum_t, bAll_l, bAny_l, bTup_l, bTup_t, bList_l, bList_t, bSorted_l, bSorted_t, bMax_ii, bMin_ii, bRange1_i, bZip_l, bZip_t, bZip3_t, dIx_l, dIx_t, dSlice_l, dSlice_t, isI_1, isI_2, isI_3, isI_4, isI_5, isI_6, isI_7, isI_8, isI_9, isI_10, isI_11, isI_12, isI_13, isI_14, isI_15, isI_16, isI_17, isI_18, isI_19, isI_20, isI_21, isI_22, isI_23, isI_24, isI_25, isI_26, scalar_1, scalar_2, scalar_3, scalar_4, chkS_i, chkS_b, gN_eq, gT_eq, gTL_eq, gsN_nil, gsC_cons, wipeE_nil, wipeE_cons, restE_nil, restE_cons, keepD_n, keepD_d, keepD_l, keepD_x, tYesD_eq, eComp_eq, mComp_eq, compR_ok, compGo_nil, forGo_nil, lp_nx, lp_ct, lp_bk, lp_rt, atI_2, atI_3, atI_4, atI_5, atI_6, atI_7, atI_zero, atI_one, dPow_10_18, beq_self_eq_true, List.map_cons, List.map_nil, List.length_cons, List.length_nil, List.cons_append, List.nil_append, List.set_cons_succ, List.set_cons_zero, List.getElem?_cons_succ, List.getElem?_cons_zero, Option.join_some, Option.map_some, Option.bind_some, List.tail_cons, List.head?_cons, if_true, if_false, Bool.false_eq_true, Bool.true_eq_false, and_true, true_and, List.nodup_cons, List.not_mem_nil, not_false_eq_true, List.nodup_nil, Bool.not_true, Bool.not_false, ite_true, ite_false, Nat.reduceAdd, Nat.reduceSub, Nat.zero_add, List.replicate_zero, List.append_nil, List.mem_cons, Nat.reduceEqDiff, or_false, or_self, reduceIte, decide_true, decide_false, Nat.reduceLeDiff, Nat.reduceLT, Nat.le_refl, Strm.m, hc, hk, List.length_map, beq_self_eq_true, atI_nat, List.getElem?_map, List.getElem?_eq_getElem hk'] at e ⊢
      rw [e]
      rfl
    · obtain ⟨c', e⟩ := key (7 + k) (by omega)
      obtain ⟨d, s', e2, h⟩ := fin c' (k + 1) (some (.d (.int k))) (some (.d (.int c')))
      refine ⟨d, s', ?_, h⟩
      rw [← e2]
      simp only [Rs.bind_ok, Rs.bind_ex, Rs.bind_no, lift_some, lift_none, thn_nx, thn_rt, thn_bk, thn_ct, thn_ex, thn_no, to_ok, to_ex, to_no, fin_nx, fin_rt, optOut_s, optOut_n, optRs_s, optRs_n, asB_b, chB_b, eVar_eq, slotD_0, slotD_s, slotL_0, slotL_s, slotScr_0, slotScr_s, eC_eq, e2_eq, e1_eq, tb1_eq, tt1_eq, tNotD_eq, tAndD_eq, tOrD_eq, eNot_eq, eAnd_eq, eOr_eq, eIf_eq, eChain_eq, aNil_eq, aCons_eq, aOne_eq, eTup_eq, eLst_eq, mLst_eq, mD_eq, eFrz_eq, frzM_d, frzM_l, eB_eq, eListScr_eq, ixOf_i, eIxO_eq, pNo_eq, pSome_eq, oInt_i, eSlice_eq, eBO_eq, e2R_eq, ttO_eq, eTupO_eq, eListO_eq, eIsi_eq, eListRg_eq, mListRg_eq, eMt_eq, seqOne_l, seqOne_t, mList_eq, itSeq_eq, itB_eq, seqOf_l, seqOf_t, avNil_eq, avD_eq, avS_eq, avMs_nil, avMs_cons, avM_d, avM_sl, jsOf_nil, jsOf_d, jsOf_s, putBack_nil, putBack_d, putBack_s, toRs_rt, callM_eq, eCall_eq, sThen_eq, sE_eq, sNx_eq, sBk_eq, sCt_eq, sNo_eq, sRet_eq, sRetN_eq, sDrop_eq, sIf_eq, sSet_eq, sAsg_eq, sAug_eq, sSetItem_eq, asI_i, setIt_eq, sFor_eq, runDef_eq, start0_eq, outs_nil, outs_cons, rep_succ, mvM_l, mvM_d, alNil_eq, alD_eq, alL_eq, alMs_nil, alMs_cons, alM_d, alM_l, toSc_rt, eCallL_eq, bEnum_l, bEnum_t, eSM_eq, isSq_l, isSq_t, cntD_l, cntD_t, mVar_eq, mvF_l, mvF_d, eVarF_eq, dAdd_ii, dAddI_ii, dSub_ii, dMul_ii, dDiv_ii, dMod_ii, dLt_ii, dLe_ii, dGt_ii, dGe_ii, dNeg_i, dEq_ii, dNe_ii, dEq_bb, dNe_bb, dIs_none, dIsNot_none, isNon_none, isNon_b, isNon_i, isNon_s, isNon_l, isNon_t, tru_b, tru_i, tru_n, tru_l, tru_t, bLen_l, bLen_t, bAbs_i, bInt_i, bInt_b, bSum_l, bSum_t, bAll_l, bAny_l, bTup_l, bTup_t, bList_l, bList_t, bSorted_l, bSorted_t, bMax_ii, bMin_ii, bRange1_i, bZip_l, bZip_t, bZip3_t, dIx_l, dIx_t, dSlice_l, dSlice_t, isI_1, isI_2, isI_3, isI_4, isI_5, isI_6, isI_7, isI_8, isI_9, isI_10, isI_11, isI_12, isI_13, isI_14, isI_15, isI_16, isI_17, isI_18, isI_19, isI_20, isI_21, isI_22, isI_23, isI_24, isI_25, isI_26, scalar_1, scalar_2, scalar_3, scalar_4, chkS_i, chkS_b, gN_eq, gT_eq, gTL_eq, gsN_nil, gsC_cons, wipeE_nil, wipeE_cons, restE_nil, restE_cons, keepD_n, keepD_d, keepD_l, keepD_x, tYesD_eq, eComp_eq, mComp_eq, compR_ok, compGo_nil, forGo_nil, lp_nx, lp_ct, lp_bk, lp_rt, atI_2, atI_3, atI_4, atI_5, atI_6, atI_7, atI_zero, atI_one, dPow_10_18, beq_self_eq_true, List.map_cons, List.map_nil, List.length_cons, List.length_nil, List.cons_append, List.nil_append, List.set_cons_succ, List.set_cons_zero, List.getElem?_cons_succ, List.getElem?_cons_zero, Option.join_some, Option.map_some, Option.bind_some, List.tail_cons, List.head?_cons, if_true, if_false, Bool.false_eq_true, Bool.true_eq_false, and_true, true_and, List.nodup_cons, List.not_mem_nil, not_false_eq_true, List.nodup_nil, Bool.not_true, Bool.not_false, ite_true, ite_false, Nat.reduceAdd, Nat.reduceSub, Nat.zero_add, List.replicate_zero, List.append_nil, List.mem_cons, Nat.reduceEqDiff, or_false, or_self, reduceIte, decide_true, decide_false, Nat.reduceLeDiff, Nat.reduceLT, Nat.le_refl, Strm.m, hc, hk, List.length_map, beq_self_eq_true] at e ⊢
      rw [e]
      rfl
  · obtain ⟨d, s', e2, h⟩ := fin c k none none
    refine ⟨d, s', ?_, h⟩
    rw [← e2]
    have hc' : ((c : Int) == 0) = false := by simpa using hc
    simp only [Rs.bind_ok, Rs.bind_ex, Rs.bind_no, lift_some, lift_none, thn_nx, thn_rt, thn_bk, thn_ct, thn_ex, thn_no, to_ok, to_ex, to_no, fin_nx, fin_rt, optOut_s, optOut_n, optRs_s, optRs_n, asB_b, chB_b, eVar_eq, slotD_0, slotD_s, slotL_0, slotL_s, slotScr_0, slotScr_s, eC_eq, e2_eq, e1_eq, tb1_eq, tt1_eq, tNotD_eq, tAndD_eq, tOrD_eq, eNot_eq, eAnd_eq, eOr_eq, eIf_eq, eChain_eq, aNil_eq, aCons_eq, aOne_eq, eTup_eq, eLst_eq, mLst_eq, mD_eq, eFrz_eq, frzM_d, frzM_l, eB_eq, eListScr_eq, ixOf_i, eIxO_eq, pNo_eq, pSome_eq, oInt_i, eSlice_eq, eBO_eq, e2R_eq, ttO_eq, eTupO_eq, eListO_eq, eIsi_eq, eListRg_eq, mListRg_eq, eMt_eq, seqOne_l, seqOne_t, mList_eq, itSeq_eq, itB_eq, seqOf_l, seqOf_t, avNil_eq, avD_eq, avS_eq, avMs_nil, avMs_cons, avM_d, avM_sl, jsOf_nil, jsOf_d, jsOf_s, putBack_nil, putBack_d, putBack_s, toRs_rt, callM_eq, eCall_eq, sThen_eq, sE_eq, sNx_eq, sBk_eq, sCt_eq, sNo_eq, sRet_eq, sRetN_eq, sDrop_eq, sIf_eq, sSet_eq, sAsg_eq, sAug_eq, sSetItem_eq, asI_i, setIt_eq, sFor_eq, runDef_eq, start0_eq, outs_nil, outs_cons, rep_succ, mvM_l, mvM_d, alNil_eq, alD_eq, alL_eq, alMs_nil, alMs_cons, alM_d, alM_l, toSc_rt, eCallL_eq, bEnum_l, bEnum_t, eSM_eq, isSq_l, isSq_t, cntD_l, cntD_t, mVar_eq, mvF_l, mvF_d, eVarF_eq, dAdd_ii, dAddI_ii, dSub_ii, dMul_ii, dDiv_ii, dMod_ii, dLt_ii, dLe_ii, dGt_ii, dGe_ii, dNeg_i, dEq_ii, dNe_ii, dEq_bb, dNe_bb, dIs_none, dIsNot_none, isNon_none, isNon_b, isNon_i, isNon_s, isNon_l, isNon_t, tru_b, tru_i, tru_n, tru_l, tru_t, bLen_l, bLen_t, bAbs_i, bInt_i, bInt_b, bSum_l, bSum_t, bAll_l, bAny_l, bTup_l, bTup_t, bList_l, bList_t, bSorted_l, bSorted_t, bMax_ii, bMin_ii, bRange1_i, bZip_l, bZip_t, bZip3_t, dIx_l, dIx_t, dSlice_l, dSlice_t, isI_1, isI_2, isI_3, isI_4, isI_5, isI_6, isI_7, isI_8, isI_9, isI_10, isI_11, isI_12, isI_13, isI_14, isI_15, isI_16, isI_17, isI_18, isI_19, isI_20, isI_21, isI_22, isI_23, isI_24, isI_25, isI_26, scalar_1, scalar_2, scalar_3, scalar_4, chkS_i, chkS_b, gN_eq, gT_eq, gTL_eq, gsN_nil, gsC_cons, wipeE_nil, wipeE_cons, restE_nil, restE_cons, keepD_n, keepD_d, keepD_l, keepD_x, tYesD_eq, eComp_eq, mComp_eq, compR_ok, compGo_nil, forGo_nil, lp_nx, lp_ct, lp_bk, lp_rt, atI_2, atI_3, atI_4, atI_5, atI_6, atI_7, atI_zero, atI_one, dPow_10_18, beq_self_eq_true, List.map_cons, List.map_nil, List.length_cons, List.length_nil, List.cons_append, List.nil_append, List.set_cons_succ, List.set_cons_zero, List.getElem?_cons_succ, List.getElem?_cons_zero, Option.join_some, Option.map_some, Option.bind_some, List.tail_cons, List.head?_cons, if_true, if_false, Bool.false_eq_true, Bool.true_eq_false, and_true, true_and, List.nodup_cons, List.not_mem_nil, not_false_eq_true, List.nodup_nil, Bool.not_true, Bool.not_false, ite_true, ite_false, Nat.reduceAdd, Nat.reduceSub, Nat.zero_add, List.replicate_zero, List.append_nil, List.mem_cons, Nat.reduceEqDiff, or_false, or_self, reduceIte, decide_true, decide_false, Nat.reduceLeDiff, Nat.reduceLT, Nat.le_refl, Strm.m, hc']
end DCom


namespace DCom
open PySem DL
/-! judges of forms -/
theorem is_whole_e (x : PyData) : f_is_whole [.d x] = .rt (.d (.bool (whole x))) [none] := by
  cases x <;> rfl
theorem isTup (x : PyData) : isI .tup x = match x with | .tuple _ => true | _ => false := by cases x <;> rfl
theorem is_between_e (x : PyData) (a b : Int) : f_is_between [.d x, .d (.int a), .d (.int b)] = .rt (.d (.bool (btw a b x))) [none, none, none] := by
  simp only [f_is_between, b_is_between, Rs.bind_ok, Rs.bind_ex, Rs.bind_no, lift_some, lift_none, thn_nx, thn_rt, thn_bk, thn_ct, thn_ex, thn_no, to_ok, to_ex, to_no, fin_nx, fin_rt, optOut_s, optOut_n, optRs_s, optRs_n, asB_b, chB_b, eVar_eq, slotD_0, slotD_s, slotL_0, slotL_s, slotScr_0, slotScr_s, eC_eq, e2_eq, e1_eq, tb1_eq, tt1_eq, tNotD_eq, tAndD_eq, tOrD_eq, eNot_eq, eAnd_eq, eOr_eq, eIf_eq, eChain_eq, aNil_eq, aCons_eq, aOne_eq, eTup_eq, eLst_eq, mLst_eq, mD_eq, eFrz_eq, frzM_d, frzM_l, eB_eq, eListScr_eq, ixOf_i, eIxO_eq, pNo_eq, pSome_eq, oInt_i, eSlice_eq, eBO_eq, e2R_eq, ttO_eq, eTupO_eq, eListO_eq, eIsi_eq, eListRg_eq, mListRg_eq, eMt_eq, seqOne_l, seqOne_t, mList_eq, itSeq_eq, itB_eq, seqOf_l, seqOf_t, avNil_eq, avD_eq, avS_eq, avMs_nil, avMs_cons, avM_d, avM_sl, jsOf_nil, jsOf_d, jsOf_s, putBack_nil, putBack_d, putBack_s, toRs_rt, callM_eq, eCall_eq, sThen_eq, sE_eq, sNx_eq, sBk_eq, sCt_eq, sNo_eq, sRet_eq, sRetN_eq, sDrop_eq, sIf_eq, sSet_eq, sAsg_eq, sAug_eq, sSetItem_eq, asI_i, setIt_eq, sFor_eq, runDef_eq, start0_eq, outs_nil, outs_cons, rep_succ, mvM_l, mvM_d, alNil_eq, alD_eq, alL_eq, alMs_nil, alMs_cons, alM_d, alM_l, toSc_rt, eCallL_eq, bEnum_l, bEnum_t, eSM_eq, isSq_l, isSq_t, cntD_l, cntD_t, mVar_eq, mvF_l, mvF_d, eVarF_eq, dAdd_ii, dAddI_ii, dSub_ii, dMul_ii, dDiv_ii, dMod_ii, dLt_ii, dLe_ii, dGt_ii, dGe_ii, dNeg_i, dEq_ii, dNe_ii, dEq_bb, dNe_bb, dIs_none, dIsNot_none, isNon_none, isNon_b, isNon_i, isNon_s, isNon_l, isNon_t, tru_b, tru_i, tru_n, tru_l, tru_t, bLen_l, bLen_t, bAbs_i, bInt_i, bInt_b, bSum_l, bSum_t, bAll_l, bAny_l, bTup_l, bTup_t, bList_l, bList_t, bSorted_l, bSorted_t, bMax_ii, bMin_ii, bRange1_i, bZip_l, bZip_t, bZip3_t, dIx_l, dIx_t, dSlice_l, dSlice_t, isI_1, isI_2, isI_3, isI_4, isI_5, isI_6, isI_7, isI_8, isI_9, isI_10, isI_11, isI_12, isI_13, isI_14, isI_15, isI_16, isI_17, isI_18, isI_19, isI_20, isI_21, isI_22, isI_23, isI_24, isI_25, isI_26, scalar_1, scalar_2, scalar_3, scalar_4, chkS_i, chkS_b, gN_eq, gT_eq, gTL_eq, gsN_nil, gsC_cons, wipeE_nil, wipeE_cons, restE_nil, restE_cons, keepD_n, keepD_d, keepD_l, keepD_x, tYesD_eq, eComp_eq, mComp_eq, compR_ok, compGo_nil, forGo_nil, lp_nx, lp_ct, lp_bk, lp_rt, atI_2, atI_3, atI_4, atI_5, atI_6, atI_7, atI_zero, atI_one, dPow_10_18, beq_self_eq_true, List.map_cons, List.map_nil, List.length_cons, List.length_nil, List.cons_append, List.nil_append, List.set_cons_succ, List.set_cons_zero, List.getElem?_cons_succ, List.getElem?_cons_zero, Option.join_some, Option.map_some, Option.bind_some, List.tail_cons, List.head?_cons, if_true, if_false, Bool.false_eq_true, Bool.true_eq_false, and_true, true_and, List.nodup_cons, List.not_mem_nil, not_false_eq_true, List.nodup_nil, Bool.not_true, Bool.not_false, ite_true, ite_false, Nat.reduceAdd, Nat.reduceSub, Nat.zero_add, List.replicate_zero, List.append_nil, List.mem_cons, Nat.reduceEqDiff, or_false, or_self, reduceIte, decide_true, decide_false, Nat.reduceLeDiff, Nat.reduceLT, Nat.le_refl, is_whole_e]
  cases x with
  | int i =>
    simp only [Rs.bind_ok, Rs.bind_ex, Rs.bind_no, lift_some, lift_none, thn_nx, thn_rt, thn_bk, thn_ct, thn_ex, thn_no, to_ok, to_ex, to_no, fin_nx, fin_rt, optOut_s, optOut_n, optRs_s, optRs_n, asB_b, chB_b, eVar_eq, slotD_0, slotD_s, slotL_0, slotL_s, slotScr_0, slotScr_s, eC_eq, e2_eq, e1_eq, tb1_eq, tt1_eq, tNotD_eq, tAndD_eq, tOrD_eq, eNot_eq, eAnd_eq, eOr_eq, eIf_eq, eChain_eq, aNil_eq, aCons_eq, aOne_eq, eTup_eq, eLst_eq, mLst_eq, mD_eq, eFrz_eq, frzM_d, frzM_l, eB_eq, eListScr_eq, ixOf_i, eIxO_eq, pNo_eq, pSome_eq, oInt_i, eSlice_eq, eBO_eq, e2R_eq, ttO_eq, eTupO_eq, eListO_eq, eIsi_eq, eListRg_eq, mListRg_eq, eMt_eq, seqOne_l, seqOne_t, mList_eq, itSeq_eq, itB_eq, seqOf_l, seqOf_t, avNil_eq, avD_eq, avS_eq, avMs_nil, avMs_cons, avM_d, avM_sl, jsOf_nil, jsOf_d, jsOf_s, putBack_nil, putBack_d, putBack_s, toRs_rt, callM_eq, eCall_eq, sThen_eq, sE_eq, sNx_eq, sBk_eq, sCt_eq, sNo_eq, sRet_eq, sRetN_eq, sDrop_eq, sIf_eq, sSet_eq, sAsg_eq, sAug_eq, sSetItem_eq, asI_i, setIt_eq, sFor_eq, runDef_eq, start0_eq, outs_nil, outs_cons, rep_succ, mvM_l, mvM_d, alNil_eq, alD_eq, alL_eq, alMs_nil, alMs_cons, alM_d, alM_l, toSc_rt, eCallL_eq, bEnum_l, bEnum_t, eSM_eq, isSq_l, isSq_t, cntD_l, cntD_t, mVar_eq, mvF_l, mvF_d, eVarF_eq, dAdd_ii, dAddI_ii, dSub_ii, dMul_ii, dDiv_ii, dMod_ii, dLt_ii, dLe_ii, dGt_ii, dGe_ii, dNeg_i, dEq_ii, dNe_ii, dEq_bb, dNe_bb, dIs_none, dIsNot_none, isNon_none, isNon_b, isNon_i, isNon_s, isNon_l, isNon_t, tru_b, tru_i, tru_n, tru_l, tru_t, bLen_l, bLen_t, bAbs_i, bInt_i, bInt_b, bSum_l, bSum_t, bAll_l, bAny_l, bTup_l, bTup_t, bList_l, bList_t, bSorted_l, bSorted_t, bMax_ii, bMin_ii, bRange1_i, bZip_l, bZip_t, bZip3_t, dIx_l, dIx_t, dSlice_l, dSlice_t, isI_1, isI_2, isI_3, isI_4, isI_5, isI_6, isI_7, isI_8, isI_9, isI_10, isI_11, isI_12, isI_13, isI_14, isI_15, isI_16, isI_17, isI_18, isI_19, isI_20, isI_21, isI_22, isI_23, isI_24, isI_25, isI_26, scalar_1, scalar_2, scalar_3, scalar_4, chkS_i, chkS_b, gN_eq, gT_eq, gTL_eq, gsN_nil, gsC_cons, wipeE_nil, wipeE_cons, restE_nil, restE_cons, keepD_n, keepD_d, keepD_l, keepD_x, tYesD_eq, eComp_eq, mComp_eq, compR_ok, compGo_nil, forGo_nil, lp_nx, lp_ct, lp_bk, lp_rt, atI_2, atI_3, atI_4, atI_5, atI_6, atI_7, atI_zero, atI_one, dPow_10_18, beq_self_eq_true, List.map_cons, List.map_nil, List.length_cons, List.length_nil, List.cons_append, List.nil_append, List.set_cons_succ, List.set_cons_zero, List.getElem?_cons_succ, List.getElem?_cons_zero, Option.join_some, Option.map_some, Option.bind_some, List.tail_cons, List.head?_cons, if_true, if_false, Bool.false_eq_true, Bool.true_eq_false, and_true, true_and, List.nodup_cons, List.not_mem_nil, not_false_eq_true, List.nodup_nil, Bool.not_true, Bool.not_false, ite_true, ite_false, Nat.reduceAdd, Nat.reduceSub, Nat.zero_add, List.replicate_zero, List.append_nil, List.mem_cons, Nat.reduceEqDiff, or_false, or_self, reduceIte, decide_true, decide_false, Nat.reduceLeDiff, Nat.reduceLT, Nat.le_refl, whole_i, btw]
    by_cases h : a ≤ i <;> simp [h]
  | _ => simp [whole, btw]
def IsAll (x : PyData) (v n : Int) : Prop := ∃ ns : List Int, x = .tuple (ns.map .int) ∧ (ns.length : Int) = v ∧ (∀ i ∈ ns, 0 ≤ i) ∧ ns.sum = n
def IsAsg (x : PyData) (v n : Int) : Prop := ∃ ns : List Int, x = .tuple (ns.map .int) ∧ (ns.length : Int) = n ∧ ∀ i ∈ ns, 0 ≤ i ∧ i < v
def IsOrd (x : PyData) (n : Int) : Prop := ∃ ns : List Int, x = .tuple (ns.map .int) ∧ (ns.length : Int) = n ∧ ns.Perm ((List.range ns.length).map fun i : Nat => (i : Int))
def shr : PyData → Bool
  | .int i => decide (0 ≤ i)
  | _ => false
theorem shr_e (x : PyData) (e : DL.Env) (te : DL.Env → Rs PyData) (h : te e = .ok x e) : (if whole x = true then Rs.bind (te e) fun y e1 => lift (dGe y (.int 0)) e1 else .ok (.bool false) e) = .ok (.bool (shr x)) e := by
  rw [h]
  cases x <;> simp [whole, shr]
open Classical in
theorem is_allocation_e (x : PyData) (v n : Int) : f_is_allocation [.d x, .d (.int v), .d (.int n)] = .rt (.d (.bool (decide (IsAll x v n)))) [none, none, none] := by
  cases x with
  | tuple xs =>
    have hc : compGo (gN 3) tYesD (eAnd (eFrz (eCall 1 f_is_whole (avD (eVar 3) (avNil)))) (e2 dGe (eVar 3) (eC (.int 0)))) [3] xs [] [some (.d (.tuple xs)), some (.d (.int v)), some (.d (.int n)), none] = .ok ([] ++ xs.map fun x => .bool (shr x)) [some (.d (.tuple xs)), some (.d (.int v)), some (.d (.int n)), none] := by
      refine compGo_id (fun x => .bool (shr x)) xs [] fun x _ => ⟨[some (.d (.tuple xs)), some (.d (.int v)), some (.d (.int n)), some (.d x)], ?_, ?_, ?_⟩
      · simp only [Rs.bind_ok, Rs.bind_ex, Rs.bind_no, lift_some, lift_none, thn_nx, thn_rt, thn_bk, thn_ct, thn_ex, thn_no, to_ok, to_ex, to_no, fin_nx, fin_rt, optOut_s, optOut_n, optRs_s, optRs_n, asB_b, chB_b, eVar_eq, slotD_0, slotD_s, slotL_0, slotL_s, slotScr_0, slotScr_s, eC_eq, e2_eq, e1_eq, tb1_eq, tt1_eq, tNotD_eq, tAndD_eq, tOrD_eq, eNot_eq, eAnd_eq, eOr_eq, eIf_eq, eChain_eq, aNil_eq, aCons_eq, aOne_eq, eTup_eq, eLst_eq, mLst_eq, mD_eq, eFrz_eq, frzM_d, frzM_l, eB_eq, eListScr_eq, ixOf_i, eIxO_eq, pNo_eq, pSome_eq, oInt_i, eSlice_eq, eBO_eq, e2R_eq, ttO_eq, eTupO_eq, eListO_eq, eIsi_eq, eListRg_eq, mListRg_eq, eMt_eq, seqOne_l, seqOne_t, mList_eq, itSeq_eq, itB_eq, seqOf_l, seqOf_t, avNil_eq, avD_eq, avS_eq, avMs_nil, avMs_cons, avM_d, avM_sl, jsOf_nil, jsOf_d, jsOf_s, putBack_nil, putBack_d, putBack_s, toRs_rt, callM_eq, eCall_eq, sThen_eq, sE_eq, sNx_eq, sBk_eq, sCt_eq, sNo_eq, sRet_eq, sRetN_eq, sDrop_eq, sIf_eq, sSet_eq, sAsg_eq, sAug_eq, sSetItem_eq, asI_i, setIt_eq, sFor_eq, runDef_eq, start0_eq, outs_nil, outs_cons, rep_succ, mvM_l, mvM_d, alNil_eq, alD_eq, alL_eq, alMs_nil, alMs_cons, alM_d, alM_l, toSc_rt, eCallL_eq, bEnum_l, bEnum_t, eSM_eq, isSq_l, isSq_t, cntD_l, cntD_t, mVar_eq, mvF_l, mvF_d, eVarF_eq, dAdd_ii, dAddI_ii, dSub_ii, dMul_ii, dDiv_ii, dMod_ii, dLt_ii, dLe_ii, dGt_ii, dGe_ii, dNeg_i, dEq_ii, dNe_ii, dEq_bb, dNe_bb, dIs_none, dIsNot_none, isNon_none, isNon_b, isNon_i, isNon_s, isNon_l, isNon_t, tru_b, tru_i, tru_n, tru_l, tru_t, bLen_l, bLen_t, bAbs_i, bInt_i, bInt_b, bSum_l, bSum_t, bAll_l, bAny_l, bTup_l, bTup_t, bList_l, bList_t, bSorted_l, bSorted_t, bMax_ii, bMin_ii, bRange1_i, bZip_l, bZip_t, bZip3_t, dIx_l, dIx_t, dSlice_l, dSlice_t, isI_1, isI_2, isI_3, isI_4, isI_5, isI_6, isI_7, isI_8, isI_9, isI_10, isI_11, isI_12, isI_13, isI_14, isI_15, isI_16, isI_17, isI_18, isI_19, isI_20, isI_21, isI_22, isI_23, isI_24, isI_25, isI_26, scalar_1, scalar_2, scalar_3, scalar_4, chkS_i, chkS_b, gN_eq, gT_eq, gTL_eq, gsN_nil, gsC_cons, wipeE_nil, wipeE_cons, restE_nil, restE_cons, keepD_n, keepD_d, keepD_l, keepD_x, tYesD_eq, eComp_eq, mComp_eq, compR_ok, compGo_nil, forGo_nil, lp_nx, lp_ct, lp_bk, lp_rt, atI_2, atI_3, atI_4, atI_5, atI_6, atI_7, atI_zero, atI_one, dPow_10_18, beq_self_eq_true, List.map_cons, List.map_nil, List.length_cons, List.length_nil, List.cons_append, List.nil_append, List.set_cons_succ, List.set_cons_zero, List.getElem?_cons_succ, List.getElem?_cons_zero, Option.join_some, Option.map_some, Option.bind_some, List.tail_cons, List.head?_cons, if_true, if_false, Bool.false_eq_true, Bool.true_eq_false, and_true, true_and, List.nodup_cons, List.not_mem_nil, not_false_eq_true, List.nodup_nil, Bool.not_true, Bool.not_false, ite_true, ite_false, Nat.reduceAdd, Nat.reduceSub, Nat.zero_add, List.replicate_zero, List.append_nil, List.mem_cons, Nat.reduceEqDiff, or_false, or_self, reduceIte, decide_true, decide_false, Nat.reduceLeDiff, Nat.reduceLT, Nat.le_refl]
      · simp only [Rs.bind_ok, Rs.bind_ex, Rs.bind_no, lift_some, lift_none, thn_nx, thn_rt, thn_bk, thn_ct, thn_ex, thn_no, to_ok, to_ex, to_no, fin_nx, fin_rt, optOut_s, optOut_n, optRs_s, optRs_n, asB_b, chB_b, eVar_eq, slotD_0, slotD_s, slotL_0, slotL_s, slotScr_0, slotScr_s, eC_eq, e2_eq, e1_eq, tb1_eq, tt1_eq, tNotD_eq, tAndD_eq, tOrD_eq, eNot_eq, eAnd_eq, eOr_eq, eIf_eq, eChain_eq, aNil_eq, aCons_eq, aOne_eq, eTup_eq, eLst_eq, mLst_eq, mD_eq, eFrz_eq, frzM_d, frzM_l, eB_eq, eListScr_eq, ixOf_i, eIxO_eq, pNo_eq, pSome_eq, oInt_i, eSlice_eq, eBO_eq, e2R_eq, ttO_eq, eTupO_eq, eListO_eq, eIsi_eq, eListRg_eq, mListRg_eq, eMt_eq, seqOne_l, seqOne_t, mList_eq, itSeq_eq, itB_eq, seqOf_l, seqOf_t, avNil_eq, avD_eq, avS_eq, avMs_nil, avMs_cons, avM_d, avM_sl, jsOf_nil, jsOf_d, jsOf_s, putBack_nil, putBack_d, putBack_s, toRs_rt, callM_eq, eCall_eq, sThen_eq, sE_eq, sNx_eq, sBk_eq, sCt_eq, sNo_eq, sRet_eq, sRetN_eq, sDrop_eq, sIf_eq, sSet_eq, sAsg_eq, sAug_eq, sSetItem_eq, asI_i, setIt_eq, sFor_eq, runDef_eq, start0_eq, outs_nil, outs_cons, rep_succ, mvM_l, mvM_d, alNil_eq, alD_eq, alL_eq, alMs_nil, alMs_cons, alM_d, alM_l, toSc_rt, eCallL_eq, bEnum_l, bEnum_t, eSM_eq, isSq_l, isSq_t, cntD_l, cntD_t, mVar_eq, mvF_l, mvF_d, eVarF_eq, dAdd_ii, dAddI_ii, dSub_ii, dMul_ii, dDiv_ii, dMod_ii, dLt_ii, dLe_ii, dGt_ii, dGe_ii, dNeg_i, dEq_ii, dNe_ii, dEq_bb, dNe_bb, dIs_none, dIsNot_none, isNon_none, isNon_b, isNon_i, isNon_s, isNon_l, isNon_t, tru_b, tru_i, tru_n, tru_l, tru_t, bLen_l, bLen_t, bAbs_i, bInt_i, bInt_b, bSum_l, bSum_t, bAll_l, bAny_l, bTup_l, bTup_t, bList_l, bList_t, bSorted_l, bSorted_t, bMax_ii, bMin_ii, bRange1_i, bZip_l, bZip_t, bZip3_t, dIx_l, dIx_t, dSlice_l, dSlice_t, isI_1, isI_2, isI_3, isI_4, isI_5, isI_6, isI_7, isI_8, isI_9, isI_10, isI_11, isI_12, isI_13, isI_14, isI_15, isI_16, isI_17, isI_18, isI_19, isI_20, isI_21, isI_22, isI_23, isI_24, isI_25, isI_26, scalar_1, scalar_2, scalar_3, scalar_4, chkS_i, chkS_b, gN_eq, gT_eq, gTL_eq, gsN_nil, gsC_cons, wipeE_nil, wipeE_cons, restE_nil, restE_cons, keepD_n, keepD_d, keepD_l, keepD_x, tYesD_eq, eComp_eq, mComp_eq, compR_ok, compGo_nil, forGo_nil, lp_nx, lp_ct, lp_bk, lp_rt, atI_2, atI_3, atI_4, atI_5, atI_6, atI_7, atI_zero, atI_one, dPow_10_18, beq_self_eq_true, List.map_cons, List.map_nil, List.length_cons, List.length_nil, List.cons_append, List.nil_append, List.set_cons_succ, List.set_cons_zero, List.getElem?_cons_succ, List.getElem?_cons_zero, Option.join_some, Option.map_some, Option.bind_some, List.tail_cons, List.head?_cons, if_true, if_false, Bool.false_eq_true, Bool.true_eq_false, and_true, true_and, List.nodup_cons, List.not_mem_nil, not_false_eq_true, List.nodup_nil, Bool.not_true, Bool.not_false, ite_true, ite_false, Nat.reduceAdd, Nat.reduceSub, Nat.zero_add, List.replicate_zero, List.append_nil, List.mem_cons, Nat.reduceEqDiff, or_false, or_self, reduceIte, decide_true, decide_false, Nat.reduceLeDiff, Nat.reduceLT, Nat.le_refl, is_whole_e]
        cases x <;> simp [whole, shr]
      · simp only [Rs.bind_ok, Rs.bind_ex, Rs.bind_no, lift_some, lift_none, thn_nx, thn_rt, thn_bk, thn_ct, thn_ex, thn_no, to_ok, to_ex, to_no, fin_nx, fin_rt, optOut_s, optOut_n, optRs_s, optRs_n, asB_b, chB_b, eVar_eq, slotD_0, slotD_s, slotL_0, slotL_s, slotScr_0, slotScr_s, eC_eq, e2_eq, e1_eq, tb1_eq, tt1_eq, tNotD_eq, tAndD_eq, tOrD_eq, eNot_eq, eAnd_eq, eOr_eq, eIf_eq, eChain_eq, aNil_eq, aCons_eq, aOne_eq, eTup_eq, eLst_eq, mLst_eq, mD_eq, eFrz_eq, frzM_d, frzM_l, eB_eq, eListScr_eq, ixOf_i, eIxO_eq, pNo_eq, pSome_eq, oInt_i, eSlice_eq, eBO_eq, e2R_eq, ttO_eq, eTupO_eq, eListO_eq, eIsi_eq, eListRg_eq, mListRg_eq, eMt_eq, seqOne_l, seqOne_t, mList_eq, itSeq_eq, itB_eq, seqOf_l, seqOf_t, avNil_eq, avD_eq, avS_eq, avMs_nil, avMs_cons, avM_d, avM_sl, jsOf_nil, jsOf_d, jsOf_s, putBack_nil, putBack_d, putBack_s, toRs_rt, callM_eq, eCall_eq, sThen_eq, sE_eq, sNx_eq, sBk_eq, sCt_eq, sNo_eq, sRet_eq, sRetN_eq, sDrop_eq, sIf_eq, sSet_eq, sAsg_eq, sAug_eq, sSetItem_eq, asI_i, setIt_eq, sFor_eq, runDef_eq, start0_eq, outs_nil, outs_cons, rep_succ, mvM_l, mvM_d, alNil_eq, alD_eq, alL_eq, alMs_nil, alMs_cons, alM_d, alM_l, toSc_rt, eCallL_eq, bEnum_l, bEnum_t, eSM_eq, isSq_l, isSq_t, cntD_l, cntD_t, mVar_eq, mvF_l, mvF_d, eVarF_eq, dAdd_ii, dAddI_ii, dSub_ii, dMul_ii, dDiv_ii, dMod_ii, dLt_ii, dLe_ii, dGt_ii, dGe_ii, dNeg_i, dEq_ii, dNe_ii, dEq_bb, dNe_bb, dIs_none, dIsNot_none, isNon_none, isNon_b, isNon_i, isNon_s, isNon_l, isNon_t, tru_b, tru_i, tru_n, tru_l, tru_t, bLen_l, bLen_t, bAbs_i, bInt_i, bInt_b, bSum_l, bSum_t, bAll_l, bAny_l, bTup_l, bTup_t, bList_l, bList_t, bSorted_l, bSorted_t, bMax_ii, bMin_ii, bRange1_i, bZip_l, bZip_t, bZip3_t, dIx_l, dIx_t, dSlice_l, dSlice_t, isI_1, isI_2, isI_3, isI_4, isI_5, isI_6, isI_7, isI_8, isI_9, isI_10, isI_11, isI_12, isI_13, isI_14, isI_15, isI_16, isI_17, isI_18, isI_19, isI_20, isI_21, isI_22, isI_23, isI_24, isI_25, isI_26, scalar_1, scalar_2, scalar_3, scalar_4, chkS_i, chkS_b, gN_eq, gT_eq, gTL_eq, gsN_nil, gsC_cons, wipeE_nil, wipeE_cons, restE_nil, restE_cons, keepD_n, keepD_d, keepD_l, keepD_x, tYesD_eq, eComp_eq, mComp_eq, compR_ok, compGo_nil, forGo_nil, lp_nx, lp_ct, lp_bk, lp_rt, atI_2, atI_3, atI_4, atI_5, atI_6, atI_7, atI_zero, atI_one, dPow_10_18, beq_self_eq_true, List.map_cons, List.map_nil, List.length_cons, List.length_nil, List.cons_append, List.nil_append, List.set_cons_succ, List.set_cons_zero, List.getElem?_cons_succ, List.getElem?_cons_zero, Option.join_some, Option.map_some, Option.bind_some, List.tail_cons, List.head?_cons, if_true, if_false, Bool.false_eq_true, Bool.true_eq_false, and_true, true_and, List.nodup_cons, List.not_mem_nil, not_false_eq_true, List.nodup_nil, Bool.not_true, Bool.not_false, ite_true, ite_false, Nat.reduceAdd, Nat.reduceSub, Nat.zero_add, List.replicate_zero, List.append_nil, List.mem_cons, Nat.reduceEqDiff, or_false, or_self, reduceIte, decide_true, decide_false, Nat.reduceLeDiff, Nat.reduceLT, Nat.le_refl]
    have hm : (xs.map fun x => PyData.bool (shr x)) = (xs.map shr).map .bool := by rw [List.map_map]; rfl
    by_cases hl : (xs.length : Int) = v
    · have hl' : (!((xs.length : Int) == v)) = false := by simp [hl]
      simp only [f_is_allocation, b_is_allocation, Rs.bind_ok, Rs.bind_ex, Rs.bind_no, lift_some, lift_none, thn_nx, thn_rt, thn_bk, thn_ct, thn_ex, thn_no, to_ok, to_ex, to_no, fin_nx, fin_rt, optOut_s, optOut_n, optRs_s, optRs_n, asB_b, chB_b, eVar_eq, slotD_0, slotD_s, slotL_0, slotL_s, slotScr_0, slotScr_s, eC_eq, e2_eq, e1_eq, tb1_eq, tt1_eq, tNotD_eq, tAndD_eq, tOrD_eq, eNot_eq, eAnd_eq, eOr_eq, eIf_eq, eChain_eq, aNil_eq, aCons_eq, aOne_eq, eTup_eq, eLst_eq, mLst_eq, mD_eq, eFrz_eq, frzM_d, frzM_l, eB_eq, eListScr_eq, ixOf_i, eIxO_eq, pNo_eq, pSome_eq, oInt_i, eSlice_eq, eBO_eq, e2R_eq, ttO_eq, eTupO_eq, eListO_eq, eIsi_eq, eListRg_eq, mListRg_eq, eMt_eq, seqOne_l, seqOne_t, mList_eq, itSeq_eq, itB_eq, seqOf_l, seqOf_t, avNil_eq, avD_eq, avS_eq, avMs_nil, avMs_cons, avM_d, avM_sl, jsOf_nil, jsOf_d, jsOf_s, putBack_nil, putBack_d, putBack_s, toRs_rt, callM_eq, eCall_eq, sThen_eq, sE_eq, sNx_eq, sBk_eq, sCt_eq, sNo_eq, sRet_eq, sRetN_eq, sDrop_eq, sIf_eq, sSet_eq, sAsg_eq, sAug_eq, sSetItem_eq, asI_i, setIt_eq, sFor_eq, runDef_eq, start0_eq, outs_nil, outs_cons, rep_succ, mvM_l, mvM_d, alNil_eq, alD_eq, alL_eq, alMs_nil, alMs_cons, alM_d, alM_l, toSc_rt, eCallL_eq, bEnum_l, bEnum_t, eSM_eq, isSq_l, isSq_t, cntD_l, cntD_t, mVar_eq, mvF_l, mvF_d, eVarF_eq, dAdd_ii, dAddI_ii, dSub_ii, dMul_ii, dDiv_ii, dMod_ii, dLt_ii, dLe_ii, dGt_ii, dGe_ii, dNeg_i, dEq_ii, dNe_ii, dEq_bb, dNe_bb, dIs_none, dIsNot_none, isNon_none, isNon_b, isNon_i, isNon_s, isNon_l, isNon_t, tru_b, tru_i, tru_n, tru_l, tru_t, bLen_l, bLen_t, bAbs_i, bInt_i, bInt_b, bSum_l, bSum_t, bAll_l, bAny_l, bTup_l, bTup_t, bList_l, bList_t, bSorted_l, bSorted_t, bMax_ii, bMin_ii, bRange1_i, bZip_l, bZip_t, bZip3_t, dIx_l, dIx_t, dSlice_l, dSlice_t, isI_1, isI_2, isI_3, isI_4, isI_5, isI_6, isI_7, isI_8, isI_9, isI_10, isI_11, isI_12, isI_13, isI_14, isI_15, isI_16, isI_17, isI_18, isI_19, isI_20, isI_21, isI_22, isI_23, isI_24, isI_25, isI_26, scalar_1, scalar_2, scalar_3, scalar_4, chkS_i, chkS_b, gN_eq, gT_eq, gTL_eq, gsN_nil, gsC_cons, wipeE_nil, wipeE_cons, restE_nil, restE_cons, keepD_n, keepD_d, keepD_l, keepD_x, tYesD_eq, eComp_eq, mComp_eq, compR_ok, compGo_nil, forGo_nil, lp_nx, lp_ct, lp_bk, lp_rt, atI_2, atI_3, atI_4, atI_5, atI_6, atI_7, atI_zero, atI_one, dPow_10_18, beq_self_eq_true, List.map_cons, List.map_nil, List.length_cons, List.length_nil, List.cons_append, List.nil_append, List.set_cons_succ, List.set_cons_zero, List.getElem?_cons_succ, List.getElem?_cons_zero, Option.join_some, Option.map_some, Option.bind_some, List.tail_cons, List.head?_cons, if_true, if_false, Bool.false_eq_true, Bool.true_eq_false, and_true, true_and, List.nodup_cons, List.not_mem_nil, not_false_eq_true, List.nodup_nil, Bool.not_true, Bool.not_false, ite_true, ite_false, Nat.reduceAdd, Nat.reduceSub, Nat.zero_add, List.replicate_zero, List.append_nil, List.mem_cons, Nat.reduceEqDiff, or_false, or_self, reduceIte, decide_true, decide_false, Nat.reduceLeDiff, Nat.reduceLT, Nat.le_refl, hl', hc, hm, thn_ite, to_ite, fin_ite]
      by_cases ha : ((xs.map shr).all id) = true
      · have hw : ∀ x ∈ xs, whole x = true := fun x hx => by
          have := List.all_eq_true.1 ha (shr x) (List.mem_map_of_mem hx)
          cases x <;> first | rfl | cases this
        obtain ⟨ns, rfl⟩ := ints_of_whole xs hw
        have h0 : ∀ i ∈ ns, 0 ≤ i := fun i hi => by
          have := List.all_eq_true.1 ha (shr (.int i)) (List.mem_map_of_mem (List.mem_map_of_mem hi))
          simpa [shr] using this
        have key : (ns.sum == n) = decide (IsAll (.tuple (ns.map .int)) v n) := by
          apply Bool.eq_iff_iff.2
          rw [decide_eq_true_eq, beq_iff_eq]
          refine ⟨fun h => ⟨ns, rfl, by simpa using hl, h0, h⟩, fun ⟨ms, h1, _, _, h4⟩ => ?_⟩
          have := map_int_inj (PyData.tuple.inj h1)
          rw [this]; exact h4
        simp only [ha, Rs.bind_ok, Rs.bind_ex, Rs.bind_no, lift_some, lift_none, thn_nx, thn_rt, thn_bk, thn_ct, thn_ex, thn_no, to_ok, to_ex, to_no, fin_nx, fin_rt, optOut_s, optOut_n, optRs_s, optRs_n, asB_b, chB_b, eVar_eq, slotD_0, slotD_s, slotL_0, slotL_s, slotScr_0, slotScr_s, eC_eq, e2_eq, e1_eq, tb1_eq, tt1_eq, tNotD_eq, tAndD_eq, tOrD_eq, eNot_eq, eAnd_eq, eOr_eq, eIf_eq, eChain_eq, aNil_eq, aCons_eq, aOne_eq, eTup_eq, eLst_eq, mLst_eq, mD_eq, eFrz_eq, frzM_d, frzM_l, eB_eq, eListScr_eq, ixOf_i, eIxO_eq, pNo_eq, pSome_eq, oInt_i, eSlice_eq, eBO_eq, e2R_eq, ttO_eq, eTupO_eq, eListO_eq, eIsi_eq, eListRg_eq, mListRg_eq, eMt_eq, seqOne_l, seqOne_t, mList_eq, itSeq_eq, itB_eq, seqOf_l, seqOf_t, avNil_eq, avD_eq, avS_eq, avMs_nil, avMs_cons, avM_d, avM_sl, jsOf_nil, jsOf_d, jsOf_s, putBack_nil, putBack_d, putBack_s, toRs_rt, callM_eq, eCall_eq, sThen_eq, sE_eq, sNx_eq, sBk_eq, sCt_eq, sNo_eq, sRet_eq, sRetN_eq, sDrop_eq, sIf_eq, sSet_eq, sAsg_eq, sAug_eq, sSetItem_eq, asI_i, setIt_eq, sFor_eq, runDef_eq, start0_eq, outs_nil, outs_cons, rep_succ, mvM_l, mvM_d, alNil_eq, alD_eq, alL_eq, alMs_nil, alMs_cons, alM_d, alM_l, toSc_rt, eCallL_eq, bEnum_l, bEnum_t, eSM_eq, isSq_l, isSq_t, cntD_l, cntD_t, mVar_eq, mvF_l, mvF_d, eVarF_eq, dAdd_ii, dAddI_ii, dSub_ii, dMul_ii, dDiv_ii, dMod_ii, dLt_ii, dLe_ii, dGt_ii, dGe_ii, dNeg_i, dEq_ii, dNe_ii, dEq_bb, dNe_bb, dIs_none, dIsNot_none, isNon_none, isNon_b, isNon_i, isNon_s, isNon_l, isNon_t, tru_b, tru_i, tru_n, tru_l, tru_t, bLen_l, bLen_t, bAbs_i, bInt_i, bInt_b, bSum_l, bSum_t, bAll_l, bAny_l, bTup_l, bTup_t, bList_l, bList_t, bSorted_l, bSorted_t, bMax_ii, bMin_ii, bRange1_i, bZip_l, bZip_t, bZip3_t, dIx_l, dIx_t, dSlice_l, dSlice_t, isI_1, isI_2, isI_3, isI_4, isI_5, isI_6, isI_7, isI_8, isI_9, isI_10, isI_11, isI_12, isI_13, isI_14, isI_15, isI_16, isI_17, isI_18, isI_19, isI_20, isI_21, isI_22, isI_23, isI_24, isI_25, isI_26, scalar_1, scalar_2, scalar_3, scalar_4, chkS_i, chkS_b, gN_eq, gT_eq, gTL_eq, gsN_nil, gsC_cons, wipeE_nil, wipeE_cons, restE_nil, restE_cons, keepD_n, keepD_d, keepD_l, keepD_x, tYesD_eq, eComp_eq, mComp_eq, compR_ok, compGo_nil, forGo_nil, lp_nx, lp_ct, lp_bk, lp_rt, atI_2, atI_3, atI_4, atI_5, atI_6, atI_7, atI_zero, atI_one, dPow_10_18, beq_self_eq_true, List.map_cons, List.map_nil, List.length_cons, List.length_nil, List.cons_append, List.nil_append, List.set_cons_succ, List.set_cons_zero, List.getElem?_cons_succ, List.getElem?_cons_zero, Option.join_some, Option.map_some, Option.bind_some, List.tail_cons, List.head?_cons, if_true, if_false, Bool.false_eq_true, Bool.true_eq_false, and_true, true_and, List.nodup_cons, List.not_mem_nil, not_false_eq_true, List.nodup_nil, Bool.not_true, Bool.not_false, ite_true, ite_false, Nat.reduceAdd, Nat.reduceSub, Nat.zero_add, List.replicate_zero, List.append_nil, List.mem_cons, Nat.reduceEqDiff, or_false, or_self, reduceIte, decide_true, decide_false, Nat.reduceLeDiff, Nat.reduceLT, Nat.le_refl, bSum_t, key]
      · have key : decide (IsAll (.tuple xs) v n) = false := by
          rw [decide_eq_false_iff_not]
          rintro ⟨ms, h1, _, h3, _⟩
          apply ha
          rw [PyData.tuple.inj h1]
          simp only [List.all_map, List.all_eq_true]
          intro i hi
          simpa [shr] using h3 i hi
        have ha' : ((xs.map shr).all id) = false := by simpa using ha
        simp only [ha', Rs.bind_ok, Rs.bind_ex, Rs.bind_no, lift_some, lift_none, thn_nx, thn_rt, thn_bk, thn_ct, thn_ex, thn_no, to_ok, to_ex, to_no, fin_nx, fin_rt, optOut_s, optOut_n, optRs_s, optRs_n, asB_b, chB_b, eVar_eq, slotD_0, slotD_s, slotL_0, slotL_s, slotScr_0, slotScr_s, eC_eq, e2_eq, e1_eq, tb1_eq, tt1_eq, tNotD_eq, tAndD_eq, tOrD_eq, eNot_eq, eAnd_eq, eOr_eq, eIf_eq, eChain_eq, aNil_eq, aCons_eq, aOne_eq, eTup_eq, eLst_eq, mLst_eq, mD_eq, eFrz_eq, frzM_d, frzM_l, eB_eq, eListScr_eq, ixOf_i, eIxO_eq, pNo_eq, pSome_eq, oInt_i, eSlice_eq, eBO_eq, e2R_eq, ttO_eq, eTupO_eq, eListO_eq, eIsi_eq, eListRg_eq, mListRg_eq, eMt_eq, seqOne_l, seqOne_t, mList_eq, itSeq_eq, itB_eq, seqOf_l, seqOf_t, avNil_eq, avD_eq, avS_eq, avMs_nil, avMs_cons, avM_d, avM_sl, jsOf_nil, jsOf_d, jsOf_s, putBack_nil, putBack_d, putBack_s, toRs_rt, callM_eq, eCall_eq, sThen_eq, sE_eq, sNx_eq, sBk_eq, sCt_eq, sNo_eq, sRet_eq, sRetN_eq, sDrop_eq, sIf_eq, sSet_eq, sAsg_eq, sAug_eq, sSetItem_eq, asI_i, setIt_eq, sFor_eq, runDef_eq, start0_eq, outs_nil, outs_cons, rep_succ, mvM_l, mvM_d, alNil_eq, alD_eq, alL_eq, alMs_nil, alMs_cons, alM_d, alM_l, toSc_rt, eCallL_eq, bEnum_l, bEnum_t, eSM_eq, isSq_l, isSq_t, cntD_l, cntD_t, mVar_eq, mvF_l, mvF_d, eVarF_eq, dAdd_ii, dAddI_ii, dSub_ii, dMul_ii, dDiv_ii, dMod_ii, dLt_ii, dLe_ii, dGt_ii, dGe_ii, dNeg_i, dEq_ii, dNe_ii, dEq_bb, dNe_bb, dIs_none, dIsNot_none, isNon_none, isNon_b, isNon_i, isNon_s, isNon_l, isNon_t, tru_b, tru_i, tru_n, tru_l, tru_t, bLen_l, bLen_t, bAbs_i, bInt_i, bInt_b, bSum_l, bSum_t, bAll_l, bAny_l, bTup_l, bTup_t, bList_l, bList_t, bSorted_l, bSorted_t, bMax_ii, bMin_ii, bRange1_i, bZip_l, bZip_t, bZip3_t, dIx_l, dIx_t, dSlice_l, dSlice_t, isI_1, isI_2, isI_3, isI_4, isI_5, isI_6, isI_7, isI_8, isI_9, isI_10, isI_11, isI_12, isI_13, isI_14, isI_15, isI_16, isI_17, isI_18, isI_19, isI_20, isI_21, isI_22, isI_23, isI_24, isI_25, isI_26, scalar_1, scalar_2, scalar_3, scalar_4, chkS_i, chkS_b, gN_eq, gT_eq, gTL_eq, gsN_nil, gsC_cons, wipeE_nil, wipeE_cons, restE_nil, restE_cons, keepD_n, keepD_d, keepD_l, keepD_x, tYesD_eq, eComp_eq, mComp_eq, compR_ok, compGo_nil, forGo_nil, lp_nx, lp_ct, lp_bk, lp_rt, atI_2, atI_3, atI_4, atI_5, atI_6, atI_7, atI_zero, atI_one, dPow_10_18, beq_self_eq_true, List.map_cons, List.map_nil, List.length_cons, List.length_nil, List.cons_append, List.nil_append, List.set_cons_succ, List.set_cons_zero, List.getElem?_cons_succ, List.getElem?_cons_zero, Option.join_some, Option.map_some, Option.bind_some, List.tail_cons, List.head?_cons, if_true, if_false, Bool.false_eq_true, Bool.true_eq_false, and_true, true_and, List.nodup_cons, List.not_mem_nil, not_false_eq_true, List.nodup_nil, Bool.not_true, Bool.not_false, ite_true, ite_false, Nat.reduceAdd, Nat.reduceSub, Nat.zero_add, List.replicate_zero, List.append_nil, List.mem_cons, Nat.reduceEqDiff, or_false, or_self, reduceIte, decide_true, decide_false, Nat.reduceLeDiff, Nat.reduceLT, Nat.le_refl, key]
    · have hl' : (!((xs.length : Int) == v)) = true := by simp [hl]
      have key : decide (IsAll (.tuple xs) v n) = false := by
        rw [decide_eq_false_iff_not]
        rintro ⟨ms, h1, h2, _⟩
        apply hl
        rw [PyData.tuple.inj h1, ← h2]
        simp
      simp only [f_is_allocation, b_is_allocation, Rs.bind_ok, Rs.bind_ex, Rs.bind_no, lift_some, lift_none, thn_nx, thn_rt, thn_bk, thn_ct, thn_ex, thn_no, to_ok, to_ex, to_no, fin_nx, fin_rt, optOut_s, optOut_n, optRs_s, optRs_n, asB_b, chB_b, eVar_eq, slotD_0, slotD_s, slotL_0, slotL_s, slotScr_0, slotScr_s, eC_eq, e2_eq, e1_eq, tb1_eq, tt1_eq, tNotD_eq, tAndD_eq, tOrD_eq, eNot_eq, eAnd_eq, eOr_eq, eIf_eq, eChain_eq, aNil_eq, aCons_eq, aOne_eq, eTup_eq, eLst_eq, mLst_eq, mD_eq, eFrz_eq, frzM_d, frzM_l, eB_eq, eListScr_eq, ixOf_i, eIxO_eq, pNo_eq, pSome_eq, oInt_i, eSlice_eq, eBO_eq, e2R_eq, ttO_eq, eTupO_eq, eListO_eq, eIsi_eq, eListRg_eq, mListRg_eq, eMt_eq, seqOne_l, seqOne_t, mList_eq, itSeq_eq, itB_eq, seqOf_l, seqOf_t, avNil_eq, avD_eq, avS_eq, avMs_nil, avMs_cons, avM_d, avM_sl, jsOf_nil, jsOf_d, jsOf_s, putBack_nil, putBack_d, putBack_s, toRs_rt, callM_eq, eCall_eq, sThen_eq, sE_eq, sNx_eq, sBk_eq, sCt_eq, sNo_eq, sRet_eq, sRetN_eq, sDrop_eq, sIf_eq, sSet_eq, sAsg_eq, sAug_eq, sSetItem_eq, asI_i, setIt_eq, sFor_eq, runDef_eq, start0_eq, outs_nil, outs_cons, rep_succ, mvM_l, mvM_d, alNil_eq, alD_eq, alL_eq, alMs_nil, alMs_cons, alM_d, alM_l, toSc_rt, eCallL_eq, bEnum_l, bEnum_t, eSM_eq, isSq_l, isSq_t, cntD_l, cntD_t, mVar_eq, mvF_l, mvF_d, eVarF_eq, dAdd_ii, dAddI_ii, dSub_ii, dMul_ii, dDiv_ii, dMod_ii, dLt_ii, dLe_ii, dGt_ii, dGe_ii, dNeg_i, dEq_ii, dNe_ii, dEq_bb, dNe_bb, dIs_none, dIsNot_none, isNon_none, isNon_b, isNon_i, isNon_s, isNon_l, isNon_t, tru_b, tru_i, tru_n, tru_l, tru_t, bLen_l, bLen_t, bAbs_i, bInt_i, bInt_b, bSum_l, bSum_t, bAll_l, bAny_l, bTup_l, bTup_t, bList_l, bList_t, bSorted_l, bSorted_t, bMax_ii, bMin_ii, bRange1_i, bZip_l, bZip_t, bZip3_t, dIx_l, dIx_t, dSlice_l, dSlice_t, isI_1, isI_2, isI_3, isI_4, isI_5, isI_6, isI_7, isI_8, isI_9, isI_10, isI_11, isI_12, isI_13, isI_14, isI_15, isI_16, isI_17, isI_18, isI_19, isI_20, isI_21, isI_22, isI_23, isI_24, isI_25, isI_26, scalar_1, scalar_2, scalar_3, scalar_4, chkS_i, chkS_b, gN_eq, gT_eq, gTL_eq, gsN_nil, gsC_cons, wipeE_nil, wipeE_cons, restE_nil, restE_cons, keepD_n, keepD_d, keepD_l, keepD_x, tYesD_eq, eComp_eq, mComp_eq, compR_ok, compGo_nil, forGo_nil, lp_nx, lp_ct, lp_bk, lp_rt, atI_2, atI_3, atI_4, atI_5, atI_6, atI_7, atI_zero, atI_one, dPow_10_18, beq_self_eq_true, List.map_cons, List.map_nil, List.length_cons, List.length_nil, List.cons_append, List.nil_append, List.set_cons_succ, List.set_cons_zero, List.getElem?_cons_succ, List.getElem?_cons_zero, Option.join_some, Option.map_some, Option.bind_some, List.tail_cons, List.head?_cons, if_true, if_false, Bool.false_eq_true, Bool.true_eq_false, and_true, true_and, List.nodup_cons, List.not_mem_nil, not_false_eq_true, List.nodup_nil, Bool.not_true, Bool.not_false, ite_true, ite_false, Nat.reduceAdd, Nat.reduceSub, Nat.zero_add, List.replicate_zero, List.append_nil, List.mem_cons, Nat.reduceEqDiff, or_false, or_self, reduceIte, decide_true, decide_false, Nat.reduceLeDiff, Nat.reduceLT, Nat.le_refl, hl', key]
  | _ =>
    rw [decide_eq_false (by rintro ⟨ms, h1, _⟩; cases h1)]
    simp only [f_is_allocation, b_is_allocation, Rs.bind_ok, Rs.bind_ex, Rs.bind_no, lift_some, lift_none, thn_nx, thn_rt, thn_bk, thn_ct, thn_ex, thn_no, to_ok, to_ex, to_no, fin_nx, fin_rt, optOut_s, optOut_n, optRs_s, optRs_n, asB_b, chB_b, eVar_eq, slotD_0, slotD_s, slotL_0, slotL_s, slotScr_0, slotScr_s, eC_eq, e2_eq, e1_eq, tb1_eq, tt1_eq, tNotD_eq, tAndD_eq, tOrD_eq, eNot_eq, eAnd_eq, eOr_eq, eIf_eq, eChain_eq, aNil_eq, aCons_eq, aOne_eq, eTup_eq, eLst_eq, mLst_eq, mD_eq, eFrz_eq, frzM_d, frzM_l, eB_eq, eListScr_eq, ixOf_i, eIxO_eq, pNo_eq, pSome_eq, oInt_i, eSlice_eq, eBO_eq, e2R_eq, ttO_eq, eTupO_eq, eListO_eq, eIsi_eq, eListRg_eq, mListRg_eq, eMt_eq, seqOne_l, seqOne_t, mList_eq, itSeq_eq, itB_eq, seqOf_l, seqOf_t, avNil_eq, avD_eq, avS_eq, avMs_nil, avMs_cons, avM_d, avM_sl, jsOf_nil, jsOf_d, jsOf_s, putBack_nil, putBack_d, putBack_s, toRs_rt, callM_eq, eCall_eq, sThen_eq, sE_eq, sNx_eq, sBk_eq, sCt_eq, sNo_eq, sRet_eq, sRetN_eq, sDrop_eq, sIf_eq, sSet_eq, sAsg_eq, sAug_eq, sSetItem_eq, asI_i, setIt_eq, sFor_eq, runDef_eq, start0_eq, outs_nil, outs_cons, rep_succ, mvM_l, mvM_d, alNil_eq, alD_eq, alL_eq, alMs_nil, alMs_cons, alM_d, alM_l, toSc_rt, eCallL_eq, bEnum_l, bEnum_t, eSM_eq, isSq_l, isSq_t, cntD_l, cntD_t, mVar_eq, mvF_l, mvF_d, eVarF_eq, dAdd_ii, dAddI_ii, dSub_ii, dMul_ii, dDiv_ii, dMod_ii, dLt_ii, dLe_ii, dGt_ii, dGe_ii, dNeg_i, dEq_ii, dNe_ii, dEq_bb, dNe_bb, dIs_none, dIsNot_none, isNon_none, isNon_b, isNon_i, isNon_s, isNon_l, isNon_t, tru_b, tru_i, tru_n, tru_l, tru_t, bLen_l, bLen_t, bAbs_i, bInt_i, bInt_b, bSum_l, bSum_t, bAll_l, bAny_l, bTup_l, bTup_t, bList_l, bList_t, bSorted_l, bSorted_t, bMax_ii, bMin_ii, bRange1_i, bZip_l, bZip_t, bZip3_t, dIx_l, dIx_t, dSlice_l, dSlice_t, isI_1, isI_2, isI_3, isI_4, isI_5, isI_6, isI_7, isI_8, isI_9, isI_10, isI_11, isI_12, isI_13, isI_14, isI_15, isI_16, isI_17, isI_18, isI_19, isI_20, isI_21, isI_22, isI_23, isI_24, isI_25, isI_26, scalar_1, scalar_2, scalar_3, scalar_4, chkS_i, chkS_b, gN_eq, gT_eq, gTL_eq, gsN_nil, gsC_cons, wipeE_nil, wipeE_cons, restE_nil, restE_cons, keepD_n, keepD_d, keepD_l, keepD_x, tYesD_eq, eComp_eq, mComp_eq, compR_ok, compGo_nil, forGo_nil, lp_nx, lp_ct, lp_bk, lp_rt, atI_2, atI_3, atI_4, atI_5, atI_6, atI_7, atI_zero, atI_one, dPow_10_18, beq_self_eq_true, List.map_cons, List.map_nil, List.length_cons, List.length_nil, List.cons_append, List.nil_append, List.set_cons_succ, List.set_cons_zero, List.getElem?_cons_succ, List.getElem?_cons_zero, Option.join_some, Option.map_some, Option.bind_some, List.tail_cons, List.head?_cons, if_true, if_false, Bool.false_eq_true, Bool.true_eq_false, and_true, true_and, List.nodup_cons, List.not_mem_nil, not_false_eq_true, List.nodup_nil, Bool.not_true, Bool.not_false, ite_true, ite_false, Nat.reduceAdd, Nat.reduceSub, Nat.zero_add, List.replicate_zero, List.append_nil, List.mem_cons, Nat.reduceEqDiff, or_false, or_self, reduceIte, decide_true, decide_false, Nat.reduceLeDiff, Nat.reduceLT, Nat.le_refl, isTup]
open Classical in
theorem is_assignment_e (x : PyData) (v n : Int) : f_is_assignment [.d x, .d (.int v), .d (.int n)] = .rt (.d (.bool (decide (IsAsg x v n)))) [none, none, none] := by
  cases x with
  | tuple xs =>
    have hc : compGo (gN 3) tYesD (eFrz (eCall 3 f_is_between (avD (eVar 3) (avD (eC (.int 0)) (avD (e2 dSub (eVar 1) (eC (.int 1))) (avNil)))))) [3] xs [] [some (.d (.tuple xs)), some (.d (.int v)), some (.d (.int n)), none] = .ok ([] ++ xs.map fun x => .bool (btw 0 (v - 1) x)) [some (.d (.tuple xs)), some (.d (.int v)), some (.d (.int n)), none] := by
      refine compGo_id (fun x => .bool (btw 0 (v - 1) x)) xs [] fun x _ => ⟨[some (.d (.tuple xs)), some (.d (.int v)), some (.d (.int n)), some (.d x)], ?_, ?_, ?_⟩
      · simp only [Rs.bind_ok, Rs.bind_ex, Rs.bind_no, lift_some, lift_none, thn_nx, thn_rt, thn_bk, thn_ct, thn_ex, thn_no, to_ok, to_ex, to_no, fin_nx, fin_rt, optOut_s, optOut_n, optRs_s, optRs_n, asB_b, chB_b, eVar_eq, slotD_0, slotD_s, slotL_0, slotL_s, slotScr_0, slotScr_s, eC_eq, e2_eq, e1_eq, tb1_eq, tt1_eq, tNotD_eq, tAndD_eq, tOrD_eq, eNot_eq, eAnd_eq, eOr_eq, eIf_eq, eChain_eq, aNil_eq, aCons_eq, aOne_eq, eTup_eq, eLst_eq, mLst_eq, mD_eq, eFrz_eq, frzM_d, frzM_l, eB_eq, eListScr_eq, ixOf_i, eIxO_eq, pNo_eq, pSome_eq, oInt_i, eSlice_eq, eBO_eq, e2R_eq, ttO_eq, eTupO_eq, eListO_eq, eIsi_eq, eListRg_eq, mListRg_eq, eMt_eq, seqOne_l, seqOne_t, mList_eq, itSeq_eq, itB_eq, seqOf_l, seqOf_t, avNil_eq, avD_eq, avS_eq, avMs_nil, avMs_cons, avM_d, avM_sl, jsOf_nil, jsOf_d, jsOf_s, putBack_nil, putBack_d, putBack_s, toRs_rt, callM_eq, eCall_eq, sThen_eq, sE_eq, sNx_eq, sBk_eq, sCt_eq, sNo_eq, sRet_eq, sRetN_eq, sDrop_eq, sIf_eq, sSet_eq, sAsg_eq, sAug_eq, sSetItem_eq, asI_i, setIt_eq, sFor_eq, runDef_eq, start0_eq, outs_nil, outs_cons, rep_succ, mvM_l, mvM_d, alNil_eq, alD_eq, alL_eq, alMs_nil, alMs_cons, alM_d, alM_l, toSc_rt, eCallL_eq, bEnum_l, bEnum_t, eSM_eq, isSq_l, isSq_t, cntD_l, cntD_t, mVar_eq, mvF_l, mvF_d, eVarF_eq, dAdd_ii, dAddI_ii, dSub_ii, dMul_ii, dDiv_ii, dMod_ii, dLt_ii, dLe_ii, dGt_ii, dGe_ii, dNeg_i, dEq_ii, dNe_ii, dEq_bb, dNe_bb, dIs_none, dIsNot_none, isNon_none, isNon_b, isNon_i, isNon_s, isNon_l, isNon_t, tru_b, tru_i, tru_n, tru_l, tru_t, bLen_l, bLen_t, bAbs_i, bInt_i, bInt_b, bSum_l, bSum_t, bAll_l, bAny_l, bTup_l, bTup_t, bList_l, bList_t, bSorted_l, bSorted_t, bMax_ii, bMin_ii, bRange1_i, bZip_l, bZip_t, bZip3_t, dIx_l, dIx_t, dSlice_l, dSlice_t, isI_1, isI_2, isI_3, isI_4, isI_5, isI_6, isI_7, isI_8, isI_9, isI_10, isI_11, isI_12, isI_13, isI_14, isI_15, isI_16, isI_17, isI_18, isI_19, isI_20, isI_21, isI_22, isI_23, isI_24, isI_25, isI_26, scalar_1, scalar_2, scalar_3, scalar_4, chkS_i, chkS_b, gN_eq, gT_eq, gTL_eq, gsN_nil, gsC_cons, wipeE_nil, wipeE_cons, restE_nil, restE_cons, keepD_n, keepD_d, keepD_l, keepD_x, tYesD_eq, eComp_eq, mComp_eq, compR_ok, compGo_nil, forGo_nil, lp_nx, lp_ct, lp_bk, lp_rt, atI_2, atI_3, atI_4, atI_5, atI_6, atI_7, atI_zero, atI_one, dPow_10_18, beq_self_eq_true, List.map_cons, List.map_nil, List.length_cons, List.length_nil, List.cons_append, List.nil_append, List.set_cons_succ, List.set_cons_zero, List.getElem?_cons_succ, List.getElem?_cons_zero, Option.join_some, Option.map_some, Option.bind_some, List.tail_cons, List.head?_cons, if_true, if_false, Bool.false_eq_true, Bool.true_eq_false, and_true, true_and, List.nodup_cons, List.not_mem_nil, not_false_eq_true, List.nodup_nil, Bool.not_true, Bool.not_false, ite_true, ite_false, Nat.reduceAdd, Nat.reduceSub, Nat.zero_add, List.replicate_zero, List.append_nil, List.mem_cons, Nat.reduceEqDiff, or_false, or_self, reduceIte, decide_true, decide_false, Nat.reduceLeDiff, Nat.reduceLT, Nat.le_refl]
      · simp only [Rs.bind_ok, Rs.bind_ex, Rs.bind_no, lift_some, lift_none, thn_nx, thn_rt, thn_bk, thn_ct, thn_ex, thn_no, to_ok, to_ex, to_no, fin_nx, fin_rt, optOut_s, optOut_n, optRs_s, optRs_n, asB_b, chB_b, eVar_eq, slotD_0, slotD_s, slotL_0, slotL_s, slotScr_0, slotScr_s, eC_eq, e2_eq, e1_eq, tb1_eq, tt1_eq, tNotD_eq, tAndD_eq, tOrD_eq, eNot_eq, eAnd_eq, eOr_eq, eIf_eq, eChain_eq, aNil_eq, aCons_eq, aOne_eq, eTup_eq, eLst_eq, mLst_eq, mD_eq, eFrz_eq, frzM_d, frzM_l, eB_eq, eListScr_eq, ixOf_i, eIxO_eq, pNo_eq, pSome_eq, oInt_i, eSlice_eq, eBO_eq, e2R_eq, ttO_eq, eTupO_eq, eListO_eq, eIsi_eq, eListRg_eq, mListRg_eq, eMt_eq, seqOne_l, seqOne_t, mList_eq, itSeq_eq, itB_eq, seqOf_l, seqOf_t, avNil_eq, avD_eq, avS_eq, avMs_nil, avMs_cons, avM_d, avM_sl, jsOf_nil, jsOf_d, jsOf_s, putBack_nil, putBack_d, putBack_s, toRs_rt, callM_eq, eCall_eq, sThen_eq, sE_eq, sNx_eq, sBk_eq, sCt_eq, sNo_eq, sRet_eq, sRetN_eq, sDrop_eq, sIf_eq, sSet_eq, sAsg_eq, sAug_eq, sSetItem_eq, asI_i, setIt_eq, sFor_eq, runDef_eq, start0_eq, outs_nil, outs_cons, rep_succ, mvM_l, mvM_d, alNil_eq, alD_eq, alL_eq, alMs_nil, alMs_cons, alM_d, alM_l, toSc_rt, eCallL_eq, bEnum_l, bEnum_t, eSM_eq, isSq_l, isSq_t, cntD_l, cntD_t, mVar_eq, mvF_l, mvF_d, eVarF_eq, dAdd_ii, dAddI_ii, dSub_ii, dMul_ii, dDiv_ii, dMod_ii, dLt_ii, dLe_ii, dGt_ii, dGe_ii, dNeg_i, dEq_ii, dNe_ii, dEq_bb, dNe_bb, dIs_none, dIsNot_none, isNon_none, isNon_b, isNon_i, isNon_s, isNon_l, isNon_t, tru_b, tru_i, tru_n, tru_l, tru_t, bLen_l, bLen_t, bAbs_i, bInt_i, bInt_b, bSum_l, bSum_t, bAll_l, bAny_l, bTup_l, bTup_t, bList_l, bList_t, bSorted_l, bSorted_t, bMax_ii, bMin_ii, bRange1_i, bZip_l, bZip_t, bZip3_t, dIx_l, dIx_t, dSlice_l, dSlice_t, isI_1, isI_2, isI_3, isI_4, isI_5, isI_6, isI_7, isI_8, isI_9, isI_10, isI_11, isI_12, isI_13, isI_14, isI_15, isI_16, isI_17, isI_18, isI_19, isI_20, isI_21, isI_22, isI_23, isI_24, isI_25, isI_26, scalar_1, scalar_2, scalar_3, scalar_4, chkS_i, chkS_b, gN_eq, gT_eq, gTL_eq, gsN_nil, gsC_cons, wipeE_nil, wipeE_cons, restE_nil, restE_cons, keepD_n, keepD_d, keepD_l, keepD_x, tYesD_eq, eComp_eq, mComp_eq, compR_ok, compGo_nil, forGo_nil, lp_nx, lp_ct, lp_bk, lp_rt, atI_2, atI_3, atI_4, atI_5, atI_6, atI_7, atI_zero, atI_one, dPow_10_18, beq_self_eq_true, List.map_cons, List.map_nil, List.length_cons, List.length_nil, List.cons_append, List.nil_append, List.set_cons_succ, List.set_cons_zero, List.getElem?_cons_succ, List.getElem?_cons_zero, Option.join_some, Option.map_some, Option.bind_some, List.tail_cons, List.head?_cons, if_true, if_false, Bool.false_eq_true, Bool.true_eq_false, and_true, true_and, List.nodup_cons, List.not_mem_nil, not_false_eq_true, List.nodup_nil, Bool.not_true, Bool.not_false, ite_true, ite_false, Nat.reduceAdd, Nat.reduceSub, Nat.zero_add, List.replicate_zero, List.append_nil, List.mem_cons, Nat.reduceEqDiff, or_false, or_self, reduceIte, decide_true, decide_false, Nat.reduceLeDiff, Nat.reduceLT, Nat.le_refl, is_between_e]
      · simp only [Rs.bind_ok, Rs.bind_ex, Rs.bind_no, lift_some, lift_none, thn_nx, thn_rt, thn_bk, thn_ct, thn_ex, thn_no, to_ok, to_ex, to_no, fin_nx, fin_rt, optOut_s, optOut_n, optRs_s, optRs_n, asB_b, chB_b, eVar_eq, slotD_0, slotD_s, slotL_0, slotL_s, slotScr_0, slotScr_s, eC_eq, e2_eq, e1_eq, tb1_eq, tt1_eq, tNotD_eq, tAndD_eq, tOrD_eq, eNot_eq, eAnd_eq, eOr_eq, eIf_eq, eChain_eq, aNil_eq, aCons_eq, aOne_eq, eTup_eq, eLst_eq, mLst_eq, mD_eq, eFrz_eq, frzM_d, frzM_l, eB_eq, eListScr_eq, ixOf_i, eIxO_eq, pNo_eq, pSome_eq, oInt_i, eSlice_eq, eBO_eq, e2R_eq, ttO_eq, eTupO_eq, eListO_eq, eIsi_eq, eListRg_eq, mListRg_eq, eMt_eq, seqOne_l, seqOne_t, mList_eq, itSeq_eq, itB_eq, seqOf_l, seqOf_t, avNil_eq, avD_eq, avS_eq, avMs_nil, avMs_cons, avM_d, avM_sl, jsOf_nil, jsOf_d, jsOf_s, putBack_nil, putBack_d, putBack_s, toRs_rt, callM_eq, eCall_eq, sThen_eq, sE_eq, sNx_eq, sBk_eq, sCt_eq, sNo_eq, sRet_eq, sRetN_eq, sDrop_eq, sIf_eq, sSet_eq, sAsg_eq, sAug_eq, sSetItem_eq, asI_i, setIt_eq, sFor_eq, runDef_eq, start0_eq, outs_nil, outs_cons, rep_succ, mvM_l, mvM_d, alNil_eq, alD_eq, alL_eq, alMs_nil, alMs_cons, alM_d, alM_l, toSc_rt, eCallL_eq, bEnum_l, bEnum_t, eSM_eq, isSq_l, isSq_t, cntD_l, cntD_t, mVar_eq, mvF_l, mvF_d, eVarF_eq, dAdd_ii, dAddI_ii, dSub_ii, dMul_ii, dDiv_ii, dMod_ii, dLt_ii, dLe_ii, dGt_ii, dGe_ii, dNeg_i, dEq_ii, dNe_ii, dEq_bb, dNe_bb, dIs_none, dIsNot_none, isNon_none, isNon_b, isNon_i, isNon_s, isNon_l, isNon_t, tru_b, tru_i, tru_n, tru_l, tru_t, bLen_l, bLen_t, bAbs_i, bInt_i, bInt_b, bSum_l, bSum_t, bAll_l, bAny_l, bTup_l, bTup_t, bList_l, bList_t, bSorted_l, bSorted_t, bMax_ii, bMin_ii, bRange1_i, bZip_l, bZip_t, bZip3_t, dIx_l, dIx_t, dSlice_l, dSlice_t, isI_1, isI_2, isI_3, isI_4, isI_5, isI_6, isI_7, isI_8, isI_9, isI_10, isI_11, isI_12, isI_13, isI_14, isI_15, isI_16, isI_17, isI_18, isI_19, isI_20, isI_21, isI_22, isI_23, isI_24, isI_25, isI_26, scalar_1, scalar_2, scalar_3, scalar_4, chkS_i, chkS_b, gN_eq, gT_eq, gTL_eq, gsN_nil, gsC_cons, wipeE_nil, wipeE_cons, restE_nil, restE_cons, keepD_n, keepD_d, keepD_l, keepD_x, tYesD_eq, eComp_eq, mComp_eq, compR_ok, compGo_nil, forGo_nil, lp_nx, lp_ct, lp_bk, lp_rt, atI_2, atI_3, atI_4, atI_5, atI_6, atI_7, atI_zero, atI_one, dPow_10_18, beq_self_eq_true, List.map_cons, List.map_nil, List.length_cons, List.length_nil, List.cons_append, List.nil_append, List.set_cons_succ, List.set_cons_zero, List.getElem?_cons_succ, List.getElem?_cons_zero, Option.join_some, Option.map_some, Option.bind_some, List.tail_cons, List.head?_cons, if_true, if_false, Bool.false_eq_true, Bool.true_eq_false, and_true, true_and, List.nodup_cons, List.not_mem_nil, not_false_eq_true, List.nodup_nil, Bool.not_true, Bool.not_false, ite_true, ite_false, Nat.reduceAdd, Nat.reduceSub, Nat.zero_add, List.replicate_zero, List.append_nil, List.mem_cons, Nat.reduceEqDiff, or_false, or_self, reduceIte, decide_true, decide_false, Nat.reduceLeDiff, Nat.reduceLT, Nat.le_refl]
    have hm : (xs.map fun x => PyData.bool (btw 0 (v - 1) x)) = (xs.map (btw 0 (v - 1))).map .bool := by rw [List.map_map]; rfl
    by_cases hl : (xs.length : Int) = n
    · have hl' : (!((xs.length : Int) == n)) = false := by simp [hl]
      have key : ((xs.map (btw 0 (v - 1))).all id) = decide (IsAsg (.tuple xs) v n) := by
        apply Bool.eq_iff_iff.2
        rw [decide_eq_true_eq, List.all_map, List.all_eq_true]
        refine ⟨fun h => ?_, fun ⟨ms, h1, h2, h3⟩ => ?_⟩
        · obtain ⟨ns, rfl⟩ := ints_of_whole xs fun x hx => by
            have := h x hx
            cases x <;> first | rfl | cases this
          refine ⟨ns, rfl, by simpa using hl, fun i hi => ?_⟩
          have := h (.int i) (List.mem_map_of_mem hi)
          simp [btw] at this
          omega
        · rw [PyData.tuple.inj h1]
          intro x hx
          obtain ⟨i, hi, rfl⟩ := List.mem_map.1 hx
          have := h3 i hi
          simp [btw]
          omega
      simp only [f_is_assignment, b_is_assignment, Rs.bind_ok, Rs.bind_ex, Rs.bind_no, lift_some, lift_none, thn_nx, thn_rt, thn_bk, thn_ct, thn_ex, thn_no, to_ok, to_ex, to_no, fin_nx, fin_rt, optOut_s, optOut_n, optRs_s, optRs_n, asB_b, chB_b, eVar_eq, slotD_0, slotD_s, slotL_0, slotL_s, slotScr_0, slotScr_s, eC_eq, e2_eq, e1_eq, tb1_eq, tt1_eq, tNotD_eq, tAndD_eq, tOrD_eq, eNot_eq, eAnd_eq, eOr_eq, eIf_eq, eChain_eq, aNil_eq, aCons_eq, aOne_eq, eTup_eq, eLst_eq, mLst_eq, mD_eq, eFrz_eq, frzM_d, frzM_l, eB_eq, eListScr_eq, ixOf_i, eIxO_eq, pNo_eq, pSome_eq, oInt_i, eSlice_eq, eBO_eq, e2R_eq, ttO_eq, eTupO_eq, eListO_eq, eIsi_eq, eListRg_eq, mListRg_eq, eMt_eq, seqOne_l, seqOne_t, mList_eq, itSeq_eq, itB_eq, seqOf_l, seqOf_t, avNil_eq, avD_eq, avS_eq, avMs_nil, avMs_cons, avM_d, avM_sl, jsOf_nil, jsOf_d, jsOf_s, putBack_nil, putBack_d, putBack_s, toRs_rt, callM_eq, eCall_eq, sThen_eq, sE_eq, sNx_eq, sBk_eq, sCt_eq, sNo_eq, sRet_eq, sRetN_eq, sDrop_eq, sIf_eq, sSet_eq, sAsg_eq, sAug_eq, sSetItem_eq, asI_i, setIt_eq, sFor_eq, runDef_eq, start0_eq, outs_nil, outs_cons, rep_succ, mvM_l, mvM_d, alNil_eq, alD_eq, alL_eq, alMs_nil, alMs_cons, alM_d, alM_l, toSc_rt, eCallL_eq, bEnum_l, bEnum_t, eSM_eq, isSq_l, isSq_t, cntD_l, cntD_t, mVar_eq, mvF_l, mvF_d, eVarF_eq, dAdd_ii, dAddI_ii, dSub_ii, dMul_ii, dDiv_ii, dMod_ii, dLt_ii, dLe_ii, dGt_ii, dGe_ii, dNeg_i, dEq_ii, dNe_ii, dEq_bb, dNe_bb, dIs_none, dIsNot_none, isNon_none, isNon_b, isNon_i, isNon_s, isNon_l, isNon_t, tru_b, tru_i, tru_n, tru_l, tru_t, bLen_l, bLen_t, bAbs_i, bInt_i, bInt_b, bSum_l, bSum_t, bAll_l, bAny_l, bTup_l, bTup_t, bList_l, bList_t, bSorted_l, bSorted_t, bMax_ii, bMin_ii, bRange1_i, bZip_l, bZip_t, bZip3_t, dIx_l, dIx_t, dSlice_l, dSlice_t, isI_1, isI_2, isI_3, isI_4, isI_5, isI_6, isI_7, isI_8, isI_9, isI_10, isI_11, isI_12, isI_13, isI_14, isI_15, isI_16, isI_17, isI_18, isI_19, isI_20, isI_21, isI_22, isI_23, isI_24, isI_25, isI_26, scalar_1, scalar_2, scalar_3, scalar_4, chkS_i, chkS_b, gN_eq, gT_eq, gTL_eq, gsN_nil, gsC_cons, wipeE_nil, wipeE_cons, restE_nil, restE_cons, keepD_n, keepD_d, keepD_l, keepD_x, tYesD_eq, eComp_eq, mComp_eq, compR_ok, compGo_nil, forGo_nil, lp_nx, lp_ct, lp_bk, lp_rt, atI_2, atI_3, atI_4, atI_5, atI_6, atI_7, atI_zero, atI_one, dPow_10_18, beq_self_eq_true, List.map_cons, List.map_nil, List.length_cons, List.length_nil, List.cons_append, List.nil_append, List.set_cons_succ, List.set_cons_zero, List.getElem?_cons_succ, List.getElem?_cons_zero, Option.join_some, Option.map_some, Option.bind_some, List.tail_cons, List.head?_cons, if_true, if_false, Bool.false_eq_true, Bool.true_eq_false, and_true, true_and, List.nodup_cons, List.not_mem_nil, not_false_eq_true, List.nodup_nil, Bool.not_true, Bool.not_false, ite_true, ite_false, Nat.reduceAdd, Nat.reduceSub, Nat.zero_add, List.replicate_zero, List.append_nil, List.mem_cons, Nat.reduceEqDiff, or_false, or_self, reduceIte, decide_true, decide_false, Nat.reduceLeDiff, Nat.reduceLT, Nat.le_refl, hl', hc, hm, key]
    · have hl' : (!((xs.length : Int) == n)) = true := by simp [hl]
      have key : decide (IsAsg (.tuple xs) v n) = false := by
        rw [decide_eq_false_iff_not]
        rintro ⟨ms, h1, h2, _⟩
        apply hl
        rw [PyData.tuple.inj h1, ← h2]
        simp
      simp only [f_is_assignment, b_is_assignment, Rs.bind_ok, Rs.bind_ex, Rs.bind_no, lift_some, lift_none, thn_nx, thn_rt, thn_bk, thn_ct, thn_ex, thn_no, to_ok, to_ex, to_no, fin_nx, fin_rt, optOut_s, optOut_n, optRs_s, optRs_n, asB_b, chB_b, eVar_eq, slotD_0, slotD_s, slotL_0, slotL_s, slotScr_0, slotScr_s, eC_eq, e2_eq, e1_eq, tb1_eq, tt1_eq, tNotD_eq, tAndD_eq, tOrD_eq, eNot_eq, eAnd_eq, eOr_eq, eIf_eq, eChain_eq, aNil_eq, aCons_eq, aOne_eq, eTup_eq, eLst_eq, mLst_eq, mD_eq, eFrz_eq, frzM_d, frzM_l, eB_eq, eListScr_eq, ixOf_i, eIxO_eq, pNo_eq, pSome_eq, oInt_i, eSlice_eq, eBO_eq, e2R_eq, ttO_eq, eTupO_eq, eListO_eq, eIsi_eq, eListRg_eq, mListRg_eq, eMt_eq, seqOne_l, seqOne_t, mList_eq, itSeq_eq, itB_eq, seqOf_l, seqOf_t, avNil_eq, avD_eq, avS_eq, avMs_nil, avMs_cons, avM_d, avM_sl, jsOf_nil, jsOf_d, jsOf_s, putBack_nil, putBack_d, putBack_s, toRs_rt, callM_eq, eCall_eq, sThen_eq, sE_eq, sNx_eq, sBk_eq, sCt_eq, sNo_eq, sRet_eq, sRetN_eq, sDrop_eq, sIf_eq, sSet_eq, sAsg_eq, sAug_eq, sSetItem_eq, asI_i, setIt_eq, sFor_eq, runDef_eq, start0_eq, outs_nil, outs_cons, rep_succ, mvM_l, mvM_d, alNil_eq, alD_eq, alL_eq, alMs_nil, alMs_cons, alM_d, alM_l, toSc_rt, eCallL_eq, bEnum_l, bEnum_t, eSM_eq, isSq_l, isSq_t, cntD_l, cntD_t, mVar_eq, mvF_l, mvF_d, eVarF_eq, dAdd_ii, dAddI_ii, dSub_ii, dMul_ii, dDiv_ii, dMod_ii, dLt_ii, dLe_ii, dGt_ii, dGe_ii, dNeg_i, dEq_ii, dNe_ii, dEq_bb, dNe_bb, dIs_none, dIsNot_none, isNon_none, isNon_b, isNon_i, isNon_s, isNon_l, isNon_t, tru_b, tru_i, tru_n, tru_l, tru_t, bLen_l, bLen_t, bAbs_i, bInt_i, bInt_b, bSum_l, bSum_t, bAll_l, bAny_l, bTup_l, bTup_t, bList_l, bList_t, bSorted_l, bSorted_t, bMax_ii, bMin_ii, bRange1_i, bZip_l, bZip_t, bZip3_t, dIx_l, dIx_t, dSlice_l, dSlice_t, isI_1, isI_2, isI_3, isI_4, isI_5, isI_6, isI_7, isI_8, isI_9, isI_10, isI_11, isI_12, isI_13, isI_14, isI_15, isI_16, isI_17, isI_18, isI_19, isI_20, isI_21, isI_22, isI_23, isI_24, isI_25, isI_26, scalar_1, scalar_2, scalar_3, scalar_4, chkS_i, chkS_b, gN_eq, gT_eq, gTL_eq, gsN_nil, gsC_cons, wipeE_nil, wipeE_cons, restE_nil, restE_cons, keepD_n, keepD_d, keepD_l, keepD_x, tYesD_eq, eComp_eq, mComp_eq, compR_ok, compGo_nil, forGo_nil, lp_nx, lp_ct, lp_bk, lp_rt, atI_2, atI_3, atI_4, atI_5, atI_6, atI_7, atI_zero, atI_one, dPow_10_18, beq_self_eq_true, List.map_cons, List.map_nil, List.length_cons, List.length_nil, List.cons_append, List.nil_append, List.set_cons_succ, List.set_cons_zero, List.getElem?_cons_succ, List.getElem?_cons_zero, Option.join_some, Option.map_some, Option.bind_some, List.tail_cons, List.head?_cons, if_true, if_false, Bool.false_eq_true, Bool.true_eq_false, and_true, true_and, List.nodup_cons, List.not_mem_nil, not_false_eq_true, List.nodup_nil, Bool.not_true, Bool.not_false, ite_true, ite_false, Nat.reduceAdd, Nat.reduceSub, Nat.zero_add, List.replicate_zero, List.append_nil, List.mem_cons, Nat.reduceEqDiff, or_false, or_self, reduceIte, decide_true, decide_false, Nat.reduceLeDiff, Nat.reduceLT, Nat.le_refl, hl', key]
  | _ =>
    rw [decide_eq_false (by rintro ⟨ms, h1, _⟩; cases h1)]
    simp only [f_is_assignment, b_is_assignment, Rs.bind_ok, Rs.bind_ex, Rs.bind_no, lift_some, lift_none, thn_nx, thn_rt, thn_bk, thn_ct, thn_ex, thn_no, to_ok, to_ex, to_no, fin_nx, fin_rt, optOut_s, optOut_n, optRs_s, optRs_n, asB_b, chB_b, eVar_eq, slotD_0, slotD_s, slotL_0, slotL_s, slotScr_0, slotScr_s, eC_eq, e2_eq, e1_eq, tb1_eq, tt1_eq, tNotD_eq, tAndD_eq, tOrD_eq, eNot_eq, eAnd_eq, eOr_eq, eIf_eq, eChain_eq, aNil_eq, aCons_eq, aOne_eq, eTup_eq, eLst_eq, mLst_eq, mD_eq, eFrz_eq, frzM_d, frzM_l, eB_eq, eListScr_eq, ixOf_i, eIxO_eq, pNo_eq, pSome_eq, oInt_i, eSlice_eq, eBO_eq, e2R_eq, ttO_eq, eTupO_eq, eListO_eq, eIsi_eq, eListRg_eq, mListRg_eq, eMt_eq, seqOne_l, seqOne_t, mList_eq, itSeq_eq, itB_eq, seqOf_l, seqOf_t, avNil_eq, avD_eq, avS_eq, avMs_nil, avMs_cons, avM_d, avM_sl, jsOf_nil, jsOf_d, jsOf_s, putBack_nil, putBack_d, putBack_s, toRs_rt, callM_eq, eCall_eq, sThen_eq, sE_eq, sNx_eq, sBk_eq, sCt_eq, sNo_eq, sRet_eq, sRetN_eq, sDrop_eq, sIf_eq, sSet_eq, sAsg_eq, sAug_eq, sSetItem_eq, asI_i, setIt_eq, sFor_eq, runDef_eq, start0_eq, outs_nil, outs_cons, rep_succ, mvM_l, mvM_d, alNil_eq, alD_eq, alL_eq, alMs_nil, alMs_cons, alM_d, alM_l, toSc_rt, eCallL_eq, bEnum_l, bEnum_t, eSM_eq, isSq_l, isSq_t, cntD_l, cntD_t, mVar_eq, mvF_l, mvF_d, eVarF_eq, dAdd_ii, dAddI_ii, dSub_ii, dMul_ii, dDiv_ii, dMod_ii, dLt_ii, dLe_ii, dGt_ii, dGe_ii, dNeg_i, dEq_ii, dNe_ii, dEq_bb, dNe_bb, dIs_none, dIsNot_none, isNon_none, isNon_b, isNon_i, isNon_s, isNon_l, isNon_t, tru_b, tru_i, tru_n, tru_l, tru_t, bLen_l, bLen_t, bAbs_i, bInt_i, bInt_b, bSum_l, bSum_t, bAll_l, bAny_l, bTup_l, bTup_t, bList_l, bList_t, bSorted_l, bSorted_t, bMax_ii, bMin_ii, bRange1_i, bZip_l, bZip_t, bZip3_t, dIx_l, dIx_t, dSlice_l, dSlice_t, isI_1, isI_2, isI_3, isI_4, isI_5, isI_6, isI_7, isI_8, isI_9, isI_10, isI_11, isI_12, isI_13, isI_14, isI_15, isI_16, isI_17, isI_18, isI_19, isI_20, isI_21, isI_22, isI_23, isI_24, isI_25, isI_26, scalar_1, scalar_2, scalar_3, scalar_4, chkS_i, chkS_b, gN_eq, gT_eq, gTL_eq, gsN_nil, gsC_cons, wipeE_nil, wipeE_cons, restE_nil, restE_cons, keepD_n, keepD_d, keepD_l, keepD_x, tYesD_eq, eComp_eq, mComp_eq, compR_ok, compGo_nil, forGo_nil, lp_nx, lp_ct, lp_bk, lp_rt, atI_2, atI_3, atI_4, atI_5, atI_6, atI_7, atI_zero, atI_one, dPow_10_18, beq_self_eq_true, List.map_cons, List.map_nil, List.length_cons, List.length_nil, List.cons_append, List.nil_append, List.set_cons_succ, List.set_cons_zero, List.getElem?_cons_succ, List.getElem?_cons_zero, Option.join_some, Option.map_some, Option.bind_some, List.tail_cons, List.head?_cons, if_true, if_false, Bool.false_eq_true, Bool.true_eq_false, and_true, true_and, List.nodup_cons, List.not_mem_nil, not_false_eq_true, List.nodup_nil, Bool.not_true, Bool.not_false, ite_true, ite_false, Nat.reduceAdd, Nat.reduceSub, Nat.zero_add, List.replicate_zero, List.append_nil, List.mem_cons, Nat.reduceEqDiff, or_false, or_self, reduceIte, decide_true, decide_false, Nat.reduceLeDiff, Nat.reduceLT, Nat.le_refl, isTup]
open Classical in
theorem is_order_e (x : PyData) (n : Int) (hn : 0 ≤ n) (hn2 : n ≤ 1000) : f_is_order [.d x, .d (.int n)] = .rt (.d (.bool (decide (IsOrd x n)))) [none, none] := by
  cases x with
  | tuple xs =>
    have hc : compGo (gN 2) tYesD (eFrz (eCall 1 f_is_whole (avD (eVar 2) (avNil)))) [2] xs [] [some (.d (.tuple xs)), some (.d (.int n)), none] = .ok ([] ++ xs.map fun x => .bool (whole x)) [some (.d (.tuple xs)), some (.d (.int n)), none] := by
      refine compGo_id (fun x => .bool (whole x)) xs [] fun x _ => ⟨[some (.d (.tuple xs)), some (.d (.int n)), some (.d x)], ?_, ?_, ?_⟩
      · simp only [Rs.bind_ok, Rs.bind_ex, Rs.bind_no, lift_some, lift_none, thn_nx, thn_rt, thn_bk, thn_ct, thn_ex, thn_no, to_ok, to_ex, to_no, fin_nx, fin_rt, optOut_s, optOut_n, optRs_s, optRs_n, asB_b, chB_b, eVar_eq, slotD_0, slotD_s, slotL_0, slotL_s, slotScr_0, slotScr_s, eC_eq, e2_eq, e1_eq, tb1_eq, tt1_eq, tNotD_eq, tAndD_eq, tOrD_eq, eNot_eq, eAnd_eq, eOr_eq, eIf_eq, eChain_eq, aNil_eq, aCons_eq, aOne_eq, eTup_eq, eLst_eq, mLst_eq, mD_eq, eFrz_eq, frzM_d, frzM_l, eB_eq, eListScr_eq, ixOf_i, eIxO_eq, pNo_eq, pSome_eq, oInt_i, eSlice_eq, eBO_eq, e2R_eq, ttO_eq, eTupO_eq, eListO_eq, eIsi_eq, eListRg_eq, mListRg_eq, eMt_eq, seqOne_l, seqOne_t, mList_eq, itSeq_eq, itB_eq, seqOf_l, seqOf_t, avNil_eq, avD_eq, avS_eq, avMs_nil, avMs_cons, avM_d, avM_sl, jsOf_nil, jsOf_d, jsOf_s, putBack_nil, putBack_d, putBack_s, toRs_rt, callM_eq, eCall_eq, sThen_eq, sE_eq, sNx_eq, sBk_eq, sCt_eq, sNo_eq, sRet_eq, sRetN_eq, sDrop_eq, sIf_eq, sSet_eq, sAsg_eq, sAug_eq, sSetItem_eq, asI_i, setIt_eq, sFor_eq, runDef_eq, start0_eq, outs_nil, outs_cons, rep_succ, mvM_l, mvM_d, alNil_eq, alD_eq, alL_eq, alMs_nil, alMs_cons, alM_d, alM_l, toSc_rt, eCallL_eq, bEnum_l, bEnum_t, eSM_eq, isSq_l, isSq_t, cntD_l, cntD_t, mVar_eq, mvF_l, mvF_d, eVarF_eq, dAdd_ii, dAddI_ii, dSub_ii, dMul_ii, dDiv_ii, dMod_ii, dLt_ii, dLe_ii, dGt_ii, dGe_ii, dNeg_i, dEq_ii, dNe_ii, dEq_bb, dNe_bb, dIs_none, dIsNot_none, isNon_none, isNon_b, isNon_i, isNon_s, isNon_l, isNon_t, tru_b, tru_i, tru_n, tru_l, tru_t, bLen_l, bLen_t, bAbs_i, bInt_i, bInt_b, bSum_l, bSum_t, bAll_l, bAny_l, bTup_l, bTup_t, bList_l, bList_t, bSorted_l, bSorted_t, bMax_ii, bMin_ii, bRange1_i, bZip_l, bZip_t, bZip3_t, dIx_l, dIx_t, dSlice_l, dSlice_t, isI_1, isI_2, isI_3, isI_4, isI_5, isI_6, isI_7, isI_8, isI_9, isI_10, isI_11, isI_12, isI_13, isI_14, isI_15, isI_16, isI_17, isI_18, isI_19, isI_20, isI_21, isI_22, isI_23, isI_24, isI_25, isI_26, scalar_1, scalar_2, scalar_3, scalar_4, chkS_i, chkS_b, gN_eq, gT_eq, gTL_eq, gsN_nil, gsC_cons, wipeE_nil, wipeE_cons, restE_nil, restE_cons, keepD_n, keepD_d, keepD_l, keepD_x, tYesD_eq, eComp_eq, mComp_eq, compR_ok, compGo_nil, forGo_nil, lp_nx, lp_ct, lp_bk, lp_rt, atI_2, atI_3, atI_4, atI_5, atI_6, atI_7, atI_zero, atI_one, dPow_10_18, beq_self_eq_true, List.map_cons, List.map_nil, List.length_cons, List.length_nil, List.cons_append, List.nil_append, List.set_cons_succ, List.set_cons_zero, List.getElem?_cons_succ, List.getElem?_cons_zero, Option.join_some, Option.map_some, Option.bind_some, List.tail_cons, List.head?_cons, if_true, if_false, Bool.false_eq_true, Bool.true_eq_false, and_true, true_and, List.nodup_cons, List.not_mem_nil, not_false_eq_true, List.nodup_nil, Bool.not_true, Bool.not_false, ite_true, ite_false, Nat.reduceAdd, Nat.reduceSub, Nat.zero_add, List.replicate_zero, List.append_nil, List.mem_cons, Nat.reduceEqDiff, or_false, or_self, reduceIte, decide_true, decide_false, Nat.reduceLeDiff, Nat.reduceLT, Nat.le_refl]
      · simp only [Rs.bind_ok, Rs.bind_ex, Rs.bind_no, lift_some, lift_none, thn_nx, thn_rt, thn_bk, thn_ct, thn_ex, thn_no, to_ok, to_ex, to_no, fin_nx, fin_rt, optOut_s, optOut_n, optRs_s, optRs_n, asB_b, chB_b, eVar_eq, slotD_0, slotD_s, slotL_0, slotL_s, slotScr_0, slotScr_s, eC_eq, e2_eq, e1_eq, tb1_eq, tt1_eq, tNotD_eq, tAndD_eq, tOrD_eq, eNot_eq, eAnd_eq, eOr_eq, eIf_eq, eChain_eq, aNil_eq, aCons_eq, aOne_eq, eTup_eq, eLst_eq, mLst_eq, mD_eq, eFrz_eq, frzM_d, frzM_l, eB_eq, eListScr_eq, ixOf_i, eIxO_eq, pNo_eq, pSome_eq, oInt_i, eSlice_eq, eBO_eq, e2R_eq, ttO_eq, eTupO_eq, eListO_eq, eIsi_eq, eListRg_eq, mListRg_eq, eMt_eq, seqOne_l, seqOne_t, mList_eq, itSeq_eq, itB_eq, seqOf_l, seqOf_t, avNil_eq, avD_eq, avS_eq, avMs_nil, avMs_cons, avM_d, avM_sl, jsOf_nil, jsOf_d, jsOf_s, putBack_nil, putBack_d, putBack_s, toRs_rt, callM_eq, eCall_eq, sThen_eq, sE_eq, sNx_eq, sBk_eq, sCt_eq, sNo_eq, sRet_eq, sRetN_eq, sDrop_eq, sIf_eq, sSet_eq, sAsg_eq, sAug_eq, sSetItem_eq, asI_i, setIt_eq, sFor_eq, runDef_eq, start0_eq, outs_nil, outs_cons, rep_succ, mvM_l, mvM_d, alNil_eq, alD_eq, alL_eq, alMs_nil, alMs_cons, alM_d, alM_l, toSc_rt, eCallL_eq, bEnum_l, bEnum_t, eSM_eq, isSq_l, isSq_t, cntD_l, cntD_t, mVar_eq, mvF_l, mvF_d, eVarF_eq, dAdd_ii, dAddI_ii, dSub_ii, dMul_ii, dDiv_ii, dMod_ii, dLt_ii, dLe_ii, dGt_ii, dGe_ii, dNeg_i, dEq_ii, dNe_ii, dEq_bb, dNe_bb, dIs_none, dIsNot_none, isNon_none, isNon_b, isNon_i, isNon_s, isNon_l, isNon_t, tru_b, tru_i, tru_n, tru_l, tru_t, bLen_l, bLen_t, bAbs_i, bInt_i, bInt_b, bSum_l, bSum_t, bAll_l, bAny_l, bTup_l, bTup_t, bList_l, bList_t, bSorted_l, bSorted_t, bMax_ii, bMin_ii, bRange1_i, bZip_l, bZip_t, bZip3_t, dIx_l, dIx_t, dSlice_l, dSlice_t, isI_1, isI_2, isI_3, isI_4, isI_5, isI_6, isI_7, isI_8, isI_9, isI_10, isI_11, isI_12, isI_13, isI_14, isI_15, isI_16, isI_17, isI_18, isI_19, isI_20, isI_21, isI_22, isI_23, isI_24, isI_25, isI_26, scalar_1, scalar_2, scalar_3, scalar_4, chkS_i, chkS_b, gN_eq, gT_eq, gTL_eq, gsN_nil, gsC_cons, wipeE_nil, wipeE_cons, restE_nil, restE_cons, keepD_n, keepD_d, keepD_l, keepD_x, tYesD_eq, eComp_eq, mComp_eq, compR_ok, compGo_nil, forGo_nil, lp_nx, lp_ct, lp_bk, lp_rt, atI_2, atI_3, atI_4, atI_5, atI_6, atI_7, atI_zero, atI_one, dPow_10_18, beq_self_eq_true, List.map_cons, List.map_nil, List.length_cons, List.length_nil, List.cons_append, List.nil_append, List.set_cons_succ, List.set_cons_zero, List.getElem?_cons_succ, List.getElem?_cons_zero, Option.join_some, Option.map_some, Option.bind_some, List.tail_cons, List.head?_cons, if_true, if_false, Bool.false_eq_true, Bool.true_eq_false, and_true, true_and, List.nodup_cons, List.not_mem_nil, not_false_eq_true, List.nodup_nil, Bool.not_true, Bool.not_false, ite_true, ite_false, Nat.reduceAdd, Nat.reduceSub, Nat.zero_add, List.replicate_zero, List.append_nil, List.mem_cons, Nat.reduceEqDiff, or_false, or_self, reduceIte, decide_true, decide_false, Nat.reduceLeDiff, Nat.reduceLT, Nat.le_refl, is_whole_e]
      · simp only [Rs.bind_ok, Rs.bind_ex, Rs.bind_no, lift_some, lift_none, thn_nx, thn_rt, thn_bk, thn_ct, thn_ex, thn_no, to_ok, to_ex, to_no, fin_nx, fin_rt, optOut_s, optOut_n, optRs_s, optRs_n, asB_b, chB_b, eVar_eq, slotD_0, slotD_s, slotL_0, slotL_s, slotScr_0, slotScr_s, eC_eq, e2_eq, e1_eq, tb1_eq, tt1_eq, tNotD_eq, tAndD_eq, tOrD_eq, eNot_eq, eAnd_eq, eOr_eq, eIf_eq, eChain_eq, aNil_eq, aCons_eq, aOne_eq, eTup_eq, eLst_eq, mLst_eq, mD_eq, eFrz_eq, frzM_d, frzM_l, eB_eq, eListScr_eq, ixOf_i, eIxO_eq, pNo_eq, pSome_eq, oInt_i, eSlice_eq, eBO_eq, e2R_eq, ttO_eq, eTupO_eq, eListO_eq, eIsi_eq, eListRg_eq, mListRg_eq, eMt_eq, seqOne_l, seqOne_t, mList_eq, itSeq_eq, itB_eq, seqOf_l, seqOf_t, avNil_eq, avD_eq, avS_eq, avMs_nil, avMs_cons, avM_d, avM_sl, jsOf_nil, jsOf_d, jsOf_s, putBack_nil, putBack_d, putBack_s, toRs_rt, callM_eq, eCall_eq, sThen_eq, sE_eq, sNx_eq, sBk_eq, sCt_eq, sNo_eq, sRet_eq, sRetN_eq, sDrop_eq, sIf_eq, sSet_eq, sAsg_eq, sAug_eq, sSetItem_eq, asI_i, setIt_eq, sFor_eq, runDef_eq, start0_eq, outs_nil, outs_cons, rep_succ, mvM_l, mvM_d, alNil_eq, alD_eq, alL_eq, alMs_nil, alMs_cons, alM_d, alM_l, toSc_rt, eCallL_eq, bEnum_l, bEnum_t, eSM_eq, isSq_l, isSq_t, cntD_l, cntD_t, mVar_eq, mvF_l, mvF_d, eVarF_eq, dAdd_ii, dAddI_ii, dSub_ii, dMul_ii, dDiv_ii, dMod_ii, dLt_ii, dLe_ii, dGt_ii, dGe_ii, dNeg_i, dEq_ii, dNe_ii, dEq_bb, dNe_bb, dIs_none, dIsNot_none, isNon_none, isNon_b, isNon_i, isNon_s, isNon_l, isNon_t, tru_b, tru_i, tru_n, tru_l, tru_t, bLen_l, bLen_t, bAbs_i, bInt_i, bInt_b, bSum_l, bSum_t, bAll_l, bAny_l, bTup_l, bTup_t, bList_l, bList_t, bSorted_l, bSorted_t, bMax_ii, bMin_ii, bRange1_i, bZip_l, bZip_t, bZip3_t, dIx_l, dIx_t, dSlice_l, dSlice_t, isI_1, isI_2, isI_3, isI_4, isI_5, isI_6, isI_7, isI_8, isI_9, isI_10, isI_11, isI_12, isI_13, isI_14, isI_15, isI_16, isI_17, isI_18, isI_19, isI_20, isI_21, isI_22, isI_23, isI_24, isI_25, isI_26, scalar_1, scalar_2, scalar_3, scalar_4, chkS_i, chkS_b, gN_eq, gT_eq, gTL_eq, gsN_nil, gsC_cons, wipeE_nil, wipeE_cons, restE_nil, restE_cons, keepD_n, keepD_d, keepD_l, keepD_x, tYesD_eq, eComp_eq, mComp_eq, compR_ok, compGo_nil, forGo_nil, lp_nx, lp_ct, lp_bk, lp_rt, atI_2, atI_3, atI_4, atI_5, atI_6, atI_7, atI_zero, atI_one, dPow_10_18, beq_self_eq_true, List.map_cons, List.map_nil, List.length_cons, List.length_nil, List.cons_append, List.nil_append, List.set_cons_succ, List.set_cons_zero, List.getElem?_cons_succ, List.getElem?_cons_zero, Option.join_some, Option.map_some, Option.bind_some, List.tail_cons, List.head?_cons, if_true, if_false, Bool.false_eq_true, Bool.true_eq_false, and_true, true_and, List.nodup_cons, List.not_mem_nil, not_false_eq_true, List.nodup_nil, Bool.not_true, Bool.not_false, ite_true, ite_false, Nat.reduceAdd, Nat.reduceSub, Nat.zero_add, List.replicate_zero, List.append_nil, List.mem_cons, Nat.reduceEqDiff, or_false, or_self, reduceIte, decide_true, decide_false, Nat.reduceLeDiff, Nat.reduceLT, Nat.le_refl]
    have hm : (xs.map fun x => PyData.bool (whole x)) = (xs.map whole).map .bool := by rw [List.map_map]; rfl
    by_cases hl : (xs.length : Int) = n
    · have hl' : (!((xs.length : Int) == n)) = false := by simp [hl]
      by_cases ha : ((xs.map whole).all id) = true
      · have hw : ∀ x ∈ xs, whole x = true := fun x hx => by
          have := List.all_eq_true.1 ha (whole x) (List.mem_map_of_mem hx)
          exact this
        obtain ⟨ns, rfl⟩ := ints_of_whole xs hw
        have hln : ns.length = n.toNat := by simp at hl; omega
        have key : dEq (.list ((sortI ns).map .int)) (.list (rangeD 0 n.toNat)) = some (.bool (decide (IsOrd (.tuple (ns.map .int)) n))) := by
          have e1 : rangeD 0 n.toNat = ((List.range ns.length).map fun i : Nat => (i : Int)).map .int := by
            rw [rangeD_eq, List.map_map, hln]; rfl
          rw [e1, dEq_ll]
          have hs : ((List.range ns.length).map fun i : Nat => (i : Int)).Pairwise (· ≤ ·) := by
            rw [List.pairwise_map]
            exact List.pairwise_lt_range.imp fun h => by omega
          refine congrArg (fun b => some (PyData.bool b)) (Bool.eq_iff_iff.2 ?_)
          rw [decide_eq_true_eq, beq_iff_eq]
          refine ⟨fun h => ⟨ns, rfl, by simpa using hl, h ▸ (sortI_perm ns).symm⟩, fun ⟨ms, h1, _, h4⟩ => ?_⟩
          have := map_int_inj (PyData.tuple.inj h1)
          subst this
          exact sorted_unique ((sortI_perm ns).trans h4) (sortI_sorted ns) hs
        have hr : n ≤ 16777216 ∧ -(2 ^ 62) ≤ n := by constructor <;> omega
        simp only [f_is_order, b_is_order, Rs.bind_ok, Rs.bind_ex, Rs.bind_no, lift_some, lift_none, thn_nx, thn_rt, thn_bk, thn_ct, thn_ex, thn_no, to_ok, to_ex, to_no, fin_nx, fin_rt, optOut_s, optOut_n, optRs_s, optRs_n, asB_b, chB_b, eVar_eq, slotD_0, slotD_s, slotL_0, slotL_s, slotScr_0, slotScr_s, eC_eq, e2_eq, e1_eq, tb1_eq, tt1_eq, tNotD_eq, tAndD_eq, tOrD_eq, eNot_eq, eAnd_eq, eOr_eq, eIf_eq, eChain_eq, aNil_eq, aCons_eq, aOne_eq, eTup_eq, eLst_eq, mLst_eq, mD_eq, eFrz_eq, frzM_d, frzM_l, eB_eq, eListScr_eq, ixOf_i, eIxO_eq, pNo_eq, pSome_eq, oInt_i, eSlice_eq, eBO_eq, e2R_eq, ttO_eq, eTupO_eq, eListO_eq, eIsi_eq, eListRg_eq, mListRg_eq, eMt_eq, seqOne_l, seqOne_t, mList_eq, itSeq_eq, itB_eq, seqOf_l, seqOf_t, avNil_eq, avD_eq, avS_eq, avMs_nil, avMs_cons, avM_d, avM_sl, jsOf_nil, jsOf_d, jsOf_s, putBack_nil, putBack_d, putBack_s, toRs_rt, callM_eq, eCall_eq, sThen_eq, sE_eq, sNx_eq, sBk_eq, sCt_eq, sNo_eq, sRet_eq, sRetN_eq, sDrop_eq, sIf_eq, sSet_eq, sAsg_eq, sAug_eq, sSetItem_eq, asI_i, setIt_eq, sFor_eq, runDef_eq, start0_eq, outs_nil, outs_cons, rep_succ, mvM_l, mvM_d, alNil_eq, alD_eq, alL_eq, alMs_nil, alMs_cons, alM_d, alM_l, toSc_rt, eCallL_eq, bEnum_l, bEnum_t, eSM_eq, isSq_l, isSq_t, cntD_l, cntD_t, mVar_eq, mvF_l, mvF_d, eVarF_eq, dAdd_ii, dAddI_ii, dSub_ii, dMul_ii, dDiv_ii, dMod_ii, dLt_ii, dLe_ii, dGt_ii, dGe_ii, dNeg_i, dEq_ii, dNe_ii, dEq_bb, dNe_bb, dIs_none, dIsNot_none, isNon_none, isNon_b, isNon_i, isNon_s, isNon_l, isNon_t, tru_b, tru_i, tru_n, tru_l, tru_t, bLen_l, bLen_t, bAbs_i, bInt_i, bInt_b, bSum_l, bSum_t, bAll_l, bAny_l, bTup_l, bTup_t, bList_l, bList_t, bSorted_l, bSorted_t, bMax_ii, bMin_ii, bRange1_i, bZip_l, bZip_t, bZip3_t, dIx_l, dIx_t, dSlice_l, dSlice_t, isI_1, isI_2, isI_3, isI_4, isI_5, isI_6, isI_7, isI_8, isI_9, isI_10, isI_11, isI_12, isI_13, isI_14, isI_15, isI_16, isI_17, isI_18, isI_19, isI_20, isI_21, isI_22, isI_23, isI_24, isI_25, isI_26, scalar_1, scalar_2, scalar_3, scalar_4, chkS_i, chkS_b, gN_eq, gT_eq, gTL_eq, gsN_nil, gsC_cons, wipeE_nil, wipeE_cons, restE_nil, restE_cons, keepD_n, keepD_d, keepD_l, keepD_x, tYesD_eq, eComp_eq, mComp_eq, compR_ok, compGo_nil, forGo_nil, lp_nx, lp_ct, lp_bk, lp_rt, atI_2, atI_3, atI_4, atI_5, atI_6, atI_7, atI_zero, atI_one, dPow_10_18, beq_self_eq_true, List.map_cons, List.map_nil, List.length_cons, List.length_nil, List.cons_append, List.nil_append, List.set_cons_succ, List.set_cons_zero, List.getElem?_cons_succ, List.getElem?_cons_zero, Option.join_some, Option.map_some, Option.bind_some, List.tail_cons, List.head?_cons, if_true, if_false, Bool.false_eq_true, Bool.true_eq_false, and_true, true_and, List.nodup_cons, List.not_mem_nil, not_false_eq_true, List.nodup_nil, Bool.not_true, Bool.not_false, ite_true, ite_false, Nat.reduceAdd, Nat.reduceSub, Nat.zero_add, List.replicate_zero, List.append_nil, List.mem_cons, Nat.reduceEqDiff, or_false, or_self, reduceIte, decide_true, decide_false, Nat.reduceLeDiff, Nat.reduceLT, Nat.le_refl, hl', hc, hm, ha, hr, key]
      · have ha' : ((xs.map whole).all id) = false := by simpa using ha
        have key : decide (IsOrd (.tuple xs) n) = false := by
          rw [decide_eq_false_iff_not]
          rintro ⟨ms, h1, _⟩
          apply ha
          rw [PyData.tuple.inj h1]
          simp [List.all_eq_true]
        simp only [f_is_order, b_is_order, Rs.bind_ok, Rs.bind_ex, Rs.bind_no, lift_some, lift_none, thn_nx, thn_rt, thn_bk, thn_ct, thn_ex, thn_no, to_ok, to_ex, to_no, fin_nx, fin_rt, optOut_s, optOut_n, optRs_s, optRs_n, asB_b, chB_b, eVar_eq, slotD_0, slotD_s, slotL_0, slotL_s, slotScr_0, slotScr_s, eC_eq, e2_eq, e1_eq, tb1_eq, tt1_eq, tNotD_eq, tAndD_eq, tOrD_eq, eNot_eq, eAnd_eq, eOr_eq, eIf_eq, eChain_eq, aNil_eq, aCons_eq, aOne_eq, eTup_eq, eLst_eq, mLst_eq, mD_eq, eFrz_eq, frzM_d, frzM_l, eB_eq, eListScr_eq, ixOf_i, eIxO_eq, pNo_eq, pSome_eq, oInt_i, eSlice_eq, eBO_eq, e2R_eq, ttO_eq, eTupO_eq, eListO_eq, eIsi_eq, eListRg_eq, mListRg_eq, eMt_eq, seqOne_l, seqOne_t, mList_eq, itSeq_eq, itB_eq, seqOf_l, seqOf_t, avNil_eq, avD_eq, avS_eq, avMs_nil, avMs_cons, avM_d, avM_sl, jsOf_nil, jsOf_d, jsOf_s, putBack_nil, putBack_d, putBack_s, toRs_rt, callM_eq, eCall_eq, sThen_eq, sE_eq, sNx_eq, sBk_eq, sCt_eq, sNo_eq, sRet_eq, sRetN_eq, sDrop_eq, sIf_eq, sSet_eq, sAsg_eq, sAug_eq, sSetItem_eq, asI_i, setIt_eq, sFor_eq, runDef_eq, start0_eq, outs_nil, outs_cons, rep_succ, mvM_l, mvM_d, alNil_eq, alD_eq, alL_eq, alMs_nil, alMs_cons, alM_d, alM_l, toSc_rt, eCallL_eq, bEnum_l, bEnum_t, eSM_eq, isSq_l, isSq_t, cntD_l, cntD_t, mVar_eq, mvF_l, mvF_d, eVarF_eq, dAdd_ii, dAddI_ii, dSub_ii, dMul_ii, dDiv_ii, dMod_ii, dLt_ii, dLe_ii, dGt_ii, dGe_ii, dNeg_i, dEq_ii, dNe_ii, dEq_bb, dNe_bb, dIs_none, dIsNot_none, isNon_none, isNon_b, isNon_i, isNon_s, isNon_l, isNon_t, tru_b, tru_i, tru_n, tru_l, tru_t, bLen_l, bLen_t, bAbs_i, bInt_i, bInt_b, bSum_l, bSum_t, bAll_l, bAny_l, bTup_l, bTup_t, bList_l, bList_t, bSorted_l, bSorted_t, bMax_ii, bMin_ii, bRange1_i, bZip_l, bZip_t, bZip3_t, dIx_l, dIx_t, dSlice_l, dSlice_t, isI_1, isI_2, isI_3, isI_4, isI_5, isI_6, isI_7, isI_8, isI_9, isI_10, isI_11, isI_12, isI_13, isI_14, isI_15, isI_16, isI_17, isI_18, isI_19, isI_20, isI_21, isI_22, isI_23, isI_24, isI_25, isI_26, scalar_1, scalar_2, scalar_3, scalar_4, chkS_i, chkS_b, gN_eq, gT_eq, gTL_eq, gsN_nil, gsC_cons, wipeE_nil, wipeE_cons, restE_nil, restE_cons, keepD_n, keepD_d, keepD_l, keepD_x, tYesD_eq, eComp_eq, mComp_eq, compR_ok, compGo_nil, forGo_nil, lp_nx, lp_ct, lp_bk, lp_rt, atI_2, atI_3, atI_4, atI_5, atI_6, atI_7, atI_zero, atI_one, dPow_10_18, beq_self_eq_true, List.map_cons, List.map_nil, List.length_cons, List.length_nil, List.cons_append, List.nil_append, List.set_cons_succ, List.set_cons_zero, List.getElem?_cons_succ, List.getElem?_cons_zero, Option.join_some, Option.map_some, Option.bind_some, List.tail_cons, List.head?_cons, if_true, if_false, Bool.false_eq_true, Bool.true_eq_false, and_true, true_and, List.nodup_cons, List.not_mem_nil, not_false_eq_true, List.nodup_nil, Bool.not_true, Bool.not_false, ite_true, ite_false, Nat.reduceAdd, Nat.reduceSub, Nat.zero_add, List.replicate_zero, List.append_nil, List.mem_cons, Nat.reduceEqDiff, or_false, or_self, reduceIte, decide_true, decide_false, Nat.reduceLeDiff, Nat.reduceLT, Nat.le_refl, hl', hc, hm, ha', key]
    · have hl' : (!((xs.length : Int) == n)) = true := by simp [hl]
      have key : decide (IsOrd (.tuple xs) n) = false := by
        rw [decide_eq_false_iff_not]
        rintro ⟨ms, h1, h2, _⟩
        apply hl
        rw [PyData.tuple.inj h1, ← h2]
        simp
      simp only [f_is_order, b_is_order, Rs.bind_ok, Rs.bind_ex, Rs.bind_no, lift_some, lift_none, thn_nx, thn_rt, thn_bk, thn_ct, thn_ex, thn_no, to_ok, to_ex, to_no, fin_nx, fin_rt, optOut_s, optOut_n, optRs_s, optRs_n, asB_b, chB_b, eVar_eq, slotD_0, slotD_s, slotL_0, slotL_s, slotScr_0, slotScr_s, eC_eq, e2_eq, e1_eq, tb1_eq, tt1_eq, tNotD_eq, tAndD_eq, tOrD_eq, eNot_eq, eAnd_eq, eOr_eq, eIf_eq, eChain_eq, aNil_eq, aCons_eq, aOne_eq, eTup_eq, eLst_eq, mLst_eq, mD_eq, eFrz_eq, frzM_d, frzM_l, eB_eq, eListScr_eq, ixOf_i, eIxO_eq, pNo_eq, pSome_eq, oInt_i, eSlice_eq, eBO_eq, e2R_eq, ttO_eq, eTupO_eq, eListO_eq, eIsi_eq, eListRg_eq, mListRg_eq, eMt_eq, seqOne_l, seqOne_t, mList_eq, itSeq_eq, itB_eq, seqOf_l, seqOf_t, avNil_eq, avD_eq, avS_eq, avMs_nil, avMs_cons, avM_d, avM_sl, jsOf_nil, jsOf_d, jsOf_s, putBack_nil, putBack_d, putBack_s, toRs_rt, callM_eq, eCall_eq, sThen_eq, sE_eq, sNx_eq, sBk_eq, sCt_eq, sNo_eq, sRet_eq, sRetN_eq, sDrop_eq, sIf_eq, sSet_eq, sAsg_eq, sAug_eq, sSetItem_eq, asI_i, setIt_eq, sFor_eq, runDef_eq, start0_eq, outs_nil, outs_cons, rep_succ, mvM_l, mvM_d, alNil_eq, alD_eq, alL_eq, alMs_nil, alMs_cons, alM_d, alM_l, toSc_rt, eCallL_eq, bEnum_l, bEnum_t, eSM_eq, isSq_l, isSq_t, cntD_l, cntD_t, mVar_eq, mvF_l, mvF_d, eVarF_eq, dAdd_ii, dAddI_ii, dSub_ii, dMul_ii, dDiv_ii, dMod_ii, dLt_ii, dLe_ii, dGt_ii, dGe_ii, dNeg_i, dEq_ii, dNe_ii, dEq_bb, dNe_bb, dIs_none, dIsNot_none, isNon_none, isNon_b, isNon_i, isNon_s, isNon_l, isNon_t, tru_b, tru_i, tru_n, tru_l, tru_t, bLen_l, bLen_t, bAbs_i, bInt_i, bInt_b, bSum_l, bSum_t, bAll_l, bAny_l, bTup_l, bTup_t, bList_l, bList_t, bSorted_l, bSorted_t, bMax_ii, bMin_ii, bRange1_i, bZip_l, bZip_t, bZip3_t, dIx_l, dIx_t, dSlice_l, dSlice_t, isI_1, isI_2, isI_3, isI_4, isI_5, isI_6, isI_7, isI_8, isI_9, isI_10, isI_11, isI_12, isI_13, isI_14, isI_15, isI_16, isI_17, isI_18, isI_19, isI_20, isI_21, isI_22, isI_23, isI_24, isI_25, isI_26, scalar_1, scalar_2, scalar_3, scalar_4, chkS_i, chkS_b, gN_eq, gT_eq, gTL_eq, gsN_nil, gsC_cons, wipeE_nil, wipeE_cons, restE_nil, restE_cons, keepD_n, keepD_d, keepD_l, keepD_x, tYesD_eq, eComp_eq, mComp_eq, compR_ok, compGo_nil, forGo_nil, lp_nx, lp_ct, lp_bk, lp_rt, atI_2, atI_3, atI_4, atI_5, atI_6, atI_7, atI_zero, atI_one, dPow_10_18, beq_self_eq_true, List.map_cons, List.map_nil, List.length_cons, List.length_nil, List.cons_append, List.nil_append, List.set_cons_succ, List.set_cons_zero, List.getElem?_cons_succ, List.getElem?_cons_zero, Option.join_some, Option.map_some, Option.bind_some, List.tail_cons, List.head?_cons, if_true, if_false, Bool.false_eq_true, Bool.true_eq_false, and_true, true_and, List.nodup_cons, List.not_mem_nil, not_false_eq_true, List.nodup_nil, Bool.not_true, Bool.not_false, ite_true, ite_false, Nat.reduceAdd, Nat.reduceSub, Nat.zero_add, List.replicate_zero, List.append_nil, List.mem_cons, Nat.reduceEqDiff, or_false, or_self, reduceIte, decide_true, decide_false, Nat.reduceLeDiff, Nat.reduceLT, Nat.le_refl, hl', key]
  | _ =>
    rw [decide_eq_false (by rintro ⟨ms, h1, _⟩; cases h1)]
    simp only [f_is_order, b_is_order, Rs.bind_ok, Rs.bind_ex, Rs.bind_no, lift_some, lift_none, thn_nx, thn_rt, thn_bk, thn_ct, thn_ex, thn_no, to_ok, to_ex, to_no, fin_nx, fin_rt, optOut_s, optOut_n, optRs_s, optRs_n, asB_b, chB_b, eVar_eq, slotD_0, slotD_s, slotL_0, slotL_s, slotScr_0, slotScr_s, eC_eq, e2_eq, e1_eq, tb1_eq, tt1_eq, tNotD_eq, tAndD_eq, tOrD_eq, eNot_eq, eAnd_eq, eOr_eq, eIf_eq, eChain_eq, aNil_eq, aCons_eq, aOne_eq, eTup_eq, eLst_eq, mLst_eq, mD_eq, eFrz_eq, frzM_d, frzM_l, eB_eq, eListScr_eq, ixOf_i, eIxO_eq, pNo_eq, pSome_eq, oInt_i, eSlice_eq, eBO_eq, e2R_eq, ttO_eq, eTupO_eq, eListO_eq, eIsi_eq, eListRg_eq, mListRg_eq, eMt_eq, seqOne_l, seqOne_t, mList_eq, itSeq_eq, itB_eq, seqOf_l, seqOf_t, avNil_eq, avD_eq, avS_eq, avMs_nil, avMs_cons, avM_d, avM_sl, jsOf_nil, jsOf_d, jsOf_s, putBack_nil, putBack_d, putBack_s, toRs_rt, callM_eq, eCall_eq, sThen_eq, sE_eq, sNx_eq, sBk_eq, sCt_eq, sNo_eq, sRet_eq, sRetN_eq, sDrop_eq, sIf_eq, sSet_eq, sAsg_eq, sAug_eq, sSetItem_eq, asI_i, setIt_eq, sFor_eq, runDef_eq, start0_eq, outs_nil, outs_cons, rep_succ, mvM_l, mvM_d, alNil_eq, alD_eq, alL_eq, alMs_nil, alMs_cons, alM_d, alM_l, toSc_rt, eCallL_eq, bEnum_l, bEnum_t, eSM_eq, isSq_l, isSq_t, cntD_l, cntD_t, mVar_eq, mvF_l, mvF_d, eVarF_eq, dAdd_ii, dAddI_ii, dSub_ii, dMul_ii, dDiv_ii, dMod_ii, dLt_ii, dLe_ii, dGt_ii, dGe_ii, dNeg_i, dEq_ii, dNe_ii, dEq_bb, dNe_bb, dIs_none, dIsNot_none, isNon_none, isNon_b, isNon_i, isNon_s, isNon_l, isNon_t, tru_b, tru_i, tru_n, tru_l, tru_t, bLen_l, bLen_t, bAbs_i, bInt_i, bInt_b, bSum_l, bSum_t, bAll_l, bAny_l, bTup_l, bTup_t, bList_l, bList_t, bSorted_l, bSorted_t, bMax_ii, bMin_ii, bRange1_i, bZip_l, bZip_t, bZip3_t, dIx_l, dIx_t, dSlice_l, dSlice_t, isI_1, isI_2, isI_3, isI_4, isI_5, isI_6, isI_7, isI_8, isI_9, isI_10, isI_11, isI_12, isI_13, isI_14, isI_15, isI_16, isI_17, isI_18, isI_19, isI_20, isI_21, isI_22, isI_23, isI_24, isI_25, isI_26, scalar_1, scalar_2, scalar_3, scalar_4, chkS_i, chkS_b, gN_eq, gT_eq, gTL_eq, gsN_nil, gsC_cons, wipeE_nil, wipeE_cons, restE_nil, restE_cons, keepD_n, keepD_d, keepD_l, keepD_x, tYesD_eq, eComp_eq, mComp_eq, compR_ok, compGo_nil, forGo_nil, lp_nx, lp_ct, lp_bk, lp_rt, atI_2, atI_3, atI_4, atI_5, atI_6, atI_7, atI_zero, atI_one, dPow_10_18, beq_self_eq_true, List.map_cons, List.map_nil, List.length_cons, List.length_nil, List.cons_append, List.nil_append, List.set_cons_succ, List.set_cons_zero, List.getElem?_cons_succ, List.getElem?_cons_zero, Option.join_some, Option.map_some, Option.bind_some, List.tail_cons, List.head?_cons, if_true, if_false, Bool.false_eq_true, Bool.true_eq_false, and_true, true_and, List.nodup_cons, List.not_mem_nil, not_false_eq_true, List.nodup_nil, Bool.not_true, Bool.not_false, ite_true, ite_false, Nat.reduceAdd, Nat.reduceSub, Nat.zero_add, List.replicate_zero, List.append_nil, List.mem_cons, Nat.reduceEqDiff, or_false, or_self, reduceIte, decide_true, decide_false, Nat.reduceLeDiff, Nat.reduceLT, Nat.le_refl, isTup]
end DCom


namespace DCom
open PySem DL
/-! draws -/
theorem sum_set : ∀ (al : List Int) (k : Nat) (h : k < al.length), (al.set k (al[k] + 1)).sum = al.sum + 1
  | [], _, h => by cases h
  | x :: xs, 0, _ => by simp; omega
  | x :: xs, k + 1, h => by
    have := sum_set xs k (by simpa using h)
    simp
    omega
theorem er_map : ∀ (xs : List Int) (k : Nat), (xs.map PyData.int).eraseIdx k = (xs.eraseIdx k).map .int
  | [], _ => by simp
  | x :: xs, 0 => by simp
  | x :: xs, k + 1 => by
    have := er_map xs k
    simp [this]
theorem er_perm : ∀ (xs : List Int) (k : Nat) (h : k < xs.length), (xs[k] :: xs.eraseIdx k).Perm xs
  | [], _, h => by cases h
  | x :: xs, 0, _ => by simp
  | x :: xs, k + 1, h => by
    have := er_perm xs k (by simpa using h)
    simp only [List.getElem_cons_succ, List.eraseIdx_cons_succ]
    exact (List.Perm.swap _ _ _).trans (this.cons x)
theorem assignment_ex (s : Strm) (v n : Int) (hv : 0 < v) (hv2 : v < 1073741824) (hn : 0 ≤ n) (hn2 : n ≤ 16777216) :
    ∃ (al : List Int) (s' : Strm), f__law_assignment [s.m, .d (.int v), .d (.int n)] = .rt (.d (.tuple (al.map .int))) [some s'.m, none, none] ∧ (al.length : Int) = n ∧ ∀ i ∈ al, 0 ≤ i ∧ i < v := by
  have hr : n ≤ 16777216 ∧ -(2 ^ 62) ≤ n := by constructor <;> omega
  obtain ⟨ys, e', h1, al, s', h2, h3, h4, h5⟩ := compGo_rel (g := gN 3) (tt := tYesD) (te := eFrz (eCall 2 f__law_next (avS 0 (avD (eVar 1) (avNil))))) (vs := [3])
    (fun xs acc e => ∃ (al : List Int) (s : Strm), acc = al.map .int ∧ e = [some s.m, some (.d (.int v)), some (.d (.int n)), none] ∧ (al.length + xs.length : Int) = n ∧ ∀ i ∈ al, 0 ≤ i ∧ i < v) (by
      rintro x xs acc e ⟨al, s, rfl, rfl, h1, h2⟩
      obtain ⟨d, s', e1, h3, h4⟩ := next_ex s v hv hv2
      refine ⟨[some s.m, some (.d (.int v)), some (.d (.int n)), some (.d x)], .int d, [some s'.m, some (.d (.int v)), some (.d (.int n)), some (.d x)], ?_, rfl, ?_, al ++ [d], s', ?_, ?_, ?_, ?_⟩
      · simp only [Rs.bind_ok, Rs.bind_ex, Rs.bind_no, lift_some, lift_none, thn_nx, thn_rt, thn_bk, thn_ct, thn_ex, thn_no, to_ok, to_ex, to_no, fin_nx, fin_rt, optOut_s, optOut_n, optRs_s, optRs_n, asB_b, chB_b, eVar_eq, slotD_0, slotD_s, slotL_0, slotL_s, slotScr_0, slotScr_s, eC_eq, e2_eq, e1_eq, tb1_eq, tt1_eq, tNotD_eq, tAndD_eq, tOrD_eq, eNot_eq, eAnd_eq, eOr_eq, eIf_eq, eChain_eq, aNil_eq, aCons_eq, aOne_eq, eTup_eq, eLst_eq, mLst_eq, mD_eq, eFrz_eq, frzM_d, frzM_l, eB_eq, eListScr_eq, ixOf_i, eIxO_eq, pNo_eq, pSome_eq, oInt_i, eSlice_eq, eBO_eq, e2R_eq, ttO_eq, eTupO_eq, eListO_eq, eIsi_eq, eListRg_eq, mListRg_eq, eMt_eq, seqOne_l, seqOne_t, mList_eq, itSeq_eq, itB_eq, seqOf_l, seqOf_t, avNil_eq, avD_eq, avS_eq, avMs_nil, avMs_cons, avM_d, avM_sl, jsOf_nil, jsOf_d, jsOf_s, putBack_nil, putBack_d, putBack_s, toRs_rt, callM_eq, eCall_eq, sThen_eq, sE_eq, sNx_eq, sBk_eq, sCt_eq, sNo_eq, sRet_eq, sRetN_eq, sDrop_eq, sIf_eq, sSet_eq, sAsg_eq, sAug_eq, sSetItem_eq, asI_i, setIt_eq, sFor_eq, runDef_eq, start0_eq, outs_nil, outs_cons, rep_succ, mvM_l, mvM_d, alNil_eq, alD_eq, alL_eq, alMs_nil, alMs_cons, alM_d, alM_l, toSc_rt, eCallL_eq, bEnum_l, bEnum_t, eSM_eq, isSq_l, isSq_t, cntD_l, cntD_t, mVar_eq, mvF_l, mvF_d, eVarF_eq, dAdd_ii, dAddI_ii, dSub_ii, dMul_ii, dDiv_ii, dMod_ii, dLt_ii, dLe_ii, dGt_ii, dGe_ii, dNeg_i, dEq_ii, dNe_ii, dEq_bb, dNe_bb, dIs_none, dIsNot_none, isNon_none, isNon_b, isNon_i, isNon_s, isNon_l, isNon_t, tru_b, tru_i, tru_n, tru_l, tru_t, bLen_l, bLen_t, bAbs_i, bInt_i, bInt_b, bSum_l, bSum_t, bAll_l, bAny_l, bTup_l, bTup_t, bList_l, bList_t, bSorted_l, bSorted_t, bMax_ii, bMin_ii, bRange1_i, bZip_l, bZip_t, bZip3_t, dIx_l, dIx_t, dSlice_l, dSlice_t, isI_1, isI_2, isI_3, isI_4, isI_5, isI_6, isI_7, isI_8, isI_9, isI_10, isI_11, isI_12, isI_13, isI_14, isI_15, isI_16, isI_17, isI_18, isI_19, isI_20, isI_21, isI_22, isI_23, isI_24, isI_25, isI_26, scalar_1, scalar_2, scalar_3, scalar_4, chkS_i, chkS_b, gN_eq, gT_eq, gTL_eq, gsN_nil, gsC_cons, wipeE_nil, wipeE_cons, restE_nil, restE_cons, keepD_n, keepD_d, keepD_l, keepD_x, tYesD_eq, eComp_eq, mComp_eq, compR_ok, compGo_nil, forGo_nil, lp_nx, lp_ct, lp_bk, lp_rt, atI_2, atI_3, atI_4, atI_5, atI_6, atI_7, atI_zero, atI_one, dPow_10_18, beq_self_eq_true, List.map_cons, List.map_nil, List.length_cons, List.length_nil, List.cons_append, List.nil_append, List.set_cons_succ, List.set_cons_zero, List.getElem?_cons_succ, List.getElem?_cons_zero, Option.join_some, Option.map_some, Option.bind_some, List.tail_cons, List.head?_cons, if_true, if_false, Bool.false_eq_true, Bool.true_eq_false, and_true, true_and, List.nodup_cons, List.not_mem_nil, not_false_eq_true, List.nodup_nil, Bool.not_true, Bool.not_false, ite_true, ite_false, Nat.reduceAdd, Nat.reduceSub, Nat.zero_add, List.replicate_zero, List.append_nil, List.mem_cons, Nat.reduceEqDiff, or_false, or_self, reduceIte, decide_true, decide_false, Nat.reduceLeDiff, Nat.reduceLT, Nat.le_refl]
      · simp only [Rs.bind_ok, Rs.bind_ex, Rs.bind_no, lift_some, lift_none, thn_nx, thn_rt, thn_bk, thn_ct, thn_ex, thn_no, to_ok, to_ex, to_no, fin_nx, fin_rt, optOut_s, optOut_n, optRs_s, optRs_n, asB_b, chB_b, eVar_eq, slotD_0, slotD_s, slotL_0, slotL_s, slotScr_0, slotScr_s, eC_eq, e2_eq, e1_eq, tb1_eq, tt1_eq, tNotD_eq, tAndD_eq, tOrD_eq, eNot_eq, eAnd_eq, eOr_eq, eIf_eq, eChain_eq, aNil_eq, aCons_eq, aOne_eq, eTup_eq, eLst_eq, mLst_eq, mD_eq, eFrz_eq, frzM_d, frzM_l, eB_eq, eListScr_eq, ixOf_i, eIxO_eq, pNo_eq, pSome_eq, oInt_i, eSlice_eq, eBO_eq, e2R_eq, ttO_eq, eTupO_eq, eListO_eq, eIsi_eq, eListRg_eq, mListRg_eq, eMt_eq, seqOne_l, seqOne_t, mList_eq, itSeq_eq, itB_eq, seqOf_l, seqOf_t, avNil_eq, avD_eq, avS_eq, avMs_nil, avMs_cons, avM_d, avM_sl, jsOf_nil, jsOf_d, jsOf_s, putBack_nil, putBack_d, putBack_s, toRs_rt, callM_eq, eCall_eq, sThen_eq, sE_eq, sNx_eq, sBk_eq, sCt_eq, sNo_eq, sRet_eq, sRetN_eq, sDrop_eq, sIf_eq, sSet_eq, sAsg_eq, sAug_eq, sSetItem_eq, asI_i, setIt_eq, sFor_eq, runDef_eq, start0_eq, outs_nil, outs_cons, rep_succ, mvM_l, mvM_d, alNil_eq, alD_eq, alL_eq, alMs_nil, alMs_cons, alM_d, alM_l, toSc_rt, eCallL_eq, bEnum_l, bEnum_t, eSM_eq, isSq_l, isSq_t, cntD_l, cntD_t, mVar_eq, mvF_l, mvF_d, eVarF_eq, dAdd_ii, dAddI_ii, dSub_ii, dMul_ii, dDiv_ii, dMod_ii, dLt_ii, dLe_ii, dGt_ii, dGe_ii, dNeg_i, dEq_ii, dNe_ii, dEq_bb, dNe_bb, dIs_none, dIsNot_none, isNon_none, isNon_b, isNon_i, isNon_s, isNon_l, isNon_t, tru_b, tru_i, tru_n, tru_l, tru_t, bLen_l, bLen_t, bAbs_i, bInt_i, bInt_b, bSum_l, bSum_t, bAll_l, bAny_l, bTup_l, bTup_t, bList_l, bList_t, bSorted_l, bSorted_t, bMax_ii, bMin_ii, bRange1_i, bZip_l, bZip_t, bZip3_t, dIx_l, dIx_t, dSlice_l, dSlice_t, isI_1, isI_2, isI_3, isI_4, isI_5, isI_6, isI_7, isI_8, isI_9, isI_10, isI_11, isI_12, isI_13, isI_14, isI_15, isI_16, isI_17, isI_18, isI_19, isI_20, isI_21, isI_22, isI_23, isI_24, isI_25, isI_26, scalar_1, scalar_2, scalar_3, scalar_4, chkS_i, chkS_b, gN_eq, gT_eq, gTL_eq, gsN_nil, gsC_cons, wipeE_nil, wipeE_cons, restE_nil, restE_cons, keepD_n, keepD_d, keepD_l, keepD_x, tYesD_eq, eComp_eq, mComp_eq, compR_ok, compGo_nil, forGo_nil, lp_nx, lp_ct, lp_bk, lp_rt, atI_2, atI_3, atI_4, atI_5, atI_6, atI_7, atI_zero, atI_one, dPow_10_18, beq_self_eq_true, List.map_cons, List.map_nil, List.length_cons, List.length_nil, List.cons_append, List.nil_append, List.set_cons_succ, List.set_cons_zero, List.getElem?_cons_succ, List.getElem?_cons_zero, Option.join_some, Option.map_some, Option.bind_some, List.tail_cons, List.head?_cons, if_true, if_false, Bool.false_eq_true, Bool.true_eq_false, and_true, true_and, List.nodup_cons, List.not_mem_nil, not_false_eq_true, List.nodup_nil, Bool.not_true, Bool.not_false, ite_true, ite_false, Nat.reduceAdd, Nat.reduceSub, Nat.zero_add, List.replicate_zero, List.append_nil, List.mem_cons, Nat.reduceEqDiff, or_false, or_self, reduceIte, decide_true, decide_false, Nat.reduceLeDiff, Nat.reduceLT, Nat.le_refl, e1]
      · simp
      · simp only [Rs.bind_ok, Rs.bind_ex, Rs.bind_no, lift_some, lift_none, thn_nx, thn_rt, thn_bk, thn_ct, thn_ex, thn_no, to_ok, to_ex, to_no, fin_nx, fin_rt, optOut_s, optOut_n, optRs_s, optRs_n, asB_b, chB_b, eVar_eq, slotD_0, slotD_s, slotL_0, slotL_s, slotScr_0, slotScr_s, eC_eq, e2_eq, e1_eq, tb1_eq, tt1_eq, tNotD_eq, tAndD_eq, tOrD_eq, eNot_eq, eAnd_eq, eOr_eq, eIf_eq, eChain_eq, aNil_eq, aCons_eq, aOne_eq, eTup_eq, eLst_eq, mLst_eq, mD_eq, eFrz_eq, frzM_d, frzM_l, eB_eq, eListScr_eq, ixOf_i, eIxO_eq, pNo_eq, pSome_eq, oInt_i, eSlice_eq, eBO_eq, e2R_eq, ttO_eq, eTupO_eq, eListO_eq, eIsi_eq, eListRg_eq, mListRg_eq, eMt_eq, seqOne_l, seqOne_t, mList_eq, itSeq_eq, itB_eq, seqOf_l, seqOf_t, avNil_eq, avD_eq, avS_eq, avMs_nil, avMs_cons, avM_d, avM_sl, jsOf_nil, jsOf_d, jsOf_s, putBack_nil, putBack_d, putBack_s, toRs_rt, callM_eq, eCall_eq, sThen_eq, sE_eq, sNx_eq, sBk_eq, sCt_eq, sNo_eq, sRet_eq, sRetN_eq, sDrop_eq, sIf_eq, sSet_eq, sAsg_eq, sAug_eq, sSetItem_eq, asI_i, setIt_eq, sFor_eq, runDef_eq, start0_eq, outs_nil, outs_cons, rep_succ, mvM_l, mvM_d, alNil_eq, alD_eq, alL_eq, alMs_nil, alMs_cons, alM_d, alM_l, toSc_rt, eCallL_eq, bEnum_l, bEnum_t, eSM_eq, isSq_l, isSq_t, cntD_l, cntD_t, mVar_eq, mvF_l, mvF_d, eVarF_eq, dAdd_ii, dAddI_ii, dSub_ii, dMul_ii, dDiv_ii, dMod_ii, dLt_ii, dLe_ii, dGt_ii, dGe_ii, dNeg_i, dEq_ii, dNe_ii, dEq_bb, dNe_bb, dIs_none, dIsNot_none, isNon_none, isNon_b, isNon_i, isNon_s, isNon_l, isNon_t, tru_b, tru_i, tru_n, tru_l, tru_t, bLen_l, bLen_t, bAbs_i, bInt_i, bInt_b, bSum_l, bSum_t, bAll_l, bAny_l, bTup_l, bTup_t, bList_l, bList_t, bSorted_l, bSorted_t, bMax_ii, bMin_ii, bRange1_i, bZip_l, bZip_t, bZip3_t, dIx_l, dIx_t, dSlice_l, dSlice_t, isI_1, isI_2, isI_3, isI_4, isI_5, isI_6, isI_7, isI_8, isI_9, isI_10, isI_11, isI_12, isI_13, isI_14, isI_15, isI_16, isI_17, isI_18, isI_19, isI_20, isI_21, isI_22, isI_23, isI_24, isI_25, isI_26, scalar_1, scalar_2, scalar_3, scalar_4, chkS_i, chkS_b, gN_eq, gT_eq, gTL_eq, gsN_nil, gsC_cons, wipeE_nil, wipeE_cons, restE_nil, restE_cons, keepD_n, keepD_d, keepD_l, keepD_x, tYesD_eq, eComp_eq, mComp_eq, compR_ok, compGo_nil, forGo_nil, lp_nx, lp_ct, lp_bk, lp_rt, atI_2, atI_3, atI_4, atI_5, atI_6, atI_7, atI_zero, atI_one, dPow_10_18, beq_self_eq_true, List.map_cons, List.map_nil, List.length_cons, List.length_nil, List.cons_append, List.nil_append, List.set_cons_succ, List.set_cons_zero, List.getElem?_cons_succ, List.getElem?_cons_zero, Option.join_some, Option.map_some, Option.bind_some, List.tail_cons, List.head?_cons, if_true, if_false, Bool.false_eq_true, Bool.true_eq_false, and_true, true_and, List.nodup_cons, List.not_mem_nil, not_false_eq_true, List.nodup_nil, Bool.not_true, Bool.not_false, ite_true, ite_false, Nat.reduceAdd, Nat.reduceSub, Nat.zero_add, List.replicate_zero, List.append_nil, List.mem_cons, Nat.reduceEqDiff, or_false, or_self, reduceIte, decide_true, decide_false, Nat.reduceLeDiff, Nat.reduceLT, Nat.le_refl]
      · simp at h1 ⊢
        omega
      · intro i hi
        rcases List.mem_append.1 hi with hi | hi
        · exact h2 i hi
        · rw [List.mem_singleton.1 hi]
          exact ⟨h3, h4⟩) (rangeD 0 n.toNat) [] [some s.m, some (.d (.int v)), some (.d (.int n)), none] ⟨[], s, rfl, rfl, by simp [rangeD_len]; omega, by simp⟩
  refine ⟨al, s', ?_, by simpa using h4, h5⟩
  simp only [f__law_assignment, b__law_assignment, Rs.bind_ok, Rs.bind_ex, Rs.bind_no, lift_some, lift_none, thn_nx, thn_rt, thn_bk, thn_ct, thn_ex, thn_no, to_ok, to_ex, to_no, fin_nx, fin_rt, optOut_s, optOut_n, optRs_s, optRs_n, asB_b, chB_b, eVar_eq, slotD_0, slotD_s, slotL_0, slotL_s, slotScr_0, slotScr_s, eC_eq, e2_eq, e1_eq, tb1_eq, tt1_eq, tNotD_eq, tAndD_eq, tOrD_eq, eNot_eq, eAnd_eq, eOr_eq, eIf_eq, eChain_eq, aNil_eq, aCons_eq, aOne_eq, eTup_eq, eLst_eq, mLst_eq, mD_eq, eFrz_eq, frzM_d, frzM_l, eB_eq, eListScr_eq, ixOf_i, eIxO_eq, pNo_eq, pSome_eq, oInt_i, eSlice_eq, eBO_eq, e2R_eq, ttO_eq, eTupO_eq, eListO_eq, eIsi_eq, eListRg_eq, mListRg_eq, eMt_eq, seqOne_l, seqOne_t, mList_eq, itSeq_eq, itB_eq, seqOf_l, seqOf_t, avNil_eq, avD_eq, avS_eq, avMs_nil, avMs_cons, avM_d, avM_sl, jsOf_nil, jsOf_d, jsOf_s, putBack_nil, putBack_d, putBack_s, toRs_rt, callM_eq, eCall_eq, sThen_eq, sE_eq, sNx_eq, sBk_eq, sCt_eq, sNo_eq, sRet_eq, sRetN_eq, sDrop_eq, sIf_eq, sSet_eq, sAsg_eq, sAug_eq, sSetItem_eq, asI_i, setIt_eq, sFor_eq, runDef_eq, start0_eq, outs_nil, outs_cons, rep_succ, mvM_l, mvM_d, alNil_eq, alD_eq, alL_eq, alMs_nil, alMs_cons, alM_d, alM_l, toSc_rt, eCallL_eq, bEnum_l, bEnum_t, eSM_eq, isSq_l, isSq_t, cntD_l, cntD_t, mVar_eq, mvF_l, mvF_d, eVarF_eq, dAdd_ii, dAddI_ii, dSub_ii, dMul_ii, dDiv_ii, dMod_ii, dLt_ii, dLe_ii, dGt_ii, dGe_ii, dNeg_i, dEq_ii, dNe_ii, dEq_bb, dNe_bb, dIs_none, dIsNot_none, isNon_none, isNon_b, isNon_i, isNon_s, isNon_l, isNon_t, tru_b, tru_i, tru_n, tru_l, tru_t, bLen_l, bLen_t, bAbs_i, bInt_i, bInt_b, bSum_l, bSum_t, bAll_l, bAny_l, bTup_l, bTup_t, bList_l, bList_t, bSorted_l, bSorted_t, bMax_ii, bMin_ii, bRange1_i, bZip_l, bZip_t, bZip3_t, dIx_l, dIx_t, dSlice_l, dSlice_t, isI_1, isI_2, isI_3, isI_4, isI_5, isI_6, isI_7, isI_8, isI_9, isI_10, isI_11, isI_12, isI_13, isI_14, isI_15, isI_16, isI_17, isI_18, isI_19, isI_20, isI_21, isI_22, isI_23, isI_24, isI_25, isI_26, scalar_1, scalar_2, scalar_3, scalar_4, chkS_i, chkS_b, gN_eq, gT_eq, gTL_eq, gsN_nil, gsC_cons, wipeE_nil, wipeE_cons, restE_nil, restE_cons, keepD_n, keepD_d, keepD_l, keepD_x, tYesD_eq, eComp_eq, mComp_eq, compR_ok, compGo_nil, forGo_nil, lp_nx, lp_ct, lp_bk, lp_rt, atI_2, atI_3, atI_4, atI_5, atI_6, atI_7, atI_zero, atI_one, dPow_10_18, beq_self_eq_true, List.map_cons, List.map_nil, List.length_cons, List.length_nil, List.cons_append, List.nil_append, List.set_cons_succ, List.set_cons_zero, List.getElem?_cons_succ, List.getElem?_cons_zero, Option.join_some, Option.map_some, Option.bind_some, List.tail_cons, List.head?_cons, if_true, if_false, Bool.false_eq_true, Bool.true_eq_false, and_true, true_and, List.nodup_cons, List.not_mem_nil, not_false_eq_true, List.nodup_nil, Bool.not_true, Bool.not_false, ite_true, ite_false, Nat.reduceAdd, Nat.reduceSub, Nat.zero_add, List.replicate_zero, List.append_nil, List.mem_cons, Nat.reduceEqDiff, or_false, or_self, reduceIte, decide_true, decide_false, Nat.reduceLeDiff, Nat.reduceLT, Nat.le_refl, hr, h1, h2, h3]
theorem allocation_ex (s : Strm) (v n : Int) (hv : 0 < v) (hv2 : v ≤ 16777216) (hn : 0 ≤ n) (hn2 : n ≤ 16777216) :
    ∃ (al : List Int) (s' : Strm), f__law_allocation [s.m, .d (.int v), .d (.int n)] = .rt (.d (.tuple (al.map .int))) [some s'.m, none, none] ∧ (al.length : Int) = v ∧ (∀ i ∈ al, 0 ≤ i) ∧ al.sum = n := by
  have hr : n ≤ 16777216 ∧ -(2 ^ 62) ≤ n := by constructor <;> omega
  have hr2 : v ≤ 16777216 ∧ -(2 ^ 62) ≤ v := by constructor <;> omega
  have h0 := compGo_id (g := gN 5) (te := eC (.int 0)) (vs := [5]) (e := [some s.m, some (.d (.int v)), some (.d (.int n)), none, none, none]) (fun _ => .int 0) (rangeD 0 v.toNat) [] (fun x _ => ⟨[some s.m, some (.d (.int v)), some (.d (.int n)), none, none, some (.d x)], rfl, rfl, rfl⟩)
  have hz : (rangeD 0 v.toNat).map (fun _ => PyData.int 0) = (List.replicate v.toNat (0 : Int)).map .int := by
    rw [List.map_const', rangeD_len, List.map_replicate]
  obtain ⟨e', h1, al, s', o4, o5, rfl, h3, h4, h5⟩ := forGo_rel (g := gN 4) (body := sThen (sSet 5 (mD (eFrz (eCall 2 f__law_next (avS 0 (avD (eVar 1) (avNil)))))))
    (sSetItem 3 (e2 dAdd (eIxO 3 (eVar 5)) (eC (.int 1))) (eVar 5)))
    (fun xs e => ∃ (al : List Int) (s : Strm) (o4 o5 : Option M), e = [some s.m, some (.d (.int v)), some (.d (.int n)), some (.l (al.map .int)), o4, o5] ∧ (al.length : Int) = v ∧ (∀ i ∈ al, 0 ≤ i) ∧ al.sum + xs.length = n) (by
      rintro x xs e ⟨al, s, o4, o5, rfl, h1, h2, h3⟩
      obtain ⟨d, s', e1, h4, h5⟩ := next_ex s v hv (by omega)
      have hd : d.toNat < al.length := by omega
      refine ⟨[some s.m, some (.d (.int v)), some (.d (.int n)), some (.l (al.map .int)), some (.d x), o5], [some s'.m, some (.d (.int v)), some (.d (.int n)), some (.l ((al.set d.toNat (al[d.toNat] + 1)).map .int)), some (.d x), some (.d (.int d))], ?_, .inl ?_, al.set d.toNat (al[d.toNat] + 1), s', _, _, rfl, ?_, ?_, ?_⟩
      · simp only [Rs.bind_ok, Rs.bind_ex, Rs.bind_no, lift_some, lift_none, thn_nx, thn_rt, thn_bk, thn_ct, thn_ex, thn_no, to_ok, to_ex, to_no, fin_nx, fin_rt, optOut_s, optOut_n, optRs_s, optRs_n, asB_b, chB_b, eVar_eq, slotD_0, slotD_s, slotL_0, slotL_s, slotScr_0, slotScr_s, eC_eq, e2_eq, e1_eq, tb1_eq, tt1_eq, tNotD_eq, tAndD_eq, tOrD_eq, eNot_eq, eAnd_eq, eOr_eq, eIf_eq, eChain_eq, aNil_eq, aCons_eq, aOne_eq, eTup_eq, eLst_eq, mLst_eq, mD_eq, eFrz_eq, frzM_d, frzM_l, eB_eq, eListScr_eq, ixOf_i, eIxO_eq, pNo_eq, pSome_eq, oInt_i, eSlice_eq, eBO_eq, e2R_eq, ttO_eq, eTupO_eq, eListO_eq, eIsi_eq, eListRg_eq, mListRg_eq, eMt_eq, seqOne_l, seqOne_t, mList_eq, itSeq_eq, itB_eq, seqOf_l, seqOf_t, avNil_eq, avD_eq, avS_eq, avMs_nil, avMs_cons, avM_d, avM_sl, jsOf_nil, jsOf_d, jsOf_s, putBack_nil, putBack_d, putBack_s, toRs_rt, callM_eq, eCall_eq, sThen_eq, sE_eq, sNx_eq, sBk_eq, sCt_eq, sNo_eq, sRet_eq, sRetN_eq, sDrop_eq, sIf_eq, sSet_eq, sAsg_eq, sAug_eq, sSetItem_eq, asI_i, setIt_eq, sFor_eq, runDef_eq, start0_eq, outs_nil, outs_cons, rep_succ, mvM_l, mvM_d, alNil_eq, alD_eq, alL_eq, alMs_nil, alMs_cons, alM_d, alM_l, toSc_rt, eCallL_eq, bEnum_l, bEnum_t, eSM_eq, isSq_l, isSq_t, cntD_l, cntD_t, mVar_eq, mvF_l, mvF_d, eVarF_eq, dAdd_ii, dAddI_ii, dSub_ii, dMul_ii, dDiv_ii, dMod_ii, dLt_ii, dLe_ii, dGt_ii, dGe_ii, dNeg_i, dEq_ii, dNe_ii, dEq_bb, dNe_bb, dIs_none, dIsNot_none, isNon_none, isNon_b, isNon_i, isNon_s, isNon_l, isNon_t, tru_b, tru_i, tru_n, tru_l, tru_t, bLen_l, bLen_t, bAbs_i, bInt_i, bInt_b, bSum_l, bSum_t, bAll_l, bAny_l, bTup_l, bTup_t, bList_l, bList_t, bSorted_l, bSorted_t, bMax_ii, bMin_ii, bRange1_i, bZip_l, bZip_t, bZip3_t, dIx_l, dIx_t, dSlice_l, dSlice_t, isI_1, isI_2, isI_3, isI_4, isI_5, isI_6, isI_7, isI_8, isI_9, isI_10, isI_11, isI_12, isI_13, isI_14, isI_15, isI_16, isI_17, isI_18, isI_19, isI_20, isI_21, isI_22, isI_23, isI_24, isI_25, isI_26, scalar_1, scalar_2, scalar_3, scalar_4, chkS_i, chkS_b, gN_eq, gT_eq, gTL_eq, gsN_nil, gsC_cons, wipeE_nil, wipeE_cons, restE_nil, restE_cons, keepD_n, keepD_d, keepD_l, keepD_x, tYesD_eq, eComp_eq, mComp_eq, compR_ok, compGo_nil, forGo_nil, lp_nx, lp_ct, lp_bk, lp_rt, atI_2, atI_3, atI_4, atI_5, atI_6, atI_7, atI_zero, atI_one, dPow_10_18, beq_self_eq_true, List.map_cons, List.map_nil, List.length_cons, List.length_nil, List.cons_append, List.nil_append, List.set_cons_succ, List.set_cons_zero, List.getElem?_cons_succ, List.getElem?_cons_zero, Option.join_some, Option.map_some, Option.bind_some, List.tail_cons, List.head?_cons, if_true, if_false, Bool.false_eq_true, Bool.true_eq_false, and_true, true_and, List.nodup_cons, List.not_mem_nil, not_false_eq_true, List.nodup_nil, Bool.not_true, Bool.not_false, ite_true, ite_false, Nat.reduceAdd, Nat.reduceSub, Nat.zero_add, List.replicate_zero, List.append_nil, List.mem_cons, Nat.reduceEqDiff, or_false, or_self, reduceIte, decide_true, decide_false, Nat.reduceLeDiff, Nat.reduceLT, Nat.le_refl]
      · have hi := ixN_int al.length d h4 (by omega)
        simp only [Rs.bind_ok, Rs.bind_ex, Rs.bind_no, lift_some, lift_none, thn_nx, thn_rt, thn_bk, thn_ct, thn_ex, thn_no, to_ok, to_ex, to_no, fin_nx, fin_rt, optOut_s, optOut_n, optRs_s, optRs_n, asB_b, chB_b, eVar_eq, slotD_0, slotD_s, slotL_0, slotL_s, slotScr_0, slotScr_s, eC_eq, e2_eq, e1_eq, tb1_eq, tt1_eq, tNotD_eq, tAndD_eq, tOrD_eq, eNot_eq, eAnd_eq, eOr_eq, eIf_eq, eChain_eq, aNil_eq, aCons_eq, aOne_eq, eTup_eq, eLst_eq, mLst_eq, mD_eq, eFrz_eq, frzM_d, frzM_l, eB_eq, eListScr_eq, ixOf_i, eIxO_eq, pNo_eq, pSome_eq, oInt_i, eSlice_eq, eBO_eq, e2R_eq, ttO_eq, eTupO_eq, eListO_eq, eIsi_eq, eListRg_eq, mListRg_eq, eMt_eq, seqOne_l, seqOne_t, mList_eq, itSeq_eq, itB_eq, seqOf_l, seqOf_t, avNil_eq, avD_eq, avS_eq, avMs_nil, avMs_cons, avM_d, avM_sl, jsOf_nil, jsOf_d, jsOf_s, putBack_nil, putBack_d, putBack_s, toRs_rt, callM_eq, eCall_eq, sThen_eq, sE_eq, sNx_eq, sBk_eq, sCt_eq, sNo_eq, sRet_eq, sRetN_eq, sDrop_eq, sIf_eq, sSet_eq, sAsg_eq, sAug_eq, sSetItem_eq, asI_i, setIt_eq, sFor_eq, runDef_eq, start0_eq, outs_nil, outs_cons, rep_succ, mvM_l, mvM_d, alNil_eq, alD_eq, alL_eq, alMs_nil, alMs_cons, alM_d, alM_l, toSc_rt, eCallL_eq, bEnum_l, bEnum_t, eSM_eq, isSq_l, isSq_t, cntD_l, cntD_t, mVar_eq, mvF_l, mvF_d, eVarF_eq, dAdd_ii, dAddI_ii, dSub_ii, dMul_ii, dDiv_ii, dMod_ii, dLt_ii, dLe_ii, dGt_ii, dGe_ii, dNeg_i, dEq_ii, dNe_ii, dEq_bb, dNe_bb, dIs_none, dIsNot_none, isNon_none, isNon_b, isNon_i, isNon_s, isNon_l, isNon_t, tru_b, tru_i, tru_n, tru_l, tru_t, bLen_l, bLen_t, bAbs_i, bInt_i, bInt_b, bSum_l, bSum_t, bAll_l, bAny_l, bTup_l, bTup_t, bList_l, bList_t, bSorted_l, bSorted_t, bMax_ii, bMin_ii, bRange1_i, bZip_l, bZip_t, bZip3_t, dIx_l, dIx_t, dSlice_l, dSlice_t, isI_1, isI_2, isI_3, isI_4, isI_5, isI_6, isI_7, isI_8, isI_9, isI_10, isI_11, isI_12, isI_13, isI_14, isI_15, isI_16, isI_17, isI_18, isI_19, isI_20, isI_21, isI_22, isI_23, isI_24, isI_25, isI_26, scalar_1, scalar_2, scalar_3, scalar_4, chkS_i, chkS_b, gN_eq, gT_eq, gTL_eq, gsN_nil, gsC_cons, wipeE_nil, wipeE_cons, restE_nil, restE_cons, keepD_n, keepD_d, keepD_l, keepD_x, tYesD_eq, eComp_eq, mComp_eq, compR_ok, compGo_nil, forGo_nil, lp_nx, lp_ct, lp_bk, lp_rt, atI_2, atI_3, atI_4, atI_5, atI_6, atI_7, atI_zero, atI_one, dPow_10_18, beq_self_eq_true, List.map_cons, List.map_nil, List.length_cons, List.length_nil, List.cons_append, List.nil_append, List.set_cons_succ, List.set_cons_zero, List.getElem?_cons_succ, List.getElem?_cons_zero, Option.join_some, Option.map_some, Option.bind_some, List.tail_cons, List.head?_cons, if_true, if_false, Bool.false_eq_true, Bool.true_eq_false, and_true, true_and, List.nodup_cons, List.not_mem_nil, not_false_eq_true, List.nodup_nil, Bool.not_true, Bool.not_false, ite_true, ite_false, Nat.reduceAdd, Nat.reduceSub, Nat.zero_add, List.replicate_zero, List.append_nil, List.mem_cons, Nat.reduceEqDiff, or_false, or_self, reduceIte, decide_true, decide_false, Nat.reduceLeDiff, Nat.reduceLT, Nat.le_refl, e1, atI_int _ _ h4, List.getElem?_map, List.getElem?_eq_getElem hd, List.length_map, hi, List.map_set]
      · rw [List.length_set]; exact h1
      · intro i hi
        rcases List.mem_or_eq_of_mem_set hi with hi | hi
        · exact h2 i hi
        · have := h2 al[d.toNat] (List.getElem_mem hd)
          omega
      · rw [sum_set al _ hd]
        simp at h3
        omega) (rangeD 0 n.toNat) [some s.m, some (.d (.int v)), some (.d (.int n)), some (.l ((List.replicate v.toNat (0 : Int)).map .int)), none, none] ⟨List.replicate v.toNat 0, s, none, none, rfl, by simp; omega, by
      intro i hi
      rw [List.eq_of_mem_replicate hi]
      omega, by
      simp [rangeD_len]
      omega⟩
  refine ⟨al, s', ?_, h3, h4, by simpa using h5⟩
  simp only [f__law_allocation, b__law_allocation, Rs.bind_ok, Rs.bind_ex, Rs.bind_no, lift_some, lift_none, thn_nx, thn_rt, thn_bk, thn_ct, thn_ex, thn_no, to_ok, to_ex, to_no, fin_nx, fin_rt, optOut_s, optOut_n, optRs_s, optRs_n, asB_b, chB_b, eVar_eq, slotD_0, slotD_s, slotL_0, slotL_s, slotScr_0, slotScr_s, eC_eq, e2_eq, e1_eq, tb1_eq, tt1_eq, tNotD_eq, tAndD_eq, tOrD_eq, eNot_eq, eAnd_eq, eOr_eq, eIf_eq, eChain_eq, aNil_eq, aCons_eq, aOne_eq, eTup_eq, eLst_eq, mLst_eq, mD_eq, eFrz_eq, frzM_d, frzM_l, eB_eq, eListScr_eq, ixOf_i, eIxO_eq, pNo_eq, pSome_eq, oInt_i, eSlice_eq, eBO_eq, e2R_eq, ttO_eq, eTupO_eq, eListO_eq, eIsi_eq, eListRg_eq, mListRg_eq, eMt_eq, seqOne_l, seqOne_t, mList_eq, itSeq_eq, itB_eq, seqOf_l, seqOf_t, avNil_eq, avD_eq, avS_eq, avMs_nil, avMs_cons, avM_d, avM_sl, jsOf_nil, jsOf_d, jsOf_s, putBack_nil, putBack_d, putBack_s, toRs_rt, callM_eq, eCall_eq, sThen_eq, sE_eq, sNx_eq, sBk_eq, sCt_eq, sNo_eq, sRet_eq, sRetN_eq, sDrop_eq, sIf_eq, sSet_eq, sAsg_eq, sAug_eq, sSetItem_eq, asI_i, setIt_eq, sFor_eq, runDef_eq, start0_eq, outs_nil, outs_cons, rep_succ, mvM_l, mvM_d, alNil_eq, alD_eq, alL_eq, alMs_nil, alMs_cons, alM_d, alM_l, toSc_rt, eCallL_eq, bEnum_l, bEnum_t, eSM_eq, isSq_l, isSq_t, cntD_l, cntD_t, mVar_eq, mvF_l, mvF_d, eVarF_eq, dAdd_ii, dAddI_ii, dSub_ii, dMul_ii, dDiv_ii, dMod_ii, dLt_ii, dLe_ii, dGt_ii, dGe_ii, dNeg_i, dEq_ii, dNe_ii, dEq_bb, dNe_bb, dIs_none, dIsNot_none, isNon_none, isNon_b, isNon_i, isNon_s, isNon_l, isNon_t, tru_b, tru_i, tru_n, tru_l, tru_t, bLen_l, bLen_t, bAbs_i, bInt_i, bInt_b, bSum_l, bSum_t, bAll_l, bAny_l, bTup_l, bTup_t, bList_l, bList_t, bSorted_l, bSorted_t, bMax_ii, bMin_ii, bRange1_i, bZip_l, bZip_t, bZip3_t, dIx_l, dIx_t, dSlice_l, dSlice_t, isI_1, isI_2, isI_3, isI_4, isI_5, isI_6, isI_7, isI_8, isI_9, isI_10, isI_11, isI_12, isI_13, isI_14, isI_15, isI_16, isI_17, isI_18, isI_19, isI_20, isI_21, isI_22, isI_23, isI_24, isI_25, isI_26, scalar_1, scalar_2, scalar_3, scalar_4, chkS_i, chkS_b, gN_eq, gT_eq, gTL_eq, gsN_nil, gsC_cons, wipeE_nil, wipeE_cons, restE_nil, restE_cons, keepD_n, keepD_d, keepD_l, keepD_x, tYesD_eq, eComp_eq, mComp_eq, compR_ok, compGo_nil, forGo_nil, lp_nx, lp_ct, lp_bk, lp_rt, atI_2, atI_3, atI_4, atI_5, atI_6, atI_7, atI_zero, atI_one, dPow_10_18, beq_self_eq_true, List.map_cons, List.map_nil, List.length_cons, List.length_nil, List.cons_append, List.nil_append, List.set_cons_succ, List.set_cons_zero, List.getElem?_cons_succ, List.getElem?_cons_zero, Option.join_some, Option.map_some, Option.bind_some, List.tail_cons, List.head?_cons, if_true, if_false, Bool.false_eq_true, Bool.true_eq_false, and_true, true_and, List.nodup_cons, List.not_mem_nil, not_false_eq_true, List.nodup_nil, Bool.not_true, Bool.not_false, ite_true, ite_false, Nat.reduceAdd, Nat.reduceSub, Nat.zero_add, List.replicate_zero, List.append_nil, List.mem_cons, Nat.reduceEqDiff, or_false, or_self, reduceIte, decide_true, decide_false, Nat.reduceLeDiff, Nat.reduceLT, Nat.le_refl, hr, hr2, h0, hz, h1]
theorem order_ex (s : Strm) (n : Int) (hn : 0 ≤ n) (hn2 : n ≤ 16777216) :
    ∃ (al : List Int) (s' : Strm), f__law_order [s.m, .d (.int n)] = .rt (.d (.tuple (al.map .int))) [some s'.m, none] ∧ (al.length : Int) = n ∧ al.Perm ((List.range n.toNat).map fun i : Nat => (i : Int)) := by
  have hr : n ≤ 16777216 ∧ -(2 ^ 62) ≤ n := by constructor <;> omega
  have e0 : rangeD 0 n.toNat = ((List.range n.toNat).map fun i : Nat => (i : Int)).map .int := by
    rw [rangeD_eq, List.map_map]; rfl
  obtain ⟨ys, e', h1, al, left, s', h2, h3, h4, h5⟩ := compGo_rel (g := gN 3) (tt := tYesD) (te := eMt 2 mPopAt (aCons (eFrz (eCall 2 f__law_next (avS 0 (avD (eBO 2 bLen) (avNil))))) (aNil))) (vs := [3])
    (fun xs acc e => ∃ (al left : List Int) (s : Strm), acc = al.map .int ∧ e = [some s.m, some (.d (.int n)), some (.l (left.map .int)), none] ∧ left.length = xs.length ∧ (xs.length ≤ 16777216) ∧ (al ++ left).Perm ((List.range n.toNat).map fun i : Nat => (i : Int))) (by
      rintro x xs acc e ⟨al, left, s, rfl, rfl, h1, h2, h3⟩
      rw [List.length_cons] at h1 h2
      obtain ⟨d, s', e1, h4, h5⟩ := next_ex s left.length (by omega) (by omega)
      have hd : d.toNat < left.length := by omega
      refine ⟨[some s.m, some (.d (.int n)), some (.l (left.map .int)), some (.d x)], .int left[d.toNat], [some s'.m, some (.d (.int n)), some (.l ((left.eraseIdx d.toNat).map .int)), some (.d x)], ?_, rfl, ?_, al ++ [left[d.toNat]], left.eraseIdx d.toNat, s', ?_, ?_, ?_, ?_, ?_⟩
      · simp only [Rs.bind_ok, Rs.bind_ex, Rs.bind_no, lift_some, lift_none, thn_nx, thn_rt, thn_bk, thn_ct, thn_ex, thn_no, to_ok, to_ex, to_no, fin_nx, fin_rt, optOut_s, optOut_n, optRs_s, optRs_n, asB_b, chB_b, eVar_eq, slotD_0, slotD_s, slotL_0, slotL_s, slotScr_0, slotScr_s, eC_eq, e2_eq, e1_eq, tb1_eq, tt1_eq, tNotD_eq, tAndD_eq, tOrD_eq, eNot_eq, eAnd_eq, eOr_eq, eIf_eq, eChain_eq, aNil_eq, aCons_eq, aOne_eq, eTup_eq, eLst_eq, mLst_eq, mD_eq, eFrz_eq, frzM_d, frzM_l, eB_eq, eListScr_eq, ixOf_i, eIxO_eq, pNo_eq, pSome_eq, oInt_i, eSlice_eq, eBO_eq, e2R_eq, ttO_eq, eTupO_eq, eListO_eq, eIsi_eq, eListRg_eq, mListRg_eq, eMt_eq, seqOne_l, seqOne_t, mList_eq, itSeq_eq, itB_eq, seqOf_l, seqOf_t, avNil_eq, avD_eq, avS_eq, avMs_nil, avMs_cons, avM_d, avM_sl, jsOf_nil, jsOf_d, jsOf_s, putBack_nil, putBack_d, putBack_s, toRs_rt, callM_eq, eCall_eq, sThen_eq, sE_eq, sNx_eq, sBk_eq, sCt_eq, sNo_eq, sRet_eq, sRetN_eq, sDrop_eq, sIf_eq, sSet_eq, sAsg_eq, sAug_eq, sSetItem_eq, asI_i, setIt_eq, sFor_eq, runDef_eq, start0_eq, outs_nil, outs_cons, rep_succ, mvM_l, mvM_d, alNil_eq, alD_eq, alL_eq, alMs_nil, alMs_cons, alM_d, alM_l, toSc_rt, eCallL_eq, bEnum_l, bEnum_t, eSM_eq, isSq_l, isSq_t, cntD_l, cntD_t, mVar_eq, mvF_l, mvF_d, eVarF_eq, dAdd_ii, dAddI_ii, dSub_ii, dMul_ii, dDiv_ii, dMod_ii, dLt_ii, dLe_ii, dGt_ii, dGe_ii, dNeg_i, dEq_ii, dNe_ii, dEq_bb, dNe_bb, dIs_none, dIsNot_none, isNon_none, isNon_b, isNon_i, isNon_s, isNon_l, isNon_t, tru_b, tru_i, tru_n, tru_l, tru_t, bLen_l, bLen_t, bAbs_i, bInt_i, bInt_b, bSum_l, bSum_t, bAll_l, bAny_l, bTup_l, bTup_t, bList_l, bList_t, bSorted_l, bSorted_t, bMax_ii, bMin_ii, bRange1_i, bZip_l, bZip_t, bZip3_t, dIx_l, dIx_t, dSlice_l, dSlice_t, isI_1, isI_2, isI_3, isI_4, isI_5, isI_6, isI_7, isI_8, isI_9, isI_10, isI_11, isI_12, isI_13, isI_14, isI_15, isI_16, isI_17, isI_18, isI_19, isI_20, isI_21, isI_22, isI_23, isI_24, isI_25, isI_26, scalar_1, scalar_2, scalar_3, scalar_4, chkS_i, chkS_b, gN_eq, gT_eq, gTL_eq, gsN_nil, gsC_cons, wipeE_nil, wipeE_cons, restE_nil, restE_cons, keepD_n, keepD_d, keepD_l, keepD_x, tYesD_eq, eComp_eq, mComp_eq, compR_ok, compGo_nil, forGo_nil, lp_nx, lp_ct, lp_bk, lp_rt, atI_2, atI_3, atI_4, atI_5, atI_6, atI_7, atI_zero, atI_one, dPow_10_18, beq_self_eq_true, List.map_cons, List.map_nil, List.length_cons, List.length_nil, List.cons_append, List.nil_append, List.set_cons_succ, List.set_cons_zero, List.getElem?_cons_succ, List.getElem?_cons_zero, Option.join_some, Option.map_some, Option.bind_some, List.tail_cons, List.head?_cons, if_true, if_false, Bool.false_eq_true, Bool.true_eq_false, and_true, true_and, List.nodup_cons, List.not_mem_nil, not_false_eq_true, List.nodup_nil, Bool.not_true, Bool.not_false, ite_true, ite_false, Nat.reduceAdd, Nat.reduceSub, Nat.zero_add, List.replicate_zero, List.append_nil, List.mem_cons, Nat.reduceEqDiff, or_false, or_self, reduceIte, decide_true, decide_false, Nat.reduceLeDiff, Nat.reduceLT, Nat.le_refl]
      · have hi := ixN_int left.length d h4 (by omega)
        simp only [Rs.bind_ok, Rs.bind_ex, Rs.bind_no, lift_some, lift_none, thn_nx, thn_rt, thn_bk, thn_ct, thn_ex, thn_no, to_ok, to_ex, to_no, fin_nx, fin_rt, optOut_s, optOut_n, optRs_s, optRs_n, asB_b, chB_b, eVar_eq, slotD_0, slotD_s, slotL_0, slotL_s, slotScr_0, slotScr_s, eC_eq, e2_eq, e1_eq, tb1_eq, tt1_eq, tNotD_eq, tAndD_eq, tOrD_eq, eNot_eq, eAnd_eq, eOr_eq, eIf_eq, eChain_eq, aNil_eq, aCons_eq, aOne_eq, eTup_eq, eLst_eq, mLst_eq, mD_eq, eFrz_eq, frzM_d, frzM_l, eB_eq, eListScr_eq, ixOf_i, eIxO_eq, pNo_eq, pSome_eq, oInt_i, eSlice_eq, eBO_eq, e2R_eq, ttO_eq, eTupO_eq, eListO_eq, eIsi_eq, eListRg_eq, mListRg_eq, eMt_eq, seqOne_l, seqOne_t, mList_eq, itSeq_eq, itB_eq, seqOf_l, seqOf_t, avNil_eq, avD_eq, avS_eq, avMs_nil, avMs_cons, avM_d, avM_sl, jsOf_nil, jsOf_d, jsOf_s, putBack_nil, putBack_d, putBack_s, toRs_rt, callM_eq, eCall_eq, sThen_eq, sE_eq, sNx_eq, sBk_eq, sCt_eq, sNo_eq, sRet_eq, sRetN_eq, sDrop_eq, sIf_eq, sSet_eq, sAsg_eq, sAug_eq, sSetItem_eq, asI_i, setIt_eq, sFor_eq, runDef_eq, start0_eq, outs_nil, outs_cons, rep_succ, mvM_l, mvM_d, alNil_eq, alD_eq, alL_eq, alMs_nil, alMs_cons, alM_d, alM_l, toSc_rt, eCallL_eq, bEnum_l, bEnum_t, eSM_eq, isSq_l, isSq_t, cntD_l, cntD_t, mVar_eq, mvF_l, mvF_d, eVarF_eq, dAdd_ii, dAddI_ii, dSub_ii, dMul_ii, dDiv_ii, dMod_ii, dLt_ii, dLe_ii, dGt_ii, dGe_ii, dNeg_i, dEq_ii, dNe_ii, dEq_bb, dNe_bb, dIs_none, dIsNot_none, isNon_none, isNon_b, isNon_i, isNon_s, isNon_l, isNon_t, tru_b, tru_i, tru_n, tru_l, tru_t, bLen_l, bLen_t, bAbs_i, bInt_i, bInt_b, bSum_l, bSum_t, bAll_l, bAny_l, bTup_l, bTup_t, bList_l, bList_t, bSorted_l, bSorted_t, bMax_ii, bMin_ii, bRange1_i, bZip_l, bZip_t, bZip3_t, dIx_l, dIx_t, dSlice_l, dSlice_t, isI_1, isI_2, isI_3, isI_4, isI_5, isI_6, isI_7, isI_8, isI_9, isI_10, isI_11, isI_12, isI_13, isI_14, isI_15, isI_16, isI_17, isI_18, isI_19, isI_20, isI_21, isI_22, isI_23, isI_24, isI_25, isI_26, scalar_1, scalar_2, scalar_3, scalar_4, chkS_i, chkS_b, gN_eq, gT_eq, gTL_eq, gsN_nil, gsC_cons, wipeE_nil, wipeE_cons, restE_nil, restE_cons, keepD_n, keepD_d, keepD_l, keepD_x, tYesD_eq, eComp_eq, mComp_eq, compR_ok, compGo_nil, forGo_nil, lp_nx, lp_ct, lp_bk, lp_rt, atI_2, atI_3, atI_4, atI_5, atI_6, atI_7, atI_zero, atI_one, dPow_10_18, beq_self_eq_true, List.map_cons, List.map_nil, List.length_cons, List.length_nil, List.cons_append, List.nil_append, List.set_cons_succ, List.set_cons_zero, List.getElem?_cons_succ, List.getElem?_cons_zero, Option.join_some, Option.map_some, Option.bind_some, List.tail_cons, List.head?_cons, if_true, if_false, Bool.false_eq_true, Bool.true_eq_false, and_true, true_and, List.nodup_cons, List.not_mem_nil, not_false_eq_true, List.nodup_nil, Bool.not_true, Bool.not_false, ite_true, ite_false, Nat.reduceAdd, Nat.reduceSub, Nat.zero_add, List.replicate_zero, List.append_nil, List.mem_cons, Nat.reduceEqDiff, or_false, or_self, reduceIte, decide_true, decide_false, Nat.reduceLeDiff, Nat.reduceLT, Nat.le_refl, e1, mPopAt, List.getElem?_map, List.getElem?_eq_getElem hd, List.length_map, hi, er_map]
      · simp
      · simp only [Rs.bind_ok, Rs.bind_ex, Rs.bind_no, lift_some, lift_none, thn_nx, thn_rt, thn_bk, thn_ct, thn_ex, thn_no, to_ok, to_ex, to_no, fin_nx, fin_rt, optOut_s, optOut_n, optRs_s, optRs_n, asB_b, chB_b, eVar_eq, slotD_0, slotD_s, slotL_0, slotL_s, slotScr_0, slotScr_s, eC_eq, e2_eq, e1_eq, tb1_eq, tt1_eq, tNotD_eq, tAndD_eq, tOrD_eq, eNot_eq, eAnd_eq, eOr_eq, eIf_eq, eChain_eq, aNil_eq, aCons_eq, aOne_eq, eTup_eq, eLst_eq, mLst_eq, mD_eq, eFrz_eq, frzM_d, frzM_l, eB_eq, eListScr_eq, ixOf_i, eIxO_eq, pNo_eq, pSome_eq, oInt_i, eSlice_eq, eBO_eq, e2R_eq, ttO_eq, eTupO_eq, eListO_eq, eIsi_eq, eListRg_eq, mListRg_eq, eMt_eq, seqOne_l, seqOne_t, mList_eq, itSeq_eq, itB_eq, seqOf_l, seqOf_t, avNil_eq, avD_eq, avS_eq, avMs_nil, avMs_cons, avM_d, avM_sl, jsOf_nil, jsOf_d, jsOf_s, putBack_nil, putBack_d, putBack_s, toRs_rt, callM_eq, eCall_eq, sThen_eq, sE_eq, sNx_eq, sBk_eq, sCt_eq, sNo_eq, sRet_eq, sRetN_eq, sDrop_eq, sIf_eq, sSet_eq, sAsg_eq, sAug_eq, sSetItem_eq, asI_i, setIt_eq, sFor_eq, runDef_eq, start0_eq, outs_nil, outs_cons, rep_succ, mvM_l, mvM_d, alNil_eq, alD_eq, alL_eq, alMs_nil, alMs_cons, alM_d, alM_l, toSc_rt, eCallL_eq, bEnum_l, bEnum_t, eSM_eq, isSq_l, isSq_t, cntD_l, cntD_t, mVar_eq, mvF_l, mvF_d, eVarF_eq, dAdd_ii, dAddI_ii, dSub_ii, dMul_ii, dDiv_ii, dMod_ii, dLt_ii, dLe_ii, dGt_ii, dGe_ii, dNeg_i, dEq_ii, dNe_ii, dEq_bb, dNe_bb, dIs_none, dIsNot_none, isNon_none, isNon_b, isNon_i, isNon_s, isNon_l, isNon_t, tru_b, tru_i, tru_n, tru_l, tru_t, bLen_l, bLen_t, bAbs_i, bInt_i, bInt_b, bSum_l, bSum_t, bAll_l, bAny_l, bTup_l, bTup_t, bList_l, bList_t, bSorted_l, bSorted_t, bMax_ii, bMin_ii, bRange1_i, bZip_l, bZip_t, bZip3_t, dIx_l, dIx_t, dSlice_l, dSlice_t, isI_1, isI_2, isI_3, isI_4, isI_5, isI_6, isI_7, isI_8, isI_9, isI_10, isI_11, isI_12, isI_13, isI_14, isI_15, isI_16, isI_17, isI_18, isI_19, isI_20, isI_21, isI_22, isI_23, isI_24, isI_25, isI_26, scalar_1, scalar_2, scalar_3, scalar_4, chkS_i, chkS_b, gN_eq, gT_eq, gTL_eq, gsN_nil, gsC_cons, wipeE_nil, wipeE_cons, restE_nil, restE_cons, keepD_n, keepD_d, keepD_l, keepD_x, tYesD_eq, eComp_eq, mComp_eq, compR_ok, compGo_nil, forGo_nil, lp_nx, lp_ct, lp_bk, lp_rt, atI_2, atI_3, atI_4, atI_5, atI_6, atI_7, atI_zero, atI_one, dPow_10_18, beq_self_eq_true, List.map_cons, List.map_nil, List.length_cons, List.length_nil, List.cons_append, List.nil_append, List.set_cons_succ, List.set_cons_zero, List.getElem?_cons_succ, List.getElem?_cons_zero, Option.join_some, Option.map_some, Option.bind_some, List.tail_cons, List.head?_cons, if_true, if_false, Bool.false_eq_true, Bool.true_eq_false, and_true, true_and, List.nodup_cons, List.not_mem_nil, not_false_eq_true, List.nodup_nil, Bool.not_true, Bool.not_false, ite_true, ite_false, Nat.reduceAdd, Nat.reduceSub, Nat.zero_add, List.replicate_zero, List.append_nil, List.mem_cons, Nat.reduceEqDiff, or_false, or_self, reduceIte, decide_true, decide_false, Nat.reduceLeDiff, Nat.reduceLT, Nat.le_refl]
      · rw [List.length_eraseIdx_of_lt hd]
        omega
      · omega
      · refine List.Perm.trans ?_ h3
        rw [List.append_assoc]
        refine List.Perm.append_left al ?_
        show ([left[d.toNat]] ++ left.eraseIdx d.toNat).Perm left
        exact (er_perm left _ hd)) (rangeD 0 n.toNat) [] [some s.m, some (.d (.int n)), some (.l (((List.range n.toNat).map fun i : Nat => (i : Int)).map .int)), none] ⟨[], _, s, rfl, rfl, by simp [rangeD_len], by rw [rangeD_len]; omega, by simp⟩
  have hl : left = [] := List.eq_nil_of_length_eq_zero h4
  subst hl
  rw [List.append_nil] at h5
  refine ⟨al, s', ?_, by rw [h5.2.length_eq]; simp; omega, h5.2⟩
  rw [e0] at h1
  simp only [f__law_order, b__law_order, Rs.bind_ok, Rs.bind_ex, Rs.bind_no, lift_some, lift_none, thn_nx, thn_rt, thn_bk, thn_ct, thn_ex, thn_no, to_ok, to_ex, to_no, fin_nx, fin_rt, optOut_s, optOut_n, optRs_s, optRs_n, asB_b, chB_b, eVar_eq, slotD_0, slotD_s, slotL_0, slotL_s, slotScr_0, slotScr_s, eC_eq, e2_eq, e1_eq, tb1_eq, tt1_eq, tNotD_eq, tAndD_eq, tOrD_eq, eNot_eq, eAnd_eq, eOr_eq, eIf_eq, eChain_eq, aNil_eq, aCons_eq, aOne_eq, eTup_eq, eLst_eq, mLst_eq, mD_eq, eFrz_eq, frzM_d, frzM_l, eB_eq, eListScr_eq, ixOf_i, eIxO_eq, pNo_eq, pSome_eq, oInt_i, eSlice_eq, eBO_eq, e2R_eq, ttO_eq, eTupO_eq, eListO_eq, eIsi_eq, eListRg_eq, mListRg_eq, eMt_eq, seqOne_l, seqOne_t, mList_eq, itSeq_eq, itB_eq, seqOf_l, seqOf_t, avNil_eq, avD_eq, avS_eq, avMs_nil, avMs_cons, avM_d, avM_sl, jsOf_nil, jsOf_d, jsOf_s, putBack_nil, putBack_d, putBack_s, toRs_rt, callM_eq, eCall_eq, sThen_eq, sE_eq, sNx_eq, sBk_eq, sCt_eq, sNo_eq, sRet_eq, sRetN_eq, sDrop_eq, sIf_eq, sSet_eq, sAsg_eq, sAug_eq, sSetItem_eq, asI_i, setIt_eq, sFor_eq, runDef_eq, start0_eq, outs_nil, outs_cons, rep_succ, mvM_l, mvM_d, alNil_eq, alD_eq, alL_eq, alMs_nil, alMs_cons, alM_d, alM_l, toSc_rt, eCallL_eq, bEnum_l, bEnum_t, eSM_eq, isSq_l, isSq_t, cntD_l, cntD_t, mVar_eq, mvF_l, mvF_d, eVarF_eq, dAdd_ii, dAddI_ii, dSub_ii, dMul_ii, dDiv_ii, dMod_ii, dLt_ii, dLe_ii, dGt_ii, dGe_ii, dNeg_i, dEq_ii, dNe_ii, dEq_bb, dNe_bb, dIs_none, dIsNot_none, isNon_none, isNon_b, isNon_i, isNon_s, isNon_l, isNon_t, tru_b, tru_i, tru_n, tru_l, tru_t, bLen_l, bLen_t, bAbs_i, bInt_i, bInt_b, bSum_l, bSum_t, bAll_l, bAny_l, bTup_l, bTup_t, bList_l, bList_t, bSorted_l, bSorted_t, bMax_ii, bMin_ii, bRange1_i, bZip_l, bZip_t, bZip3_t, dIx_l, dIx_t, dSlice_l, dSlice_t, isI_1, isI_2, isI_3, isI_4, isI_5, isI_6, isI_7, isI_8, isI_9, isI_10, isI_11, isI_12, isI_13, isI_14, isI_15, isI_16, isI_17, isI_18, isI_19, isI_20, isI_21, isI_22, isI_23, isI_24, isI_25, isI_26, scalar_1, scalar_2, scalar_3, scalar_4, chkS_i, chkS_b, gN_eq, gT_eq, gTL_eq, gsN_nil, gsC_cons, wipeE_nil, wipeE_cons, restE_nil, restE_cons, keepD_n, keepD_d, keepD_l, keepD_x, tYesD_eq, eComp_eq, mComp_eq, compR_ok, compGo_nil, forGo_nil, lp_nx, lp_ct, lp_bk, lp_rt, atI_2, atI_3, atI_4, atI_5, atI_6, atI_7, atI_zero, atI_one, dPow_10_18, beq_self_eq_true, List.map_cons, List.map_nil, List.length_cons, List.length_nil, List.cons_append, List.nil_append, List.set_cons_succ, List.set_cons_zero, List.getElem?_cons_succ, List.getElem?_cons_zero, Option.join_some, Option.map_some, Option.bind_some, List.tail_cons, List.head?_cons, if_true, if_false, Bool.false_eq_true, Bool.true_eq_false, and_true, true_and, List.nodup_cons, List.not_mem_nil, not_false_eq_true, List.nodup_nil, Bool.not_true, Bool.not_false, ite_true, ite_false, Nat.reduceAdd, Nat.reduceSub, Nat.zero_add, List.replicate_zero, List.append_nil, List.mem_cons, Nat.reduceEqDiff, or_false, or_self, reduceIte, decide_true, decide_false, Nat.reduceLeDiff, Nat.reduceLT, Nat.le_refl, hr, e0, h1, h2, h3]
theorem pick_ex (s : Strm) (rows : List PyData) (hr : rows ≠ []) (hr2 : rows.length < 1073741824) : ∃ x s', f__law_pick [s.m, .d (.list rows)] = .rt (.d x) [some (Strm.m s'), none] ∧ x ∈ rows := by
  have hp : 0 < rows.length := List.length_pos_iff.2 hr
  obtain ⟨d, s', e1, h4, h5⟩ := next_ex s rows.length (by omega) (by omega)
  have hd : d.toNat < rows.length := by omega
  refine ⟨rows[d.toNat], s', ?_, List.getElem_mem hd⟩
  simp only [f__law_pick, b__law_pick, Rs.bind_ok, Rs.bind_ex, Rs.bind_no, lift_some, lift_none, thn_nx, thn_rt, thn_bk, thn_ct, thn_ex, thn_no, to_ok, to_ex, to_no, fin_nx, fin_rt, optOut_s, optOut_n, optRs_s, optRs_n, asB_b, chB_b, eVar_eq, slotD_0, slotD_s, slotL_0, slotL_s, slotScr_0, slotScr_s, eC_eq, e2_eq, e1_eq, tb1_eq, tt1_eq, tNotD_eq, tAndD_eq, tOrD_eq, eNot_eq, eAnd_eq, eOr_eq, eIf_eq, eChain_eq, aNil_eq, aCons_eq, aOne_eq, eTup_eq, eLst_eq, mLst_eq, mD_eq, eFrz_eq, frzM_d, frzM_l, eB_eq, eListScr_eq, ixOf_i, eIxO_eq, pNo_eq, pSome_eq, oInt_i, eSlice_eq, eBO_eq, e2R_eq, ttO_eq, eTupO_eq, eListO_eq, eIsi_eq, eListRg_eq, mListRg_eq, eMt_eq, seqOne_l, seqOne_t, mList_eq, itSeq_eq, itB_eq, seqOf_l, seqOf_t, avNil_eq, avD_eq, avS_eq, avMs_nil, avMs_cons, avM_d, avM_sl, jsOf_nil, jsOf_d, jsOf_s, putBack_nil, putBack_d, putBack_s, toRs_rt, callM_eq, eCall_eq, sThen_eq, sE_eq, sNx_eq, sBk_eq, sCt_eq, sNo_eq, sRet_eq, sRetN_eq, sDrop_eq, sIf_eq, sSet_eq, sAsg_eq, sAug_eq, sSetItem_eq, asI_i, setIt_eq, sFor_eq, runDef_eq, start0_eq, outs_nil, outs_cons, rep_succ, mvM_l, mvM_d, alNil_eq, alD_eq, alL_eq, alMs_nil, alMs_cons, alM_d, alM_l, toSc_rt, eCallL_eq, bEnum_l, bEnum_t, eSM_eq, isSq_l, isSq_t, cntD_l, cntD_t, mVar_eq, mvF_l, mvF_d, eVarF_eq, dAdd_ii, dAddI_ii, dSub_ii, dMul_ii, dDiv_ii, dMod_ii, dLt_ii, dLe_ii, dGt_ii, dGe_ii, dNeg_i, dEq_ii, dNe_ii, dEq_bb, dNe_bb, dIs_none, dIsNot_none, isNon_none, isNon_b, isNon_i, isNon_s, isNon_l, isNon_t, tru_b, tru_i, tru_n, tru_l, tru_t, bLen_l, bLen_t, bAbs_i, bInt_i, bInt_b, bSum_l, bSum_t, bAll_l, bAny_l, bTup_l, bTup_t, bList_l, bList_t, bSorted_l, bSorted_t, bMax_ii, bMin_ii, bRange1_i, bZip_l, bZip_t, bZip3_t, dIx_l, dIx_t, dSlice_l, dSlice_t, isI_1, isI_2, isI_3, isI_4, isI_5, isI_6, isI_7, isI_8, isI_9, isI_10, isI_11, isI_12, isI_13, isI_14, isI_15, isI_16, isI_17, isI_18, isI_19, isI_20, isI_21, isI_22, isI_23, isI_24, isI_25, isI_26, scalar_1, scalar_2, scalar_3, scalar_4, chkS_i, chkS_b, gN_eq, gT_eq, gTL_eq, gsN_nil, gsC_cons, wipeE_nil, wipeE_cons, restE_nil, restE_cons, keepD_n, keepD_d, keepD_l, keepD_x, tYesD_eq, eComp_eq, mComp_eq, compR_ok, compGo_nil, forGo_nil, lp_nx, lp_ct, lp_bk, lp_rt, atI_2, atI_3, atI_4, atI_5, atI_6, atI_7, atI_zero, atI_one, dPow_10_18, beq_self_eq_true, List.map_cons, List.map_nil, List.length_cons, List.length_nil, List.cons_append, List.nil_append, List.set_cons_succ, List.set_cons_zero, List.getElem?_cons_succ, List.getElem?_cons_zero, Option.join_some, Option.map_some, Option.bind_some, List.tail_cons, List.head?_cons, if_true, if_false, Bool.false_eq_true, Bool.true_eq_false, and_true, true_and, List.nodup_cons, List.not_mem_nil, not_false_eq_true, List.nodup_nil, Bool.not_true, Bool.not_false, ite_true, ite_false, Nat.reduceAdd, Nat.reduceSub, Nat.zero_add, List.replicate_zero, List.append_nil, List.mem_cons, Nat.reduceEqDiff, or_false, or_self, reduceIte, decide_true, decide_false, Nat.reduceLeDiff, Nat.reduceLT, Nat.le_refl, e1, atI_int _ _ h4, List.getElem?_eq_getElem hd]
end DCom


namespace DCom
open PySem DL
/-! _law_equal of a value and itself; transfers; checks that pass -/
theorem is_integer_e (x : PyData) : f__law_is_integer [.d x] = .rt (.d (.bool (whole x))) [none] := by
  cases x <;> rfl
theorem r_eq_succ (n : Nat) : r__law_equal (n + 1) = runDef [false, false] 3 (b__law_equal (r__law_equal n)) := rfl
theorem dIx_at {xs : List PyData} {i : Nat} (h : i < xs.length) : L2.atI xs (i : Int) = some xs[i] := by
  rw [atI_nat, List.getElem?_eq_getElem h]
theorem canL_get : ∀ {xs : List PyData}, PyData.canLayAll0 xs = true → ∀ x ∈ xs, x.canLay0 = true
  | y :: ys, h, x, hx => by
    rw [PyData.canLayAll0, Bool.and_eq_true] at h
    rcases List.mem_cons.1 hx with e | e
    · rw [e]; exact h.1
    · exact canL_get h.2 x e
theorem depL_get : ∀ {xs : List PyData} {k : Nat}, PyData.depthAll xs ≤ k → ∀ x ∈ xs, x.depth ≤ k
  | y :: ys, k, h, x, hx => by
    rw [PyData.depthAll] at h
    rcases List.mem_cons.1 hx with e | e
    · rw [e]; omega
    · exact depL_get (by omega) x e
/-- rows short enough for len and range -/
def short : Nat → PyData → Prop
  | 0, x => True
  | n + 1, .list xs => xs.length ≤ 16777216 ∧ ∀ x ∈ xs, short n x
  | n + 1, .tuple xs => xs.length ≤ 16777216 ∧ ∀ x ∈ xs, short n x
  | _, _ => True
theorem comp_same (F : Fn) (x : PyData) (xs : List PyData) (hx : ∀ i : Int, dIx x (.int i) = L2.atI xs i) (h : ∀ y ∈ xs, F [.d y, .d y] = .rt (.d (.bool true)) [none, none]) :
    compGo (gN 2) tYesD (eFrz (eCall 2 F (avD (e2 dIx (eVar 0) (eVar 2)) (avD (e2 dIx (eVar 1) (eVar 2)) (avNil))))) [2] (rangeD 0 xs.length) [] [some (.d x), some (.d x), none] = .ok ([] ++ (rangeD 0 xs.length).map fun _ => .bool true) [some (.d x), some (.d x), none] := by
  refine compGo_id (fun _ => .bool true) _ [] fun r hr => ⟨[some (.d x), some (.d x), some (.d r)], ?_, ?_, ?_⟩
  · simp only [Rs.bind_ok, Rs.bind_ex, Rs.bind_no, lift_some, lift_none, thn_nx, thn_rt, thn_bk, thn_ct, thn_ex, thn_no, to_ok, to_ex, to_no, fin_nx, fin_rt, optOut_s, optOut_n, optRs_s, optRs_n, asB_b, chB_b, eVar_eq, slotD_0, slotD_s, slotL_0, slotL_s, slotScr_0, slotScr_s, eC_eq, e2_eq, e1_eq, tb1_eq, tt1_eq, tNotD_eq, tAndD_eq, tOrD_eq, eNot_eq, eAnd_eq, eOr_eq, eIf_eq, eChain_eq, aNil_eq, aCons_eq, aOne_eq, eTup_eq, eLst_eq, mLst_eq, mD_eq, eFrz_eq, frzM_d, frzM_l, eB_eq, eListScr_eq, ixOf_i, eIxO_eq, pNo_eq, pSome_eq, oInt_i, eSlice_eq, eBO_eq, e2R_eq, ttO_eq, eTupO_eq, eListO_eq, eIsi_eq, eListRg_eq, mListRg_eq, eMt_eq, seqOne_l, seqOne_t, mList_eq, itSeq_eq, itB_eq, seqOf_l, seqOf_t, avNil_eq, avD_eq, avS_eq, avMs_nil, avMs_cons, avM_d, avM_sl, jsOf_nil, jsOf_d, jsOf_s, putBack_nil, putBack_d, putBack_s, toRs_rt, callM_eq, eCall_eq, sThen_eq, sE_eq, sNx_eq, sBk_eq, sCt_eq, sNo_eq, sRet_eq, sRetN_eq, sDrop_eq, sIf_eq, sSet_eq, sAsg_eq, sAug_eq, sSetItem_eq, asI_i, setIt_eq, sFor_eq, runDef_eq, start0_eq, outs_nil, outs_cons, rep_succ, mvM_l, mvM_d, alNil_eq, alD_eq, alL_eq, alMs_nil, alMs_cons, alM_d, alM_l, toSc_rt, eCallL_eq, bEnum_l, bEnum_t, eSM_eq, isSq_l, isSq_t, cntD_l, cntD_t, mVar_eq, mvF_l, mvF_d, eVarF_eq, dAdd_ii, dAddI_ii, dSub_ii, dMul_ii, dDiv_ii, dMod_ii, dLt_ii, dLe_ii, dGt_ii, dGe_ii, dNeg_i, dEq_ii, dNe_ii, dEq_bb, dNe_bb, dIs_none, dIsNot_none, isNon_none, isNon_b, isNon_i, isNon_s, isNon_l, isNon_t, tru_b, tru_i, tru_n, tru_l, tru_t, bLen_l, bLen_t, bAbs_i, bInt_i, bInt_b, bSum_l, bSum_t, bAll_l, bAny_l, bTup_l, bTup_t, bList_l, bList_t, bSorted_l, bSorted_t, bMax_ii, bMin_ii, bRange1_i, bZip_l, bZip_t, bZip3_t, dIx_l, dIx_t, dSlice_l, dSlice_t, isI_1, isI_2, isI_3, isI_4, isI_5, isI_6, isI_7, isI_8, isI_9, isI_10, isI_11, isI_12, isI_13, isI_14, isI_15, isI_16, isI_17, isI_18, isI_19, isI_20, isI_21, isI_22, isI_23, isI_24, isI_25, isI_26, scalar_1, scalar_2, scalar_3, scalar_4, chkS_i, chkS_b, gN_eq, gT_eq, gTL_eq, gsN_nil, gsC_cons, wipeE_nil, wipeE_cons, restE_nil, restE_cons, keepD_n, keepD_d, keepD_l, keepD_x, tYesD_eq, eComp_eq, mComp_eq, compR_ok, compGo_nil, forGo_nil, lp_nx, lp_ct, lp_bk, lp_rt, atI_2, atI_3, atI_4, atI_5, atI_6, atI_7, atI_zero, atI_one, dPow_10_18, beq_self_eq_true, List.map_cons, List.map_nil, List.length_cons, List.length_nil, List.cons_append, List.nil_append, List.set_cons_succ, List.set_cons_zero, List.getElem?_cons_succ, List.getElem?_cons_zero, Option.join_some, Option.map_some, Option.bind_some, List.tail_cons, List.head?_cons, if_true, if_false, Bool.false_eq_true, Bool.true_eq_false, and_true, true_and, List.nodup_cons, List.not_mem_nil, not_false_eq_true, List.nodup_nil, Bool.not_true, Bool.not_false, ite_true, ite_false, Nat.reduceAdd, Nat.reduceSub, Nat.zero_add, List.replicate_zero, List.append_nil, List.mem_cons, Nat.reduceEqDiff, or_false, or_self, reduceIte, decide_true, decide_false, Nat.reduceLeDiff, Nat.reduceLT, Nat.le_refl]
  · rw [rangeD_eq, List.mem_map] at hr
    obtain ⟨i, hi, rfl⟩ := hr
    rw [List.mem_range] at hi
    have := h xs[i] (List.getElem_mem hi)
    simp only [Rs.bind_ok, Rs.bind_ex, Rs.bind_no, lift_some, lift_none, thn_nx, thn_rt, thn_bk, thn_ct, thn_ex, thn_no, to_ok, to_ex, to_no, fin_nx, fin_rt, optOut_s, optOut_n, optRs_s, optRs_n, asB_b, chB_b, eVar_eq, slotD_0, slotD_s, slotL_0, slotL_s, slotScr_0, slotScr_s, eC_eq, e2_eq, e1_eq, tb1_eq, tt1_eq, tNotD_eq, tAndD_eq, tOrD_eq, eNot_eq, eAnd_eq, eOr_eq, eIf_eq, eChain_eq, aNil_eq, aCons_eq, aOne_eq, eTup_eq, eLst_eq, mLst_eq, mD_eq, eFrz_eq, frzM_d, frzM_l, eB_eq, eListScr_eq, ixOf_i, eIxO_eq, pNo_eq, pSome_eq, oInt_i, eSlice_eq, eBO_eq, e2R_eq, ttO_eq, eTupO_eq, eListO_eq, eIsi_eq, eListRg_eq, mListRg_eq, eMt_eq, seqOne_l, seqOne_t, mList_eq, itSeq_eq, itB_eq, seqOf_l, seqOf_t, avNil_eq, avD_eq, avS_eq, avMs_nil, avMs_cons, avM_d, avM_sl, jsOf_nil, jsOf_d, jsOf_s, putBack_nil, putBack_d, putBack_s, toRs_rt, callM_eq, eCall_eq, sThen_eq, sE_eq, sNx_eq, sBk_eq, sCt_eq, sNo_eq, sRet_eq, sRetN_eq, sDrop_eq, sIf_eq, sSet_eq, sAsg_eq, sAug_eq, sSetItem_eq, asI_i, setIt_eq, sFor_eq, runDef_eq, start0_eq, outs_nil, outs_cons, rep_succ, mvM_l, mvM_d, alNil_eq, alD_eq, alL_eq, alMs_nil, alMs_cons, alM_d, alM_l, toSc_rt, eCallL_eq, bEnum_l, bEnum_t, eSM_eq, isSq_l, isSq_t, cntD_l, cntD_t, mVar_eq, mvF_l, mvF_d, eVarF_eq, dAdd_ii, dAddI_ii, dSub_ii, dMul_ii, dDiv_ii, dMod_ii, dLt_ii, dLe_ii, dGt_ii, dGe_ii, dNeg_i, dEq_ii, dNe_ii, dEq_bb, dNe_bb, dIs_none, dIsNot_none, isNon_none, isNon_b, isNon_i, isNon_s, isNon_l, isNon_t, tru_b, tru_i, tru_n, tru_l, tru_t, bLen_l, bLen_t, bAbs_i, bInt_i, bInt_b, bSum_l, bSum_t, bAll_l, bAny_l, bTup_l, bTup_t, bList_l, bList_t, bSorted_l, bSorted_t, bMax_ii, bMin_ii, bRange1_i, bZip_l, bZip_t, bZip3_t, dIx_l, dIx_t, dSlice_l, dSlice_t, isI_1, isI_2, isI_3, isI_4, isI_5, isI_6, isI_7, isI_8, isI_9, isI_10, isI_11, isI_12, isI_13, isI_14, isI_15, isI_16, isI_17, isI_18, isI_19, isI_20, isI_21, isI_22, isI_23, isI_24, isI_25, isI_26, scalar_1, scalar_2, scalar_3, scalar_4, chkS_i, chkS_b, gN_eq, gT_eq, gTL_eq, gsN_nil, gsC_cons, wipeE_nil, wipeE_cons, restE_nil, restE_cons, keepD_n, keepD_d, keepD_l, keepD_x, tYesD_eq, eComp_eq, mComp_eq, compR_ok, compGo_nil, forGo_nil, lp_nx, lp_ct, lp_bk, lp_rt, atI_2, atI_3, atI_4, atI_5, atI_6, atI_7, atI_zero, atI_one, dPow_10_18, beq_self_eq_true, List.map_cons, List.map_nil, List.length_cons, List.length_nil, List.cons_append, List.nil_append, List.set_cons_succ, List.set_cons_zero, List.getElem?_cons_succ, List.getElem?_cons_zero, Option.join_some, Option.map_some, Option.bind_some, List.tail_cons, List.head?_cons, if_true, if_false, Bool.false_eq_true, Bool.true_eq_false, and_true, true_and, List.nodup_cons, List.not_mem_nil, not_false_eq_true, List.nodup_nil, Bool.not_true, Bool.not_false, ite_true, ite_false, Nat.reduceAdd, Nat.reduceSub, Nat.zero_add, List.replicate_zero, List.append_nil, List.mem_cons, Nat.reduceEqDiff, or_false, or_self, reduceIte, decide_true, decide_false, Nat.reduceLeDiff, Nat.reduceLT, Nat.le_refl, hx, dIx_at hi, this]
  · simp only [Rs.bind_ok, Rs.bind_ex, Rs.bind_no, lift_some, lift_none, thn_nx, thn_rt, thn_bk, thn_ct, thn_ex, thn_no, to_ok, to_ex, to_no, fin_nx, fin_rt, optOut_s, optOut_n, optRs_s, optRs_n, asB_b, chB_b, eVar_eq, slotD_0, slotD_s, slotL_0, slotL_s, slotScr_0, slotScr_s, eC_eq, e2_eq, e1_eq, tb1_eq, tt1_eq, tNotD_eq, tAndD_eq, tOrD_eq, eNot_eq, eAnd_eq, eOr_eq, eIf_eq, eChain_eq, aNil_eq, aCons_eq, aOne_eq, eTup_eq, eLst_eq, mLst_eq, mD_eq, eFrz_eq, frzM_d, frzM_l, eB_eq, eListScr_eq, ixOf_i, eIxO_eq, pNo_eq, pSome_eq, oInt_i, eSlice_eq, eBO_eq, e2R_eq, ttO_eq, eTupO_eq, eListO_eq, eIsi_eq, eListRg_eq, mListRg_eq, eMt_eq, seqOne_l, seqOne_t, mList_eq, itSeq_eq, itB_eq, seqOf_l, seqOf_t, avNil_eq, avD_eq, avS_eq, avMs_nil, avMs_cons, avM_d, avM_sl, jsOf_nil, jsOf_d, jsOf_s, putBack_nil, putBack_d, putBack_s, toRs_rt, callM_eq, eCall_eq, sThen_eq, sE_eq, sNx_eq, sBk_eq, sCt_eq, sNo_eq, sRet_eq, sRetN_eq, sDrop_eq, sIf_eq, sSet_eq, sAsg_eq, sAug_eq, sSetItem_eq, asI_i, setIt_eq, sFor_eq, runDef_eq, start0_eq, outs_nil, outs_cons, rep_succ, mvM_l, mvM_d, alNil_eq, alD_eq, alL_eq, alMs_nil, alMs_cons, alM_d, alM_l, toSc_rt, eCallL_eq, bEnum_l, bEnum_t, eSM_eq, isSq_l, isSq_t, cntD_l, cntD_t, mVar_eq, mvF_l, mvF_d, eVarF_eq, dAdd_ii, dAddI_ii, dSub_ii, dMul_ii, dDiv_ii, dMod_ii, dLt_ii, dLe_ii, dGt_ii, dGe_ii, dNeg_i, dEq_ii, dNe_ii, dEq_bb, dNe_bb, dIs_none, dIsNot_none, isNon_none, isNon_b, isNon_i, isNon_s, isNon_l, isNon_t, tru_b, tru_i, tru_n, tru_l, tru_t, bLen_l, bLen_t, bAbs_i, bInt_i, bInt_b, bSum_l, bSum_t, bAll_l, bAny_l, bTup_l, bTup_t, bList_l, bList_t, bSorted_l, bSorted_t, bMax_ii, bMin_ii, bRange1_i, bZip_l, bZip_t, bZip3_t, dIx_l, dIx_t, dSlice_l, dSlice_t, isI_1, isI_2, isI_3, isI_4, isI_5, isI_6, isI_7, isI_8, isI_9, isI_10, isI_11, isI_12, isI_13, isI_14, isI_15, isI_16, isI_17, isI_18, isI_19, isI_20, isI_21, isI_22, isI_23, isI_24, isI_25, isI_26, scalar_1, scalar_2, scalar_3, scalar_4, chkS_i, chkS_b, gN_eq, gT_eq, gTL_eq, gsN_nil, gsC_cons, wipeE_nil, wipeE_cons, restE_nil, restE_cons, keepD_n, keepD_d, keepD_l, keepD_x, tYesD_eq, eComp_eq, mComp_eq, compR_ok, compGo_nil, forGo_nil, lp_nx, lp_ct, lp_bk, lp_rt, atI_2, atI_3, atI_4, atI_5, atI_6, atI_7, atI_zero, atI_one, dPow_10_18, beq_self_eq_true, List.map_cons, List.map_nil, List.length_cons, List.length_nil, List.cons_append, List.nil_append, List.set_cons_succ, List.set_cons_zero, List.getElem?_cons_succ, List.getElem?_cons_zero, Option.join_some, Option.map_some, Option.bind_some, List.tail_cons, List.head?_cons, if_true, if_false, Bool.false_eq_true, Bool.true_eq_false, and_true, true_and, List.nodup_cons, List.not_mem_nil, not_false_eq_true, List.nodup_nil, Bool.not_true, Bool.not_false, ite_true, ite_false, Nat.reduceAdd, Nat.reduceSub, Nat.zero_add, List.replicate_zero, List.append_nil, List.mem_cons, Nat.reduceEqDiff, or_false, or_self, reduceIte, decide_true, decide_false, Nat.reduceLeDiff, Nat.reduceLT, Nat.le_refl]
theorem all_true {α : Type} (xs : List α) : bAll [.list (xs.map fun _ => .bool true)] = some (.bool true) := by
  rw [show (xs.map fun _ => PyData.bool true) = (xs.map fun _ => true).map .bool by rw [List.map_map]; rfl, bAll_l]
  simp
theorem equal_same : ∀ (n : Nat) (x : PyData), x.canLay0 = true → x.depth ≤ 60 → x.depth < n → short n x → r__law_equal n [.d x, .d x] = .rt (.d (.bool true)) [none, none]
  | 0, _, _, _, h, _ => absurd h (by omega)
  | n + 1, x, hl, h60, hd, hs => by
    rw [r_eq_succ]
    have sh : SeqAt.shaped x = true := by
      unfold SeqAt.shaped
      rw [hl, Bool.true_and, decide_eq_true_eq]
      omega
    cases x with
    | none => simp only [b__law_equal, Rs.bind_ok, Rs.bind_ex, Rs.bind_no, lift_some, lift_none, thn_nx, thn_rt, thn_bk, thn_ct, thn_ex, thn_no, to_ok, to_ex, to_no, fin_nx, fin_rt, optOut_s, optOut_n, optRs_s, optRs_n, asB_b, chB_b, eVar_eq, slotD_0, slotD_s, slotL_0, slotL_s, slotScr_0, slotScr_s, eC_eq, e2_eq, e1_eq, tb1_eq, tt1_eq, tNotD_eq, tAndD_eq, tOrD_eq, eNot_eq, eAnd_eq, eOr_eq, eIf_eq, eChain_eq, aNil_eq, aCons_eq, aOne_eq, eTup_eq, eLst_eq, mLst_eq, mD_eq, eFrz_eq, frzM_d, frzM_l, eB_eq, eListScr_eq, ixOf_i, eIxO_eq, pNo_eq, pSome_eq, oInt_i, eSlice_eq, eBO_eq, e2R_eq, ttO_eq, eTupO_eq, eListO_eq, eIsi_eq, eListRg_eq, mListRg_eq, eMt_eq, seqOne_l, seqOne_t, mList_eq, itSeq_eq, itB_eq, seqOf_l, seqOf_t, avNil_eq, avD_eq, avS_eq, avMs_nil, avMs_cons, avM_d, avM_sl, jsOf_nil, jsOf_d, jsOf_s, putBack_nil, putBack_d, putBack_s, toRs_rt, callM_eq, eCall_eq, sThen_eq, sE_eq, sNx_eq, sBk_eq, sCt_eq, sNo_eq, sRet_eq, sRetN_eq, sDrop_eq, sIf_eq, sSet_eq, sAsg_eq, sAug_eq, sSetItem_eq, asI_i, setIt_eq, sFor_eq, runDef_eq, start0_eq, outs_nil, outs_cons, rep_succ, mvM_l, mvM_d, alNil_eq, alD_eq, alL_eq, alMs_nil, alMs_cons, alM_d, alM_l, toSc_rt, eCallL_eq, bEnum_l, bEnum_t, eSM_eq, isSq_l, isSq_t, cntD_l, cntD_t, mVar_eq, mvF_l, mvF_d, eVarF_eq, dAdd_ii, dAddI_ii, dSub_ii, dMul_ii, dDiv_ii, dMod_ii, dLt_ii, dLe_ii, dGt_ii, dGe_ii, dNeg_i, dEq_ii, dNe_ii, dEq_bb, dNe_bb, dIs_none, dIsNot_none, isNon_none, isNon_b, isNon_i, isNon_s, isNon_l, isNon_t, tru_b, tru_i, tru_n, tru_l, tru_t, bLen_l, bLen_t, bAbs_i, bInt_i, bInt_b, bSum_l, bSum_t, bAll_l, bAny_l, bTup_l, bTup_t, bList_l, bList_t, bSorted_l, bSorted_t, bMax_ii, bMin_ii, bRange1_i, bZip_l, bZip_t, bZip3_t, dIx_l, dIx_t, dSlice_l, dSlice_t, isI_1, isI_2, isI_3, isI_4, isI_5, isI_6, isI_7, isI_8, isI_9, isI_10, isI_11, isI_12, isI_13, isI_14, isI_15, isI_16, isI_17, isI_18, isI_19, isI_20, isI_21, isI_22, isI_23, isI_24, isI_25, isI_26, scalar_1, scalar_2, scalar_3, scalar_4, chkS_i, chkS_b, gN_eq, gT_eq, gTL_eq, gsN_nil, gsC_cons, wipeE_nil, wipeE_cons, restE_nil, restE_cons, keepD_n, keepD_d, keepD_l, keepD_x, tYesD_eq, eComp_eq, mComp_eq, compR_ok, compGo_nil, forGo_nil, lp_nx, lp_ct, lp_bk, lp_rt, atI_2, atI_3, atI_4, atI_5, atI_6, atI_7, atI_zero, atI_one, dPow_10_18, beq_self_eq_true, List.map_cons, List.map_nil, List.length_cons, List.length_nil, List.cons_append, List.nil_append, List.set_cons_succ, List.set_cons_zero, List.getElem?_cons_succ, List.getElem?_cons_zero, Option.join_some, Option.map_some, Option.bind_some, List.tail_cons, List.head?_cons, if_true, if_false, Bool.false_eq_true, Bool.true_eq_false, and_true, true_and, List.nodup_cons, List.not_mem_nil, not_false_eq_true, List.nodup_nil, Bool.not_true, Bool.not_false, ite_true, ite_false, Nat.reduceAdd, Nat.reduceSub, Nat.zero_add, List.replicate_zero, List.append_nil, List.mem_cons, Nat.reduceEqDiff, or_false, or_self, reduceIte, decide_true, decide_false, Nat.reduceLeDiff, Nat.reduceLT, Nat.le_refl]
    | bool b =>
      have e : dEq (.bool b) (.bool b) = some (.bool true) := by simp
      simp only [b__law_equal, Rs.bind_ok, Rs.bind_ex, Rs.bind_no, lift_some, lift_none, thn_nx, thn_rt, thn_bk, thn_ct, thn_ex, thn_no, to_ok, to_ex, to_no, fin_nx, fin_rt, optOut_s, optOut_n, optRs_s, optRs_n, asB_b, chB_b, eVar_eq, slotD_0, slotD_s, slotL_0, slotL_s, slotScr_0, slotScr_s, eC_eq, e2_eq, e1_eq, tb1_eq, tt1_eq, tNotD_eq, tAndD_eq, tOrD_eq, eNot_eq, eAnd_eq, eOr_eq, eIf_eq, eChain_eq, aNil_eq, aCons_eq, aOne_eq, eTup_eq, eLst_eq, mLst_eq, mD_eq, eFrz_eq, frzM_d, frzM_l, eB_eq, eListScr_eq, ixOf_i, eIxO_eq, pNo_eq, pSome_eq, oInt_i, eSlice_eq, eBO_eq, e2R_eq, ttO_eq, eTupO_eq, eListO_eq, eIsi_eq, eListRg_eq, mListRg_eq, eMt_eq, seqOne_l, seqOne_t, mList_eq, itSeq_eq, itB_eq, seqOf_l, seqOf_t, avNil_eq, avD_eq, avS_eq, avMs_nil, avMs_cons, avM_d, avM_sl, jsOf_nil, jsOf_d, jsOf_s, putBack_nil, putBack_d, putBack_s, toRs_rt, callM_eq, eCall_eq, sThen_eq, sE_eq, sNx_eq, sBk_eq, sCt_eq, sNo_eq, sRet_eq, sRetN_eq, sDrop_eq, sIf_eq, sSet_eq, sAsg_eq, sAug_eq, sSetItem_eq, asI_i, setIt_eq, sFor_eq, runDef_eq, start0_eq, outs_nil, outs_cons, rep_succ, mvM_l, mvM_d, alNil_eq, alD_eq, alL_eq, alMs_nil, alMs_cons, alM_d, alM_l, toSc_rt, eCallL_eq, bEnum_l, bEnum_t, eSM_eq, isSq_l, isSq_t, cntD_l, cntD_t, mVar_eq, mvF_l, mvF_d, eVarF_eq, dAdd_ii, dAddI_ii, dSub_ii, dMul_ii, dDiv_ii, dMod_ii, dLt_ii, dLe_ii, dGt_ii, dGe_ii, dNeg_i, dEq_ii, dNe_ii, dEq_bb, dNe_bb, dIs_none, dIsNot_none, isNon_none, isNon_b, isNon_i, isNon_s, isNon_l, isNon_t, tru_b, tru_i, tru_n, tru_l, tru_t, bLen_l, bLen_t, bAbs_i, bInt_i, bInt_b, bSum_l, bSum_t, bAll_l, bAny_l, bTup_l, bTup_t, bList_l, bList_t, bSorted_l, bSorted_t, bMax_ii, bMin_ii, bRange1_i, bZip_l, bZip_t, bZip3_t, dIx_l, dIx_t, dSlice_l, dSlice_t, isI_1, isI_2, isI_3, isI_4, isI_5, isI_6, isI_7, isI_8, isI_9, isI_10, isI_11, isI_12, isI_13, isI_14, isI_15, isI_16, isI_17, isI_18, isI_19, isI_20, isI_21, isI_22, isI_23, isI_24, isI_25, isI_26, scalar_1, scalar_2, scalar_3, scalar_4, chkS_i, chkS_b, gN_eq, gT_eq, gTL_eq, gsN_nil, gsC_cons, wipeE_nil, wipeE_cons, restE_nil, restE_cons, keepD_n, keepD_d, keepD_l, keepD_x, tYesD_eq, eComp_eq, mComp_eq, compR_ok, compGo_nil, forGo_nil, lp_nx, lp_ct, lp_bk, lp_rt, atI_2, atI_3, atI_4, atI_5, atI_6, atI_7, atI_zero, atI_one, dPow_10_18, beq_self_eq_true, List.map_cons, List.map_nil, List.length_cons, List.length_nil, List.cons_append, List.nil_append, List.set_cons_succ, List.set_cons_zero, List.getElem?_cons_succ, List.getElem?_cons_zero, Option.join_some, Option.map_some, Option.bind_some, List.tail_cons, List.head?_cons, if_true, if_false, Bool.false_eq_true, Bool.true_eq_false, and_true, true_and, List.nodup_cons, List.not_mem_nil, not_false_eq_true, List.nodup_nil, Bool.not_true, Bool.not_false, ite_true, ite_false, Nat.reduceAdd, Nat.reduceSub, Nat.zero_add, List.replicate_zero, List.append_nil, List.mem_cons, Nat.reduceEqDiff, or_false, or_self, reduceIte, decide_true, decide_false, Nat.reduceLeDiff, Nat.reduceLT, Nat.le_refl, isNon_b] at e ⊢
      try (cases b <;> simp [b__law_equal])
    | int i => simp [b__law_equal, is_integer_e]
    | str s =>
      have e : dEq (.str s) (.str s) = some (.bool true) := by
        unfold dEq
        rw [if_pos ⟨sh, sh⟩, PyData.eqv]
        simp
      simp [b__law_equal, e]
    | list xs =>
      rw [PyData.canLay0] at hl
      rw [PyData.depth] at hd h60
      have hxs := canL_get hl
      have hdx := depL_get (Nat.le_refl (PyData.depthAll xs))
      have hc := comp_same (r__law_equal n) (.list xs) xs (fun _ => rfl) fun y hy => equal_same n y (hxs y hy) (by have := hdx y hy; omega) (by have := hdx y hy; omega) (hs.2 y hy)
      have hr : (xs.length : Int) ≤ 16777216 ∧ -(2 ^ 62) ≤ (xs.length : Int) := by have := hs.1; constructor <;> omega
      have hb : (!((xs.length : Int) == (xs.length : Int))) = false := by simp
      simp only [b__law_equal, Rs.bind_ok, Rs.bind_ex, Rs.bind_no, lift_some, lift_none, thn_nx, thn_rt, thn_bk, thn_ct, thn_ex, thn_no, to_ok, to_ex, to_no, fin_nx, fin_rt, optOut_s, optOut_n, optRs_s, optRs_n, asB_b, chB_b, eVar_eq, slotD_0, slotD_s, slotL_0, slotL_s, slotScr_0, slotScr_s, eC_eq, e2_eq, e1_eq, tb1_eq, tt1_eq, tNotD_eq, tAndD_eq, tOrD_eq, eNot_eq, eAnd_eq, eOr_eq, eIf_eq, eChain_eq, aNil_eq, aCons_eq, aOne_eq, eTup_eq, eLst_eq, mLst_eq, mD_eq, eFrz_eq, frzM_d, frzM_l, eB_eq, eListScr_eq, ixOf_i, eIxO_eq, pNo_eq, pSome_eq, oInt_i, eSlice_eq, eBO_eq, e2R_eq, ttO_eq, eTupO_eq, eListO_eq, eIsi_eq, eListRg_eq, mListRg_eq, eMt_eq, seqOne_l, seqOne_t, mList_eq, itSeq_eq, itB_eq, seqOf_l, seqOf_t, avNil_eq, avD_eq, avS_eq, avMs_nil, avMs_cons, avM_d, avM_sl, jsOf_nil, jsOf_d, jsOf_s, putBack_nil, putBack_d, putBack_s, toRs_rt, callM_eq, eCall_eq, sThen_eq, sE_eq, sNx_eq, sBk_eq, sCt_eq, sNo_eq, sRet_eq, sRetN_eq, sDrop_eq, sIf_eq, sSet_eq, sAsg_eq, sAug_eq, sSetItem_eq, asI_i, setIt_eq, sFor_eq, runDef_eq, start0_eq, outs_nil, outs_cons, rep_succ, mvM_l, mvM_d, alNil_eq, alD_eq, alL_eq, alMs_nil, alMs_cons, alM_d, alM_l, toSc_rt, eCallL_eq, bEnum_l, bEnum_t, eSM_eq, isSq_l, isSq_t, cntD_l, cntD_t, mVar_eq, mvF_l, mvF_d, eVarF_eq, dAdd_ii, dAddI_ii, dSub_ii, dMul_ii, dDiv_ii, dMod_ii, dLt_ii, dLe_ii, dGt_ii, dGe_ii, dNeg_i, dEq_ii, dNe_ii, dEq_bb, dNe_bb, dIs_none, dIsNot_none, isNon_none, isNon_b, isNon_i, isNon_s, isNon_l, isNon_t, tru_b, tru_i, tru_n, tru_l, tru_t, bLen_l, bLen_t, bAbs_i, bInt_i, bInt_b, bSum_l, bSum_t, bAll_l, bAny_l, bTup_l, bTup_t, bList_l, bList_t, bSorted_l, bSorted_t, bMax_ii, bMin_ii, bRange1_i, bZip_l, bZip_t, bZip3_t, dIx_l, dIx_t, dSlice_l, dSlice_t, isI_1, isI_2, isI_3, isI_4, isI_5, isI_6, isI_7, isI_8, isI_9, isI_10, isI_11, isI_12, isI_13, isI_14, isI_15, isI_16, isI_17, isI_18, isI_19, isI_20, isI_21, isI_22, isI_23, isI_24, isI_25, isI_26, scalar_1, scalar_2, scalar_3, scalar_4, chkS_i, chkS_b, gN_eq, gT_eq, gTL_eq, gsN_nil, gsC_cons, wipeE_nil, wipeE_cons, restE_nil, restE_cons, keepD_n, keepD_d, keepD_l, keepD_x, tYesD_eq, eComp_eq, mComp_eq, compR_ok, compGo_nil, forGo_nil, lp_nx, lp_ct, lp_bk, lp_rt, atI_2, atI_3, atI_4, atI_5, atI_6, atI_7, atI_zero, atI_one, dPow_10_18, beq_self_eq_true, List.map_cons, List.map_nil, List.length_cons, List.length_nil, List.cons_append, List.nil_append, List.set_cons_succ, List.set_cons_zero, List.getElem?_cons_succ, List.getElem?_cons_zero, Option.join_some, Option.map_some, Option.bind_some, List.tail_cons, List.head?_cons, if_true, if_false, Bool.false_eq_true, Bool.true_eq_false, and_true, true_and, List.nodup_cons, List.not_mem_nil, not_false_eq_true, List.nodup_nil, Bool.not_true, Bool.not_false, ite_true, ite_false, Nat.reduceAdd, Nat.reduceSub, Nat.zero_add, List.replicate_zero, List.append_nil, List.mem_cons, Nat.reduceEqDiff, or_false, or_self, reduceIte, decide_true, decide_false, Nat.reduceLeDiff, Nat.reduceLT, Nat.le_refl, hb, hr, Int.toNat_natCast, hc, all_true]
    | tuple xs =>
      rw [PyData.canLay0] at hl
      rw [PyData.depth] at hd h60
      have hxs := canL_get hl
      have hdx := depL_get (Nat.le_refl (PyData.depthAll xs))
      have hc := comp_same (r__law_equal n) (.tuple xs) xs (fun _ => rfl) fun y hy => equal_same n y (hxs y hy) (by have := hdx y hy; omega) (by have := hdx y hy; omega) (hs.2 y hy)
      have hr : (xs.length : Int) ≤ 16777216 ∧ -(2 ^ 62) ≤ (xs.length : Int) := by have := hs.1; constructor <;> omega
      have hb : (!((xs.length : Int) == (xs.length : Int))) = false := by simp
      simp only [b__law_equal, Rs.bind_ok, Rs.bind_ex, Rs.bind_no, lift_some, lift_none, thn_nx, thn_rt, thn_bk, thn_ct, thn_ex, thn_no, to_ok, to_ex, to_no, fin_nx, fin_rt, optOut_s, optOut_n, optRs_s, optRs_n, asB_b, chB_b, eVar_eq, slotD_0, slotD_s, slotL_0, slotL_s, slotScr_0, slotScr_s, eC_eq, e2_eq, e1_eq, tb1_eq, tt1_eq, tNotD_eq, tAndD_eq, tOrD_eq, eNot_eq, eAnd_eq, eOr_eq, eIf_eq, eChain_eq, aNil_eq, aCons_eq, aOne_eq, eTup_eq, eLst_eq, mLst_eq, mD_eq, eFrz_eq, frzM_d, frzM_l, eB_eq, eListScr_eq, ixOf_i, eIxO_eq, pNo_eq, pSome_eq, oInt_i, eSlice_eq, eBO_eq, e2R_eq, ttO_eq, eTupO_eq, eListO_eq, eIsi_eq, eListRg_eq, mListRg_eq, eMt_eq, seqOne_l, seqOne_t, mList_eq, itSeq_eq, itB_eq, seqOf_l, seqOf_t, avNil_eq, avD_eq, avS_eq, avMs_nil, avMs_cons, avM_d, avM_sl, jsOf_nil, jsOf_d, jsOf_s, putBack_nil, putBack_d, putBack_s, toRs_rt, callM_eq, eCall_eq, sThen_eq, sE_eq, sNx_eq, sBk_eq, sCt_eq, sNo_eq, sRet_eq, sRetN_eq, sDrop_eq, sIf_eq, sSet_eq, sAsg_eq, sAug_eq, sSetItem_eq, asI_i, setIt_eq, sFor_eq, runDef_eq, start0_eq, outs_nil, outs_cons, rep_succ, mvM_l, mvM_d, alNil_eq, alD_eq, alL_eq, alMs_nil, alMs_cons, alM_d, alM_l, toSc_rt, eCallL_eq, bEnum_l, bEnum_t, eSM_eq, isSq_l, isSq_t, cntD_l, cntD_t, mVar_eq, mvF_l, mvF_d, eVarF_eq, dAdd_ii, dAddI_ii, dSub_ii, dMul_ii, dDiv_ii, dMod_ii, dLt_ii, dLe_ii, dGt_ii, dGe_ii, dNeg_i, dEq_ii, dNe_ii, dEq_bb, dNe_bb, dIs_none, dIsNot_none, isNon_none, isNon_b, isNon_i, isNon_s, isNon_l, isNon_t, tru_b, tru_i, tru_n, tru_l, tru_t, bLen_l, bLen_t, bAbs_i, bInt_i, bInt_b, bSum_l, bSum_t, bAll_l, bAny_l, bTup_l, bTup_t, bList_l, bList_t, bSorted_l, bSorted_t, bMax_ii, bMin_ii, bRange1_i, bZip_l, bZip_t, bZip3_t, dIx_l, dIx_t, dSlice_l, dSlice_t, isI_1, isI_2, isI_3, isI_4, isI_5, isI_6, isI_7, isI_8, isI_9, isI_10, isI_11, isI_12, isI_13, isI_14, isI_15, isI_16, isI_17, isI_18, isI_19, isI_20, isI_21, isI_22, isI_23, isI_24, isI_25, isI_26, scalar_1, scalar_2, scalar_3, scalar_4, chkS_i, chkS_b, gN_eq, gT_eq, gTL_eq, gsN_nil, gsC_cons, wipeE_nil, wipeE_cons, restE_nil, restE_cons, keepD_n, keepD_d, keepD_l, keepD_x, tYesD_eq, eComp_eq, mComp_eq, compR_ok, compGo_nil, forGo_nil, lp_nx, lp_ct, lp_bk, lp_rt, atI_2, atI_3, atI_4, atI_5, atI_6, atI_7, atI_zero, atI_one, dPow_10_18, beq_self_eq_true, List.map_cons, List.map_nil, List.length_cons, List.length_nil, List.cons_append, List.nil_append, List.set_cons_succ, List.set_cons_zero, List.getElem?_cons_succ, List.getElem?_cons_zero, Option.join_some, Option.map_some, Option.bind_some, List.tail_cons, List.head?_cons, if_true, if_false, Bool.false_eq_true, Bool.true_eq_false, and_true, true_and, List.nodup_cons, List.not_mem_nil, not_false_eq_true, List.nodup_nil, Bool.not_true, Bool.not_false, ite_true, ite_false, Nat.reduceAdd, Nat.reduceSub, Nat.zero_add, List.replicate_zero, List.append_nil, List.mem_cons, Nat.reduceEqDiff, or_false, or_self, reduceIte, decide_true, decide_false, Nat.reduceLeDiff, Nat.reduceLT, Nat.le_refl, hb, hr, Int.toNat_natCast, hc, all_true]
    | dict kvs => rw [PyData.canLay0] at hl; cases hl
/-- two rows of whole numbers that are the same -/
theorem equal_tup (ns : List Int) (h : ns.length ≤ 16777216) : f__law_equal [.d (.tuple (ns.map .int)), .d (.tuple (ns.map .int))] = .rt (.d (.bool true)) [none, none] := by
  refine equal_same 8 _ ?_ ?_ ?_ ?_
  · rw [PyData.canLay0]; exact (lay_ints ns).1
  · rw [PyData.depth, (lay_ints ns).2]; omega
  · rw [PyData.depth, (lay_ints ns).2]; omega
  · refine ⟨by simpa using h, fun x hx => ?_⟩
    obtain ⟨i, _, rfl⟩ := List.mem_map.1 hx
    trivial
theorem equal_lst (ns : List Int) (h : ns.length ≤ 16777216) : f__law_equal [.d (.list (ns.map .int)), .d (.list (ns.map .int))] = .rt (.d (.bool true)) [none, none] := by
  refine equal_same 8 _ ?_ ?_ ?_ ?_
  · rw [PyData.canLay0]; exact (lay_ints ns).1
  · rw [PyData.depth, (lay_ints ns).2]; omega
  · rw [PyData.depth, (lay_ints ns).2]; omega
  · refine ⟨by simpa using h, fun x hx => ?_⟩
    obtain ⟨i, _, rfl⟩ := List.mem_map.1 hx
    trivial
/-! transfers -/
def trf : List Int → List Int → Int
  | x :: xs, y :: ys => (if x - y > 0 then x - y else 0) + trf xs ys
  | _, _ => 0
theorem zip2_cons (x y : PyData) (xs ys) : zip2 (x :: xs) (y :: ys) = .tuple [x, y] :: zip2 xs ys := rfl
theorem transfer_comp : ∀ (ns ms : List Int) (acc : List PyData) (a b : Option M), compGo (gT 2 (gsC (gN 3) (gsC (gN 2) gsN))) tYesD (eB bMax (aCons (eC (.int 0)) (aCons (e2 dSub (eVar 3) (eVar 2)) (aNil)))) [3, 2] (zip2 (ns.map .int) (ms.map .int)) acc [a, b, none, none] =
      .ok (acc ++ ((ns.zip ms).map fun p => if p.1 - p.2 > 0 then p.1 - p.2 else 0).map .int) [a, b, none, none]
  | [], ms, acc, a, b => by simp [zip2]
  | _ :: _, [], acc, a, b => by simp [zip2]
  | x :: xs, y :: ys, acc, a, b => by
    have ih := transfer_comp xs ys (acc ++ [.int (if x - y > 0 then x - y else 0)]) a b
    simp only [List.map_cons, zip2_cons, compGo_cons, Rs.bind_ok, Rs.bind_ex, Rs.bind_no, lift_some, lift_none, thn_nx, thn_rt, thn_bk, thn_ct, thn_ex, thn_no, to_ok, to_ex, to_no, fin_nx, fin_rt, optOut_s, optOut_n, optRs_s, optRs_n, asB_b, chB_b, eVar_eq, slotD_0, slotD_s, slotL_0, slotL_s, slotScr_0, slotScr_s, eC_eq, e2_eq, e1_eq, tb1_eq, tt1_eq, tNotD_eq, tAndD_eq, tOrD_eq, eNot_eq, eAnd_eq, eOr_eq, eIf_eq, eChain_eq, aNil_eq, aCons_eq, aOne_eq, eTup_eq, eLst_eq, mLst_eq, mD_eq, eFrz_eq, frzM_d, frzM_l, eB_eq, eListScr_eq, ixOf_i, eIxO_eq, pNo_eq, pSome_eq, oInt_i, eSlice_eq, eBO_eq, e2R_eq, ttO_eq, eTupO_eq, eListO_eq, eIsi_eq, eListRg_eq, mListRg_eq, eMt_eq, seqOne_l, seqOne_t, mList_eq, itSeq_eq, itB_eq, seqOf_l, seqOf_t, avNil_eq, avD_eq, avS_eq, avMs_nil, avMs_cons, avM_d, avM_sl, jsOf_nil, jsOf_d, jsOf_s, putBack_nil, putBack_d, putBack_s, toRs_rt, callM_eq, eCall_eq, sThen_eq, sE_eq, sNx_eq, sBk_eq, sCt_eq, sNo_eq, sRet_eq, sRetN_eq, sDrop_eq, sIf_eq, sSet_eq, sAsg_eq, sAug_eq, sSetItem_eq, asI_i, setIt_eq, sFor_eq, runDef_eq, start0_eq, outs_nil, outs_cons, rep_succ, mvM_l, mvM_d, alNil_eq, alD_eq, alL_eq, alMs_nil, alMs_cons, alM_d, alM_l, toSc_rt, eCallL_eq, bEnum_l, bEnum_t, eSM_eq, isSq_l, isSq_t, cntD_l, cntD_t, mVar_eq, mvF_l, mvF_d, eVarF_eq, dAdd_ii, dAddI_ii, dSub_ii, dMul_ii, dDiv_ii, dMod_ii, dLt_ii, dLe_ii, dGt_ii, dGe_ii, dNeg_i, dEq_ii, dNe_ii, dEq_bb, dNe_bb, dIs_none, dIsNot_none, isNon_none, isNon_b, isNon_i, isNon_s, isNon_l, isNon_t, tru_b, tru_i, tru_n, tru_l, tru_t, bLen_l, bLen_t, bAbs_i, bInt_i, bInt_b, bSum_l, bSum_t, bAll_l, bAny_l, bTup_l, bTup_t, bList_l, bList_t, bSorted_l, bSorted_t, bMax_ii, bMin_ii, bRange1_i, bZip_l, bZip_t, bZip3_t, dIx_l, dIx_t, dSlice_l, dSlice_t, isI_1, isI_2, isI_3, isI_4, isI_5, isI_6, isI_7, isI_8, isI_9, isI_10, isI_11, isI_12, isI_13, isI_14, isI_15, isI_16, isI_17, isI_18, isI_19, isI_20, isI_21, isI_22, isI_23, isI_24, isI_25, isI_26, scalar_1, scalar_2, scalar_3, scalar_4, chkS_i, chkS_b, gN_eq, gT_eq, gTL_eq, gsN_nil, gsC_cons, wipeE_nil, wipeE_cons, restE_nil, restE_cons, keepD_n, keepD_d, keepD_l, keepD_x, tYesD_eq, eComp_eq, mComp_eq, compR_ok, compGo_nil, forGo_nil, lp_nx, lp_ct, lp_bk, lp_rt, atI_2, atI_3, atI_4, atI_5, atI_6, atI_7, atI_zero, atI_one, dPow_10_18, beq_self_eq_true, List.map_cons, List.map_nil, List.length_cons, List.length_nil, List.cons_append, List.nil_append, List.set_cons_succ, List.set_cons_zero, List.getElem?_cons_succ, List.getElem?_cons_zero, Option.join_some, Option.map_some, Option.bind_some, List.tail_cons, List.head?_cons, if_true, if_false, Bool.false_eq_true, Bool.true_eq_false, and_true, true_and, List.nodup_cons, List.not_mem_nil, not_false_eq_true, List.nodup_nil, Bool.not_true, Bool.not_false, ite_true, ite_false, Nat.reduceAdd, Nat.reduceSub, Nat.zero_add, List.replicate_zero, List.append_nil, List.mem_cons, Nat.reduceEqDiff, or_false, or_self, reduceIte, decide_true, decide_false, Nat.reduceLeDiff, Nat.reduceLT, Nat.le_refl] at ih ⊢
    rw [ih]
    simp
theorem trf_sum : ∀ ns ms : List Int, ((ns.zip ms).map fun p => if p.1 - p.2 > 0 then p.1 - p.2 else 0).sum = trf ns ms
  | [], ms => by simp [trf]
  | _ :: _, [] => by simp [trf]
  | x :: xs, y :: ys => by
    rw [List.zip_cons_cons, List.map_cons, List.sum_cons, trf_sum xs ys, trf]
theorem transfer_of_e (ns ms : List Int) : f_transfer_of [.d (.tuple (ns.map .int)), .d (.tuple (ms.map .int))] = .rt (.d (.int (trf ns ms))) [none, none] := by
  have h := transfer_comp ns ms [] (some (.d (.tuple (ns.map .int)))) (some (.d (.tuple (ms.map .int))))
  simp only [f_transfer_of, b_transfer_of, Rs.bind_ok, Rs.bind_ex, Rs.bind_no, lift_some, lift_none, thn_nx, thn_rt, thn_bk, thn_ct, thn_ex, thn_no, to_ok, to_ex, to_no, fin_nx, fin_rt, optOut_s, optOut_n, optRs_s, optRs_n, asB_b, chB_b, eVar_eq, slotD_0, slotD_s, slotL_0, slotL_s, slotScr_0, slotScr_s, eC_eq, e2_eq, e1_eq, tb1_eq, tt1_eq, tNotD_eq, tAndD_eq, tOrD_eq, eNot_eq, eAnd_eq, eOr_eq, eIf_eq, eChain_eq, aNil_eq, aCons_eq, aOne_eq, eTup_eq, eLst_eq, mLst_eq, mD_eq, eFrz_eq, frzM_d, frzM_l, eB_eq, eListScr_eq, ixOf_i, eIxO_eq, pNo_eq, pSome_eq, oInt_i, eSlice_eq, eBO_eq, e2R_eq, ttO_eq, eTupO_eq, eListO_eq, eIsi_eq, eListRg_eq, mListRg_eq, eMt_eq, seqOne_l, seqOne_t, mList_eq, itSeq_eq, itB_eq, seqOf_l, seqOf_t, avNil_eq, avD_eq, avS_eq, avMs_nil, avMs_cons, avM_d, avM_sl, jsOf_nil, jsOf_d, jsOf_s, putBack_nil, putBack_d, putBack_s, toRs_rt, callM_eq, eCall_eq, sThen_eq, sE_eq, sNx_eq, sBk_eq, sCt_eq, sNo_eq, sRet_eq, sRetN_eq, sDrop_eq, sIf_eq, sSet_eq, sAsg_eq, sAug_eq, sSetItem_eq, asI_i, setIt_eq, sFor_eq, runDef_eq, start0_eq, outs_nil, outs_cons, rep_succ, mvM_l, mvM_d, alNil_eq, alD_eq, alL_eq, alMs_nil, alMs_cons, alM_d, alM_l, toSc_rt, eCallL_eq, bEnum_l, bEnum_t, eSM_eq, isSq_l, isSq_t, cntD_l, cntD_t, mVar_eq, mvF_l, mvF_d, eVarF_eq, dAdd_ii, dAddI_ii, dSub_ii, dMul_ii, dDiv_ii, dMod_ii, dLt_ii, dLe_ii, dGt_ii, dGe_ii, dNeg_i, dEq_ii, dNe_ii, dEq_bb, dNe_bb, dIs_none, dIsNot_none, isNon_none, isNon_b, isNon_i, isNon_s, isNon_l, isNon_t, tru_b, tru_i, tru_n, tru_l, tru_t, bLen_l, bLen_t, bAbs_i, bInt_i, bInt_b, bSum_l, bSum_t, bAll_l, bAny_l, bTup_l, bTup_t, bList_l, bList_t, bSorted_l, bSorted_t, bMax_ii, bMin_ii, bRange1_i, bZip_l, bZip_t, bZip3_t, dIx_l, dIx_t, dSlice_l, dSlice_t, isI_1, isI_2, isI_3, isI_4, isI_5, isI_6, isI_7, isI_8, isI_9, isI_10, isI_11, isI_12, isI_13, isI_14, isI_15, isI_16, isI_17, isI_18, isI_19, isI_20, isI_21, isI_22, isI_23, isI_24, isI_25, isI_26, scalar_1, scalar_2, scalar_3, scalar_4, chkS_i, chkS_b, gN_eq, gT_eq, gTL_eq, gsN_nil, gsC_cons, wipeE_nil, wipeE_cons, restE_nil, restE_cons, keepD_n, keepD_d, keepD_l, keepD_x, tYesD_eq, eComp_eq, mComp_eq, compR_ok, compGo_nil, forGo_nil, lp_nx, lp_ct, lp_bk, lp_rt, atI_2, atI_3, atI_4, atI_5, atI_6, atI_7, atI_zero, atI_one, dPow_10_18, beq_self_eq_true, List.map_cons, List.map_nil, List.length_cons, List.length_nil, List.cons_append, List.nil_append, List.set_cons_succ, List.set_cons_zero, List.getElem?_cons_succ, List.getElem?_cons_zero, Option.join_some, Option.map_some, Option.bind_some, List.tail_cons, List.head?_cons, if_true, if_false, Bool.false_eq_true, Bool.true_eq_false, and_true, true_and, List.nodup_cons, List.not_mem_nil, not_false_eq_true, List.nodup_nil, Bool.not_true, Bool.not_false, ite_true, ite_false, Nat.reduceAdd, Nat.reduceSub, Nat.zero_add, List.replicate_zero, List.append_nil, List.mem_cons, Nat.reduceEqDiff, or_false, or_self, reduceIte, decide_true, decide_false, Nat.reduceLeDiff, Nat.reduceLT, Nat.le_refl, h, List.nil_append, bSum_l, trf_sum]
/-- a good allocation -/
def Good (ns : List Int) : Prop := 1 ≤ ns.length ∧ ns.length ≤ 5 ∧ (∀ i ∈ ns, 0 ≤ i ∧ i ≤ 20) ∧ ns.sum ≤ 20
theorem check_allocation_e (ns : List Int) (nm : PyData) (h : Good ns) : f_check_allocation [.d (.tuple (ns.map .int)), .d nm] = .rt (.d .none) [none, none] := by
  obtain ⟨h1, h2, h3, h4⟩ := h
  have hc : compGo (gN 2) tYesD (eFrz (eCall 3 f_is_between (avD (eVar 2) (avD (eC (.int 0)) (avD (eC (.int 20)) (avNil)))))) [2] (ns.map .int) [] [some (.d (.tuple (ns.map .int))), some (.d nm), none] = .ok ([] ++ (ns.map PyData.int).map fun x => .bool (btw 0 20 x)) [some (.d (.tuple (ns.map .int))), some (.d nm), none] := by
    refine compGo_id (fun x => .bool (btw 0 20 x)) _ [] fun x _ => ⟨[some (.d (.tuple (ns.map .int))), some (.d nm), some (.d x)], ?_, ?_, ?_⟩
    · simp only [Rs.bind_ok, Rs.bind_ex, Rs.bind_no, lift_some, lift_none, thn_nx, thn_rt, thn_bk, thn_ct, thn_ex, thn_no, to_ok, to_ex, to_no, fin_nx, fin_rt, optOut_s, optOut_n, optRs_s, optRs_n, asB_b, chB_b, eVar_eq, slotD_0, slotD_s, slotL_0, slotL_s, slotScr_0, slotScr_s, eC_eq, e2_eq, e1_eq, tb1_eq, tt1_eq, tNotD_eq, tAndD_eq, tOrD_eq, eNot_eq, eAnd_eq, eOr_eq, eIf_eq, eChain_eq, aNil_eq, aCons_eq, aOne_eq, eTup_eq, eLst_eq, mLst_eq, mD_eq, eFrz_eq, frzM_d, frzM_l, eB_eq, eListScr_eq, ixOf_i, eIxO_eq, pNo_eq, pSome_eq, oInt_i, eSlice_eq, eBO_eq, e2R_eq, ttO_eq, eTupO_eq, eListO_eq, eIsi_eq, eListRg_eq, mListRg_eq, eMt_eq, seqOne_l, seqOne_t, mList_eq, itSeq_eq, itB_eq, seqOf_l, seqOf_t, avNil_eq, avD_eq, avS_eq, avMs_nil, avMs_cons, avM_d, avM_sl, jsOf_nil, jsOf_d, jsOf_s, putBack_nil, putBack_d, putBack_s, toRs_rt, callM_eq, eCall_eq, sThen_eq, sE_eq, sNx_eq, sBk_eq, sCt_eq, sNo_eq, sRet_eq, sRetN_eq, sDrop_eq, sIf_eq, sSet_eq, sAsg_eq, sAug_eq, sSetItem_eq, asI_i, setIt_eq, sFor_eq, runDef_eq, start0_eq, outs_nil, outs_cons, rep_succ, mvM_l, mvM_d, alNil_eq, alD_eq, alL_eq, alMs_nil, alMs_cons, alM_d, alM_l, toSc_rt, eCallL_eq, bEnum_l, bEnum_t, eSM_eq, isSq_l, isSq_t, cntD_l, cntD_t, mVar_eq, mvF_l, mvF_d, eVarF_eq, dAdd_ii, dAddI_ii, dSub_ii, dMul_ii, dDiv_ii, dMod_ii, dLt_ii, dLe_ii, dGt_ii, dGe_ii, dNeg_i, dEq_ii, dNe_ii, dEq_bb, dNe_bb, dIs_none, dIsNot_none, isNon_none, isNon_b, isNon_i, isNon_s, isNon_l, isNon_t, tru_b, tru_i, tru_n, tru_l, tru_t, bLen_l, bLen_t, bAbs_i, bInt_i, bInt_b, bSum_l, bSum_t, bAll_l, bAny_l, bTup_l, bTup_t, bList_l, bList_t, bSorted_l, bSorted_t, bMax_ii, bMin_ii, bRange1_i, bZip_l, bZip_t, bZip3_t, dIx_l, dIx_t, dSlice_l, dSlice_t, isI_1, isI_2, isI_3, isI_4, isI_5, isI_6, isI_7, isI_8, isI_9, isI_10, isI_11, isI_12, isI_13, isI_14, isI_15, isI_16, isI_17, isI_18, isI_19, isI_20, isI_21, isI_22, isI_23, isI_24, isI_25, isI_26, scalar_1, scalar_2, scalar_3, scalar_4, chkS_i, chkS_b, gN_eq, gT_eq, gTL_eq, gsN_nil, gsC_cons, wipeE_nil, wipeE_cons, restE_nil, restE_cons, keepD_n, keepD_d, keepD_l, keepD_x, tYesD_eq, eComp_eq, mComp_eq, compR_ok, compGo_nil, forGo_nil, lp_nx, lp_ct, lp_bk, lp_rt, atI_2, atI_3, atI_4, atI_5, atI_6, atI_7, atI_zero, atI_one, dPow_10_18, beq_self_eq_true, List.map_cons, List.map_nil, List.length_cons, List.length_nil, List.cons_append, List.nil_append, List.set_cons_succ, List.set_cons_zero, List.getElem?_cons_succ, List.getElem?_cons_zero, Option.join_some, Option.map_some, Option.bind_some, List.tail_cons, List.head?_cons, if_true, if_false, Bool.false_eq_true, Bool.true_eq_false, and_true, true_and, List.nodup_cons, List.not_mem_nil, not_false_eq_true, List.nodup_nil, Bool.not_true, Bool.not_false, ite_true, ite_false, Nat.reduceAdd, Nat.reduceSub, Nat.zero_add, List.replicate_zero, List.append_nil, List.mem_cons, Nat.reduceEqDiff, or_false, or_self, reduceIte, decide_true, decide_false, Nat.reduceLeDiff, Nat.reduceLT, Nat.le_refl]
    · simp only [Rs.bind_ok, Rs.bind_ex, Rs.bind_no, lift_some, lift_none, thn_nx, thn_rt, thn_bk, thn_ct, thn_ex, thn_no, to_ok, to_ex, to_no, fin_nx, fin_rt, optOut_s, optOut_n, optRs_s, optRs_n, asB_b, chB_b, eVar_eq, slotD_0, slotD_s, slotL_0, slotL_s, slotScr_0, slotScr_s, eC_eq, e2_eq, e1_eq, tb1_eq, tt1_eq, tNotD_eq, tAndD_eq, tOrD_eq, eNot_eq, eAnd_eq, eOr_eq, eIf_eq, eChain_eq, aNil_eq, aCons_eq, aOne_eq, eTup_eq, eLst_eq, mLst_eq, mD_eq, eFrz_eq, frzM_d, frzM_l, eB_eq, eListScr_eq, ixOf_i, eIxO_eq, pNo_eq, pSome_eq, oInt_i, eSlice_eq, eBO_eq, e2R_eq, ttO_eq, eTupO_eq, eListO_eq, eIsi_eq, eListRg_eq, mListRg_eq, eMt_eq, seqOne_l, seqOne_t, mList_eq, itSeq_eq, itB_eq, seqOf_l, seqOf_t, avNil_eq, avD_eq, avS_eq, avMs_nil, avMs_cons, avM_d, avM_sl, jsOf_nil, jsOf_d, jsOf_s, putBack_nil, putBack_d, putBack_s, toRs_rt, callM_eq, eCall_eq, sThen_eq, sE_eq, sNx_eq, sBk_eq, sCt_eq, sNo_eq, sRet_eq, sRetN_eq, sDrop_eq, sIf_eq, sSet_eq, sAsg_eq, sAug_eq, sSetItem_eq, asI_i, setIt_eq, sFor_eq, runDef_eq, start0_eq, outs_nil, outs_cons, rep_succ, mvM_l, mvM_d, alNil_eq, alD_eq, alL_eq, alMs_nil, alMs_cons, alM_d, alM_l, toSc_rt, eCallL_eq, bEnum_l, bEnum_t, eSM_eq, isSq_l, isSq_t, cntD_l, cntD_t, mVar_eq, mvF_l, mvF_d, eVarF_eq, dAdd_ii, dAddI_ii, dSub_ii, dMul_ii, dDiv_ii, dMod_ii, dLt_ii, dLe_ii, dGt_ii, dGe_ii, dNeg_i, dEq_ii, dNe_ii, dEq_bb, dNe_bb, dIs_none, dIsNot_none, isNon_none, isNon_b, isNon_i, isNon_s, isNon_l, isNon_t, tru_b, tru_i, tru_n, tru_l, tru_t, bLen_l, bLen_t, bAbs_i, bInt_i, bInt_b, bSum_l, bSum_t, bAll_l, bAny_l, bTup_l, bTup_t, bList_l, bList_t, bSorted_l, bSorted_t, bMax_ii, bMin_ii, bRange1_i, bZip_l, bZip_t, bZip3_t, dIx_l, dIx_t, dSlice_l, dSlice_t, isI_1, isI_2, isI_3, isI_4, isI_5, isI_6, isI_7, isI_8, isI_9, isI_10, isI_11, isI_12, isI_13, isI_14, isI_15, isI_16, isI_17, isI_18, isI_19, isI_20, isI_21, isI_22, isI_23, isI_24, isI_25, isI_26, scalar_1, scalar_2, scalar_3, scalar_4, chkS_i, chkS_b, gN_eq, gT_eq, gTL_eq, gsN_nil, gsC_cons, wipeE_nil, wipeE_cons, restE_nil, restE_cons, keepD_n, keepD_d, keepD_l, keepD_x, tYesD_eq, eComp_eq, mComp_eq, compR_ok, compGo_nil, forGo_nil, lp_nx, lp_ct, lp_bk, lp_rt, atI_2, atI_3, atI_4, atI_5, atI_6, atI_7, atI_zero, atI_one, dPow_10_18, beq_self_eq_true, List.map_cons, List.map_nil, List.length_cons, List.length_nil, List.cons_append, List.nil_append, List.set_cons_succ, List.set_cons_zero, List.getElem?_cons_succ, List.getElem?_cons_zero, Option.join_some, Option.map_some, Option.bind_some, List.tail_cons, List.head?_cons, if_true, if_false, Bool.false_eq_true, Bool.true_eq_false, and_true, true_and, List.nodup_cons, List.not_mem_nil, not_false_eq_true, List.nodup_nil, Bool.not_true, Bool.not_false, ite_true, ite_false, Nat.reduceAdd, Nat.reduceSub, Nat.zero_add, List.replicate_zero, List.append_nil, List.mem_cons, Nat.reduceEqDiff, or_false, or_self, reduceIte, decide_true, decide_false, Nat.reduceLeDiff, Nat.reduceLT, Nat.le_refl, is_between_e]
    · simp only [Rs.bind_ok, Rs.bind_ex, Rs.bind_no, lift_some, lift_none, thn_nx, thn_rt, thn_bk, thn_ct, thn_ex, thn_no, to_ok, to_ex, to_no, fin_nx, fin_rt, optOut_s, optOut_n, optRs_s, optRs_n, asB_b, chB_b, eVar_eq, slotD_0, slotD_s, slotL_0, slotL_s, slotScr_0, slotScr_s, eC_eq, e2_eq, e1_eq, tb1_eq, tt1_eq, tNotD_eq, tAndD_eq, tOrD_eq, eNot_eq, eAnd_eq, eOr_eq, eIf_eq, eChain_eq, aNil_eq, aCons_eq, aOne_eq, eTup_eq, eLst_eq, mLst_eq, mD_eq, eFrz_eq, frzM_d, frzM_l, eB_eq, eListScr_eq, ixOf_i, eIxO_eq, pNo_eq, pSome_eq, oInt_i, eSlice_eq, eBO_eq, e2R_eq, ttO_eq, eTupO_eq, eListO_eq, eIsi_eq, eListRg_eq, mListRg_eq, eMt_eq, seqOne_l, seqOne_t, mList_eq, itSeq_eq, itB_eq, seqOf_l, seqOf_t, avNil_eq, avD_eq, avS_eq, avMs_nil, avMs_cons, avM_d, avM_sl, jsOf_nil, jsOf_d, jsOf_s, putBack_nil, putBack_d, putBack_s, toRs_rt, callM_eq, eCall_eq, sThen_eq, sE_eq, sNx_eq, sBk_eq, sCt_eq, sNo_eq, sRet_eq, sRetN_eq, sDrop_eq, sIf_eq, sSet_eq, sAsg_eq, sAug_eq, sSetItem_eq, asI_i, setIt_eq, sFor_eq, runDef_eq, start0_eq, outs_nil, outs_cons, rep_succ, mvM_l, mvM_d, alNil_eq, alD_eq, alL_eq, alMs_nil, alMs_cons, alM_d, alM_l, toSc_rt, eCallL_eq, bEnum_l, bEnum_t, eSM_eq, isSq_l, isSq_t, cntD_l, cntD_t, mVar_eq, mvF_l, mvF_d, eVarF_eq, dAdd_ii, dAddI_ii, dSub_ii, dMul_ii, dDiv_ii, dMod_ii, dLt_ii, dLe_ii, dGt_ii, dGe_ii, dNeg_i, dEq_ii, dNe_ii, dEq_bb, dNe_bb, dIs_none, dIsNot_none, isNon_none, isNon_b, isNon_i, isNon_s, isNon_l, isNon_t, tru_b, tru_i, tru_n, tru_l, tru_t, bLen_l, bLen_t, bAbs_i, bInt_i, bInt_b, bSum_l, bSum_t, bAll_l, bAny_l, bTup_l, bTup_t, bList_l, bList_t, bSorted_l, bSorted_t, bMax_ii, bMin_ii, bRange1_i, bZip_l, bZip_t, bZip3_t, dIx_l, dIx_t, dSlice_l, dSlice_t, isI_1, isI_2, isI_3, isI_4, isI_5, isI_6, isI_7, isI_8, isI_9, isI_10, isI_11, isI_12, isI_13, isI_14, isI_15, isI_16, isI_17, isI_18, isI_19, isI_20, isI_21, isI_22, isI_23, isI_24, isI_25, isI_26, scalar_1, scalar_2, scalar_3, scalar_4, chkS_i, chkS_b, gN_eq, gT_eq, gTL_eq, gsN_nil, gsC_cons, wipeE_nil, wipeE_cons, restE_nil, restE_cons, keepD_n, keepD_d, keepD_l, keepD_x, tYesD_eq, eComp_eq, mComp_eq, compR_ok, compGo_nil, forGo_nil, lp_nx, lp_ct, lp_bk, lp_rt, atI_2, atI_3, atI_4, atI_5, atI_6, atI_7, atI_zero, atI_one, dPow_10_18, beq_self_eq_true, List.map_cons, List.map_nil, List.length_cons, List.length_nil, List.cons_append, List.nil_append, List.set_cons_succ, List.set_cons_zero, List.getElem?_cons_succ, List.getElem?_cons_zero, Option.join_some, Option.map_some, Option.bind_some, List.tail_cons, List.head?_cons, if_true, if_false, Bool.false_eq_true, Bool.true_eq_false, and_true, true_and, List.nodup_cons, List.not_mem_nil, not_false_eq_true, List.nodup_nil, Bool.not_true, Bool.not_false, ite_true, ite_false, Nat.reduceAdd, Nat.reduceSub, Nat.zero_add, List.replicate_zero, List.append_nil, List.mem_cons, Nat.reduceEqDiff, or_false, or_self, reduceIte, decide_true, decide_false, Nat.reduceLeDiff, Nat.reduceLT, Nat.le_refl]
  have hm : ((ns.map PyData.int).map fun x => PyData.bool (btw 0 20 x)) = (ns.map fun _ => PyData.bool true) := by
    rw [List.map_map]
    refine List.map_congr_left fun i hi => ?_
    have := h3 i hi
    simp [btw, this]
  have hs : decide (20 < ns.sum) = false := by simpa using h4
  have l1 : decide ((1 : Int) ≤ ns.length) = true := decide_eq_true (by omega)
  have l2 : decide ((ns.length : Int) ≤ 5) = true := decide_eq_true (by omega)
  simp only [f_check_allocation, b_check_allocation, Rs.bind_ok, Rs.bind_ex, Rs.bind_no, lift_some, lift_none, thn_nx, thn_rt, thn_bk, thn_ct, thn_ex, thn_no, to_ok, to_ex, to_no, fin_nx, fin_rt, optOut_s, optOut_n, optRs_s, optRs_n, asB_b, chB_b, eVar_eq, slotD_0, slotD_s, slotL_0, slotL_s, slotScr_0, slotScr_s, eC_eq, e2_eq, e1_eq, tb1_eq, tt1_eq, tNotD_eq, tAndD_eq, tOrD_eq, eNot_eq, eAnd_eq, eOr_eq, eIf_eq, eChain_eq, aNil_eq, aCons_eq, aOne_eq, eTup_eq, eLst_eq, mLst_eq, mD_eq, eFrz_eq, frzM_d, frzM_l, eB_eq, eListScr_eq, ixOf_i, eIxO_eq, pNo_eq, pSome_eq, oInt_i, eSlice_eq, eBO_eq, e2R_eq, ttO_eq, eTupO_eq, eListO_eq, eIsi_eq, eListRg_eq, mListRg_eq, eMt_eq, seqOne_l, seqOne_t, mList_eq, itSeq_eq, itB_eq, seqOf_l, seqOf_t, avNil_eq, avD_eq, avS_eq, avMs_nil, avMs_cons, avM_d, avM_sl, jsOf_nil, jsOf_d, jsOf_s, putBack_nil, putBack_d, putBack_s, toRs_rt, callM_eq, eCall_eq, sThen_eq, sE_eq, sNx_eq, sBk_eq, sCt_eq, sNo_eq, sRet_eq, sRetN_eq, sDrop_eq, sIf_eq, sSet_eq, sAsg_eq, sAug_eq, sSetItem_eq, asI_i, setIt_eq, sFor_eq, runDef_eq, start0_eq, outs_nil, outs_cons, rep_succ, mvM_l, mvM_d, alNil_eq, alD_eq, alL_eq, alMs_nil, alMs_cons, alM_d, alM_l, toSc_rt, eCallL_eq, bEnum_l, bEnum_t, eSM_eq, isSq_l, isSq_t, cntD_l, cntD_t, mVar_eq, mvF_l, mvF_d, eVarF_eq, dAdd_ii, dAddI_ii, dSub_ii, dMul_ii, dDiv_ii, dMod_ii, dLt_ii, dLe_ii, dGt_ii, dGe_ii, dNeg_i, dEq_ii, dNe_ii, dEq_bb, dNe_bb, dIs_none, dIsNot_none, isNon_none, isNon_b, isNon_i, isNon_s, isNon_l, isNon_t, tru_b, tru_i, tru_n, tru_l, tru_t, bLen_l, bLen_t, bAbs_i, bInt_i, bInt_b, bSum_l, bSum_t, bAll_l, bAny_l, bTup_l, bTup_t, bList_l, bList_t, bSorted_l, bSorted_t, bMax_ii, bMin_ii, bRange1_i, bZip_l, bZip_t, bZip3_t, dIx_l, dIx_t, dSlice_l, dSlice_t, isI_1, isI_2, isI_3, isI_4, isI_5, isI_6, isI_7, isI_8, isI_9, isI_10, isI_11, isI_12, isI_13, isI_14, isI_15, isI_16, isI_17, isI_18, isI_19, isI_20, isI_21, isI_22, isI_23, isI_24, isI_25, isI_26, scalar_1, scalar_2, scalar_3, scalar_4, chkS_i, chkS_b, gN_eq, gT_eq, gTL_eq, gsN_nil, gsC_cons, wipeE_nil, wipeE_cons, restE_nil, restE_cons, keepD_n, keepD_d, keepD_l, keepD_x, tYesD_eq, eComp_eq, mComp_eq, compR_ok, compGo_nil, forGo_nil, lp_nx, lp_ct, lp_bk, lp_rt, atI_2, atI_3, atI_4, atI_5, atI_6, atI_7, atI_zero, atI_one, dPow_10_18, beq_self_eq_true, List.map_cons, List.map_nil, List.length_cons, List.length_nil, List.cons_append, List.nil_append, List.set_cons_succ, List.set_cons_zero, List.getElem?_cons_succ, List.getElem?_cons_zero, Option.join_some, Option.map_some, Option.bind_some, List.tail_cons, List.head?_cons, if_true, if_false, Bool.false_eq_true, Bool.true_eq_false, and_true, true_and, List.nodup_cons, List.not_mem_nil, not_false_eq_true, List.nodup_nil, Bool.not_true, Bool.not_false, ite_true, ite_false, Nat.reduceAdd, Nat.reduceSub, Nat.zero_add, List.replicate_zero, List.append_nil, List.mem_cons, Nat.reduceEqDiff, or_false, or_self, reduceIte, decide_true, decide_false, Nat.reduceLeDiff, Nat.reduceLT, Nat.le_refl, List.length_map, l1, l2, hc, hm, all_true, bSum_t, hs]
open Classical in
theorem check_alike_e (ns ms : List Int) (nm : PyData) (h0 : ∀ i ∈ ns, 0 ≤ i) (hl : ns.length = ms.length) (hs : ns.sum = ms.sum) : f_check_alike [.d (.tuple (ns.map .int)), .d (.tuple (ms.map .int)), .d nm] = .rt (.d .none) [none, none, none] := by
  have j : decide (IsAll (.tuple (ns.map .int)) ms.length ms.sum) = true := decide_eq_true ⟨ns, rfl, by omega, h0, hs⟩
  simp only [f_check_alike, b_check_alike, Rs.bind_ok, Rs.bind_ex, Rs.bind_no, lift_some, lift_none, thn_nx, thn_rt, thn_bk, thn_ct, thn_ex, thn_no, to_ok, to_ex, to_no, fin_nx, fin_rt, optOut_s, optOut_n, optRs_s, optRs_n, asB_b, chB_b, eVar_eq, slotD_0, slotD_s, slotL_0, slotL_s, slotScr_0, slotScr_s, eC_eq, e2_eq, e1_eq, tb1_eq, tt1_eq, tNotD_eq, tAndD_eq, tOrD_eq, eNot_eq, eAnd_eq, eOr_eq, eIf_eq, eChain_eq, aNil_eq, aCons_eq, aOne_eq, eTup_eq, eLst_eq, mLst_eq, mD_eq, eFrz_eq, frzM_d, frzM_l, eB_eq, eListScr_eq, ixOf_i, eIxO_eq, pNo_eq, pSome_eq, oInt_i, eSlice_eq, eBO_eq, e2R_eq, ttO_eq, eTupO_eq, eListO_eq, eIsi_eq, eListRg_eq, mListRg_eq, eMt_eq, seqOne_l, seqOne_t, mList_eq, itSeq_eq, itB_eq, seqOf_l, seqOf_t, avNil_eq, avD_eq, avS_eq, avMs_nil, avMs_cons, avM_d, avM_sl, jsOf_nil, jsOf_d, jsOf_s, putBack_nil, putBack_d, putBack_s, toRs_rt, callM_eq, eCall_eq, sThen_eq, sE_eq, sNx_eq, sBk_eq, sCt_eq, sNo_eq, sRet_eq, sRetN_eq, sDrop_eq, sIf_eq, sSet_eq, sAsg_eq, sAug_eq, sSetItem_eq, asI_i, setIt_eq, sFor_eq, runDef_eq, start0_eq, outs_nil, outs_cons, rep_succ, mvM_l, mvM_d, alNil_eq, alD_eq, alL_eq, alMs_nil, alMs_cons, alM_d, alM_l, toSc_rt, eCallL_eq, bEnum_l, bEnum_t, eSM_eq, isSq_l, isSq_t, cntD_l, cntD_t, mVar_eq, mvF_l, mvF_d, eVarF_eq, dAdd_ii, dAddI_ii, dSub_ii, dMul_ii, dDiv_ii, dMod_ii, dLt_ii, dLe_ii, dGt_ii, dGe_ii, dNeg_i, dEq_ii, dNe_ii, dEq_bb, dNe_bb, dIs_none, dIsNot_none, isNon_none, isNon_b, isNon_i, isNon_s, isNon_l, isNon_t, tru_b, tru_i, tru_n, tru_l, tru_t, bLen_l, bLen_t, bAbs_i, bInt_i, bInt_b, bSum_l, bSum_t, bAll_l, bAny_l, bTup_l, bTup_t, bList_l, bList_t, bSorted_l, bSorted_t, bMax_ii, bMin_ii, bRange1_i, bZip_l, bZip_t, bZip3_t, dIx_l, dIx_t, dSlice_l, dSlice_t, isI_1, isI_2, isI_3, isI_4, isI_5, isI_6, isI_7, isI_8, isI_9, isI_10, isI_11, isI_12, isI_13, isI_14, isI_15, isI_16, isI_17, isI_18, isI_19, isI_20, isI_21, isI_22, isI_23, isI_24, isI_25, isI_26, scalar_1, scalar_2, scalar_3, scalar_4, chkS_i, chkS_b, gN_eq, gT_eq, gTL_eq, gsN_nil, gsC_cons, wipeE_nil, wipeE_cons, restE_nil, restE_cons, keepD_n, keepD_d, keepD_l, keepD_x, tYesD_eq, eComp_eq, mComp_eq, compR_ok, compGo_nil, forGo_nil, lp_nx, lp_ct, lp_bk, lp_rt, atI_2, atI_3, atI_4, atI_5, atI_6, atI_7, atI_zero, atI_one, dPow_10_18, beq_self_eq_true, List.map_cons, List.map_nil, List.length_cons, List.length_nil, List.cons_append, List.nil_append, List.set_cons_succ, List.set_cons_zero, List.getElem?_cons_succ, List.getElem?_cons_zero, Option.join_some, Option.map_some, Option.bind_some, List.tail_cons, List.head?_cons, if_true, if_false, Bool.false_eq_true, Bool.true_eq_false, and_true, true_and, List.nodup_cons, List.not_mem_nil, not_false_eq_true, List.nodup_nil, Bool.not_true, Bool.not_false, ite_true, ite_false, Nat.reduceAdd, Nat.reduceSub, Nat.zero_add, List.replicate_zero, List.append_nil, List.mem_cons, Nat.reduceEqDiff, or_false, or_self, reduceIte, decide_true, decide_false, Nat.reduceLeDiff, Nat.reduceLT, Nat.le_refl, List.length_map, bSum_t, is_allocation_e, j]
end DCom


namespace DCom
open PySem DL
/-! plain laws of transfers -/
theorem trf_self : ∀ a : List Int, trf a a = 0
  | [] => rfl
  | x :: xs => by rw [trf, trf_self xs]; simp
theorem trf_nonneg : ∀ a b : List Int, 0 ≤ trf a b
  | [], _ => by simp [trf]
  | _ :: _, [] => by simp [trf]
  | x :: xs, y :: ys => by
    have := trf_nonneg xs ys
    rw [trf]
    split <;> omega
theorem trf_diff : ∀ a b : List Int, a.length = b.length → trf a b - trf b a = a.sum - b.sum
  | [], [], _ => rfl
  | [], _ :: _, h => by simp at h
  | _ :: _, [], h => by simp at h
  | x :: xs, y :: ys, h => by
    have := trf_diff xs ys (by simpa using h)
    rw [trf, trf, List.sum_cons, List.sum_cons]
    split <;> split <;> omega
theorem trf_zero : ∀ a b : List Int, a.length = b.length → trf a b = 0 → trf b a = 0 → a = b
  | [], [], _, _, _ => rfl
  | [], _ :: _, h, _, _ => by simp at h
  | _ :: _, [], h, _, _ => by simp at h
  | x :: xs, y :: ys, h, h1, h2 => by
    have n1 := trf_nonneg xs ys
    have n2 := trf_nonneg ys xs
    rw [trf] at h1 h2
    have e : x = y ∧ trf xs ys = 0 ∧ trf ys xs = 0 := by
      split at h1 <;> split at h2 <;> (refine ⟨?_, ?_, ?_⟩ <;> omega)
    rw [e.1, trf_zero xs ys (by simpa using h) e.2.1 e.2.2]
theorem trf_tri : ∀ a b c : List Int, a.length = b.length → b.length = c.length → trf a c ≤ trf a b + trf b c
  | [], _, _, _, _ => by
    have := trf_nonneg [] ‹_›
    simp [trf]
    exact trf_nonneg _ _
  | _ :: _, [], _, h, _ => by simp at h
  | _ :: _, _ :: _, [], _, h => by simp at h
  | x :: xs, y :: ys, z :: zs, h, h' => by
    have := trf_tri xs ys zs (by simpa using h) (by simpa using h')
    rw [trf, trf, trf]
    split <;> split <;> split <;> omega
theorem transfer_e (a b : List Int) (ha : Good a) (hb : Good b) (hl : a.length = b.length) (hs : a.sum = b.sum) : f_transfer [.d (.tuple (a.map .int)), .d (.tuple (b.map .int))] = .rt (.d (.int (trf a b))) [none, none] := by
  simp only [f_transfer, b_transfer, Rs.bind_ok, Rs.bind_ex, Rs.bind_no, lift_some, lift_none, thn_nx, thn_rt, thn_bk, thn_ct, thn_ex, thn_no, to_ok, to_ex, to_no, fin_nx, fin_rt, optOut_s, optOut_n, optRs_s, optRs_n, asB_b, chB_b, eVar_eq, slotD_0, slotD_s, slotL_0, slotL_s, slotScr_0, slotScr_s, eC_eq, e2_eq, e1_eq, tb1_eq, tt1_eq, tNotD_eq, tAndD_eq, tOrD_eq, eNot_eq, eAnd_eq, eOr_eq, eIf_eq, eChain_eq, aNil_eq, aCons_eq, aOne_eq, eTup_eq, eLst_eq, mLst_eq, mD_eq, eFrz_eq, frzM_d, frzM_l, eB_eq, eListScr_eq, ixOf_i, eIxO_eq, pNo_eq, pSome_eq, oInt_i, eSlice_eq, eBO_eq, e2R_eq, ttO_eq, eTupO_eq, eListO_eq, eIsi_eq, eListRg_eq, mListRg_eq, eMt_eq, seqOne_l, seqOne_t, mList_eq, itSeq_eq, itB_eq, seqOf_l, seqOf_t, avNil_eq, avD_eq, avS_eq, avMs_nil, avMs_cons, avM_d, avM_sl, jsOf_nil, jsOf_d, jsOf_s, putBack_nil, putBack_d, putBack_s, toRs_rt, callM_eq, eCall_eq, sThen_eq, sE_eq, sNx_eq, sBk_eq, sCt_eq, sNo_eq, sRet_eq, sRetN_eq, sDrop_eq, sIf_eq, sSet_eq, sAsg_eq, sAug_eq, sSetItem_eq, asI_i, setIt_eq, sFor_eq, runDef_eq, start0_eq, outs_nil, outs_cons, rep_succ, mvM_l, mvM_d, alNil_eq, alD_eq, alL_eq, alMs_nil, alMs_cons, alM_d, alM_l, toSc_rt, eCallL_eq, bEnum_l, bEnum_t, eSM_eq, isSq_l, isSq_t, cntD_l, cntD_t, mVar_eq, mvF_l, mvF_d, eVarF_eq, dAdd_ii, dAddI_ii, dSub_ii, dMul_ii, dDiv_ii, dMod_ii, dLt_ii, dLe_ii, dGt_ii, dGe_ii, dNeg_i, dEq_ii, dNe_ii, dEq_bb, dNe_bb, dIs_none, dIsNot_none, isNon_none, isNon_b, isNon_i, isNon_s, isNon_l, isNon_t, tru_b, tru_i, tru_n, tru_l, tru_t, bLen_l, bLen_t, bAbs_i, bInt_i, bInt_b, bSum_l, bSum_t, bAll_l, bAny_l, bTup_l, bTup_t, bList_l, bList_t, bSorted_l, bSorted_t, bMax_ii, bMin_ii, bRange1_i, bZip_l, bZip_t, bZip3_t, dIx_l, dIx_t, dSlice_l, dSlice_t, isI_1, isI_2, isI_3, isI_4, isI_5, isI_6, isI_7, isI_8, isI_9, isI_10, isI_11, isI_12, isI_13, isI_14, isI_15, isI_16, isI_17, isI_18, isI_19, isI_20, isI_21, isI_22, isI_23, isI_24, isI_25, isI_26, scalar_1, scalar_2, scalar_3, scalar_4, chkS_i, chkS_b, gN_eq, gT_eq, gTL_eq, gsN_nil, gsC_cons, wipeE_nil, wipeE_cons, restE_nil, restE_cons, keepD_n, keepD_d, keepD_l, keepD_x, tYesD_eq, eComp_eq, mComp_eq, compR_ok, compGo_nil, forGo_nil, lp_nx, lp_ct, lp_bk, lp_rt, atI_2, atI_3, atI_4, atI_5, atI_6, atI_7, atI_zero, atI_one, dPow_10_18, beq_self_eq_true, List.map_cons, List.map_nil, List.length_cons, List.length_nil, List.cons_append, List.nil_append, List.set_cons_succ, List.set_cons_zero, List.getElem?_cons_succ, List.getElem?_cons_zero, Option.join_some, Option.map_some, Option.bind_some, List.tail_cons, List.head?_cons, if_true, if_false, Bool.false_eq_true, Bool.true_eq_false, and_true, true_and, List.nodup_cons, List.not_mem_nil, not_false_eq_true, List.nodup_nil, Bool.not_true, Bool.not_false, ite_true, ite_false, Nat.reduceAdd, Nat.reduceSub, Nat.zero_add, List.replicate_zero, List.append_nil, List.mem_cons, Nat.reduceEqDiff, or_false, or_self, reduceIte, decide_true, decide_false, Nat.reduceLeDiff, Nat.reduceLT, Nat.le_refl, check_allocation_e a _ ha, check_alike_e b a _ (fun i hi => (hb.2.2.1 i hi).1) hl.symm hs.symm, transfer_of_e]
/-! renaming -/
def ren (a od : List Int) : List Int := (List.range a.length).map fun i : Nat => a.getD (od.idxOf (i : Int)) 0
def IsO (od : List Int) (n : Nat) : Prop := od.length = n ∧ od.Perm ((List.range n).map fun i : Nat => (i : Int))
theorem IsO.mem {od : List Int} {n i : Nat} (h : IsO od n) (hi : i < n) : (i : Int) ∈ od := by
  rw [h.2.mem_iff]
  simp only [List.mem_map, List.mem_range]
  exact ⟨i, hi, rfl⟩
theorem IsO.idx {od : List Int} {n i : Nat} (h : IsO od n) (hi : i < n) : od.idxOf (i : Int) < n := by
  rw [← h.1]
  exact List.idxOf_lt_length_iff.2 (h.mem hi)
theorem IsO.bnd {od : List Int} {n : Nat} (h : IsO od n) (i : Int) (hi : i ∈ od) : 0 ≤ i ∧ i < n := by
  rw [h.2.mem_iff] at hi
  simp at hi
  obtain ⟨a, h1, rfl⟩ := hi
  omega
theorem IsO.nd {od : List Int} {n : Nat} (h : IsO od n) : od.Nodup := by
  rw [h.2.nodup_iff]
  refine List.Pairwise.map _ (fun a b h => ?_) List.nodup_range
  omega
theorem nd_get {l : List Int} (h : l.Nodup) {i j : Nat} (hi : i < l.length) (hj : j < l.length) (e : l[i] = l[j]) : i = j := by
  induction l generalizing i j with
  | nil => cases hi
  | cons x xs ih =>
    rw [List.nodup_cons] at h
    cases i with
    | zero =>
      cases j with
      | zero => rfl
      | succ j =>
        have e : x = xs[j]'(by simpa using hj) := by simpa using e
        refine absurd ?_ h.1
        rw [e]
        exact List.getElem_mem _
    | succ i =>
      cases j with
      | zero =>
        have e : xs[i]'(by simpa using hi) = x := by simpa using e
        refine absurd ?_ h.1
        rw [← e]
        exact List.getElem_mem _
      | succ j => rw [ih h.2 (by simpa using hi) (by simpa using hj) e]
theorem IsO.back {od : List Int} {n v : Nat} (h : IsO od n) (hv : v < n) : od.idxOf (od[v]'(by rw [h.1]; exact hv)) = v := by
  have hv' : v < od.length := by rw [h.1]; exact hv
  have hm : od[v] ∈ od := List.getElem_mem hv'
  have h1 := (idx_first hm).1
  have h2 : od.idxOf od[v] < od.length := List.idxOf_lt_length_iff.2 hm
  rw [List.getElem?_eq_getElem h2] at h1
  exact nd_get h.nd h2 hv' (Option.some.inj h1)
open Classical in
theorem renamed_e (a od : List Int) (ha : Good a) (ho : IsO od a.length) : f_renamed_shares [.d (.tuple (a.map .int)), .d (.tuple (od.map .int))] = .rt (.d (.tuple ((ren a od).map .int))) [none, none] := by
  have hl5 : a.length ≤ 5 := ha.2.1
  have hc := compGo_map (g := gN 2) (tt := tYesD) (te := e2 dIx (eVar 0) (eSM idxD (eVar 1) (aCons (eVar 2) (aNil)))) (vs := [2]) (emb := fun i : Nat => PyData.int i)
    (e := [some (.d (.tuple (a.map .int))), some (.d (.tuple (od.map .int))), none]) (fun i => true) (fun i : Nat => .int (a.getD (od.idxOf (i : Int)) 0)) (List.range a.length) [] (fun i hi => by
      rw [List.mem_range] at hi
      have hx := ho.idx hi
      have h1 : L2.atI (a.map PyData.int) ((od.idxOf (i : Int) : Nat) : Int) = some (.int (a.getD (od.idxOf (i : Int)) 0)) := by simp [atI_nat, hx]
      refine ⟨[some (.d (.tuple (a.map .int))), some (.d (.tuple (od.map .int))), some (.d (.int i))], ?_, rfl, fun _ => ?_, ?_⟩
      · simp only [Rs.bind_ok, Rs.bind_ex, Rs.bind_no, lift_some, lift_none, thn_nx, thn_rt, thn_bk, thn_ct, thn_ex, thn_no, to_ok, to_ex, to_no, fin_nx, fin_rt, optOut_s, optOut_n, optRs_s, optRs_n, asB_b, chB_b, eVar_eq, slotD_0, slotD_s, slotL_0, slotL_s, slotScr_0, slotScr_s, eC_eq, e2_eq, e1_eq, tb1_eq, tt1_eq, tNotD_eq, tAndD_eq, tOrD_eq, eNot_eq, eAnd_eq, eOr_eq, eIf_eq, eChain_eq, aNil_eq, aCons_eq, aOne_eq, eTup_eq, eLst_eq, mLst_eq, mD_eq, eFrz_eq, frzM_d, frzM_l, eB_eq, eListScr_eq, ixOf_i, eIxO_eq, pNo_eq, pSome_eq, oInt_i, eSlice_eq, eBO_eq, e2R_eq, ttO_eq, eTupO_eq, eListO_eq, eIsi_eq, eListRg_eq, mListRg_eq, eMt_eq, seqOne_l, seqOne_t, mList_eq, itSeq_eq, itB_eq, seqOf_l, seqOf_t, avNil_eq, avD_eq, avS_eq, avMs_nil, avMs_cons, avM_d, avM_sl, jsOf_nil, jsOf_d, jsOf_s, putBack_nil, putBack_d, putBack_s, toRs_rt, callM_eq, eCall_eq, sThen_eq, sE_eq, sNx_eq, sBk_eq, sCt_eq, sNo_eq, sRet_eq, sRetN_eq, sDrop_eq, sIf_eq, sSet_eq, sAsg_eq, sAug_eq, sSetItem_eq, asI_i, setIt_eq, sFor_eq, runDef_eq, start0_eq, outs_nil, outs_cons, rep_succ, mvM_l, mvM_d, alNil_eq, alD_eq, alL_eq, alMs_nil, alMs_cons, alM_d, alM_l, toSc_rt, eCallL_eq, bEnum_l, bEnum_t, eSM_eq, isSq_l, isSq_t, cntD_l, cntD_t, mVar_eq, mvF_l, mvF_d, eVarF_eq, dAdd_ii, dAddI_ii, dSub_ii, dMul_ii, dDiv_ii, dMod_ii, dLt_ii, dLe_ii, dGt_ii, dGe_ii, dNeg_i, dEq_ii, dNe_ii, dEq_bb, dNe_bb, dIs_none, dIsNot_none, isNon_none, isNon_b, isNon_i, isNon_s, isNon_l, isNon_t, tru_b, tru_i, tru_n, tru_l, tru_t, bLen_l, bLen_t, bAbs_i, bInt_i, bInt_b, bSum_l, bSum_t, bAll_l, bAny_l, bTup_l, bTup_t, bList_l, bList_t, bSorted_l, bSorted_t, bMax_ii, bMin_ii, bRange1_i, bZip_l, bZip_t, bZip3_t, dIx_l, dIx_t, dSlice_l, dSlice_t, isI_1, isI_2, isI_3, isI_4, isI_5, isI_6, isI_7, isI_8, isI_9, isI_10, isI_11, isI_12, isI_13, isI_14, isI_15, isI_16, isI_17, isI_18, isI_19, isI_20, isI_21, isI_22, isI_23, isI_24, isI_25, isI_26, scalar_1, scalar_2, scalar_3, scalar_4, chkS_i, chkS_b, gN_eq, gT_eq, gTL_eq, gsN_nil, gsC_cons, wipeE_nil, wipeE_cons, restE_nil, restE_cons, keepD_n, keepD_d, keepD_l, keepD_x, tYesD_eq, eComp_eq, mComp_eq, compR_ok, compGo_nil, forGo_nil, lp_nx, lp_ct, lp_bk, lp_rt, atI_2, atI_3, atI_4, atI_5, atI_6, atI_7, atI_zero, atI_one, dPow_10_18, beq_self_eq_true, List.map_cons, List.map_nil, List.length_cons, List.length_nil, List.cons_append, List.nil_append, List.set_cons_succ, List.set_cons_zero, List.getElem?_cons_succ, List.getElem?_cons_zero, Option.join_some, Option.map_some, Option.bind_some, List.tail_cons, List.head?_cons, if_true, if_false, Bool.false_eq_true, Bool.true_eq_false, and_true, true_and, List.nodup_cons, List.not_mem_nil, not_false_eq_true, List.nodup_nil, Bool.not_true, Bool.not_false, ite_true, ite_false, Nat.reduceAdd, Nat.reduceSub, Nat.zero_add, List.replicate_zero, List.append_nil, List.mem_cons, Nat.reduceEqDiff, or_false, or_self, reduceIte, decide_true, decide_false, Nat.reduceLeDiff, Nat.reduceLT, Nat.le_refl]
      · simp only [Rs.bind_ok, Rs.bind_ex, Rs.bind_no, lift_some, lift_none, thn_nx, thn_rt, thn_bk, thn_ct, thn_ex, thn_no, to_ok, to_ex, to_no, fin_nx, fin_rt, optOut_s, optOut_n, optRs_s, optRs_n, asB_b, chB_b, eVar_eq, slotD_0, slotD_s, slotL_0, slotL_s, slotScr_0, slotScr_s, eC_eq, e2_eq, e1_eq, tb1_eq, tt1_eq, tNotD_eq, tAndD_eq, tOrD_eq, eNot_eq, eAnd_eq, eOr_eq, eIf_eq, eChain_eq, aNil_eq, aCons_eq, aOne_eq, eTup_eq, eLst_eq, mLst_eq, mD_eq, eFrz_eq, frzM_d, frzM_l, eB_eq, eListScr_eq, ixOf_i, eIxO_eq, pNo_eq, pSome_eq, oInt_i, eSlice_eq, eBO_eq, e2R_eq, ttO_eq, eTupO_eq, eListO_eq, eIsi_eq, eListRg_eq, mListRg_eq, eMt_eq, seqOne_l, seqOne_t, mList_eq, itSeq_eq, itB_eq, seqOf_l, seqOf_t, avNil_eq, avD_eq, avS_eq, avMs_nil, avMs_cons, avM_d, avM_sl, jsOf_nil, jsOf_d, jsOf_s, putBack_nil, putBack_d, putBack_s, toRs_rt, callM_eq, eCall_eq, sThen_eq, sE_eq, sNx_eq, sBk_eq, sCt_eq, sNo_eq, sRet_eq, sRetN_eq, sDrop_eq, sIf_eq, sSet_eq, sAsg_eq, sAug_eq, sSetItem_eq, asI_i, setIt_eq, sFor_eq, runDef_eq, start0_eq, outs_nil, outs_cons, rep_succ, mvM_l, mvM_d, alNil_eq, alD_eq, alL_eq, alMs_nil, alMs_cons, alM_d, alM_l, toSc_rt, eCallL_eq, bEnum_l, bEnum_t, eSM_eq, isSq_l, isSq_t, cntD_l, cntD_t, mVar_eq, mvF_l, mvF_d, eVarF_eq, dAdd_ii, dAddI_ii, dSub_ii, dMul_ii, dDiv_ii, dMod_ii, dLt_ii, dLe_ii, dGt_ii, dGe_ii, dNeg_i, dEq_ii, dNe_ii, dEq_bb, dNe_bb, dIs_none, dIsNot_none, isNon_none, isNon_b, isNon_i, isNon_s, isNon_l, isNon_t, tru_b, tru_i, tru_n, tru_l, tru_t, bLen_l, bLen_t, bAbs_i, bInt_i, bInt_b, bSum_l, bSum_t, bAll_l, bAny_l, bTup_l, bTup_t, bList_l, bList_t, bSorted_l, bSorted_t, bMax_ii, bMin_ii, bRange1_i, bZip_l, bZip_t, bZip3_t, dIx_l, dIx_t, dSlice_l, dSlice_t, isI_1, isI_2, isI_3, isI_4, isI_5, isI_6, isI_7, isI_8, isI_9, isI_10, isI_11, isI_12, isI_13, isI_14, isI_15, isI_16, isI_17, isI_18, isI_19, isI_20, isI_21, isI_22, isI_23, isI_24, isI_25, isI_26, scalar_1, scalar_2, scalar_3, scalar_4, chkS_i, chkS_b, gN_eq, gT_eq, gTL_eq, gsN_nil, gsC_cons, wipeE_nil, wipeE_cons, restE_nil, restE_cons, keepD_n, keepD_d, keepD_l, keepD_x, tYesD_eq, eComp_eq, mComp_eq, compR_ok, compGo_nil, forGo_nil, lp_nx, lp_ct, lp_bk, lp_rt, atI_2, atI_3, atI_4, atI_5, atI_6, atI_7, atI_zero, atI_one, dPow_10_18, beq_self_eq_true, List.map_cons, List.map_nil, List.length_cons, List.length_nil, List.cons_append, List.nil_append, List.set_cons_succ, List.set_cons_zero, List.getElem?_cons_succ, List.getElem?_cons_zero, Option.join_some, Option.map_some, Option.bind_some, List.tail_cons, List.head?_cons, if_true, if_false, Bool.false_eq_true, Bool.true_eq_false, and_true, true_and, List.nodup_cons, List.not_mem_nil, not_false_eq_true, List.nodup_nil, Bool.not_true, Bool.not_false, ite_true, ite_false, Nat.reduceAdd, Nat.reduceSub, Nat.zero_add, List.replicate_zero, List.append_nil, List.mem_cons, Nat.reduceEqDiff, or_false, or_self, reduceIte, decide_true, decide_false, Nat.reduceLeDiff, Nat.reduceLT, Nat.le_refl, idxD_t od i (ho.mem hi), h1]
      · simp only [Rs.bind_ok, Rs.bind_ex, Rs.bind_no, lift_some, lift_none, thn_nx, thn_rt, thn_bk, thn_ct, thn_ex, thn_no, to_ok, to_ex, to_no, fin_nx, fin_rt, optOut_s, optOut_n, optRs_s, optRs_n, asB_b, chB_b, eVar_eq, slotD_0, slotD_s, slotL_0, slotL_s, slotScr_0, slotScr_s, eC_eq, e2_eq, e1_eq, tb1_eq, tt1_eq, tNotD_eq, tAndD_eq, tOrD_eq, eNot_eq, eAnd_eq, eOr_eq, eIf_eq, eChain_eq, aNil_eq, aCons_eq, aOne_eq, eTup_eq, eLst_eq, mLst_eq, mD_eq, eFrz_eq, frzM_d, frzM_l, eB_eq, eListScr_eq, ixOf_i, eIxO_eq, pNo_eq, pSome_eq, oInt_i, eSlice_eq, eBO_eq, e2R_eq, ttO_eq, eTupO_eq, eListO_eq, eIsi_eq, eListRg_eq, mListRg_eq, eMt_eq, seqOne_l, seqOne_t, mList_eq, itSeq_eq, itB_eq, seqOf_l, seqOf_t, avNil_eq, avD_eq, avS_eq, avMs_nil, avMs_cons, avM_d, avM_sl, jsOf_nil, jsOf_d, jsOf_s, putBack_nil, putBack_d, putBack_s, toRs_rt, callM_eq, eCall_eq, sThen_eq, sE_eq, sNx_eq, sBk_eq, sCt_eq, sNo_eq, sRet_eq, sRetN_eq, sDrop_eq, sIf_eq, sSet_eq, sAsg_eq, sAug_eq, sSetItem_eq, asI_i, setIt_eq, sFor_eq, runDef_eq, start0_eq, outs_nil, outs_cons, rep_succ, mvM_l, mvM_d, alNil_eq, alD_eq, alL_eq, alMs_nil, alMs_cons, alM_d, alM_l, toSc_rt, eCallL_eq, bEnum_l, bEnum_t, eSM_eq, isSq_l, isSq_t, cntD_l, cntD_t, mVar_eq, mvF_l, mvF_d, eVarF_eq, dAdd_ii, dAddI_ii, dSub_ii, dMul_ii, dDiv_ii, dMod_ii, dLt_ii, dLe_ii, dGt_ii, dGe_ii, dNeg_i, dEq_ii, dNe_ii, dEq_bb, dNe_bb, dIs_none, dIsNot_none, isNon_none, isNon_b, isNon_i, isNon_s, isNon_l, isNon_t, tru_b, tru_i, tru_n, tru_l, tru_t, bLen_l, bLen_t, bAbs_i, bInt_i, bInt_b, bSum_l, bSum_t, bAll_l, bAny_l, bTup_l, bTup_t, bList_l, bList_t, bSorted_l, bSorted_t, bMax_ii, bMin_ii, bRange1_i, bZip_l, bZip_t, bZip3_t, dIx_l, dIx_t, dSlice_l, dSlice_t, isI_1, isI_2, isI_3, isI_4, isI_5, isI_6, isI_7, isI_8, isI_9, isI_10, isI_11, isI_12, isI_13, isI_14, isI_15, isI_16, isI_17, isI_18, isI_19, isI_20, isI_21, isI_22, isI_23, isI_24, isI_25, isI_26, scalar_1, scalar_2, scalar_3, scalar_4, chkS_i, chkS_b, gN_eq, gT_eq, gTL_eq, gsN_nil, gsC_cons, wipeE_nil, wipeE_cons, restE_nil, restE_cons, keepD_n, keepD_d, keepD_l, keepD_x, tYesD_eq, eComp_eq, mComp_eq, compR_ok, compGo_nil, forGo_nil, lp_nx, lp_ct, lp_bk, lp_rt, atI_2, atI_3, atI_4, atI_5, atI_6, atI_7, atI_zero, atI_one, dPow_10_18, beq_self_eq_true, List.map_cons, List.map_nil, List.length_cons, List.length_nil, List.cons_append, List.nil_append, List.set_cons_succ, List.set_cons_zero, List.getElem?_cons_succ, List.getElem?_cons_zero, Option.join_some, Option.map_some, Option.bind_some, List.tail_cons, List.head?_cons, if_true, if_false, Bool.false_eq_true, Bool.true_eq_false, and_true, true_and, List.nodup_cons, List.not_mem_nil, not_false_eq_true, List.nodup_nil, Bool.not_true, Bool.not_false, ite_true, ite_false, Nat.reduceAdd, Nat.reduceSub, Nat.zero_add, List.replicate_zero, List.append_nil, List.mem_cons, Nat.reduceEqDiff, or_false, or_self, reduceIte, decide_true, decide_false, Nat.reduceLeDiff, Nat.reduceLT, Nat.le_refl])
  rw [← rangeD_eq, List.filter_eq_self.2 (by simp)] at hc
  have hr : (a.length : Int) ≤ 16777216 ∧ -(2 ^ 62) ≤ (a.length : Int) := by constructor <;> omega
  have hm : ((List.range a.length).map fun i : Nat => PyData.int (a.getD (od.idxOf (i : Int)) 0)) = (ren a od).map .int := by
    rw [ren, List.map_map]; rfl
  have j : decide (IsOrd (.tuple (od.map .int)) a.length) = true := decide_eq_true ⟨od, rfl, by rw [ho.1], by rw [ho.1]; exact ho.2⟩
  simp only [f_renamed_shares, b_renamed_shares, Rs.bind_ok, Rs.bind_ex, Rs.bind_no, lift_some, lift_none, thn_nx, thn_rt, thn_bk, thn_ct, thn_ex, thn_no, to_ok, to_ex, to_no, fin_nx, fin_rt, optOut_s, optOut_n, optRs_s, optRs_n, asB_b, chB_b, eVar_eq, slotD_0, slotD_s, slotL_0, slotL_s, slotScr_0, slotScr_s, eC_eq, e2_eq, e1_eq, tb1_eq, tt1_eq, tNotD_eq, tAndD_eq, tOrD_eq, eNot_eq, eAnd_eq, eOr_eq, eIf_eq, eChain_eq, aNil_eq, aCons_eq, aOne_eq, eTup_eq, eLst_eq, mLst_eq, mD_eq, eFrz_eq, frzM_d, frzM_l, eB_eq, eListScr_eq, ixOf_i, eIxO_eq, pNo_eq, pSome_eq, oInt_i, eSlice_eq, eBO_eq, e2R_eq, ttO_eq, eTupO_eq, eListO_eq, eIsi_eq, eListRg_eq, mListRg_eq, eMt_eq, seqOne_l, seqOne_t, mList_eq, itSeq_eq, itB_eq, seqOf_l, seqOf_t, avNil_eq, avD_eq, avS_eq, avMs_nil, avMs_cons, avM_d, avM_sl, jsOf_nil, jsOf_d, jsOf_s, putBack_nil, putBack_d, putBack_s, toRs_rt, callM_eq, eCall_eq, sThen_eq, sE_eq, sNx_eq, sBk_eq, sCt_eq, sNo_eq, sRet_eq, sRetN_eq, sDrop_eq, sIf_eq, sSet_eq, sAsg_eq, sAug_eq, sSetItem_eq, asI_i, setIt_eq, sFor_eq, runDef_eq, start0_eq, outs_nil, outs_cons, rep_succ, mvM_l, mvM_d, alNil_eq, alD_eq, alL_eq, alMs_nil, alMs_cons, alM_d, alM_l, toSc_rt, eCallL_eq, bEnum_l, bEnum_t, eSM_eq, isSq_l, isSq_t, cntD_l, cntD_t, mVar_eq, mvF_l, mvF_d, eVarF_eq, dAdd_ii, dAddI_ii, dSub_ii, dMul_ii, dDiv_ii, dMod_ii, dLt_ii, dLe_ii, dGt_ii, dGe_ii, dNeg_i, dEq_ii, dNe_ii, dEq_bb, dNe_bb, dIs_none, dIsNot_none, isNon_none, isNon_b, isNon_i, isNon_s, isNon_l, isNon_t, tru_b, tru_i, tru_n, tru_l, tru_t, bLen_l, bLen_t, bAbs_i, bInt_i, bInt_b, bSum_l, bSum_t, bAll_l, bAny_l, bTup_l, bTup_t, bList_l, bList_t, bSorted_l, bSorted_t, bMax_ii, bMin_ii, bRange1_i, bZip_l, bZip_t, bZip3_t, dIx_l, dIx_t, dSlice_l, dSlice_t, isI_1, isI_2, isI_3, isI_4, isI_5, isI_6, isI_7, isI_8, isI_9, isI_10, isI_11, isI_12, isI_13, isI_14, isI_15, isI_16, isI_17, isI_18, isI_19, isI_20, isI_21, isI_22, isI_23, isI_24, isI_25, isI_26, scalar_1, scalar_2, scalar_3, scalar_4, chkS_i, chkS_b, gN_eq, gT_eq, gTL_eq, gsN_nil, gsC_cons, wipeE_nil, wipeE_cons, restE_nil, restE_cons, keepD_n, keepD_d, keepD_l, keepD_x, tYesD_eq, eComp_eq, mComp_eq, compR_ok, compGo_nil, forGo_nil, lp_nx, lp_ct, lp_bk, lp_rt, atI_2, atI_3, atI_4, atI_5, atI_6, atI_7, atI_zero, atI_one, dPow_10_18, beq_self_eq_true, List.map_cons, List.map_nil, List.length_cons, List.length_nil, List.cons_append, List.nil_append, List.set_cons_succ, List.set_cons_zero, List.getElem?_cons_succ, List.getElem?_cons_zero, Option.join_some, Option.map_some, Option.bind_some, List.tail_cons, List.head?_cons, if_true, if_false, Bool.false_eq_true, Bool.true_eq_false, and_true, true_and, List.nodup_cons, List.not_mem_nil, not_false_eq_true, List.nodup_nil, Bool.not_true, Bool.not_false, ite_true, ite_false, Nat.reduceAdd, Nat.reduceSub, Nat.zero_add, List.replicate_zero, List.append_nil, List.mem_cons, Nat.reduceEqDiff, or_false, or_self, reduceIte, decide_true, decide_false, Nat.reduceLeDiff, Nat.reduceLT, Nat.le_refl, check_allocation_e a _ ha, List.length_map, is_order_e _ (a.length : Int) (by omega) (by omega), j, hr, Int.toNat_natCast, hc, hm]
theorem ren_len (a od : List Int) : (ren a od).length = a.length := by simp [ren]
theorem ren_get (a od : List Int) (ho : IsO od a.length) (v : Nat) (hv : v < a.length) : (ren a od)[(od[v]'(by rw [ho.1]; exact hv)).toNat]? = some (a.getD v 0) := by
  have hv' : v < od.length := by rw [ho.1]; exact hv
  have hb := ho.bnd od[v] (List.getElem_mem hv')
  have hlt : od[v].toNat < a.length := by omega
  have e : ((od[v].toNat : Nat) : Int) = od[v] := Int.toNat_of_nonneg hb.1
  simp [ren, hlt, e, ho.back hv]
theorem perm_sum {l l' : List Int} (h : l.Perm l') : l.sum = l'.sum := by
  induction h with
  | nil => rfl
  | cons x _ ih => simp [ih]
  | swap x y l => simp; omega
  | trans _ _ h1 h2 => rw [h1, h2]
theorem ren_sum (a od : List Int) (ho : IsO od a.length) (f : Nat → Int) : ((List.range a.length).map fun i : Nat => f (od.idxOf (i : Int))).sum = ((List.range a.length).map f).sum := by
  have h1 : ((List.range a.length).map fun i : Nat => f (od.idxOf (i : Int))) = ((List.range a.length).map fun i : Nat => (i : Int)).map fun k => f (od.idxOf k) := by rw [List.map_map]; rfl
  have h2 : (od.map fun k => f (od.idxOf k)) = (List.range a.length).map f := by
    refine List.ext_getElem (by simp [ho.1]) fun v h3 h4 => ?_
    have hv : v < a.length := by simpa using h4
    simp [ho.back hv]
  rw [h1, ← perm_sum (ho.2.map fun k => f (od.idxOf k)), h2]
theorem trf_range : ∀ (a b : List Int), a.length = b.length → trf a b = ((List.range a.length).map fun i => if a.getD i 0 - b.getD i 0 > 0 then a.getD i 0 - b.getD i 0 else 0).sum
  | [], [], _ => rfl
  | [], _ :: _, h => by simp at h
  | _ :: _, [], h => by simp at h
  | x :: xs, y :: ys, h => by
    have ih := trf_range xs ys (by simpa using h)
    rw [trf, ih, List.length_cons, List.range_succ_eq_map, List.map_cons, List.sum_cons, List.map_map]
    rfl
theorem ren_trf (a b od : List Int) (hl : a.length = b.length) (ho : IsO od a.length) : trf (ren a od) (ren b od) = trf a b := by
  rw [trf_range _ _ (by rw [ren_len, ren_len, hl]), trf_range a b hl, ren_len]
  rw [← ren_sum a od ho fun i => if a.getD i 0 - b.getD i 0 > 0 then a.getD i 0 - b.getD i 0 else 0]
  refine congrArg _ (List.map_congr_left fun i hi => ?_)
  rw [List.mem_range] at hi
  have hi' : i < b.length := by omega
  simp [ren, hi, hi']
theorem ren_good (a od : List Int) (ha : Good a) (ho : IsO od a.length) : Good (ren a od) ∧ (ren a od).sum = a.sum := by
  have e : (ren a od).sum = a.sum := by
    rw [ren, ren_sum a od ho fun i => a.getD i 0]
    congr 1
    refine List.ext_getElem (by simp) fun v h3 h4 => ?_
    simp [h4]
  refine ⟨⟨by rw [ren_len]; exact ha.1, by rw [ren_len]; exact ha.2.1, fun i hi => ?_, by rw [e]; exact ha.2.2.2⟩, e⟩
  rw [ren, List.mem_map] at hi
  obtain ⟨k, hk, rfl⟩ := hi
  rw [List.mem_range] at hk
  have hx := ho.idx hk
  have : a.getD (od.idxOf (k : Int)) 0 = a[od.idxOf (k : Int)] := by simp [hx]
  rw [this]
  exact ha.2.2.1 _ (List.getElem_mem hx)
theorem le_sum : ∀ (al : List Int), (∀ i ∈ al, 0 ≤ i) → (∀ i ∈ al, i ≤ al.sum) ∧ 0 ≤ al.sum
  | [], _ => ⟨fun _ h => (by cases h), by simp⟩
  | x :: xs, h => by
    have h0 := h x List.mem_cons_self
    obtain ⟨h1, h2⟩ := le_sum xs fun i hi => h i (List.mem_cons_of_mem _ hi)
    refine ⟨fun i hi => ?_, by simp; omega⟩
    rw [List.sum_cons]
    rcases List.mem_cons.1 hi with e | e
    · omega
    · have := h1 i e
      omega
theorem good_of {al : List Int} {v n : Int} (h1 : (al.length : Int) = v) (h2 : ∀ i ∈ al, 0 ≤ i) (h3 : al.sum = n) (hv : 1 ≤ v) (hv5 : v ≤ 5) (hn : n ≤ 20) : Good al := by
  refine ⟨by omega, by omega, fun i hi => ⟨h2 i hi, ?_⟩, by omega⟩
  have := (le_sum al h2).1 i hi
  omega
theorem rep2 (x : PyData) : dMul (.list [x]) (.int 2) = some (.list [x, x]) := by
  simp [dMul, List.replicate]
end DCom


namespace DCom
open PySem DL
/-! what the defs about assignments answer -/
/-- an assignment to fewer than v variants -/
def AsgN (ns : List Int) (v : Int) : Prop := ns.length ≤ 20 ∧ ∀ i ∈ ns, 0 ≤ i ∧ i < v
open Classical in
theorem check_assignment_e (ns : List Int) (v : Int) (nm : PyData) (h : AsgN ns v) : f_check_assignment [.d (.tuple (ns.map .int)), .d (.int v), .d nm] = .rt (.d .none) [none, none, none] := by
  have j : decide (IsAsg (.tuple (ns.map .int)) v ns.length) = true := decide_eq_true ⟨ns, rfl, rfl, h.2⟩
  have l : decide ((20 : Int) < ns.length) = false := by have := h.1; simp; omega
  simp only [f_check_assignment, b_check_assignment, Rs.bind_ok, Rs.bind_ex, Rs.bind_no, lift_some, lift_none, thn_nx, thn_rt, thn_bk, thn_ct, thn_ex, thn_no, to_ok, to_ex, to_no, fin_nx, fin_rt, optOut_s, optOut_n, optRs_s, optRs_n, asB_b, chB_b, eVar_eq, slotD_0, slotD_s, slotL_0, slotL_s, slotScr_0, slotScr_s, eC_eq, e2_eq, e1_eq, tb1_eq, tt1_eq, tNotD_eq, tAndD_eq, tOrD_eq, eNot_eq, eAnd_eq, eOr_eq, eIf_eq, eChain_eq, aNil_eq, aCons_eq, aOne_eq, eTup_eq, eLst_eq, mLst_eq, mD_eq, eFrz_eq, frzM_d, frzM_l, eB_eq, eListScr_eq, ixOf_i, eIxO_eq, pNo_eq, pSome_eq, oInt_i, eSlice_eq, eBO_eq, e2R_eq, ttO_eq, eTupO_eq, eListO_eq, eIsi_eq, eListRg_eq, mListRg_eq, eMt_eq, seqOne_l, seqOne_t, mList_eq, itSeq_eq, itB_eq, seqOf_l, seqOf_t, avNil_eq, avD_eq, avS_eq, avMs_nil, avMs_cons, avM_d, avM_sl, jsOf_nil, jsOf_d, jsOf_s, putBack_nil, putBack_d, putBack_s, toRs_rt, callM_eq, eCall_eq, sThen_eq, sE_eq, sNx_eq, sBk_eq, sCt_eq, sNo_eq, sRet_eq, sRetN_eq, sDrop_eq, sIf_eq, sSet_eq, sAsg_eq, sAug_eq, sSetItem_eq, asI_i, setIt_eq, sFor_eq, runDef_eq, start0_eq, outs_nil, outs_cons, rep_succ, mvM_l, mvM_d, alNil_eq, alD_eq, alL_eq, alMs_nil, alMs_cons, alM_d, alM_l, toSc_rt, eCallL_eq, bEnum_l, bEnum_t, eSM_eq, isSq_l, isSq_t, cntD_l, cntD_t, mVar_eq, mvF_l, mvF_d, eVarF_eq, dAdd_ii, dAddI_ii, dSub_ii, dMul_ii, dDiv_ii, dMod_ii, dLt_ii, dLe_ii, dGt_ii, dGe_ii, dNeg_i, dEq_ii, dNe_ii, dEq_bb, dNe_bb, dIs_none, dIsNot_none, isNon_none, isNon_b, isNon_i, isNon_s, isNon_l, isNon_t, tru_b, tru_i, tru_n, tru_l, tru_t, bLen_l, bLen_t, bAbs_i, bInt_i, bInt_b, bSum_l, bSum_t, bAll_l, bAny_l, bTup_l, bTup_t, bList_l, bList_t, bSorted_l, bSorted_t, bMax_ii, bMin_ii, bRange1_i, bZip_l, bZip_t, bZip3_t, dIx_l, dIx_t, dSlice_l, dSlice_t, isI_1, isI_2, isI_3, isI_4, isI_5, isI_6, isI_7, isI_8, isI_9, isI_10, isI_11, isI_12, isI_13, isI_14, isI_15, isI_16, isI_17, isI_18, isI_19, isI_20, isI_21, isI_22, isI_23, isI_24, isI_25, isI_26, scalar_1, scalar_2, scalar_3, scalar_4, chkS_i, chkS_b, gN_eq, gT_eq, gTL_eq, gsN_nil, gsC_cons, wipeE_nil, wipeE_cons, restE_nil, restE_cons, keepD_n, keepD_d, keepD_l, keepD_x, tYesD_eq, eComp_eq, mComp_eq, compR_ok, compGo_nil, forGo_nil, lp_nx, lp_ct, lp_bk, lp_rt, atI_2, atI_3, atI_4, atI_5, atI_6, atI_7, atI_zero, atI_one, dPow_10_18, beq_self_eq_true, List.map_cons, List.map_nil, List.length_cons, List.length_nil, List.cons_append, List.nil_append, List.set_cons_succ, List.set_cons_zero, List.getElem?_cons_succ, List.getElem?_cons_zero, Option.join_some, Option.map_some, Option.bind_some, List.tail_cons, List.head?_cons, if_true, if_false, Bool.false_eq_true, Bool.true_eq_false, and_true, true_and, List.nodup_cons, List.not_mem_nil, not_false_eq_true, List.nodup_nil, Bool.not_true, Bool.not_false, ite_true, ite_false, Nat.reduceAdd, Nat.reduceSub, Nat.zero_add, List.replicate_zero, List.append_nil, List.mem_cons, Nat.reduceEqDiff, or_false, or_self, reduceIte, decide_true, decide_false, Nat.reduceLeDiff, Nat.reduceLT, Nat.le_refl, List.length_map, l, is_assignment_e, j]
open Classical in
theorem check_variants_e (ns : List Int) (v : Int) (h : AsgN ns v) (h1 : 1 ≤ v) (h5 : v ≤ 5) : f_check_variants [.d (.int v), .d (.list [.tuple (ns.map .int)])] = .rt (.d .none) [none, none] := by
  have j : decide (IsAsg (.tuple (ns.map .int)) v ns.length) = true := decide_eq_true ⟨ns, rfl, rfl, h.2⟩
  have a := bAll_l [true]
  simp only [List.map_cons, List.map_nil, List.all_cons, List.all_nil, id, Bool.and_true] at a
  have b : btw 1 5 (.int v) = true := by simp [btw]; omega
  simp only [f_check_variants, b_check_variants, Rs.bind_ok, Rs.bind_ex, Rs.bind_no, lift_some, lift_none, thn_nx, thn_rt, thn_bk, thn_ct, thn_ex, thn_no, to_ok, to_ex, to_no, fin_nx, fin_rt, optOut_s, optOut_n, optRs_s, optRs_n, asB_b, chB_b, eVar_eq, slotD_0, slotD_s, slotL_0, slotL_s, slotScr_0, slotScr_s, eC_eq, e2_eq, e1_eq, tb1_eq, tt1_eq, tNotD_eq, tAndD_eq, tOrD_eq, eNot_eq, eAnd_eq, eOr_eq, eIf_eq, eChain_eq, aNil_eq, aCons_eq, aOne_eq, eTup_eq, eLst_eq, mLst_eq, mD_eq, eFrz_eq, frzM_d, frzM_l, eB_eq, eListScr_eq, ixOf_i, eIxO_eq, pNo_eq, pSome_eq, oInt_i, eSlice_eq, eBO_eq, e2R_eq, ttO_eq, eTupO_eq, eListO_eq, eIsi_eq, eListRg_eq, mListRg_eq, eMt_eq, seqOne_l, seqOne_t, mList_eq, itSeq_eq, itB_eq, seqOf_l, seqOf_t, avNil_eq, avD_eq, avS_eq, avMs_nil, avMs_cons, avM_d, avM_sl, jsOf_nil, jsOf_d, jsOf_s, putBack_nil, putBack_d, putBack_s, toRs_rt, callM_eq, eCall_eq, sThen_eq, sE_eq, sNx_eq, sBk_eq, sCt_eq, sNo_eq, sRet_eq, sRetN_eq, sDrop_eq, sIf_eq, sSet_eq, sAsg_eq, sAug_eq, sSetItem_eq, asI_i, setIt_eq, sFor_eq, runDef_eq, start0_eq, outs_nil, outs_cons, rep_succ, mvM_l, mvM_d, alNil_eq, alD_eq, alL_eq, alMs_nil, alMs_cons, alM_d, alM_l, toSc_rt, eCallL_eq, bEnum_l, bEnum_t, eSM_eq, isSq_l, isSq_t, cntD_l, cntD_t, mVar_eq, mvF_l, mvF_d, eVarF_eq, dAdd_ii, dAddI_ii, dSub_ii, dMul_ii, dDiv_ii, dMod_ii, dLt_ii, dLe_ii, dGt_ii, dGe_ii, dNeg_i, dEq_ii, dNe_ii, dEq_bb, dNe_bb, dIs_none, dIsNot_none, isNon_none, isNon_b, isNon_i, isNon_s, isNon_l, isNon_t, tru_b, tru_i, tru_n, tru_l, tru_t, bLen_l, bLen_t, bAbs_i, bInt_i, bInt_b, bSum_l, bSum_t, bAll_l, bAny_l, bTup_l, bTup_t, bList_l, bList_t, bSorted_l, bSorted_t, bMax_ii, bMin_ii, bRange1_i, bZip_l, bZip_t, bZip3_t, dIx_l, dIx_t, dSlice_l, dSlice_t, isI_1, isI_2, isI_3, isI_4, isI_5, isI_6, isI_7, isI_8, isI_9, isI_10, isI_11, isI_12, isI_13, isI_14, isI_15, isI_16, isI_17, isI_18, isI_19, isI_20, isI_21, isI_22, isI_23, isI_24, isI_25, isI_26, scalar_1, scalar_2, scalar_3, scalar_4, chkS_i, chkS_b, gN_eq, gT_eq, gTL_eq, gsN_nil, gsC_cons, wipeE_nil, wipeE_cons, restE_nil, restE_cons, keepD_n, keepD_d, keepD_l, keepD_x, tYesD_eq, eComp_eq, mComp_eq, compR_ok, compGo_nil, forGo_nil, lp_nx, lp_ct, lp_bk, lp_rt, atI_2, atI_3, atI_4, atI_5, atI_6, atI_7, atI_zero, atI_one, dPow_10_18, beq_self_eq_true, List.map_cons, List.map_nil, List.length_cons, List.length_nil, List.cons_append, List.nil_append, List.set_cons_succ, List.set_cons_zero, List.getElem?_cons_succ, List.getElem?_cons_zero, Option.join_some, Option.map_some, Option.bind_some, List.tail_cons, List.head?_cons, if_true, if_false, Bool.false_eq_true, Bool.true_eq_false, and_true, true_and, List.nodup_cons, List.not_mem_nil, not_false_eq_true, List.nodup_nil, Bool.not_true, Bool.not_false, ite_true, ite_false, Nat.reduceAdd, Nat.reduceSub, Nat.zero_add, List.replicate_zero, List.append_nil, List.mem_cons, Nat.reduceEqDiff, or_false, or_self, reduceIte, decide_true, decide_false, Nat.reduceLeDiff, Nat.reduceLT, Nat.le_refl, is_between_e, b, compGo_cons, List.length_map, is_assignment_e, j, a]
open Classical in
theorem check_two_e (ns ms : List Int) (h : AsgN ns 5) (h' : AsgN ms 5) (hl : ms.length = ns.length) : f_check_two [.d (.tuple (ns.map .int)), .d (.tuple (ms.map .int))] = .rt (.d .none) [none, none] := by
  have j : decide (IsAsg (.tuple (ms.map .int)) 5 ns.length) = true := decide_eq_true ⟨ms, rfl, by rw [hl], h'.2⟩
  simp only [f_check_two, b_check_two, Rs.bind_ok, Rs.bind_ex, Rs.bind_no, lift_some, lift_none, thn_nx, thn_rt, thn_bk, thn_ct, thn_ex, thn_no, to_ok, to_ex, to_no, fin_nx, fin_rt, optOut_s, optOut_n, optRs_s, optRs_n, asB_b, chB_b, eVar_eq, slotD_0, slotD_s, slotL_0, slotL_s, slotScr_0, slotScr_s, eC_eq, e2_eq, e1_eq, tb1_eq, tt1_eq, tNotD_eq, tAndD_eq, tOrD_eq, eNot_eq, eAnd_eq, eOr_eq, eIf_eq, eChain_eq, aNil_eq, aCons_eq, aOne_eq, eTup_eq, eLst_eq, mLst_eq, mD_eq, eFrz_eq, frzM_d, frzM_l, eB_eq, eListScr_eq, ixOf_i, eIxO_eq, pNo_eq, pSome_eq, oInt_i, eSlice_eq, eBO_eq, e2R_eq, ttO_eq, eTupO_eq, eListO_eq, eIsi_eq, eListRg_eq, mListRg_eq, eMt_eq, seqOne_l, seqOne_t, mList_eq, itSeq_eq, itB_eq, seqOf_l, seqOf_t, avNil_eq, avD_eq, avS_eq, avMs_nil, avMs_cons, avM_d, avM_sl, jsOf_nil, jsOf_d, jsOf_s, putBack_nil, putBack_d, putBack_s, toRs_rt, callM_eq, eCall_eq, sThen_eq, sE_eq, sNx_eq, sBk_eq, sCt_eq, sNo_eq, sRet_eq, sRetN_eq, sDrop_eq, sIf_eq, sSet_eq, sAsg_eq, sAug_eq, sSetItem_eq, asI_i, setIt_eq, sFor_eq, runDef_eq, start0_eq, outs_nil, outs_cons, rep_succ, mvM_l, mvM_d, alNil_eq, alD_eq, alL_eq, alMs_nil, alMs_cons, alM_d, alM_l, toSc_rt, eCallL_eq, bEnum_l, bEnum_t, eSM_eq, isSq_l, isSq_t, cntD_l, cntD_t, mVar_eq, mvF_l, mvF_d, eVarF_eq, dAdd_ii, dAddI_ii, dSub_ii, dMul_ii, dDiv_ii, dMod_ii, dLt_ii, dLe_ii, dGt_ii, dGe_ii, dNeg_i, dEq_ii, dNe_ii, dEq_bb, dNe_bb, dIs_none, dIsNot_none, isNon_none, isNon_b, isNon_i, isNon_s, isNon_l, isNon_t, tru_b, tru_i, tru_n, tru_l, tru_t, bLen_l, bLen_t, bAbs_i, bInt_i, bInt_b, bSum_l, bSum_t, bAll_l, bAny_l, bTup_l, bTup_t, bList_l, bList_t, bSorted_l, bSorted_t, bMax_ii, bMin_ii, bRange1_i, bZip_l, bZip_t, bZip3_t, dIx_l, dIx_t, dSlice_l, dSlice_t, isI_1, isI_2, isI_3, isI_4, isI_5, isI_6, isI_7, isI_8, isI_9, isI_10, isI_11, isI_12, isI_13, isI_14, isI_15, isI_16, isI_17, isI_18, isI_19, isI_20, isI_21, isI_22, isI_23, isI_24, isI_25, isI_26, scalar_1, scalar_2, scalar_3, scalar_4, chkS_i, chkS_b, gN_eq, gT_eq, gTL_eq, gsN_nil, gsC_cons, wipeE_nil, wipeE_cons, restE_nil, restE_cons, keepD_n, keepD_d, keepD_l, keepD_x, tYesD_eq, eComp_eq, mComp_eq, compR_ok, compGo_nil, forGo_nil, lp_nx, lp_ct, lp_bk, lp_rt, atI_2, atI_3, atI_4, atI_5, atI_6, atI_7, atI_zero, atI_one, dPow_10_18, beq_self_eq_true, List.map_cons, List.map_nil, List.length_cons, List.length_nil, List.cons_append, List.nil_append, List.set_cons_succ, List.set_cons_zero, List.getElem?_cons_succ, List.getElem?_cons_zero, Option.join_some, Option.map_some, Option.bind_some, List.tail_cons, List.head?_cons, if_true, if_false, Bool.false_eq_true, Bool.true_eq_false, and_true, true_and, List.nodup_cons, List.not_mem_nil, not_false_eq_true, List.nodup_nil, Bool.not_true, Bool.not_false, ite_true, ite_false, Nat.reduceAdd, Nat.reduceSub, Nat.zero_add, List.replicate_zero, List.append_nil, List.mem_cons, Nat.reduceEqDiff, or_false, or_self, reduceIte, decide_true, decide_false, Nat.reduceLeDiff, Nat.reduceLT, Nat.le_refl, check_assignment_e ns 5 _ h, List.length_map, is_assignment_e, j]
def cnt (ns : List Int) (k : Nat) : List Int := (List.range k).map fun i : Nat => ((ns.count (i : Int) : Nat) : Int)
theorem counts_of_e (ns : List Int) (v : Int) (h0 : 0 ≤ v) (h5 : v ≤ 1000) : f_counts_of [.d (.tuple (ns.map .int)), .d (.int v)] = .rt (.d (.tuple ((cnt ns v.toNat).map .int))) [none, none] := by
  have hc := compGo_map (g := gN 2) (tt := tYesD) (te := eSM cntD (eVar 0) (aCons (eVar 2) (aNil))) (vs := [2]) (emb := fun i : Nat => PyData.int i)
    (e := [some (.d (.tuple (ns.map .int))), some (.d (.int v)), none]) (fun i => true) (fun i : Nat => .int (ns.count (i : Int) : Nat)) (List.range v.toNat) [] (fun i hi => by
      refine ⟨[some (.d (.tuple (ns.map .int))), some (.d (.int v)), some (.d (.int i))], ?_, rfl, fun _ => ?_, ?_⟩
      · simp only [Rs.bind_ok, Rs.bind_ex, Rs.bind_no, lift_some, lift_none, thn_nx, thn_rt, thn_bk, thn_ct, thn_ex, thn_no, to_ok, to_ex, to_no, fin_nx, fin_rt, optOut_s, optOut_n, optRs_s, optRs_n, asB_b, chB_b, eVar_eq, slotD_0, slotD_s, slotL_0, slotL_s, slotScr_0, slotScr_s, eC_eq, e2_eq, e1_eq, tb1_eq, tt1_eq, tNotD_eq, tAndD_eq, tOrD_eq, eNot_eq, eAnd_eq, eOr_eq, eIf_eq, eChain_eq, aNil_eq, aCons_eq, aOne_eq, eTup_eq, eLst_eq, mLst_eq, mD_eq, eFrz_eq, frzM_d, frzM_l, eB_eq, eListScr_eq, ixOf_i, eIxO_eq, pNo_eq, pSome_eq, oInt_i, eSlice_eq, eBO_eq, e2R_eq, ttO_eq, eTupO_eq, eListO_eq, eIsi_eq, eListRg_eq, mListRg_eq, eMt_eq, seqOne_l, seqOne_t, mList_eq, itSeq_eq, itB_eq, seqOf_l, seqOf_t, avNil_eq, avD_eq, avS_eq, avMs_nil, avMs_cons, avM_d, avM_sl, jsOf_nil, jsOf_d, jsOf_s, putBack_nil, putBack_d, putBack_s, toRs_rt, callM_eq, eCall_eq, sThen_eq, sE_eq, sNx_eq, sBk_eq, sCt_eq, sNo_eq, sRet_eq, sRetN_eq, sDrop_eq, sIf_eq, sSet_eq, sAsg_eq, sAug_eq, sSetItem_eq, asI_i, setIt_eq, sFor_eq, runDef_eq, start0_eq, outs_nil, outs_cons, rep_succ, mvM_l, mvM_d, alNil_eq, alD_eq, alL_eq, alMs_nil, alMs_cons, alM_d, alM_l, toSc_rt, eCallL_eq, bEnum_l, bEnum_t, eSM_eq, isSq_l, isSq_t, cntD_l, cntD_t, mVar_eq, mvF_l, mvF_d, eVarF_eq, dAdd_ii, dAddI_ii, dSub_ii, dMul_ii, dDiv_ii, dMod_ii, dLt_ii, dLe_ii, dGt_ii, dGe_ii, dNeg_i, dEq_ii, dNe_ii, dEq_bb, dNe_bb, dIs_none, dIsNot_none, isNon_none, isNon_b, isNon_i, isNon_s, isNon_l, isNon_t, tru_b, tru_i, tru_n, tru_l, tru_t, bLen_l, bLen_t, bAbs_i, bInt_i, bInt_b, bSum_l, bSum_t, bAll_l, bAny_l, bTup_l, bTup_t, bList_l, bList_t, bSorted_l, bSorted_t, bMax_ii, bMin_ii, bRange1_i, bZip_l, bZip_t, bZip3_t, dIx_l, dIx_t, dSlice_l, dSlice_t, isI_1, isI_2, isI_3, isI_4, isI_5, isI_6, isI_7, isI_8, isI_9, isI_10, isI_11, isI_12, isI_13, isI_14, isI_15, isI_16, isI_17, isI_18, isI_19, isI_20, isI_21, isI_22, isI_23, isI_24, isI_25, isI_26, scalar_1, scalar_2, scalar_3, scalar_4, chkS_i, chkS_b, gN_eq, gT_eq, gTL_eq, gsN_nil, gsC_cons, wipeE_nil, wipeE_cons, restE_nil, restE_cons, keepD_n, keepD_d, keepD_l, keepD_x, tYesD_eq, eComp_eq, mComp_eq, compR_ok, compGo_nil, forGo_nil, lp_nx, lp_ct, lp_bk, lp_rt, atI_2, atI_3, atI_4, atI_5, atI_6, atI_7, atI_zero, atI_one, dPow_10_18, beq_self_eq_true, List.map_cons, List.map_nil, List.length_cons, List.length_nil, List.cons_append, List.nil_append, List.set_cons_succ, List.set_cons_zero, List.getElem?_cons_succ, List.getElem?_cons_zero, Option.join_some, Option.map_some, Option.bind_some, List.tail_cons, List.head?_cons, if_true, if_false, Bool.false_eq_true, Bool.true_eq_false, and_true, true_and, List.nodup_cons, List.not_mem_nil, not_false_eq_true, List.nodup_nil, Bool.not_true, Bool.not_false, ite_true, ite_false, Nat.reduceAdd, Nat.reduceSub, Nat.zero_add, List.replicate_zero, List.append_nil, List.mem_cons, Nat.reduceEqDiff, or_false, or_self, reduceIte, decide_true, decide_false, Nat.reduceLeDiff, Nat.reduceLT, Nat.le_refl]
      · simp only [Rs.bind_ok, Rs.bind_ex, Rs.bind_no, lift_some, lift_none, thn_nx, thn_rt, thn_bk, thn_ct, thn_ex, thn_no, to_ok, to_ex, to_no, fin_nx, fin_rt, optOut_s, optOut_n, optRs_s, optRs_n, asB_b, chB_b, eVar_eq, slotD_0, slotD_s, slotL_0, slotL_s, slotScr_0, slotScr_s, eC_eq, e2_eq, e1_eq, tb1_eq, tt1_eq, tNotD_eq, tAndD_eq, tOrD_eq, eNot_eq, eAnd_eq, eOr_eq, eIf_eq, eChain_eq, aNil_eq, aCons_eq, aOne_eq, eTup_eq, eLst_eq, mLst_eq, mD_eq, eFrz_eq, frzM_d, frzM_l, eB_eq, eListScr_eq, ixOf_i, eIxO_eq, pNo_eq, pSome_eq, oInt_i, eSlice_eq, eBO_eq, e2R_eq, ttO_eq, eTupO_eq, eListO_eq, eIsi_eq, eListRg_eq, mListRg_eq, eMt_eq, seqOne_l, seqOne_t, mList_eq, itSeq_eq, itB_eq, seqOf_l, seqOf_t, avNil_eq, avD_eq, avS_eq, avMs_nil, avMs_cons, avM_d, avM_sl, jsOf_nil, jsOf_d, jsOf_s, putBack_nil, putBack_d, putBack_s, toRs_rt, callM_eq, eCall_eq, sThen_eq, sE_eq, sNx_eq, sBk_eq, sCt_eq, sNo_eq, sRet_eq, sRetN_eq, sDrop_eq, sIf_eq, sSet_eq, sAsg_eq, sAug_eq, sSetItem_eq, asI_i, setIt_eq, sFor_eq, runDef_eq, start0_eq, outs_nil, outs_cons, rep_succ, mvM_l, mvM_d, alNil_eq, alD_eq, alL_eq, alMs_nil, alMs_cons, alM_d, alM_l, toSc_rt, eCallL_eq, bEnum_l, bEnum_t, eSM_eq, isSq_l, isSq_t, cntD_l, cntD_t, mVar_eq, mvF_l, mvF_d, eVarF_eq, dAdd_ii, dAddI_ii, dSub_ii, dMul_ii, dDiv_ii, dMod_ii, dLt_ii, dLe_ii, dGt_ii, dGe_ii, dNeg_i, dEq_ii, dNe_ii, dEq_bb, dNe_bb, dIs_none, dIsNot_none, isNon_none, isNon_b, isNon_i, isNon_s, isNon_l, isNon_t, tru_b, tru_i, tru_n, tru_l, tru_t, bLen_l, bLen_t, bAbs_i, bInt_i, bInt_b, bSum_l, bSum_t, bAll_l, bAny_l, bTup_l, bTup_t, bList_l, bList_t, bSorted_l, bSorted_t, bMax_ii, bMin_ii, bRange1_i, bZip_l, bZip_t, bZip3_t, dIx_l, dIx_t, dSlice_l, dSlice_t, isI_1, isI_2, isI_3, isI_4, isI_5, isI_6, isI_7, isI_8, isI_9, isI_10, isI_11, isI_12, isI_13, isI_14, isI_15, isI_16, isI_17, isI_18, isI_19, isI_20, isI_21, isI_22, isI_23, isI_24, isI_25, isI_26, scalar_1, scalar_2, scalar_3, scalar_4, chkS_i, chkS_b, gN_eq, gT_eq, gTL_eq, gsN_nil, gsC_cons, wipeE_nil, wipeE_cons, restE_nil, restE_cons, keepD_n, keepD_d, keepD_l, keepD_x, tYesD_eq, eComp_eq, mComp_eq, compR_ok, compGo_nil, forGo_nil, lp_nx, lp_ct, lp_bk, lp_rt, atI_2, atI_3, atI_4, atI_5, atI_6, atI_7, atI_zero, atI_one, dPow_10_18, beq_self_eq_true, List.map_cons, List.map_nil, List.length_cons, List.length_nil, List.cons_append, List.nil_append, List.set_cons_succ, List.set_cons_zero, List.getElem?_cons_succ, List.getElem?_cons_zero, Option.join_some, Option.map_some, Option.bind_some, List.tail_cons, List.head?_cons, if_true, if_false, Bool.false_eq_true, Bool.true_eq_false, and_true, true_and, List.nodup_cons, List.not_mem_nil, not_false_eq_true, List.nodup_nil, Bool.not_true, Bool.not_false, ite_true, ite_false, Nat.reduceAdd, Nat.reduceSub, Nat.zero_add, List.replicate_zero, List.append_nil, List.mem_cons, Nat.reduceEqDiff, or_false, or_self, reduceIte, decide_true, decide_false, Nat.reduceLeDiff, Nat.reduceLT, Nat.le_refl, cntD_t]
      · simp only [Rs.bind_ok, Rs.bind_ex, Rs.bind_no, lift_some, lift_none, thn_nx, thn_rt, thn_bk, thn_ct, thn_ex, thn_no, to_ok, to_ex, to_no, fin_nx, fin_rt, optOut_s, optOut_n, optRs_s, optRs_n, asB_b, chB_b, eVar_eq, slotD_0, slotD_s, slotL_0, slotL_s, slotScr_0, slotScr_s, eC_eq, e2_eq, e1_eq, tb1_eq, tt1_eq, tNotD_eq, tAndD_eq, tOrD_eq, eNot_eq, eAnd_eq, eOr_eq, eIf_eq, eChain_eq, aNil_eq, aCons_eq, aOne_eq, eTup_eq, eLst_eq, mLst_eq, mD_eq, eFrz_eq, frzM_d, frzM_l, eB_eq, eListScr_eq, ixOf_i, eIxO_eq, pNo_eq, pSome_eq, oInt_i, eSlice_eq, eBO_eq, e2R_eq, ttO_eq, eTupO_eq, eListO_eq, eIsi_eq, eListRg_eq, mListRg_eq, eMt_eq, seqOne_l, seqOne_t, mList_eq, itSeq_eq, itB_eq, seqOf_l, seqOf_t, avNil_eq, avD_eq, avS_eq, avMs_nil, avMs_cons, avM_d, avM_sl, jsOf_nil, jsOf_d, jsOf_s, putBack_nil, putBack_d, putBack_s, toRs_rt, callM_eq, eCall_eq, sThen_eq, sE_eq, sNx_eq, sBk_eq, sCt_eq, sNo_eq, sRet_eq, sRetN_eq, sDrop_eq, sIf_eq, sSet_eq, sAsg_eq, sAug_eq, sSetItem_eq, asI_i, setIt_eq, sFor_eq, runDef_eq, start0_eq, outs_nil, outs_cons, rep_succ, mvM_l, mvM_d, alNil_eq, alD_eq, alL_eq, alMs_nil, alMs_cons, alM_d, alM_l, toSc_rt, eCallL_eq, bEnum_l, bEnum_t, eSM_eq, isSq_l, isSq_t, cntD_l, cntD_t, mVar_eq, mvF_l, mvF_d, eVarF_eq, dAdd_ii, dAddI_ii, dSub_ii, dMul_ii, dDiv_ii, dMod_ii, dLt_ii, dLe_ii, dGt_ii, dGe_ii, dNeg_i, dEq_ii, dNe_ii, dEq_bb, dNe_bb, dIs_none, dIsNot_none, isNon_none, isNon_b, isNon_i, isNon_s, isNon_l, isNon_t, tru_b, tru_i, tru_n, tru_l, tru_t, bLen_l, bLen_t, bAbs_i, bInt_i, bInt_b, bSum_l, bSum_t, bAll_l, bAny_l, bTup_l, bTup_t, bList_l, bList_t, bSorted_l, bSorted_t, bMax_ii, bMin_ii, bRange1_i, bZip_l, bZip_t, bZip3_t, dIx_l, dIx_t, dSlice_l, dSlice_t, isI_1, isI_2, isI_3, isI_4, isI_5, isI_6, isI_7, isI_8, isI_9, isI_10, isI_11, isI_12, isI_13, isI_14, isI_15, isI_16, isI_17, isI_18, isI_19, isI_20, isI_21, isI_22, isI_23, isI_24, isI_25, isI_26, scalar_1, scalar_2, scalar_3, scalar_4, chkS_i, chkS_b, gN_eq, gT_eq, gTL_eq, gsN_nil, gsC_cons, wipeE_nil, wipeE_cons, restE_nil, restE_cons, keepD_n, keepD_d, keepD_l, keepD_x, tYesD_eq, eComp_eq, mComp_eq, compR_ok, compGo_nil, forGo_nil, lp_nx, lp_ct, lp_bk, lp_rt, atI_2, atI_3, atI_4, atI_5, atI_6, atI_7, atI_zero, atI_one, dPow_10_18, beq_self_eq_true, List.map_cons, List.map_nil, List.length_cons, List.length_nil, List.cons_append, List.nil_append, List.set_cons_succ, List.set_cons_zero, List.getElem?_cons_succ, List.getElem?_cons_zero, Option.join_some, Option.map_some, Option.bind_some, List.tail_cons, List.head?_cons, if_true, if_false, Bool.false_eq_true, Bool.true_eq_false, and_true, true_and, List.nodup_cons, List.not_mem_nil, not_false_eq_true, List.nodup_nil, Bool.not_true, Bool.not_false, ite_true, ite_false, Nat.reduceAdd, Nat.reduceSub, Nat.zero_add, List.replicate_zero, List.append_nil, List.mem_cons, Nat.reduceEqDiff, or_false, or_self, reduceIte, decide_true, decide_false, Nat.reduceLeDiff, Nat.reduceLT, Nat.le_refl])
  rw [← rangeD_eq, List.filter_eq_self.2 (by simp)] at hc
  have hr : v ≤ 16777216 ∧ -(2 ^ 62) ≤ v := by constructor <;> omega
  have hm : ((List.range v.toNat).map fun i : Nat => PyData.int (ns.count (i : Int) : Nat)) = (cnt ns v.toNat).map .int := by
    rw [cnt, List.map_map]; rfl
  simp only [f_counts_of, b_counts_of, Rs.bind_ok, Rs.bind_ex, Rs.bind_no, lift_some, lift_none, thn_nx, thn_rt, thn_bk, thn_ct, thn_ex, thn_no, to_ok, to_ex, to_no, fin_nx, fin_rt, optOut_s, optOut_n, optRs_s, optRs_n, asB_b, chB_b, eVar_eq, slotD_0, slotD_s, slotL_0, slotL_s, slotScr_0, slotScr_s, eC_eq, e2_eq, e1_eq, tb1_eq, tt1_eq, tNotD_eq, tAndD_eq, tOrD_eq, eNot_eq, eAnd_eq, eOr_eq, eIf_eq, eChain_eq, aNil_eq, aCons_eq, aOne_eq, eTup_eq, eLst_eq, mLst_eq, mD_eq, eFrz_eq, frzM_d, frzM_l, eB_eq, eListScr_eq, ixOf_i, eIxO_eq, pNo_eq, pSome_eq, oInt_i, eSlice_eq, eBO_eq, e2R_eq, ttO_eq, eTupO_eq, eListO_eq, eIsi_eq, eListRg_eq, mListRg_eq, eMt_eq, seqOne_l, seqOne_t, mList_eq, itSeq_eq, itB_eq, seqOf_l, seqOf_t, avNil_eq, avD_eq, avS_eq, avMs_nil, avMs_cons, avM_d, avM_sl, jsOf_nil, jsOf_d, jsOf_s, putBack_nil, putBack_d, putBack_s, toRs_rt, callM_eq, eCall_eq, sThen_eq, sE_eq, sNx_eq, sBk_eq, sCt_eq, sNo_eq, sRet_eq, sRetN_eq, sDrop_eq, sIf_eq, sSet_eq, sAsg_eq, sAug_eq, sSetItem_eq, asI_i, setIt_eq, sFor_eq, runDef_eq, start0_eq, outs_nil, outs_cons, rep_succ, mvM_l, mvM_d, alNil_eq, alD_eq, alL_eq, alMs_nil, alMs_cons, alM_d, alM_l, toSc_rt, eCallL_eq, bEnum_l, bEnum_t, eSM_eq, isSq_l, isSq_t, cntD_l, cntD_t, mVar_eq, mvF_l, mvF_d, eVarF_eq, dAdd_ii, dAddI_ii, dSub_ii, dMul_ii, dDiv_ii, dMod_ii, dLt_ii, dLe_ii, dGt_ii, dGe_ii, dNeg_i, dEq_ii, dNe_ii, dEq_bb, dNe_bb, dIs_none, dIsNot_none, isNon_none, isNon_b, isNon_i, isNon_s, isNon_l, isNon_t, tru_b, tru_i, tru_n, tru_l, tru_t, bLen_l, bLen_t, bAbs_i, bInt_i, bInt_b, bSum_l, bSum_t, bAll_l, bAny_l, bTup_l, bTup_t, bList_l, bList_t, bSorted_l, bSorted_t, bMax_ii, bMin_ii, bRange1_i, bZip_l, bZip_t, bZip3_t, dIx_l, dIx_t, dSlice_l, dSlice_t, isI_1, isI_2, isI_3, isI_4, isI_5, isI_6, isI_7, isI_8, isI_9, isI_10, isI_11, isI_12, isI_13, isI_14, isI_15, isI_16, isI_17, isI_18, isI_19, isI_20, isI_21, isI_22, isI_23, isI_24, isI_25, isI_26, scalar_1, scalar_2, scalar_3, scalar_4, chkS_i, chkS_b, gN_eq, gT_eq, gTL_eq, gsN_nil, gsC_cons, wipeE_nil, wipeE_cons, restE_nil, restE_cons, keepD_n, keepD_d, keepD_l, keepD_x, tYesD_eq, eComp_eq, mComp_eq, compR_ok, compGo_nil, forGo_nil, lp_nx, lp_ct, lp_bk, lp_rt, atI_2, atI_3, atI_4, atI_5, atI_6, atI_7, atI_zero, atI_one, dPow_10_18, beq_self_eq_true, List.map_cons, List.map_nil, List.length_cons, List.length_nil, List.cons_append, List.nil_append, List.set_cons_succ, List.set_cons_zero, List.getElem?_cons_succ, List.getElem?_cons_zero, Option.join_some, Option.map_some, Option.bind_some, List.tail_cons, List.head?_cons, if_true, if_false, Bool.false_eq_true, Bool.true_eq_false, and_true, true_and, List.nodup_cons, List.not_mem_nil, not_false_eq_true, List.nodup_nil, Bool.not_true, Bool.not_false, ite_true, ite_false, Nat.reduceAdd, Nat.reduceSub, Nat.zero_add, List.replicate_zero, List.append_nil, List.mem_cons, Nat.reduceEqDiff, or_false, or_self, reduceIte, decide_true, decide_false, Nat.reduceLeDiff, Nat.reduceLT, Nat.le_refl, hr, hc, hm]
theorem allocation_of_e (ns : List Int) (v : Int) (h : AsgN ns v) (h1 : 1 ≤ v) (h5 : v ≤ 5) : f_allocation_of [.d (.tuple (ns.map .int)), .d (.int v)] = .rt (.d (.tuple ((cnt ns v.toNat).map .int))) [none, none] := by
  have h' : AsgN ns 5 := ⟨h.1, fun i hi => by have := h.2 i hi; omega⟩
  simp only [f_allocation_of, b_allocation_of, Rs.bind_ok, Rs.bind_ex, Rs.bind_no, lift_some, lift_none, thn_nx, thn_rt, thn_bk, thn_ct, thn_ex, thn_no, to_ok, to_ex, to_no, fin_nx, fin_rt, optOut_s, optOut_n, optRs_s, optRs_n, asB_b, chB_b, eVar_eq, slotD_0, slotD_s, slotL_0, slotL_s, slotScr_0, slotScr_s, eC_eq, e2_eq, e1_eq, tb1_eq, tt1_eq, tNotD_eq, tAndD_eq, tOrD_eq, eNot_eq, eAnd_eq, eOr_eq, eIf_eq, eChain_eq, aNil_eq, aCons_eq, aOne_eq, eTup_eq, eLst_eq, mLst_eq, mD_eq, eFrz_eq, frzM_d, frzM_l, eB_eq, eListScr_eq, ixOf_i, eIxO_eq, pNo_eq, pSome_eq, oInt_i, eSlice_eq, eBO_eq, e2R_eq, ttO_eq, eTupO_eq, eListO_eq, eIsi_eq, eListRg_eq, mListRg_eq, eMt_eq, seqOne_l, seqOne_t, mList_eq, itSeq_eq, itB_eq, seqOf_l, seqOf_t, avNil_eq, avD_eq, avS_eq, avMs_nil, avMs_cons, avM_d, avM_sl, jsOf_nil, jsOf_d, jsOf_s, putBack_nil, putBack_d, putBack_s, toRs_rt, callM_eq, eCall_eq, sThen_eq, sE_eq, sNx_eq, sBk_eq, sCt_eq, sNo_eq, sRet_eq, sRetN_eq, sDrop_eq, sIf_eq, sSet_eq, sAsg_eq, sAug_eq, sSetItem_eq, asI_i, setIt_eq, sFor_eq, runDef_eq, start0_eq, outs_nil, outs_cons, rep_succ, mvM_l, mvM_d, alNil_eq, alD_eq, alL_eq, alMs_nil, alMs_cons, alM_d, alM_l, toSc_rt, eCallL_eq, bEnum_l, bEnum_t, eSM_eq, isSq_l, isSq_t, cntD_l, cntD_t, mVar_eq, mvF_l, mvF_d, eVarF_eq, dAdd_ii, dAddI_ii, dSub_ii, dMul_ii, dDiv_ii, dMod_ii, dLt_ii, dLe_ii, dGt_ii, dGe_ii, dNeg_i, dEq_ii, dNe_ii, dEq_bb, dNe_bb, dIs_none, dIsNot_none, isNon_none, isNon_b, isNon_i, isNon_s, isNon_l, isNon_t, tru_b, tru_i, tru_n, tru_l, tru_t, bLen_l, bLen_t, bAbs_i, bInt_i, bInt_b, bSum_l, bSum_t, bAll_l, bAny_l, bTup_l, bTup_t, bList_l, bList_t, bSorted_l, bSorted_t, bMax_ii, bMin_ii, bRange1_i, bZip_l, bZip_t, bZip3_t, dIx_l, dIx_t, dSlice_l, dSlice_t, isI_1, isI_2, isI_3, isI_4, isI_5, isI_6, isI_7, isI_8, isI_9, isI_10, isI_11, isI_12, isI_13, isI_14, isI_15, isI_16, isI_17, isI_18, isI_19, isI_20, isI_21, isI_22, isI_23, isI_24, isI_25, isI_26, scalar_1, scalar_2, scalar_3, scalar_4, chkS_i, chkS_b, gN_eq, gT_eq, gTL_eq, gsN_nil, gsC_cons, wipeE_nil, wipeE_cons, restE_nil, restE_cons, keepD_n, keepD_d, keepD_l, keepD_x, tYesD_eq, eComp_eq, mComp_eq, compR_ok, compGo_nil, forGo_nil, lp_nx, lp_ct, lp_bk, lp_rt, atI_2, atI_3, atI_4, atI_5, atI_6, atI_7, atI_zero, atI_one, dPow_10_18, beq_self_eq_true, List.map_cons, List.map_nil, List.length_cons, List.length_nil, List.cons_append, List.nil_append, List.set_cons_succ, List.set_cons_zero, List.getElem?_cons_succ, List.getElem?_cons_zero, Option.join_some, Option.map_some, Option.bind_some, List.tail_cons, List.head?_cons, if_true, if_false, Bool.false_eq_true, Bool.true_eq_false, and_true, true_and, List.nodup_cons, List.not_mem_nil, not_false_eq_true, List.nodup_nil, Bool.not_true, Bool.not_false, ite_true, ite_false, Nat.reduceAdd, Nat.reduceSub, Nat.zero_add, List.replicate_zero, List.append_nil, List.mem_cons, Nat.reduceEqDiff, or_false, or_self, reduceIte, decide_true, decide_false, Nat.reduceLeDiff, Nat.reduceLT, Nat.le_refl, check_assignment_e ns 5 _ h', check_variants_e ns v h h1 h5, counts_of_e ns v (by omega) (by omega)]
/-! churn -/
def chu : List Int → List Int → Int
  | x :: xs, y :: ys => (if x = y then 0 else 1) + chu xs ys
  | _, _ => 0
theorem churn_comp : ∀ (ns ms : List Int) (acc : List PyData) (a b : Option M), compGo (gT 2 (gsC (gN 3) (gsC (gN 2) gsN))) tYesD (eB bInt (aCons (e2 dNe (eVar 3) (eVar 2)) (aNil))) [3, 2] (zip2 (ns.map .int) (ms.map .int)) acc [a, b, none, none] =
      .ok (acc ++ ((ns.zip ms).map fun p => if p.1 = p.2 then (0 : Int) else 1).map .int) [a, b, none, none]
  | [], ms, acc, a, b => by simp [zip2]
  | _ :: _, [], acc, a, b => by simp [zip2]
  | x :: xs, y :: ys, acc, a, b => by
    have ih := churn_comp xs ys (acc ++ [.int (if x = y then 0 else 1)]) a b
    have e : (if (!(x == y)) = true then (1 : Int) else 0) = if x = y then 0 else 1 := by
      by_cases h : x = y <;> simp [h]
    simp only [List.map_cons, zip2_cons, compGo_cons, Rs.bind_ok, Rs.bind_ex, Rs.bind_no, lift_some, lift_none, thn_nx, thn_rt, thn_bk, thn_ct, thn_ex, thn_no, to_ok, to_ex, to_no, fin_nx, fin_rt, optOut_s, optOut_n, optRs_s, optRs_n, asB_b, chB_b, eVar_eq, slotD_0, slotD_s, slotL_0, slotL_s, slotScr_0, slotScr_s, eC_eq, e2_eq, e1_eq, tb1_eq, tt1_eq, tNotD_eq, tAndD_eq, tOrD_eq, eNot_eq, eAnd_eq, eOr_eq, eIf_eq, eChain_eq, aNil_eq, aCons_eq, aOne_eq, eTup_eq, eLst_eq, mLst_eq, mD_eq, eFrz_eq, frzM_d, frzM_l, eB_eq, eListScr_eq, ixOf_i, eIxO_eq, pNo_eq, pSome_eq, oInt_i, eSlice_eq, eBO_eq, e2R_eq, ttO_eq, eTupO_eq, eListO_eq, eIsi_eq, eListRg_eq, mListRg_eq, eMt_eq, seqOne_l, seqOne_t, mList_eq, itSeq_eq, itB_eq, seqOf_l, seqOf_t, avNil_eq, avD_eq, avS_eq, avMs_nil, avMs_cons, avM_d, avM_sl, jsOf_nil, jsOf_d, jsOf_s, putBack_nil, putBack_d, putBack_s, toRs_rt, callM_eq, eCall_eq, sThen_eq, sE_eq, sNx_eq, sBk_eq, sCt_eq, sNo_eq, sRet_eq, sRetN_eq, sDrop_eq, sIf_eq, sSet_eq, sAsg_eq, sAug_eq, sSetItem_eq, asI_i, setIt_eq, sFor_eq, runDef_eq, start0_eq, outs_nil, outs_cons, rep_succ, mvM_l, mvM_d, alNil_eq, alD_eq, alL_eq, alMs_nil, alMs_cons, alM_d, alM_l, toSc_rt, eCallL_eq, bEnum_l, bEnum_t, eSM_eq, isSq_l, isSq_t, cntD_l, cntD_t, mVar_eq, mvF_l, mvF_d, eVarF_eq, dAdd_ii, dAddI_ii, dSub_ii, dMul_ii, dDiv_ii, dMod_ii, dLt_ii, dLe_ii, dGt_ii, dGe_ii, dNeg_i, dEq_ii, dNe_ii, dEq_bb, dNe_bb, dIs_none, dIsNot_none, isNon_none, isNon_b, isNon_i, isNon_s, isNon_l, isNon_t, tru_b, tru_i, tru_n, tru_l, tru_t, bLen_l, bLen_t, bAbs_i, bInt_i, bInt_b, bSum_l, bSum_t, bAll_l, bAny_l, bTup_l, bTup_t, bList_l, bList_t, bSorted_l, bSorted_t, bMax_ii, bMin_ii, bRange1_i, bZip_l, bZip_t, bZip3_t, dIx_l, dIx_t, dSlice_l, dSlice_t, isI_1, isI_2, isI_3, isI_4, isI_5, isI_6, isI_7, isI_8, isI_9, isI_10, isI_11, isI_12, isI_13, isI_14, isI_15, isI_16, isI_17, isI_18, isI_19, isI_20, isI_21, isI_22, isI_23, isI_24, isI_25, isI_26, scalar_1, scalar_2, scalar_3, scalar_4, chkS_i, chkS_b, gN_eq, gT_eq, gTL_eq, gsN_nil, gsC_cons, wipeE_nil, wipeE_cons, restE_nil, restE_cons, keepD_n, keepD_d, keepD_l, keepD_x, tYesD_eq, eComp_eq, mComp_eq, compR_ok, compGo_nil, forGo_nil, lp_nx, lp_ct, lp_bk, lp_rt, atI_2, atI_3, atI_4, atI_5, atI_6, atI_7, atI_zero, atI_one, dPow_10_18, beq_self_eq_true, List.map_cons, List.map_nil, List.length_cons, List.length_nil, List.cons_append, List.nil_append, List.set_cons_succ, List.set_cons_zero, List.getElem?_cons_succ, List.getElem?_cons_zero, Option.join_some, Option.map_some, Option.bind_some, List.tail_cons, List.head?_cons, if_true, if_false, Bool.false_eq_true, Bool.true_eq_false, and_true, true_and, List.nodup_cons, List.not_mem_nil, not_false_eq_true, List.nodup_nil, Bool.not_true, Bool.not_false, ite_true, ite_false, Nat.reduceAdd, Nat.reduceSub, Nat.zero_add, List.replicate_zero, List.append_nil, List.mem_cons, Nat.reduceEqDiff, or_false, or_self, reduceIte, decide_true, decide_false, Nat.reduceLeDiff, Nat.reduceLT, Nat.le_refl, e] at ih ⊢
    rw [ih]
    simp
theorem chu_sum : ∀ ns ms : List Int, ((ns.zip ms).map fun p => if p.1 = p.2 then (0 : Int) else 1).sum = chu ns ms
  | [], ms => by simp [chu]
  | _ :: _, [] => by simp [chu]
  | x :: xs, y :: ys => by
    rw [List.zip_cons_cons, List.map_cons, List.sum_cons, chu_sum xs ys, chu]
theorem churn_of_e (ns ms : List Int) : f_churn_of [.d (.tuple (ns.map .int)), .d (.tuple (ms.map .int))] = .rt (.d (.int (chu ns ms))) [none, none] := by
  have h := churn_comp ns ms [] (some (.d (.tuple (ns.map .int)))) (some (.d (.tuple (ms.map .int))))
  simp only [f_churn_of, b_churn_of, Rs.bind_ok, Rs.bind_ex, Rs.bind_no, lift_some, lift_none, thn_nx, thn_rt, thn_bk, thn_ct, thn_ex, thn_no, to_ok, to_ex, to_no, fin_nx, fin_rt, optOut_s, optOut_n, optRs_s, optRs_n, asB_b, chB_b, eVar_eq, slotD_0, slotD_s, slotL_0, slotL_s, slotScr_0, slotScr_s, eC_eq, e2_eq, e1_eq, tb1_eq, tt1_eq, tNotD_eq, tAndD_eq, tOrD_eq, eNot_eq, eAnd_eq, eOr_eq, eIf_eq, eChain_eq, aNil_eq, aCons_eq, aOne_eq, eTup_eq, eLst_eq, mLst_eq, mD_eq, eFrz_eq, frzM_d, frzM_l, eB_eq, eListScr_eq, ixOf_i, eIxO_eq, pNo_eq, pSome_eq, oInt_i, eSlice_eq, eBO_eq, e2R_eq, ttO_eq, eTupO_eq, eListO_eq, eIsi_eq, eListRg_eq, mListRg_eq, eMt_eq, seqOne_l, seqOne_t, mList_eq, itSeq_eq, itB_eq, seqOf_l, seqOf_t, avNil_eq, avD_eq, avS_eq, avMs_nil, avMs_cons, avM_d, avM_sl, jsOf_nil, jsOf_d, jsOf_s, putBack_nil, putBack_d, putBack_s, toRs_rt, callM_eq, eCall_eq, sThen_eq, sE_eq, sNx_eq, sBk_eq, sCt_eq, sNo_eq, sRet_eq, sRetN_eq, sDrop_eq, sIf_eq, sSet_eq, sAsg_eq, sAug_eq, sSetItem_eq, asI_i, setIt_eq, sFor_eq, runDef_eq, start0_eq, outs_nil, outs_cons, rep_succ, mvM_l, mvM_d, alNil_eq, alD_eq, alL_eq, alMs_nil, alMs_cons, alM_d, alM_l, toSc_rt, eCallL_eq, bEnum_l, bEnum_t, eSM_eq, isSq_l, isSq_t, cntD_l, cntD_t, mVar_eq, mvF_l, mvF_d, eVarF_eq, dAdd_ii, dAddI_ii, dSub_ii, dMul_ii, dDiv_ii, dMod_ii, dLt_ii, dLe_ii, dGt_ii, dGe_ii, dNeg_i, dEq_ii, dNe_ii, dEq_bb, dNe_bb, dIs_none, dIsNot_none, isNon_none, isNon_b, isNon_i, isNon_s, isNon_l, isNon_t, tru_b, tru_i, tru_n, tru_l, tru_t, bLen_l, bLen_t, bAbs_i, bInt_i, bInt_b, bSum_l, bSum_t, bAll_l, bAny_l, bTup_l, bTup_t, bList_l, bList_t, bSorted_l, bSorted_t, bMax_ii, bMin_ii, bRange1_i, bZip_l, bZip_t, bZip3_t, dIx_l, dIx_t, dSlice_l, dSlice_t, isI_1, isI_2, isI_3, isI_4, isI_5, isI_6, isI_7, isI_8, isI_9, isI_10, isI_11, isI_12, isI_13, isI_14, isI_15, isI_16, isI_17, isI_18, isI_19, isI_20, isI_21, isI_22, isI_23, isI_24, isI_25, isI_26, scalar_1, scalar_2, scalar_3, scalar_4, chkS_i, chkS_b, gN_eq, gT_eq, gTL_eq, gsN_nil, gsC_cons, wipeE_nil, wipeE_cons, restE_nil, restE_cons, keepD_n, keepD_d, keepD_l, keepD_x, tYesD_eq, eComp_eq, mComp_eq, compR_ok, compGo_nil, forGo_nil, lp_nx, lp_ct, lp_bk, lp_rt, atI_2, atI_3, atI_4, atI_5, atI_6, atI_7, atI_zero, atI_one, dPow_10_18, beq_self_eq_true, List.map_cons, List.map_nil, List.length_cons, List.length_nil, List.cons_append, List.nil_append, List.set_cons_succ, List.set_cons_zero, List.getElem?_cons_succ, List.getElem?_cons_zero, Option.join_some, Option.map_some, Option.bind_some, List.tail_cons, List.head?_cons, if_true, if_false, Bool.false_eq_true, Bool.true_eq_false, and_true, true_and, List.nodup_cons, List.not_mem_nil, not_false_eq_true, List.nodup_nil, Bool.not_true, Bool.not_false, ite_true, ite_false, Nat.reduceAdd, Nat.reduceSub, Nat.zero_add, List.replicate_zero, List.append_nil, List.mem_cons, Nat.reduceEqDiff, or_false, or_self, reduceIte, decide_true, decide_false, Nat.reduceLeDiff, Nat.reduceLT, Nat.le_refl, h, List.nil_append, bSum_l, chu_sum]
theorem churn_e (ns ms : List Int) (h : AsgN ns 5) (h' : AsgN ms 5) (hl : ms.length = ns.length) : f_churn [.d (.tuple (ns.map .int)), .d (.tuple (ms.map .int))] = .rt (.d (.int (chu ns ms))) [none, none] := by
  simp only [f_churn, b_churn, Rs.bind_ok, Rs.bind_ex, Rs.bind_no, lift_some, lift_none, thn_nx, thn_rt, thn_bk, thn_ct, thn_ex, thn_no, to_ok, to_ex, to_no, fin_nx, fin_rt, optOut_s, optOut_n, optRs_s, optRs_n, asB_b, chB_b, eVar_eq, slotD_0, slotD_s, slotL_0, slotL_s, slotScr_0, slotScr_s, eC_eq, e2_eq, e1_eq, tb1_eq, tt1_eq, tNotD_eq, tAndD_eq, tOrD_eq, eNot_eq, eAnd_eq, eOr_eq, eIf_eq, eChain_eq, aNil_eq, aCons_eq, aOne_eq, eTup_eq, eLst_eq, mLst_eq, mD_eq, eFrz_eq, frzM_d, frzM_l, eB_eq, eListScr_eq, ixOf_i, eIxO_eq, pNo_eq, pSome_eq, oInt_i, eSlice_eq, eBO_eq, e2R_eq, ttO_eq, eTupO_eq, eListO_eq, eIsi_eq, eListRg_eq, mListRg_eq, eMt_eq, seqOne_l, seqOne_t, mList_eq, itSeq_eq, itB_eq, seqOf_l, seqOf_t, avNil_eq, avD_eq, avS_eq, avMs_nil, avMs_cons, avM_d, avM_sl, jsOf_nil, jsOf_d, jsOf_s, putBack_nil, putBack_d, putBack_s, toRs_rt, callM_eq, eCall_eq, sThen_eq, sE_eq, sNx_eq, sBk_eq, sCt_eq, sNo_eq, sRet_eq, sRetN_eq, sDrop_eq, sIf_eq, sSet_eq, sAsg_eq, sAug_eq, sSetItem_eq, asI_i, setIt_eq, sFor_eq, runDef_eq, start0_eq, outs_nil, outs_cons, rep_succ, mvM_l, mvM_d, alNil_eq, alD_eq, alL_eq, alMs_nil, alMs_cons, alM_d, alM_l, toSc_rt, eCallL_eq, bEnum_l, bEnum_t, eSM_eq, isSq_l, isSq_t, cntD_l, cntD_t, mVar_eq, mvF_l, mvF_d, eVarF_eq, dAdd_ii, dAddI_ii, dSub_ii, dMul_ii, dDiv_ii, dMod_ii, dLt_ii, dLe_ii, dGt_ii, dGe_ii, dNeg_i, dEq_ii, dNe_ii, dEq_bb, dNe_bb, dIs_none, dIsNot_none, isNon_none, isNon_b, isNon_i, isNon_s, isNon_l, isNon_t, tru_b, tru_i, tru_n, tru_l, tru_t, bLen_l, bLen_t, bAbs_i, bInt_i, bInt_b, bSum_l, bSum_t, bAll_l, bAny_l, bTup_l, bTup_t, bList_l, bList_t, bSorted_l, bSorted_t, bMax_ii, bMin_ii, bRange1_i, bZip_l, bZip_t, bZip3_t, dIx_l, dIx_t, dSlice_l, dSlice_t, isI_1, isI_2, isI_3, isI_4, isI_5, isI_6, isI_7, isI_8, isI_9, isI_10, isI_11, isI_12, isI_13, isI_14, isI_15, isI_16, isI_17, isI_18, isI_19, isI_20, isI_21, isI_22, isI_23, isI_24, isI_25, isI_26, scalar_1, scalar_2, scalar_3, scalar_4, chkS_i, chkS_b, gN_eq, gT_eq, gTL_eq, gsN_nil, gsC_cons, wipeE_nil, wipeE_cons, restE_nil, restE_cons, keepD_n, keepD_d, keepD_l, keepD_x, tYesD_eq, eComp_eq, mComp_eq, compR_ok, compGo_nil, forGo_nil, lp_nx, lp_ct, lp_bk, lp_rt, atI_2, atI_3, atI_4, atI_5, atI_6, atI_7, atI_zero, atI_one, dPow_10_18, beq_self_eq_true, List.map_cons, List.map_nil, List.length_cons, List.length_nil, List.cons_append, List.nil_append, List.set_cons_succ, List.set_cons_zero, List.getElem?_cons_succ, List.getElem?_cons_zero, Option.join_some, Option.map_some, Option.bind_some, List.tail_cons, List.head?_cons, if_true, if_false, Bool.false_eq_true, Bool.true_eq_false, and_true, true_and, List.nodup_cons, List.not_mem_nil, not_false_eq_true, List.nodup_nil, Bool.not_true, Bool.not_false, ite_true, ite_false, Nat.reduceAdd, Nat.reduceSub, Nat.zero_add, List.replicate_zero, List.append_nil, List.mem_cons, Nat.reduceEqDiff, or_false, or_self, reduceIte, decide_true, decide_false, Nat.reduceLeDiff, Nat.reduceLT, Nat.le_refl, check_two_e ns ms h h' hl, churn_of_e]
theorem chu_range : ∀ (a b : List Int), a.length = b.length → chu a b = ((List.range a.length).map fun i => if a.getD i 0 = b.getD i 0 then (0 : Int) else 1).sum
  | [], [], _ => rfl
  | [], _ :: _, h => by simp at h
  | _ :: _, [], h => by simp at h
  | x :: xs, y :: ys, h => by
    have ih := chu_range xs ys (by simpa using h)
    rw [chu, ih, List.length_cons, List.range_succ_eq_map, List.map_cons, List.sum_cons, List.map_map]
    rfl
theorem ren_chu (a b od : List Int) (hl : a.length = b.length) (ho : IsO od a.length) : chu (ren a od) (ren b od) = chu a b := by
  rw [chu_range _ _ (by rw [ren_len, ren_len, hl]), chu_range a b hl, ren_len]
  rw [← ren_sum a od ho fun i => if a.getD i 0 = b.getD i 0 then (0 : Int) else 1]
  refine congrArg _ (List.map_congr_left fun i hi => ?_)
  rw [List.mem_range] at hi
  have hi' : i < b.length := by omega
  simp [ren, hi, hi']
/-! new names -/
def nam (nm : List Int) (a : List Int) : List Int := a.map fun i => nm.getD i.toNat 0
open Classical in
theorem isO_dec {od : List Int} {n : Nat} (h : IsO od n) (hn : n ≤ 1000) : decide (IsOrd (.tuple (od.map .int)) (n : Int)) = true := decide_eq_true ⟨od, rfl, by rw [h.1], by rw [h.1]; exact h.2⟩
open Classical in
theorem renamed_as_e (a nm : List Int) (ha : AsgN a 5) (ho : IsO nm 5) : f_renamed [.d (.tuple (a.map .int)), .d (.tuple (nm.map .int))] = .rt (.d (.tuple ((nam nm a).map .int))) [none, none] := by
  have hc := compGo_map (g := gN 2) (tt := tYesD) (te := e2 dIx (eVar 1) (eVar 2)) (vs := [2]) (emb := PyData.int)
    (e := [some (.d (.tuple (a.map .int))), some (.d (.tuple (nm.map .int))), none]) (fun i => true) (fun i => .int (nm.getD i.toNat 0)) a [] (fun i hi => by
      have hb := ha.2 i hi
      have hl : i.toNat < nm.length := by rw [ho.1]; omega
      have h1 : L2.atI (nm.map PyData.int) i = some (.int (nm.getD i.toNat 0)) := by simp [atI_int _ _ hb.1, hl]
      refine ⟨[some (.d (.tuple (a.map .int))), some (.d (.tuple (nm.map .int))), some (.d (.int i))], ?_, rfl, fun _ => ?_, ?_⟩
      · simp only [Rs.bind_ok, Rs.bind_ex, Rs.bind_no, lift_some, lift_none, thn_nx, thn_rt, thn_bk, thn_ct, thn_ex, thn_no, to_ok, to_ex, to_no, fin_nx, fin_rt, optOut_s, optOut_n, optRs_s, optRs_n, asB_b, chB_b, eVar_eq, slotD_0, slotD_s, slotL_0, slotL_s, slotScr_0, slotScr_s, eC_eq, e2_eq, e1_eq, tb1_eq, tt1_eq, tNotD_eq, tAndD_eq, tOrD_eq, eNot_eq, eAnd_eq, eOr_eq, eIf_eq, eChain_eq, aNil_eq, aCons_eq, aOne_eq, eTup_eq, eLst_eq, mLst_eq, mD_eq, eFrz_eq, frzM_d, frzM_l, eB_eq, eListScr_eq, ixOf_i, eIxO_eq, pNo_eq, pSome_eq, oInt_i, eSlice_eq, eBO_eq, e2R_eq, ttO_eq, eTupO_eq, eListO_eq, eIsi_eq, eListRg_eq, mListRg_eq, eMt_eq, seqOne_l, seqOne_t, mList_eq, itSeq_eq, itB_eq, seqOf_l, seqOf_t, avNil_eq, avD_eq, avS_eq, avMs_nil, avMs_cons, avM_d, avM_sl, jsOf_nil, jsOf_d, jsOf_s, putBack_nil, putBack_d, putBack_s, toRs_rt, callM_eq, eCall_eq, sThen_eq, sE_eq, sNx_eq, sBk_eq, sCt_eq, sNo_eq, sRet_eq, sRetN_eq, sDrop_eq, sIf_eq, sSet_eq, sAsg_eq, sAug_eq, sSetItem_eq, asI_i, setIt_eq, sFor_eq, runDef_eq, start0_eq, outs_nil, outs_cons, rep_succ, mvM_l, mvM_d, alNil_eq, alD_eq, alL_eq, alMs_nil, alMs_cons, alM_d, alM_l, toSc_rt, eCallL_eq, bEnum_l, bEnum_t, eSM_eq, isSq_l, isSq_t, cntD_l, cntD_t, mVar_eq, mvF_l, mvF_d, eVarF_eq, dAdd_ii, dAddI_ii, dSub_ii, dMul_ii, dDiv_ii, dMod_ii, dLt_ii, dLe_ii, dGt_ii, dGe_ii, dNeg_i, dEq_ii, dNe_ii, dEq_bb, dNe_bb, dIs_none, dIsNot_none, isNon_none, isNon_b, isNon_i, isNon_s, isNon_l, isNon_t, tru_b, tru_i, tru_n, tru_l, tru_t, bLen_l, bLen_t, bAbs_i, bInt_i, bInt_b, bSum_l, bSum_t, bAll_l, bAny_l, bTup_l, bTup_t, bList_l, bList_t, bSorted_l, bSorted_t, bMax_ii, bMin_ii, bRange1_i, bZip_l, bZip_t, bZip3_t, dIx_l, dIx_t, dSlice_l, dSlice_t, isI_1, isI_2, isI_3, isI_4, isI_5, isI_6, isI_7, isI_8, isI_9, isI_10, isI_11, isI_12, isI_13, isI_14, isI_15, isI_16, isI_17, isI_18, isI_19, isI_20, isI_21, isI_22, isI_23, isI_24, isI_25, isI_26, scalar_1, scalar_2, scalar_3, scalar_4, chkS_i, chkS_b, gN_eq, gT_eq, gTL_eq, gsN_nil, gsC_cons, wipeE_nil, wipeE_cons, restE_nil, restE_cons, keepD_n, keepD_d, keepD_l, keepD_x, tYesD_eq, eComp_eq, mComp_eq, compR_ok, compGo_nil, forGo_nil, lp_nx, lp_ct, lp_bk, lp_rt, atI_2, atI_3, atI_4, atI_5, atI_6, atI_7, atI_zero, atI_one, dPow_10_18, beq_self_eq_true, List.map_cons, List.map_nil, List.length_cons, List.length_nil, List.cons_append, List.nil_append, List.set_cons_succ, List.set_cons_zero, List.getElem?_cons_succ, List.getElem?_cons_zero, Option.join_some, Option.map_some, Option.bind_some, List.tail_cons, List.head?_cons, if_true, if_false, Bool.false_eq_true, Bool.true_eq_false, and_true, true_and, List.nodup_cons, List.not_mem_nil, not_false_eq_true, List.nodup_nil, Bool.not_true, Bool.not_false, ite_true, ite_false, Nat.reduceAdd, Nat.reduceSub, Nat.zero_add, List.replicate_zero, List.append_nil, List.mem_cons, Nat.reduceEqDiff, or_false, or_self, reduceIte, decide_true, decide_false, Nat.reduceLeDiff, Nat.reduceLT, Nat.le_refl]
      · simp only [Rs.bind_ok, Rs.bind_ex, Rs.bind_no, lift_some, lift_none, thn_nx, thn_rt, thn_bk, thn_ct, thn_ex, thn_no, to_ok, to_ex, to_no, fin_nx, fin_rt, optOut_s, optOut_n, optRs_s, optRs_n, asB_b, chB_b, eVar_eq, slotD_0, slotD_s, slotL_0, slotL_s, slotScr_0, slotScr_s, eC_eq, e2_eq, e1_eq, tb1_eq, tt1_eq, tNotD_eq, tAndD_eq, tOrD_eq, eNot_eq, eAnd_eq, eOr_eq, eIf_eq, eChain_eq, aNil_eq, aCons_eq, aOne_eq, eTup_eq, eLst_eq, mLst_eq, mD_eq, eFrz_eq, frzM_d, frzM_l, eB_eq, eListScr_eq, ixOf_i, eIxO_eq, pNo_eq, pSome_eq, oInt_i, eSlice_eq, eBO_eq, e2R_eq, ttO_eq, eTupO_eq, eListO_eq, eIsi_eq, eListRg_eq, mListRg_eq, eMt_eq, seqOne_l, seqOne_t, mList_eq, itSeq_eq, itB_eq, seqOf_l, seqOf_t, avNil_eq, avD_eq, avS_eq, avMs_nil, avMs_cons, avM_d, avM_sl, jsOf_nil, jsOf_d, jsOf_s, putBack_nil, putBack_d, putBack_s, toRs_rt, callM_eq, eCall_eq, sThen_eq, sE_eq, sNx_eq, sBk_eq, sCt_eq, sNo_eq, sRet_eq, sRetN_eq, sDrop_eq, sIf_eq, sSet_eq, sAsg_eq, sAug_eq, sSetItem_eq, asI_i, setIt_eq, sFor_eq, runDef_eq, start0_eq, outs_nil, outs_cons, rep_succ, mvM_l, mvM_d, alNil_eq, alD_eq, alL_eq, alMs_nil, alMs_cons, alM_d, alM_l, toSc_rt, eCallL_eq, bEnum_l, bEnum_t, eSM_eq, isSq_l, isSq_t, cntD_l, cntD_t, mVar_eq, mvF_l, mvF_d, eVarF_eq, dAdd_ii, dAddI_ii, dSub_ii, dMul_ii, dDiv_ii, dMod_ii, dLt_ii, dLe_ii, dGt_ii, dGe_ii, dNeg_i, dEq_ii, dNe_ii, dEq_bb, dNe_bb, dIs_none, dIsNot_none, isNon_none, isNon_b, isNon_i, isNon_s, isNon_l, isNon_t, tru_b, tru_i, tru_n, tru_l, tru_t, bLen_l, bLen_t, bAbs_i, bInt_i, bInt_b, bSum_l, bSum_t, bAll_l, bAny_l, bTup_l, bTup_t, bList_l, bList_t, bSorted_l, bSorted_t, bMax_ii, bMin_ii, bRange1_i, bZip_l, bZip_t, bZip3_t, dIx_l, dIx_t, dSlice_l, dSlice_t, isI_1, isI_2, isI_3, isI_4, isI_5, isI_6, isI_7, isI_8, isI_9, isI_10, isI_11, isI_12, isI_13, isI_14, isI_15, isI_16, isI_17, isI_18, isI_19, isI_20, isI_21, isI_22, isI_23, isI_24, isI_25, isI_26, scalar_1, scalar_2, scalar_3, scalar_4, chkS_i, chkS_b, gN_eq, gT_eq, gTL_eq, gsN_nil, gsC_cons, wipeE_nil, wipeE_cons, restE_nil, restE_cons, keepD_n, keepD_d, keepD_l, keepD_x, tYesD_eq, eComp_eq, mComp_eq, compR_ok, compGo_nil, forGo_nil, lp_nx, lp_ct, lp_bk, lp_rt, atI_2, atI_3, atI_4, atI_5, atI_6, atI_7, atI_zero, atI_one, dPow_10_18, beq_self_eq_true, List.map_cons, List.map_nil, List.length_cons, List.length_nil, List.cons_append, List.nil_append, List.set_cons_succ, List.set_cons_zero, List.getElem?_cons_succ, List.getElem?_cons_zero, Option.join_some, Option.map_some, Option.bind_some, List.tail_cons, List.head?_cons, if_true, if_false, Bool.false_eq_true, Bool.true_eq_false, and_true, true_and, List.nodup_cons, List.not_mem_nil, not_false_eq_true, List.nodup_nil, Bool.not_true, Bool.not_false, ite_true, ite_false, Nat.reduceAdd, Nat.reduceSub, Nat.zero_add, List.replicate_zero, List.append_nil, List.mem_cons, Nat.reduceEqDiff, or_false, or_self, reduceIte, decide_true, decide_false, Nat.reduceLeDiff, Nat.reduceLT, Nat.le_refl, h1]
      · simp only [Rs.bind_ok, Rs.bind_ex, Rs.bind_no, lift_some, lift_none, thn_nx, thn_rt, thn_bk, thn_ct, thn_ex, thn_no, to_ok, to_ex, to_no, fin_nx, fin_rt, optOut_s, optOut_n, optRs_s, optRs_n, asB_b, chB_b, eVar_eq, slotD_0, slotD_s, slotL_0, slotL_s, slotScr_0, slotScr_s, eC_eq, e2_eq, e1_eq, tb1_eq, tt1_eq, tNotD_eq, tAndD_eq, tOrD_eq, eNot_eq, eAnd_eq, eOr_eq, eIf_eq, eChain_eq, aNil_eq, aCons_eq, aOne_eq, eTup_eq, eLst_eq, mLst_eq, mD_eq, eFrz_eq, frzM_d, frzM_l, eB_eq, eListScr_eq, ixOf_i, eIxO_eq, pNo_eq, pSome_eq, oInt_i, eSlice_eq, eBO_eq, e2R_eq, ttO_eq, eTupO_eq, eListO_eq, eIsi_eq, eListRg_eq, mListRg_eq, eMt_eq, seqOne_l, seqOne_t, mList_eq, itSeq_eq, itB_eq, seqOf_l, seqOf_t, avNil_eq, avD_eq, avS_eq, avMs_nil, avMs_cons, avM_d, avM_sl, jsOf_nil, jsOf_d, jsOf_s, putBack_nil, putBack_d, putBack_s, toRs_rt, callM_eq, eCall_eq, sThen_eq, sE_eq, sNx_eq, sBk_eq, sCt_eq, sNo_eq, sRet_eq, sRetN_eq, sDrop_eq, sIf_eq, sSet_eq, sAsg_eq, sAug_eq, sSetItem_eq, asI_i, setIt_eq, sFor_eq, runDef_eq, start0_eq, outs_nil, outs_cons, rep_succ, mvM_l, mvM_d, alNil_eq, alD_eq, alL_eq, alMs_nil, alMs_cons, alM_d, alM_l, toSc_rt, eCallL_eq, bEnum_l, bEnum_t, eSM_eq, isSq_l, isSq_t, cntD_l, cntD_t, mVar_eq, mvF_l, mvF_d, eVarF_eq, dAdd_ii, dAddI_ii, dSub_ii, dMul_ii, dDiv_ii, dMod_ii, dLt_ii, dLe_ii, dGt_ii, dGe_ii, dNeg_i, dEq_ii, dNe_ii, dEq_bb, dNe_bb, dIs_none, dIsNot_none, isNon_none, isNon_b, isNon_i, isNon_s, isNon_l, isNon_t, tru_b, tru_i, tru_n, tru_l, tru_t, bLen_l, bLen_t, bAbs_i, bInt_i, bInt_b, bSum_l, bSum_t, bAll_l, bAny_l, bTup_l, bTup_t, bList_l, bList_t, bSorted_l, bSorted_t, bMax_ii, bMin_ii, bRange1_i, bZip_l, bZip_t, bZip3_t, dIx_l, dIx_t, dSlice_l, dSlice_t, isI_1, isI_2, isI_3, isI_4, isI_5, isI_6, isI_7, isI_8, isI_9, isI_10, isI_11, isI_12, isI_13, isI_14, isI_15, isI_16, isI_17, isI_18, isI_19, isI_20, isI_21, isI_22, isI_23, isI_24, isI_25, isI_26, scalar_1, scalar_2, scalar_3, scalar_4, chkS_i, chkS_b, gN_eq, gT_eq, gTL_eq, gsN_nil, gsC_cons, wipeE_nil, wipeE_cons, restE_nil, restE_cons, keepD_n, keepD_d, keepD_l, keepD_x, tYesD_eq, eComp_eq, mComp_eq, compR_ok, compGo_nil, forGo_nil, lp_nx, lp_ct, lp_bk, lp_rt, atI_2, atI_3, atI_4, atI_5, atI_6, atI_7, atI_zero, atI_one, dPow_10_18, beq_self_eq_true, List.map_cons, List.map_nil, List.length_cons, List.length_nil, List.cons_append, List.nil_append, List.set_cons_succ, List.set_cons_zero, List.getElem?_cons_succ, List.getElem?_cons_zero, Option.join_some, Option.map_some, Option.bind_some, List.tail_cons, List.head?_cons, if_true, if_false, Bool.false_eq_true, Bool.true_eq_false, and_true, true_and, List.nodup_cons, List.not_mem_nil, not_false_eq_true, List.nodup_nil, Bool.not_true, Bool.not_false, ite_true, ite_false, Nat.reduceAdd, Nat.reduceSub, Nat.zero_add, List.replicate_zero, List.append_nil, List.mem_cons, Nat.reduceEqDiff, or_false, or_self, reduceIte, decide_true, decide_false, Nat.reduceLeDiff, Nat.reduceLT, Nat.le_refl])
  rw [List.filter_eq_self.2 (by simp)] at hc
  have hm : (a.map fun i => PyData.int (nm.getD i.toNat 0)) = (nam nm a).map .int := by
    rw [nam, List.map_map]; rfl
  have j : decide (IsOrd (.tuple (nm.map .int)) (5 : Int)) = true := isO_dec (n := 5) ho (by omega)
  simp only [f_renamed, b_renamed, Rs.bind_ok, Rs.bind_ex, Rs.bind_no, lift_some, lift_none, thn_nx, thn_rt, thn_bk, thn_ct, thn_ex, thn_no, to_ok, to_ex, to_no, fin_nx, fin_rt, optOut_s, optOut_n, optRs_s, optRs_n, asB_b, chB_b, eVar_eq, slotD_0, slotD_s, slotL_0, slotL_s, slotScr_0, slotScr_s, eC_eq, e2_eq, e1_eq, tb1_eq, tt1_eq, tNotD_eq, tAndD_eq, tOrD_eq, eNot_eq, eAnd_eq, eOr_eq, eIf_eq, eChain_eq, aNil_eq, aCons_eq, aOne_eq, eTup_eq, eLst_eq, mLst_eq, mD_eq, eFrz_eq, frzM_d, frzM_l, eB_eq, eListScr_eq, ixOf_i, eIxO_eq, pNo_eq, pSome_eq, oInt_i, eSlice_eq, eBO_eq, e2R_eq, ttO_eq, eTupO_eq, eListO_eq, eIsi_eq, eListRg_eq, mListRg_eq, eMt_eq, seqOne_l, seqOne_t, mList_eq, itSeq_eq, itB_eq, seqOf_l, seqOf_t, avNil_eq, avD_eq, avS_eq, avMs_nil, avMs_cons, avM_d, avM_sl, jsOf_nil, jsOf_d, jsOf_s, putBack_nil, putBack_d, putBack_s, toRs_rt, callM_eq, eCall_eq, sThen_eq, sE_eq, sNx_eq, sBk_eq, sCt_eq, sNo_eq, sRet_eq, sRetN_eq, sDrop_eq, sIf_eq, sSet_eq, sAsg_eq, sAug_eq, sSetItem_eq, asI_i, setIt_eq, sFor_eq, runDef_eq, start0_eq, outs_nil, outs_cons, rep_succ, mvM_l, mvM_d, alNil_eq, alD_eq, alL_eq, alMs_nil, alMs_cons, alM_d, alM_l, toSc_rt, eCallL_eq, bEnum_l, bEnum_t, eSM_eq, isSq_l, isSq_t, cntD_l, cntD_t, mVar_eq, mvF_l, mvF_d, eVarF_eq, dAdd_ii, dAddI_ii, dSub_ii, dMul_ii, dDiv_ii, dMod_ii, dLt_ii, dLe_ii, dGt_ii, dGe_ii, dNeg_i, dEq_ii, dNe_ii, dEq_bb, dNe_bb, dIs_none, dIsNot_none, isNon_none, isNon_b, isNon_i, isNon_s, isNon_l, isNon_t, tru_b, tru_i, tru_n, tru_l, tru_t, bLen_l, bLen_t, bAbs_i, bInt_i, bInt_b, bSum_l, bSum_t, bAll_l, bAny_l, bTup_l, bTup_t, bList_l, bList_t, bSorted_l, bSorted_t, bMax_ii, bMin_ii, bRange1_i, bZip_l, bZip_t, bZip3_t, dIx_l, dIx_t, dSlice_l, dSlice_t, isI_1, isI_2, isI_3, isI_4, isI_5, isI_6, isI_7, isI_8, isI_9, isI_10, isI_11, isI_12, isI_13, isI_14, isI_15, isI_16, isI_17, isI_18, isI_19, isI_20, isI_21, isI_22, isI_23, isI_24, isI_25, isI_26, scalar_1, scalar_2, scalar_3, scalar_4, chkS_i, chkS_b, gN_eq, gT_eq, gTL_eq, gsN_nil, gsC_cons, wipeE_nil, wipeE_cons, restE_nil, restE_cons, keepD_n, keepD_d, keepD_l, keepD_x, tYesD_eq, eComp_eq, mComp_eq, compR_ok, compGo_nil, forGo_nil, lp_nx, lp_ct, lp_bk, lp_rt, atI_2, atI_3, atI_4, atI_5, atI_6, atI_7, atI_zero, atI_one, dPow_10_18, beq_self_eq_true, List.map_cons, List.map_nil, List.length_cons, List.length_nil, List.cons_append, List.nil_append, List.set_cons_succ, List.set_cons_zero, List.getElem?_cons_succ, List.getElem?_cons_zero, Option.join_some, Option.map_some, Option.bind_some, List.tail_cons, List.head?_cons, if_true, if_false, Bool.false_eq_true, Bool.true_eq_false, and_true, true_and, List.nodup_cons, List.not_mem_nil, not_false_eq_true, List.nodup_nil, Bool.not_true, Bool.not_false, ite_true, ite_false, Nat.reduceAdd, Nat.reduceSub, Nat.zero_add, List.replicate_zero, List.append_nil, List.mem_cons, Nat.reduceEqDiff, or_false, or_self, reduceIte, decide_true, decide_false, Nat.reduceLeDiff, Nat.reduceLT, Nat.le_refl, check_assignment_e a 5 _ ha, is_order_e _ (5 : Int) (by omega) (by omega), j, hc, hm]
theorem rearranged_e (a od : List Int) (ha : AsgN a 5) (ho : IsO od a.length) : f_rearranged [.d (.tuple (a.map .int)), .d (.tuple (od.map .int))] = .rt (.d (.tuple ((ren a od).map .int))) [none, none] := by
  have hc := compGo_map (g := gN 2) (tt := tYesD) (te := e2 dIx (eVar 0) (eSM idxD (eVar 1) (aCons (eVar 2) (aNil)))) (vs := [2]) (emb := fun i : Nat => PyData.int i)
    (e := [some (.d (.tuple (a.map .int))), some (.d (.tuple (od.map .int))), none]) (fun i => true) (fun i : Nat => .int (a.getD (od.idxOf (i : Int)) 0)) (List.range a.length) [] (fun i hi => by
      rw [List.mem_range] at hi
      have hx := ho.idx hi
      have h1 : L2.atI (a.map PyData.int) ((od.idxOf (i : Int) : Nat) : Int) = some (.int (a.getD (od.idxOf (i : Int)) 0)) := by simp [atI_nat, hx]
      refine ⟨[some (.d (.tuple (a.map .int))), some (.d (.tuple (od.map .int))), some (.d (.int i))], ?_, rfl, fun _ => ?_, ?_⟩
      · simp only [Rs.bind_ok, Rs.bind_ex, Rs.bind_no, lift_some, lift_none, thn_nx, thn_rt, thn_bk, thn_ct, thn_ex, thn_no, to_ok, to_ex, to_no, fin_nx, fin_rt, optOut_s, optOut_n, optRs_s, optRs_n, asB_b, chB_b, eVar_eq, slotD_0, slotD_s, slotL_0, slotL_s, slotScr_0, slotScr_s, eC_eq, e2_eq, e1_eq, tb1_eq, tt1_eq, tNotD_eq, tAndD_eq, tOrD_eq, eNot_eq, eAnd_eq, eOr_eq, eIf_eq, eChain_eq, aNil_eq, aCons_eq, aOne_eq, eTup_eq, eLst_eq, mLst_eq, mD_eq, eFrz_eq, frzM_d, frzM_l, eB_eq, eListScr_eq, ixOf_i, eIxO_eq, pNo_eq, pSome_eq, oInt_i, eSlice_eq, eBO_eq, e2R_eq, ttO_eq, eTupO_eq, eListO_eq, eIsi_eq, eListRg_eq, mListRg_eq, eMt_eq, seqOne_l, seqOne_t, mList_eq, itSeq_eq, itB_eq, seqOf_l, seqOf_t, avNil_eq, avD_eq, avS_eq, avMs_nil, avMs_cons, avM_d, avM_sl, jsOf_nil, jsOf_d, jsOf_s, putBack_nil, putBack_d, putBack_s, toRs_rt, callM_eq, eCall_eq, sThen_eq, sE_eq, sNx_eq, sBk_eq, sCt_eq, sNo_eq, sRet_eq, sRetN_eq, sDrop_eq, sIf_eq, sSet_eq, sAsg_eq, sAug_eq, sSetItem_eq, asI_i, setIt_eq, sFor_eq, runDef_eq, start0_eq, outs_nil, outs_cons, rep_succ, mvM_l, mvM_d, alNil_eq, alD_eq, alL_eq, alMs_nil, alMs_cons, alM_d, alM_l, toSc_rt, eCallL_eq, bEnum_l, bEnum_t, eSM_eq, isSq_l, isSq_t, cntD_l, cntD_t, mVar_eq, mvF_l, mvF_d, eVarF_eq, dAdd_ii, dAddI_ii, dSub_ii, dMul_ii, dDiv_ii, dMod_ii, dLt_ii, dLe_ii, dGt_ii, dGe_ii, dNeg_i, dEq_ii, dNe_ii, dEq_bb, dNe_bb, dIs_none, dIsNot_none, isNon_none, isNon_b, isNon_i, isNon_s, isNon_l, isNon_t, tru_b, tru_i, tru_n, tru_l, tru_t, bLen_l, bLen_t, bAbs_i, bInt_i, bInt_b, bSum_l, bSum_t, bAll_l, bAny_l, bTup_l, bTup_t, bList_l, bList_t, bSorted_l, bSorted_t, bMax_ii, bMin_ii, bRange1_i, bZip_l, bZip_t, bZip3_t, dIx_l, dIx_t, dSlice_l, dSlice_t, isI_1, isI_2, isI_3, isI_4, isI_5, isI_6, isI_7, isI_8, isI_9, isI_10, isI_11, isI_12, isI_13, isI_14, isI_15, isI_16, isI_17, isI_18, isI_19, isI_20, isI_21, isI_22, isI_23, isI_24, isI_25, isI_26, scalar_1, scalar_2, scalar_3, scalar_4, chkS_i, chkS_b, gN_eq, gT_eq, gTL_eq, gsN_nil, gsC_cons, wipeE_nil, wipeE_cons, restE_nil, restE_cons, keepD_n, keepD_d, keepD_l, keepD_x, tYesD_eq, eComp_eq, mComp_eq, compR_ok, compGo_nil, forGo_nil, lp_nx, lp_ct, lp_bk, lp_rt, atI_2, atI_3, atI_4, atI_5, atI_6, atI_7, atI_zero, atI_one, dPow_10_18, beq_self_eq_true, List.map_cons, List.map_nil, List.length_cons, List.length_nil, List.cons_append, List.nil_append, List.set_cons_succ, List.set_cons_zero, List.getElem?_cons_succ, List.getElem?_cons_zero, Option.join_some, Option.map_some, Option.bind_some, List.tail_cons, List.head?_cons, if_true, if_false, Bool.false_eq_true, Bool.true_eq_false, and_true, true_and, List.nodup_cons, List.not_mem_nil, not_false_eq_true, List.nodup_nil, Bool.not_true, Bool.not_false, ite_true, ite_false, Nat.reduceAdd, Nat.reduceSub, Nat.zero_add, List.replicate_zero, List.append_nil, List.mem_cons, Nat.reduceEqDiff, or_false, or_self, reduceIte, decide_true, decide_false, Nat.reduceLeDiff, Nat.reduceLT, Nat.le_refl]
      · simp only [Rs.bind_ok, Rs.bind_ex, Rs.bind_no, lift_some, lift_none, thn_nx, thn_rt, thn_bk, thn_ct, thn_ex, thn_no, to_ok, to_ex, to_no, fin_nx, fin_rt, optOut_s, optOut_n, optRs_s, optRs_n, asB_b, chB_b, eVar_eq, slotD_0, slotD_s, slotL_0, slotL_s, slotScr_0, slotScr_s, eC_eq, e2_eq, e1_eq, tb1_eq, tt1_eq, tNotD_eq, tAndD_eq, tOrD_eq, eNot_eq, eAnd_eq, eOr_eq, eIf_eq, eChain_eq, aNil_eq, aCons_eq, aOne_eq, eTup_eq, eLst_eq, mLst_eq, mD_eq, eFrz_eq, frzM_d, frzM_l, eB_eq, eListScr_eq, ixOf_i, eIxO_eq, pNo_eq, pSome_eq, oInt_i, eSlice_eq, eBO_eq, e2R_eq, ttO_eq, eTupO_eq, eListO_eq, eIsi_eq, eListRg_eq, mListRg_eq, eMt_eq, seqOne_l, seqOne_t, mList_eq, itSeq_eq, itB_eq, seqOf_l, seqOf_t, avNil_eq, avD_eq, avS_eq, avMs_nil, avMs_cons, avM_d, avM_sl, jsOf_nil, jsOf_d, jsOf_s, putBack_nil, putBack_d, putBack_s, toRs_rt, callM_eq, eCall_eq, sThen_eq, sE_eq, sNx_eq, sBk_eq, sCt_eq, sNo_eq, sRet_eq, sRetN_eq, sDrop_eq, sIf_eq, sSet_eq, sAsg_eq, sAug_eq, sSetItem_eq, asI_i, setIt_eq, sFor_eq, runDef_eq, start0_eq, outs_nil, outs_cons, rep_succ, mvM_l, mvM_d, alNil_eq, alD_eq, alL_eq, alMs_nil, alMs_cons, alM_d, alM_l, toSc_rt, eCallL_eq, bEnum_l, bEnum_t, eSM_eq, isSq_l, isSq_t, cntD_l, cntD_t, mVar_eq, mvF_l, mvF_d, eVarF_eq, dAdd_ii, dAddI_ii, dSub_ii, dMul_ii, dDiv_ii, dMod_ii, dLt_ii, dLe_ii, dGt_ii, dGe_ii, dNeg_i, dEq_ii, dNe_ii, dEq_bb, dNe_bb, dIs_none, dIsNot_none, isNon_none, isNon_b, isNon_i, isNon_s, isNon_l, isNon_t, tru_b, tru_i, tru_n, tru_l, tru_t, bLen_l, bLen_t, bAbs_i, bInt_i, bInt_b, bSum_l, bSum_t, bAll_l, bAny_l, bTup_l, bTup_t, bList_l, bList_t, bSorted_l, bSorted_t, bMax_ii, bMin_ii, bRange1_i, bZip_l, bZip_t, bZip3_t, dIx_l, dIx_t, dSlice_l, dSlice_t, isI_1, isI_2, isI_3, isI_4, isI_5, isI_6, isI_7, isI_8, isI_9, isI_10, isI_11, isI_12, isI_13, isI_14, isI_15, isI_16, isI_17, isI_18, isI_19, isI_20, isI_21, isI_22, isI_23, isI_24, isI_25, isI_26, scalar_1, scalar_2, scalar_3, scalar_4, chkS_i, chkS_b, gN_eq, gT_eq, gTL_eq, gsN_nil, gsC_cons, wipeE_nil, wipeE_cons, restE_nil, restE_cons, keepD_n, keepD_d, keepD_l, keepD_x, tYesD_eq, eComp_eq, mComp_eq, compR_ok, compGo_nil, forGo_nil, lp_nx, lp_ct, lp_bk, lp_rt, atI_2, atI_3, atI_4, atI_5, atI_6, atI_7, atI_zero, atI_one, dPow_10_18, beq_self_eq_true, List.map_cons, List.map_nil, List.length_cons, List.length_nil, List.cons_append, List.nil_append, List.set_cons_succ, List.set_cons_zero, List.getElem?_cons_succ, List.getElem?_cons_zero, Option.join_some, Option.map_some, Option.bind_some, List.tail_cons, List.head?_cons, if_true, if_false, Bool.false_eq_true, Bool.true_eq_false, and_true, true_and, List.nodup_cons, List.not_mem_nil, not_false_eq_true, List.nodup_nil, Bool.not_true, Bool.not_false, ite_true, ite_false, Nat.reduceAdd, Nat.reduceSub, Nat.zero_add, List.replicate_zero, List.append_nil, List.mem_cons, Nat.reduceEqDiff, or_false, or_self, reduceIte, decide_true, decide_false, Nat.reduceLeDiff, Nat.reduceLT, Nat.le_refl, idxD_t od i (ho.mem hi), h1]
      · simp only [Rs.bind_ok, Rs.bind_ex, Rs.bind_no, lift_some, lift_none, thn_nx, thn_rt, thn_bk, thn_ct, thn_ex, thn_no, to_ok, to_ex, to_no, fin_nx, fin_rt, optOut_s, optOut_n, optRs_s, optRs_n, asB_b, chB_b, eVar_eq, slotD_0, slotD_s, slotL_0, slotL_s, slotScr_0, slotScr_s, eC_eq, e2_eq, e1_eq, tb1_eq, tt1_eq, tNotD_eq, tAndD_eq, tOrD_eq, eNot_eq, eAnd_eq, eOr_eq, eIf_eq, eChain_eq, aNil_eq, aCons_eq, aOne_eq, eTup_eq, eLst_eq, mLst_eq, mD_eq, eFrz_eq, frzM_d, frzM_l, eB_eq, eListScr_eq, ixOf_i, eIxO_eq, pNo_eq, pSome_eq, oInt_i, eSlice_eq, eBO_eq, e2R_eq, ttO_eq, eTupO_eq, eListO_eq, eIsi_eq, eListRg_eq, mListRg_eq, eMt_eq, seqOne_l, seqOne_t, mList_eq, itSeq_eq, itB_eq, seqOf_l, seqOf_t, avNil_eq, avD_eq, avS_eq, avMs_nil, avMs_cons, avM_d, avM_sl, jsOf_nil, jsOf_d, jsOf_s, putBack_nil, putBack_d, putBack_s, toRs_rt, callM_eq, eCall_eq, sThen_eq, sE_eq, sNx_eq, sBk_eq, sCt_eq, sNo_eq, sRet_eq, sRetN_eq, sDrop_eq, sIf_eq, sSet_eq, sAsg_eq, sAug_eq, sSetItem_eq, asI_i, setIt_eq, sFor_eq, runDef_eq, start0_eq, outs_nil, outs_cons, rep_succ, mvM_l, mvM_d, alNil_eq, alD_eq, alL_eq, alMs_nil, alMs_cons, alM_d, alM_l, toSc_rt, eCallL_eq, bEnum_l, bEnum_t, eSM_eq, isSq_l, isSq_t, cntD_l, cntD_t, mVar_eq, mvF_l, mvF_d, eVarF_eq, dAdd_ii, dAddI_ii, dSub_ii, dMul_ii, dDiv_ii, dMod_ii, dLt_ii, dLe_ii, dGt_ii, dGe_ii, dNeg_i, dEq_ii, dNe_ii, dEq_bb, dNe_bb, dIs_none, dIsNot_none, isNon_none, isNon_b, isNon_i, isNon_s, isNon_l, isNon_t, tru_b, tru_i, tru_n, tru_l, tru_t, bLen_l, bLen_t, bAbs_i, bInt_i, bInt_b, bSum_l, bSum_t, bAll_l, bAny_l, bTup_l, bTup_t, bList_l, bList_t, bSorted_l, bSorted_t, bMax_ii, bMin_ii, bRange1_i, bZip_l, bZip_t, bZip3_t, dIx_l, dIx_t, dSlice_l, dSlice_t, isI_1, isI_2, isI_3, isI_4, isI_5, isI_6, isI_7, isI_8, isI_9, isI_10, isI_11, isI_12, isI_13, isI_14, isI_15, isI_16, isI_17, isI_18, isI_19, isI_20, isI_21, isI_22, isI_23, isI_24, isI_25, isI_26, scalar_1, scalar_2, scalar_3, scalar_4, chkS_i, chkS_b, gN_eq, gT_eq, gTL_eq, gsN_nil, gsC_cons, wipeE_nil, wipeE_cons, restE_nil, restE_cons, keepD_n, keepD_d, keepD_l, keepD_x, tYesD_eq, eComp_eq, mComp_eq, compR_ok, compGo_nil, forGo_nil, lp_nx, lp_ct, lp_bk, lp_rt, atI_2, atI_3, atI_4, atI_5, atI_6, atI_7, atI_zero, atI_one, dPow_10_18, beq_self_eq_true, List.map_cons, List.map_nil, List.length_cons, List.length_nil, List.cons_append, List.nil_append, List.set_cons_succ, List.set_cons_zero, List.getElem?_cons_succ, List.getElem?_cons_zero, Option.join_some, Option.map_some, Option.bind_some, List.tail_cons, List.head?_cons, if_true, if_false, Bool.false_eq_true, Bool.true_eq_false, and_true, true_and, List.nodup_cons, List.not_mem_nil, not_false_eq_true, List.nodup_nil, Bool.not_true, Bool.not_false, ite_true, ite_false, Nat.reduceAdd, Nat.reduceSub, Nat.zero_add, List.replicate_zero, List.append_nil, List.mem_cons, Nat.reduceEqDiff, or_false, or_self, reduceIte, decide_true, decide_false, Nat.reduceLeDiff, Nat.reduceLT, Nat.le_refl])
  rw [← rangeD_eq, List.filter_eq_self.2 (by simp)] at hc
  have hl20 := ha.1
  have hr : (a.length : Int) ≤ 16777216 ∧ -(2 ^ 62) ≤ (a.length : Int) := by constructor <;> omega
  have hm : ((List.range a.length).map fun i : Nat => PyData.int (a.getD (od.idxOf (i : Int)) 0)) = (ren a od).map .int := by
    rw [ren, List.map_map]; rfl
  have j := isO_dec ho (by omega)
  simp only [f_rearranged, b_rearranged, Rs.bind_ok, Rs.bind_ex, Rs.bind_no, lift_some, lift_none, thn_nx, thn_rt, thn_bk, thn_ct, thn_ex, thn_no, to_ok, to_ex, to_no, fin_nx, fin_rt, optOut_s, optOut_n, optRs_s, optRs_n, asB_b, chB_b, eVar_eq, slotD_0, slotD_s, slotL_0, slotL_s, slotScr_0, slotScr_s, eC_eq, e2_eq, e1_eq, tb1_eq, tt1_eq, tNotD_eq, tAndD_eq, tOrD_eq, eNot_eq, eAnd_eq, eOr_eq, eIf_eq, eChain_eq, aNil_eq, aCons_eq, aOne_eq, eTup_eq, eLst_eq, mLst_eq, mD_eq, eFrz_eq, frzM_d, frzM_l, eB_eq, eListScr_eq, ixOf_i, eIxO_eq, pNo_eq, pSome_eq, oInt_i, eSlice_eq, eBO_eq, e2R_eq, ttO_eq, eTupO_eq, eListO_eq, eIsi_eq, eListRg_eq, mListRg_eq, eMt_eq, seqOne_l, seqOne_t, mList_eq, itSeq_eq, itB_eq, seqOf_l, seqOf_t, avNil_eq, avD_eq, avS_eq, avMs_nil, avMs_cons, avM_d, avM_sl, jsOf_nil, jsOf_d, jsOf_s, putBack_nil, putBack_d, putBack_s, toRs_rt, callM_eq, eCall_eq, sThen_eq, sE_eq, sNx_eq, sBk_eq, sCt_eq, sNo_eq, sRet_eq, sRetN_eq, sDrop_eq, sIf_eq, sSet_eq, sAsg_eq, sAug_eq, sSetItem_eq, asI_i, setIt_eq, sFor_eq, runDef_eq, start0_eq, outs_nil, outs_cons, rep_succ, mvM_l, mvM_d, alNil_eq, alD_eq, alL_eq, alMs_nil, alMs_cons, alM_d, alM_l, toSc_rt, eCallL_eq, bEnum_l, bEnum_t, eSM_eq, isSq_l, isSq_t, cntD_l, cntD_t, mVar_eq, mvF_l, mvF_d, eVarF_eq, dAdd_ii, dAddI_ii, dSub_ii, dMul_ii, dDiv_ii, dMod_ii, dLt_ii, dLe_ii, dGt_ii, dGe_ii, dNeg_i, dEq_ii, dNe_ii, dEq_bb, dNe_bb, dIs_none, dIsNot_none, isNon_none, isNon_b, isNon_i, isNon_s, isNon_l, isNon_t, tru_b, tru_i, tru_n, tru_l, tru_t, bLen_l, bLen_t, bAbs_i, bInt_i, bInt_b, bSum_l, bSum_t, bAll_l, bAny_l, bTup_l, bTup_t, bList_l, bList_t, bSorted_l, bSorted_t, bMax_ii, bMin_ii, bRange1_i, bZip_l, bZip_t, bZip3_t, dIx_l, dIx_t, dSlice_l, dSlice_t, isI_1, isI_2, isI_3, isI_4, isI_5, isI_6, isI_7, isI_8, isI_9, isI_10, isI_11, isI_12, isI_13, isI_14, isI_15, isI_16, isI_17, isI_18, isI_19, isI_20, isI_21, isI_22, isI_23, isI_24, isI_25, isI_26, scalar_1, scalar_2, scalar_3, scalar_4, chkS_i, chkS_b, gN_eq, gT_eq, gTL_eq, gsN_nil, gsC_cons, wipeE_nil, wipeE_cons, restE_nil, restE_cons, keepD_n, keepD_d, keepD_l, keepD_x, tYesD_eq, eComp_eq, mComp_eq, compR_ok, compGo_nil, forGo_nil, lp_nx, lp_ct, lp_bk, lp_rt, atI_2, atI_3, atI_4, atI_5, atI_6, atI_7, atI_zero, atI_one, dPow_10_18, beq_self_eq_true, List.map_cons, List.map_nil, List.length_cons, List.length_nil, List.cons_append, List.nil_append, List.set_cons_succ, List.set_cons_zero, List.getElem?_cons_succ, List.getElem?_cons_zero, Option.join_some, Option.map_some, Option.bind_some, List.tail_cons, List.head?_cons, if_true, if_false, Bool.false_eq_true, Bool.true_eq_false, and_true, true_and, List.nodup_cons, List.not_mem_nil, not_false_eq_true, List.nodup_nil, Bool.not_true, Bool.not_false, ite_true, ite_false, Nat.reduceAdd, Nat.reduceSub, Nat.zero_add, List.replicate_zero, List.append_nil, List.mem_cons, Nat.reduceEqDiff, or_false, or_self, reduceIte, decide_true, decide_false, Nat.reduceLeDiff, Nat.reduceLT, Nat.le_refl, check_assignment_e a 5 _ ha, List.length_map, is_order_e _ (a.length : Int) (by omega) (by omega), j, hr, Int.toNat_natCast, hc, hm]
/-! the order back -/
def bk (od : List Int) : List Int := (List.range od.length).map fun i : Nat => ((od.idxOf (i : Int) : Nat) : Int)
theorem back_e (od : List Int) (n : Nat) (hn : n ≤ 1000) (ho : IsO od n) : f__law_back [.d (.tuple (od.map .int))] = .rt (.d (.tuple ((bk od).map .int))) [none] := by
  have hc := compGo_map (g := gN 1) (tt := tYesD) (te := eSM idxD (eVar 0) (aCons (eVar 1) (aNil))) (vs := [1]) (emb := fun i : Nat => PyData.int i)
    (e := [some (.d (.tuple (od.map .int))), none]) (fun i => true) (fun i : Nat => .int (od.idxOf (i : Int) : Nat)) (List.range od.length) [] (fun i hi => by
      rw [List.mem_range, ho.1] at hi
      refine ⟨[some (.d (.tuple (od.map .int))), some (.d (.int i))], ?_, rfl, fun _ => ?_, ?_⟩
      · simp only [Rs.bind_ok, Rs.bind_ex, Rs.bind_no, lift_some, lift_none, thn_nx, thn_rt, thn_bk, thn_ct, thn_ex, thn_no, to_ok, to_ex, to_no, fin_nx, fin_rt, optOut_s, optOut_n, optRs_s, optRs_n, asB_b, chB_b, eVar_eq, slotD_0, slotD_s, slotL_0, slotL_s, slotScr_0, slotScr_s, eC_eq, e2_eq, e1_eq, tb1_eq, tt1_eq, tNotD_eq, tAndD_eq, tOrD_eq, eNot_eq, eAnd_eq, eOr_eq, eIf_eq, eChain_eq, aNil_eq, aCons_eq, aOne_eq, eTup_eq, eLst_eq, mLst_eq, mD_eq, eFrz_eq, frzM_d, frzM_l, eB_eq, eListScr_eq, ixOf_i, eIxO_eq, pNo_eq, pSome_eq, oInt_i, eSlice_eq, eBO_eq, e2R_eq, ttO_eq, eTupO_eq, eListO_eq, eIsi_eq, eListRg_eq, mListRg_eq, eMt_eq, seqOne_l, seqOne_t, mList_eq, itSeq_eq, itB_eq, seqOf_l, seqOf_t, avNil_eq, avD_eq, avS_eq, avMs_nil, avMs_cons, avM_d, avM_sl, jsOf_nil, jsOf_d, jsOf_s, putBack_nil, putBack_d, putBack_s, toRs_rt, callM_eq, eCall_eq, sThen_eq, sE_eq, sNx_eq, sBk_eq, sCt_eq, sNo_eq, sRet_eq, sRetN_eq, sDrop_eq, sIf_eq, sSet_eq, sAsg_eq, sAug_eq, sSetItem_eq, asI_i, setIt_eq, sFor_eq, runDef_eq, start0_eq, outs_nil, outs_cons, rep_succ, mvM_l, mvM_d, alNil_eq, alD_eq, alL_eq, alMs_nil, alMs_cons, alM_d, alM_l, toSc_rt, eCallL_eq, bEnum_l, bEnum_t, eSM_eq, isSq_l, isSq_t, cntD_l, cntD_t, mVar_eq, mvF_l, mvF_d, eVarF_eq, dAdd_ii, dAddI_ii, dSub_ii, dMul_ii, dDiv_ii, dMod_ii, dLt_ii, dLe_ii, dGt_ii, dGe_ii, dNeg_i, dEq_ii, dNe_ii, dEq_bb, dNe_bb, dIs_none, dIsNot_none, isNon_none, isNon_b, isNon_i, isNon_s, isNon_l, isNon_t, tru_b, tru_i, tru_n, tru_l, tru_t, bLen_l, bLen_t, bAbs_i, bInt_i, bInt_b, bSum_l, bSum_t, bAll_l, bAny_l, bTup_l, bTup_t, bList_l, bList_t, bSorted_l, bSorted_t, bMax_ii, bMin_ii, bRange1_i, bZip_l, bZip_t, bZip3_t, dIx_l, dIx_t, dSlice_l, dSlice_t, isI_1, isI_2, isI_3, isI_4, isI_5, isI_6, isI_7, isI_8, isI_9, isI_10, isI_11, isI_12, isI_13, isI_14, isI_15, isI_16, isI_17, isI_18, isI_19, isI_20, isI_21, isI_22, isI_23, isI_24, isI_25, isI_26, scalar_1, scalar_2, scalar_3, scalar_4, chkS_i, chkS_b, gN_eq, gT_eq, gTL_eq, gsN_nil, gsC_cons, wipeE_nil, wipeE_cons, restE_nil, restE_cons, keepD_n, keepD_d, keepD_l, keepD_x, tYesD_eq, eComp_eq, mComp_eq, compR_ok, compGo_nil, forGo_nil, lp_nx, lp_ct, lp_bk, lp_rt, atI_2, atI_3, atI_4, atI_5, atI_6, atI_7, atI_zero, atI_one, dPow_10_18, beq_self_eq_true, List.map_cons, List.map_nil, List.length_cons, List.length_nil, List.cons_append, List.nil_append, List.set_cons_succ, List.set_cons_zero, List.getElem?_cons_succ, List.getElem?_cons_zero, Option.join_some, Option.map_some, Option.bind_some, List.tail_cons, List.head?_cons, if_true, if_false, Bool.false_eq_true, Bool.true_eq_false, and_true, true_and, List.nodup_cons, List.not_mem_nil, not_false_eq_true, List.nodup_nil, Bool.not_true, Bool.not_false, ite_true, ite_false, Nat.reduceAdd, Nat.reduceSub, Nat.zero_add, List.replicate_zero, List.append_nil, List.mem_cons, Nat.reduceEqDiff, or_false, or_self, reduceIte, decide_true, decide_false, Nat.reduceLeDiff, Nat.reduceLT, Nat.le_refl]
      · simp only [Rs.bind_ok, Rs.bind_ex, Rs.bind_no, lift_some, lift_none, thn_nx, thn_rt, thn_bk, thn_ct, thn_ex, thn_no, to_ok, to_ex, to_no, fin_nx, fin_rt, optOut_s, optOut_n, optRs_s, optRs_n, asB_b, chB_b, eVar_eq, slotD_0, slotD_s, slotL_0, slotL_s, slotScr_0, slotScr_s, eC_eq, e2_eq, e1_eq, tb1_eq, tt1_eq, tNotD_eq, tAndD_eq, tOrD_eq, eNot_eq, eAnd_eq, eOr_eq, eIf_eq, eChain_eq, aNil_eq, aCons_eq, aOne_eq, eTup_eq, eLst_eq, mLst_eq, mD_eq, eFrz_eq, frzM_d, frzM_l, eB_eq, eListScr_eq, ixOf_i, eIxO_eq, pNo_eq, pSome_eq, oInt_i, eSlice_eq, eBO_eq, e2R_eq, ttO_eq, eTupO_eq, eListO_eq, eIsi_eq, eListRg_eq, mListRg_eq, eMt_eq, seqOne_l, seqOne_t, mList_eq, itSeq_eq, itB_eq, seqOf_l, seqOf_t, avNil_eq, avD_eq, avS_eq, avMs_nil, avMs_cons, avM_d, avM_sl, jsOf_nil, jsOf_d, jsOf_s, putBack_nil, putBack_d, putBack_s, toRs_rt, callM_eq, eCall_eq, sThen_eq, sE_eq, sNx_eq, sBk_eq, sCt_eq, sNo_eq, sRet_eq, sRetN_eq, sDrop_eq, sIf_eq, sSet_eq, sAsg_eq, sAug_eq, sSetItem_eq, asI_i, setIt_eq, sFor_eq, runDef_eq, start0_eq, outs_nil, outs_cons, rep_succ, mvM_l, mvM_d, alNil_eq, alD_eq, alL_eq, alMs_nil, alMs_cons, alM_d, alM_l, toSc_rt, eCallL_eq, bEnum_l, bEnum_t, eSM_eq, isSq_l, isSq_t, cntD_l, cntD_t, mVar_eq, mvF_l, mvF_d, eVarF_eq, dAdd_ii, dAddI_ii, dSub_ii, dMul_ii, dDiv_ii, dMod_ii, dLt_ii, dLe_ii, dGt_ii, dGe_ii, dNeg_i, dEq_ii, dNe_ii, dEq_bb, dNe_bb, dIs_none, dIsNot_none, isNon_none, isNon_b, isNon_i, isNon_s, isNon_l, isNon_t, tru_b, tru_i, tru_n, tru_l, tru_t, bLen_l, bLen_t, bAbs_i, bInt_i, bInt_b, bSum_l, bSum_t, bAll_l, bAny_l, bTup_l, bTup_t, bList_l, bList_t, bSorted_l, bSorted_t, bMax_ii, bMin_ii, bRange1_i, bZip_l, bZip_t, bZip3_t, dIx_l, dIx_t, dSlice_l, dSlice_t, isI_1, isI_2, isI_3, isI_4, isI_5, isI_6, isI_7, isI_8, isI_9, isI_10, isI_11, isI_12, isI_13, isI_14, isI_15, isI_16, isI_17, isI_18, isI_19, isI_20, isI_21, isI_22, isI_23, isI_24, isI_25, isI_26, scalar_1, scalar_2, scalar_3, scalar_4, chkS_i, chkS_b, gN_eq, gT_eq, gTL_eq, gsN_nil, gsC_cons, wipeE_nil, wipeE_cons, restE_nil, restE_cons, keepD_n, keepD_d, keepD_l, keepD_x, tYesD_eq, eComp_eq, mComp_eq, compR_ok, compGo_nil, forGo_nil, lp_nx, lp_ct, lp_bk, lp_rt, atI_2, atI_3, atI_4, atI_5, atI_6, atI_7, atI_zero, atI_one, dPow_10_18, beq_self_eq_true, List.map_cons, List.map_nil, List.length_cons, List.length_nil, List.cons_append, List.nil_append, List.set_cons_succ, List.set_cons_zero, List.getElem?_cons_succ, List.getElem?_cons_zero, Option.join_some, Option.map_some, Option.bind_some, List.tail_cons, List.head?_cons, if_true, if_false, Bool.false_eq_true, Bool.true_eq_false, and_true, true_and, List.nodup_cons, List.not_mem_nil, not_false_eq_true, List.nodup_nil, Bool.not_true, Bool.not_false, ite_true, ite_false, Nat.reduceAdd, Nat.reduceSub, Nat.zero_add, List.replicate_zero, List.append_nil, List.mem_cons, Nat.reduceEqDiff, or_false, or_self, reduceIte, decide_true, decide_false, Nat.reduceLeDiff, Nat.reduceLT, Nat.le_refl, idxD_t od i (ho.mem hi)]
      · simp only [Rs.bind_ok, Rs.bind_ex, Rs.bind_no, lift_some, lift_none, thn_nx, thn_rt, thn_bk, thn_ct, thn_ex, thn_no, to_ok, to_ex, to_no, fin_nx, fin_rt, optOut_s, optOut_n, optRs_s, optRs_n, asB_b, chB_b, eVar_eq, slotD_0, slotD_s, slotL_0, slotL_s, slotScr_0, slotScr_s, eC_eq, e2_eq, e1_eq, tb1_eq, tt1_eq, tNotD_eq, tAndD_eq, tOrD_eq, eNot_eq, eAnd_eq, eOr_eq, eIf_eq, eChain_eq, aNil_eq, aCons_eq, aOne_eq, eTup_eq, eLst_eq, mLst_eq, mD_eq, eFrz_eq, frzM_d, frzM_l, eB_eq, eListScr_eq, ixOf_i, eIxO_eq, pNo_eq, pSome_eq, oInt_i, eSlice_eq, eBO_eq, e2R_eq, ttO_eq, eTupO_eq, eListO_eq, eIsi_eq, eListRg_eq, mListRg_eq, eMt_eq, seqOne_l, seqOne_t, mList_eq, itSeq_eq, itB_eq, seqOf_l, seqOf_t, avNil_eq, avD_eq, avS_eq, avMs_nil, avMs_cons, avM_d, avM_sl, jsOf_nil, jsOf_d, jsOf_s, putBack_nil, putBack_d, putBack_s, toRs_rt, callM_eq, eCall_eq, sThen_eq, sE_eq, sNx_eq, sBk_eq, sCt_eq, sNo_eq, sRet_eq, sRetN_eq, sDrop_eq, sIf_eq, sSet_eq, sAsg_eq, sAug_eq, sSetItem_eq, asI_i, setIt_eq, sFor_eq, runDef_eq, start0_eq, outs_nil, outs_cons, rep_succ, mvM_l, mvM_d, alNil_eq, alD_eq, alL_eq, alMs_nil, alMs_cons, alM_d, alM_l, toSc_rt, eCallL_eq, bEnum_l, bEnum_t, eSM_eq, isSq_l, isSq_t, cntD_l, cntD_t, mVar_eq, mvF_l, mvF_d, eVarF_eq, dAdd_ii, dAddI_ii, dSub_ii, dMul_ii, dDiv_ii, dMod_ii, dLt_ii, dLe_ii, dGt_ii, dGe_ii, dNeg_i, dEq_ii, dNe_ii, dEq_bb, dNe_bb, dIs_none, dIsNot_none, isNon_none, isNon_b, isNon_i, isNon_s, isNon_l, isNon_t, tru_b, tru_i, tru_n, tru_l, tru_t, bLen_l, bLen_t, bAbs_i, bInt_i, bInt_b, bSum_l, bSum_t, bAll_l, bAny_l, bTup_l, bTup_t, bList_l, bList_t, bSorted_l, bSorted_t, bMax_ii, bMin_ii, bRange1_i, bZip_l, bZip_t, bZip3_t, dIx_l, dIx_t, dSlice_l, dSlice_t, isI_1, isI_2, isI_3, isI_4, isI_5, isI_6, isI_7, isI_8, isI_9, isI_10, isI_11, isI_12, isI_13, isI_14, isI_15, isI_16, isI_17, isI_18, isI_19, isI_20, isI_21, isI_22, isI_23, isI_24, isI_25, isI_26, scalar_1, scalar_2, scalar_3, scalar_4, chkS_i, chkS_b, gN_eq, gT_eq, gTL_eq, gsN_nil, gsC_cons, wipeE_nil, wipeE_cons, restE_nil, restE_cons, keepD_n, keepD_d, keepD_l, keepD_x, tYesD_eq, eComp_eq, mComp_eq, compR_ok, compGo_nil, forGo_nil, lp_nx, lp_ct, lp_bk, lp_rt, atI_2, atI_3, atI_4, atI_5, atI_6, atI_7, atI_zero, atI_one, dPow_10_18, beq_self_eq_true, List.map_cons, List.map_nil, List.length_cons, List.length_nil, List.cons_append, List.nil_append, List.set_cons_succ, List.set_cons_zero, List.getElem?_cons_succ, List.getElem?_cons_zero, Option.join_some, Option.map_some, Option.bind_some, List.tail_cons, List.head?_cons, if_true, if_false, Bool.false_eq_true, Bool.true_eq_false, and_true, true_and, List.nodup_cons, List.not_mem_nil, not_false_eq_true, List.nodup_nil, Bool.not_true, Bool.not_false, ite_true, ite_false, Nat.reduceAdd, Nat.reduceSub, Nat.zero_add, List.replicate_zero, List.append_nil, List.mem_cons, Nat.reduceEqDiff, or_false, or_self, reduceIte, decide_true, decide_false, Nat.reduceLeDiff, Nat.reduceLT, Nat.le_refl])
  rw [← rangeD_eq, List.filter_eq_self.2 (by simp)] at hc
  have hr : (od.length : Int) ≤ 16777216 ∧ -(2 ^ 62) ≤ (od.length : Int) := by rw [ho.1]; constructor <;> omega
  have hm : ((List.range od.length).map fun i : Nat => PyData.int (od.idxOf (i : Int) : Nat)) = (bk od).map .int := by
    rw [bk, List.map_map]; rfl
  simp only [f__law_back, b__law_back, Rs.bind_ok, Rs.bind_ex, Rs.bind_no, lift_some, lift_none, thn_nx, thn_rt, thn_bk, thn_ct, thn_ex, thn_no, to_ok, to_ex, to_no, fin_nx, fin_rt, optOut_s, optOut_n, optRs_s, optRs_n, asB_b, chB_b, eVar_eq, slotD_0, slotD_s, slotL_0, slotL_s, slotScr_0, slotScr_s, eC_eq, e2_eq, e1_eq, tb1_eq, tt1_eq, tNotD_eq, tAndD_eq, tOrD_eq, eNot_eq, eAnd_eq, eOr_eq, eIf_eq, eChain_eq, aNil_eq, aCons_eq, aOne_eq, eTup_eq, eLst_eq, mLst_eq, mD_eq, eFrz_eq, frzM_d, frzM_l, eB_eq, eListScr_eq, ixOf_i, eIxO_eq, pNo_eq, pSome_eq, oInt_i, eSlice_eq, eBO_eq, e2R_eq, ttO_eq, eTupO_eq, eListO_eq, eIsi_eq, eListRg_eq, mListRg_eq, eMt_eq, seqOne_l, seqOne_t, mList_eq, itSeq_eq, itB_eq, seqOf_l, seqOf_t, avNil_eq, avD_eq, avS_eq, avMs_nil, avMs_cons, avM_d, avM_sl, jsOf_nil, jsOf_d, jsOf_s, putBack_nil, putBack_d, putBack_s, toRs_rt, callM_eq, eCall_eq, sThen_eq, sE_eq, sNx_eq, sBk_eq, sCt_eq, sNo_eq, sRet_eq, sRetN_eq, sDrop_eq, sIf_eq, sSet_eq, sAsg_eq, sAug_eq, sSetItem_eq, asI_i, setIt_eq, sFor_eq, runDef_eq, start0_eq, outs_nil, outs_cons, rep_succ, mvM_l, mvM_d, alNil_eq, alD_eq, alL_eq, alMs_nil, alMs_cons, alM_d, alM_l, toSc_rt, eCallL_eq, bEnum_l, bEnum_t, eSM_eq, isSq_l, isSq_t, cntD_l, cntD_t, mVar_eq, mvF_l, mvF_d, eVarF_eq, dAdd_ii, dAddI_ii, dSub_ii, dMul_ii, dDiv_ii, dMod_ii, dLt_ii, dLe_ii, dGt_ii, dGe_ii, dNeg_i, dEq_ii, dNe_ii, dEq_bb, dNe_bb, dIs_none, dIsNot_none, isNon_none, isNon_b, isNon_i, isNon_s, isNon_l, isNon_t, tru_b, tru_i, tru_n, tru_l, tru_t, bLen_l, bLen_t, bAbs_i, bInt_i, bInt_b, bSum_l, bSum_t, bAll_l, bAny_l, bTup_l, bTup_t, bList_l, bList_t, bSorted_l, bSorted_t, bMax_ii, bMin_ii, bRange1_i, bZip_l, bZip_t, bZip3_t, dIx_l, dIx_t, dSlice_l, dSlice_t, isI_1, isI_2, isI_3, isI_4, isI_5, isI_6, isI_7, isI_8, isI_9, isI_10, isI_11, isI_12, isI_13, isI_14, isI_15, isI_16, isI_17, isI_18, isI_19, isI_20, isI_21, isI_22, isI_23, isI_24, isI_25, isI_26, scalar_1, scalar_2, scalar_3, scalar_4, chkS_i, chkS_b, gN_eq, gT_eq, gTL_eq, gsN_nil, gsC_cons, wipeE_nil, wipeE_cons, restE_nil, restE_cons, keepD_n, keepD_d, keepD_l, keepD_x, tYesD_eq, eComp_eq, mComp_eq, compR_ok, compGo_nil, forGo_nil, lp_nx, lp_ct, lp_bk, lp_rt, atI_2, atI_3, atI_4, atI_5, atI_6, atI_7, atI_zero, atI_one, dPow_10_18, beq_self_eq_true, List.map_cons, List.map_nil, List.length_cons, List.length_nil, List.cons_append, List.nil_append, List.set_cons_succ, List.set_cons_zero, List.getElem?_cons_succ, List.getElem?_cons_zero, Option.join_some, Option.map_some, Option.bind_some, List.tail_cons, List.head?_cons, if_true, if_false, Bool.false_eq_true, Bool.true_eq_false, and_true, true_and, List.nodup_cons, List.not_mem_nil, not_false_eq_true, List.nodup_nil, Bool.not_true, Bool.not_false, ite_true, ite_false, Nat.reduceAdd, Nat.reduceSub, Nat.zero_add, List.replicate_zero, List.append_nil, List.mem_cons, Nat.reduceEqDiff, or_false, or_self, reduceIte, decide_true, decide_false, Nat.reduceLeDiff, Nat.reduceLT, Nat.le_refl, List.length_map, hr, Int.toNat_natCast, hc, hm]
theorem bk_at {od : List Int} {n v : Nat} (h : IsO od n) (hv : v < n) : (bk od)[(od[v]'(by rw [h.1]; exact hv)).toNat]? = some (v : Int) := by
  have hv' : v < od.length := by rw [h.1]; exact hv
  have hb := h.bnd od[v] (List.getElem_mem hv')
  have hlt : od[v].toNat < od.length := by rw [h.1]; omega
  have e : ((od[v].toNat : Nat) : Int) = od[v] := Int.toNat_of_nonneg hb.1
  simp [bk, hlt, e, h.back hv]
theorem idx_back {od : List Int} {n : Nat} (h : IsO od n) {i : Nat} (hi : i < n) : od[od.idxOf (i : Int)]? = some (i : Int) := (idx_first (h.mem hi)).1
theorem bk_isO {od : List Int} {n : Nat} (h : IsO od n) : IsO (bk od) n := by
  have hl : (bk od).length = n := by simp [bk, h.1]
  refine ⟨hl, ?_⟩
  have h1 : bk od = ((List.range n).map fun i : Nat => (i : Int)).map fun k => ((od.idxOf k : Nat) : Int) := by
    rw [bk, h.1, List.map_map]; rfl
  have h2 : (od.map fun k => ((od.idxOf k : Nat) : Int)) = (List.range n).map fun i : Nat => (i : Int) := by
    refine List.ext_getElem (by simp [h.1]) fun v h3 h4 => ?_
    have hv : v < n := by simpa using h4
    simp [h.back hv]
  have h3 := (h.2.map fun k => ((od.idxOf k : Nat) : Int)).symm
  rw [h2] at h3
  rw [h1]
  exact h3
end DCom


namespace DCom
open PySem DL
/-! leavers and enterers of a variant -/
def lev (v : Int) : List Int → List Int → Int
  | x :: xs, y :: ys => (if x = v ∧ y ≠ v then 1 else 0) + lev v xs ys
  | _, _ => 0
theorem lev_nonneg (v : Int) : ∀ a b : List Int, 0 ≤ lev v a b
  | [], _ => by simp [lev]
  | _ :: _, [] => by simp [lev]
  | x :: xs, y :: ys => by
    have := lev_nonneg v xs ys
    rw [lev]
    split <;> omega
/-- before less behind: those that leave less those that enter -/
theorem count_lev (v : Int) : ∀ a b : List Int, a.length = b.length → ((a.count v : Nat) : Int) - ((b.count v : Nat) : Int) = lev v a b - lev v b a
  | [], [], _ => rfl
  | [], _ :: _, h => by simp at h
  | _ :: _, [], h => by simp at h
  | x :: xs, y :: ys, h => by
    have ih := count_lev v xs ys (by simpa using h)
    rw [lev, lev, List.count_cons, List.count_cons]
    by_cases hx : x = v <;> by_cases hy : y = v <;> simp [hx, hy] <;> omega
/-- somebody leaves v -/
theorem lev_pos (v : Int) : ∀ a b : List Int, a.length = b.length → (0 < lev v a b ↔ ∃ k, k < a.length ∧ a.getD k 0 = v ∧ b.getD k 0 ≠ v)
  | [], [], _ => by simp [lev]
  | [], _ :: _, h => by simp at h
  | _ :: _, [], h => by simp at h
  | x :: xs, y :: ys, h => by
    have ih := lev_pos v xs ys (by simpa using h)
    have n := lev_nonneg v xs ys
    rw [lev]
    constructor
    · intro hp
      by_cases hxy : x = v ∧ y ≠ v
      · exact ⟨0, by simp, hxy.1, hxy.2⟩
      · rw [if_neg hxy] at hp
        obtain ⟨k, h1, h2, h3⟩ := ih.1 (by omega)
        exact ⟨k + 1, by simpa using h1, h2, h3⟩
    · rintro ⟨k, h1, h2, h3⟩
      cases k with
      | zero =>
        rw [if_pos ⟨h2, h3⟩]
        omega
      | succ k =>
        have := ih.2 ⟨k, by simpa using h1, h2, h3⟩
        split <;> omega
/-- churn, variant by variant -/
theorem chu_lev (n : Nat) : ∀ a b : List Int, a.length = b.length → (∀ i ∈ a, 0 ≤ i ∧ i < n) → chu a b = ((List.range n).map fun v : Nat => lev v a b).sum
  | [], [], _, _ => by
    have : ∀ m : Nat, ((List.range m).map fun v : Nat => lev v [] []).sum = 0 := fun m => by
      induction m with
      | zero => rfl
      | succ m ih => rw [List.range_succ, List.map_append, List.sum_append, ih]; rfl
    rw [this]
    rfl
  | [], _ :: _, h, _ => by simp at h
  | _ :: _, [], h, _ => by simp at h
  | x :: xs, y :: ys, h, hx => by
    have ih := chu_lev n xs ys (by simpa using h) fun i hi => hx i (List.mem_cons_of_mem _ hi)
    have hb := hx x List.mem_cons_self
    have key : ∀ m : Nat, ((List.range m).map fun v : Nat => lev v (x :: xs) (y :: ys)).sum = (if x < m ∧ x ≠ y then 1 else 0) + ((List.range m).map fun v : Nat => lev v xs ys).sum := fun m => by
      induction m with
      | zero =>
        rw [if_neg (by omega)]
        rfl
      | succ m ihm =>
        rw [List.range_succ, List.map_append, List.map_append, List.sum_append, List.sum_append, ihm]
        simp only [List.map_cons, List.map_nil, List.sum_cons, List.sum_nil, lev]
        by_cases h1 : x = (m : Int)
        · subst h1
          by_cases h2 : y = (m : Int) <;> simp [h2] <;> (try split) <;> omega
        · have e1 : ¬ (x = (m : Int) ∧ y ≠ (m : Int)) := fun z => h1 z.1
          rw [if_neg e1]
          by_cases h2 : x < m ∧ x ≠ y
          · rw [if_pos h2, if_pos ⟨by omega, h2.2⟩]; omega
          · rw [if_neg h2, if_neg (fun z => h2 ⟨by omega, z.2⟩)]; omega
    rw [chu, ih, key n]
    by_cases hxy : x = y
    · rw [if_pos hxy, if_neg (fun z => z.2 hxy)]
    · rw [if_neg hxy, if_pos ⟨hb.2, hxy⟩]
theorem sum_eq_iff (f g : Nat → Int) (n : Nat) (h : ∀ v, v < n → g v ≤ f v) : (((List.range n).map f).sum = ((List.range n).map g).sum ↔ ∀ v, v < n → f v = g v) ∧ ((List.range n).map g).sum ≤ ((List.range n).map f).sum := by
  induction n with
  | zero => exact ⟨⟨fun _ v hv => absurd hv (by omega), fun _ => rfl⟩, Int.le_refl _⟩
  | succ n ih =>
    obtain ⟨i1, i2⟩ := ih fun v hv => h v (by omega)
    have hn := h n (by omega)
    simp only [List.range_succ, List.map_append, List.sum_append, List.map_cons, List.map_nil, List.sum_cons, List.sum_nil]
    refine ⟨⟨fun e v hv => ?_, fun e => ?_⟩, by omega⟩
    · have q : ((List.range n).map f).sum = ((List.range n).map g).sum := by omega
      by_cases hv' : v = n
      · subst hv'; omega
      · exact i1.1 q v (by omega)
    · have q := i1.2 fun v hv => e v (by omega)
      have := e n (by omega)
      omega
theorem trf_lev (a b : List Int) (n : Nat) (h : a.length = b.length) : trf (cnt a n) (cnt b n) = ((List.range n).map fun v : Nat => if lev v a b - lev v b a > 0 then lev v a b - lev v b a else 0).sum := by
  rw [trf_range _ _ (by simp [cnt])]
  have hl : (cnt a n).length = n := by simp [cnt]
  rw [hl]
  refine congrArg _ (List.map_congr_left fun v hv => ?_)
  rw [List.mem_range] at hv
  have e1 : (cnt a n).getD v 0 = ((a.count (v : Int) : Nat) : Int) := by simp [cnt, hv]
  have e2 : (cnt b n).getD v 0 = ((b.count (v : Int) : Nat) : Int) := by simp [cnt, hv]
  rw [e1, e2, count_lev v a b h]
theorem pos_le (L E : Int) (h1 : 0 ≤ L) (h2 : 0 ≤ E) : (if L - E > 0 then L - E else 0) ≤ L := by split <;> omega
theorem pos_eq (L E : Int) (h1 : 0 ≤ L) (h2 : 0 ≤ E) (h : L = 0 ∨ E = 0) : L = if L - E > 0 then L - E else 0 := by split <;> omega
theorem pos_ne (L E : Int) (h1 : 0 ≤ L) (h2 : 0 ≤ E) (h : L = if L - E > 0 then L - E else 0) : L = 0 ∨ E = 0 := by split at h <;> omega
/-- no move is needless exactly if the churn is the transfer -/
theorem min_iff (a b : List Int) (n : Nat) (h : a.length = b.length) (ha : ∀ i ∈ a, 0 ≤ i ∧ i < n) (hb : ∀ i ∈ b, 0 ≤ i ∧ i < n) :
    (∀ k, k < a.length → a.getD k 0 ≠ b.getD k 0 → b.count (a.getD k 0) < a.count (a.getD k 0) ∧ a.count (b.getD k 0) < b.count (b.getD k 0)) ↔ chu a b = trf (cnt a n) (cnt b n) := by
  rw [chu_lev n a b h ha, trf_lev a b n h, (sum_eq_iff (fun v : Nat => lev v a b) (fun v : Nat => if lev v a b - lev v b a > 0 then lev v a b - lev v b a else 0) n fun v _ => by
    exact pos_le _ _ (lev_nonneg v a b) (lev_nonneg v b a)).1]
  constructor
  · intro hk v hv
    have h1 := lev_nonneg v a b
    have h2 := lev_nonneg v b a
    have q : lev v a b = 0 ∨ lev v b a = 0 := by
      refine Classical.byContradiction fun z => ?_
      obtain ⟨k, k1, k2, k3⟩ := (lev_pos v a b h).1 (by omega)
      obtain ⟨j, j1, j2, j3⟩ := (lev_pos v b a h.symm).1 (by omega)
      have z1 := (hk k k1 (by rw [k2]; exact fun e => k3 e.symm)).1
      have z2 := (hk j (by omega) (by rw [j2]; exact j3)).2
      rw [k2] at z1
      rw [j2] at z2
      omega
    exact pos_eq _ _ h1 h2 q
  · intro hv k hk hne
    have hkb : k < b.length := by omega
    have xa : a.getD k 0 ∈ a := by simp [hk]
    have xb : b.getD k 0 ∈ b := by simp [hkb]
    have ba := ha _ xa
    have bb := hb _ xb
    have ea : (((a.getD k 0).toNat : Nat) : Int) = a.getD k 0 := Int.toNat_of_nonneg ba.1
    have eb : (((b.getD k 0).toNat : Nat) : Int) = b.getD k 0 := Int.toNat_of_nonneg bb.1
    have p1 := (lev_pos (a.getD k 0) a b h).2 ⟨k, hk, rfl, fun e => hne e.symm⟩
    have p2 := (lev_pos (b.getD k 0) b a h.symm).2 ⟨k, hkb, rfl, hne⟩
    have v1 := hv (a.getD k 0).toNat (by omega)
    have v2 := hv (b.getD k 0).toNat (by omega)
    simp only [ea, eb] at v1 v2
    have c1 := count_lev (a.getD k 0) a b h
    have c2 := count_lev (b.getD k 0) a b h
    have n1 := lev_nonneg (a.getD k 0) b a
    have n2 := lev_nonneg (b.getD k 0) a b
    have w1 := pos_ne _ _ (Int.le_of_lt p1) n1 v1
    have w2 := pos_ne _ _ n2 (Int.le_of_lt p2) v2
    constructor <;> omega
end DCom


namespace DCon
open PySem DL DCom
def b_intervals : DL.Env → Out :=
  sThen (sSet 2 (mD (eLst (aNil))))
  (sThen (sFor (itSeq (eVar 1)) (gN 3) (sSet 2 (mD (e2 dAdd (eVar 2) (e2 dMul (eLst (aCons (eVar 3) (aNil))) (e2 dIx (eVar 0) (eVar 3)))))))
  (sRet (mD (eB bTup (aCons (eVar 2) (aNil))))))
def f_intervals : Fn := runDef [false, false] 4 b_intervals
def b__law_assignments : DL.Env → Out :=
  sThen (sSet 1 (mD (eLst (aCons (eTup (aNil)) (aNil)))))
  (sThen (sFor (itB bRange1 (aCons (eB bSum (aCons (eVar 0) (aNil))) (aNil))) (gN 2) (sThen (sSet 3 (mLst (aNil)))
    (sThen (sFor (itSeq (eVar 1)) (gN 4) (sFor (itB bRange1 (aCons (eB bLen (aCons (eVar 0) (aNil))) (aNil))) (gN 5) (sIf (tb1 (e2 dLt (eSM cntD (eVar 4) (aCons (eVar 5) (aNil))) (e2 dIx (eVar 0) (eVar 5)))) (sDrop (mD (eMt 3 mApp (aCons (e2 dAdd (eVar 4) (eTup (aCons (eVar 5) (aNil)))) (aNil))))) (sNx))))
    (sSet 1 (mD (eVarF 3))))))
  (sRet (mD (eVar 1))))
def f__law_assignments : Fn := runDef [false] 6 b__law_assignments
def b__law_intervals : DL.Env → Out :=
  sThen (sSet 2 (mD (eTup (aNil))))
  (sThen (sFor (itSeq (eVar 1)) (gN 3) (sSet 2 (mD (e2 dAdd (eVar 2) (e2 dMul (eTup (aCons (eVar 3) (aNil))) (e2 dIx (eVar 0) (eVar 3)))))))
  (sRet (mD (eVar 2))))
def f__law_intervals : Fn := runDef [false, false] 4 b__law_intervals
def b__law_near : DL.Env → Out :=
  sThen (sSet 2 (mList (aCons (eVar 1) (aNil))))
  (sThen (sFor (itB bRange1 (aCons (eFrz (eCall 2 f__law_next (avS 0 (avD (eC (.int 3)) (avNil))))) (aNil))) (gN 3) (sThen (sSet 4 (mD (eFrz (eCall 2 f__law_next (avS 0 (avD (eBO 2 bLen) (avNil)))))))
    (sThen (sSet 5 (mD (eFrz (eCall 2 f__law_next (avS 0 (avD (eBO 2 bLen) (avNil)))))))
    (sIf (tb1 (e2 dGt (eIxO 2 (eVar 4)) (eC (.int 0)))) (sThen (sSetItem 2 (e2 dSub (eIxO 2 (eVar 4)) (eC (.int 1))) (eVar 4))
      (sSetItem 2 (e2 dAdd (eIxO 2 (eVar 5)) (eC (.int 1))) (eVar 5))) (sNx)))))
  (sRet (mD (eTupO 2))))
def f__law_near : Fn := runDef [true, false] 6 b__law_near
def b__law_order : DL.Env → Out :=
  sThen (sSet 2 (mListRg bRange1 (aOne (eVar 1))))
  (sThen (sSet 3 (mLst (aNil)))
  (sThen (sFor (itB bRange1 (aCons (eVar 1) (aNil))) (gN 4) (sDrop (mD (eMt 3 mApp (aCons (eMt 2 mPopAt (aCons (eFrz (eCall 2 f__law_next (avS 0 (avD (eBO 2 bLen) (avNil))))) (aNil))) (aNil))))))
  (sRet (mD (eTupO 3)))))
def f__law_order : Fn := runDef [true, false] 5 b__law_order
def b_check_order : DL.Env → Out :=
  sIf (tNotD (tt1 (eFrz (eCall 2 f_is_order (avD (eVar 0) (avD (eVar 1) (avNil))))))) (sNo) (sNx)
def f_check_order : Fn := runDef [false, false] 2 b_check_order
def b__law_series : DL.Env → Out :=
  sThen (sSet 4 (mLst (aCons (eFrz (eCall 3 f__law_allocation (avS 0 (avD (eVar 1) (avD (eVar 2) (avNil)))))) (aNil))))
  (sThen (sFor (itB bRange1 (aCons (e2 dSub (eVar 3) (eC (.int 1))) (aNil))) (gN 5) (sIf (tb1 (e2 dEq (eFrz (eCall 2 f__law_next (avS 0 (avD (eC (.int 2)) (avNil))))) (eC (.int 1)))) (sDrop (mD (eMt 4 mApp (aCons (eFrz (eCall 2 f__law_near (avS 0 (avD (eIxO 4 (eFrz (eCall 2 f__law_next (avS 0 (avD (eBO 4 bLen) (avNil)))))) (avNil))))) (aNil))))) (sDrop (mD (eMt 4 mApp (aCons (eFrz (eCall 3 f__law_allocation (avS 0 (avD (eVar 1) (avD (eVar 2) (avNil)))))) (aNil)))))))
  (sRet (mD (eTupO 4))))
def f__law_series : Fn := runDef [true, false, false, false] 6 b__law_series
def b_by_intervals : DL.Env → Out :=
  sThen (sDrop (eCall 2 f_check_allocation (avD (eVar 0) (avD (eC (.str "allocation")) (avNil)))))
  (sThen (sDrop (eCall 2 f_check_order (avD (eVar 1) (avD (eB bLen (aCons (eVar 0) (aNil))) (avNil)))))
  (sRet (mD (eFrz (eCall 2 f_intervals (avD (eVar 0) (avD (eVar 1) (avNil))))))))
def f_by_intervals : Fn := runDef [false, false] 2 b_by_intervals
def b_boundaries : DL.Env → Out :=
  sThen (sDrop (eCall 2 f_check_allocation (avD (eVar 0) (avD (eC (.str "allocation")) (avNil)))))
  (sThen (sDrop (eCall 2 f_check_order (avD (eVar 1) (avD (eB bLen (aCons (eVar 0) (aNil))) (avNil)))))
  (sThen (sSet 2 (mLst (aNil)))
  (sThen (sSet 3 (mD (eC (.int 0))))
  (sThen (sFor (itSeq (eSlice (eVar 1) (pNo) (pSome (e1 dNeg (eC (.int 1)))))) (gN 4) (sThen (sSet 3 (mD (e2 dAdd (eVar 3) (e2 dIx (eVar 0) (eVar 4)))))
    (sDrop (mD (eMt 2 mApp (aCons (eVar 3) (aNil)))))))
  (sRet (mD (eTupO 2)))))))
def f_boundaries : Fn := runDef [false, false] 5 b_boundaries
def b__law_two : DL.Env → Out :=
  sThen (sSet 1 (mD (e2 dAdd (eC (.int 1)) (eFrz (eCall 2 f__law_next (avS 0 (avD (eC (.int 5)) (avNil))))))))
  (sThen (sSet 2 (mD (e2 dIx (eLst (aCons (eFrz (eCall 2 f__law_next (avS 0 (avD (eC (.int 8)) (avNil))))) (aCons (eFrz (eCall 2 f__law_next (avS 0 (avD (eC (.int 21)) (avNil))))) (aNil)))) (eFrz (eCall 2 f__law_next (avS 0 (avD (eC (.int 2)) (avNil))))))))
  (sThen (sAsg (eFrz (eCall 4 f__law_series (avS 0 (avD (eVar 1) (avD (eVar 2) (avD (eC (.int 2)) (avNil))))))) (gT 2 (gsC (gN 3) (gsC (gN 4) (gsN)))))
  (sRet (mD (eTup (aCons (eVar 3) (aCons (eVar 4) (aCons (eFrz (eCall 2 f__law_order (avS 0 (avD (eVar 1) (avNil))))) (aNil)))))))))
def f__law_two : Fn := runDef [true] 5 b__law_two
def b_both : DL.Env → Out :=
  sThen (sDrop (eCall 2 f_check_allocation (avD (eVar 0) (avD (eC (.str "first")) (avNil)))))
  (sThen (sDrop (eCall 3 f_check_alike (avD (eVar 1) (avD (eVar 0) (avD (eC (.str "second")) (avNil))))))
  (sThen (sDrop (eCall 2 f_check_order (avD (eVar 2) (avD (eB bLen (aCons (eVar 0) (aNil))) (avNil)))))
  (sRet (mD (eTup (aCons (eFrz (eCall 2 f_intervals (avD (eVar 0) (avD (eVar 2) (avNil))))) (aCons (eFrz (eCall 2 f_intervals (avD (eVar 1) (avD (eVar 2) (avNil))))) (aNil))))))))
def f_both : Fn := runDef [false, false, false] 3 b_both
def b_interval_churn : DL.Env → Out :=
  sThen (sAsg (eFrz (eCall 3 f_both (avD (eVar 0) (avD (eVar 1) (avD (eVar 2) (avNil)))))) (gT 2 (gsC (gN 3) (gsC (gN 4) (gsN)))))
  (sRet (mD (eFrz (eCall 2 f_churn_of (avD (eVar 3) (avD (eVar 4) (avNil)))))))
def f_interval_churn : Fn := runDef [false, false, false] 5 b_interval_churn
def b_waste : DL.Env → Out :=
  sThen (sAsg (eFrz (eCall 3 f_both (avD (eVar 0) (avD (eVar 1) (avD (eVar 2) (avNil)))))) (gT 2 (gsC (gN 3) (gsC (gN 4) (gsN)))))
  (sRet (mD (e2 dSub (eFrz (eCall 2 f_churn_of (avD (eVar 3) (avD (eVar 4) (avNil))))) (eFrz (eCall 2 f_transfer_of (avD (eVar 0) (avD (eVar 1) (avNil))))))))
def f_waste : Fn := runDef [false, false, false] 5 b_waste
end DCon


namespace DCoo
open PySem DL DCom
def b_is_integer : DL.Env → Out :=
  sRet (mD (eAnd (eIsi .int (eVar 0)) (eNot (eIsi .bool (eVar 0)))))
def f_is_integer : Fn := runDef [false] 1 b_is_integer
def b__law_counts : DL.Env → Out :=
  sRet (mD (eB bTup (aCons (eComp (itB bRange1 (aCons (eVar 1) (aNil))) (gN 2) (tYesD) (eB bLen (aCons (eComp (itSeq (eVar 0)) (gN 3) (tb1 (e2 dEq (eVar 3) (eVar 2))) (eVar 3) [3]) (aNil))) [2]) (aNil))))
def f__law_counts : Fn := runDef [false, false] 4 b__law_counts
def b__law_transfer : DL.Env → Out :=
  sRet (mD (eB bSum (aCons (eComp (itB bRange1 (aCons (eB bLen (aCons (eVar 0) (aNil))) (aNil))) (gN 2) (tYesD) (eB bMax (aCons (eC (.int 0)) (aCons (e2 dSub (e2 dIx (eVar 0) (eVar 2)) (e2 dIx (eVar 1) (eVar 2))) (aNil)))) [2]) (aNil))))
def f__law_transfer : Fn := runDef [false, false] 3 b__law_transfer
def b__law_churn : DL.Env → Out :=
  sRet (mD (eB bLen (aCons (eComp (itB bRange1 (aCons (eB bLen (aCons (eVar 0) (aNil))) (aNil))) (gN 2) (tb1 (e2 dNe (e2 dIx (eVar 0) (eVar 2)) (e2 dIx (eVar 1) (eVar 2)))) (eVar 2) [2]) (aNil))))
def f__law_churn : Fn := runDef [false, false] 3 b__law_churn
def b__law_all : DL.Env → Out :=
  sThen (sSet 2 (mD (eLst (aCons (eTup (aNil)) (aNil)))))
  (sThen (sFor (itB bRange1 (aCons (eVar 1) (aNil))) (gN 3) (sThen (sSet 4 (mLst (aNil)))
    (sThen (sFor (itSeq (eVar 2)) (gN 5) (sFor (itB bRange1 (aCons (eVar 0) (aNil))) (gN 6) (sDrop (mD (eMt 4 mApp (aCons (e2 dAdd (eVar 5) (eTup (aCons (eVar 6) (aNil)))) (aNil)))))))
    (sSet 2 (mD (eVarF 4))))))
  (sRet (mD (eVar 2))))
def f__law_all : Fn := runDef [false, false] 7 b__law_all
def b__law_sizes : DL.Env → Out :=
  sRet (mD (e2 dIx (eLst (aCons (eTup (aCons (eC (.int 1)) (aCons (eC (.int 3)) (aNil)))) (aCons (eTup (aCons (eC (.int 2)) (aCons (eC (.int 6)) (aNil)))) (aCons (eTup (aCons (eC (.int 3)) (aCons (eC (.int 5)) (aNil)))) (aCons (eTup (aCons (eC (.int 3)) (aCons (eC (.int 6)) (aNil)))) (aCons (eTup (aCons (eC (.int 4)) (aCons (eC (.int 4)) (aNil)))) (aCons (eTup (aCons (eC (.int 5)) (aCons (eC (.int 4)) (aNil)))) (aCons (eTup (aCons (eC (.int 2)) (aCons (eC (.int 0)) (aNil)))) (aCons (eTup (aCons (eC (.int 3)) (aCons (eC (.int 1)) (aNil)))) (aNil)))))))))) (eFrz (eCall 2 f__law_next (avS 0 (avD (eC (.int 8)) (avNil)))))))
def f__law_sizes : Fn := runDef [true] 1 b__law_sizes
def b__law_least : DL.Env → Out :=
  sThen (sSet 4 (mD (eFrz (eCall 2 f__law_transfer (avD (eFrz (eCall 2 f__law_counts (avD (eVar 2) (avD (eVar 0) (avNil))))) (avD (eVar 3) (avNil)))))))
  (sThen (sSet 5 (mD (eComp (itSeq (eFrz (eCall 2 f__law_all (avD (eVar 0) (avD (eVar 1) (avNil)))))) (gN 6) (tb1 (e2 dEq (eFrz (eCall 2 f__law_counts (avD (eVar 6) (avD (eVar 0) (avNil))))) (eVar 3))) (eVar 6) [6])))
  (sRet (mD (eComp (itSeq (eVar 5)) (gN 6) (tb1 (e2 dEq (eFrz (eCall 2 f__law_churn (avD (eVar 2) (avD (eVar 6) (avNil))))) (eVar 4))) (eVar 6) [6]))))
def f__law_least : Fn := runDef [false, false, false, false] 7 b__law_least
def b_is_some_allocation : DL.Env → Out :=
  sThen (sIf (tOrD (tNotD (tt1 (eIsi .tup (eVar 0)))) (tNotD (tb1 (eChain dLe dLe (eC (.int 1)) (eB bLen (aCons (eVar 0) (aNil))) (eC (.int 5)))))) (sRet (mD (eC (.bool false)))) (sNx))
  (sThen (sIf (tOrD (tNotD (tt1 (eB bAll (aCons (eComp (itSeq (eVar 0)) (gN 1) (tYesD) (eAnd (eFrz (eCall 1 f_is_integer (avD (eVar 1) (avNil)))) (e2 dGe (eVar 1) (eC (.int 0)))) [1]) (aNil))))) (tb1 (e2 dGt (eB bSum (aCons (eVar 0) (aNil))) (eC (.int 20))))) (sRet (mD (eC (.bool false)))) (sNx))
  (sRet (mD (eFrz (eCall 3 f_is_allocation (avD (eVar 0) (avD (eB bLen (aCons (eVar 0) (aNil))) (avD (eB bSum (aCons (eVar 0) (aNil))) (avNil)))))))))
def f_is_some_allocation : Fn := runDef [false] 2 b_is_some_allocation
def b__law_shares : DL.Env → Out :=
  sRet (mD (eFrz (eCall 2 f__law_counts (avD (eFrz (eCall 3 f__law_assignment (avS 0 (avD (eVar 1) (avD (eVar 2) (avNil)))))) (avD (eVar 1) (avNil))))))
def f__law_shares : Fn := runDef [true, false, false] 3 b__law_shares
def b_check_allocation : DL.Env → Out :=
  sIf (tNotD (tt1 (eFrz (eCall 1 f_is_some_allocation (avD (eVar 0) (avNil)))))) (sNo) (sNx)
def f_check_allocation : Fn := runDef [false] 1 b_check_allocation
def b_check_assignment : DL.Env → Out :=
  sIf (tNotD (tt1 (eFrz (eCall 3 f_is_assignment (avD (eVar 1) (avD (eB bLen (aCons (eVar 0) (aNil))) (avD (eB bSum (aCons (eVar 0) (aNil))) (avNil)))))))) (sNo) (sNx)
def f_check_assignment : Fn := runDef [false, false, false] 3 b_check_assignment
def b__law_given : DL.Env → Out :=
  sThen (sAsg (eFrz (eCall 1 f__law_sizes (avS 0 (avNil)))) (gT 2 (gsC (gN 3) (gsC (gN 4) (gsN)))))
  (sThen (sSet 1 (mD (eFrz (eCall 3 f__law_assignment (avS 0 (avD (eVar 3) (avD (eVar 4) (avNil))))))))
  (sThen (sSet 2 (mD (eFrz (eCall 3 f__law_shares (avS 0 (avD (eVar 3) (avD (eVar 4) (avNil))))))))
  (sThen (sIf (tb1 (e2 dEq (eFrz (eCall 2 f__law_next (avS 0 (avD (eC (.int 6)) (avNil))))) (eC (.int 0)))) (sSet 2 (mD (eFrz (eCall 2 f__law_counts (avD (eVar 1) (avD (eVar 3) (avNil))))))) (sNx))
  (sRet (mD (eTup (aCons (eVar 3) (aCons (eVar 4) (aCons (eVar 1) (aCons (eVar 2) (aNil)))))))))))
def f__law_given : Fn := runDef [true] 5 b__law_given
def b_needless_move : DL.Env → Out :=
  sThen (sFor (itB bEnum (aCons (eVar 2) (aNil))) (gT 2 (gsC (gN 4) (gsC (gN 5) (gsN)))) (sThen (sSet 6 (mD (e2 dIx (eVar 3) (eVar 4))))
    (sIf (tb1 (e2 dNe (eVar 5) (eVar 6))) (sThen (sIf (tb1 (e2 dGe (e2 dIx (eVar 1) (eVar 5)) (e2 dIx (eVar 0) (eVar 5)))) (sRet (mD (eTup (aCons (eVar 4) (aCons (eC (.str "leaves")) (aNil)))))) (sNx))
      (sIf (tb1 (e2 dLe (e2 dIx (eVar 1) (eVar 6)) (e2 dIx (eVar 0) (eVar 6)))) (sRet (mD (eTup (aCons (eVar 4) (aCons (eC (.str "enters")) (aNil)))))) (sNx))) (sNx))))
  (sRet (mD (eC (.none))))
def f_needless_move : Fn := runDef [false, false, false, false] 7 b_needless_move
def b_check_variants : DL.Env → Out :=
  sIf (tOrD (tNotD (tt1 (eFrz (eCall 1 f_is_integer (avD (eVar 0) (avNil)))))) (tNotD (tb1 (eChain dLe dLe (eC (.int 1)) (eVar 0) (eC (.int 5)))))) (sNo) (sNx)
def f_check_variants : Fn := runDef [false] 1 b_check_variants
def b_first_needless : DL.Env → Out :=
  sRet (mD (eFrz (eCall 4 f_needless_move (avD (eFrz (eCall 2 f_counts_of (avD (eVar 1) (avD (eVar 0) (avNil))))) (avD (eFrz (eCall 2 f_counts_of (avD (eVar 2) (avD (eVar 0) (avNil))))) (avD (eVar 1) (avD (eVar 2) (avNil))))))))
def f_first_needless : Fn := runDef [false, false, false] 3 b_first_needless
def b_needless : DL.Env → Out :=
  sThen (sDrop (eCall 1 f_check_variants (avD (eVar 0) (avNil))))
  (sThen (sIf (tOrD (tNotD (tt1 (eIsi .tup (eVar 1)))) (tb1 (e2 dGt (eB bLen (aCons (eVar 1) (aNil))) (eC (.int 20))))) (sNo) (sNx))
  (sThen (sIf (tNotD (tt1 (eFrz (eCall 3 f_is_assignment (avD (eVar 1) (avD (eVar 0) (avD (eB bLen (aCons (eVar 1) (aNil))) (avNil)))))))) (sNo) (sNx))
  (sThen (sIf (tNotD (tt1 (eFrz (eCall 3 f_is_assignment (avD (eVar 2) (avD (eVar 0) (avD (eB bLen (aCons (eVar 1) (aNil))) (avNil)))))))) (sNo) (sNx))
  (sRet (mD (eFrz (eCall 3 f_first_needless (avD (eVar 0) (avD (eVar 1) (avD (eVar 2) (avNil)))))))))))
def f_needless : Fn := runDef [false, false, false] 3 b_needless
def b_is_minimal : DL.Env → Out :=
  sRet (mD (e2 dIs (eFrz (eCall 3 f_needless (avD (eVar 0) (avD (eVar 1) (avD (eVar 2) (avNil)))))) (eC (.none))))
def f_is_minimal : Fn := runDef [false, false, false] 3 b_is_minimal
def b__law_due : DL.Env → Out :=
  sThen (sSet 3 (mD (eFrz (eCall 2 f__law_counts (avD (eVar 1) (avD (eVar 0) (avNil)))))))
  (sThen (sSet 4 (mD (eFrz (eCall 2 f__law_counts (avD (eVar 2) (avD (eVar 0) (avNil)))))))
  (sThen (sFor (itB bRange1 (aCons (eB bLen (aCons (eVar 1) (aNil))) (aNil))) (gN 5) (sIf (tb1 (e2 dNe (e2 dIx (eVar 1) (eVar 5)) (e2 dIx (eVar 2) (eVar 5)))) (sThen (sIf (tb1 (e2 dGe (e2 dIx (eVar 4) (e2 dIx (eVar 1) (eVar 5))) (e2 dIx (eVar 3) (e2 dIx (eVar 1) (eVar 5))))) (sRet (mD (eTup (aCons (eVar 5) (aCons (eC (.str "leaves")) (aNil)))))) (sNx))
      (sIf (tb1 (e2 dLe (e2 dIx (eVar 4) (e2 dIx (eVar 2) (eVar 5))) (e2 dIx (eVar 3) (e2 dIx (eVar 2) (eVar 5))))) (sRet (mD (eTup (aCons (eVar 5) (aCons (eC (.str "enters")) (aNil)))))) (sNx))) (sNx)))
  (sRet (mD (eC (.none))))))
def f__law_due : Fn := runDef [false, false, false] 6 b__law_due
end DCoo


namespace DCom
open PySem DL
/-! medians -/
def med (x y z : Int) : Int := if x ≤ y then (if y ≤ z then y else if x ≤ z then z else x) else (if x ≤ z then x else if y ≤ z then z else y)
def meds : List Int → List Int → List Int → List Int
  | x :: xs, y :: ys, z :: zs => med x y z :: meds xs ys zs
  | _, _, _ => []
theorem meds_len : ∀ a b c : List Int, a.length = b.length → a.length = c.length → (meds a b c).length = a.length
  | [], _, _, _, _ => by simp [meds]
  | _ :: _, [], _, h, _ => by simp at h
  | _ :: _, _ :: _, [], _, h => by simp at h
  | x :: a, y :: b, z :: c, h1, h2 => by
    rw [meds, List.length_cons, meds_len a b c (by simpa using h1) (by simpa using h2), List.length_cons]
theorem meds_get : ∀ (a b c : List Int) (v : Nat), a.length = b.length → a.length = c.length → v < a.length → (meds a b c).getD v 0 = med (a.getD v 0) (b.getD v 0) (c.getD v 0)
  | [], _, _, _, _, _, h => by simp at h
  | _ :: _, [], _, _, h, _, _ => by simp at h
  | _ :: _, _ :: _, [], _, _, h, _ => by simp at h
  | x :: a, y :: b, z :: c, 0, _, _, _ => rfl
  | x :: a, y :: b, z :: c, v + 1, h1, h2, h3 => by
    have := meds_get a b c v (by simpa using h1) (by simpa using h2) (by simpa using h3)
    simpa [meds] using this
theorem med_213 (x y z : Int) : med y x z = med x y z := by unfold med; repeat' split <;> omega
theorem med_132 (x y z : Int) : med x z y = med x y z := by unfold med; repeat' split <;> omega
theorem med_two (x y : Int) : med x y x = x := by unfold med; repeat' split <;> omega
theorem meds_213 : ∀ a b c : List Int, meds b a c = meds a b c
  | [], [], _ => rfl
  | [], _ :: _, _ => by simp [meds]
  | _ :: _, [], _ => by simp [meds]
  | _ :: _, _ :: _, [] => by simp [meds]
  | x :: a, y :: b, z :: c => by rw [meds, meds, meds_213 a b c, med_213]
theorem meds_132 : ∀ a b c : List Int, meds a c b = meds a b c
  | [], _, _ => by simp [meds]
  | _ :: _, [], [] => rfl
  | _ :: _, [], _ :: _ => by simp [meds]
  | _ :: _, _ :: _, [] => by simp [meds]
  | x :: a, y :: b, z :: c => by rw [meds, meds, meds_132 a b c, med_132]
theorem meds_two : ∀ a b : List Int, a.length = b.length → meds a b a = a
  | [], [], _ => rfl
  | [], _ :: _, h => by simp at h
  | _ :: _, [], h => by simp at h
  | x :: a, y :: b, h => by rw [meds, meds_two a b (by simpa using h), med_two]
/-- the middle one of three in order -/
theorem sort_mid (x y z : Int) : L2.atI ((sortI [x, y, z]).map PyData.int) 1 = some (.int (med x y z)) := by
  have e : L2.atI ((sortI [x, y, z]).map PyData.int) 1 = ((sortI [x, y, z]).map PyData.int)[1]? := atI_nat _ 1
  rw [e]
  simp only [sortI, insI, med]
  by_cases h1 : y ≤ z <;> by_cases h2 : x ≤ y <;> by_cases h3 : x ≤ z <;> simp [h1, h2, h3, insI] <;> (try omega)
theorem zip3_ints : ∀ a b c : List Int, zip3 (a.map PyData.int) (b.map .int) (c.map .int) = (a.zip (b.zip c)).map fun q => .tuple ([q.1, q.2.1, q.2.2].map .int)
  | [], _, _ => by simp [zip3]
  | _ :: _, [], _ => by simp [zip3]
  | _ :: _, _ :: _, [] => by simp [zip3]
  | x :: a, y :: b, z :: c => by
    simp only [List.map_cons, zip3, zip3_ints a b c, List.zip_cons_cons, List.map_nil]
theorem meds_zip : ∀ a b c : List Int, (a.zip (b.zip c)).map (fun q => PyData.int (med q.1 q.2.1 q.2.2)) = (meds a b c).map .int
  | [], _, _ => by simp [meds]
  | _ :: _, [], _ => by simp [meds]
  | _ :: _, _ :: _, [] => by simp [meds]
  | x :: a, y :: b, z :: c => by simp only [List.zip_cons_cons, List.map_cons, meds_zip a b c, meds]
theorem med_comp (a b c : List Int) : compGo (gN 3) tYesD (e2 dIx (eB bSorted (aCons (eVar 3) (aNil))) (eC (.int 1))) [3] (zip3 (a.map .int) (b.map .int) (c.map .int)) [] [some (.d (.tuple (a.map .int))), some (.d (.tuple (b.map .int))), some (.d (.tuple (c.map .int))), none] =
    .ok ((meds a b c).map .int) [some (.d (.tuple (a.map .int))), some (.d (.tuple (b.map .int))), some (.d (.tuple (c.map .int))), none] := by
  have hc := compGo_map (g := gN 3) (tt := tYesD) (te := e2 dIx (eB bSorted (aCons (eVar 3) (aNil))) (eC (.int 1))) (vs := [3]) (emb := fun q : Int × Int × Int => PyData.tuple ([q.1, q.2.1, q.2.2].map .int))
    (e := [some (.d (.tuple (a.map .int))), some (.d (.tuple (b.map .int))), some (.d (.tuple (c.map .int))), none]) (fun _ => true) (fun q => .int (med q.1 q.2.1 q.2.2)) (a.zip (b.zip c)) [] (fun q _ => by
      refine ⟨[some (.d (.tuple (a.map .int))), some (.d (.tuple (b.map .int))), some (.d (.tuple (c.map .int))), some (.d (.tuple ([q.1, q.2.1, q.2.2].map .int)))], rfl, rfl, fun _ => ?_, ?_⟩
      · have e1 := bSorted_t [q.1, q.2.1, q.2.2]
        have e2' := sort_mid q.1 q.2.1 q.2.2
        simp only [e2_eq, eB_eq, aCons_eq, aNil_eq, eVar_eq, slotD_s, slotD_0, lift_some, Rs.bind_ok, eC_eq, e1, dIx_l, e2']
      · simp only [Rs.bind_ok, Rs.bind_ex, Rs.bind_no, lift_some, lift_none, thn_nx, thn_rt, thn_bk, thn_ct, thn_ex, thn_no, to_ok, to_ex, to_no, fin_nx, fin_rt, optOut_s, optOut_n, optRs_s, optRs_n, asB_b, chB_b, eVar_eq, slotD_0, slotD_s, slotL_0, slotL_s, slotScr_0, slotScr_s, eC_eq, e2_eq, e1_eq, tb1_eq, tt1_eq, tNotD_eq, tAndD_eq, tOrD_eq, eNot_eq, eAnd_eq, eOr_eq, eIf_eq, eChain_eq, aNil_eq, aCons_eq, aOne_eq, eTup_eq, eLst_eq, mLst_eq, mD_eq, eFrz_eq, frzM_d, frzM_l, eB_eq, eListScr_eq, ixOf_i, eIxO_eq, pNo_eq, pSome_eq, oInt_i, eSlice_eq, eBO_eq, e2R_eq, ttO_eq, eTupO_eq, eListO_eq, eIsi_eq, eListRg_eq, mListRg_eq, eMt_eq, seqOne_l, seqOne_t, mList_eq, itSeq_eq, itB_eq, seqOf_l, seqOf_t, avNil_eq, avD_eq, avS_eq, avMs_nil, avMs_cons, avM_d, avM_sl, jsOf_nil, jsOf_d, jsOf_s, putBack_nil, putBack_d, putBack_s, toRs_rt, callM_eq, eCall_eq, sThen_eq, sE_eq, sNx_eq, sBk_eq, sCt_eq, sNo_eq, sRet_eq, sRetN_eq, sDrop_eq, sIf_eq, sSet_eq, sAsg_eq, sAug_eq, sSetItem_eq, asI_i, setIt_eq, sFor_eq, runDef_eq, start0_eq, outs_nil, outs_cons, rep_succ, mvM_l, mvM_d, alNil_eq, alD_eq, alL_eq, alMs_nil, alMs_cons, alM_d, alM_l, toSc_rt, eCallL_eq, bEnum_l, bEnum_t, eSM_eq, isSq_l, isSq_t, cntD_l, cntD_t, mVar_eq, mvF_l, mvF_d, eVarF_eq, dAdd_ii, dAddI_ii, dSub_ii, dMul_ii, dDiv_ii, dMod_ii, dLt_ii, dLe_ii, dGt_ii, dGe_ii, dNeg_i, dEq_ii, dNe_ii, dEq_bb, dNe_bb, dIs_none, dIsNot_none, isNon_none, isNon_b, isNon_i, isNon_s, isNon_l, isNon_t, tru_b, tru_i, tru_n, tru_l, tru_t, bLen_l, bLen_t, bAbs_i, bInt_i, bInt_b, bSum_l, bSum_t, bAll_l, bAny_l, bTup_l, bTup_t, bList_l, bList_t, bSorted_l, bSorted_t, bMax_ii, bMin_ii, bRange1_i, bZip_l, bZip_t, bZip3_t, dIx_l, dIx_t, dSlice_l, dSlice_t, isI_1, isI_2, isI_3, isI_4, isI_5, isI_6, isI_7, isI_8, isI_9, isI_10, isI_11, isI_12, isI_13, isI_14, isI_15, isI_16, isI_17, isI_18, isI_19, isI_20, isI_21, isI_22, isI_23, isI_24, isI_25, isI_26, scalar_1, scalar_2, scalar_3, scalar_4, chkS_i, chkS_b, gN_eq, gT_eq, gTL_eq, gsN_nil, gsC_cons, wipeE_nil, wipeE_cons, restE_nil, restE_cons, keepD_n, keepD_d, keepD_l, keepD_x, tYesD_eq, eComp_eq, mComp_eq, compR_ok, compGo_nil, forGo_nil, lp_nx, lp_ct, lp_bk, lp_rt, atI_2, atI_3, atI_4, atI_5, atI_6, atI_7, atI_zero, atI_one, dPow_10_18, beq_self_eq_true, List.map_cons, List.map_nil, List.length_cons, List.length_nil, List.cons_append, List.nil_append, List.set_cons_succ, List.set_cons_zero, List.getElem?_cons_succ, List.getElem?_cons_zero, Option.join_some, Option.map_some, Option.bind_some, List.tail_cons, List.head?_cons, if_true, if_false, Bool.false_eq_true, Bool.true_eq_false, and_true, true_and, List.nodup_cons, List.not_mem_nil, not_false_eq_true, List.nodup_nil, Bool.not_true, Bool.not_false, ite_true, ite_false, Nat.reduceAdd, Nat.reduceSub, Nat.zero_add, List.replicate_zero, List.append_nil, List.mem_cons, Nat.reduceEqDiff, or_false, or_self, reduceIte, decide_true, decide_false, Nat.reduceLeDiff, Nat.reduceLT, Nat.le_refl])
  have ft : (a.zip (b.zip c)).filter (fun _ => true) = a.zip (b.zip c) := List.filter_eq_self.2 (by simp)
  rw [ft, ← zip3_ints, List.nil_append, meds_zip] at hc
  exact hc
end DCom


namespace Lk03
open PySem DL

abbrev b_is_whole := DCom.b_is_whole
abbrev f_is_whole := DCom.f_is_whole
abbrev b__law_stream := DCom.b__law_stream
abbrev f__law_stream := DCom.f__law_stream
abbrev b__law_next := DCom.b__law_next
abbrev f__law_next := DCom.f__law_next
abbrev b__law_is_integer := DCom.b__law_is_integer
abbrev f__law_is_integer := DCom.f__law_is_integer
def b__law_middle : DL.Env → Out :=
  sThen (sFor (itSeq (eVar 0)) (gN 1) (sIf (tAndD (tb1 (e2 dGe (eB bLen (aCons (eComp (itSeq (eVar 0)) (gN 2) (tb1 (e2 dLe (eVar 2) (eVar 1))) (eVar 2) [2]) (aNil))) (eC (.int 2)))) (tb1 (e2 dGe (eB bLen (aCons (eComp (itSeq (eVar 0)) (gN 2) (tb1 (e2 dGe (eVar 2) (eVar 1))) (eVar 2) [2]) (aNil))) (eC (.int 2))))) (sRet (mD (eVar 1))) (sNx)))
  (sRet (mD (eC (.none))))
def f__law_middle : Fn := runDef [false] 3 b__law_middle
abbrev b_is_between := DCom.b_is_between
abbrev f_is_between := DCom.f_is_between
abbrev b_is_allocation := DCom.b_is_allocation
abbrev f_is_allocation := DCom.f_is_allocation
abbrev b__law_equal := DCom.b__law_equal
abbrev r__law_equal := DCom.r__law_equal
abbrev f__law_equal := DCom.f__law_equal
abbrev b__law_allocation := DCom.b__law_allocation
abbrev f__law_allocation := DCom.f__law_allocation
abbrev b_check_allocation := DCom.b_check_allocation
abbrev f_check_allocation := DCom.f_check_allocation
abbrev b_check_alike := DCom.b_check_alike
abbrev f_check_alike := DCom.f_check_alike
def b_medians : DL.Env → Out :=
  sThen (sDrop (eCall 2 f_check_allocation (avD (eVar 0) (avD (eC (.str "first")) (avNil)))))
  (sThen (sDrop (eCall 3 f_check_alike (avD (eVar 1) (avD (eVar 0) (avD (eC (.str "second")) (avNil))))))
  (sThen (sDrop (eCall 3 f_check_alike (avD (eVar 2) (avD (eVar 0) (avD (eC (.str "third")) (avNil))))))
  (sRet (mD (eB bTup (aCons (eComp (itB bZip3 (aCons (eVar 0) (aCons (eVar 1) (aCons (eVar 2) (aNil))))) (gN 3) (tYesD) (e2 dIx (eB bSorted (aCons (eVar 3) (aNil))) (eC (.int 1))) [3]) (aNil)))))))
def f_medians : Fn := runDef [false, false, false] 4 b_medians
def b_law : DL.Env → Out :=
  sThen (sSet 1 (eCall 1 f__law_stream (avS 0 (avNil))))
  (sThen (sSet 2 (mD (e2 dAdd (eC (.int 1)) (eFrz (eCall 2 f__law_next (avS 1 (avD (eC (.int 5)) (avNil))))))))
  (sThen (sSet 3 (mD (eFrz (eCall 2 f__law_next (avS 1 (avD (eC (.int 21)) (avNil)))))))
  (sThen (sSet 4 (mComp (itB bRange1 (aCons (eC (.int 3)) (aNil))) (gN 8) (tYesD) (eFrz (eCall 3 f__law_allocation (avS 1 (avD (eVar 2) (avD (eVar 3) (avNil)))))) [8]))
  (sThen (sIf (tb1 (e2 dEq (eFrz (eCall 2 f__law_next (avS 1 (avD (eC (.int 4)) (avNil))))) (eC (.int 1)))) (sSetItem 4 (eIxO 4 (eFrz (eCall 2 f__law_next (avS 1 (avD (eC (.int 2)) (avNil)))))) (eC (.int 2))) (sNx))
  (sThen (sSet 5 (mD (eB bTup (aCons (eComp (itB bRange1 (aCons (eVar 2) (aNil))) (gN 8) (tYesD) (eFrz (eCall 1 f__law_middle (avD (eComp (itSeq (eVarF 4)) (gN 9) (tYesD) (e2 dIx (eVar 9) (eVar 8)) [9]) (avNil)))) [8]) (aNil)))))
  (sThen (sSet 6 (mLst (aNil)))
  (sThen (sFor (itSeq (eLst (aCons (eTup (aCons (eC (.int 0)) (aCons (eC (.int 1)) (aCons (eC (.int 2)) (aNil))))) (aCons (eTup (aCons (eC (.int 0)) (aCons (eC (.int 2)) (aCons (eC (.int 1)) (aNil))))) (aCons (eTup (aCons (eC (.int 1)) (aCons (eC (.int 0)) (aCons (eC (.int 2)) (aNil))))) (aCons (eTup (aCons (eC (.int 1)) (aCons (eC (.int 2)) (aCons (eC (.int 0)) (aNil))))) (aCons (eTup (aCons (eC (.int 2)) (aCons (eC (.int 0)) (aCons (eC (.int 1)) (aNil))))) (aCons (eTup (aCons (eC (.int 2)) (aCons (eC (.int 1)) (aCons (eC (.int 0)) (aNil))))) (aNil))))))))) (gN 7) (sDrop (mD (eMt 6 mApp (aCons (eFrz (eCall 3 f_medians (avD (e2 dIx (eVarF 4) (e2 dIx (eVar 7) (eC (.int 0)))) (avD (e2 dIx (eVarF 4) (e2 dIx (eVar 7) (eC (.int 1)))) (avD (e2 dIx (eVarF 4) (e2 dIx (eVar 7) (eC (.int 2)))) (avNil)))))) (aNil))))))
  (sThen (sIf (tNotD (tt1 (eCallL 2 f__law_equal (alL 6 (alD (e2 dMul (eLst (aCons (eVar 5) (aNil))) (eC (.int 6))) (alNil)))))) (sRet (mD (eC (.bool false)))) (sNx))
  (sRet (mD (eFrz (eCall 2 f__law_equal (avD (eLst (aCons (eFrz (eCall 3 f_medians (avD (e2 dIx (eVarF 4) (eC (.int 0))) (avD (e2 dIx (eVarF 4) (eC (.int 1))) (avD (e2 dIx (eVarF 4) (eC (.int 0))) (avNil)))))) (aCons (eFrz (eCall 3 f_medians (avD (e2 dIx (eVarF 4) (eC (.int 1))) (avD (e2 dIx (eVarF 4) (eC (.int 0))) (avD (e2 dIx (eVarF 4) (eC (.int 0))) (avNil)))))) (aNil)))) (avD (eLst (aCons (e2 dIx (eVarF 4) (eC (.int 0))) (aCons (e2 dIx (eVarF 4) (eC (.int 0))) (aNil)))) (avNil)))))))))))))))
def f_law : Fn := runDef [true] 10 b_law
end Lk03


namespace Lk03
open PySem DL DCom
theorem medians_e (a b c : List Int) (ga : Good a) (gb : Good b) (gc : Good c) (h1 : b.length = a.length) (h2 : c.length = a.length) (s1 : b.sum = a.sum) (s2 : c.sum = a.sum) :
    f_medians [.d (.tuple (a.map .int)), .d (.tuple (b.map .int)), .d (.tuple (c.map .int))] = .rt (.d (.tuple ((meds a b c).map .int))) [none, none, none] := by
  have q1 := check_alike_e b a (.str "second") (fun i hi => (gb.2.2.1 i hi).1) h1 s1
  have q2 := check_alike_e c a (.str "third") (fun i hi => (gc.2.2.1 i hi).1) h2 s2
  simp only [f_medians, b_medians, Rs.bind_ok, Rs.bind_ex, Rs.bind_no, lift_some, lift_none, thn_nx, thn_rt, thn_bk, thn_ct, thn_ex, thn_no, to_ok, to_ex, to_no, fin_nx, fin_rt, optOut_s, optOut_n, optRs_s, optRs_n, asB_b, chB_b, eVar_eq, slotD_0, slotD_s, slotL_0, slotL_s, slotScr_0, slotScr_s, eC_eq, e2_eq, e1_eq, tb1_eq, tt1_eq, tNotD_eq, tAndD_eq, tOrD_eq, eNot_eq, eAnd_eq, eOr_eq, eIf_eq, eChain_eq, aNil_eq, aCons_eq, aOne_eq, eTup_eq, eLst_eq, mLst_eq, mD_eq, eFrz_eq, frzM_d, frzM_l, eB_eq, eListScr_eq, ixOf_i, eIxO_eq, pNo_eq, pSome_eq, oInt_i, eSlice_eq, eBO_eq, e2R_eq, ttO_eq, eTupO_eq, eListO_eq, eIsi_eq, eListRg_eq, mListRg_eq, eMt_eq, seqOne_l, seqOne_t, mList_eq, itSeq_eq, itB_eq, seqOf_l, seqOf_t, avNil_eq, avD_eq, avS_eq, avMs_nil, avMs_cons, avM_d, avM_sl, jsOf_nil, jsOf_d, jsOf_s, putBack_nil, putBack_d, putBack_s, toRs_rt, callM_eq, eCall_eq, sThen_eq, sE_eq, sNx_eq, sBk_eq, sCt_eq, sNo_eq, sRet_eq, sRetN_eq, sDrop_eq, sIf_eq, sSet_eq, sAsg_eq, sAug_eq, sSetItem_eq, asI_i, setIt_eq, sFor_eq, runDef_eq, start0_eq, outs_nil, outs_cons, rep_succ, mvM_l, mvM_d, alNil_eq, alD_eq, alL_eq, alMs_nil, alMs_cons, alM_d, alM_l, toSc_rt, eCallL_eq, bEnum_l, bEnum_t, eSM_eq, isSq_l, isSq_t, cntD_l, cntD_t, mVar_eq, mvF_l, mvF_d, eVarF_eq, dAdd_ii, dAddI_ii, dSub_ii, dMul_ii, dDiv_ii, dMod_ii, dLt_ii, dLe_ii, dGt_ii, dGe_ii, dNeg_i, dEq_ii, dNe_ii, dEq_bb, dNe_bb, dIs_none, dIsNot_none, isNon_none, isNon_b, isNon_i, isNon_s, isNon_l, isNon_t, tru_b, tru_i, tru_n, tru_l, tru_t, bLen_l, bLen_t, bAbs_i, bInt_i, bInt_b, bSum_l, bSum_t, bAll_l, bAny_l, bTup_l, bTup_t, bList_l, bList_t, bSorted_l, bSorted_t, bMax_ii, bMin_ii, bRange1_i, bZip_l, bZip_t, bZip3_t, dIx_l, dIx_t, dSlice_l, dSlice_t, isI_1, isI_2, isI_3, isI_4, isI_5, isI_6, isI_7, isI_8, isI_9, isI_10, isI_11, isI_12, isI_13, isI_14, isI_15, isI_16, isI_17, isI_18, isI_19, isI_20, isI_21, isI_22, isI_23, isI_24, isI_25, isI_26, scalar_1, scalar_2, scalar_3, scalar_4, chkS_i, chkS_b, gN_eq, gT_eq, gTL_eq, gsN_nil, gsC_cons, wipeE_nil, wipeE_cons, restE_nil, restE_cons, keepD_n, keepD_d, keepD_l, keepD_x, tYesD_eq, eComp_eq, mComp_eq, compR_ok, compGo_nil, forGo_nil, lp_nx, lp_ct, lp_bk, lp_rt, atI_2, atI_3, atI_4, atI_5, atI_6, atI_7, atI_zero, atI_one, dPow_10_18, beq_self_eq_true, List.map_cons, List.map_nil, List.length_cons, List.length_nil, List.cons_append, List.nil_append, List.set_cons_succ, List.set_cons_zero, List.getElem?_cons_succ, List.getElem?_cons_zero, Option.join_some, Option.map_some, Option.bind_some, List.tail_cons, List.head?_cons, if_true, if_false, Bool.false_eq_true, Bool.true_eq_false, and_true, true_and, List.nodup_cons, List.not_mem_nil, not_false_eq_true, List.nodup_nil, Bool.not_true, Bool.not_false, ite_true, ite_false, Nat.reduceAdd, Nat.reduceSub, Nat.zero_add, List.replicate_zero, List.append_nil, List.mem_cons, Nat.reduceEqDiff, or_false, or_self, reduceIte, decide_true, decide_false, Nat.reduceLeDiff, Nat.reduceLT, Nat.le_refl, check_allocation_e a _ ga, q1, q2, med_comp]
/-- found by counting -/
theorem middle_e (x y z : Int) : f__law_middle [.d (.list ([x, y, z].map .int))] = .rt (.d (.int (med x y z))) [none] := by
  have cnt : ∀ (p : Int → Int → Bool) (f : PyData → PyData → Option PyData) (o : Int) , (∀ i j, f (.int i) (.int j) = some (.bool (p i j))) → compGo (gN 2) (tb1 (e2 f (eVar 2) (eVar 1))) (eVar 2) [2] ([x, y, z].map .int) [] [some (.d (.list ([x, y, z].map .int))), some (.d (.int o)), none] =
      .ok (([x, y, z].filter fun i => p i o).map .int) [some (.d (.list ([x, y, z].map .int))), some (.d (.int o)), none] := fun p f o hf => by
    have hc := compGo_map (g := gN 2) (tt := tb1 (e2 f (eVar 2) (eVar 1))) (te := eVar 2) (vs := [2]) (emb := PyData.int)
      (e := [some (.d (.list ([x, y, z].map .int))), some (.d (.int o)), none]) (fun i => p i o) PyData.int [x, y, z] [] (fun i _ => by
        refine ⟨[some (.d (.list ([x, y, z].map .int))), some (.d (.int o)), some (.d (.int i))], rfl, ?_, fun _ => ?_, ?_⟩
        · simp only [tb1_eq, e2_eq, eVar_eq, slotD_s, slotD_0, lift_some, Rs.bind_ok, hf, asB_b]
        · simp only [eVar_eq, slotD_s, slotD_0, lift_some]
        · simp only [Rs.bind_ok, Rs.bind_ex, Rs.bind_no, lift_some, lift_none, thn_nx, thn_rt, thn_bk, thn_ct, thn_ex, thn_no, to_ok, to_ex, to_no, fin_nx, fin_rt, optOut_s, optOut_n, optRs_s, optRs_n, asB_b, chB_b, eVar_eq, slotD_0, slotD_s, slotL_0, slotL_s, slotScr_0, slotScr_s, eC_eq, e2_eq, e1_eq, tb1_eq, tt1_eq, tNotD_eq, tAndD_eq, tOrD_eq, eNot_eq, eAnd_eq, eOr_eq, eIf_eq, eChain_eq, aNil_eq, aCons_eq, aOne_eq, eTup_eq, eLst_eq, mLst_eq, mD_eq, eFrz_eq, frzM_d, frzM_l, eB_eq, eListScr_eq, ixOf_i, eIxO_eq, pNo_eq, pSome_eq, oInt_i, eSlice_eq, eBO_eq, e2R_eq, ttO_eq, eTupO_eq, eListO_eq, eIsi_eq, eListRg_eq, mListRg_eq, eMt_eq, seqOne_l, seqOne_t, mList_eq, itSeq_eq, itB_eq, seqOf_l, seqOf_t, avNil_eq, avD_eq, avS_eq, avMs_nil, avMs_cons, avM_d, avM_sl, jsOf_nil, jsOf_d, jsOf_s, putBack_nil, putBack_d, putBack_s, toRs_rt, callM_eq, eCall_eq, sThen_eq, sE_eq, sNx_eq, sBk_eq, sCt_eq, sNo_eq, sRet_eq, sRetN_eq, sDrop_eq, sIf_eq, sSet_eq, sAsg_eq, sAug_eq, sSetItem_eq, asI_i, setIt_eq, sFor_eq, runDef_eq, start0_eq, outs_nil, outs_cons, rep_succ, mvM_l, mvM_d, alNil_eq, alD_eq, alL_eq, alMs_nil, alMs_cons, alM_d, alM_l, toSc_rt, eCallL_eq, bEnum_l, bEnum_t, eSM_eq, isSq_l, isSq_t, cntD_l, cntD_t, mVar_eq, mvF_l, mvF_d, eVarF_eq, dAdd_ii, dAddI_ii, dSub_ii, dMul_ii, dDiv_ii, dMod_ii, dLt_ii, dLe_ii, dGt_ii, dGe_ii, dNeg_i, dEq_ii, dNe_ii, dEq_bb, dNe_bb, dIs_none, dIsNot_none, isNon_none, isNon_b, isNon_i, isNon_s, isNon_l, isNon_t, tru_b, tru_i, tru_n, tru_l, tru_t, bLen_l, bLen_t, bAbs_i, bInt_i, bInt_b, bSum_l, bSum_t, bAll_l, bAny_l, bTup_l, bTup_t, bList_l, bList_t, bSorted_l, bSorted_t, bMax_ii, bMin_ii, bRange1_i, bZip_l, bZip_t, bZip3_t, dIx_l, dIx_t, dSlice_l, dSlice_t, isI_1, isI_2, isI_3, isI_4, isI_5, isI_6, isI_7, isI_8, isI_9, isI_10, isI_11, isI_12, isI_13, isI_14, isI_15, isI_16, isI_17, isI_18, isI_19, isI_20, isI_21, isI_22, isI_23, isI_24, isI_25, isI_26, scalar_1, scalar_2, scalar_3, scalar_4, chkS_i, chkS_b, gN_eq, gT_eq, gTL_eq, gsN_nil, gsC_cons, wipeE_nil, wipeE_cons, restE_nil, restE_cons, keepD_n, keepD_d, keepD_l, keepD_x, tYesD_eq, eComp_eq, mComp_eq, compR_ok, compGo_nil, forGo_nil, lp_nx, lp_ct, lp_bk, lp_rt, atI_2, atI_3, atI_4, atI_5, atI_6, atI_7, atI_zero, atI_one, dPow_10_18, beq_self_eq_true, List.map_cons, List.map_nil, List.length_cons, List.length_nil, List.cons_append, List.nil_append, List.set_cons_succ, List.set_cons_zero, List.getElem?_cons_succ, List.getElem?_cons_zero, Option.join_some, Option.map_some, Option.bind_some, List.tail_cons, List.head?_cons, if_true, if_false, Bool.false_eq_true, Bool.true_eq_false, and_true, true_and, List.nodup_cons, List.not_mem_nil, not_false_eq_true, List.nodup_nil, Bool.not_true, Bool.not_false, ite_true, ite_false, Nat.reduceAdd, Nat.reduceSub, Nat.zero_add, List.replicate_zero, List.append_nil, List.mem_cons, Nat.reduceEqDiff, or_false, or_self, reduceIte, decide_true, decide_false, Nat.reduceLeDiff, Nat.reduceLT, Nat.le_refl])
    rw [hc, List.nil_append]
  have c1 := cnt (fun i j => decide (i ≤ j)) dLe
  have c2 := cnt (fun i j => decide (j ≤ i)) dGe
  have turn : ∀ o : Int, ∀ e1 : Option M, ∃ b : Bool, b = (decide (2 ≤ (([x, y, z].filter fun i => decide (i ≤ o)).length : Int)) && decide (2 ≤ (([x, y, z].filter fun i => decide (o ≤ i)).length : Int))) ∧
      sIf (tAndD (tb1 (e2 dGe (eB bLen (aCons (eComp (itSeq (eVar 0)) (gN 2) (tb1 (e2 dLe (eVar 2) (eVar 1))) (eVar 2) [2]) (aNil))) (eC (.int 2)))) (tb1 (e2 dGe (eB bLen (aCons (eComp (itSeq (eVar 0)) (gN 2) (tb1 (e2 dGe (eVar 2) (eVar 1))) (eVar 2) [2]) (aNil))) (eC (.int 2))))) (sRet (mD (eVar 1))) (sNx) [some (.d (.list ([x, y, z].map .int))), some (.d (.int o)), none] =
        if b = true then .rt (.d (.int o)) [some (.d (.list ([x, y, z].map .int))), some (.d (.int o)), none] else .nx [some (.d (.list ([x, y, z].map .int))), some (.d (.int o)), none] := fun o e1 => by
    refine ⟨_, rfl, ?_⟩
    have k1 := c1 o (fun i j => rfl)
    have k2 := c2 o (fun i j => rfl)
    generalize hE : [some (M.d (.list ([x, y, z].map .int))), some (.d (.int o)), none] = E at *
    have sl0 : slotD E 0 = some (.list ([x, y, z].map .int)) := by rw [← hE]; rfl
    have sl1 : slotD E 1 = some (.int o) := by rw [← hE]; rfl
    have wp : wipeE E [2] = E := by rw [← hE]; rfl
    have rs : restE E [2] E = E := by rw [← hE]; rfl
    by_cases h1 : (2 : Int) ≤ (([x, y, z].filter fun i => decide (i ≤ o)).length : Int)
    · have d1 : decide ((2 : Int) ≤ (([x, y, z].filter fun i => decide (i ≤ o)).length : Int)) = true := decide_eq_true h1
      by_cases h2 : (2 : Int) ≤ (([x, y, z].filter fun i => decide (o ≤ i)).length : Int)
      · have d2 : decide ((2 : Int) ≤ (([x, y, z].filter fun i => decide (o ≤ i)).length : Int)) = true := decide_eq_true h2
        simp only [sIf_eq, sE_eq, tAndD_eq, tb1_eq, e2_eq, eB_eq, aCons_eq, aNil_eq, eComp_eq, itSeq_eq, eVar_eq, eC_eq, sl0, sl1, lift_some, Rs.bind_ok, seqOf_l, wp, k1, k2, compR_ok, rs, bLen_l, List.length_map, dGe_ii, asB_b, d1, d2, if_true, to_ok, sRet_eq, mD_eq, Bool.and_self, Bool.true_and]
      · have d2 : decide ((2 : Int) ≤ (([x, y, z].filter fun i => decide (o ≤ i)).length : Int)) = false := decide_eq_false h2
        simp only [sIf_eq, sE_eq, tAndD_eq, tb1_eq, e2_eq, eB_eq, aCons_eq, aNil_eq, eComp_eq, itSeq_eq, eVar_eq, eC_eq, sl0, sl1, lift_some, Rs.bind_ok, seqOf_l, wp, k1, k2, compR_ok, rs, bLen_l, List.length_map, dGe_ii, asB_b, d1, d2, if_true, to_ok, sNx_eq, Bool.and_false, Bool.false_eq_true, if_false]
    · have d1 : decide ((2 : Int) ≤ (([x, y, z].filter fun i => decide (i ≤ o)).length : Int)) = false := decide_eq_false h1
      simp only [sIf_eq, sE_eq, tAndD_eq, tb1_eq, e2_eq, eB_eq, aCons_eq, aNil_eq, eComp_eq, itSeq_eq, eVar_eq, eC_eq, sl0, sl1, lift_some, Rs.bind_ok, seqOf_l, wp, k1, k2, compR_ok, rs, bLen_l, List.length_map, dGe_ii, asB_b, d1, if_true, to_ok, sNx_eq, Bool.false_and, Bool.false_eq_true, if_false]
  obtain ⟨b1, hb1, t1⟩ := turn x none
  obtain ⟨b2, hb2, t2⟩ := turn y none
  obtain ⟨b3, hb3, t3⟩ := turn z none
  have e1 : b1 = true ∧ med x y z = x ∨ b1 = false ∧ b2 = true ∧ med x y z = y ∨ b1 = false ∧ b2 = false ∧ b3 = true ∧ med x y z = z := by
    have f1 : b1 = decide (med x y z = x) := by
      rw [hb1]; unfold med
      by_cases p1 : x ≤ y <;> by_cases p2 : y ≤ z <;> by_cases p3 : x ≤ z <;> by_cases p4 : y ≤ x <;> by_cases p5 : z ≤ y <;> by_cases p6 : z ≤ x <;> simp [p1, p2, p3, p4, p5, p6] <;> omega
    have f2 : b2 = decide (med x y z = y) := by
      rw [hb2]; unfold med
      by_cases p1 : x ≤ y <;> by_cases p2 : y ≤ z <;> by_cases p3 : x ≤ z <;> by_cases p4 : y ≤ x <;> by_cases p5 : z ≤ y <;> by_cases p6 : z ≤ x <;> simp [p1, p2, p3, p4, p5, p6] <;> omega
    have f3 : b3 = decide (med x y z = z) := by
      rw [hb3]; unfold med
      by_cases p1 : x ≤ y <;> by_cases p2 : y ≤ z <;> by_cases p3 : x ≤ z <;> by_cases p4 : y ≤ x <;> by_cases p5 : z ≤ y <;> by_cases p6 : z ≤ x <;> simp [p1, p2, p3, p4, p5, p6] <;> omega
    have any : med x y z = x ∨ med x y z = y ∨ med x y z = z := by
      unfold med
      (repeat' split) <;> simp
    rw [f1, f2, f3]
    by_cases g1 : med x y z = x
    · exact .inl ⟨decide_eq_true g1, g1⟩
    · by_cases g2 : med x y z = y
      · exact .inr (.inl ⟨decide_eq_false g1, decide_eq_true g2, g2⟩)
      · have g3 : med x y z = z := by rcases any with h | h | h <;> first | exact absurd h g1 | exact absurd h g2 | exact h
        exact .inr (.inr ⟨decide_eq_false g1, decide_eq_false g2, decide_eq_true g3, g3⟩)
  have hf : f__law_middle [.d (.list ([x, y, z].map .int))] = Out.fin [false] ((forGo (gN 1) (sIf (tAndD (tb1 (e2 dGe (eB bLen (aCons (eComp (itSeq (eVar 0)) (gN 2) (tb1 (e2 dLe (eVar 2) (eVar 1))) (eVar 2) [2]) (aNil))) (eC (.int 2)))) (tb1 (e2 dGe (eB bLen (aCons (eComp (itSeq (eVar 0)) (gN 2) (tb1 (e2 dGe (eVar 2) (eVar 1))) (eVar 2) [2]) (aNil))) (eC (.int 2))))) (sRet (mD (eVar 1))) (sNx)) ([x, y, z].map .int) [some (.d (.list ([x, y, z].map .int))), none, none]).thn (sRet (mD (eC (.none))))) := rfl
  rw [hf]
  have g : ∀ (i : Int) (o : Option M), gN 1 (.int i) [some (.d (.list ([x, y, z].map .int))), o, none] = some [some (.d (.list ([x, y, z].map .int))), some (.d (.int i)), none] := fun i o => rfl
  rw [show ([x, y, z].map PyData.int) = [.int x, .int y, .int z] from rfl] at *
  rcases e1 with ⟨h1, h2⟩ | ⟨h0, h1, h2⟩ | ⟨h0, h0', h1, h2⟩
  · rw [forGo_cons, g, optOut_s, t1, h1, h2]; rfl
  · rw [forGo_cons, g, optOut_s, t1, h0, if_neg Bool.false_ne_true, lp_nx, forGo_cons, g, optOut_s, t2, h1, h2]; rfl
  · rw [forGo_cons, g, optOut_s, t1, h0, if_neg Bool.false_ne_true, lp_nx, forGo_cons, g, optOut_s, t2, h0', if_neg Bool.false_ne_true, lp_nx, forGo_cons, g, optOut_s, t3, h1, h2]; rfl
def pA : DL.Env → Out := sIf (tb1 (e2 dEq (eFrz (eCall 2 f__law_next (avS 1 (avD (eC (.int 4)) (avNil))))) (eC (.int 1)))) (sSetItem 4 (eIxO 4 (eFrz (eCall 2 f__law_next (avS 1 (avD (eC (.int 2)) (avNil)))))) (eC (.int 2))) (sNx)
abbrev row (a : List Int) : PyData := .tuple (a.map .int)
theorem pA_e (s : Strm) (o0 o2' o3 : Option M) (a b c : List Int) (P : List Int → Prop) (ha : P a) (hb : P b) (hc : P c) : ∃ (s' : Strm) (c' : List Int), pA [o0, some s.m, o2', o3, some (.l [row a, row b, row c]), none, none, none, none, none] = .nx [o0, some (Strm.m s'), o2', o3, some (.l [row a, row b, row c']), none, none, none, none, none] ∧ P c' := by
  obtain ⟨d, s1, e1, d1, d2⟩ := next_ex s 4 (by omega) (by omega)
  by_cases hd : d = 1
  · subst hd
    obtain ⟨q, s2, e2', q1, q2⟩ := next_ex s1 2 (by omega) (by omega)
    have x2 : L2.ixN 3 2 = some 2 := rfl
    have hq : q = 0 ∨ q = 1 := by omega
    rcases hq with rfl | rfl
    · refine ⟨s2, a, ?_, ha⟩
      simp only [pA, Rs.bind_ok, Rs.bind_ex, Rs.bind_no, lift_some, lift_none, thn_nx, thn_rt, thn_bk, thn_ct, thn_ex, thn_no, to_ok, to_ex, to_no, fin_nx, fin_rt, optOut_s, optOut_n, optRs_s, optRs_n, asB_b, chB_b, eVar_eq, slotD_0, slotD_s, slotL_0, slotL_s, slotScr_0, slotScr_s, eC_eq, e2_eq, e1_eq, tb1_eq, tt1_eq, tNotD_eq, tAndD_eq, tOrD_eq, eNot_eq, eAnd_eq, eOr_eq, eIf_eq, eChain_eq, aNil_eq, aCons_eq, aOne_eq, eTup_eq, eLst_eq, mLst_eq, mD_eq, eFrz_eq, frzM_d, frzM_l, eB_eq, eListScr_eq, ixOf_i, eIxO_eq, pNo_eq, pSome_eq, oInt_i, eSlice_eq, eBO_eq, e2R_eq, ttO_eq, eTupO_eq, eListO_eq, eIsi_eq, eListRg_eq, mListRg_eq, eMt_eq, seqOne_l, seqOne_t, mList_eq, itSeq_eq, itB_eq, seqOf_l, seqOf_t, avNil_eq, avD_eq, avS_eq, avMs_nil, avMs_cons, avM_d, avM_sl, jsOf_nil, jsOf_d, jsOf_s, putBack_nil, putBack_d, putBack_s, toRs_rt, callM_eq, eCall_eq, sThen_eq, sE_eq, sNx_eq, sBk_eq, sCt_eq, sNo_eq, sRet_eq, sRetN_eq, sDrop_eq, sIf_eq, sSet_eq, sAsg_eq, sAug_eq, sSetItem_eq, asI_i, setIt_eq, sFor_eq, runDef_eq, start0_eq, outs_nil, outs_cons, rep_succ, mvM_l, mvM_d, alNil_eq, alD_eq, alL_eq, alMs_nil, alMs_cons, alM_d, alM_l, toSc_rt, eCallL_eq, bEnum_l, bEnum_t, eSM_eq, isSq_l, isSq_t, cntD_l, cntD_t, mVar_eq, mvF_l, mvF_d, eVarF_eq, dAdd_ii, dAddI_ii, dSub_ii, dMul_ii, dDiv_ii, dMod_ii, dLt_ii, dLe_ii, dGt_ii, dGe_ii, dNeg_i, dEq_ii, dNe_ii, dEq_bb, dNe_bb, dIs_none, dIsNot_none, isNon_none, isNon_b, isNon_i, isNon_s, isNon_l, isNon_t, tru_b, tru_i, tru_n, tru_l, tru_t, bLen_l, bLen_t, bAbs_i, bInt_i, bInt_b, bSum_l, bSum_t, bAll_l, bAny_l, bTup_l, bTup_t, bList_l, bList_t, bSorted_l, bSorted_t, bMax_ii, bMin_ii, bRange1_i, bZip_l, bZip_t, bZip3_t, dIx_l, dIx_t, dSlice_l, dSlice_t, isI_1, isI_2, isI_3, isI_4, isI_5, isI_6, isI_7, isI_8, isI_9, isI_10, isI_11, isI_12, isI_13, isI_14, isI_15, isI_16, isI_17, isI_18, isI_19, isI_20, isI_21, isI_22, isI_23, isI_24, isI_25, isI_26, scalar_1, scalar_2, scalar_3, scalar_4, chkS_i, chkS_b, gN_eq, gT_eq, gTL_eq, gsN_nil, gsC_cons, wipeE_nil, wipeE_cons, restE_nil, restE_cons, keepD_n, keepD_d, keepD_l, keepD_x, tYesD_eq, eComp_eq, mComp_eq, compR_ok, compGo_nil, forGo_nil, lp_nx, lp_ct, lp_bk, lp_rt, atI_2, atI_3, atI_4, atI_5, atI_6, atI_7, atI_zero, atI_one, dPow_10_18, beq_self_eq_true, List.map_cons, List.map_nil, List.length_cons, List.length_nil, List.cons_append, List.nil_append, List.set_cons_succ, List.set_cons_zero, List.getElem?_cons_succ, List.getElem?_cons_zero, Option.join_some, Option.map_some, Option.bind_some, List.tail_cons, List.head?_cons, if_true, if_false, Bool.false_eq_true, Bool.true_eq_false, and_true, true_and, List.nodup_cons, List.not_mem_nil, not_false_eq_true, List.nodup_nil, Bool.not_true, Bool.not_false, ite_true, ite_false, Nat.reduceAdd, Nat.reduceSub, Nat.zero_add, List.replicate_zero, List.append_nil, List.mem_cons, Nat.reduceEqDiff, or_false, or_self, reduceIte, decide_true, decide_false, Nat.reduceLeDiff, Nat.reduceLT, Nat.le_refl, e1, e2', x2]
    · refine ⟨s2, b, ?_, hb⟩
      simp only [pA, Rs.bind_ok, Rs.bind_ex, Rs.bind_no, lift_some, lift_none, thn_nx, thn_rt, thn_bk, thn_ct, thn_ex, thn_no, to_ok, to_ex, to_no, fin_nx, fin_rt, optOut_s, optOut_n, optRs_s, optRs_n, asB_b, chB_b, eVar_eq, slotD_0, slotD_s, slotL_0, slotL_s, slotScr_0, slotScr_s, eC_eq, e2_eq, e1_eq, tb1_eq, tt1_eq, tNotD_eq, tAndD_eq, tOrD_eq, eNot_eq, eAnd_eq, eOr_eq, eIf_eq, eChain_eq, aNil_eq, aCons_eq, aOne_eq, eTup_eq, eLst_eq, mLst_eq, mD_eq, eFrz_eq, frzM_d, frzM_l, eB_eq, eListScr_eq, ixOf_i, eIxO_eq, pNo_eq, pSome_eq, oInt_i, eSlice_eq, eBO_eq, e2R_eq, ttO_eq, eTupO_eq, eListO_eq, eIsi_eq, eListRg_eq, mListRg_eq, eMt_eq, seqOne_l, seqOne_t, mList_eq, itSeq_eq, itB_eq, seqOf_l, seqOf_t, avNil_eq, avD_eq, avS_eq, avMs_nil, avMs_cons, avM_d, avM_sl, jsOf_nil, jsOf_d, jsOf_s, putBack_nil, putBack_d, putBack_s, toRs_rt, callM_eq, eCall_eq, sThen_eq, sE_eq, sNx_eq, sBk_eq, sCt_eq, sNo_eq, sRet_eq, sRetN_eq, sDrop_eq, sIf_eq, sSet_eq, sAsg_eq, sAug_eq, sSetItem_eq, asI_i, setIt_eq, sFor_eq, runDef_eq, start0_eq, outs_nil, outs_cons, rep_succ, mvM_l, mvM_d, alNil_eq, alD_eq, alL_eq, alMs_nil, alMs_cons, alM_d, alM_l, toSc_rt, eCallL_eq, bEnum_l, bEnum_t, eSM_eq, isSq_l, isSq_t, cntD_l, cntD_t, mVar_eq, mvF_l, mvF_d, eVarF_eq, dAdd_ii, dAddI_ii, dSub_ii, dMul_ii, dDiv_ii, dMod_ii, dLt_ii, dLe_ii, dGt_ii, dGe_ii, dNeg_i, dEq_ii, dNe_ii, dEq_bb, dNe_bb, dIs_none, dIsNot_none, isNon_none, isNon_b, isNon_i, isNon_s, isNon_l, isNon_t, tru_b, tru_i, tru_n, tru_l, tru_t, bLen_l, bLen_t, bAbs_i, bInt_i, bInt_b, bSum_l, bSum_t, bAll_l, bAny_l, bTup_l, bTup_t, bList_l, bList_t, bSorted_l, bSorted_t, bMax_ii, bMin_ii, bRange1_i, bZip_l, bZip_t, bZip3_t, dIx_l, dIx_t, dSlice_l, dSlice_t, isI_1, isI_2, isI_3, isI_4, isI_5, isI_6, isI_7, isI_8, isI_9, isI_10, isI_11, isI_12, isI_13, isI_14, isI_15, isI_16, isI_17, isI_18, isI_19, isI_20, isI_21, isI_22, isI_23, isI_24, isI_25, isI_26, scalar_1, scalar_2, scalar_3, scalar_4, chkS_i, chkS_b, gN_eq, gT_eq, gTL_eq, gsN_nil, gsC_cons, wipeE_nil, wipeE_cons, restE_nil, restE_cons, keepD_n, keepD_d, keepD_l, keepD_x, tYesD_eq, eComp_eq, mComp_eq, compR_ok, compGo_nil, forGo_nil, lp_nx, lp_ct, lp_bk, lp_rt, atI_2, atI_3, atI_4, atI_5, atI_6, atI_7, atI_zero, atI_one, dPow_10_18, beq_self_eq_true, List.map_cons, List.map_nil, List.length_cons, List.length_nil, List.cons_append, List.nil_append, List.set_cons_succ, List.set_cons_zero, List.getElem?_cons_succ, List.getElem?_cons_zero, Option.join_some, Option.map_some, Option.bind_some, List.tail_cons, List.head?_cons, if_true, if_false, Bool.false_eq_true, Bool.true_eq_false, and_true, true_and, List.nodup_cons, List.not_mem_nil, not_false_eq_true, List.nodup_nil, Bool.not_true, Bool.not_false, ite_true, ite_false, Nat.reduceAdd, Nat.reduceSub, Nat.zero_add, List.replicate_zero, List.append_nil, List.mem_cons, Nat.reduceEqDiff, or_false, or_self, reduceIte, decide_true, decide_false, Nat.reduceLeDiff, Nat.reduceLT, Nat.le_refl, e1, e2', x2]
  · refine ⟨s1, c, ?_, hc⟩
    have g : (d == 1) = false := by simpa using hd
    simp only [pA, Rs.bind_ok, Rs.bind_ex, Rs.bind_no, lift_some, lift_none, thn_nx, thn_rt, thn_bk, thn_ct, thn_ex, thn_no, to_ok, to_ex, to_no, fin_nx, fin_rt, optOut_s, optOut_n, optRs_s, optRs_n, asB_b, chB_b, eVar_eq, slotD_0, slotD_s, slotL_0, slotL_s, slotScr_0, slotScr_s, eC_eq, e2_eq, e1_eq, tb1_eq, tt1_eq, tNotD_eq, tAndD_eq, tOrD_eq, eNot_eq, eAnd_eq, eOr_eq, eIf_eq, eChain_eq, aNil_eq, aCons_eq, aOne_eq, eTup_eq, eLst_eq, mLst_eq, mD_eq, eFrz_eq, frzM_d, frzM_l, eB_eq, eListScr_eq, ixOf_i, eIxO_eq, pNo_eq, pSome_eq, oInt_i, eSlice_eq, eBO_eq, e2R_eq, ttO_eq, eTupO_eq, eListO_eq, eIsi_eq, eListRg_eq, mListRg_eq, eMt_eq, seqOne_l, seqOne_t, mList_eq, itSeq_eq, itB_eq, seqOf_l, seqOf_t, avNil_eq, avD_eq, avS_eq, avMs_nil, avMs_cons, avM_d, avM_sl, jsOf_nil, jsOf_d, jsOf_s, putBack_nil, putBack_d, putBack_s, toRs_rt, callM_eq, eCall_eq, sThen_eq, sE_eq, sNx_eq, sBk_eq, sCt_eq, sNo_eq, sRet_eq, sRetN_eq, sDrop_eq, sIf_eq, sSet_eq, sAsg_eq, sAug_eq, sSetItem_eq, asI_i, setIt_eq, sFor_eq, runDef_eq, start0_eq, outs_nil, outs_cons, rep_succ, mvM_l, mvM_d, alNil_eq, alD_eq, alL_eq, alMs_nil, alMs_cons, alM_d, alM_l, toSc_rt, eCallL_eq, bEnum_l, bEnum_t, eSM_eq, isSq_l, isSq_t, cntD_l, cntD_t, mVar_eq, mvF_l, mvF_d, eVarF_eq, dAdd_ii, dAddI_ii, dSub_ii, dMul_ii, dDiv_ii, dMod_ii, dLt_ii, dLe_ii, dGt_ii, dGe_ii, dNeg_i, dEq_ii, dNe_ii, dEq_bb, dNe_bb, dIs_none, dIsNot_none, isNon_none, isNon_b, isNon_i, isNon_s, isNon_l, isNon_t, tru_b, tru_i, tru_n, tru_l, tru_t, bLen_l, bLen_t, bAbs_i, bInt_i, bInt_b, bSum_l, bSum_t, bAll_l, bAny_l, bTup_l, bTup_t, bList_l, bList_t, bSorted_l, bSorted_t, bMax_ii, bMin_ii, bRange1_i, bZip_l, bZip_t, bZip3_t, dIx_l, dIx_t, dSlice_l, dSlice_t, isI_1, isI_2, isI_3, isI_4, isI_5, isI_6, isI_7, isI_8, isI_9, isI_10, isI_11, isI_12, isI_13, isI_14, isI_15, isI_16, isI_17, isI_18, isI_19, isI_20, isI_21, isI_22, isI_23, isI_24, isI_25, isI_26, scalar_1, scalar_2, scalar_3, scalar_4, chkS_i, chkS_b, gN_eq, gT_eq, gTL_eq, gsN_nil, gsC_cons, wipeE_nil, wipeE_cons, restE_nil, restE_cons, keepD_n, keepD_d, keepD_l, keepD_x, tYesD_eq, eComp_eq, mComp_eq, compR_ok, compGo_nil, forGo_nil, lp_nx, lp_ct, lp_bk, lp_rt, atI_2, atI_3, atI_4, atI_5, atI_6, atI_7, atI_zero, atI_one, dPow_10_18, beq_self_eq_true, List.map_cons, List.map_nil, List.length_cons, List.length_nil, List.cons_append, List.nil_append, List.set_cons_succ, List.set_cons_zero, List.getElem?_cons_succ, List.getElem?_cons_zero, Option.join_some, Option.map_some, Option.bind_some, List.tail_cons, List.head?_cons, if_true, if_false, Bool.false_eq_true, Bool.true_eq_false, and_true, true_and, List.nodup_cons, List.not_mem_nil, not_false_eq_true, List.nodup_nil, Bool.not_true, Bool.not_false, ite_true, ite_false, Nat.reduceAdd, Nat.reduceSub, Nat.zero_add, List.replicate_zero, List.append_nil, List.mem_cons, Nat.reduceEqDiff, or_false, or_self, reduceIte, decide_true, decide_false, Nat.reduceLeDiff, Nat.reduceLT, Nat.le_refl, e1, g]
abbrev dueT : DL.Env → Rs PyData := eFrz (eCall 1 f__law_middle (avD (eComp (itSeq (eVarF 4)) (gN 9) (tYesD) (e2 dIx (eVar 9) (eVar 8)) [9]) (avNil)))
theorem due_comp (o0 o1 o2' o3 : Option M) (a b c : List Int) (n : Nat) (hn : 1 ≤ n) (h1 : a.length = n) (h2 : b.length = n) (h3 : c.length = n) :
    compGo (gN 8) tYesD dueT [8] (rangeD 0 n) [] [o0, o1, o2', o3, some (.l [row a, row b, row c]), none, none, none, none, none] = .ok ((meds a b c).map .int) [o0, o1, o2', o3, some (.d (.list [row a, row b, row c])), none, none, none, none, none] := by
  obtain ⟨ys, e', r1, r2, m4, r3, rfl, r4⟩ := compGo_range (g := gN 8) (tt := tYesD) (te := dueT) (vs := [8]) n (fun k acc e => acc = ((List.range k).map fun v => med (a.getD v 0) (b.getD v 0) (c.getD v 0)).map .int ∧ ∃ m4 : M, (m4 = .l [row a, row b, row c] ∨ m4 = .d (.list [row a, row b, row c])) ∧ e = [o0, o1, o2', o3, some m4, none, none, none, none, none] ∧ (1 ≤ k → m4 = .d (.list [row a, row b, row c]))) (by
    rintro k acc e hk ⟨rfl, m4, hm, rfl, _⟩
    have a1 : L2.atI (a.map PyData.int) (k : Int) = some (.int (a.getD k 0)) := by simp [atI_nat, h1, hk]
    have a2 : L2.atI (b.map PyData.int) (k : Int) = some (.int (b.getD k 0)) := by simp [atI_nat, h2, hk]
    have a3 : L2.atI (c.map PyData.int) (k : Int) = some (.int (c.getD k 0)) := by simp [atI_nat, h3, hk]
    have q := middle_e (a.getD k 0) (b.getD k 0) (c.getD k 0)
    simp only [List.map_cons, List.map_nil] at q
    refine ⟨[o0, o1, o2', o3, some m4, none, none, none, some (.d (.int k)), none], .int (med (a.getD k 0) (b.getD k 0) (c.getD k 0)), [o0, o1, o2', o3, some (.d (.list [row a, row b, row c])), none, none, none, some (.d (.int k)), none], rfl, rfl, ?_, ?_, _, .inr rfl, ?_, fun _ => rfl⟩
    · rcases hm with rfl | rfl
      · simp only [dueT, Rs.bind_ok, Rs.bind_ex, Rs.bind_no, lift_some, lift_none, thn_nx, thn_rt, thn_bk, thn_ct, thn_ex, thn_no, to_ok, to_ex, to_no, fin_nx, fin_rt, optOut_s, optOut_n, optRs_s, optRs_n, asB_b, chB_b, eVar_eq, slotD_0, slotD_s, slotL_0, slotL_s, slotScr_0, slotScr_s, eC_eq, e2_eq, e1_eq, tb1_eq, tt1_eq, tNotD_eq, tAndD_eq, tOrD_eq, eNot_eq, eAnd_eq, eOr_eq, eIf_eq, eChain_eq, aNil_eq, aCons_eq, aOne_eq, eTup_eq, eLst_eq, mLst_eq, mD_eq, eFrz_eq, frzM_d, frzM_l, eB_eq, eListScr_eq, ixOf_i, eIxO_eq, pNo_eq, pSome_eq, oInt_i, eSlice_eq, eBO_eq, e2R_eq, ttO_eq, eTupO_eq, eListO_eq, eIsi_eq, eListRg_eq, mListRg_eq, eMt_eq, seqOne_l, seqOne_t, mList_eq, itSeq_eq, itB_eq, seqOf_l, seqOf_t, avNil_eq, avD_eq, avS_eq, avMs_nil, avMs_cons, avM_d, avM_sl, jsOf_nil, jsOf_d, jsOf_s, putBack_nil, putBack_d, putBack_s, toRs_rt, callM_eq, eCall_eq, sThen_eq, sE_eq, sNx_eq, sBk_eq, sCt_eq, sNo_eq, sRet_eq, sRetN_eq, sDrop_eq, sIf_eq, sSet_eq, sAsg_eq, sAug_eq, sSetItem_eq, asI_i, setIt_eq, sFor_eq, runDef_eq, start0_eq, outs_nil, outs_cons, rep_succ, mvM_l, mvM_d, alNil_eq, alD_eq, alL_eq, alMs_nil, alMs_cons, alM_d, alM_l, toSc_rt, eCallL_eq, bEnum_l, bEnum_t, eSM_eq, isSq_l, isSq_t, cntD_l, cntD_t, mVar_eq, mvF_l, mvF_d, eVarF_eq, dAdd_ii, dAddI_ii, dSub_ii, dMul_ii, dDiv_ii, dMod_ii, dLt_ii, dLe_ii, dGt_ii, dGe_ii, dNeg_i, dEq_ii, dNe_ii, dEq_bb, dNe_bb, dIs_none, dIsNot_none, isNon_none, isNon_b, isNon_i, isNon_s, isNon_l, isNon_t, tru_b, tru_i, tru_n, tru_l, tru_t, bLen_l, bLen_t, bAbs_i, bInt_i, bInt_b, bSum_l, bSum_t, bAll_l, bAny_l, bTup_l, bTup_t, bList_l, bList_t, bSorted_l, bSorted_t, bMax_ii, bMin_ii, bRange1_i, bZip_l, bZip_t, bZip3_t, dIx_l, dIx_t, dSlice_l, dSlice_t, isI_1, isI_2, isI_3, isI_4, isI_5, isI_6, isI_7, isI_8, isI_9, isI_10, isI_11, isI_12, isI_13, isI_14, isI_15, isI_16, isI_17, isI_18, isI_19, isI_20, isI_21, isI_22, isI_23, isI_24, isI_25, isI_26, scalar_1, scalar_2, scalar_3, scalar_4, chkS_i, chkS_b, gN_eq, gT_eq, gTL_eq, gsN_nil, gsC_cons, wipeE_nil, wipeE_cons, restE_nil, restE_cons, keepD_n, keepD_d, keepD_l, keepD_x, tYesD_eq, eComp_eq, mComp_eq, compR_ok, compGo_nil, forGo_nil, lp_nx, lp_ct, lp_bk, lp_rt, atI_2, atI_3, atI_4, atI_5, atI_6, atI_7, atI_zero, atI_one, dPow_10_18, beq_self_eq_true, List.map_cons, List.map_nil, List.length_cons, List.length_nil, List.cons_append, List.nil_append, List.set_cons_succ, List.set_cons_zero, List.getElem?_cons_succ, List.getElem?_cons_zero, Option.join_some, Option.map_some, Option.bind_some, List.tail_cons, List.head?_cons, if_true, if_false, Bool.false_eq_true, Bool.true_eq_false, and_true, true_and, List.nodup_cons, List.not_mem_nil, not_false_eq_true, List.nodup_nil, Bool.not_true, Bool.not_false, ite_true, ite_false, Nat.reduceAdd, Nat.reduceSub, Nat.zero_add, List.replicate_zero, List.append_nil, List.mem_cons, Nat.reduceEqDiff, or_false, or_self, reduceIte, decide_true, decide_false, Nat.reduceLeDiff, Nat.reduceLT, Nat.le_refl, compGo_cons, a1, a2, a3, q]
      · simp only [dueT, Rs.bind_ok, Rs.bind_ex, Rs.bind_no, lift_some, lift_none, thn_nx, thn_rt, thn_bk, thn_ct, thn_ex, thn_no, to_ok, to_ex, to_no, fin_nx, fin_rt, optOut_s, optOut_n, optRs_s, optRs_n, asB_b, chB_b, eVar_eq, slotD_0, slotD_s, slotL_0, slotL_s, slotScr_0, slotScr_s, eC_eq, e2_eq, e1_eq, tb1_eq, tt1_eq, tNotD_eq, tAndD_eq, tOrD_eq, eNot_eq, eAnd_eq, eOr_eq, eIf_eq, eChain_eq, aNil_eq, aCons_eq, aOne_eq, eTup_eq, eLst_eq, mLst_eq, mD_eq, eFrz_eq, frzM_d, frzM_l, eB_eq, eListScr_eq, ixOf_i, eIxO_eq, pNo_eq, pSome_eq, oInt_i, eSlice_eq, eBO_eq, e2R_eq, ttO_eq, eTupO_eq, eListO_eq, eIsi_eq, eListRg_eq, mListRg_eq, eMt_eq, seqOne_l, seqOne_t, mList_eq, itSeq_eq, itB_eq, seqOf_l, seqOf_t, avNil_eq, avD_eq, avS_eq, avMs_nil, avMs_cons, avM_d, avM_sl, jsOf_nil, jsOf_d, jsOf_s, putBack_nil, putBack_d, putBack_s, toRs_rt, callM_eq, eCall_eq, sThen_eq, sE_eq, sNx_eq, sBk_eq, sCt_eq, sNo_eq, sRet_eq, sRetN_eq, sDrop_eq, sIf_eq, sSet_eq, sAsg_eq, sAug_eq, sSetItem_eq, asI_i, setIt_eq, sFor_eq, runDef_eq, start0_eq, outs_nil, outs_cons, rep_succ, mvM_l, mvM_d, alNil_eq, alD_eq, alL_eq, alMs_nil, alMs_cons, alM_d, alM_l, toSc_rt, eCallL_eq, bEnum_l, bEnum_t, eSM_eq, isSq_l, isSq_t, cntD_l, cntD_t, mVar_eq, mvF_l, mvF_d, eVarF_eq, dAdd_ii, dAddI_ii, dSub_ii, dMul_ii, dDiv_ii, dMod_ii, dLt_ii, dLe_ii, dGt_ii, dGe_ii, dNeg_i, dEq_ii, dNe_ii, dEq_bb, dNe_bb, dIs_none, dIsNot_none, isNon_none, isNon_b, isNon_i, isNon_s, isNon_l, isNon_t, tru_b, tru_i, tru_n, tru_l, tru_t, bLen_l, bLen_t, bAbs_i, bInt_i, bInt_b, bSum_l, bSum_t, bAll_l, bAny_l, bTup_l, bTup_t, bList_l, bList_t, bSorted_l, bSorted_t, bMax_ii, bMin_ii, bRange1_i, bZip_l, bZip_t, bZip3_t, dIx_l, dIx_t, dSlice_l, dSlice_t, isI_1, isI_2, isI_3, isI_4, isI_5, isI_6, isI_7, isI_8, isI_9, isI_10, isI_11, isI_12, isI_13, isI_14, isI_15, isI_16, isI_17, isI_18, isI_19, isI_20, isI_21, isI_22, isI_23, isI_24, isI_25, isI_26, scalar_1, scalar_2, scalar_3, scalar_4, chkS_i, chkS_b, gN_eq, gT_eq, gTL_eq, gsN_nil, gsC_cons, wipeE_nil, wipeE_cons, restE_nil, restE_cons, keepD_n, keepD_d, keepD_l, keepD_x, tYesD_eq, eComp_eq, mComp_eq, compR_ok, compGo_nil, forGo_nil, lp_nx, lp_ct, lp_bk, lp_rt, atI_2, atI_3, atI_4, atI_5, atI_6, atI_7, atI_zero, atI_one, dPow_10_18, beq_self_eq_true, List.map_cons, List.map_nil, List.length_cons, List.length_nil, List.cons_append, List.nil_append, List.set_cons_succ, List.set_cons_zero, List.getElem?_cons_succ, List.getElem?_cons_zero, Option.join_some, Option.map_some, Option.bind_some, List.tail_cons, List.head?_cons, if_true, if_false, Bool.false_eq_true, Bool.true_eq_false, and_true, true_and, List.nodup_cons, List.not_mem_nil, not_false_eq_true, List.nodup_nil, Bool.not_true, Bool.not_false, ite_true, ite_false, Nat.reduceAdd, Nat.reduceSub, Nat.zero_add, List.replicate_zero, List.append_nil, List.mem_cons, Nat.reduceEqDiff, or_false, or_self, reduceIte, decide_true, decide_false, Nat.reduceLeDiff, Nat.reduceLT, Nat.le_refl, compGo_cons, a1, a2, a3, q]
    · rw [List.range_succ]; simp
    · simp only [Rs.bind_ok, Rs.bind_ex, Rs.bind_no, lift_some, lift_none, thn_nx, thn_rt, thn_bk, thn_ct, thn_ex, thn_no, to_ok, to_ex, to_no, fin_nx, fin_rt, optOut_s, optOut_n, optRs_s, optRs_n, asB_b, chB_b, eVar_eq, slotD_0, slotD_s, slotL_0, slotL_s, slotScr_0, slotScr_s, eC_eq, e2_eq, e1_eq, tb1_eq, tt1_eq, tNotD_eq, tAndD_eq, tOrD_eq, eNot_eq, eAnd_eq, eOr_eq, eIf_eq, eChain_eq, aNil_eq, aCons_eq, aOne_eq, eTup_eq, eLst_eq, mLst_eq, mD_eq, eFrz_eq, frzM_d, frzM_l, eB_eq, eListScr_eq, ixOf_i, eIxO_eq, pNo_eq, pSome_eq, oInt_i, eSlice_eq, eBO_eq, e2R_eq, ttO_eq, eTupO_eq, eListO_eq, eIsi_eq, eListRg_eq, mListRg_eq, eMt_eq, seqOne_l, seqOne_t, mList_eq, itSeq_eq, itB_eq, seqOf_l, seqOf_t, avNil_eq, avD_eq, avS_eq, avMs_nil, avMs_cons, avM_d, avM_sl, jsOf_nil, jsOf_d, jsOf_s, putBack_nil, putBack_d, putBack_s, toRs_rt, callM_eq, eCall_eq, sThen_eq, sE_eq, sNx_eq, sBk_eq, sCt_eq, sNo_eq, sRet_eq, sRetN_eq, sDrop_eq, sIf_eq, sSet_eq, sAsg_eq, sAug_eq, sSetItem_eq, asI_i, setIt_eq, sFor_eq, runDef_eq, start0_eq, outs_nil, outs_cons, rep_succ, mvM_l, mvM_d, alNil_eq, alD_eq, alL_eq, alMs_nil, alMs_cons, alM_d, alM_l, toSc_rt, eCallL_eq, bEnum_l, bEnum_t, eSM_eq, isSq_l, isSq_t, cntD_l, cntD_t, mVar_eq, mvF_l, mvF_d, eVarF_eq, dAdd_ii, dAddI_ii, dSub_ii, dMul_ii, dDiv_ii, dMod_ii, dLt_ii, dLe_ii, dGt_ii, dGe_ii, dNeg_i, dEq_ii, dNe_ii, dEq_bb, dNe_bb, dIs_none, dIsNot_none, isNon_none, isNon_b, isNon_i, isNon_s, isNon_l, isNon_t, tru_b, tru_i, tru_n, tru_l, tru_t, bLen_l, bLen_t, bAbs_i, bInt_i, bInt_b, bSum_l, bSum_t, bAll_l, bAny_l, bTup_l, bTup_t, bList_l, bList_t, bSorted_l, bSorted_t, bMax_ii, bMin_ii, bRange1_i, bZip_l, bZip_t, bZip3_t, dIx_l, dIx_t, dSlice_l, dSlice_t, isI_1, isI_2, isI_3, isI_4, isI_5, isI_6, isI_7, isI_8, isI_9, isI_10, isI_11, isI_12, isI_13, isI_14, isI_15, isI_16, isI_17, isI_18, isI_19, isI_20, isI_21, isI_22, isI_23, isI_24, isI_25, isI_26, scalar_1, scalar_2, scalar_3, scalar_4, chkS_i, chkS_b, gN_eq, gT_eq, gTL_eq, gsN_nil, gsC_cons, wipeE_nil, wipeE_cons, restE_nil, restE_cons, keepD_n, keepD_d, keepD_l, keepD_x, tYesD_eq, eComp_eq, mComp_eq, compR_ok, compGo_nil, forGo_nil, lp_nx, lp_ct, lp_bk, lp_rt, atI_2, atI_3, atI_4, atI_5, atI_6, atI_7, atI_zero, atI_one, dPow_10_18, beq_self_eq_true, List.map_cons, List.map_nil, List.length_cons, List.length_nil, List.cons_append, List.nil_append, List.set_cons_succ, List.set_cons_zero, List.getElem?_cons_succ, List.getElem?_cons_zero, Option.join_some, Option.map_some, Option.bind_some, List.tail_cons, List.head?_cons, if_true, if_false, Bool.false_eq_true, Bool.true_eq_false, and_true, true_and, List.nodup_cons, List.not_mem_nil, not_false_eq_true, List.nodup_nil, Bool.not_true, Bool.not_false, ite_true, ite_false, Nat.reduceAdd, Nat.reduceSub, Nat.zero_add, List.replicate_zero, List.append_nil, List.mem_cons, Nat.reduceEqDiff, or_false, or_self, reduceIte, decide_true, decide_false, Nat.reduceLeDiff, Nat.reduceLT, Nat.le_refl]) [o0, o1, o2', o3, some (.l [row a, row b, row c]), none, none, none, none, none] ⟨rfl, _, .inl rfl, rfl, fun h => absurd h (by omega)⟩
  rw [r1, r2, r4 hn]
  congr 2
  refine List.ext_getElem (by simp [meds_len a b c (by omega) (by omega), h1]) fun v v1 v2 => ?_
  have hv : v < a.length := by rw [meds_len a b c (by omega) (by omega)] at v2; exact v2
  have := meds_get a b c v (by omega) (by omega) hv
  rw [List.getElem_map, List.getElem_range, ← this]
  simp [v2]
theorem unf : f_law = runDef [true] 10 (sThen (sSet 1 (eCall 1 f__law_stream (avS 0 (avNil))))
  (sThen (sSet 2 (mD (e2 dAdd (eC (.int 1)) (eFrz (eCall 2 f__law_next (avS 1 (avD (eC (.int 5)) (avNil))))))))
  (sThen (sSet 3 (mD (eFrz (eCall 2 f__law_next (avS 1 (avD (eC (.int 21)) (avNil)))))))
  (sThen (sSet 4 (mComp (itB bRange1 (aCons (eC (.int 3)) (aNil))) (gN 8) (tYesD) (eFrz (eCall 3 f__law_allocation (avS 1 (avD (eVar 2) (avD (eVar 3) (avNil)))))) [8]))
  (sThen pA
  (sThen (sSet 5 (mD (eB bTup (aCons (eComp (itB bRange1 (aCons (eVar 2) (aNil))) (gN 8) (tYesD) dueT [8]) (aNil)))))
  (sThen (sSet 6 (mLst (aNil)))
  (sThen (sFor (itSeq (eLst (aCons (eTup (aCons (eC (.int 0)) (aCons (eC (.int 1)) (aCons (eC (.int 2)) (aNil))))) (aCons (eTup (aCons (eC (.int 0)) (aCons (eC (.int 2)) (aCons (eC (.int 1)) (aNil))))) (aCons (eTup (aCons (eC (.int 1)) (aCons (eC (.int 0)) (aCons (eC (.int 2)) (aNil))))) (aCons (eTup (aCons (eC (.int 1)) (aCons (eC (.int 2)) (aCons (eC (.int 0)) (aNil))))) (aCons (eTup (aCons (eC (.int 2)) (aCons (eC (.int 0)) (aCons (eC (.int 1)) (aNil))))) (aCons (eTup (aCons (eC (.int 2)) (aCons (eC (.int 1)) (aCons (eC (.int 0)) (aNil))))) (aNil))))))))) (gN 7) (sDrop (mD (eMt 6 mApp (aCons (eFrz (eCall 3 f_medians (avD (e2 dIx (eVarF 4) (e2 dIx (eVar 7) (eC (.int 0)))) (avD (e2 dIx (eVarF 4) (e2 dIx (eVar 7) (eC (.int 1)))) (avD (e2 dIx (eVarF 4) (e2 dIx (eVar 7) (eC (.int 2)))) (avNil)))))) (aNil))))))
  (sThen (sIf (tNotD (tt1 (eCallL 2 f__law_equal (alL 6 (alD (e2 dMul (eLst (aCons (eVar 5) (aNil))) (eC (.int 6))) (alNil)))))) (sRet (mD (eC (.bool false)))) (sNx))
  (sRet (mD (eFrz (eCall 2 f__law_equal (avD (eLst (aCons (eFrz (eCall 3 f_medians (avD (e2 dIx (eVarF 4) (eC (.int 0))) (avD (e2 dIx (eVarF 4) (eC (.int 1))) (avD (e2 dIx (eVarF 4) (eC (.int 0))) (avNil)))))) (aCons (eFrz (eCall 3 f_medians (avD (e2 dIx (eVarF 4) (eC (.int 1))) (avD (e2 dIx (eVarF 4) (eC (.int 0))) (avD (e2 dIx (eVarF 4) (eC (.int 0))) (avNil)))))) (aNil)))) (avD (eLst (aCons (e2 dIx (eVarF 4) (eC (.int 0))) (aCons (e2 dIx (eVarF 4) (eC (.int 0))) (aNil)))) (avNil)))))))))))))))) := rfl
theorem eq_rows (m : List Int) (k : Nat) (hm : m.length ≤ 16777216) (hk : k ≤ 16777216) : f__law_equal [.d (.list (List.replicate k (row m))), .d (.list (List.replicate k (row m)))] = .rt (.d (.bool true)) [none, none] := by
  have hall : ∀ k : Nat, PyData.canLayAll0 (List.replicate k (row m)) = true ∧ PyData.depthAll (List.replicate k (row m)) ≤ 1 := fun k => by
    induction k with
    | zero => exact ⟨rfl, by simp [PyData.depthAll]⟩
    | succ k ih =>
      rw [List.replicate_succ, PyData.canLayAll0, PyData.depthAll, PyData.canLay0, PyData.depth, (lay_ints m).1, (lay_ints m).2, ih.1]
      exact ⟨rfl, by omega⟩
  refine equal_same 8 _ ?_ ?_ ?_ ?_
  · rw [PyData.canLay0]; exact (hall k).1
  · rw [PyData.depth]; have := (hall k).2; omega
  · rw [PyData.depth]; have := (hall k).2; omega
  · refine ⟨by simpa using hk, fun x hx => ?_⟩
    rw [List.eq_of_mem_replicate hx]
    refine ⟨by simpa using hm, fun y hy => ?_⟩
    obtain ⟨i, _, rfl⟩ := List.mem_map.1 hy
    trivial
theorem law_true (ns : List Int) (h : ns.length ≤ 63) : ∃ os, f_law [.scr ns] = .rt (.d (.bool true)) os := by
  obtain ⟨d, s1, e1, d1, d2⟩ := next_ex ⟨ns, 0, 0⟩ 5 (by omega) (by omega)
  obtain ⟨n, s2, e2', n1, n2⟩ := next_ex s1 21 (by omega) (by omega)
  generalize hv : 1 + d = v at *
  obtain ⟨a, s3, e3, a1, a2, a3⟩ := allocation_ex s2 v n (by omega) (by omega) (by omega) (by omega)
  obtain ⟨b, s4, e4, b1, b2, b3⟩ := allocation_ex s3 v n (by omega) (by omega) (by omega) (by omega)
  obtain ⟨c0, s5, e5, c1, c2, c3⟩ := allocation_ex s4 v n (by omega) (by omega) (by omega) (by omega)
  have ga := good_of a1 a2 a3 (by omega) (by omega) (by omega)
  have gb := good_of b1 b2 b3 (by omega) (by omega) (by omega)
  have gc0 := good_of c1 c2 c3 (by omega) (by omega) (by omega)
  obtain ⟨s6, c, e6, gc, lc, sc⟩ := pA_e s5 (some (.scr ns)) (some (.d (.int v))) (some (.d (.int n))) a b c0 (fun x => Good x ∧ (x.length : Int) = v ∧ x.sum = n) ⟨ga, a1, a3⟩ ⟨gb, b1, b3⟩ ⟨gc0, c1, c3⟩
  have q := due_comp (some (.scr ns)) (some s6.m) (some (.d (.int v))) (some (.d (.int n))) a b c v.toNat (by omega) (by omega) (by omega) (by omega)
  have kv : (v ≤ 16777216 ∧ -(2 ^ 62) ≤ v) = True := by simp; omega
  have k3 : ((3 : Int) ≤ 16777216 ∧ -(2 ^ 62) ≤ (3 : Int)) = True := by simp
  have w3 : rangeD 0 (Int.toNat 3) = [.int 0, .int 1, .int 2] := rfl
  have m1 := medians_e a b c ga gb gc (by omega) (by omega) (by omega) (by omega)
  have m2 := medians_e a c b ga gc gb (by omega) (by omega) (by omega) (by omega)
  have m3 := medians_e b a c gb ga gc (by omega) (by omega) (by omega) (by omega)
  have m4 := medians_e b c a gb gc ga (by omega) (by omega) (by omega) (by omega)
  have m5 := medians_e c a b gc ga gb (by omega) (by omega) (by omega) (by omega)
  have m6 := medians_e c b a gc gb ga (by omega) (by omega) (by omega) (by omega)
  have m7 := medians_e a b a ga gb ga (by omega) (by omega) (by omega) (by omega)
  have m8 := medians_e b a a gb ga ga (by omega) (by omega) (by omega) (by omega)
  rw [meds_132 a b c] at m2
  rw [meds_213 a b c] at m3
  rw [meds_132 b a c, meds_213 a b c] at m4
  rw [meds_213 a c b, meds_132 a b c] at m5
  rw [meds_213 b c a, meds_132 b a c, meds_213 a b c] at m6
  rw [meds_two a b (by omega)] at m7
  rw [meds_213 a b a, meds_two a b (by omega)] at m8
  have hm : (meds a b c).length ≤ 16777216 := by rw [meds_len a b c (by omega) (by omega)]; omega
  have p6 := eq_rows (meds a b c) 6 hm (by omega)
  have p2 := eq_rows a 2 (by omega) (by omega)
  have ap : ∀ (xs : List PyData) (y : PyData), xs.length ≤ 6 → mApp xs [y] = some (.none, xs ++ [y]) := fun xs y h => if_pos (by omega)
  have ap0 := fun y => ap [] y (by simp)
  have ap1 := fun x y => ap [x] y (by simp)
  have ap2 := fun x x2 y => ap [x, x2] y (by simp)
  have ap3 := fun x x2 x3 y => ap [x, x2, x3] y (by simp)
  have ap4 := fun x x2 x3 x4 y => ap [x, x2, x3, x4] y (by simp)
  have ap5 := fun x x2 x3 x4 x5 y => ap [x, x2, x3, x4, x5] y (by simp)
  have mul6 : ∀ x : PyData, dMul (.list [x]) (.int 6) = some (.list (List.replicate 6 x)) := fun x => by simp [dMul, List.replicate]
  simp only [List.replicate_succ, List.replicate_zero] at p6 p2 mul6
  refine ⟨[some (M.scr ns)], ?_⟩
  rw [unf]
  simp only [Rs.bind_ok, Rs.bind_ex, Rs.bind_no, lift_some, lift_none, thn_nx, thn_rt, thn_bk, thn_ct, thn_ex, thn_no, to_ok, to_ex, to_no, fin_nx, fin_rt, optOut_s, optOut_n, optRs_s, optRs_n, asB_b, chB_b, eVar_eq, slotD_0, slotD_s, slotL_0, slotL_s, slotScr_0, slotScr_s, eC_eq, e2_eq, e1_eq, tb1_eq, tt1_eq, tNotD_eq, tAndD_eq, tOrD_eq, eNot_eq, eAnd_eq, eOr_eq, eIf_eq, eChain_eq, aNil_eq, aCons_eq, aOne_eq, eTup_eq, eLst_eq, mLst_eq, mD_eq, eFrz_eq, frzM_d, frzM_l, eB_eq, eListScr_eq, ixOf_i, eIxO_eq, pNo_eq, pSome_eq, oInt_i, eSlice_eq, eBO_eq, e2R_eq, ttO_eq, eTupO_eq, eListO_eq, eIsi_eq, eListRg_eq, mListRg_eq, eMt_eq, seqOne_l, seqOne_t, mList_eq, itSeq_eq, itB_eq, seqOf_l, seqOf_t, avNil_eq, avD_eq, avS_eq, avMs_nil, avMs_cons, avM_d, avM_sl, jsOf_nil, jsOf_d, jsOf_s, putBack_nil, putBack_d, putBack_s, toRs_rt, callM_eq, eCall_eq, sThen_eq, sE_eq, sNx_eq, sBk_eq, sCt_eq, sNo_eq, sRet_eq, sRetN_eq, sDrop_eq, sIf_eq, sSet_eq, sAsg_eq, sAug_eq, sSetItem_eq, asI_i, setIt_eq, sFor_eq, runDef_eq, start0_eq, outs_nil, outs_cons, rep_succ, mvM_l, mvM_d, alNil_eq, alD_eq, alL_eq, alMs_nil, alMs_cons, alM_d, alM_l, toSc_rt, eCallL_eq, bEnum_l, bEnum_t, eSM_eq, isSq_l, isSq_t, cntD_l, cntD_t, mVar_eq, mvF_l, mvF_d, eVarF_eq, dAdd_ii, dAddI_ii, dSub_ii, dMul_ii, dDiv_ii, dMod_ii, dLt_ii, dLe_ii, dGt_ii, dGe_ii, dNeg_i, dEq_ii, dNe_ii, dEq_bb, dNe_bb, dIs_none, dIsNot_none, isNon_none, isNon_b, isNon_i, isNon_s, isNon_l, isNon_t, tru_b, tru_i, tru_n, tru_l, tru_t, bLen_l, bLen_t, bAbs_i, bInt_i, bInt_b, bSum_l, bSum_t, bAll_l, bAny_l, bTup_l, bTup_t, bList_l, bList_t, bSorted_l, bSorted_t, bMax_ii, bMin_ii, bRange1_i, bZip_l, bZip_t, bZip3_t, dIx_l, dIx_t, dSlice_l, dSlice_t, isI_1, isI_2, isI_3, isI_4, isI_5, isI_6, isI_7, isI_8, isI_9, isI_10, isI_11, isI_12, isI_13, isI_14, isI_15, isI_16, isI_17, isI_18, isI_19, isI_20, isI_21, isI_22, isI_23, isI_24, isI_25, isI_26, scalar_1, scalar_2, scalar_3, scalar_4, chkS_i, chkS_b, gN_eq, gT_eq, gTL_eq, gsN_nil, gsC_cons, wipeE_nil, wipeE_cons, restE_nil, restE_cons, keepD_n, keepD_d, keepD_l, keepD_x, tYesD_eq, eComp_eq, mComp_eq, compR_ok, compGo_nil, forGo_nil, lp_nx, lp_ct, lp_bk, lp_rt, atI_2, atI_3, atI_4, atI_5, atI_6, atI_7, atI_zero, atI_one, dPow_10_18, beq_self_eq_true, List.map_cons, List.map_nil, List.length_cons, List.length_nil, List.cons_append, List.nil_append, List.set_cons_succ, List.set_cons_zero, List.getElem?_cons_succ, List.getElem?_cons_zero, Option.join_some, Option.map_some, Option.bind_some, List.tail_cons, List.head?_cons, if_true, if_false, Bool.false_eq_true, Bool.true_eq_false, and_true, true_and, List.nodup_cons, List.not_mem_nil, not_false_eq_true, List.nodup_nil, Bool.not_true, Bool.not_false, ite_true, ite_false, Nat.reduceAdd, Nat.reduceSub, Nat.zero_add, List.replicate_zero, List.append_nil, List.mem_cons, Nat.reduceEqDiff, or_false, or_self, reduceIte, decide_true, decide_false, Nat.reduceLeDiff, Nat.reduceLT, Nat.le_refl, stream_e, e1, hv, e2', k3, w3, compGo_cons, e3, e4, e5, e6, kv, q, forGo_cons, m1, m2, m3, m4, m5, m6, m7, m8, ap0, ap1, ap2, ap3, ap4, ap5, mul6, p6, p2]
end Lk03


namespace Lk03
open PySem PySem.Spec PyProof.Rows L2 DL

def topS (i : Nat) : Stmt := PySem.Challenge.pw_leastmoved_k03_medians.main.body.getD i (.Pass ⟨0, 0, 0, 0⟩)
abbrev s_is_whole : Stmt := topS 6
abbrev N_is_whole : List Str := ["value"]
theorem sc_is_whole : FnScope N_is_whole ["value"] (defScope s_is_whole) := ⟨rfl, rfl, rfl, by decide +kernel, rfl, by decide +kernel, by decide +kernel⟩
abbrev s__law_stream : Stmt := topS 13
abbrev N__law_stream : List Str := ["_law_script"]
theorem sc__law_stream : FnScope N__law_stream ["_law_script"] (defScope s__law_stream) := ⟨rfl, rfl, rfl, by decide +kernel, rfl, by decide +kernel, by decide +kernel⟩
abbrev s__law_next : Stmt := topS 14
abbrev N__law_next : List Str := ["_law_stream_here", "_law_many", "_law_digit", "_law_k", "_law_cell"]
theorem sc__law_next : FnScope N__law_next ["_law_stream_here", "_law_many"] (defScope s__law_next) := ⟨rfl, rfl, rfl, by decide +kernel, rfl, by decide +kernel, by decide +kernel⟩
abbrev s__law_is_integer : Stmt := topS 15
abbrev N__law_is_integer : List Str := ["_law_actual"]
theorem sc__law_is_integer : FnScope N__law_is_integer ["_law_actual"] (defScope s__law_is_integer) := ⟨rfl, rfl, rfl, by decide +kernel, rfl, by decide +kernel, by decide +kernel⟩
abbrev s__law_middle : Stmt := topS 18
abbrev N__law_middle : List Str := ["_law_shares", "_law_one", "_law_other"]
theorem sc__law_middle : FnScope N__law_middle ["_law_shares"] (defScope s__law_middle) := ⟨rfl, rfl, rfl, by decide +kernel, rfl, by decide +kernel, by decide +kernel⟩
abbrev s_is_between : Stmt := topS 7
abbrev N_is_between : List Str := ["value", "low", "high"]
theorem sc_is_between : FnScope N_is_between ["value", "low", "high"] (defScope s_is_between) := ⟨rfl, rfl, rfl, by decide +kernel, rfl, by decide +kernel, by decide +kernel⟩
abbrev s_is_allocation : Stmt := topS 8
abbrev N_is_allocation : List Str := ["value", "variants", "buckets", "share"]
theorem sc_is_allocation : FnScope N_is_allocation ["value", "variants", "buckets"] (defScope s_is_allocation) := ⟨rfl, rfl, rfl, by decide +kernel, rfl, by decide +kernel, by decide +kernel⟩
abbrev s__law_equal : Stmt := topS 16
abbrev N__law_equal : List Str := ["_law_actual", "_law_due", "_law_at"]
theorem sc__law_equal : FnScope N__law_equal ["_law_actual", "_law_due"] (defScope s__law_equal) := ⟨rfl, rfl, rfl, by decide +kernel, rfl, by decide +kernel, by decide +kernel⟩
abbrev s__law_allocation : Stmt := topS 17
abbrev N__law_allocation : List Str := ["_law_stream_here", "_law_variants", "_law_buckets", "_law_found", "_law_bucket", "_law_variant"]
theorem sc__law_allocation : FnScope N__law_allocation ["_law_stream_here", "_law_variants", "_law_buckets"] (defScope s__law_allocation) := ⟨rfl, rfl, rfl, by decide +kernel, rfl, by decide +kernel, by decide +kernel⟩
abbrev s_check_allocation : Stmt := topS 9
abbrev N_check_allocation : List Str := ["value", "name", "share"]
theorem sc_check_allocation : FnScope N_check_allocation ["value", "name"] (defScope s_check_allocation) := ⟨rfl, rfl, rfl, by decide +kernel, rfl, by decide +kernel, by decide +kernel⟩
abbrev s_check_alike : Stmt := topS 10
abbrev N_check_alike : List Str := ["value", "first", "name"]
theorem sc_check_alike : FnScope N_check_alike ["value", "first", "name"] (defScope s_check_alike) := ⟨rfl, rfl, rfl, by decide +kernel, rfl, by decide +kernel, by decide +kernel⟩
abbrev s_medians : Stmt := topS 11
abbrev N_medians : List Str := ["first", "second", "third", "shares"]
theorem sc_medians : FnScope N_medians ["first", "second", "third"] (defScope s_medians) := ⟨rfl, rfl, rfl, by decide +kernel, rfl, by decide +kernel, by decide +kernel⟩
abbrev s_law : Stmt := topS 19
abbrev N_law : List Str := ["_law_script", "_law_stream_here", "_law_variants", "_law_buckets", "_law_rows", "_law_due", "_law_told", "_law_order", "_law_k", "_law_row"]
theorem sc_law : FnScope N_law ["_law_script"] (defScope s_law) := ⟨rfl, rfl, rfl, by decide +kernel, rfl, by decide +kernel, by decide +kernel⟩
structure Txt (K : PySem.W.Frag) (mg : Str → Option Value) where
  z_abs : mg "abs" = none
  z_all : mg "all" = none
  z_bool : mg "bool" = none
  z_int : mg "int" = none
  z_isinstance : mg "isinstance" = none
  z_len : mg "len" = none
  z_list : mg "list" = none
  z_range : mg "range" = none
  z_sorted : mg "sorted" = none
  z_str : mg "str" = none
  z_sum : mg "sum" = none
  z_tuple : mg "tuple" = none
  z_zip : mg "zip" = none
  k_MOST_BUCKETS : Kon mg "MOST_BUCKETS" (.int 20)
  k_MOST_VARIANTS : Kon mg "MOST_VARIANTS" (.int 5)
  a_is_whole : Addr
  d_is_whole : FuncData
  F_is_whole : Fun K "is_whole" "is_whole" s_is_whole a_is_whole d_is_whole
  g_is_whole : mg "is_whole" = some (.ref a_is_whole)
  b_is_whole : Binds K d_is_whole ["value"] []
  a__law_stream : Addr
  d__law_stream : FuncData
  F__law_stream : Fun K "_law_stream" "_law_stream" s__law_stream a__law_stream d__law_stream
  g__law_stream : mg "_law_stream" = some (.ref a__law_stream)
  b__law_stream : Binds K d__law_stream ["_law_script"] []
  a__law_next : Addr
  d__law_next : FuncData
  F__law_next : Fun K "_law_next" "_law_next" s__law_next a__law_next d__law_next
  g__law_next : mg "_law_next" = some (.ref a__law_next)
  b__law_next : Binds K d__law_next ["_law_stream_here", "_law_many"] []
  a__law_is_integer : Addr
  d__law_is_integer : FuncData
  F__law_is_integer : Fun K "_law_is_integer" "_law_is_integer" s__law_is_integer a__law_is_integer d__law_is_integer
  g__law_is_integer : mg "_law_is_integer" = some (.ref a__law_is_integer)
  b__law_is_integer : Binds K d__law_is_integer ["_law_actual"] []
  a__law_middle : Addr
  d__law_middle : FuncData
  F__law_middle : Fun K "_law_middle" "_law_middle" s__law_middle a__law_middle d__law_middle
  g__law_middle : mg "_law_middle" = some (.ref a__law_middle)
  b__law_middle : Binds K d__law_middle ["_law_shares"] []
  a_is_between : Addr
  d_is_between : FuncData
  F_is_between : Fun K "is_between" "is_between" s_is_between a_is_between d_is_between
  g_is_between : mg "is_between" = some (.ref a_is_between)
  b_is_between : Binds K d_is_between ["value", "low", "high"] []
  a_is_allocation : Addr
  d_is_allocation : FuncData
  F_is_allocation : Fun K "is_allocation" "is_allocation" s_is_allocation a_is_allocation d_is_allocation
  g_is_allocation : mg "is_allocation" = some (.ref a_is_allocation)
  b_is_allocation : Binds K d_is_allocation ["value", "variants", "buckets"] []
  a__law_equal : Addr
  d__law_equal : FuncData
  F__law_equal : Fun K "_law_equal" "_law_equal" s__law_equal a__law_equal d__law_equal
  g__law_equal : mg "_law_equal" = some (.ref a__law_equal)
  b__law_equal : Binds K d__law_equal ["_law_actual", "_law_due"] []
  a__law_allocation : Addr
  d__law_allocation : FuncData
  F__law_allocation : Fun K "_law_allocation" "_law_allocation" s__law_allocation a__law_allocation d__law_allocation
  g__law_allocation : mg "_law_allocation" = some (.ref a__law_allocation)
  b__law_allocation : Binds K d__law_allocation ["_law_stream_here", "_law_variants", "_law_buckets"] []
  a_check_allocation : Addr
  d_check_allocation : FuncData
  F_check_allocation : Fun K "check_allocation" "check_allocation" s_check_allocation a_check_allocation d_check_allocation
  g_check_allocation : mg "check_allocation" = some (.ref a_check_allocation)
  b_check_allocation : Binds K d_check_allocation ["value", "name"] []
  a_check_alike : Addr
  d_check_alike : FuncData
  F_check_alike : Fun K "check_alike" "check_alike" s_check_alike a_check_alike d_check_alike
  g_check_alike : mg "check_alike" = some (.ref a_check_alike)
  b_check_alike : Binds K d_check_alike ["value", "first", "name"] []
  a_medians : Addr
  d_medians : FuncData
  F_medians : Fun K "medians" "medians" s_medians a_medians d_medians
  g_medians : mg "medians" = some (.ref a_medians)
  b_medians : Binds K d_medians ["first", "second", "third"] []
  a_law : Addr
  d_law : FuncData
  F_law : Fun K "law" "law" s_law a_law d_law
  g_law : mg "law" = some (.ref a_law)
  b_law : Binds K d_law ["_law_script"] []
abbrev cl0 : Str → Option Addr := fun _ => none
section
variable {P : Program} {w : World} {K : PySem.W.Frag} {mg : Str → Option Value} {base : Heap}
set_option maxHeartbeats 4000000 in
theorem ok_is_whole (T : Txt K mg) : FnOk P w K mg base CX0 1 T.a_is_whole T.d_is_whole ["value"] (spD K cl0 1 1 f_is_whole) := by
  have h : FnOk P w K mg base CX0 1 T.a_is_whole T.d_is_whole ["value"] (spD K cl0 N_is_whole.length (["value"] : List Str).length (runDef [false] N_is_whole.length b_is_whole)) := by
    refine fn_d (ios := [false]) (body := b_is_whole) T.F_is_whole sc_is_whole (by decide) (by decide) fun cdv A outer s H vs E hr => ?_
    show DSs _ _ (_ :: _) _
    exact (dss_one (ds_ret (dm_d (de_and (de_isi .int (by rfl) T.z_isinstance bt_isinstance (de_var 0) (by rfl) T.z_int bt_int) (de_one (de_not (de_isi .bool (by rfl) T.z_isinstance bt_isinstance (de_var 0) (by rfl) T.z_bool bt_bool)))))))
  exact h
set_option maxHeartbeats 4000000 in
theorem ok__law_stream (T : Txt K mg) : FnOk P w K mg base CX0 1 T.a__law_stream T.d__law_stream ["_law_script"] (spD K cl0 1 1 f__law_stream) := by
  have h : FnOk P w K mg base CX0 1 T.a__law_stream T.d__law_stream ["_law_script"] (spD K cl0 N__law_stream.length (["_law_script"] : List Str).length (runDef [true] N__law_stream.length b__law_stream)) := by
    refine fn_d (ios := [true]) (body := b__law_stream) T.F__law_stream sc__law_stream (by decide) (by decide) fun cdv A outer s H vs E hr => ?_
    show DSs _ _ (_ :: _) _
    exact (dss_one (ds_ret (dm_lst (da_cons (de_listScr 0 (by rfl) T.z_list bt_list (pa_cons (pv 0) pa_nil)) (da_cons de_int (da_cons de_int da_nil))))))
  exact h
set_option maxHeartbeats 4000000 in
theorem ok__law_next (T : Txt K mg) : FnOk P w K mg base CX0 1 T.a__law_next T.d__law_next ["_law_stream_here", "_law_many"] (spD K cl0 5 2 f__law_next) := by
  have h : FnOk P w K mg base CX0 1 T.a__law_next T.d__law_next ["_law_stream_here", "_law_many"] (spD K cl0 N__law_next.length (["_law_stream_here", "_law_many"] : List Str).length (runDef [true, false] N__law_next.length b__law_next)) := by
    refine fn_d (ios := [true, false]) (body := b__law_next) T.F__law_next sc__law_next (by decide) (by decide) fun cdv A outer s H vs E hr => ?_
    show DSs _ _ (_ :: _) _
    exact (dss_cons (ds_if (dt_cmp (op_eqD hr.units) o2_eq (de_ixO (pv 0) de_int (fun _ _ => rfl)) de_int (nomark _)) (dss_cons (ds_set (dm_d (de_ixO (pv 0) de_int (fun _ _ => rfl))) sc__law_next.nd rfl (Or.inl rfl) rfl)
    (dss_cons (ds_set (dm_d (de_op op_addAll o2_add de_int (de_var 3))) sc__law_next.nd rfl (Or.inl rfl) rfl)
    (dss_cons (ds_if (dt_cmp (op_ltA (hu65 hr)) o2_lt (de_var 3) (de_B call_len ob_len (by rfl) T.z_len bt_len (da_cons (de_ixO (pv 0) de_int (fun _ _ => rfl)) da_nil)) (nomark _)) (dss_one (ds_set (dm_d (de_B call_abs ob_abs (by rfl) T.z_abs bt_abs (da_cons (de_ix (de_ixO (pv 0) de_int (fun _ _ => rfl)) (de_var 3) (fun _ _ => rfl)) da_nil))) sc__law_next.nd rfl (Or.inl rfl) rfl)) dss_nil)
    (dss_cons (ds_if (dt_cmp (op_ltA (hu65 hr)) o2_lt (de_var 4) (de_op op_pow o2_pow de_int de_int) (nomark _)) (dss_cons (ds_set (dm_d (de_op op_mod o2_mod (de_Ty call_int1 ob_int (by rfl) T.z_int bt_int (da_cons (de_op op_addAll o2_add (de_op op_addAll o2_add (de_op op_mulAll o2_mul (de_var 4) de_int) (de_op op_mulAll o2_mul (de_var 3) de_int)) de_int) da_nil)) de_int)) sc__law_next.nd rfl (Or.inl rfl) rfl)
      (dss_one (ds_set (dm_d (de_op op_addAll o2_add (de_op op_mulAll o2_mul (de_op op_mod o2_mod (de_Ty call_int1 ob_int (by rfl) T.z_int bt_int (da_cons (de_op op_addAll o2_add (de_op op_mulAll o2_mul (de_var 4) de_int) de_int) da_nil)) de_int) de_int) (de_var 4))) sc__law_next.nd rfl (Or.inl rfl) rfl))) dss_nil)
    (dss_cons (ds_setItem (de_var 4) (pv 0) de_int)
    (dss_one (ds_setItem (de_op op_addAll o2_add (de_var 3) de_int) (pv 0) de_int))))))) dss_nil)
  (dss_cons (ds_set (dm_d (de_op op_mod o2_mod (de_Ty call_int1 ob_int (by rfl) T.z_int bt_int (da_cons (de_ixO (pv 0) de_int (fun _ _ => rfl)) da_nil)) (de_var 1))) sc__law_next.nd rfl (Or.inl rfl) rfl)
  (dss_cons (ds_setItem (de_op op_fdiv o2_div (de_ixO (pv 0) de_int (fun _ _ => rfl)) (de_var 1)) (pv 0) de_int)
  (dss_one (ds_ret (dm_d (de_var 2)))))))
  exact h
set_option maxHeartbeats 4000000 in
theorem ok__law_is_integer (T : Txt K mg) : FnOk P w K mg base CX0 1 T.a__law_is_integer T.d__law_is_integer ["_law_actual"] (spD K cl0 1 1 f__law_is_integer) := by
  have h : FnOk P w K mg base CX0 1 T.a__law_is_integer T.d__law_is_integer ["_law_actual"] (spD K cl0 N__law_is_integer.length (["_law_actual"] : List Str).length (runDef [false] N__law_is_integer.length b__law_is_integer)) := by
    refine fn_d (ios := [false]) (body := b__law_is_integer) T.F__law_is_integer sc__law_is_integer (by decide) (by decide) fun cdv A outer s H vs E hr => ?_
    show DSs _ _ (_ :: _) _
    exact (dss_one (ds_ret (dm_d (de_and (de_isi .int (by rfl) T.z_isinstance bt_isinstance (de_var 0) (by rfl) T.z_int bt_int) (de_one (de_not (de_isi .bool (by rfl) T.z_isinstance bt_isinstance (de_var 0) (by rfl) T.z_bool bt_bool)))))))
  exact h
set_option maxHeartbeats 4000000 in
theorem ok__law_middle (T : Txt K mg) : FnOk P w K mg base CX0 1 T.a__law_middle T.d__law_middle ["_law_shares"] (spD K cl0 3 1 f__law_middle) := by
  have h : FnOk P w K mg base CX0 1 T.a__law_middle T.d__law_middle ["_law_shares"] (spD K cl0 N__law_middle.length (["_law_shares"] : List Str).length (runDef [false] N__law_middle.length b__law_middle)) := by
    refine fn_d (ios := [false]) (body := b__law_middle) T.F__law_middle sc__law_middle (by decide) (by decide) fun cdv A outer s H vs E hr => ?_
    show DSs _ _ (_ :: _) _
    exact (dss_cons (ds_for PassesOwn.never rfl (di_seq (de_var 0)) (dg_name 1 sc__law_middle.nd rfl (by first | exact Or.inl rfl | exact Or.inr rfl) rfl) (dss_one (ds_if (dt_w (dw_and (dt_cmp op_ge o2_ge (de_B call_len ob_len (by rfl) T.z_len bt_len (da_cons (de_comp rfl sc__law_middle.nd (di_seq (de_var 0)) (blkOk_by (own := [("_law_other", 2)]) (N := N__law_middle) (sc := defScope s__law_middle) (by decide +kernel)) (fun _ _ _ _ _ => (dg_name 2 sc__law_middle.nd rfl (by first | exact Or.inl rfl | exact Or.inr rfl) rfl)) (fun _ _ _ _ _ => (dts_one (dt_cmp op_le o2_le (de_var 2) (de_var 1) (nomark _)))) (fun _ _ _ _ _ => (de_var 2)) (by decide) (ioAll rfl)) da_nil)) de_int (nomark _)) (dw_and1 (dt_cmp op_ge o2_ge (de_B call_len ob_len (by rfl) T.z_len bt_len (da_cons (de_comp rfl sc__law_middle.nd (di_seq (de_var 0)) (blkOk_by (own := [("_law_other", 2)]) (N := N__law_middle) (sc := defScope s__law_middle) (by decide +kernel)) (fun _ _ _ _ _ => (dg_name 2 sc__law_middle.nd rfl (by first | exact Or.inl rfl | exact Or.inr rfl) rfl)) (fun _ _ _ _ _ => (dts_one (dt_cmp op_ge o2_ge (de_var 2) (de_var 1) (nomark _)))) (fun _ _ _ _ _ => (de_var 2)) (by decide) (ioAll rfl)) da_nil)) de_int (nomark _))))) (dss_one (ds_ret (dm_d (de_var 1)))) dss_nil)))
  (dss_one (ds_ret (dm_d de_non))))
  exact h
set_option maxHeartbeats 4000000 in
theorem ok_is_between (T : Txt K mg) : FnOk P w K mg base CX0 2 T.a_is_between T.d_is_between ["value", "low", "high"] (spD K cl0 3 3 f_is_between) := by
  have h : FnOk P w K mg base CX0 2 T.a_is_between T.d_is_between ["value", "low", "high"] (spD K cl0 N_is_between.length (["value", "low", "high"] : List Str).length (runDef [false, false, false] N_is_between.length b_is_between)) := by
    refine fn_d (ios := [false, false, false]) (body := b_is_between) T.F_is_between sc_is_between (by decide) (by decide) fun cdv A outer s H vs E hr => ?_
    show DSs _ _ (_ :: _) _
    exact (dss_one (ds_ret (dm_d (de_and (de_frz (dm_call (ok_is_whole T) (hr.mono (by decide)) (by rfl) T.g_is_whole T.F_is_whole.kp T.b_is_whole (dav_d (de_var 0) dav_nil))) (de_one (de_chain op_le o2_le op_le o2_le (de_var 1) (de_var 0) (de_var 2)))))))
  exact h
set_option maxHeartbeats 4000000 in
theorem ok_is_allocation (T : Txt K mg) : FnOk P w K mg base CX0 2 T.a_is_allocation T.d_is_allocation ["value", "variants", "buckets"] (spD K cl0 4 3 f_is_allocation) := by
  have h : FnOk P w K mg base CX0 2 T.a_is_allocation T.d_is_allocation ["value", "variants", "buckets"] (spD K cl0 N_is_allocation.length (["value", "variants", "buckets"] : List Str).length (runDef [false, false, false] N_is_allocation.length b_is_allocation)) := by
    refine fn_d (ios := [false, false, false]) (body := b_is_allocation) T.F_is_allocation sc_is_allocation (by decide) (by decide) fun cdv A outer s H vs E hr => ?_
    show DSs _ _ (_ :: _) _
    exact (dss_cons (ds_if (dt_w (dw_or (dt_not (dt_truth (de_isi .tup (by rfl) T.z_isinstance bt_isinstance (de_var 0) (by rfl) T.z_tuple bt_tuple))) (dw_or1 (dt_cmp (op_neD hr.units) o2_ne (de_B call_len ob_len (by rfl) T.z_len bt_len (da_cons (de_var 0) da_nil)) (de_var 1) (nomark _))))) (dss_one (ds_ret (dm_d de_bl))) dss_nil)
  (dss_one (ds_ret (dm_d (de_and (de_B (cr_all rfl) ob_all (by rfl) T.z_all bt_all (da_cons (de_comp rfl sc_is_allocation.nd (di_seq (de_var 0)) (blkOk_by (own := [("share", 3)]) (N := N_is_allocation) (sc := defScope s_is_allocation) (by decide +kernel)) (fun _ _ _ _ _ => (dg_name 3 sc_is_allocation.nd rfl (by first | exact Or.inl rfl | exact Or.inr rfl) rfl)) (fun _ _ _ _ _ => dts_nil) (fun _ _ _ _ _ => (de_and (de_frz (dm_call (ok_is_whole T) (hr.mono (by decide)) (by rfl) T.g_is_whole T.F_is_whole.kp T.b_is_whole (dav_d (de_var 3) dav_nil))) (de_one (de_cmp op_ge o2_ge (de_var 3) de_int (nomark _))))) (by decide) (ioAll rfl)) da_nil)) (de_one (de_cmp (op_eqD hr.units) o2_eq (de_B (cr_sumAll rfl) ob_sum (by rfl) T.z_sum bt_sum (da_cons (de_var 0) da_nil)) (de_var 2) (nomark _))))))))
  exact h
set_option maxHeartbeats 4000000 in
theorem rc__law_equal (T : Txt K mg) : ∀ n : Nat, FnOk P w K mg base CX0 (1 + n) T.a__law_equal T.d__law_equal ["_law_actual", "_law_due"] (spD K cl0 3 2 (r__law_equal n))
  | 0 => fn_no
  | n + 1 => by
    have hrec := rc__law_equal T n
    have h : FnOk P w K mg base CX0 ((1 + n) + 1) T.a__law_equal T.d__law_equal ["_law_actual", "_law_due"] (spD K cl0 N__law_equal.length (["_law_actual", "_law_due"] : List Str).length (runDef [false, false] N__law_equal.length (b__law_equal (r__law_equal n)))) := by
      refine fn_d (ios := [false, false]) (body := b__law_equal (r__law_equal n)) T.F__law_equal sc__law_equal (by decide) (by decide) fun cdv A outer s H vs E hr => ?_
      show DSs _ _ (_ :: _) _
      exact (dss_cons (ds_if (dt_cmp op_isAll o2_is (de_var 1) de_non (nomark _)) (dss_one (ds_ret (dm_d (de_cmp op_isAll o2_is (de_var 0) de_non (nomark _))))) dss_nil)
  (dss_cons (ds_if (dt_truth (de_isi .bool (by rfl) T.z_isinstance bt_isinstance (de_var 1) (by rfl) T.z_bool bt_bool)) (dss_one (ds_ret (dm_d (de_and (de_isi .bool (by rfl) T.z_isinstance bt_isinstance (de_var 0) (by rfl) T.z_bool bt_bool) (de_one (de_cmp (op_eqD hr.units) o2_eq (de_var 0) (de_var 1) (nomark _))))))) dss_nil)
  (dss_cons (ds_if (dt_truth (de_isi .int (by rfl) T.z_isinstance bt_isinstance (de_var 1) (by rfl) T.z_int bt_int)) (dss_one (ds_ret (dm_d (de_and (de_frz (dm_call (ok__law_is_integer T) (hr.mono (by omega)) (by rfl) T.g__law_is_integer T.F__law_is_integer.kp T.b__law_is_integer (dav_d (de_var 0) dav_nil))) (de_one (de_cmp (op_eqD hr.units) o2_eq (de_var 0) (de_var 1) (nomark _))))))) dss_nil)
  (dss_cons (ds_if (dt_truth (de_isi .str (by rfl) T.z_isinstance bt_isinstance (de_var 1) (by rfl) T.z_str bt_str)) (dss_one (ds_ret (dm_d (de_and (de_isi .str (by rfl) T.z_isinstance bt_isinstance (de_var 0) (by rfl) T.z_str bt_str) (de_one (de_cmp (op_eqD hr.units) o2_eq (de_var 0) (de_var 1) (nomark _))))))) dss_nil)
  (dss_cons (ds_if (dt_w (dw_and (dt_truth (de_isi .tup (by rfl) T.z_isinstance bt_isinstance (de_var 1) (by rfl) T.z_tuple bt_tuple)) (dw_and1 (dt_not (dt_truth (de_isi .tup (by rfl) T.z_isinstance bt_isinstance (de_var 0) (by rfl) T.z_tuple bt_tuple)))))) (dss_one (ds_ret (dm_d de_bl))) dss_nil)
  (dss_cons (ds_if (dt_w (dw_and (dt_truth (de_isi .lst (by rfl) T.z_isinstance bt_isinstance (de_var 1) (by rfl) T.z_list bt_list)) (dw_and1 (dt_not (dt_truth (de_isi .lst (by rfl) T.z_isinstance bt_isinstance (de_var 0) (by rfl) T.z_list bt_list)))))) (dss_one (ds_ret (dm_d de_bl))) dss_nil)
  (dss_cons (ds_if (dt_cmp (op_neD hr.units) o2_ne (de_B call_len ob_len (by rfl) T.z_len bt_len (da_cons (de_var 0) da_nil)) (de_B call_len ob_len (by rfl) T.z_len bt_len (da_cons (de_var 1) da_nil)) (nomark _)) (dss_one (ds_ret (dm_d de_bl))) dss_nil)
  (dss_one (ds_ret (dm_d (de_B (cr_all rfl) ob_all (by rfl) T.z_all bt_all (da_cons (de_comp rfl sc__law_equal.nd (di_range1 (by rfl) T.z_range (da_cons (de_B call_len ob_len (by rfl) T.z_len bt_len (da_cons (de_var 1) da_nil)) da_nil)) (blkOk_by (own := [("_law_at", 2)]) (N := N__law_equal) (sc := defScope s__law_equal) (by decide +kernel)) (fun _ _ _ _ _ => (dg_name 2 sc__law_equal.nd rfl (by first | exact Or.inl rfl | exact Or.inr rfl) rfl)) (fun _ _ _ _ _ => dts_nil) (fun _ _ _ _ _ => (de_frz (dm_call hrec (hr.mono (by omega)) (by rfl) T.g__law_equal T.F__law_equal.kp T.b__law_equal (dav_d (de_ix (de_var 0) (de_var 2) (fun _ _ => rfl)) (dav_d (de_ix (de_var 1) (de_var 2) (fun _ _ => rfl)) dav_nil))))) (by decide) (ioAll rfl)) da_nil))))))))))))
    exact h
theorem ok__law_equal (T : Txt K mg) : FnOk P w K mg base CX0 9 T.a__law_equal T.d__law_equal ["_law_actual", "_law_due"] (spD K cl0 3 2 f__law_equal) := rc__law_equal T 8
set_option maxHeartbeats 4000000 in
theorem ok__law_allocation (T : Txt K mg) : FnOk P w K mg base CX0 2 T.a__law_allocation T.d__law_allocation ["_law_stream_here", "_law_variants", "_law_buckets"] (spD K cl0 6 3 f__law_allocation) := by
  have h : FnOk P w K mg base CX0 2 T.a__law_allocation T.d__law_allocation ["_law_stream_here", "_law_variants", "_law_buckets"] (spD K cl0 N__law_allocation.length (["_law_stream_here", "_law_variants", "_law_buckets"] : List Str).length (runDef [true, false, false] N__law_allocation.length b__law_allocation)) := by
    refine fn_d (ios := [true, false, false]) (body := b__law_allocation) T.F__law_allocation sc__law_allocation (by decide) (by decide) fun cdv A outer s H vs E hr => ?_
    show DSs _ _ (_ :: _) _
    exact (dss_cons (ds_setLc rfl sc__law_allocation.nd rfl rfl (sw_true rfl rfl rfl (by decide +kernel)) (di_range1 (by rfl) T.z_range (da_cons (de_var 1) da_nil)) (blkOk_by (own := [("_law_variant", 5)]) (N := N__law_allocation) (sc := defScope s__law_allocation) (by decide +kernel)) (fun _ _ _ _ _ => (dg_name 5 sc__law_allocation.nd rfl (by first | exact Or.inl rfl | exact Or.inr rfl) rfl)) (fun _ _ _ _ _ => dts_nil) (fun _ _ _ _ _ => de_int) (by decide) (ioAll rfl) rfl)
  (dss_cons (ds_for PassesOwn.never rfl (di_range1 (by rfl) T.z_range (da_cons (de_var 2) da_nil)) (dg_name 4 sc__law_allocation.nd rfl (by first | exact Or.inl rfl | exact Or.inr rfl) rfl) (dss_cons (ds_set (dm_d (de_frz (dm_call (ok__law_next T) (hr.mono (by decide)) (by rfl) T.g__law_next T.F__law_next.kp T.b__law_next (dav_s (pv 0) (dav_d (de_var 1) dav_nil))))) sc__law_allocation.nd rfl (Or.inl rfl) rfl)
    (dss_one (ds_setItem (de_op op_addAll o2_add (de_ixO (pv 3) (de_var 5) (fun _ _ => rfl)) de_int) (pv 3) (de_var 5)))))
  (dss_one (ds_ret (dm_d (de_tupO (by rfl) T.z_tuple bt_tuple (pv 3)))))))
  exact h
set_option maxHeartbeats 4000000 in
theorem ok_check_allocation (T : Txt K mg) : FnOk P w K mg base CX0 3 T.a_check_allocation T.d_check_allocation ["value", "name"] (spD K cl0 3 2 f_check_allocation) := by
  have h : FnOk P w K mg base CX0 3 T.a_check_allocation T.d_check_allocation ["value", "name"] (spD K cl0 N_check_allocation.length (["value", "name"] : List Str).length (runDef [false, false] N_check_allocation.length b_check_allocation)) := by
    refine fn_d (ios := [false, false]) (body := b_check_allocation) T.F_check_allocation sc_check_allocation (by decide) (by decide) fun cdv A outer s H vs E hr => ?_
    show DSs _ _ (_ :: _) _
    exact (dss_cons (ds_if (dt_w (dw_or (dt_not (dt_truth (de_isi .tup (by rfl) T.z_isinstance bt_isinstance (de_var 0) (by rfl) T.z_tuple bt_tuple))) (dw_or1 (dt_not (dt_chain op_le o2_le op_le o2_le de_int (de_B call_len ob_len (by rfl) T.z_len bt_len (da_cons (de_var 0) da_nil)) (T.k_MOST_VARIANTS.de (by rfl))))))) (dss_one ds_never) dss_nil)
  (dss_one (ds_if (dt_w (dw_or (dt_not (dt_truth (de_B (cr_all rfl) ob_all (by rfl) T.z_all bt_all (da_cons (de_comp rfl sc_check_allocation.nd (di_seq (de_var 0)) (blkOk_by (own := [("share", 2)]) (N := N_check_allocation) (sc := defScope s_check_allocation) (by decide +kernel)) (fun _ _ _ _ _ => (dg_name 2 sc_check_allocation.nd rfl (by first | exact Or.inl rfl | exact Or.inr rfl) rfl)) (fun _ _ _ _ _ => dts_nil) (fun _ _ _ _ _ => (de_frz (dm_call (ok_is_between T) (hr.mono (by decide)) (by rfl) T.g_is_between T.F_is_between.kp T.b_is_between (dav_d (de_var 2) (dav_d de_int (dav_d (T.k_MOST_BUCKETS.de (by rfl)) dav_nil)))))) (by decide) (ioAll rfl)) da_nil)))) (dw_or1 (dt_cmp op_gt o2_gt (de_B (cr_sumAll rfl) ob_sum (by rfl) T.z_sum bt_sum (da_cons (de_var 0) da_nil)) (T.k_MOST_BUCKETS.de (by rfl)) (nomark _))))) (dss_one ds_never) dss_nil)))
  exact h
set_option maxHeartbeats 4000000 in
theorem ok_check_alike (T : Txt K mg) : FnOk P w K mg base CX0 3 T.a_check_alike T.d_check_alike ["value", "first", "name"] (spD K cl0 3 3 f_check_alike) := by
  have h : FnOk P w K mg base CX0 3 T.a_check_alike T.d_check_alike ["value", "first", "name"] (spD K cl0 N_check_alike.length (["value", "first", "name"] : List Str).length (runDef [false, false, false] N_check_alike.length b_check_alike)) := by
    refine fn_d (ios := [false, false, false]) (body := b_check_alike) T.F_check_alike sc_check_alike (by decide) (by decide) fun cdv A outer s H vs E hr => ?_
    show DSs _ _ (_ :: _) _
    exact (dss_one (ds_if (dt_not (dt_truth (de_frz (dm_call (ok_is_allocation T) (hr.mono (by decide)) (by rfl) T.g_is_allocation T.F_is_allocation.kp T.b_is_allocation (dav_d (de_var 0) (dav_d (de_B call_len ob_len (by rfl) T.z_len bt_len (da_cons (de_var 1) da_nil)) (dav_d (de_B (cr_sumAll rfl) ob_sum (by rfl) T.z_sum bt_sum (da_cons (de_var 1) da_nil)) dav_nil))))))) (dss_one ds_never) dss_nil))
  exact h
set_option maxHeartbeats 4000000 in
theorem ok_medians (T : Txt K mg) : FnOk P w K mg base CX0 4 T.a_medians T.d_medians ["first", "second", "third"] (spD K cl0 4 3 f_medians) := by
  have h : FnOk P w K mg base CX0 4 T.a_medians T.d_medians ["first", "second", "third"] (spD K cl0 N_medians.length (["first", "second", "third"] : List Str).length (runDef [false, false, false] N_medians.length b_medians)) := by
    refine fn_d (ios := [false, false, false]) (body := b_medians) T.F_medians sc_medians (by decide) (by decide) fun cdv A outer s H vs E hr => ?_
    show DSs _ _ (_ :: _) _
    exact (dss_cons (ds_expr (dm_call (ok_check_allocation T) (hr.mono (by decide)) (by rfl) T.g_check_allocation T.F_check_allocation.kp T.b_check_allocation (dav_d (de_var 0) (dav_d de_str dav_nil))))
  (dss_cons (ds_expr (dm_call (ok_check_alike T) (hr.mono (by decide)) (by rfl) T.g_check_alike T.F_check_alike.kp T.b_check_alike (dav_d (de_var 1) (dav_d (de_var 0) (dav_d de_str dav_nil)))))
  (dss_cons (ds_expr (dm_call (ok_check_alike T) (hr.mono (by decide)) (by rfl) T.g_check_alike T.F_check_alike.kp T.b_check_alike (dav_d (de_var 2) (dav_d (de_var 0) (dav_d de_str dav_nil)))))
  (dss_one (ds_ret (dm_d (de_Ty DLT.call_tupZ ob_tup (by rfl) T.z_tuple bt_tuple (da_cons (de_comp rfl sc_medians.nd (di_zip3 (by rfl) T.z_zip (da_cons (de_var 0) (da_cons (de_var 1) (da_cons (de_var 2) da_nil)))) (blkOk_by (own := [("shares", 3)]) (N := N_medians) (sc := defScope s_medians) (by decide +kernel)) (fun _ _ _ _ _ => (dg_name 3 sc_medians.nd rfl (by first | exact Or.inl rfl | exact Or.inr rfl) rfl)) (fun _ _ _ _ _ => dts_nil) (fun _ _ _ _ _ => (de_ix (de_B cr_sortedAll ob_sorted (by rfl) T.z_sorted bt_sorted (da_cons (de_var 3) da_nil)) de_int (fun _ _ => rfl))) (by decide) (ioAll rfl)) da_nil))))))))
  exact h
set_option maxHeartbeats 4000000 in
theorem ok_law (T : Txt K mg) : FnOk P w K mg base CX0 10 T.a_law T.d_law ["_law_script"] (spD K cl0 10 1 f_law) := by
  have h : FnOk P w K mg base CX0 10 T.a_law T.d_law ["_law_script"] (spD K cl0 N_law.length (["_law_script"] : List Str).length (runDef [true] N_law.length b_law)) := by
    refine fn_d (ios := [true]) (body := b_law) T.F_law sc_law (by decide) (by decide) fun cdv A outer s H vs E hr => ?_
    show DSs _ _ (_ :: _) _
    exact (dss_cons (ds_set (dm_call (ok__law_stream T) (hr.mono (by decide)) (by rfl) T.g__law_stream T.F__law_stream.kp T.b__law_stream (dav_s (pv 0) dav_nil)) sc_law.nd rfl (Or.inr rfl) rfl)
  (dss_cons (ds_set (dm_d (de_op op_addAll o2_add de_int (de_frz (dm_call (ok__law_next T) (hr.mono (by decide)) (by rfl) T.g__law_next T.F__law_next.kp T.b__law_next (dav_s (pv 1) (dav_d de_int dav_nil)))))) sc_law.nd rfl (Or.inr rfl) rfl)
  (dss_cons (ds_set (dm_d (de_frz (dm_call (ok__law_next T) (hr.mono (by decide)) (by rfl) T.g__law_next T.F__law_next.kp T.b__law_next (dav_s (pv 1) (dav_d de_int dav_nil))))) sc_law.nd rfl (Or.inr rfl) rfl)
  (dss_cons (ds_set (dm_comp rfl sc_law.nd (di_range1 (by rfl) T.z_range (da_cons de_int da_nil)) (blkOk_by (own := [("_law_k", 8)]) (N := N_law) (sc := defScope s_law) (by decide +kernel)) (fun _ _ _ _ _ => (dg_name 8 sc_law.nd rfl (by first | exact Or.inl rfl | exact Or.inr rfl) rfl)) (fun _ _ _ _ _ => dts_nil) (fun _ _ _ _ _ => (de_frz (dm_call (ok__law_allocation T) (hr.mono (by decide)) (by rfl) T.g__law_allocation T.F__law_allocation.kp T.b__law_allocation (dav_s (pv 1) (dav_d (de_var 2) (dav_d (de_var 3) dav_nil)))))) (by decide) (ioAll rfl)) sc_law.nd rfl (Or.inr rfl) rfl)
  (dss_cons (ds_if (dt_cmp (op_eqD hr.units) o2_eq (de_frz (dm_call (ok__law_next T) (hr.mono (by decide)) (by rfl) T.g__law_next T.F__law_next.kp T.b__law_next (dav_s (pv 1) (dav_d de_int dav_nil)))) de_int (nomark _)) (dss_one (ds_setItem (de_ixO (pv 4) (de_frz (dm_call (ok__law_next T) (hr.mono (by decide)) (by rfl) T.g__law_next T.F__law_next.kp T.b__law_next (dav_s (pv 1) (dav_d de_int dav_nil)))) (fun _ _ => rfl)) (pv 4) de_int)) dss_nil)
  (dss_cons (ds_set (dm_d (de_Ty DLT.call_tupZ ob_tup (by rfl) T.z_tuple bt_tuple (da_cons (de_comp rfl sc_law.nd (di_range1 (by rfl) T.z_range (da_cons (de_var 2) da_nil)) (blkOk_by (own := [("_law_k", 8)]) (N := N_law) (sc := defScope s_law) (by decide +kernel)) (fun _ _ _ _ _ => (dg_name 8 sc_law.nd rfl (by first | exact Or.inl rfl | exact Or.inr rfl) rfl)) (fun _ _ _ _ _ => dts_nil) (fun _ _ _ _ _ => (de_frz (dm_call (ok__law_middle T) (hr.mono (by decide)) (by rfl) T.g__law_middle T.F__law_middle.kp T.b__law_middle (dav_d (de_comp rfl sc_law.nd (di_seq (de_varF 4)) (blkOk_by (own := [("_law_row", 9)]) (N := N_law) (by rfl)) (fun _ _ _ _ _ => (dg_name 9 sc_law.nd rfl (by first | exact Or.inl rfl | exact Or.inr rfl) rfl)) (fun _ _ _ _ _ => dts_nil) (fun _ _ _ _ _ => (de_ix (de_var 9) (de_var 8) (fun _ _ => rfl))) (by decide) (ioAll rfl)) dav_nil)))) (by decide) (ioAll rfl)) da_nil))) sc_law.nd rfl (Or.inl rfl) rfl)
  (dss_cons (ds_set (dm_lst da_nil) sc_law.nd rfl (Or.inl rfl) rfl)
  (dss_cons (ds_for PassesOwn.never rfl (di_seq (de_lst (da_cons (de_tup (da_cons de_int (da_cons de_int (da_cons de_int da_nil)))) (da_cons (de_tup (da_cons de_int (da_cons de_int (da_cons de_int da_nil)))) (da_cons (de_tup (da_cons de_int (da_cons de_int (da_cons de_int da_nil)))) (da_cons (de_tup (da_cons de_int (da_cons de_int (da_cons de_int da_nil)))) (da_cons (de_tup (da_cons de_int (da_cons de_int (da_cons de_int da_nil)))) (da_cons (de_tup (da_cons de_int (da_cons de_int (da_cons de_int da_nil)))) da_nil)))))))) (dg_name 7 sc_law.nd rfl (by first | exact Or.inl rfl | exact Or.inr rfl) rfl) (dss_one (ds_expr (dm_d (de_mt md_app PySem.F.slot_list_append PySem.F.type_list_append mt_append (pv 6) (da_cons (de_frz (dm_call (ok_medians T) (hr.mono (by decide)) (by rfl) T.g_medians T.F_medians.kp T.b_medians (dav_d (de_ix (de_varF 4) (de_ix (de_var 7) de_int (fun _ _ => rfl)) (fun _ _ => rfl)) (dav_d (de_ix (de_varF 4) (de_ix (de_var 7) de_int (fun _ _ => rfl)) (fun _ _ => rfl)) (dav_d (de_ix (de_varF 4) (de_ix (de_var 7) de_int (fun _ _ => rfl)) (fun _ _ => rfl)) dav_nil))))) da_nil))))))
  (dss_cons (ds_if (dt_not (dt_truth (de_callL (ok__law_equal T) (hr.mono (by decide)) (by rfl) T.g__law_equal T.F__law_equal.kp T.b__law_equal (dal_l (pv 6) (dal_d (de_op op_mulAll o2_mul (de_lst (da_cons (de_var 5) da_nil)) de_int) dal_nil))))) (dss_one (ds_ret (dm_d de_bl))) dss_nil)
  (dss_one (ds_ret (dm_d (de_frz (dm_call (ok__law_equal T) (hr.mono (by decide)) (by rfl) T.g__law_equal T.F__law_equal.kp T.b__law_equal (dav_d (de_lst (da_cons (de_frz (dm_call (ok_medians T) (hr.mono (by decide)) (by rfl) T.g_medians T.F_medians.kp T.b_medians (dav_d (de_ix (de_varF 4) de_int (fun _ _ => rfl)) (dav_d (de_ix (de_varF 4) de_int (fun _ _ => rfl)) (dav_d (de_ix (de_varF 4) de_int (fun _ _ => rfl)) dav_nil))))) (da_cons (de_frz (dm_call (ok_medians T) (hr.mono (by decide)) (by rfl) T.g_medians T.F_medians.kp T.b_medians (dav_d (de_ix (de_varF 4) de_int (fun _ _ => rfl)) (dav_d (de_ix (de_varF 4) de_int (fun _ _ => rfl)) (dav_d (de_ix (de_varF 4) de_int (fun _ _ => rfl)) dav_nil))))) da_nil))) (dav_d (de_lst (da_cons (de_ix (de_varF 4) de_int (fun _ _ => rfl)) (da_cons (de_ix (de_varF 4) de_int (fun _ _ => rfl)) da_nil))) dav_nil))))))))))))))))
  exact h
end
set_option maxHeartbeats 4000000 in
theorem all_mk {l : PySem.W.OpenLaw} {w : World} {K : PySem.W.Frag} {h : Heap} {mg : Str → Option Value} {fa : Addr} (X : K.In h) (G : h.Ns mainGlobals mg) (hfa : mg "law" = some (.ref fa))
    {f0 : Addr} {od0 an0 : Option Addr} {sl0 : Array (Option Value)} {oc0 kV0 dc0 pm0 cd0 ct0 : Value}
    {f1 : Addr} {od1 an1 : Option Addr} {sl1 : Array (Option Value)} {oc1 kV1 dc1 pm1 cd1 ct1 : Value}
    {f2 : Addr} {od2 an2 : Option Addr} {sl2 : Array (Option Value)} {oc2 kV2 dc2 pm2 cd2 ct2 : Value}
    {f3 : Addr} {od3 an3 : Option Addr} {sl3 : Array (Option Value)} {oc3 kV3 dc3 pm3 cd3 ct3 : Value}
    {f4 : Addr} {od4 an4 : Option Addr} {sl4 : Array (Option Value)} {oc4 kV4 dc4 pm4 cd4 ct4 : Value}
    {f5 : Addr} {od5 an5 : Option Addr} {sl5 : Array (Option Value)} {oc5 kV5 dc5 pm5 cd5 ct5 : Value}
    {f6 : Addr} {od6 an6 : Option Addr} {sl6 : Array (Option Value)} {oc6 kV6 dc6 pm6 cd6 ct6 : Value}
    {f7 : Addr} {od7 an7 : Option Addr} {sl7 : Array (Option Value)} {oc7 kV7 dc7 pm7 cd7 ct7 : Value}
    {f8 : Addr} {od8 an8 : Option Addr} {sl8 : Array (Option Value)} {oc8 kV8 dc8 pm8 cd8 ct8 : Value}
    {f9 : Addr} {od9 an9 : Option Addr} {sl9 : Array (Option Value)} {oc9 kV9 dc9 pm9 cd9 ct9 : Value}
    {f10 : Addr} {od10 an10 : Option Addr} {sl10 : Array (Option Value)} {oc10 kV10 dc10 pm10 cd10 ct10 : Value}
    {f11 : Addr} {od11 an11 : Option Addr} {sl11 : Array (Option Value)} {oc11 kV11 dc11 pm11 cd11 ct11 : Value}
    {f12 : Addr} {od12 an12 : Option Addr} {sl12 : Array (Option Value)} {oc12 kV12 dc12 pm12 cd12 ct12 : Value}
    {kt_MOST_BUCKETS : Tok}
    {kt_MOST_VARIANTS : Tok}
    (a0 : PySem.W.nsIn K mainGlobals "is_whole" = some (some (.ref f0))) (l0 : K.lookup f0 = some ⟨oc0, od0, .func (PySem.W.fnOf "is_whole" "is_whole" (defArgs s_is_whole) (defBody s_is_whole) (defScope s_is_whole) .none kV0 dc0 pm0 an0 cd0 ct0), sl0⟩) (c0 : PySem.W.codeIn K cd0 "is_whole" = true) (k0 : PySem.W.keepIn K (.ref f0) = true)
    (a1 : PySem.W.nsIn K mainGlobals "_law_stream" = some (some (.ref f1))) (l1 : K.lookup f1 = some ⟨oc1, od1, .func (PySem.W.fnOf "_law_stream" "_law_stream" (defArgs s__law_stream) (defBody s__law_stream) (defScope s__law_stream) .none kV1 dc1 pm1 an1 cd1 ct1), sl1⟩) (c1 : PySem.W.codeIn K cd1 "_law_stream" = true) (k1 : PySem.W.keepIn K (.ref f1) = true)
    (a2 : PySem.W.nsIn K mainGlobals "_law_next" = some (some (.ref f2))) (l2 : K.lookup f2 = some ⟨oc2, od2, .func (PySem.W.fnOf "_law_next" "_law_next" (defArgs s__law_next) (defBody s__law_next) (defScope s__law_next) .none kV2 dc2 pm2 an2 cd2 ct2), sl2⟩) (c2 : PySem.W.codeIn K cd2 "_law_next" = true) (k2 : PySem.W.keepIn K (.ref f2) = true)
    (a3 : PySem.W.nsIn K mainGlobals "_law_is_integer" = some (some (.ref f3))) (l3 : K.lookup f3 = some ⟨oc3, od3, .func (PySem.W.fnOf "_law_is_integer" "_law_is_integer" (defArgs s__law_is_integer) (defBody s__law_is_integer) (defScope s__law_is_integer) .none kV3 dc3 pm3 an3 cd3 ct3), sl3⟩) (c3 : PySem.W.codeIn K cd3 "_law_is_integer" = true) (k3 : PySem.W.keepIn K (.ref f3) = true)
    (a4 : PySem.W.nsIn K mainGlobals "_law_middle" = some (some (.ref f4))) (l4 : K.lookup f4 = some ⟨oc4, od4, .func (PySem.W.fnOf "_law_middle" "_law_middle" (defArgs s__law_middle) (defBody s__law_middle) (defScope s__law_middle) .none kV4 dc4 pm4 an4 cd4 ct4), sl4⟩) (c4 : PySem.W.codeIn K cd4 "_law_middle" = true) (k4 : PySem.W.keepIn K (.ref f4) = true)
    (a5 : PySem.W.nsIn K mainGlobals "is_between" = some (some (.ref f5))) (l5 : K.lookup f5 = some ⟨oc5, od5, .func (PySem.W.fnOf "is_between" "is_between" (defArgs s_is_between) (defBody s_is_between) (defScope s_is_between) .none kV5 dc5 pm5 an5 cd5 ct5), sl5⟩) (c5 : PySem.W.codeIn K cd5 "is_between" = true) (k5 : PySem.W.keepIn K (.ref f5) = true)
    (a6 : PySem.W.nsIn K mainGlobals "is_allocation" = some (some (.ref f6))) (l6 : K.lookup f6 = some ⟨oc6, od6, .func (PySem.W.fnOf "is_allocation" "is_allocation" (defArgs s_is_allocation) (defBody s_is_allocation) (defScope s_is_allocation) .none kV6 dc6 pm6 an6 cd6 ct6), sl6⟩) (c6 : PySem.W.codeIn K cd6 "is_allocation" = true) (k6 : PySem.W.keepIn K (.ref f6) = true)
    (a7 : PySem.W.nsIn K mainGlobals "_law_equal" = some (some (.ref f7))) (l7 : K.lookup f7 = some ⟨oc7, od7, .func (PySem.W.fnOf "_law_equal" "_law_equal" (defArgs s__law_equal) (defBody s__law_equal) (defScope s__law_equal) .none kV7 dc7 pm7 an7 cd7 ct7), sl7⟩) (c7 : PySem.W.codeIn K cd7 "_law_equal" = true) (k7 : PySem.W.keepIn K (.ref f7) = true)
    (a8 : PySem.W.nsIn K mainGlobals "_law_allocation" = some (some (.ref f8))) (l8 : K.lookup f8 = some ⟨oc8, od8, .func (PySem.W.fnOf "_law_allocation" "_law_allocation" (defArgs s__law_allocation) (defBody s__law_allocation) (defScope s__law_allocation) .none kV8 dc8 pm8 an8 cd8 ct8), sl8⟩) (c8 : PySem.W.codeIn K cd8 "_law_allocation" = true) (k8 : PySem.W.keepIn K (.ref f8) = true)
    (a9 : PySem.W.nsIn K mainGlobals "check_allocation" = some (some (.ref f9))) (l9 : K.lookup f9 = some ⟨oc9, od9, .func (PySem.W.fnOf "check_allocation" "check_allocation" (defArgs s_check_allocation) (defBody s_check_allocation) (defScope s_check_allocation) .none kV9 dc9 pm9 an9 cd9 ct9), sl9⟩) (c9 : PySem.W.codeIn K cd9 "check_allocation" = true) (k9 : PySem.W.keepIn K (.ref f9) = true)
    (a10 : PySem.W.nsIn K mainGlobals "check_alike" = some (some (.ref f10))) (l10 : K.lookup f10 = some ⟨oc10, od10, .func (PySem.W.fnOf "check_alike" "check_alike" (defArgs s_check_alike) (defBody s_check_alike) (defScope s_check_alike) .none kV10 dc10 pm10 an10 cd10 ct10), sl10⟩) (c10 : PySem.W.codeIn K cd10 "check_alike" = true) (k10 : PySem.W.keepIn K (.ref f10) = true)
    (a11 : PySem.W.nsIn K mainGlobals "medians" = some (some (.ref f11))) (l11 : K.lookup f11 = some ⟨oc11, od11, .func (PySem.W.fnOf "medians" "medians" (defArgs s_medians) (defBody s_medians) (defScope s_medians) .none kV11 dc11 pm11 an11 cd11 ct11), sl11⟩) (c11 : PySem.W.codeIn K cd11 "medians" = true) (k11 : PySem.W.keepIn K (.ref f11) = true)
    (a12 : PySem.W.nsIn K mainGlobals "law" = some (some (.ref f12))) (l12 : K.lookup f12 = some ⟨oc12, od12, .func (PySem.W.fnOf "law" "law" (defArgs s_law) (defBody s_law) (defScope s_law) .none kV12 dc12 pm12 an12 cd12 ct12), sl12⟩) (c12 : PySem.W.codeIn K cd12 "law" = true) (k12 : PySem.W.keepIn K (.ref f12) = true)
    (z_abs : PySem.W.nsIn K mainGlobals "abs" = some none)
    (z_all : PySem.W.nsIn K mainGlobals "all" = some none)
    (z_bool : PySem.W.nsIn K mainGlobals "bool" = some none)
    (z_int : PySem.W.nsIn K mainGlobals "int" = some none)
    (z_isinstance : PySem.W.nsIn K mainGlobals "isinstance" = some none)
    (z_len : PySem.W.nsIn K mainGlobals "len" = some none)
    (z_list : PySem.W.nsIn K mainGlobals "list" = some none)
    (z_range : PySem.W.nsIn K mainGlobals "range" = some none)
    (z_sorted : PySem.W.nsIn K mainGlobals "sorted" = some none)
    (z_str : PySem.W.nsIn K mainGlobals "str" = some none)
    (z_sum : PySem.W.nsIn K mainGlobals "sum" = some none)
    (z_tuple : PySem.W.nsIn K mainGlobals "tuple" = some none)
    (z_zip : PySem.W.nsIn K mainGlobals "zip" = some none)
    (q_MOST_BUCKETS : PySem.W.nsIn K mainGlobals "MOST_BUCKETS" = some (some (.int 20 kt_MOST_BUCKETS)))
    (q_MOST_VARIANTS : PySem.W.nsIn K mainGlobals "MOST_VARIANTS" = some (some (.int 5 kt_MOST_VARIANTS))) :
    ∃ fd : FuncData, (∀ (s : Shared) (v : Value), BindsTo s fd ⟨[v], []⟩ [("_law_script", v)]) ∧ ∀ base : Heap, K.In base → base.Ns mainGlobals mg → FnOk l.prog w K mg base CX0 10 fa fd ["_law_script"] (spD K cl0 10 1 f_law) := by
  have e := hfa.symm.trans (PySem.W.mg_of X G a12)
  cases e
  let T : Txt K mg := ⟨PySem.W.mg_none_of X G z_abs,
    PySem.W.mg_none_of X G z_all,
    PySem.W.mg_none_of X G z_bool,
    PySem.W.mg_none_of X G z_int,
    PySem.W.mg_none_of X G z_isinstance,
    PySem.W.mg_none_of X G z_len,
    PySem.W.mg_none_of X G z_list,
    PySem.W.mg_none_of X G z_range,
    PySem.W.mg_none_of X G z_sorted,
    PySem.W.mg_none_of X G z_str,
    PySem.W.mg_none_of X G z_sum,
    PySem.W.mg_none_of X G z_tuple,
    PySem.W.mg_none_of X G z_zip,
    .int (PySem.W.mg_of X G q_MOST_BUCKETS),
    .int (PySem.W.mg_of X G q_MOST_VARIANTS),
    f0, _, fun_mk (st := s_is_whole) l0 c0 k0, PySem.W.mg_of X G a0, (fun_mk (st := s_is_whole) l0 c0 k0).binds fun _ _ _ _ _ _ us hl => match us, hl with | [_], _ => rfl,
    f1, _, fun_mk (st := s__law_stream) l1 c1 k1, PySem.W.mg_of X G a1, (fun_mk (st := s__law_stream) l1 c1 k1).binds fun _ _ _ _ _ _ us hl => match us, hl with | [_], _ => rfl,
    f2, _, fun_mk (st := s__law_next) l2 c2 k2, PySem.W.mg_of X G a2, (fun_mk (st := s__law_next) l2 c2 k2).binds fun _ _ _ _ _ _ us hl => match us, hl with | [_, _], _ => rfl,
    f3, _, fun_mk (st := s__law_is_integer) l3 c3 k3, PySem.W.mg_of X G a3, (fun_mk (st := s__law_is_integer) l3 c3 k3).binds fun _ _ _ _ _ _ us hl => match us, hl with | [_], _ => rfl,
    f4, _, fun_mk (st := s__law_middle) l4 c4 k4, PySem.W.mg_of X G a4, (fun_mk (st := s__law_middle) l4 c4 k4).binds fun _ _ _ _ _ _ us hl => match us, hl with | [_], _ => rfl,
    f5, _, fun_mk (st := s_is_between) l5 c5 k5, PySem.W.mg_of X G a5, (fun_mk (st := s_is_between) l5 c5 k5).binds fun _ _ _ _ _ _ us hl => match us, hl with | [_, _, _], _ => rfl,
    f6, _, fun_mk (st := s_is_allocation) l6 c6 k6, PySem.W.mg_of X G a6, (fun_mk (st := s_is_allocation) l6 c6 k6).binds fun _ _ _ _ _ _ us hl => match us, hl with | [_, _, _], _ => rfl,
    f7, _, fun_mk (st := s__law_equal) l7 c7 k7, PySem.W.mg_of X G a7, (fun_mk (st := s__law_equal) l7 c7 k7).binds fun _ _ _ _ _ _ us hl => match us, hl with | [_, _], _ => rfl,
    f8, _, fun_mk (st := s__law_allocation) l8 c8 k8, PySem.W.mg_of X G a8, (fun_mk (st := s__law_allocation) l8 c8 k8).binds fun _ _ _ _ _ _ us hl => match us, hl with | [_, _, _], _ => rfl,
    f9, _, fun_mk (st := s_check_allocation) l9 c9 k9, PySem.W.mg_of X G a9, (fun_mk (st := s_check_allocation) l9 c9 k9).binds fun _ _ _ _ _ _ us hl => match us, hl with | [_, _], _ => rfl,
    f10, _, fun_mk (st := s_check_alike) l10 c10 k10, PySem.W.mg_of X G a10, (fun_mk (st := s_check_alike) l10 c10 k10).binds fun _ _ _ _ _ _ us hl => match us, hl with | [_, _, _], _ => rfl,
    f11, _, fun_mk (st := s_medians) l11 c11 k11, PySem.W.mg_of X G a11, (fun_mk (st := s_medians) l11 c11 k11).binds fun _ _ _ _ _ _ us hl => match us, hl with | [_, _, _], _ => rfl,
    fa, _, fun_mk (st := s_law) l12 c12 k12, PySem.W.mg_of X G a12, (fun_mk (st := s_law) l12 c12 k12).binds fun _ _ _ _ _ _ us hl => match us, hl with | [_], _ => rfl⟩
  exact ⟨T.d_law, fun s v => .of_eq rfl, fun base _ _ => ok_law T⟩
end Lk03
open PySem PySem.W PyProof.Rows
set_option maxHeartbeats 0 in
theorem PySem.Challenge.cw_leastmoved_k03_medians_holds : PySem.Challenge.rw_leastmoved_k03_medians.Holds := by
  w_on; o_law; k_head; (case hw => w_witness2)
  k_fill
  refine L2.walk_ofK (l := PySem.Challenge.rw_leastmoved_k03_medians) (n := 63) (k := 10) (x := "_law_script") (CX := L2.CX0) (sp := fun K => DL.spD K Lk03.cl0 10 1 Lk03.f_law) rfl (by decide) rfl ⟨rfl, by decide, by decide⟩ (fun w h Y => PySem.W.kIn_of Y) ?F (fun K H a ns hl _ hS => DL.law_sp (fun ns h => Lk03.law_true ns h) hl hS) (fun _ _ _ _ h => h)
  case F =>
    intro w mg fa h KX G hmg
    refine' Lk03.all_mk KX G hmg ?a0 ?l0 ?c0 ?k0 ?a1 ?l1 ?c1 ?k1 ?a2 ?l2 ?c2 ?k2 ?a3 ?l3 ?c3 ?k3 ?a4 ?l4 ?c4 ?k4 ?a5 ?l5 ?c5 ?k5 ?a6 ?l6 ?c6 ?k6 ?a7 ?l7 ?c7 ?k7 ?a8 ?l8 ?c8 ?k8 ?a9 ?l9 ?c9 ?k9 ?a10 ?l10 ?c10 ?k10 ?a11 ?l11 ?c11 ?k11 ?a12 ?l12 ?c12 ?k12 ?z_abs ?z_all ?z_bool ?z_int ?z_isinstance ?z_len ?z_list ?z_range ?z_sorted ?z_str ?z_sum ?z_tuple ?z_zip ?q_MOST_BUCKETS ?q_MOST_VARIANTS
    (case a0 => k_is)
    (case l0 => k_is)
    (case c0 => k_is)
    (case k0 => k_is)
    (case a1 => k_is)
    (case l1 => k_is)
    (case c1 => k_is)
    (case k1 => k_is)
    (case a2 => k_is)
    (case l2 => k_is)
    (case c2 => k_is)
    (case k2 => k_is)
    (case a3 => k_is)
    (case l3 => k_is)
    (case c3 => k_is)
    (case k3 => k_is)
    (case a4 => k_is)
    (case l4 => k_is)
    (case c4 => k_is)
    (case k4 => k_is)
    (case a5 => k_is)
    (case l5 => k_is)
    (case c5 => k_is)
    (case k5 => k_is)
    (case a6 => k_is)
    (case l6 => k_is)
    (case c6 => k_is)
    (case k6 => k_is)
    (case a7 => k_is)
    (case l7 => k_is)
    (case c7 => k_is)
    (case k7 => k_is)
    (case a8 => k_is)
    (case l8 => k_is)
    (case c8 => k_is)
    (case k8 => k_is)
    (case a9 => k_is)
    (case l9 => k_is)
    (case c9 => k_is)
    (case k9 => k_is)
    (case a10 => k_is)
    (case l10 => k_is)
    (case c10 => k_is)
    (case k10 => k_is)
    (case a11 => k_is)
    (case l11 => k_is)
    (case c11 => k_is)
    (case k11 => k_is)
    (case a12 => k_is)
    (case l12 => k_is)
    (case c12 => k_is)
    (case k12 => k_is)
    (case z_abs => k_is)
    (case z_all => k_is)
    (case z_bool => k_is)
    (case z_int => k_is)
    (case z_isinstance => k_is)
    (case z_len => k_is)
    (case z_list => k_is)
    (case z_range => k_is)
    (case z_sorted => k_is)
    (case z_str => k_is)
    (case z_sum => k_is)
    (case z_tuple => k_is)
    (case z_zip => k_is)
    (case q_MOST_BUCKETS => k_is)
    (case q_MOST_VARIANTS => k_is)


