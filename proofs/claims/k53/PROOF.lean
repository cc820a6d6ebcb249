import PyProof.Rows.All
import Wide.All
import OpenK.AllK
import Wide.FinOn
import HandS.ForMost
import HandS.Walk
import HandS.TupAny
import HandS.TupMul
import HandS.IsInst
import HandS.SortInts
import HandS.Deep
import HandS.Zip
import HandS.Conv
import HandS.SetFor
import HandS.Flow
import HandS.Exc
import HandS.WordsExc
import HandS.EndBits
import HandS.TryOnly
import HandS.Style
import HandS.TupSets
import HandS.Strs
import KE.GoesMore
import KE.KDictZip
import HandS.Star
import HandS.TupLen
import HandS.DictComp
import HandS.Dict
import HandS.WordsDict
import PySem.Challenge.RW_leastmoved_k53_rules_and_closed_rules
set_option Elab.async false
set_option linter.all false
set_option maxRecDepth 100000
/-! tuples that keep their object in sight: their methods can be called -/
namespace DLT
open PySem PySem.Spec PyProof.Rows L2 RZ
section
variable {X : Cx}
/-- a new tuple's object -/
def tob (us : Array Value) : Obj := { cls := .type "tuple", data := .seq us }
theorem tob_ok {P : Program} {w : World} {H : Hp} {h : Heap} {xs : List V} {us : List Value} (hz : xs.length ≤ sizeLine) (r : Vals xs us) : ObjOk P w H (h.push (tob us.toArray)) h.objs.size (.frz (tob us.toArray) (.tup xs)) :=
  ⟨Heap.get?_push_size _ rfl, hz, us, r, IsTup.new _ _⟩
/-- a written tuple -/
def zTup (t : TA) : TE := fun σ H Q => t σ H fun xs H1 => xs.length ≤ sizeLine ∧ ∀ zo p, zo.dict = none → H1 p = none → Q (.ref p) (upd H1 p (.frz zo (.tup xs)))
theorem pe_tupZ {es : List Expr} {t : TA} {x1} {pos : Pos} (h : PA X es t) : PE X (.Tuple es x1 pos) (zTup t) := by
  refine ⟨fun pps sh σ H Q I hq => ?_⟩
  refine wpAny_Tuple_spliced (thn (h.run pos pps sh σ H _ I hq) fun us s1 ⟨xs, H1, J, r, z, y⟩ => ⟨by rw [← r.length]; exact z, ?_⟩)
  exact ⟨.ref s1.heap.objs.size, _, J.laid (t' := s1.toks) (o := .frz (tob us.toArray) (.tup xs)) (fun b u e => Heap.get?_push_of_some _ e) (Nat.le_refl _) (tob_ok z r), rfl, y _ _ rfl (J.hok.fresh (Nat.le_refl _))⟩
/-- tuple(x) of a list, of a tuple -/
def zTupOf (K : PySem.W.Frag) : List V → Hp → VK → Prop := fun xs H Q => ∃ p ys, xs = [.ref p] ∧ ((SqL K H p ys ∧ ∀ zo l, zo.dict = none → H l = none → Q (.ref l) (upd H l (.frz zo (.tup ys)))) ∨ (SqT K H p ys ∧ Q (.ref p) H))
theorem call_tupZ : CallR X (.type "tuple") (zTupOf X.K) := by
  intro pps sh σ H xs us Q I r h
  obtain ⟨p, ys, rfl, h⟩ := h
  obtain ⟨u, rfl, rx⟩ := vals1 r
  cases rx
  rcases h with ⟨lq, y⟩ | ⟨lq, y⟩
  · obtain ⟨jts, r', pl, gz⟩ := I.list lq
    have lz := r'.length
    refine call_tuple_list pl.isList (fun h' kp => ?_) (by simp only [List.size_toArray] <;> omega)
    have J : Inv X pps σ H { sh with heap := h' } := I.kept (t' := sh.toks) kp
    have J2 : Inv X pps σ (upd H h'.objs.size (.frz (tob jts.toArray) (.tup ys))) { sh with heap := h'.push (tob jts.toArray) } :=
      J.laid (t' := sh.toks) (fun b o e => Heap.get?_push_of_some _ e) (Nat.le_refl _) (tob_ok gz r')
    exact ⟨.ref h'.objs.size, _, J2, rfl, y _ _ rfl (J.hok.fresh (Nat.le_refl _))⟩
  · obtain ⟨jts, r', pl, gz⟩ := I.tuple lq
    exact call_tuple_same pl ⟨.ref p, H, I, rfl, y⟩
/-- t + u -/
def zCat (K : PySem.W.Frag) : R2 := fun x y H Q => ∃ a b xs ys, x = .ref a ∧ y = .ref b ∧ SqT K H a xs ∧ SqT K H b ys ∧ xs.length + ys.length ≤ sizeLine ∧
  (xs = [] → Q (.ref b) H) ∧ (xs ≠ [] → ys = [] → Q (.ref a) H) ∧ (xs ≠ [] → ys ≠ [] → ∀ zo p, zo.dict = none → H p = none → Q (.ref p) (upd H p (.frz zo (.tup (xs ++ ys)))))
theorem op_catZ : OpR X (binaryOp .Add) (zCat X.K) := by
  intro pps sh σ H x y v u Q I rx ry h
  obtain ⟨a, b, xs, ys, rfl, rfl, la, lb, gz, q0, q1, q2⟩ := h
  cases rx
  cases ry
  obtain ⟨jts, r1, p1, _⟩ := I.tuple la
  obtain ⟨jts2, r2, p2, _⟩ := I.tuple lb
  by_cases gx : xs = []
  · subst gx
    cases r1
    exact cat_tup0 p1 p2 ⟨.ref b, H, I, rfl, q0 rfl⟩
  · refine HT.cat_tup p1 p2 (fun z => gx (r1.nil_iff.mp z)) (fun z => ⟨.ref a, H, I, rfl, q1 gx (r2.nil_iff.mp z)⟩) (fun z => ?_) (by rw [← r1.length, ← r2.length]; exact gz)
    exact ⟨.ref sh.heap.objs.size, _, I.laid (t' := sh.toks) (o := .frz (tob _) (.tup (xs ++ ys))) (fun b ob y => Heap.get?_push_of_some _ y) (Nat.le_refl _) (tob_ok (by rw [List.length_append]; exact gz) (r1.append r2)), rfl,
      q2 gx (fun w => z (r2.nil_iff.mpr w)) _ _ rfl (I.hok.fresh (Nat.le_refl _))⟩
/-- t[lo:hi] -/
def zSl (K : PySem.W.Frag) : V → Option Int → Option Int → Hp → VK → Prop := fun x lo hi H Q => ∃ a xs, x = .ref a ∧ SqT K H a xs ∧
  (HT.sIx xs.length 0 lo = 0 ∧ HT.sIx xs.length xs.length hi = xs.length → Q (.ref a) H) ∧ (¬ (HT.sIx xs.length 0 lo = 0 ∧ HT.sIx xs.length xs.length hi = xs.length) → ∀ zo p, zo.dict = none → H p = none → Q (.ref p) (upd H p (.frz zo (.tup (cutV xs lo hi)))))
theorem sl_tupZ : SlR X (zSl X.K) := by
  intro pps sh σ H x v vl vu lo hi sl Q I rx ns pl pu h
  obtain ⟨a, xs, rfl, lx, q1, q2⟩ := h
  cases rx
  obtain ⟨jts, r, ht, gz⟩ := I.tuple lx
  have lz : jts.toArray.size = xs.length := by rw [List.size_toArray]; exact r.length.symm
  refine ⟨"tuple", _, PyProof.Rows.slot_tuple_getitem.lookup, ht.typeIs, ?_⟩
  by_cases hw : HT.sIx xs.length 0 lo = 0 ∧ HT.sIx xs.length xs.length hi = xs.length
  · exact getItem_tuple_whole ht ns pl pu (by rw [lz]; exact hw) ⟨.ref a, H, I, rfl, q1 hw⟩
  · refine HT.getItem_tuple_cut ht ns pl pu (by rw [lz]; exact hw) ?_ (by rw [lz]; exact gz)
    rw [lz]
    exact ⟨.ref sh.heap.objs.size, _, I.laid (t' := sh.toks) (o := .frz (tob _) (.tup (cutV xs lo hi))) (fun b ob y => Heap.get?_push_of_some _ y) (Nat.le_refl _) (tob_ok (Nat.le_trans (cutV_length xs lo hi) gz) ((r.drop (HT.sIx xs.length 0 lo)).take (HT.sIx xs.length xs.length hi - HT.sIx xs.length 0 lo))), rfl,
      q2 hw _ _ rfl (I.hok.fresh (Nat.le_refl _))⟩
end
def IteZ (K : PySem.W.Frag) (a : Addr) : It :=
  ⟨fun ix H => ∃ (xs : List V) (x : V), SqL K H a xs ∧ xs[ix]? = some x, fun ix H v H' => ∃ T x zo, v = .ref T ∧ H T = none ∧ H' = upd H T (.frz zo (.tup [.int (ix : Nat), x])) ∧ zo.dict = none ∧ ∀ xs, SqL K H a xs → xs[ix]? = some x, fun ix H => ∃ xs : List V, SqL K H a xs ∧ xs.length ≤ ix⟩
theorem turn_enumZ {P : Program} {w : World} {K : PySem.W.Frag} {elts : List Expr} {kk : Nat} {tpos : Pos} (a e it : Addr) :
    Turn P w K (.Tuple elts kk tpos) (IteZ K a) [e, it] e (fun ix h => (∃ old, IsEnum h e it ((ix : Nat) : Int) old) ∧ h.IsListIter it a ix ∧ e ≠ it) where
  mem := by simp
  obj := fun ix h sta b nb => by
    obtain ⟨⟨old, he⟩, ⟨o, ho, cc, hd⟩, _⟩ := sta
    have ee : b = e ∨ b = it := by simpa using nb
    rcases ee with z | z
    · rw [z]; exact ⟨_, he, fun v qq => nomatch qq⟩
    · rw [z]; exact ⟨o, ho, fun v qq => by rw [hd] at qq; cases qq⟩
  keep := fun ix h h' sta k => let ⟨⟨old, he⟩, hi, hne⟩ := sta; ⟨⟨old, k e (by simp) _ he⟩, hi.at fun o qq => k it (by simp) o qq, hne⟩
  item := by
    intro X hP hw hK cc ix pps sh σ H EE I fo sta yg
    subst hP hw hK
    obtain ⟨⟨old, he⟩, hit, hne⟩ := sta
    obtain ⟨xs, x, lq, gx⟩ := yg
    obtain ⟨jts, sv, pl1, gz⟩ := I.list lq
    obtain ⟨u, hu, ru⟩ := sv.get gx
    have lel : e < sh.heap.objs.size := Heap.lt_size he
    have lil : it < sh.heap.objs.size := by obtain ⟨_, qq, _⟩ := hit; exact Heap.lt_size qq
    refine wpAny_pyNext_enum_item he hit pl1.isList (x := u) (by simpa using hu) hne fun h' ho hit' hT hsz hk => ?_
    refine ⟨_, rfl, wpAny_letOwnedTupleGo_enum (s := { sh with heap := h', toks := sh.toks + 1 }) ho fun h'' he' sb => ?_⟩
    have tT2 : h''.get? sh.heap.objs.size = some { cls := .type "tuple", data := .seq #[.int ix sh.toks, u] } := (sb.2 _ (Nat.ne_of_gt lel)).trans hT
    have neu : ObjOk X.prog X.w (upd H sh.heap.objs.size (.frz { cls := .type "tuple", data := .seq #[.int ix sh.toks, u] } (.tup [.int (ix : Nat), x]))) h'' sh.heap.objs.size (.frz { cls := .type "tuple", data := .seq #[.int ix sh.toks, u] } (.tup [.int (ix : Nat), x])) :=
      ⟨tT2, by show 2 ≤ sizeLine; decide, [.int ix sh.toks, u], .cons ⟨_, rfl⟩ (.cons ru .nil), ⟨_, tT2, rfl, _, rfl⟩⟩
    have I1 : Inv X pps σ (upd H sh.heap.objs.size (.frz { cls := .type "tuple", data := .seq #[.int ix sh.toks, u] } (.tup [.int (ix : Nat), x]))) { sh with heap := h'', toks := sh.toks + 1 } :=
      I.turnedNew (ch := [e, it]) (fun b ob nb qq => (sb.2 b (fun z => nb (by simp [z]))).trans (hk b ob (fun z => nb (by simp [z])) (fun z => nb (by simp [z])) qq)) fo (Nat.le_refl _) neu
    refine ⟨.ref sh.heap.objs.size, _, I1, rfl, ⟨_, x, _, rfl, I.hok.fresh (Nat.le_refl _), rfl, rfl, fun ys hy => by rw [I.list_inj hy lq]; exact gx⟩, ⟨⟨u, ?_⟩, hit'.at fun o qq => (sb.2 it (Ne.symm hne)).trans qq, hne⟩, fun b nb => ?_⟩
    · have e1 : ((ix + 1 : Nat) : Int) = (ix : Int) + 1 := by omega
      rw [e1]; exact he'
    · have hb' : b < sh.heap.objs.size := by
        have ee : b = e ∨ b = it := by simpa using nb
        rcases ee with z | z
        · rw [z]; exact lel
        · rw [z]; exact lil
      rw [upd_ne (Nat.ne_of_lt hb')]
      exact (fo b nb).1
  done := by
    intro X hP hw hK cc ix pps sh σ H EE I fo sta yg
    subst hP hw hK
    obtain ⟨⟨old, he⟩, hit, hne⟩ := sta
    obtain ⟨xs, lq, gx⟩ := yg
    obtain ⟨jts, sv, pl1, gz⟩ := I.list lq
    obtain ⟨f0, f1, f2, f3, f4, f5⟩ := fo it (by simp)
    have hl := sv.length
    exact wpAny_pyNext_enum_end (I.ok.hd cc) he hit pl1.isList (by simp; omega) fun h' eb => ⟨rfl, I.turned (t' := sh.toks) (fun b o nb qq => eb b o nb qq) f0 f1 f3 f4 f5⟩
  self := fun A ix sh Q EE sta h => let ⟨⟨_, he⟩, _⟩ := sta; wpAny_pyIter_enum he h
def iEnumZ (K : PySem.W.Frag) (ta : TA) : TI := fun σ H R => ta σ H fun vs H1 => ∃ a xs, vs = [.ref a] ∧ SqL K H1 a xs ∧ R (IteZ K a) H1
theorem pi_enumZ {X : Cx} {e : Expr} {ta : TA} {pl1 pos tpos : Pos} {elts : List Expr} {kk : Nat} (yg : Gl X "enumerate") (mz : X.mg "enumerate" = none) (pa1 : PA X [e] ta) (ns1 : starEach [e] X.env = [(false, eval e X.env)] := by rfl) :
    PI X (.Tuple elts kk tpos) (.Call (.Name "enumerate" pl1) [e] [] pos) (iEnumZ X.K ta) := by
  refine ⟨fun pps sh σ H R I h => ?_⟩
  refine Call_ (ld_blt I yg mz boot_enumerate (PyProof.Rows.callWith_type1 (thn (pa1.run pos pps sh σ H _ I h) fun uu s1 ⟨vs, H1, I1, r1, q1⟩ => ?_) ns1 rfl))
  obtain ⟨a, xs, ex, lq, qq⟩ := q1
  subst ex
  cases r1 with
  | cons rr0 rr1 =>
    cases rr1
    cases rr0
    obtain ⟨jts, sv, p', gz⟩ := I1.list lq
    refine call_enumerate_list p'.isList fun h' he hit hsz hk => wpAny_pyIter_enum he ?_
    have I2 : Inv X pps σ H1 { s1 with heap := h' } := I1.kept (t' := s1.toks) hk
    refine ⟨s1.heap.objs.size + 1, [s1.heap.objs.size + 1, s1.heap.objs.size], _, _, H1, rfl, I2, turn_enumZ a (s1.heap.objs.size + 1) s1.heap.objs.size, ⟨⟨.none, he⟩, hit, Nat.succ_ne_self _⟩, fun b nb => ?_, qq⟩
    have ee : b = s1.heap.objs.size + 1 ∨ b = s1.heap.objs.size := by simpa using nb
    have lec : s1.heap.objs.size ≤ b := by
      rcases ee with z | z
      · rw [z]; exact Nat.le_add_right _ _
      · rw [z]; exact Nat.le_refl _
    exact I1.fpOk lec (I1.hok.fresh lec)
def ItzZ (K : PySem.W.Frag) (a b : Addr) : It :=
  ⟨fun ix H => ∃ (xs ys : List V) (x y : V), SqL K H a xs ∧ SqL K H b ys ∧ xs[ix]? = some x ∧ ys[ix]? = some y,
    fun ix H v H' => ∃ T x y zo, v = .ref T ∧ H T = none ∧ H' = upd H T (.frz zo (.tup [x, y])) ∧ zo.dict = none ∧ (∀ xs, SqL K H a xs → xs[ix]? = some x) ∧ ∀ ys, SqL K H b ys → ys[ix]? = some y,
    fun ix H => ∃ xs ys : List V, SqL K H a xs ∧ SqL K H b ys ∧ (xs.length ≤ ix ∨ ys.length ≤ ix)⟩
theorem turn_zipZ {P : Program} {w : World} {K : PySem.W.Frag} {elts : List Expr} {kk : Nat} {tpos : Pos} {a b z TI TO i1 i2 : Addr} (D : ZipApart z TI TO i1 i2 a b) :
    Turn P w K (.Tuple elts kk tpos) (ItzZ K a b) [z, TI, TO, i1, i2] z (fun ix h => IsZip h z TI TO .none ∧ IsPair h TI (.ref i1) (.ref i2) ∧ (∃ x y, IsPair h TO x y) ∧ h.IsListIter i1 a ix ∧ h.IsListIter i2 b ix) where
  mem := by simp
  obj := fun ix h sta c cc => by
    obtain ⟨gz, gTI, ⟨x, y, gTO⟩, ⟨o1, e1, _, d1⟩, ⟨o2, e2, _, d2⟩⟩ := sta
    have ee : c = z ∨ c = TI ∨ c = TO ∨ c = i1 ∨ c = i2 := by simpa using cc
    rcases ee with qq | qq | qq | qq | qq
    · rw [qq]; exact ⟨_, gz, fun v qq => nomatch qq⟩
    · rw [qq]; exact ⟨_, gTI, fun v qq => nomatch qq⟩
    · rw [qq]; exact ⟨_, gTO, fun v qq => nomatch qq⟩
    · rw [qq]; exact ⟨o1, e1, fun v qq => by rw [d1] at qq; cases qq⟩
    · rw [qq]; exact ⟨o2, e2, fun v qq => by rw [d2] at qq; cases qq⟩
  keep := fun ix h h' sta k => by
    obtain ⟨gz, gTI, ⟨x, y, gTO⟩, g1, g2⟩ := sta
    exact ⟨k z (by simp) _ gz, k TI (by simp) _ gTI, ⟨x, y, k TO (by simp) _ gTO⟩, g1.at fun o qq => k i1 (by simp) o qq, g2.at fun o qq => k i2 (by simp) o qq⟩
  item := by
    intro X hP hw hK cc ix pps sh σ H EE I fo sta yg
    subst hP hw hK
    obtain ⟨gz, gTI, ⟨x0, y0, gTO⟩, g1, g2⟩ := sta
    obtain ⟨xs, ys, x, y, lqx, lqy, gx, hy⟩ := yg
    obtain ⟨jts, sv, pl1, _⟩ := I.list lqx
    obtain ⟨jts2, sv2, p2, _⟩ := I.list lqy
    obtain ⟨u, hu, ru⟩ := sv.get gx
    obtain ⟨u2, hu2, ru2⟩ := sv2.get hy
    have hzl : z < sh.heap.objs.size := Heap.lt_size gz
    refine wpAny_pyNext_zip_item D gz gTI gTO g1 g2 pl1.isList p2.isList (x := u) (y := u2) (by simpa using hu) (by simpa using hu2) fun h' z' TO' h1' h2' hT hsz hk => ?_
    refine ⟨_, rfl, wpAny_letOwnedTupleGo_zip (s := { sh with heap := h' }) z' fun h'' z'' sb => ?_⟩
    have tT2 : h''.get? sh.heap.objs.size = some { cls := .type "tuple", data := .seq #[u, u2] } := (sb.2 _ (Nat.ne_of_gt hzl)).trans hT
    have neu : ObjOk X.prog X.w (upd H sh.heap.objs.size (.frz { cls := .type "tuple", data := .seq #[u, u2] } (.tup [x, y]))) h'' sh.heap.objs.size (.frz { cls := .type "tuple", data := .seq #[u, u2] } (.tup [x, y])) :=
      ⟨tT2, by show 2 ≤ sizeLine; decide, [u, u2], .cons ru (.cons ru2 .nil), ⟨_, tT2, rfl, _, rfl⟩⟩
    have I1 : Inv X pps σ (upd H sh.heap.objs.size (.frz { cls := .type "tuple", data := .seq #[u, u2] } (.tup [x, y]))) { sh with heap := h'' } :=
      I.turnedNew (t' := sh.toks) (ch := [z, TI, TO, i1, i2]) (fun c o nb qq => (sb.2 c (fun q' => nb (by simp [q']))).trans (hk c o (fun q' => nb (by simp [q'])) (fun q' => nb (by simp [q'])) (fun q' => nb (by simp [q'])) (fun q' => nb (by simp [q'])) qq)) fo (Nat.le_refl _) neu
    refine ⟨.ref sh.heap.objs.size, _, I1, rfl, ⟨_, x, y, _, rfl, I.hok.fresh (Nat.le_refl _), rfl, rfl, fun l hl => by rw [I.list_inj hl lqx]; exact gx, fun l hl => by rw [I.list_inj hl lqy]; exact hy⟩, ⟨z'', ?_, ⟨u, u2, ?_⟩, ?_, ?_⟩, fun c hcm => ?_⟩
    · exact (sb.2 _ D.TIz).trans (hk _ _ D.TIz D.TITO D.TIi1 D.TIi2 gTI)
    · exact (sb.2 _ D.TOz).trans TO'
    · exact h1'.at fun o qq => (sb.2 _ D.i1z).trans qq
    · exact h2'.at fun o qq => (sb.2 _ D.i2z).trans qq
    · have ltc : c < sh.heap.objs.size := by
        have ee : c = z ∨ c = TI ∨ c = TO ∨ c = i1 ∨ c = i2 := by simpa using hcm
        rcases ee with qq | qq | qq | qq | qq
        · rw [qq]; exact hzl
        · rw [qq]; exact Heap.lt_size gTI
        · rw [qq]; exact Heap.lt_size gTO
        · rw [qq]; obtain ⟨_, e1, _⟩ := g1; exact Heap.lt_size e1
        · rw [qq]; obtain ⟨_, e2, _⟩ := g2; exact Heap.lt_size e2
      rw [upd_ne (Nat.ne_of_lt ltc)]
      exact (fo c hcm).1
  done := by
    intro X hP hw hK cc ix pps sh σ H EE I fo sta yg
    subst hP hw hK
    obtain ⟨gz, gTI, ⟨x0, y0, gTO⟩, g1, g2⟩ := sta
    obtain ⟨xs, ys, lqx, lqy, hend⟩ := yg
    obtain ⟨jts, sv, pl1, _⟩ := I.list lqx
    obtain ⟨jts2, sv2, p2, _⟩ := I.list lqy
    have l1 := sv.length
    have l2 := sv2.length
    have he : jts.toArray[ix]? = none ∨ jts2.toArray[ix]? = none := by
      rcases hend with qq | qq
      · exact .inl (by simp; omega)
      · exact .inr (by simp; omega)
    exact wpAny_pyNext_zip_end (I.ok.hd cc) D gz gTI gTO g1 g2 pl1.isList p2.isList he fun h' hk => ⟨rfl, I.turnedL (t' := sh.toks) (ch := [z, TI, TO, i1, i2]) (fun c o nb qq =>
      hk c o (fun q' => nb (by simp [q'])) (fun q' => nb (by simp [q'])) (fun q' => nb (by simp [q'])) (fun q' => nb (by simp [q'])) qq) fo⟩
  self := fun A ix sh Q EE sta h => wpAny_pyIter_zip sta.1 h
def ItzTZ (K : PySem.W.Frag) (a b : Addr) : It :=
  ⟨fun ix H => ∃ (xs ys : List V) (x y : V), SqT K H a xs ∧ SqT K H b ys ∧ xs[ix]? = some x ∧ ys[ix]? = some y,
    fun ix H v H' => ∃ T x y zo, v = .ref T ∧ H T = none ∧ H' = upd H T (.frz zo (.tup [x, y])) ∧ zo.dict = none ∧ (∀ xs, SqT K H a xs → xs[ix]? = some x) ∧ ∀ ys, SqT K H b ys → ys[ix]? = some y,
    fun ix H => ∃ xs ys : List V, SqT K H a xs ∧ SqT K H b ys ∧ (xs.length ≤ ix ∨ ys.length ≤ ix)⟩
theorem turn_zipTZ {P : Program} {w : World} {K : PySem.W.Frag} {elts : List Expr} {kk : Nat} {tpos : Pos} {a b z TI TO i1 i2 : Addr} (D : ZipApart z TI TO i1 i2 a b) :
    Turn P w K (.Tuple elts kk tpos) (ItzTZ K a b) [z, TI, TO, i1, i2] z (fun ix h => IsZip h z TI TO .none ∧ IsPair h TI (.ref i1) (.ref i2) ∧ (∃ x y, IsPair h TO x y) ∧ h.IsTupleIter i1 a ix ∧ h.IsTupleIter i2 b ix) where
  mem := by simp
  obj := fun ix h sta c cc => by
    obtain ⟨gz, gTI, ⟨x, y, gTO⟩, ⟨o1, e1, _, d1⟩, ⟨o2, e2, _, d2⟩⟩ := sta
    have ee : c = z ∨ c = TI ∨ c = TO ∨ c = i1 ∨ c = i2 := by simpa using cc
    rcases ee with qq | qq | qq | qq | qq
    · rw [qq]; exact ⟨_, gz, fun v qq => nomatch qq⟩
    · rw [qq]; exact ⟨_, gTI, fun v qq => nomatch qq⟩
    · rw [qq]; exact ⟨_, gTO, fun v qq => nomatch qq⟩
    · rw [qq]; exact ⟨o1, e1, fun v qq => by rw [d1] at qq; cases qq⟩
    · rw [qq]; exact ⟨o2, e2, fun v qq => by rw [d2] at qq; cases qq⟩
  keep := fun ix h h' sta k => by
    obtain ⟨gz, gTI, ⟨x, y, gTO⟩, g1, g2⟩ := sta
    exact ⟨k z (by simp) _ gz, k TI (by simp) _ gTI, ⟨x, y, k TO (by simp) _ gTO⟩, g1.at fun o qq => k i1 (by simp) o qq, g2.at fun o qq => k i2 (by simp) o qq⟩
  item := by
    intro X hP hw hK cc ix pps sh σ H EE I fo sta yg
    subst hP hw hK
    obtain ⟨gz, gTI, ⟨x0, y0, gTO⟩, g1, g2⟩ := sta
    obtain ⟨xs, ys, x, y, lqx, lqy, gx, hy⟩ := yg
    obtain ⟨jts, sv, pl1, _⟩ := I.tuple lqx
    obtain ⟨jts2, sv2, p2, _⟩ := I.tuple lqy
    obtain ⟨u, hu, ru⟩ := sv.get gx
    obtain ⟨u2, hu2, ru2⟩ := sv2.get hy
    have hzl : z < sh.heap.objs.size := Heap.lt_size gz
    refine pyNext_zipT_item D gz gTI gTO g1 g2 pl1 p2 (x := u) (y := u2) (by simpa using hu) (by simpa using hu2) fun h' z' TO' h1' h2' hT hsz hk => ?_
    refine ⟨_, rfl, wpAny_letOwnedTupleGo_zip (s := { sh with heap := h' }) z' fun h'' z'' sb => ?_⟩
    have tT2 : h''.get? sh.heap.objs.size = some { cls := .type "tuple", data := .seq #[u, u2] } := (sb.2 _ (Nat.ne_of_gt hzl)).trans hT
    have neu : ObjOk X.prog X.w (upd H sh.heap.objs.size (.frz { cls := .type "tuple", data := .seq #[u, u2] } (.tup [x, y]))) h'' sh.heap.objs.size (.frz { cls := .type "tuple", data := .seq #[u, u2] } (.tup [x, y])) :=
      ⟨tT2, by show 2 ≤ sizeLine; decide, [u, u2], .cons ru (.cons ru2 .nil), ⟨_, tT2, rfl, _, rfl⟩⟩
    have I1 : Inv X pps σ (upd H sh.heap.objs.size (.frz { cls := .type "tuple", data := .seq #[u, u2] } (.tup [x, y]))) { sh with heap := h'' } :=
      I.turnedNew (t' := sh.toks) (ch := [z, TI, TO, i1, i2]) (fun c o nb qq => (sb.2 c (fun q' => nb (by simp [q']))).trans (hk c o (fun q' => nb (by simp [q'])) (fun q' => nb (by simp [q'])) (fun q' => nb (by simp [q'])) (fun q' => nb (by simp [q'])) qq)) fo (Nat.le_refl _) neu
    refine ⟨.ref sh.heap.objs.size, _, I1, rfl, ⟨_, x, y, _, rfl, I.hok.fresh (Nat.le_refl _), rfl, rfl, fun l hl => by rw [I.tuple_inj hl lqx]; exact gx, fun l hl => by rw [I.tuple_inj hl lqy]; exact hy⟩, ⟨z'', ?_, ⟨u, u2, ?_⟩, ?_, ?_⟩, fun c hcm => ?_⟩
    · exact (sb.2 _ D.TIz).trans (hk _ _ D.TIz D.TITO D.TIi1 D.TIi2 gTI)
    · exact (sb.2 _ D.TOz).trans TO'
    · exact h1'.at fun o qq => (sb.2 _ D.i1z).trans qq
    · exact h2'.at fun o qq => (sb.2 _ D.i2z).trans qq
    · have ltc : c < sh.heap.objs.size := by
        have ee : c = z ∨ c = TI ∨ c = TO ∨ c = i1 ∨ c = i2 := by simpa using hcm
        rcases ee with qq | qq | qq | qq | qq
        · rw [qq]; exact hzl
        · rw [qq]; exact Heap.lt_size gTI
        · rw [qq]; exact Heap.lt_size gTO
        · rw [qq]; obtain ⟨_, e1, _⟩ := g1; exact Heap.lt_size e1
        · rw [qq]; obtain ⟨_, e2, _⟩ := g2; exact Heap.lt_size e2
      rw [upd_ne (Nat.ne_of_lt ltc)]
      exact (fo c hcm).1
  done := by
    intro X hP hw hK cc ix pps sh σ H EE I fo sta yg
    subst hP hw hK
    obtain ⟨gz, gTI, ⟨x0, y0, gTO⟩, g1, g2⟩ := sta
    obtain ⟨xs, ys, lqx, lqy, hend⟩ := yg
    obtain ⟨jts, sv, pl1, _⟩ := I.tuple lqx
    obtain ⟨jts2, sv2, p2, _⟩ := I.tuple lqy
    have l1 := sv.length
    have l2 := sv2.length
    have he : jts.toArray[ix]? = none ∨ jts2.toArray[ix]? = none := by
      rcases hend with qq | qq
      · exact .inl (by simp; omega)
      · exact .inr (by simp; omega)
    exact pyNext_zipT_end (I.ok.hd cc) D gz gTI gTO g1 g2 pl1 p2 he fun h' hk => ⟨rfl, I.turnedL (t' := sh.toks) (ch := [z, TI, TO, i1, i2]) (fun c o nb qq =>
      hk c o (fun q' => nb (by simp [q'])) (fun q' => nb (by simp [q'])) (fun q' => nb (by simp [q'])) (fun q' => nb (by simp [q'])) qq) fo⟩
  self := fun A ix sh Q EE sta h => wpAny_pyIter_zip sta.1 h

def iZipZ (K : PySem.W.Frag) (ta : TA) : TI := fun σ H R => ta σ H fun vs H1 => ∃ a b xs ys, vs = [.ref a, .ref b] ∧ ((SqL K H1 a xs ∧ SqL K H1 b ys ∧ R (ItzZ K a b) H1) ∨ (SqT K H1 a xs ∧ SqT K H1 b ys ∧ R (ItzTZ K a b) H1))
theorem pi_zipZ {X : Cx} {e e2 : Expr} {ta : TA} {pl1 pos tpos : Pos} {elts : List Expr} {kk : Nat} (yg : Gl X "zip") (mz : X.mg "zip" = none) (pa1 : PA X [e, e2] ta)
    (ns1 : starEach [e, e2] X.env = (false, eval e X.env) :: starEach [e2] X.env := by rfl) (npl : (backTo pos (starEach [e2] X.env)).any (·.1) = false := by rfl) :
    PI X (.Tuple elts kk tpos) (.Call (.Name "zip" pl1) [e, e2] [] pos) (iZipZ X.K ta) := by
  refine ⟨fun pps sh σ H R I h => ?_⟩
  refine Call_ (ld_blt I yg mz PyProof.Rows.boot_zip (PyProof.Rows.callWith_type1 (thn (pa1.run pos pps sh σ H _ I h) fun uu s1 ⟨vs, H1, I1, r1, q1⟩ => ?_) ns1 npl))
  obtain ⟨a, b, xs, ys, ex, q1⟩ := q1
  subst ex
  cases r1 with
  | cons rr0 rr1 =>
    cases rr1 with
    | cons r' rr1 =>
      cases rr1
      cases rr0
      cases r'
      have fresh5 : ∀ c, c ∈ [s1.heap.objs.size + 4, s1.heap.objs.size + 2, s1.heap.objs.size + 3, s1.heap.objs.size, s1.heap.objs.size + 1] → FpOk X pps H1 c := fun c hcm => by
        have ee : c = s1.heap.objs.size + 4 ∨ c = s1.heap.objs.size + 2 ∨ c = s1.heap.objs.size + 3 ∨ c = s1.heap.objs.size ∨ c = s1.heap.objs.size + 1 := by simpa using hcm
        have lec : s1.heap.objs.size ≤ c := by
          rcases ee with z | z | z | z | z
          · rw [z]; exact Nat.le_add_right _ _
          · rw [z]; exact Nat.le_add_right _ _
          · rw [z]; exact Nat.le_add_right _ _
          · rw [z]; exact Nat.le_refl _
          · rw [z]; exact Nat.le_add_right _ _
        exact I1.fpOk lec (I1.hok.fresh lec)
      rcases q1 with ⟨lqx, lqy, qq⟩ | ⟨lqx, lqy, qq⟩
      · obtain ⟨jts, sv, p1, _⟩ := I1.list lqx
        obtain ⟨jts2, sv2, p2, _⟩ := I1.list lqy
        refine call_zip_2 p1.isList p2.isList fun h' gz gTI gTO g1 g2 hsz hk => wpAny_pyIter_zip gz ?_
        have I2 : Inv X pps σ H1 { s1 with heap := h' } := I1.kept (t' := s1.toks) hk
        exact ⟨s1.heap.objs.size + 4, [s1.heap.objs.size + 4, s1.heap.objs.size + 2, s1.heap.objs.size + 3, s1.heap.objs.size, s1.heap.objs.size + 1], _, _, H1, rfl, I2, turn_zipZ (PySem.W.ktu_apart s1.heap.objs.size a b p1.lt p2.lt), ⟨gz, gTI, ⟨_, _, gTO⟩, g1, g2⟩, fresh5, qq⟩
      · obtain ⟨jts, sv, p1, _⟩ := I1.tuple lqx
        obtain ⟨jts2, sv2, p2, _⟩ := I1.tuple lqy
        obtain ⟨o1, ho1, _⟩ := id p1
        obtain ⟨o2, ho2, _⟩ := id p2
        refine call_zipT (show s1.heap.IsTuple a jts.toArray from p1) (show s1.heap.IsTuple b jts2.toArray from p2) fun h' gz gTI gTO g1 g2 hsz hk => wpAny_pyIter_zip gz ?_
        have I2 : Inv X pps σ H1 { s1 with heap := h' } := I1.kept (t' := s1.toks) hk
        exact ⟨s1.heap.objs.size + 4, [s1.heap.objs.size + 4, s1.heap.objs.size + 2, s1.heap.objs.size + 3, s1.heap.objs.size, s1.heap.objs.size + 1], _, _, H1, rfl, I2, turn_zipTZ (PySem.W.ktu_apart s1.heap.objs.size a b (Heap.lt_size ho1) (Heap.lt_size ho2)), ⟨gz, gTI, ⟨_, _, gTO⟩, g1, g2⟩, fresh5, qq⟩

end DLT


set_option maxHeartbeats 4000000
/-! tuple * int, for any count -/
namespace DLT
open PySem PySem.Spec PyProof.Rows L2
theorem tuple_mulS (l : Addr) (items : Array Value) (n : Nat) (dd : Option Addr) (sl : Array (Option Value)) (x : Int) (u : Tok) (c0 : (decide (x < -(2 ^ 63)) || decide (x ≥ 2 ^ 63)) = false) (c1 : (items.isEmpty || x == 1) = true) :
    Meets (Builtin.«tuple.__mul__» ⟨[.ref l, .int x u], []⟩) (fun _ R s => s.heap.get? l = some { cls := .type "tuple", dict := dd, data := .seq items n, slots := sl } ∧
      R (.ok (.ret (Value.ref l))) { s with heap := s.heap, toks := s.toks }) :=
  .of_wp fun prog w A R s h => by
    obtain ⟨hp, g, d, tk, os⟩ := s
    obtain ⟨hl, h⟩ := h
    have f1 := AutoSeq1.idx_int
    have f2 := AutoSeq1.sub_tuple_tuple
    wp_walk using wpAny_loadPart' hl
    repeat (first
      | (refine wpAny_ite_false (decide_eq_false (by rw [c0]; exact Bool.false_ne_true)) ?_; wp_walk using wpAny_loadPart' hl)
      | (refine wpAny_ite_true (decide_eq_true c1) ?_; wp_walk using wpAny_loadPart' hl))
    exact ⟨_, rfl, h⟩
theorem tuple_mulN (l : Addr) (items : Array Value) (n : Nat) (dd : Option Addr) (sl : Array (Option Value)) (x : Int) (u : Tok) (c0 : (decide (x < -(2 ^ 63)) || decide (x ≥ 2 ^ 63)) = false) (c1 : (items.isEmpty || x == 1) = false) (c2 : (decide (x ≤ 0) || items.isEmpty) = true) :
    Meets (Builtin.«tuple.__mul__» ⟨[.ref l, .int x u], []⟩) (fun _ R s => s.heap.get? l = some { cls := .type "tuple", dict := dd, data := .seq items n, slots := sl } ∧
      R (.ok (.ret (Value.ref s.heap.objs.size))) { s with heap := s.heap.push { cls := Value.type "tuple", data := Data.seq #[] }, toks := s.toks }) :=
  .of_wp fun prog w A R s h => by
    obtain ⟨hp, g, d, tk, os⟩ := s
    obtain ⟨hl, h⟩ := h
    have f1 := AutoSeq1.idx_int
    have hsz : (#[] : Array Value).size ≤ sizeLine := by decide
    wp_walk using wpAny_loadPart' hl
    repeat (first
      | (refine wpAny_ite_false (decide_eq_false (by rw [c0]; exact Bool.false_ne_true)) ?_; wp_walk using wpAny_loadPart' hl)
      | (refine wpAny_ite_false (decide_eq_false (by rw [c1]; exact Bool.false_ne_true)) ?_; wp_walk using wpAny_loadPart' hl)
      | (refine wpAny_ite_true (decide_eq_true c2) ?_; wp_walk using wpAny_loadPart' hl)
      | (refine wpAny_ite_false (decide_eq_false (Nat.not_lt.mpr hsz)) ?_; wp_walk using wpAny_loadPart' hl))
    exact ⟨_, rfl, h⟩
def zRep (K : PySem.W.Frag) : R2 := fun x y H Q => ∃ l k xs, x = .ref l ∧ y = .int k ∧ SqT K H l xs ∧ -(2 ^ 63) ≤ k ∧ k ≤ 1000 ∧ xs.length ≤ 1000 ∧ (xs = [] ∨ k = 1 → Q (.ref l) H) ∧
  (xs ≠ [] → k ≠ 1 → ∀ zo p, zo.dict = none → H p = none → Q (.ref p) (upd H p (.frz zo (.tup (List.replicate k.toNat xs).flatten))))
section
variable {X : Cx}
theorem op_repZ : OpR X (binaryOp .Mult) (zRep X.K) := by
  intro pins s σ H x y v u Q I rx ry h
  obtain ⟨l, k, xs, rfl, rfl, hT, h1, h2, hz, q1, q2⟩ := h
  cases rx
  obtain ⟨t, rfl⟩ := ry
  obtain ⟨its, r, ⟨⟨cls, dd, data, sl⟩, ho, hc, n, hd⟩, hs⟩ := I.tuple hT
  simp only at hc hd
  subst hc hd
  have hle : its.length = xs.length := r.length.symm
  have c0 : (decide (k < -(2 ^ 63)) || decide (k ≥ 2 ^ 63)) = false := by
    rw [decide_eq_false (by omega), decide_eq_false (by omega)] <;> rfl
  have hemp : its.toArray.isEmpty = decide (xs = []) := by
    cases its with
    | nil =>
      have : xs = [] := List.eq_nil_of_length_eq_zero hle.symm
      simp [this]
    | cons a b =>
      have : xs ≠ [] := fun e => by rw [e] at hle; simp at hle
      simp [this]
  by_cases hsame : xs = [] ∨ k = 1
  · have c1 : (its.toArray.isEmpty || k == 1) = true := by
      rw [hemp]
      rcases hsame with e | e <;> simp [e]
    exact wpAny_binaryOp_repeat_ref (T := "tuple") (U := "int") (by decide) ⟨_, ho, rfl⟩ (fun s' => typeIs_int s' k t) noFill_tuple_mul F.fills_int_mul F.slot_int_rmul repeat_tuple F.slot_int_index.lookup
      (call_meets F.slot_int_rmul (typeIs_int s k t) F.entry_int_rmul (F.args_int_rmul_2 _ _) (int_rmul_tuple k t l its.toArray n dd sl)
        ⟨ho, rfl, ⟨_, ho, rfl⟩, call_meets F.slot_tuple_mul ⟨_, ho, rfl⟩ F.entry_tuple_mul (F.args_tuple_mul_2 _ _) (tuple_mulS l its.toArray n dd sl k t c0 c1) ⟨ho, ⟨.ref l, H, I, rfl, q1 hsame⟩⟩⟩)
  · have hne : xs ≠ [] := fun e => hsame (.inl e)
    have hk1 : k ≠ 1 := fun e => hsame (.inr e)
    have c1 : (its.toArray.isEmpty || k == 1) = false := by
      rw [hemp]
      simp [hne, hk1]
    by_cases hk0 : k ≤ 0
    · have c2 : (decide (k ≤ 0) || its.toArray.isEmpty) = true := by simp [hk0]
      have e0 : (List.replicate k.toNat xs).flatten = ([] : List V) := by
        rw [show k.toNat = 0 by omega]
        rfl
      refine wpAny_binaryOp_repeat_ref (T := "tuple") (U := "int") (by decide) ⟨_, ho, rfl⟩ (fun s' => typeIs_int s' k t) noFill_tuple_mul F.fills_int_mul F.slot_int_rmul repeat_tuple F.slot_int_index.lookup
        (call_meets F.slot_int_rmul (typeIs_int s k t) F.entry_int_rmul (F.args_int_rmul_2 _ _) (int_rmul_tuple k t l its.toArray n dd sl)
          ⟨ho, rfl, ⟨_, ho, rfl⟩, call_meets F.slot_tuple_mul ⟨_, ho, rfl⟩ F.entry_tuple_mul (F.args_tuple_mul_2 _ _) (tuple_mulN l its.toArray n dd sl k t c0 c1 c2) ⟨ho, ?_⟩⟩)
      have q := q2 hne hk1
      rw [e0] at q
      exact ⟨.ref s.heap.objs.size, _, I.laid (t' := s.toks) (o := .frz (tob _) (.tup ([] : List V))) (fun b ob y => Heap.get?_push_of_some _ y) (Nat.le_refl _) (tob_ok (us := []) (by simp) .nil), rfl, q _ _ rfl (I.hok.fresh (Nat.le_refl _))⟩
    · have hi : its.toArray.isEmpty = false := by rw [hemp]; simp [hne]
      have hsz0 : its.toArray.size = xs.length := by rw [List.size_toArray, hle]
      have hm : ((its.toArray.size : Nat) : Int) * k ≤ 1000000 := by
        rw [hsz0]
        have a1 : ((xs.length : Nat) : Int) * k ≤ 1000 * k := Int.mul_le_mul_of_nonneg_right (by omega) (by omega)
        omega
      have flen : (List.replicate k.toNat its).flatten.length ≤ sizeLine := by
        rw [PyProof.Rows.lm_len_rep_flat, hle, sizeLine_eq]
        have a1 : k.toNat * xs.length ≤ 1000 * 1000 := Nat.mul_le_mul (by omega) hz
        omega
      have c2 : (decide (k ≤ 0) || its.toArray.isEmpty) = false := by
        rw [hi, Bool.or_false]
        exact decide_eq_false (by omega)
      have c4 : Builtin.Tuple.tupleTooMany (((its.toArray.size : Nat) : Int) * k) = false := by
        unfold Builtin.Tuple.tupleTooMany
        rw [sizeLine_eq]
        exact decide_eq_false (by omega)
      refine wpAny_binaryOp_repeat_ref (T := "tuple") (U := "int") (by decide) ⟨_, ho, rfl⟩ (fun s' => typeIs_int s' k t) noFill_tuple_mul F.fills_int_mul F.slot_int_rmul repeat_tuple F.slot_int_index.lookup
        (call_meets F.slot_int_rmul (typeIs_int s k t) F.entry_int_rmul (F.args_int_rmul_2 _ _) (int_rmul_tuple k t l its.toArray n dd sl)
          ⟨ho, rfl, ⟨_, ho, rfl⟩, call_meets F.slot_tuple_mul ⟨_, ho, rfl⟩ F.entry_tuple_mul (F.args_tuple_mul_2 _ _) (tuple_mulW l its.toArray n dd sl k t c0 c1 c2 (by omega) c4 (by rw [size_rep, List.size_toArray]; exact flen)) ⟨ho, ?_⟩⟩)
      rw [size_rep]
      exact ⟨.ref s.heap.objs.size, _, I.laid (t' := s.toks) (o := .frz (tob _) (.tup (List.replicate k.toNat xs).flatten)) (fun b ob q => Heap.get?_push_of_some _ q) (Nat.le_refl _)
        (tob_ok (by rw [PyProof.Rows.lm_len_rep_flat, sizeLine_eq]; have a1 : k.toNat * xs.length ≤ 1000 * 1000 := Nat.mul_le_mul (by omega) hz; omega) (r.rep k.toNat)), rfl, q2 hne hk1 _ _ rfl (I.hok.fresh (Nat.le_refl _))⟩
end
end DLT


/-! The data layer: defs over plain data (PyData), owned lists in slots, by rules over HandS. -/
namespace DL
open PySem PySem.Spec PyProof.Rows L2

/-- what a field of an owned object holds -/
inductive Fl where
  | d (x : PyData)
  | l (xs : List PyData)
/-- what a slot holds: frozen data; an owned list of frozen data; the law's script; a dict; an object -/
inductive M where
  | d (x : PyData)
  | l (xs : List PyData)
  | scr (ns : List Int)
  | m (ks : List (Int × PyData))
  | fm (ks : List (Int × PyData))
  | o (c : Addr) (fs : List (Str × Fl))
  | fo (c : Addr) (fs : List (Str × PyData))
  | ll (xss : List (List PyData))
  | fk (ks : List (List Int))
abbrev Env := List (Option M)
structure Exn where
  cls : Str
  fs : List (Str × PyData)
inductive Rs (α : Type) where
  | ok (a : α) (e : Env)
  | ex (x : Exn) (e : Env)
  | no
def Rs.bind {α β : Type} : Rs α → (α → Env → Rs β) → Rs β
  | .ok a e, f => f a e
  | .ex x e, _ => .ex x e
  | .no, _ => .no
@[simp] theorem Rs.bind_ok {α β : Type} (a : α) (e : Env) (f : α → Env → Rs β) : (Rs.ok a e).bind f = f a e := rfl
@[simp] theorem Rs.bind_ex {α β : Type} (x : Exn) (e : Env) (f : α → Env → Rs β) : (Rs.ex x e : Rs α).bind f = .ex x e := rfl
@[simp] theorem Rs.bind_no {α β : Type} (f : α → Env → Rs β) : (Rs.no : Rs α).bind f = .no := rfl
inductive Out where
  | nx (e : Env)
  | rt (m : M) (e : Env)
  | bk (e : Env)
  | ct (e : Env)
  | ex (x : Exn) (e : Env)
  | no
def lift {α : Type} : Option α → Env → Rs α
  | some a, e => .ok a e
  | none, _ => .no
@[simp] theorem lift_some {α : Type} (a : α) (e : Env) : lift (some a) e = .ok a e := rfl
@[simp] theorem lift_none {α : Type} (e : Env) : lift (none : Option α) e = .no := rfl

/-! ### owners -/
abbrev Ow := Addr → Option Nat
def off (ow : Ow) (p : Addr) : Ow := fun a => if a = p then none else ow a
def give (ow : Ow) (p : Addr) (i : Nat) : Ow := fun a => if a = p then some i else ow a
theorem off_same {ow : Ow} {p : Addr} : off ow p p = none := if_pos rfl
theorem off_ne {ow : Ow} {p a : Addr} (h : a ≠ p) : off ow p a = ow a := if_neg h
theorem give_same {ow : Ow} {p : Addr} {i : Nat} : give ow p i p = some i := if_pos rfl
theorem give_ne {ow : Ow} {p a : Addr} {i : Nat} (h : a ≠ p) : give ow p i a = ow a := if_neg h

/-- data in the heap, none of it owned -/
def FT (K : PySem.W.Frag) (H : Hp) (ow : Ow) (a : Addr) (xs : List V) : Prop :=
  (∃ zo : Obj, H a = some (.frz zo (.tup xs)) ∧ zo.dict = none ∧ ow a = none) ∨
    ∃ (o : Obj) (its : Array Value) (n : Nat), (K.lookup a = some o ∧ o.dict = none) ∧ o.cls = .type "tuple" ∧ o.data = .seq its n ∧ its.size ≤ sizeLine ∧ Vals xs its.toList
theorem FT.sq {K : PySem.W.Frag} {H : Hp} {ow : Ow} {a : Addr} {xs : List V} (h : FT K H ow a xs) : SqT K H a xs := by
  rcases h with ⟨zo, h, _⟩ | ⟨o, its, n, h, r⟩
  · exact .inl (.inr ⟨zo, h⟩)
  · exact .inr ⟨o, its, n, h.1, r⟩
theorem FT.new {K : PySem.W.Frag} {H : Hp} {ow : Ow} {a : Addr} {xs : List V} {zo : Obj} (h : zo.dict = none) : FT K (upd H a (.frz zo (.tup xs))) (off ow a) a xs := .inl ⟨zo, upd_same, h, off_same⟩
mutual
inductive DV (K : PySem.W.Frag) (H : Hp) (ow : Ow) : V → PyData → Prop
  | non : DV K H ow .non .none
  | bl (b : Bool) : DV K H ow (.bl b) (.bool b)
  | int (i : Int) : DV K H ow (.int i) (.int i)
  | str (x : Str) : DV K H ow (.str x) (.str x)
  | lst {a : Addr} {xs : List V} {ds : List PyData} : H a = some (.lst xs) → ow a = none → DVs K H ow xs ds → ds.length ≤ 16777216 → DV K H ow (.ref a) (.list ds)
  | tup {a : Addr} {xs : List V} {ds : List PyData} : FT K H ow a xs → DVs K H ow xs ds → ds.length ≤ 16777216 → DV K H ow (.ref a) (.tuple ds)
inductive DVs (K : PySem.W.Frag) (H : Hp) (ow : Ow) : List V → List PyData → Prop
  | nil : DVs K H ow [] []
  | cons {v : V} {vs : List V} {d : PyData} {ds : List PyData} : DV K H ow v d → DVs K H ow vs ds → DVs K H ow (v :: vs) (d :: ds)
end
/-- what stands frozen stays -/
def Stay (H : Hp) (ow : Ow) (H' : Hp) (ow' : Ow) : Prop := ∀ a o, H a = some o → ow a = none → H' a = some o ∧ ow' a = none
section
variable {K : PySem.W.Frag} {H H' H'' : Hp} {ow ow' ow'' : Ow}
theorem Stay.refl : Stay H ow H ow := fun _ _ h h' => ⟨h, h'⟩
theorem Stay.trans (x : Stay H ow H' ow') (y : Stay H' ow' H'' ow'') : Stay H ow H'' ow'' := fun a o h h' => let ⟨p, q⟩ := x a o h h'; y a o p q
theorem FT.stay (st : Stay H ow H' ow') {a : Addr} {xs : List V} (h : FT K H ow a xs) : FT K H' ow' a xs := by
  rcases h with ⟨zo, h, hd, hw⟩ | h
  · exact .inl ⟨zo, (st _ _ h hw).1, hd, (st _ _ h hw).2⟩
  · exact .inr h
mutual
theorem DV.stay (st : Stay H ow H' ow') : ∀ {d : PyData} {v : V}, DV K H ow v d → DV K H' ow' v d
  | .none, _, h => by cases h; exact .non
  | .bool b, _, h => by cases h; exact .bl b
  | .int i, _, h => by cases h; exact .int i
  | .str x, _, h => by cases h; exact .str x
  | .list ds, _, h => by
    cases h with
    | lst h1 h2 h3 hz =>
      obtain ⟨p, q⟩ := st _ _ h1 h2
      exact .lst p q (DVs.stay st h3) hz
  | .tuple ds, _, h => by
    cases h with
    | tup h1 h3 hz => exact .tup (h1.stay st) (DVs.stay st h3) hz
  | .dict _, _, h => by cases h
theorem DVs.stay (st : Stay H ow H' ow') : ∀ {ds : List PyData} {vs : List V}, DVs K H ow vs ds → DVs K H' ow' vs ds
  | [], _, h => by cases h; exact .nil
  | d :: ds, _, h => by
    cases h with
    | cons h1 h2 => exact .cons (DV.stay st h1) (DVs.stay st h2)
end
mutual
theorem DV.dp : ∀ {d : PyData} {v : V}, DV K H ow v d → Dp K H v d
  | .none, _, h => by cases h; exact .non
  | .bool b, _, h => by cases h; exact .bl b
  | .int i, _, h => by cases h; exact .int i
  | .str x, _, h => by cases h; exact .str x
  | .list ds, _, h => by
    cases h with
    | lst h1 h2 h3 hz => exact .lst (.of h1) (DVs.dp h3)
  | .tuple ds, _, h => by
    cases h with
    | tup h1 h3 hz => exact .tup h1.sq (DVs.dp h3)
  | .dict _, _, h => by cases h
theorem DVs.dp : ∀ {ds : List PyData} {vs : List V}, DVs K H ow vs ds → DpAll K H vs ds
  | [], _, h => by cases h; exact .nil
  | d :: ds, _, h => by
    cases h with
    | cons h1 h2 => exact .cons (DV.dp h1) (DVs.dp h2)
end
theorem DVs.length : ∀ {ds : List PyData} {vs : List V}, DVs K H ow vs ds → vs.length = ds.length
  | [], _, h => by cases h; rfl
  | _ :: _, _, h => by
    cases h with
    | cons _ h2 => simp [DVs.length h2]
theorem DVs.get : ∀ {ds : List PyData} {vs : List V} {i : Nat} {d : PyData}, DVs K H ow vs ds → ds[i]? = some d → ∃ v, vs[i]? = some v ∧ DV K H ow v d
  | [], _, _, _, _, e => by simp at e
  | _ :: _, _, 0, _, h, e => by
    cases h with
    | cons h1 h2 => simp at e; subst e; exact ⟨_, rfl, h1⟩
  | _ :: _, _, i + 1, _, h, e => by
    cases h with
    | cons h1 h2 =>
      obtain ⟨v, a, b⟩ := DVs.get (i := i) h2 (by simpa using e)
      exact ⟨v, by simpa using a, b⟩
theorem DVs.append : ∀ {ds es : List PyData} {vs ws : List V}, DVs K H ow vs ds → DVs K H ow ws es → DVs K H ow (vs ++ ws) (ds ++ es)
  | [], _, _, _, h, k => by cases h; exact k
  | _ :: _, _, _, _, h, k => by
    cases h with
    | cons h1 h2 => exact .cons h1 (DVs.append h2 k)
theorem DVs.take : ∀ {ds : List PyData} {vs : List V} (n : Nat), DVs K H ow vs ds → DVs K H ow (vs.take n) (ds.take n)
  | _, _, 0, _ => by simpa using DVs.nil
  | [], _, n + 1, h => by cases h; exact .nil
  | _ :: _, _, n + 1, h => by
    cases h with
    | cons h1 h2 => exact .cons h1 (DVs.take n h2)
theorem DVs.drop : ∀ {ds : List PyData} {vs : List V} (n : Nat), DVs K H ow vs ds → DVs K H ow (vs.drop n) (ds.drop n)
  | _, _, 0, h => by simpa using h
  | [], _, n + 1, h => by cases h; exact .nil
  | _ :: _, _, n + 1, h => by
    cases h with
    | cons h1 h2 => simpa using DVs.drop n h2
theorem DVs.set {w : V} {x : PyData} (r : DV K H ow w x) : ∀ {ds : List PyData} {vs : List V} (n : Nat), DVs K H ow vs ds → DVs K H ow (vs.set n w) (ds.set n x)
  | [], _, n, h => by cases h; exact .nil
  | _ :: _, _, 0, h => by
    cases h with
    | cons h1 h2 => exact .cons r h2
  | _ :: _, _, n + 1, h => by
    cases h with
    | cons h1 h2 => exact .cons h1 (DVs.set r n h2)
theorem DVs.eraseIdx : ∀ {ds : List PyData} {vs : List V} (n : Nat), DVs K H ow vs ds → DVs K H ow (vs.eraseIdx n) (ds.eraseIdx n)
  | [], _, n, h => by cases h; exact .nil
  | _ :: _, _, 0, h => by
    cases h with
    | cons h1 h2 => exact h2
  | _ :: _, _, n + 1, h => by
    cases h with
    | cons h1 h2 => exact .cons h1 (DVs.eraseIdx n h2)
theorem DVs.reverse : ∀ {ds : List PyData} {vs : List V}, DVs K H ow vs ds → DVs K H ow vs.reverse ds.reverse
  | [], _, h => by cases h; exact .nil
  | _ :: _, _, h => by
    cases h with
    | cons h1 h2 =>
      rw [List.reverse_cons, List.reverse_cons]
      exact (DVs.reverse h2).append (.cons h1 .nil)
theorem DVs.dropLast {ds : List PyData} {vs : List V} (h : DVs K H ow vs ds) : DVs K H ow vs.dropLast ds.dropLast := by
  rw [List.dropLast_eq_take, List.dropLast_eq_take, h.length]
  exact h.take _
theorem DVs.ints : ∀ {ns : List Int} {vs : List V}, DVs K H ow vs (ns.map PyData.int) → vs = ns.map V.int
  | [], _, h => by cases h; rfl
  | n :: ns, _, h => by
    cases h with
    | cons h1 h2 => cases h1; rw [DVs.ints h2]; rfl
theorem DVs.of_ints : ∀ (ns : List Int), DVs K H ow (ns.map V.int) (ns.map PyData.int)
  | [] => .nil
  | n :: ns => .cons (.int n) (DVs.of_ints ns)
theorem DVs.bls : ∀ {ns : List Bool} {vs : List V}, DVs K H ow vs (ns.map PyData.bool) → vs = ns.map V.bl
  | [], _, h => by cases h; rfl
  | n :: ns, _, h => by
    cases h with
    | cons h1 h2 => cases h1; rw [DVs.bls h2]; rfl

/-- the table of a dict with whole numbers for keys -/
def DKs (K : PySem.W.Frag) (H : Hp) (ow : Ow) (vs : List (Key × V)) (ks : List (Int × PyData)) : Prop := Paired (fun p q => p.1 = Sum.inl q.1 ∧ DV K H ow p.2 q.2) vs ks
theorem DKs.stay (st : Stay H ow H' ow') {vs : List (Key × V)} {ks : List (Int × PyData)} (h : DKs K H ow vs ks) : DKs K H' ow' vs ks := Paired.mapP h fun _ _ z => ⟨z.1, z.2.stay st⟩
/-- the fields of an owned object -/
inductive FLs (K : PySem.W.Frag) (H : Hp) (ow : Ow) : List (Str × V) → List (Str × Fl) → List Addr → Prop
  | nil : FLs K H ow [] [] []
  | d {f : Str} {v : V} {x : PyData} {fv : List (Str × V)} {fs : List (Str × Fl)} {fp : List Addr} : DV K H ow v x → FLs K H ow fv fs fp → FLs K H ow ((f, v) :: fv) ((f, .d x) :: fs) fp
  | l {f : Str} {b : Addr} {vs : List V} {ds : List PyData} {fv : List (Str × V)} {fs : List (Str × Fl)} {fp : List Addr} : H b = some (.lst vs) → DVs K H ow vs ds → ds.length ≤ 16777216 → FLs K H ow fv fs fp → FLs K H ow ((f, .ref b) :: fv) ((f, .l ds) :: fs) (b :: fp)
theorem FLs.stay (st : Stay H ow H' ow') : ∀ {fv : List (Str × V)} {fs : List (Str × Fl)} {fp : List Addr}, FLs K H ow fv fs fp → (∀ p ∈ fp, H' p = H p) → FLs K H' ow' fv fs fp
  | _, _, _, .nil, _ => .nil
  | _, _, _, .d h t, hf => .d (h.stay st) (t.stay st hf)
  | _, _, _, .l h1 h2 hz t, hf => .l ((hf _ List.mem_cons_self).trans h1) (h2.stay st) hz (t.stay st fun p hp => hf p (List.mem_cons_of_mem _ hp))
theorem FLs.there : ∀ {fv : List (Str × V)} {fs : List (Str × Fl)} {fp : List Addr}, FLs K H ow fv fs fp → ∀ p ∈ fp, ∃ vs, H p = some (.lst vs)
  | _, _, _, .nil, p, hp => nomatch hp
  | _, _, _, .d _ t, p, hp => t.there p hp
  | _, _, _, .l h1 _ _ t, p, hp => by
    rcases List.mem_cons.1 hp with rfl | hp
    · exact ⟨_, h1⟩
    · exact t.there p hp
/-- the fields of a frozen object -/
def FDs (K : PySem.W.Frag) (H : Hp) (ow : Ow) (fv : List (Str × V)) (fs : List (Str × PyData)) : Prop := Paired (fun p q => p.1 = q.1 ∧ DV K H ow p.2 q.2) fv fs
theorem FDs.stay (st : Stay H ow H' ow') {fv : List (Str × V)} {fs : List (Str × PyData)} (h : FDs K H ow fv fs) : FDs K H' ow' fv fs := Paired.mapP h fun _ _ z => ⟨z.1, z.2.stay st⟩
/-- lists that one slot owns -/
inductive LLs (K : PySem.W.Frag) (H : Hp) (ow : Ow) : List Addr → List (List PyData) → Prop
  | nil : LLs K H ow [] []
  | cons {p : Addr} {vs : List V} {ds : List PyData} {as : List Addr} {xss : List (List PyData)} : H p = some (.lst vs) → DVs K H ow vs ds → ds.length ≤ 16777216 → LLs K H ow as xss → LLs K H ow (p :: as) (ds :: xss)
theorem LLs.stay (st : Stay H ow H' ow') : ∀ {as : List Addr} {xss : List (List PyData)}, LLs K H ow as xss → (∀ p ∈ as, H' p = H p) → LLs K H' ow' as xss
  | _, _, .nil, _ => .nil
  | _, _, .cons h1 h2 hz t, hf => .cons ((hf _ List.mem_cons_self).trans h1) (h2.stay st) hz (t.stay st fun p hp => hf p (List.mem_cons_of_mem _ hp))
theorem LLs.there : ∀ {as : List Addr} {xss : List (List PyData)}, LLs K H ow as xss → ∀ p ∈ as, ∃ o, H p = some o
  | _, _, .cons h1 _ _ t, p, hp => by
    rcases List.mem_cons.1 hp with rfl | hp
    · exact ⟨_, h1⟩
    · exact t.there p hp
theorem LLs.length : ∀ {as : List Addr} {xss : List (List PyData)}, LLs K H ow as xss → as.length = xss.length
  | _, _, .nil => rfl
  | _, _, .cons _ _ _ t => by rw [List.length_cons, List.length_cons, t.length]
theorem LLs.get : ∀ {as : List Addr} {xss : List (List PyData)}, LLs K H ow as xss → ∀ {k : Nat} {ds : List PyData}, xss[k]? = some ds → ∃ p vs, as[k]? = some p ∧ H p = some (.lst vs) ∧ DVs K H ow vs ds ∧ ds.length ≤ 16777216
  | _, _, .nil, k, ds, e => by simp at e
  | _, _, .cons h1 h2 hz t, 0, ds, e => by simp at e; subst e; exact ⟨_, _, rfl, h1, h2, hz⟩
  | _, _, .cons h1 h2 hz t, k + 1, ds, e => by simp at e; obtain ⟨p, vs, a, b⟩ := t.get e; exact ⟨p, vs, by simpa using a, b⟩
theorem LLs.snoc : ∀ {as : List Addr} {xss : List (List PyData)}, LLs K H ow as xss → ∀ {p : Addr} {vs : List V} {ds : List PyData}, H p = some (.lst vs) → DVs K H ow vs ds → ds.length ≤ 16777216 → LLs K H ow (as ++ [p]) (xss ++ [ds])
  | _, _, .nil, _, _, _, h1, h2, hz => .cons h1 h2 hz .nil
  | _, _, .cons g1 g2 gz t, _, _, _, h1, h2, hz => .cons g1 g2 gz (t.snoc h1 h2 hz)
/-- one of them is put anew -/
theorem LLs.put (st : Stay H ow H' ow') : ∀ {as : List Addr} {xss : List (List PyData)}, LLs K H ow as xss → as.Nodup → ∀ {k : Nat} {p : Addr} {us : List V} {zs : List PyData}, as[k]? = some p → H' p = some (.lst us) → (∀ q, q ≠ p → H' q = H q) → DVs K H' ow' us zs → zs.length ≤ 16777216 → LLs K H' ow' as (xss.set k zs)
  | _, _, .nil, _, k, p, us, zs, e, _, _, _, _ => by simp at e
  | _, _, .cons h1 h2 hz t, nd, 0, p, us, zs, e, hp, hq, du, hl => by
    simp at e; subst e
    exact .cons hp du hl (t.stay st fun q hm => hq q fun z => (List.nodup_cons.mp nd).1 (z ▸ hm))
  | _, _, .cons h1 h2 hz t, nd, k + 1, p, us, zs, e, hp, hq, du, hl => by
    simp at e
    have hm := List.mem_of_getElem? e
    exact .cons ((hq _ fun z => (List.nodup_cons.mp nd).1 (by rw [z]; exact hm)).trans h1) (h2.stay st) hz (t.put st (List.nodup_cons.mp nd).2 e hp hq du hl)
/-- a table by tuples, what its one object is -/
def DicT0 (P : Program) (w : World) (Dk : Addr) (ks : List (List Key × Addr)) (h : Heap) : Prop :=
  (Dk == sysModules) = false ∧ ∃ (xs : List (List Key × Addr × Value)) (o : Obj) (es : Array DictEntry) (ep : Nat), xs.map (fun x => (x.1, x.2.1)) = ks ∧ h.get? Dk = some o ∧ o.ExactDict ∧ o.data = .dict es ep ∧ es.toList = xs.map (entryOfKey (tupleKind (mixKind P w))) ∧ (xs.map (·.1)).Nodup
/-! ### what slots hold -/
inductive VM (K : PySem.W.Frag) (H : Hp) (ow : Ow) : V → M → List Addr → Prop
  | d {v : V} {x : PyData} : DV K H ow v x → VM K H ow v (.d x) []
  | l {a : Addr} {vs : List V} {ds : List PyData} : H a = some (.lst vs) → DVs K H ow vs ds → ds.length ≤ 16777216 → VM K H ow (.ref a) (.l ds) [a]
  | scr {a : Addr} {ns : List Int} : ns.length ≤ 16777216 → (∃ o, H a = some (.frz o (.lst (ns.map V.int))) ∧ ow a = none) ∨ (H a = some (.lst (ns.map V.int)) ∧ ow a = none) ∨ (∀ H', SqL K H' a (ns.map V.int)) → VM K H ow (.ref a) (.scr ns) []
  | m {a : Addr} {vs : List (Key × V)} {ks : List (Int × PyData)} : H a = some (.dK vs) → DKs K H ow vs ks → ks.length ≤ 16777216 → VM K H ow (.ref a) (.m ks) [a]
  | fm {a : Addr} {vs : List (Key × V)} {ks : List (Int × PyData)} : (∃ o, H a = some (.frz o (.dK vs))) → ow a = none → DKs K H ow vs ks → ks.length ≤ 16777216 → VM K H ow (.ref a) (.fm ks) []
  | o {a c dx : Addr} {fv : List (Str × V)} {fs : List (Str × Fl)} {fp : List Addr} : H a = some (.ins c dx fv) → FLs K H ow fv fs fp → VM K H ow (.ref a) (.o c fs) (a :: fp)
  | fo {a c dx : Addr} {fv : List (Str × V)} {fs : List (Str × PyData)} : H a = some (.ins c dx fv) → ow a = none → FDs K H ow fv fs → VM K H ow (.ref a) (.fo c fs) []
  | ll {a : Addr} {as : List Addr} {xss : List (List PyData)} : H a = some (.lst (as.map V.ref)) → LLs K H ow as xss → xss.length ≤ 16777216 → VM K H ow (.ref a) (.ll xss) (a :: as)
  | fk {a : Addr} {as : List (List Key × Addr)} {ks : List (List Int)} {φ : Heap → Prop} : H a = some (.ext φ) → ow a = none → (∀ h, φ h → ∀ P w, DicT0 P w a as h) → as.map (·.1) = ks.map (fun ns => ns.map Sum.inl) → (∀ x ∈ as, FT K H ow x.2 (x.1.map kV)) → ks.length ≤ 16777216 → VM K H ow (.ref a) (.fk ks) []
theorem VM.stay (st : Stay H ow H' ow') {v : V} {m : M} {fp : List Addr} (h : VM K H ow v m fp) (hf : ∀ p ∈ fp, H' p = H p) : VM K H' ow' v m fp := by
  cases h with
  | d h => exact .d (h.stay st)
  | l h1 h2 hz => exact .l ((hf _ (by simp)).trans h1) (h2.stay st) hz
  | scr hz h =>
    rcases h with ⟨o, h, h'⟩ | ⟨h, h'⟩ | h
    · exact .scr hz (.inl ⟨o, st _ _ h h'⟩)
    · exact .scr hz (.inr (.inl (st _ _ h h')))
    · exact .scr hz (.inr (.inr h))
  | m h1 h2 hz => exact .m ((hf _ (by simp)).trans h1) (h2.stay st) hz
  | fm h1 h0 h2 hz => obtain ⟨o, h1⟩ := h1; exact .fm ⟨o, (st _ _ h1 h0).1⟩ (st _ _ h1 h0).2 (h2.stay st) hz
  | o h1 h2 => exact .o ((hf _ List.mem_cons_self).trans h1) (h2.stay st fun p hp => hf p (List.mem_cons_of_mem _ hp))
  | fo h1 h0 h2 => exact .fo (st _ _ h1 h0).1 (st _ _ h1 h0).2 (h2.stay st)
  | ll h1 h2 hz => exact .ll ((hf _ List.mem_cons_self).trans h1) (h2.stay st fun p hp => hf p (List.mem_cons_of_mem _ hp)) hz
  | fk h1 h0 h3 h4 h5 hz => exact .fk (st _ _ h1 h0).1 (st _ _ h1 h0).2 h3 h4 (fun x hx => (h5 x hx).stay st) hz
theorem VM.there {v : V} {m : M} {fp : List Addr} (h : VM K H ow v m fp) : ∀ p ∈ fp, ∃ o, H p = some o := by
  cases h with
  | d h => intro p hp; cases hp
  | l h1 h2 hz => intro p hp; simp at hp; subst hp; exact ⟨_, h1⟩
  | scr hz h => intro p hp; cases hp
  | m h1 h2 hz => intro p hp; simp at hp; subst hp; exact ⟨_, h1⟩
  | fm h1 h0 h2 hz => intro p hp; cases hp
  | o h1 h2 =>
    intro p hp
    rcases List.mem_cons.1 hp with rfl | hp
    · exact ⟨_, h1⟩
    · obtain ⟨vs, h⟩ := h2.there p hp
      exact ⟨_, h⟩
  | fo h1 h0 h2 => intro p hp; cases hp
  | fk h1 h0 h3 h4 h5 hz => intro p hp; cases hp
  | ll h1 h2 hz =>
    intro p hp
    rcases List.mem_cons.1 hp with rfl | hp
    · exact ⟨_, h1⟩
    · exact h2.there p hp
end

structure Cc where
  N : Nat
  io : Nat → Option V
  cl : Str → Option Addr
  W : WX

/-- the slots -/
structure RpE (K : PySem.W.Frag) (C : Cc) (H : Hp) (ow : Ow) (σ : L2.St) (env : Env) : Prop where
  sl : ∀ (i : Nat) (m : M), env[i]? = some (some m) → ∃ v fp, σ[i]? = some (some v) ∧ VM K H ow v m fp ∧ fp.Nodup ∧ ∀ p ∈ fp, ow p = some i
  io : ∀ (i : Nat) (v : V), C.io i = some v → σ[i]? = some (some v)
  len : env.length = C.N
  lenS : σ.length = C.N

/-- behind a piece: what is not ours stands -/
def Ext (N : Nat) (H : Hp) (ow : Ow) (H' : Hp) (ow' : Ow) : Prop := ∀ a o, H a = some o → (∀ i, ow a = some i → N < i) → H' a = some o ∧ ow' a = ow a
section
variable {K : PySem.W.Frag} {H H' H'' : Hp} {ow ow' ow'' : Ow} {N : Nat} {C : Cc} {σ : L2.St} {env : Env}
theorem Ext.refl : Ext N H ow H ow := fun _ _ h _ => ⟨h, rfl⟩
theorem Ext.trans (x : Ext N H ow H' ow') (y : Ext N H' ow' H'' ow'') : Ext N H ow H'' ow'' := fun a o h h' => by
  obtain ⟨p, q⟩ := x a o h h'
  obtain ⟨r, t⟩ := y a o p fun i e => h' i (by rw [← q]; exact e)
  exact ⟨r, t.trans q⟩
theorem Ext.stay (x : Ext N H ow H' ow') : Stay H ow H' ow' := fun a o h h' => by
  obtain ⟨p, q⟩ := x a o h fun i e => by rw [h'] at e; cases e
  exact ⟨p, q.trans h'⟩
/-- all that stood stands, owned as it was -/
def Gr (H : Hp) (ow : Ow) (H' : Hp) (ow' : Ow) : Prop := ∀ a o, H a = some o → H' a = some o ∧ ow' a = ow a
theorem Gr.refl : Gr H ow H ow := fun _ _ h => ⟨h, rfl⟩
theorem Gr.trans (x : Gr H ow H' ow') (y : Gr H' ow' H'' ow'') : Gr H ow H'' ow'' := fun a o h => by
  obtain ⟨p, q⟩ := x a o h
  obtain ⟨r, t⟩ := y a o p
  exact ⟨r, t.trans q⟩
theorem Gr.ext (x : Gr H ow H' ow') : Ext N H ow H' ow' := fun a o h _ => x a o h
theorem Gr.stay (x : Gr H ow H' ow') : Stay H ow H' ow' := fun a o h h' => let ⟨p, q⟩ := x a o h; ⟨p, q.trans h'⟩
theorem Gr.new {p : Addr} {o : HO} (h : H p = none) : Gr H ow (upd H p o) (off ow p) := fun a u e =>
  ⟨by rw [upd_ne (ne_of_none e h)]; exact e, off_ne (ne_of_none e h)⟩
theorem Gr.newG {p : Addr} {o : HO} {i : Nat} (h : H p = none) : Gr H ow (upd H p o) (give ow p i) := fun a u e =>
  ⟨by rw [upd_ne (ne_of_none e h)]; exact e, give_ne (ne_of_none e h)⟩
theorem RpE.gr (x : Gr H ow H' ow') (R : RpE K C H ow σ env) : RpE K C H' ow' σ env :=
  ⟨fun i m e => by
    obtain ⟨v, fp, h1, h2, h3, h4⟩ := R.sl i m e
    have hk : ∀ p ∈ fp, H' p = H p ∧ ow' p = ow p := fun p hp => by
      obtain ⟨o, ho⟩ := h2.there p hp
      obtain ⟨a, b⟩ := x p o ho
      exact ⟨a.trans ho.symm, b⟩
    exact ⟨v, fp, h1, h2.stay x.stay fun p hp => (hk p hp).1, h3, fun p hp => (hk p hp).2.trans (h4 p hp)⟩, R.io, R.len, R.lenS⟩

/-! ### readings -/
/-- an exception at d -/
def XR (K : PySem.W.Frag) (C : Cc) (H : Hp) (ow : Ow) (x : Exn) (c : Value) (dx : Option Addr) : Prop :=
  ∃ a, C.cl x.cls = some a ∧ c = .ref a ∧ ∃ d fs, dx = some d ∧ H d = some (.xd fs) ∧ ow d = none ∧ fs.map (·.1) = x.fs.map (·.1) ∧ DVs K H ow (fs.map (·.2)) (x.fs.map (·.2))
def rdAt {α β : Type} (K : PySem.W.Frag) (C : Cc) (R : Hp → Ow → β → α → Prop) (σ : L2.St) (H : Hp) (ow : Ow) (Q : β → Hp → Prop) : Rs α → Prop
  | .ok a env' => ∀ v H' ow', Ext C.N H ow H' ow' → R H' ow' v a → RpE K C H' ow' σ env' → Q v H'
  | .ex x env' => ∀ c dx H' ow', Ext C.N H ow H' ow' → XR K C H' ow' x c dx → RpE K C H' ow' σ env' → C.W c dx σ H'
  | .no => False
def rd {α β : Type} (K : PySem.W.Frag) (C : Cc) (R : Hp → Ow → β → α → Prop) (t : Env → Rs α) (σ : L2.St) (H : Hp) (Q : β → Hp → Prop) : Prop :=
  ∃ env ow, RpE K C H ow σ env ∧ rdAt K C R σ H ow Q (t env)
abbrev RE (K : PySem.W.Frag) : Hp → Ow → V → PyData → Prop := fun H ow v d => DV K H ow v d
abbrev RT : Hp → Ow → Bool → Bool → Prop := fun _ _ b c => b = c
abbrev RA (K : PySem.W.Frag) : Hp → Ow → List V → List PyData → Prop := fun H ow v d => DVs K H ow v d
abbrev RM (K : PySem.W.Frag) (N : Nat) : Hp → Ow → V → M → Prop := fun H ow v m => ∃ fp, VM K H ow v m fp ∧ fp.Nodup ∧ ∀ p ∈ fp, ow p = some N
variable {α β γ δ : Type} {R : Hp → Ow → β → α → Prop} {R1 : Hp → Ow → δ → γ → Prop} {Q : β → Hp → Prop} {r : Rs α}
theorem rdAt_from (x : Ext C.N H ow H' ow') (h : rdAt K C R σ H ow Q r) : rdAt K C R σ H' ow' Q r := by
  cases r with
  | ok a e => exact fun v H2 ow2 y => h v H2 ow2 (x.trans y)
  | ex a e => exact fun c dx H2 ow2 y => h c dx H2 ow2 (x.trans y)
  | no => exact h
theorem rdAt_mono {Q' : β → Hp → Prop} (h : rdAt K C R σ H ow Q r) (q : ∀ v H', Q v H' → Q' v H') : rdAt K C R σ H ow Q' r := by
  cases r with
  | ok a e => exact fun v H2 ow2 x y z => q _ _ (h v H2 ow2 x y z)
  | ex a e => exact h
  | no => exact h
/-- first r, then u -/
theorem rdAt_bind {r : Rs γ} {u : γ → Env → Rs α} (h : rdAt K C R σ H ow Q (r.bind u)) :
    rdAt K C R1 σ H ow (fun v H1 => ∃ a env1 ow1, Ext C.N H ow H1 ow1 ∧ R1 H1 ow1 v a ∧ RpE K C H1 ow1 σ env1 ∧ rdAt K C R σ H1 ow1 Q (u a env1)) r := by
  cases r with
  | ok a e => exact fun v H2 ow2 x y z => ⟨a, e, ow2, x, y, z, rdAt_from x h⟩
  | ex a e => exact h
  | no => exact h
/-- the last step: the value is there -/
theorem rdAt_fin {v : β} {a : α} (h : rdAt K C R σ H ow Q (.ok a env)) (x : Gr H ow H' ow') (y : R H' ow' v a) (z : RpE K C H ow σ env) : Q v H' := h v H' ow' x.ext y (z.gr x)
theorem rdAt_lift {v : β} {o : Option α} (h : rdAt K C R σ H ow Q (lift o env)) : ∃ a, o = some a ∧ rdAt K C R σ H ow Q (.ok a env) := by
  cases o with
  | none => exact h.elim
  | some a => exact ⟨a, rfl, h⟩
end

/-! ### judgements -/
def DE (X : Cx) (C : Cc) (e : Expr) (t : Env → Rs PyData) : Prop := PE X e (rd X.K C (RE X.K) t)
def DM (X : Cx) (C : Cc) (e : Expr) (t : Env → Rs M) : Prop := PE X e (rd X.K C (RM X.K C.N) t)
def DT (X : Cx) (C : Cc) (e : Expr) (t : Env → Rs Bool) : Prop := PT X e (rd X.K C RT t)
def DW (X : Cx) (C : Cc) (e : Expr) (t : Env → Rs Bool) : Prop := PW X e (rd X.K C RT t)
def DA (X : Cx) (C : Cc) (es : List Expr) (t : Env → Rs (List PyData)) : Prop := PA X es (rd X.K C (RA X.K) t)
theorem PEweak {X : Cx} {e : Expr} {t t' : TE} (h : PE X e t) (w : ∀ σ H Q, t' σ H Q → t σ H Q) : PE X e t' := ⟨fun pins s σ H Q I q => h.run pins s σ H Q I (w σ H Q q)⟩
theorem PTweak {X : Cx} {e : Expr} {t t' : TT} (h : PT X e t) (w : ∀ σ H Q, t' σ H Q → t σ H Q) : PT X e t' := ⟨fun pins s σ H Q I q => h.run pins s σ H Q I (w σ H Q q)⟩
theorem PWweak {X : Cx} {e : Expr} {t t' : TT} (h : PW X e t) (w : ∀ σ H Q, t' σ H Q → t σ H Q) : PW X e t' := ⟨fun wh pins s σ H Q I q => h.run wh pins s σ H Q I (w σ H Q q)⟩
theorem PAweak {X : Cx} {e : List Expr} {t t' : TA} (h : PA X e t) (w : ∀ σ H Q, t' σ H Q → t σ H Q) : PA X e t' := ⟨fun pos pins s σ H Q I q => h.run pos pins s σ H Q I (w σ H Q q)⟩
theorem PSweak {X : Cx} {e : Stmt} {t t' : TS} (h : PS X e t) (w : ∀ D σ H, t' D σ H → t D σ H) : PS X e t' := ⟨fun pins s σ H D I q => h.run pins s σ H D I (w D σ H q)⟩
theorem PSsweak {X : Cx} {e : List Stmt} {t t' : TS} (h : PSs X e t) (w : ∀ D σ H, t' D σ H → t D σ H) : PSs X e t' := ⟨fun pins s σ H D I q => h.run pins s σ H D I (w D σ H q)⟩
/-- two in a row -/
theorem rd_two {K : PySem.W.Frag} {C : Cc} {α β γ δ α1 β1 : Type} {R : Hp → Ow → β → α → Prop} {R1 : Hp → Ow → δ → γ → Prop} {R2 : Hp → Ow → β1 → α1 → Prop} {σ : L2.St} {H : Hp} {Q : β → Hp → Prop}
    {ta : Env → Rs γ} {tb : Env → Rs α1} {f : γ → α1 → Env → Rs α} {k : δ → β1 → Hp → Prop}
    (h : rd K C R (fun env => (ta env).bind fun x e1 => (tb e1).bind fun y e2 => f x y e2) σ H Q)
    (st : ∀ (H H' : Hp) (ow ow' : Ow) v d, Stay H ow H' ow' → R1 H ow v d → R1 H' ow' v d)
    (hk : ∀ v w x y H ow env, R1 H ow v x → R2 H ow w y → RpE K C H ow σ env → rdAt K C R σ H ow Q (f x y env) → k v w H) :
    rd K C R1 ta σ H fun v H1 => rd K C R2 tb σ H1 fun w H2 => k v w H2 := by
  obtain ⟨env, ow, P, h⟩ := h
  refine ⟨env, ow, P, rdAt_mono (rdAt_bind h) fun v H1 ⟨x, e1, ow1, X1, V1, P1, h1⟩ => ⟨e1, ow1, P1, rdAt_mono (rdAt_bind h1) fun w H2 ⟨y, e2, ow2, X2, V2, P2, h2⟩ => ?_⟩⟩
  exact hk v w x y H2 ow2 e2 (st _ _ _ _ _ _ X2.stay V1) V2 P2 h2
theorem rd_one {K : PySem.W.Frag} {C : Cc} {α β γ δ : Type} {R : Hp → Ow → β → α → Prop} {R1 : Hp → Ow → δ → γ → Prop} {σ : L2.St} {H : Hp} {Q : β → Hp → Prop}
    {ta : Env → Rs γ} {f : γ → Env → Rs α} {k : δ → Hp → Prop}
    (h : rd K C R (fun env => (ta env).bind f) σ H Q)
    (hk : ∀ v x H ow env, R1 H ow v x → RpE K C H ow σ env → rdAt K C R σ H ow Q (f x env) → k v H) :
    rd K C R1 ta σ H k := by
  obtain ⟨env, ow, P, h⟩ := h
  exact ⟨env, ow, P, rdAt_mono (rdAt_bind h) fun v H1 ⟨x, e1, ow1, X1, V1, P1, h1⟩ => hk v x H1 ow1 e1 V1 P1 h1⟩
end DL


namespace DL
open PySem PySem.Spec PyProof.Rows L2

/-! ### operators by data -/
def Op2 (K : PySem.W.Frag) (r : R2) (f : PyData → PyData → Option PyData) : Prop :=
  ∀ v w x y o H ow (Q : VK), DV K H ow v x → DV K H ow w y → f x y = some o → (∀ v' H' ow', Gr H ow H' ow' → DV K H' ow' v' o → Q v' H') → r v w H Q
def e2 (f : PyData → PyData → Option PyData) (ta tb : Env → Rs PyData) : Env → Rs PyData := fun env => (ta env).bind fun x e1 => (tb e1).bind fun y e2 => lift (f x y) e2
def e1 (f : PyData → Option PyData) (ta : Env → Rs PyData) : Env → Rs PyData := fun env => (ta env).bind fun x e1 => lift (f x) e1
section
variable {X : Cx} {C : Cc} {a b : Expr} {ta tb : Env → Rs PyData} {pos : Pos} {f : PyData → PyData → Option PyData} {r : R2}
theorem rd_op {K : PySem.W.Frag} (hop : Op2 K r f) {σ : L2.St} {H : Hp} {Q : VK} (h : rd K C (RE K) (e2 f ta tb) σ H Q) : tOp r (rd K C (RE K) ta) (rd K C (RE K) tb) σ H Q := by
  refine rd_two (R1 := RE K) (R2 := RE K) h (fun H H' ow ow' v d st x => DV.stay st x) fun v w x y H ow env hv hw P h => ?_
  obtain ⟨o, e, h⟩ := rdAt_lift (v := V.non) h
  exact hop v w x y o H ow Q hv hw e fun v' H' ow' g d => h v' H' ow' g.ext d (P.gr g)
theorem de_op {op : Operator} (ho : OpR X (binaryOp op) r) (hop : Op2 X.K r f) (ha : DE X C a ta) (hb : DE X C b tb) : DE X C (.BinOp a op b pos) (e2 f ta tb) :=
  PEweak (pe_op ho ha hb) fun σ H Q h => rd_op hop h
theorem de_cmp {op : CmpOp} (ho : OpR X (compareOp op) r) (hop : Op2 X.K r f) (ha : DE X C a ta) (hb : DE X C b tb) (hm : behindInMarks op b = false) : DE X C (.Compare a [op] [b] pos) (e2 f ta tb) :=
  PEweak (pe_cmpR ho ha hb hm) fun σ H Q h => rd_op hop h
/-- a bool's data as a test -/
def tb1 (t : Env → Rs PyData) : Env → Rs Bool := fun env => (t env).bind fun d e => match d with | .bool b => .ok b e | _ => .no
theorem rd_tb {K : PySem.W.Frag} {t : Env → Rs PyData} {σ : L2.St} {H : Hp} {Q : Bool → Hp → Prop} (h : rd K C RT (tb1 t) σ H Q) : rd K C (RE K) t σ H fun x H1 => ∃ c, x = .bl c ∧ Q c H1 := by
  refine rd_one (R1 := RE K) h fun v x H ow env hv P h => ?_
  cases x with
  | bool b => cases hv; exact ⟨b, rfl, h b H ow Ext.refl rfl P⟩
  | _ => exact h.elim
theorem rdE_mono {K : PySem.W.Frag} {α β : Type} {R : Hp → Ow → β → α → Prop} {t : Env → Rs α} {σ : L2.St} {H : Hp} {Q Q' : β → Hp → Prop} (h : rd K C R t σ H Q) (q : ∀ v H, Q v H → Q' v H) : rd K C R t σ H Q' := by
  obtain ⟨env, ow, P, h⟩ := h
  exact ⟨env, ow, P, rdAt_mono h q⟩
/-- the comparison of the readings, for tests: op's reading under a weaker end -/
theorem dt_cmp {op : CmpOp} (ho : OpR X (compareOp op) r) (hop : Op2 X.K r f) (ha : DE X C a ta) (hb : DE X C b tb) (hm : behindInMarks op b = false) : DT X C (.Compare a [op] [b] pos) (tb1 (e2 f ta tb)) :=
  PTweak (pt_cmpR ho ha hb hm) fun σ H Q h => rd_op hop (rd_tb h)
theorem dt_val {e : Expr} {t : Env → Rs PyData} (h : DE X C e t) (he : ∀ whole, isTrue e X.env whole = (do let v ← whole; standAt e.pos; holding [v] (truthy v)) := by intro _; rfl) : DT X C e (tb1 t) :=
  PTweak (pt_val h he) fun σ H Q h => rd_tb h
/-- truth -/
def tru : PyData → Option Bool
  | .none => some false
  | .bool b => some b
  | .int i => some (i != 0)
  | .str y => if y.length ≤ 16777216 then some ((y.length : Int) != 0) else none
  | .list xs => some (!xs.isEmpty)
  | .tuple xs => some (!xs.isEmpty)
  | .dict _ => none
def tt1 (t : Env → Rs PyData) : Env → Rs Bool := fun env => (t env).bind fun d e => lift (tru d) e
theorem DVs.isEmpty {K : PySem.W.Frag} {H : Hp} {ow : Ow} : ∀ {ds : List PyData} {vs : List V}, DVs K H ow vs ds → vs.isEmpty = ds.isEmpty
  | [], _, h => by cases h; rfl
  | _ :: _, _, h => by
    cases h with
    | cons _ _ => rfl
theorem tru_V {K : PySem.W.Frag} {H : Hp} {ow : Ow} {v : V} {x : PyData} {k : Bool} (h : DV K H ow v x) (e : tru x = some k) : TruV K v H k := by
  cases h with
  | non => cases e; rfl
  | bl b => cases e; rfl
  | int i => cases e; rfl
  | str y =>
    have e : (if y.length ≤ 16777216 then some ((y.length : Int) != 0) else none) = some k := e
    by_cases hl : y.length ≤ 16777216
    · rw [if_pos hl] at e
      cases e
      exact ⟨by rw [sizeLine_eq]; exact hl, rfl⟩
    · rw [if_neg hl] at e; cases e
  | lst h1 h2 h3 hz =>
    cases e
    exact .inl ⟨_, .of h1, by rw [h3.isEmpty]⟩
  | tup h1 h3 hz =>
    cases e
    exact .inr (.inl ⟨_, h1.sq, by rw [h3.isEmpty]⟩)
theorem dt_truth {e : Expr} {t : Env → Rs PyData} (h : DE X C e t) (he : ∀ whole, isTrue e X.env whole = (do let v ← whole; standAt e.pos; holding [v] (truthy v)) := by intro _; rfl) : DT X C e (tt1 t) :=
  PTweak (pt_truth h he) fun σ H Q h => rd_one (R1 := RE X.K) h fun v x H ow env hv P h => by
    obtain ⟨k, e, h⟩ := rdAt_lift (v := true) h
    exact ⟨k, tru_V hv e, h k H ow Ext.refl rfl P⟩
def tNotD (t : Env → Rs Bool) : Env → Rs Bool := fun env => (t env).bind fun b e => .ok (!b) e
def tAndD (t u : Env → Rs Bool) : Env → Rs Bool := fun env => (t env).bind fun b e => if b = true then u e else .ok false e
def tOrD (t u : Env → Rs Bool) : Env → Rs Bool := fun env => (t env).bind fun b e => if b = true then .ok true e else u e
variable {t u : Env → Rs Bool} {rest : List Expr}
theorem dt_not (h : DT X C a t) : DT X C (.UnaryOp .Not a pos) (tNotD t) :=
  PTweak (pt_not h) fun σ H Q h => rd_one (R1 := RT) h fun v x H ow env hv P h => by subst hv; exact h _ H ow Ext.refl rfl P
theorem dw_and1 (h : DT X C a t) : DW X C (.BoolOp .And [a] pos) t := pw_and1 h
theorem dw_or1 (h : DT X C a t) : DW X C (.BoolOp .Or [a] pos) t := pw_or1 h
theorem dw_and (ha : DT X C a t) (hb : DW X C (.BoolOp .And (b :: rest) pos) u) : DW X C (.BoolOp .And (a :: b :: rest) pos) (tAndD t u) :=
  PWweak (pw_and ha hb) fun σ H Q ⟨env, ow, P, h⟩ => ⟨env, ow, P, rdAt_mono (rdAt_bind (R1 := RT) h) fun v H1 ⟨x, e1, ow1, X1, V1, P1, h1⟩ => by
    cases V1
    cases v with
    | true => exact iteT ⟨e1, ow1, P1, h1⟩
    | false => exact iteF (h1 false H1 ow1 Ext.refl rfl P1)⟩
theorem dw_or (ha : DT X C a t) (hb : DW X C (.BoolOp .Or (b :: rest) pos) u) : DW X C (.BoolOp .Or (a :: b :: rest) pos) (tOrD t u) :=
  PWweak (pw_or ha hb) fun σ H Q ⟨env, ow, P, h⟩ => ⟨env, ow, P, rdAt_mono (rdAt_bind (R1 := RT) h) fun v H1 ⟨x, e1, ow1, X1, V1, P1, h1⟩ => by
    cases V1
    cases v with
    | true => exact iteT (h1 true H1 ow1 Ext.refl rfl P1)
    | false => exact iteF ⟨e1, ow1, P1, h1⟩⟩
theorem dt_w {e : Expr} (h : DW X C e t) : DT X C e t := PW.pt h
/-- as values: a not, an and, an or of bools -/
def eNot (t : Env → Rs PyData) : Env → Rs PyData := fun env => (tb1 t env).bind fun b e => .ok (.bool (!b)) e
def eAnd (t u : Env → Rs PyData) : Env → Rs PyData := fun env => (tb1 t env).bind fun b e => if b = true then u e else .ok (.bool false) e
def eOr (t u : Env → Rs PyData) : Env → Rs PyData := fun env => (tb1 t env).bind fun b e => if b = true then .ok (.bool true) e else u e
theorem de_not (h : DE X C a ta) : DE X C (.UnaryOp .Not a pos) (eNot ta) :=
  PEweak (pe_not h) fun σ H Q ⟨env, ow, P, h⟩ => rd_tb ⟨env, ow, P, rdAt_mono (rdAt_bind (R1 := RT) h) fun v H1 ⟨x, e1, ow1, X1, V1, P1, h1⟩ => by
    cases V1; exact h1 _ H1 ow1 Ext.refl (.bl _) P1⟩
theorem de_one {op : BoolOp} (h : DE X C a ta) : DE X C (.BoolOp op [a] pos) ta := pe_one h
theorem de_and (ha : DE X C a ta) (hb : DE X C (.BoolOp .And (b :: rest) pos) tb) : DE X C (.BoolOp .And (a :: b :: rest) pos) (eAnd ta tb) :=
  PEweak (pe_and ha hb) fun σ H Q ⟨env, ow, P, h⟩ => rd_tb ⟨env, ow, P, rdAt_mono (rdAt_bind (R1 := RT) h) fun v H1 ⟨x, e1, ow1, X1, V1, P1, h1⟩ => by
    cases V1
    cases v with
    | true => exact iteT ⟨e1, ow1, P1, h1⟩
    | false => exact iteF (h1 _ H1 ow1 Ext.refl (.bl _) P1)⟩
theorem de_or (ha : DE X C a ta) (hb : DE X C (.BoolOp .Or (b :: rest) pos) tb) : DE X C (.BoolOp .Or (a :: b :: rest) pos) (eOr ta tb) :=
  PEweak (pe_or ha hb) fun σ H Q ⟨env, ow, P, h⟩ => rd_tb ⟨env, ow, P, rdAt_mono (rdAt_bind (R1 := RT) h) fun v H1 ⟨x, e1, ow1, X1, V1, P1, h1⟩ => by
    cases V1
    cases v with
    | true => exact iteT (h1 _ H1 ow1 Ext.refl (.bl _) P1)
    | false => exact iteF ⟨e1, ow1, P1, h1⟩⟩
def eIf {α : Type} (c : Env → Rs Bool) (t u : Env → Rs α) : Env → Rs α := fun env => (c env).bind fun b e => if b = true then t e else u e
theorem de_if {c : Expr} {tc : Env → Rs Bool} (hc : DT X C c tc) (ha : DE X C a ta) (hb : DE X C b tb) : DE X C (.IfExp c a b pos) (eIf tc ta tb) :=
  PEweak (pe_ifExp hc ha hb) fun σ H Q ⟨env, ow, P, h⟩ => ⟨env, ow, P, rdAt_mono (rdAt_bind (R1 := RT) h) fun v H1 ⟨x, e1, ow1, X1, V1, P1, h1⟩ => by
    cases V1
    cases v with
    | true => exact iteT ⟨e1, ow1, P1, h1⟩
    | false => exact iteF ⟨e1, ow1, P1, h1⟩⟩
/-- a op b op' c -/
def eChain (f g : PyData → PyData → Option PyData) (ta tb tc : Env → Rs PyData) : Env → Rs PyData := fun env =>
  (ta env).bind fun x e1 => (tb e1).bind fun y e2 => match f x y with
    | some (.bool true) => (tc e2).bind fun z e3 => lift (g y z) e3
    | some (.bool false) => .ok (.bool false) e2
    | _ => .no
variable {c : Expr} {tc : Env → Rs PyData} {g : PyData → PyData → Option PyData} {r' : R2}
theorem rd_chain {K : PySem.W.Frag} (h1 : Op2 K r f) (h2 : Op2 K r' g) {σ : L2.St} {H : Hp} {Q : VK} (h : rd K C (RE K) (eChain f g ta tb tc) σ H Q) : tChain r r' (rd K C (RE K) ta) (rd K C (RE K) tb) (rd K C (RE K) tc) σ H Q := by
  refine rd_two (R1 := RE K) (R2 := RE K) h (fun H H' ow ow' v d st x => DV.stay st x) fun v w x y H ow env hv hw P h => ?_
  cases e : f x y with
  | none => rw [e] at h; exact h.elim
  | some o =>
    rw [e] at h
    refine h1 v w x y o H ow _ hv hw e fun v' H' ow' G d => ?_
    cases o with
    | bool k =>
      cases d
      refine ⟨k, rfl, ?_⟩
      cases k with
      | false => exact iteF (h _ H' ow' G.ext (.bl _) (P.gr G))
      | true =>
        refine iteT ⟨env, ow', P.gr G, rdAt_mono (rdAt_bind (R1 := RE K) (rdAt_from G.ext h)) fun z H2 ⟨q, e2, ow2, X2, V2, P2, h3⟩ => ?_⟩
        obtain ⟨o, e3, h3⟩ := rdAt_lift (v := V.non) h3
        exact h2 w z y q o H2 ow2 Q ((hw.stay G.stay).stay X2.stay) V2 e3 fun v' H' ow' g d => h3 v' H' ow' g.ext d (P2.gr g)
    | _ => exact h.elim
theorem de_chain {op op' : CmpOp} (ho : OpR X (compareOp op) r) (h1 : Op2 X.K r f) (ho' : OpR X (compareOp op') r') (h2 : Op2 X.K r' g) (ha : DE X C a ta) (hb : DE X C b tb) (hc : DE X C c tc)
    (hm : lastMarks [op, op'] [b, c] = false := by with_unfolding_all rfl) : DE X C (.Compare a [op, op'] [b, c] pos) (eChain f g ta tb tc) := PEweak (pe_chain ho ho' ha hb hc hm) fun σ H Q h => rd_chain h1 h2 h
theorem dt_chain {op op' : CmpOp} (ho : OpR X (compareOp op) r) (h1 : Op2 X.K r f) (ho' : OpR X (compareOp op') r') (h2 : Op2 X.K r' g) (ha : DE X C a ta) (hb : DE X C b tb) (hc : DE X C c tc)
    (hm : lastMarks [op, op'] [b, c] = false := by with_unfolding_all rfl) : DT X C (.Compare a [op, op'] [b, c] pos) (tb1 (eChain f g ta tb tc)) := PTweak (pt_chain ho ho' ha hb hc hm) fun σ H Q h => rd_chain h1 h2 (rd_tb h)
end

/-! ### names, constants, displays -/
def slotD (env : Env) (i : Nat) : Option PyData := match env[i]? with
  | some (some (.d x)) => some x
  | _ => none
def eVar (i : Nat) : Env → Rs PyData := fun env => lift (slotD env i) env
def eC (x : PyData) : Env → Rs PyData := fun env => .ok x env
section
variable {X : Cx} {C : Cc} {pos : Pos}
theorem slot_d {K : PySem.W.Frag} {H : Hp} {ow : Ow} {σ : L2.St} {env : Env} {i : Nat} {x : PyData} (P : RpE K C H ow σ env) (e : slotD env i = some x) : ∃ v, σ[i]? = some (some v) ∧ DV K H ow v x := by
  unfold slotD at e
  split at e
  · rename_i y h
    cases e
    obtain ⟨v, fp, h1, h2, _⟩ := P.sl i _ h
    cases h2 with
    | d h => exact ⟨v, h1, h⟩
  · cases e
theorem de_var (i : Nat) {x : Str} (hN : X.N[i]? = some x := by rfl) (hv : Vis X.env.scope x := by first | exact Or.inl rfl | exact Or.inr (Or.inl rfl) | exact Or.inr (Or.inr rfl)) (hd : (x == ("__debug__" : Str)) = false := by decide)
    (hcd : (x == ("__classdict__" : Str)) = false := by decide) : DE X C (.Name x pos) (eVar i) :=
  PEweak (pe_var hN hv hd hcd) fun σ H Q ⟨env, ow, P, h⟩ => by
    obtain ⟨x, e, h⟩ := rdAt_lift (v := V.non) h
    obtain ⟨v, h1, h2⟩ := slot_d P e
    exact ⟨v, h1, h v H ow Ext.refl h2 P⟩
theorem de_c {e : Expr} {v : V} {x : PyData} (h : PE X e (tC v)) (d : ∀ H ow, DV X.K H ow v x) : DE X C e (eC x) :=
  PEweak h fun σ H Q ⟨env, ow, P, h⟩ => h v H ow Ext.refl (d H ow) P
theorem de_int {i : Int} {j} : DE X C (.Constant (.int i) j pos) (eC (.int i)) := de_c pe_int fun _ _ => .int i
theorem de_bl {b : Bool} {j} : DE X C (.Constant (.bool b) j pos) (eC (.bool b)) := de_c pe_bl fun _ _ => .bl b
theorem de_non {j} : DE X C (.Constant .none j pos) (eC .none) := de_c pe_non fun _ _ => .non
theorem de_str {x : Str} {j} : DE X C (.Constant (.str x) j pos) (eC (.str x)) := de_c pe_str fun _ _ => .str x
/-- a module's constant -/
theorem de_glob {x : Str} {v : V} {u : Value} {d : PyData} (hg : Gl X x) (hm : X.mg x = some u) (r : RelV v u) (dv : ∀ H ow, DV X.K H ow v d) (hd : (x == ("__debug__" : Str)) = false := by decide) : DE X C (.Name x pos) (eC d) := de_c (pe_glob hg hm r hd) dv
/-! displays -/
def aNil : Env → Rs (List PyData) := fun env => .ok [] env
def aCons (t : Env → Rs PyData) (u : Env → Rs (List PyData)) : Env → Rs (List PyData) := fun env => (t env).bind fun x e1 => (u e1).bind fun xs e2 => .ok (x :: xs) e2
theorem da_nil : DA X C [] aNil := PAweak pa_nil fun σ H Q ⟨env, ow, P, h⟩ => h [] H ow Ext.refl .nil P
theorem da_cons {e : Expr} {es : List Expr} {t : Env → Rs PyData} {u : Env → Rs (List PyData)} (h : DE X C e t) (k : DA X C es u) (hs : starEach (e :: es) X.env = (false, eval e X.env) :: starEach es X.env := by rfl) : DA X C (e :: es) (aCons t u) :=
  PAweak (pa_cons h k hs) fun σ H Q h => rd_two (R1 := RE X.K) (R2 := RA X.K) h (fun H H' ow ow' v d st x => DV.stay st x) fun v w x y H ow env hv hw P h => h _ H ow Ext.refl (.cons hv hw) P
def eTup (t : Env → Rs (List PyData)) : Env → Rs PyData := fun env => (t env).bind fun xs e => if xs.length ≤ 16777216 then .ok (.tuple xs) e else .no
def eLst (t : Env → Rs (List PyData)) : Env → Rs PyData := fun env => (t env).bind fun xs e => if xs.length ≤ 16777216 then .ok (.list xs) e else .no
theorem de_tup {es : List Expr} {j} {t : Env → Rs (List PyData)} (h : DA X C es t) : DE X C (.Tuple es j pos) (eTup t) :=
  PEweak (DLT.pe_tupZ h) fun σ H Q h => rd_one (R1 := RA X.K) h fun v x H ow env hv P h => by
    by_cases hl : x.length ≤ 16777216
    · rw [if_pos hl] at h
      refine ⟨by rw [hv.length, sizeLine_eq]; exact hl, fun zo p hd hp => ?_⟩
      exact rdAt_fin h (Gr.new hp) (.tup (.new hd) (hv.stay (Gr.new hp).stay) hl) P
    · rw [if_neg hl] at h; exact h.elim
theorem de_lst {es : List Expr} {t : Env → Rs (List PyData)} (h : DA X C es t) : DE X C (.List es pos) (eLst t) :=
  PEweak (pe_lst h) fun σ H Q h => rd_one (R1 := RA X.K) h fun v x H ow env hv P h => by
    by_cases hl : x.length ≤ 16777216
    · rw [if_pos hl] at h
      refine ⟨by rw [hv.length, sizeLine_eq]; exact hl, fun p hp => ?_⟩
      exact rdAt_fin h (Gr.new hp) (.lst upd_same off_same (hv.stay (Gr.new hp).stay) hl) P
    · rw [if_neg hl] at h; exact h.elim
/-- an owned list -/
def mLst (t : Env → Rs (List PyData)) : Env → Rs M := fun env => (t env).bind fun xs e => if xs.length ≤ 16777216 then .ok (.l xs) e else .no
theorem dm_lst {es : List Expr} {t : Env → Rs (List PyData)} (h : DA X C es t) : DM X C (.List es pos) (mLst t) :=
  PEweak (pe_lst h) fun σ H Q h => rd_one (R1 := RA X.K) h fun v x H ow env hv P h => by
    by_cases hl : x.length ≤ 16777216
    · rw [if_pos hl] at h
      refine ⟨by rw [hv.length, sizeLine_eq]; exact hl, fun p hp => ?_⟩
      exact rdAt_fin h (Gr.newG (i := C.N) hp) ⟨[p], .l upd_same (hv.stay (Gr.newG hp).stay) hl, by simp, fun q hq => by simp at hq; subst hq; exact give_same⟩ P
    · rw [if_neg hl] at h; exact h.elim
/-- data as an end -/
def mD (t : Env → Rs PyData) : Env → Rs M := fun env => (t env).bind fun x e => .ok (.d x) e
theorem dm_d {e : Expr} {t : Env → Rs PyData} (h : DE X C e t) : DM X C e (mD t) :=
  PEweak h fun σ H Q h => rd_one (R1 := RE X.K) h fun v x H ow env hv P h => h _ H ow Ext.refl ⟨[], .d hv, by simp, fun p hp => by cases hp⟩ P
/-- an owned list is let go: it is data from now on -/
def frzM : M → Option PyData
  | .d x => some x
  | .l xs => some (.list xs)
  | .scr _ => none
  | .m _ => none
  | .fm _ => none
  | .o _ _ => none
  | .fo _ _ => none
  | .ll _ => none
  | .fk _ => none
def eFrz (t : Env → Rs M) : Env → Rs PyData := fun env => (t env).bind fun m e => lift (frzM m) e
theorem de_frz {e : Expr} {t : Env → Rs M} (h : DM X C e t) : DE X C e (eFrz t) :=
  PEweak h fun σ H Q ⟨env, ow, P, h⟩ => ⟨env, ow, P, rdAt_mono (rdAt_bind (R1 := RM X.K C.N) h) fun v H1 ⟨m, e1, ow1, X1, ⟨fp, V1, V2, V3⟩, P1, h1⟩ => by
    obtain ⟨x, e, h1⟩ := rdAt_lift (v := V.non) h1
    cases V1 with
    | d hd => cases e; exact h1 v H1 ow1 Ext.refl hd P1
    | @l p vs ds hp hds hz =>
      cases e
      have hq : ow1 p = some C.N := V3 p (by simp)
      have st : Stay H1 ow1 H1 (off ow1 p) := fun a o h h' => ⟨h, by
        by_cases ha : a = p
        · rw [ha]; exact off_same
        · rw [off_ne ha]; exact h'⟩
      refine h1 _ H1 (off ow1 p) (fun a o ha hf => ⟨ha, ?_⟩) (.lst hp off_same (hds.stay st) hz) ⟨fun i m hm => ?_, P1.io, P1.len, P1.lenS⟩
      · by_cases hap : a = p
        · subst hap
          exact absurd (hf _ hq) (Nat.lt_irrefl _)
        · exact off_ne hap
      · obtain ⟨w, fp, a1, a2, a3, a4⟩ := P1.sl i m hm
        refine ⟨w, fp, a1, a2.stay st fun _ _ => rfl, a3, fun q hq' => ?_⟩
        have hne : q ≠ p := fun z => by
          have z1 := a4 q hq'
          rw [z, hq] at z1
          have z2 : C.N = i := Option.some.inj z1
          have hi := (List.getElem?_eq_some_iff.mp hm).1
          have := P1.len
          omega
        rw [off_ne hne]; exact a4 q hq'
    | scr => cases e
    | m => cases e
    | fm => cases e
    | o => cases e
    | fo => cases e
    | ll => cases e
    | fk => cases e⟩
end
end DL


namespace DL
open PySem PySem.Spec PyProof.Rows L2

/-! ### the operators -/
def okM (i j : Int) : Bool := (decide (-(2 ^ 64) < i) && decide (i < 2 ^ 64)) || (decide (-(2 ^ 64) < j) && decide (j < 2 ^ 64))
def dAdd : PyData → PyData → Option PyData
  | .int i, .int j => some (.int (i + j))
  | .str a, .str b => if a.length + b.length ≤ 16777216 then some (.str (a ++ b)) else none
  | .tuple xs, .tuple ys => if xs.length + ys.length ≤ 16777216 then some (.tuple (xs ++ ys)) else none
  | .list xs, .list ys => if xs.length + ys.length ≤ 16777216 then some (.list (xs ++ ys)) else none
  | _, _ => none
def dSub : PyData → PyData → Option PyData
  | .int i, .int j => some (.int (i - j))
  | _, _ => none
def dMul : PyData → PyData → Option PyData
  | .int i, .int j => if okM i j = true then some (.int (i * j)) else none
  | .list xs, .int k => if k < 2 ^ 63 ∧ -(2 ^ 63) ≤ k ∧ xs.length * k.toNat ≤ 16777216 then some (.list (List.replicate k.toNat xs).flatten) else none
  | .tuple xs, .int k => if k ≤ 1000 ∧ -(2 ^ 63) ≤ k ∧ xs.length ≤ 1000 then some (.tuple (List.replicate k.toNat xs).flatten) else none
  | _, _ => none
def dDiv : PyData → PyData → Option PyData
  | .int i, .int j => if 0 < j ∧ j < 1073741824 then some (.int (i / j)) else none
  | _, _ => none
def dMod : PyData → PyData → Option PyData
  | .int i, .int j => if 0 < j then some (.int (i % j)) else none
  | _, _ => none
def dPow : PyData → PyData → Option PyData
  | .int i, .int j => if 0 ≤ j ∧ j ≤ 1000000 ∧ i.natAbs < 2 ^ 64 then some (.int (i ^ j.toNat)) else none
  | _, _ => none
def dShl : PyData → PyData → Option PyData
  | .int i, .int j => if 0 ≤ j ∧ j ≤ 1000000 ∧ i.natAbs < 2 ^ 64 then some (.int (i * 2 ^ j.toNat)) else none
  | _, _ => none
def dOr : PyData → PyData → Option PyData
  | .int i, .int j => some (.int (Builtin.bitOr i j))
  | _, _ => none
def dAnd : PyData → PyData → Option PyData
  | .int i, .int j => some (.int (Builtin.bitAnd i j))
  | _, _ => none
/-- ints of data -/
def intsOf : List PyData → Option (List Int)
  | [] => some []
  | .int i :: r => (intsOf r).map (i :: ·)
  | _ => none
theorem intsOf_eq : ∀ {ds : List PyData} {ns : List Int}, intsOf ds = some ns → ds = ns.map PyData.int
  | [], ns, e => by cases e; rfl
  | d :: ds, ns, e => by
    cases d with
    | int i =>
      cases h : intsOf ds with
      | none => simp [intsOf, h] at e
      | some ms =>
        simp [intsOf, h] at e
        subst e
        rw [intsOf_eq h]
        rfl
    | _ => cases e
@[simp] theorem intsOf_map : ∀ (ns : List Int), intsOf (ns.map PyData.int) = some ns
  | [] => rfl
  | n :: ns => by simp [intsOf, intsOf_map ns]
def dCmpI (p : Int → Int → Bool) : PyData → PyData → Option PyData
  | .int i, .int j => some (.bool (p i j))
  | _, _ => none
def dLt : PyData → PyData → Option PyData
  | .int i, .int j => some (.bool (decide (i < j)))
  | .tuple xs, .tuple ys => (intsOf xs).bind fun ns => (intsOf ys).map fun ms => .bool (HT.lexLt ns ms)
  | _, _ => none
def dLe := dCmpI fun i j => decide (i ≤ j)
def dGt := dCmpI fun i j => decide (j < i)
def dGe := dCmpI fun i j => decide (j ≤ i)
def dEq (x y : PyData) : Option PyData := if SeqAt.shaped x = true ∧ SeqAt.shaped y = true then some (.bool (PyData.eqv x y)) else none
def dNe (x y : PyData) : Option PyData := if SeqAt.shaped x = true ∧ SeqAt.shaped y = true then some (.bool (!PyData.eqv x y)) else none
def isNon : PyData → Bool
  | .none => true
  | _ => false
def dIs : PyData → PyData → Option PyData
  | x, .none => some (.bool (isNon x))
  | .bool a, .bool b => some (.bool (decide (a = b)))
  | _, _ => none
def dIsNot : PyData → PyData → Option PyData
  | x, .none => some (.bool (!isNon x))
  | .bool a, .bool b => some (.bool (!decide (a = b)))
  | _, _ => none
def dIn (x y : PyData) : Option PyData :=
  if SeqAt.shaped x = true ∧ SeqAt.shaped y = true then match y with
    | .list ds => some (.bool (ds.any fun z => PyData.eqv z x))
    | .tuple ds => some (.bool (ds.any fun z => PyData.eqv z x))
    | _ => none
  else none
def dNotIn (x y : PyData) : Option PyData :=
  if SeqAt.shaped x = true ∧ SeqAt.shaped y = true then match y with
    | .list ds => some (.bool (!ds.any fun z => PyData.eqv z x))
    | .tuple ds => some (.bool (!ds.any fun z => PyData.eqv z x))
    | _ => none
  else none
def dNeg : PyData → Option PyData
  | .int i => some (.int (-i))
  | _ => none

section
variable {X : Cx} {K : PySem.W.Frag}
def rAddAll (K : PySem.W.Frag) : R2 := fun x y H Q => rI0 (fun i j => .int (i + j)) x y H Q ∨ (∃ i j, x = .str i ∧ y = .str j ∧ i.length + j.length ≤ sizeLine ∧ Q (.str (i ++ j)) H) ∨ DLT.zCat K x y H Q ∨ rCat x y H Q
theorem op_addAll : OpR X (binaryOp .Add) (rAddAll X.K) := op_add.or (op_add_str.or (DLT.op_catZ.or op_cat))
theorem if_some {α : Type} {p : Prop} [Decidable p] {a o : α} (h : (if p then some a else none) = some o) : p ∧ a = o := by
  by_cases hp : p
  · rw [if_pos hp] at h; exact ⟨hp, Option.some.inj h⟩
  · rw [if_neg hp] at h; cases h
theorem o2_add : Op2 K (rAddAll K) dAdd := by
  intro v w x y o H ow Q hv hw e q
  cases hv with
  | int i => cases hw with
    | int j => cases e; exact .inl ⟨i, j, rfl, rfl, q _ _ _ .refl (.int _)⟩
    | _ => cases e
  | str a => cases hw with
    | str b =>
      obtain ⟨h, rfl⟩ := if_some e
      exact .inr (.inl ⟨a, b, rfl, rfl, by rw [sizeLine_eq]; exact h, q _ _ _ .refl (.str _)⟩)
    | _ => cases e
  | @lst a xs ds h1 h2 h3 hz => cases hw with
    | @lst b ys es k1 k2 k3 hz' =>
      obtain ⟨h, rfl⟩ := if_some e
      exact .inr (.inr (.inr ⟨a, b, xs, ys, rfl, rfl, h1, k1, by rw [sizeLine_eq, h3.length, k3.length]; exact h, fun p hp => q _ _ _ (.new hp) (.lst upd_same off_same ((h3.append k3).stay (Gr.new hp).stay) (by rw [List.length_append]; exact h))⟩))
    | _ => cases e
  | @tup a xs ds h1 h3 hz => cases hw with
    | @tup b ys es k1 k3 hz' =>
      obtain ⟨h, rfl⟩ := if_some e
      refine .inr (.inr (.inl ⟨a, b, xs, ys, rfl, rfl, h1.sq, k1.sq, by rw [sizeLine_eq, h3.length, k3.length]; exact h, fun hx => ?_, fun _ hy => ?_, fun _ _ zo p hd hp => q _ _ _ (.new hp) (.tup (.new hd) ((h3.append k3).stay (Gr.new hp).stay) (by rw [List.length_append]; exact h))⟩))
      · subst hx; cases h3; exact q _ _ _ .refl (.tup k1 k3 hz')
      · subst hy; cases k3; rw [List.append_nil] at q; exact q _ _ _ .refl (.tup h1 h3 hz)
    | _ => cases e
  | _ => cases e
theorem o2_sub : Op2 K (rI0 fun i j => .int (i - j)) dSub := by
  intro v w x y o H ow Q hv hw e q
  cases hv with
  | int i => cases hw with
    | int j => cases e; exact ⟨i, j, rfl, rfl, q _ _ _ .refl (.int _)⟩
    | _ => cases e
  | _ => cases e
def rMulAll (K : PySem.W.Frag) : R2 := fun x y H Q => rI CMul (fun i j => .int (i * j)) x y H Q ∨ rRep x y H Q ∨ DLT.zRep K x y H Q
theorem op_mulAll : OpR X (binaryOp .Mult) (rMulAll X.K) := op_mul.or (op_rep.or DLT.op_repZ)
theorem DVs.flat {H : Hp} {ow : Ow} {ds : List PyData} {vs : List V} (h : DVs K H ow vs ds) : ∀ n, DVs K H ow (List.replicate n vs).flatten (List.replicate n ds).flatten
  | 0 => .nil
  | n + 1 => by
    rw [List.replicate_succ, List.replicate_succ, List.flatten_cons, List.flatten_cons]
    exact h.append (h.flat n)
theorem o2_mul : Op2 K (rMulAll K) dMul := by
  intro v w x y o H ow Q hv hw e q
  cases hv with
  | int i => cases hw with
    | int j =>
      obtain ⟨h, rfl⟩ := if_some e
      refine .inl ⟨i, j, rfl, rfl, ?_, q _ _ _ .refl (.int _)⟩
      unfold okM at h
      simpa [CMul] using h
    | _ => cases e
  | @lst a xs ds h1 h2 h3 hz => cases hw with
    | int k =>
      obtain ⟨h, rfl⟩ := if_some e
      exact .inr <| .inl ⟨a, k, xs, rfl, rfl, h1, h.2.1, h.1, by rw [sizeLine_eq, h3.length]; exact h.2.2, fun p hp => q _ _ _ (.new hp) (.lst upd_same off_same ((h3.flat _).stay (Gr.new hp).stay) (by rw [List.length_flatten, List.map_replicate, List.sum_replicate_nat, Nat.mul_comm]; exact h.2.2))⟩
    | _ => cases e
  | @tup a xs ds h1 h3 hz => cases hw with
    | int k =>
      obtain ⟨h, rfl⟩ := if_some e
      refine .inr <| .inr ⟨a, k, xs, rfl, rfl, h1.sq, h.2.1, h.1, by rw [h3.length]; exact h.2.2, fun hs => ?_, fun _ _ zo p hd hp => q _ _ _ (.new hp) (.tup (.new hd) ((h3.flat _).stay (Gr.new hp).stay) (by
        rw [List.length_flatten, List.map_replicate, List.sum_replicate_nat]
        have a1 : k.toNat * ds.length ≤ 1000 * 1000 := Nat.mul_le_mul (by omega) h.2.2
        omega))⟩
      rcases hs with rfl | rfl
      · cases h3
        have e0 : (List.replicate k.toNat ([] : List PyData)).flatten = [] := by simp
        rw [e0] at q
        exact q _ _ _ .refl (.tup h1 .nil hz)
      · have e0 : (List.replicate (1 : Int).toNat ds).flatten = ds := by
          show ([ds] : List (List PyData)).flatten = ds
          simp
        rw [e0] at q
        exact q _ _ _ .refl (.tup h1 h3 hz)
    | _ => cases e
  | _ => cases e
theorem o2_rI {Cn : Int → Int → Prop} {g : Int → Int → Int} {f : PyData → PyData → Option PyData} (hf : ∀ i j o, f (.int i) (.int j) = some o → Cn i j ∧ o = .int (g i j))
    (hn : ∀ x y o, f x y = some o → ∃ i j, x = .int i ∧ y = .int j) : Op2 K (rI Cn fun i j => .int (g i j)) f := by
  intro v w x y o H ow Q hv hw e q
  obtain ⟨i, j, rfl, rfl⟩ := hn x y o e
  cases hv
  cases hw
  obtain ⟨h, rfl⟩ := hf i j o e
  exact ⟨i, j, rfl, rfl, h, q _ _ _ .refl (.int _)⟩
theorem o2_rI0 {g : Int → Int → Int} {f : PyData → PyData → Option PyData} (hf : ∀ i j o, f (.int i) (.int j) = some o → o = .int (g i j))
    (hn : ∀ x y o, f x y = some o → ∃ i j, x = .int i ∧ y = .int j) : Op2 K (rI0 fun i j => .int (g i j)) f := by
  intro v w x y o H ow Q hv hw e q
  obtain ⟨i, j, rfl, rfl⟩ := hn x y o e
  cases hv
  cases hw
  obtain rfl := hf i j o e
  exact ⟨i, j, rfl, rfl, q _ _ _ .refl (.int _)⟩
theorem o2_rB0 {g : Int → Int → Bool} {f : PyData → PyData → Option PyData} (hf : ∀ i j o, f (.int i) (.int j) = some o → o = .bool (g i j))
    (hn : ∀ x y o, f x y = some o → ∃ i j, x = .int i ∧ y = .int j) : Op2 K (rI0 fun i j => .bl (g i j)) f := by
  intro v w x y o H ow Q hv hw e q
  obtain ⟨i, j, rfl, rfl⟩ := hn x y o e
  cases hv
  cases hw
  obtain rfl := hf i j o e
  exact ⟨i, j, rfl, rfl, q _ _ _ .refl (.bl _)⟩
theorem o2_div : Op2 K (rI CDiv fun i j => .int (i / j)) dDiv := o2_rI (fun i j o h => ⟨(if_some h).1, (if_some h).2.symm⟩) fun x y o h => by
  cases x <;> cases y <;> first | exact ⟨_, _, rfl, rfl⟩ | cases h
theorem o2_mod : Op2 K (rI (fun _ j => 0 < j) fun i j => .int (i % j)) dMod := o2_rI (fun i j o h => ⟨(if_some h).1, (if_some h).2.symm⟩) fun x y o h => by
  cases x <;> cases y <;> first | exact ⟨_, _, rfl, rfl⟩ | cases h
theorem o2_pow : Op2 K (rI CPow fun i j => .int (i ^ j.toNat)) dPow := o2_rI (fun i j o h => ⟨(if_some h).1, (if_some h).2.symm⟩) fun x y o h => by
  cases x <;> cases y <;> first | exact ⟨_, _, rfl, rfl⟩ | cases h
theorem o2_shl : Op2 K (rI CPow fun i j => .int (i * 2 ^ j.toNat)) dShl := o2_rI (fun i j o h => ⟨(if_some h).1, (if_some h).2.symm⟩) fun x y o h => by
  cases x <;> cases y <;> first | exact ⟨_, _, rfl, rfl⟩ | cases h
theorem o2_or : Op2 K (rI0 fun i j => .int (Builtin.bitOr i j)) dOr := o2_rI0 (fun i j o h => by cases h; rfl) fun x y o h => by
  cases x <;> cases y <;> first | exact ⟨_, _, rfl, rfl⟩ | cases h
theorem o2_and : Op2 K (rI0 fun i j => .int (Builtin.bitAnd i j)) dAnd := o2_rI0 (fun i j o h => by cases h; rfl) fun x y o h => by
  cases x <;> cases y <;> first | exact ⟨_, _, rfl, rfl⟩ | cases h
theorem o2_cmp (p : Int → Int → Bool) : Op2 K (rI0 fun i j => .bl (p i j)) (dCmpI p) := o2_rB0 (fun i j o h => by cases h; rfl) fun x y o h => by
  cases x <;> cases y <;> first | exact ⟨_, _, rfl, rfl⟩ | cases h
def rLtA (K : PySem.W.Frag) : R2 := fun x y H Q => rI0 (fun i j => .bl (decide (i < j))) x y H Q ∨ rLtT K x y H Q
theorem op_ltA (hu : X.A.units + 65 < cLine) : OpR X (compareOp .Lt) (rLtA X.K) := op_lt.or (op_ltT (by omega))
theorem o2_lt : Op2 K (rLtA K) dLt := by
  intro v w x y o H ow Q hv hw e q
  cases hv with
  | int i => cases hw with
    | int j => cases e; exact .inl ⟨i, j, rfl, rfl, q _ _ _ .refl (.bl _)⟩
    | _ => cases e
  | @tup a xs ds h1 h3 hz => cases hw with
    | @tup b ys es k1 k3 hz' =>
      cases hn : intsOf ds with
      | none => simp [dLt, hn] at e
      | some ns =>
        cases hm : intsOf es with
        | none => simp [dLt, hn, hm] at e
        | some ms =>
          simp only [dLt, hn, hm, Option.bind_some, Option.map_some] at e
          cases e
          have e1 := intsOf_eq hn
          have e2 := intsOf_eq hm
          subst e1
          subst e2
          have f1 := h3.ints
          have f2 := k3.ints
          subst f1
          subst f2
          exact .inr ⟨a, b, ns, ms, rfl, rfl, h1.sq, k1.sq, q _ _ _ .refl (.bl _)⟩
    | _ => cases e
  | _ => cases e
theorem o2_le : Op2 K (rI0 fun i j => .bl (decide (i ≤ j))) dLe := o2_cmp _
theorem o2_gt : Op2 K (rI0 fun i j => .bl (decide (j < i))) dGt := o2_cmp _
theorem o2_ge : Op2 K (rI0 fun i j => .bl (decide (j ≤ i))) dGe := o2_cmp _
theorem o2_eq : Op2 K (rEqD K) dEq := by
  intro v w x y o H ow Q hv hw e q
  obtain ⟨h, rfl⟩ := if_some e
  exact ⟨x, y, hv.dp, hw.dp, h.1, h.2, q _ _ _ .refl (.bl _)⟩
theorem o2_ne : Op2 K (rNeD K) dNe := by
  intro v w x y o H ow Q hv hw e q
  obtain ⟨h, rfl⟩ := if_some e
  exact ⟨x, y, hv.dp, hw.dp, h.1, h.2, q _ _ _ .refl (.bl _)⟩
def rIsAll : R2 := fun x y H Q => (y = .non ∧ Q (.bl (decide (x = .non))) H) ∨ ∃ a b : Bool, x = .bl a ∧ y = .bl b ∧ Q (.bl (decide (a = b))) H
def rIsNotAll : R2 := fun x y H Q => (y = .non ∧ Q (.bl (!decide (x = .non))) H) ∨ ∃ a b : Bool, x = .bl a ∧ y = .bl b ∧ Q (.bl (!decide (a = b))) H
theorem op_isAll : OpR X (compareOp .Is) rIsAll := op_isN.or op_isBl
theorem op_isNotAll : OpR X (compareOp .IsNot) rIsNotAll := op_notN.or op_notBl
theorem isNon_V {H : Hp} {ow : Ow} {v : V} {x : PyData} (h : DV K H ow v x) : decide (v = .non) = isNon x := by
  cases h <;> rfl
theorem o2_is : Op2 K rIsAll dIs := by
  intro v w x y o H ow Q hv hw e q
  cases hw with
  | non =>
    have e' : o = .bool (isNon x) := by cases x <;> (cases e; rfl)
    subst e'
    exact .inl ⟨rfl, by rw [isNon_V hv]; exact q _ _ _ .refl (.bl _)⟩
  | bl b => cases hv with
    | bl a => cases e; exact .inr ⟨a, b, rfl, rfl, q _ _ _ .refl (.bl _)⟩
    | _ => cases e
  | _ => cases x <;> cases e
theorem o2_isNot : Op2 K rIsNotAll dIsNot := by
  intro v w x y o H ow Q hv hw e q
  cases hw with
  | non =>
    have e' : o = .bool (!isNon x) := by cases x <;> (cases e; rfl)
    subst e'
    exact .inl ⟨rfl, by rw [isNon_V hv]; exact q _ _ _ .refl (.bl _)⟩
  | bl b => cases hv with
    | bl a => cases e; exact .inr ⟨a, b, rfl, rfl, q _ _ _ .refl (.bl _)⟩
    | _ => cases e
  | _ => cases x <;> cases e
/-- in, not in, of lists and tuples at any depth -/
def rInAll (K : PySem.W.Frag) : R2 := fun x y H Q => ∃ d ds, Dp K H x d ∧ (Dp K H y (.list ds) ∨ Dp K H y (.tuple ds)) ∧ SeqAt.shaped d = true ∧ SeqAt.shaped (.list ds) = true ∧ Q (.bl (ds.any fun z => PyData.eqv z d)) H
def rNotInAll (K : PySem.W.Frag) : R2 := fun x y H Q => ∃ d ds, Dp K H x d ∧ (Dp K H y (.list ds) ∨ Dp K H y (.tuple ds)) ∧ SeqAt.shaped d = true ∧ SeqAt.shaped (.list ds) = true ∧ Q (.bl (!ds.any fun z => PyData.eqv z d)) H
theorem op_inAll (hu : X.A.units + 65 < cLine) : OpR X (compareOp .In) (rInAll X.K) := by
  intro pins s σ H x y v u Q I rx ry h
  obtain ⟨d, ds, hd, he, sd, se, q⟩ := h
  obtain ⟨as, r1⟩ := Dp.reads I d x v hd rx
  rcases he with he | he
  · obtain ⟨bs, r2⟩ := Dp.reads I (.list ds) y u he ry
    exact SeqAt.in_list_reads r2 r1 (SeqAt.canLay_of_shaped se) (SeqAt.canLay_of_shaped sd) (room_in_shaped sd hu) ⟨.bl _, H, I, rfl, q⟩
  · obtain ⟨bs, r2⟩ := Dp.reads I (.tuple ds) y u he ry
    exact SeqAt.in_tuple_reads r2 r1 (SeqAt.canLay_of_shaped se) (SeqAt.canLay_of_shaped sd) (room_in_shaped sd hu) ⟨.bl _, H, I, rfl, q⟩
theorem op_notInAll (hu : X.A.units + 65 < cLine) : OpR X (compareOp .NotIn) (rNotInAll X.K) := by
  intro pins s σ H x y v u Q I rx ry h
  obtain ⟨d, ds, hd, he, sd, se, q⟩ := h
  obtain ⟨as, r1⟩ := Dp.reads I d x v hd rx
  rcases he with he | he
  · obtain ⟨bs, r2⟩ := Dp.reads I (.list ds) y u he ry
    exact SeqAt.notIn_list_reads r2 r1 (SeqAt.canLay_of_shaped se) (SeqAt.canLay_of_shaped sd) (room_in_shaped sd hu) ⟨.bl _, H, I, rfl, q⟩
  · obtain ⟨bs, r2⟩ := Dp.reads I (.tuple ds) y u he ry
    exact SeqAt.notIn_tuple_reads r2 r1 (SeqAt.canLay_of_shaped se) (SeqAt.canLay_of_shaped sd) (room_in_shaped sd hu) ⟨.bl _, H, I, rfl, q⟩
theorem shaped_tl (ds : List PyData) : SeqAt.shaped (.tuple ds) = SeqAt.shaped (.list ds) := rfl
theorem o2_in : Op2 K (rInAll K) dIn := by
  intro v w x y o H ow Q hv hw e q
  unfold dIn at e
  split at e
  · rename_i h
    cases y with
    | list ds => cases e; exact ⟨x, ds, hv.dp, .inl hw.dp, h.1, h.2, q _ _ _ .refl (.bl _)⟩
    | tuple ds => cases e; exact ⟨x, ds, hv.dp, .inr hw.dp, h.1, (shaped_tl ds).symm.trans h.2, q _ _ _ .refl (.bl _)⟩
    | _ => cases e
  · cases e
theorem o2_notIn : Op2 K (rNotInAll K) dNotIn := by
  intro v w x y o H ow Q hv hw e q
  unfold dNotIn at e
  split at e
  · rename_i h
    cases y with
    | list ds => cases e; exact ⟨x, ds, hv.dp, .inl hw.dp, h.1, h.2, q _ _ _ .refl (.bl _)⟩
    | tuple ds => cases e; exact ⟨x, ds, hv.dp, .inr hw.dp, h.1, (shaped_tl ds).symm.trans h.2, q _ _ _ .refl (.bl _)⟩
    | _ => cases e
  · cases e
variable {C : Cc} {a b : Expr} {pos : Pos} {ta tb : Env → Rs PyData}
theorem de_neg (ha : DE X C a ta) : DE X C (.UnaryOp .USub a pos) (e1 dNeg ta) :=
  PEweak (pe_un un_neg ha) fun σ H Q h => rd_one (R1 := RE X.K) h fun v x H ow env hv P h => by
    obtain ⟨o, e, h⟩ := rdAt_lift (v := V.non) h
    cases x with
    | int i => cases hv; cases e; exact ⟨i, rfl, h _ _ _ Ext.refl (.int _) P⟩
    | _ => cases e

/-! ### calls of built-ins -/
theorem CallR.or {f : Value} {r r' : List V → Hp → VK → Prop} (h : CallR X f r) (h' : CallR X f r') : CallR X f (fun xs H Q => r xs H Q ∨ r' xs H Q) := by
  intro pins s σ H xs us Q I rv q
  rcases q with q | q
  · exact h pins s σ H xs us Q I rv q
  · exact h' pins s σ H xs us Q I rv q
def OpB (K : PySem.W.Frag) (r : List V → Hp → VK → Prop) (f : List PyData → Option PyData) : Prop :=
  ∀ vs xs o H ow (Q : VK), DVs K H ow vs xs → f xs = some o → (∀ v' H' ow', Gr H ow H' ow' → DV K H' ow' v' o → Q v' H') → r vs H Q
def eB (f : List PyData → Option PyData) (t : Env → Rs (List PyData)) : Env → Rs PyData := fun env => (t env).bind fun xs e => lift (f xs) e
theorem rd_B {r : List V → Hp → VK → Prop} {f : List PyData → Option PyData} (hf : OpB K r f) {t : Env → Rs (List PyData)} {σ : L2.St} {H : Hp} {Q : VK} (h : rd K C (RE K) (eB f t) σ H Q) : tCB r (rd K C (RA K) t) σ H Q :=
  rd_one (R1 := RA K) h fun v x H ow env hv P h => by
    obtain ⟨o, e, h⟩ := rdAt_lift (v := V.non) h
    exact hf v x o H ow Q hv e fun v' H' ow' g d => h v' H' ow' g.ext d (P.gr g)
theorem de_B {x : Str} {id : String} {e : Expr} {es : List Expr} {p : Pos} {r : List V → Hp → VK → Prop} {f : List PyData → Option PyData} {t : Env → Rs (List PyData)} (hc : CallR X (.builtin id) r) (hf : OpB X.K r f) (hg : Gl X x) (hm : X.mg x = none) (hv : bootBuiltins x = some (.builtin id)) (ha : DA X C (e :: es) t)
    (hn : x ≠ "__name__" := by decide) (hdb : (x == ("__debug__" : Str)) = false := by decide)
    (he : starEach (e :: es) X.env = (false, eval e X.env) :: starEach es X.env := by rfl) (hpl : (backTo pos (starEach es X.env)).any (·.1) = false := by rfl) : DE X C (.Call (.Name x p) (e :: es) [] pos) (eB f t) :=
  PEweak (pe_callB hc hg hm hv ha hn hdb he hpl) fun σ H Q h => rd_B hf h
theorem de_Ty {x : Str} {T : String} {e : Expr} {es : List Expr} {p : Pos} {r : List V → Hp → VK → Prop} {f : List PyData → Option PyData} {t : Env → Rs (List PyData)} (hc : CallR X (.type T) r) (hf : OpB X.K r f) (hg : Gl X x) (hm : X.mg x = none) (hv : bootBuiltins x = some (.type T)) (ha : DA X C (e :: es) t)
    (hn : x ≠ "__name__" := by decide) (hdb : (x == ("__debug__" : Str)) = false := by decide)
    (he : starEach (e :: es) X.env = (false, eval e X.env) :: starEach es X.env := by rfl) (hpl : (backTo pos (starEach es X.env)).any (·.1) = false := by rfl) : DE X C (.Call (.Name x p) (e :: es) [] pos) (eB f t) :=
  PEweak (pe_callTy hc hg hm hv ha hn hdb he hpl) fun σ H Q h => rd_B hf h
def bLen : List PyData → Option PyData
  | [.list xs] => some (.int xs.length)
  | [.tuple xs] => some (.int xs.length)
  | [.str x] => if x.length ≤ 16777216 then some (.int x.length) else none
  | _ => none
theorem DVs.one {H : Hp} {ow : Ow} {x : PyData} {vs : List V} (h : DVs K H ow vs [x]) : ∃ v, vs = [v] ∧ DV K H ow v x := by
  cases h with
  | cons a b => cases b; exact ⟨_, rfl, a⟩
theorem DVs.two {H : Hp} {ow : Ow} {x y : PyData} {vs : List V} (h : DVs K H ow vs [x, y]) : ∃ v w, vs = [v, w] ∧ DV K H ow v x ∧ DV K H ow w y := by
  cases h with
  | cons a b => obtain ⟨w, rfl, c⟩ := b.one; exact ⟨_, _, rfl, a, c⟩
theorem ob_len : OpB K (fun xs H Q => ∃ x n, xs = [x] ∧ LenV K x H n ∧ Q (.int n) H) bLen := by
  intro vs xs o H ow Q h e q
  unfold bLen at e
  split at e
  · obtain ⟨v, rfl, d⟩ := h.one
    cases d with
    | lst h1 h2 h3 hz => cases e; exact ⟨_, _, rfl, .inl ⟨_, .of h1, rfl⟩, by rw [h3.length]; exact q _ _ _ .refl (.int _)⟩
  · obtain ⟨v, rfl, d⟩ := h.one
    cases d with
    | tup h1 h3 hz => cases e; exact ⟨_, _, rfl, .inr ⟨_, h1.sq, rfl⟩, by rw [h3.length]; exact q _ _ _ .refl (.int _)⟩
  · obtain ⟨v, rfl, d⟩ := h.one
    obtain ⟨hl, rfl⟩ := if_some e
    cases d with
    | str x => exact ⟨_, _, rfl, ⟨by rw [sizeLine_eq]; exact hl, rfl⟩, q _ _ _ .refl (.int _)⟩
  · cases e
def bAbs : List PyData → Option PyData
  | [.int i] => some (.int (if i < 0 then -i else i))
  | _ => none
theorem ob_abs : OpB K (fun xs H Q => ∃ i, xs = [.int i] ∧ Q (.int (if i < 0 then -i else i)) H) bAbs := by
  intro vs xs o H ow Q h e q
  unfold bAbs at e
  split at e
  · obtain ⟨v, rfl, d⟩ := h.one
    cases d; cases e; exact ⟨_, rfl, q _ _ _ .refl (.int _)⟩
  · cases e
def bInt : List PyData → Option PyData
  | [.int i] => some (.int i)
  | [.bool k] => some (.int (if k then 1 else 0))
  | _ => none
theorem ob_int : OpB K (fun xs H Q => (∃ i, xs = [.int i] ∧ Q (.int i) H) ∨ ∃ k, xs = [.bl k] ∧ Q (.int (if k then 1 else 0)) H) bInt := by
  intro vs xs o H ow Q h e q
  unfold bInt at e
  split at e
  · obtain ⟨v, rfl, d⟩ := h.one
    cases d; cases e; exact .inl ⟨_, rfl, q _ _ _ .refl (.int _)⟩
  · obtain ⟨v, rfl, d⟩ := h.one
    cases d; cases e; exact .inr ⟨_, rfl, q _ _ _ .refl (.int _)⟩
  · cases e
def boolsOf : List PyData → Option (List Bool)
  | [] => some []
  | .bool i :: r => (boolsOf r).map (i :: ·)
  | _ => none
theorem boolsOf_eq : ∀ {ds : List PyData} {ns : List Bool}, boolsOf ds = some ns → ds = ns.map PyData.bool
  | [], ns, e => by cases e; rfl
  | d :: ds, ns, e => by
    cases d with
    | bool i =>
      cases h : boolsOf ds with
      | none => simp [boolsOf, h] at e
      | some ms =>
        simp [boolsOf, h] at e
        subst e
        rw [boolsOf_eq h]
        rfl
    | _ => cases e
@[simp] theorem boolsOf_map : ∀ (ns : List Bool), boolsOf (ns.map PyData.bool) = some ns
  | [] => rfl
  | n :: ns => by simp [boolsOf, boolsOf_map ns]
/-- items of a list or a tuple -/
def seqOf : PyData → Option (List PyData)
  | .list xs => some xs
  | .tuple xs => some xs
  | _ => none
def rSumT (K : PySem.W.Frag) : List V → Hp → VK → Prop := fun vs H Q => ∃ (a : Addr) (ns : List Int), vs = [V.ref a] ∧ SqT K H a (ns.map V.int) ∧ Q (.int ns.sum) H
theorem cr_sumT (hc : X.calm = true) : CallR X (.builtin "sum") (rSumT X.K) := by
  intro pins s σ H vs us Q I r h
  obtain ⟨a, ns, rfl, hs, q⟩ := h
  obtain ⟨its, rv, hl, _⟩ := I.tuple hs
  rw [Vals.ref1 r]
  have hi := rv.ints
  obtain ⟨xs, e⟩ := hi.allInts.items
  have hn : numsOf (intItems xs).toList = ns := by rw [← e]; exact hi.numsOf
  rw [nums_intItems] at hn
  rw [e] at hl
  have hlt : a < s.heap.objs.size := hl.lt
  refine call_sum_walkG (iter_tuple hl ?_)
  refine ⟨_, _, _, _, _, _, numAt xs, rfl, Walks.tuple (A := X.A.in1) (I.ok.hd hc) _ a (Nat.ne_of_lt hlt) (intItems xs), ⟨⟨_, Heap.get?_push_size _ rfl, rfl, rfl⟩, ?_⟩, fun b hb => ?_, (fun _ _ => intItems_at), fun h' tk t' hk => ?_⟩
  · obtain ⟨o, ho, hcl, hd⟩ := hl
    exact ⟨o, Heap.get?_push_of_some _ ho, hcl, hd⟩
  · show b < (s.heap.push _).objs.size
    rw [Heap.size_push]
    have hb' : b = s.heap.objs.size ∨ b = a := by simpa using hb
    rcases hb' with z | z
    · rw [z]; exact Nat.lt_succ_self _
    · rw [z]; exact Nat.lt_succ_of_lt hlt
  · refine ⟨.int _, H, I.kept fun b o eo => hk b o (fun hmem => ?_) (Heap.get?_push_of_some _ eo), ⟨_, rfl⟩, ?_⟩
    · have z : b = s.heap.objs.size := by simpa using hmem
      exact absurd (z ▸ Heap.lt_size eo) (Nat.lt_irrefl _)
    · have e2 : preSum (numAt xs) (intItems xs).size = ns.sum := by
        rw [show (intItems xs).size = xs.size by simp [intItems], preSum_eq, List.take_of_length_le (by simp), hn]
      rw [e2]; exact q
def bSum : List PyData → Option PyData
  | [x] => (seqOf x).bind fun ds => (intsOf ds).map fun ns => .int ns.sum
  | _ => none
theorem ob_sum : OpB K (fun vs H Q => rSum K vs H Q ∨ rSumT K vs H Q) bSum := by
  intro vs xs o H ow Q h e q
  match xs, h, e with
  | [x], h, e =>
    obtain ⟨v, rfl, d⟩ := h.one
    cases d with
    | @lst a vs ds h1 h2 h3 hz =>
      cases hn : intsOf ds with
      | none => simp [bSum, seqOf, hn] at e
      | some ns =>
        simp [bSum, seqOf, hn] at e
        subst e
        have := intsOf_eq hn
        subst this
        have := h3.ints
        subst this
        exact .inl ⟨a, ns, rfl, .of h1, q _ _ _ .refl (.int _)⟩
    | @tup a vs ds h1 h3 hz =>
      cases hn : intsOf ds with
      | none => simp [bSum, seqOf, hn] at e
      | some ns =>
        simp [bSum, seqOf, hn] at e
        subst e
        have := intsOf_eq hn
        subst this
        have := h3.ints
        subst this
        exact .inr ⟨a, ns, rfl, h1.sq, q _ _ _ .refl (.int _)⟩
    | _ => cases e
def bAll : List PyData → Option PyData
  | [.list ds] => (boolsOf ds).map fun ns => .bool (ns.all id)
  | _ => none
def bAny : List PyData → Option PyData
  | [.list ds] => (boolsOf ds).map fun ns => .bool (ns.any id)
  | _ => none
theorem ob_all : OpB K (rAll K) bAll := by
  intro vs xs o H ow Q h e q
  unfold bAll at e
  split at e
  · rename_i ds
    obtain ⟨v, rfl, d⟩ := h.one
    cases hn : boolsOf ds with
    | none => simp [hn] at e
    | some ns =>
      simp only [hn, Option.map_some] at e
      cases e
      have := boolsOf_eq hn
      subst this
      cases d with
      | lst h1 h2 h3 hz =>
        have := h3.bls
        subst this
        exact ⟨_, ns, rfl, .of h1, q _ _ _ .refl (.bl _)⟩
  · cases e
theorem ob_any : OpB K (rAny K) bAny := by
  intro vs xs o H ow Q h e q
  unfold bAny at e
  split at e
  · rename_i ds
    obtain ⟨v, rfl, d⟩ := h.one
    cases hn : boolsOf ds with
    | none => simp [hn] at e
    | some ns =>
      simp only [hn, Option.map_some] at e
      cases e
      have := boolsOf_eq hn
      subst this
      cases d with
      | lst h1 h2 h3 hz =>
        have := h3.bls
        subst this
        exact ⟨_, ns, rfl, .of h1, q _ _ _ .refl (.bl _)⟩
  · cases e
/-- tuple(x), list(x) of lists and tuples -/
def bTup : List PyData → Option PyData
  | [.list ds] => some (.tuple ds)
  | [.tuple ds] => some (.tuple ds)
  | _ => none
theorem ob_tup : OpB K (DLT.zTupOf K) bTup := by
  intro vs xs o H ow Q h e q
  unfold bTup at e
  split at e
  · obtain ⟨v, rfl, d⟩ := h.one
    cases e
    cases d with
    | lst h1 h2 h3 hz => exact ⟨_, _, rfl, .inl ⟨.of h1, fun zo l hd hl => q _ _ _ (.new hl) (.tup (.new hd) (h3.stay (Gr.new hl).stay) hz)⟩⟩
  · obtain ⟨v, rfl, d⟩ := h.one
    cases e
    cases d with
    | tup h1 h3 hz => exact ⟨_, _, rfl, .inr ⟨h1.sq, q _ _ _ .refl (.tup h1 h3 hz)⟩⟩
  · cases e
def bList : List PyData → Option PyData
  | [.list ds] => some (.list ds)
  | [.tuple ds] => some (.list ds)
  | _ => none
theorem ob_list : OpB K (fun xs H Q => ∃ p ys, xs = [.ref p] ∧ (SqL K H p ys ∨ SqT K H p ys) ∧ ∀ l, H l = none → Q (.ref l) (upd H l (.lst ys))) bList := by
  intro vs xs o H ow Q h e q
  unfold bList at e
  split at e
  · obtain ⟨v, rfl, d⟩ := h.one
    cases e
    cases d with
    | lst h1 h2 h3 hz => exact ⟨_, _, rfl, .inl (.of h1), fun l hl => q _ _ _ (.new hl) (.lst upd_same off_same (h3.stay (Gr.new hl).stay) hz)⟩
  · obtain ⟨v, rfl, d⟩ := h.one
    cases e
    cases d with
    | tup h1 h3 hz => exact ⟨_, _, rfl, .inr h1.sq, fun l hl => q _ _ _ (.new hl) (.lst upd_same off_same (h3.stay (Gr.new hl).stay) hz)⟩
  · cases e
/-- an owned list from list(x), or from any built-in that hands back a new list -/
def mList (t : Env → Rs (List PyData)) : Env → Rs M := fun env => (t env).bind fun xs e => match xs with
  | [.list ds] => .ok (.l ds) e
  | [.tuple ds] => .ok (.l ds) e
  | _ => .no
theorem dm_list {e : Expr} {es : List Expr} {p : Pos} {t : Env → Rs (List PyData)} (hg : Gl X "list") (hm : X.mg "list" = none) (hv : bootBuiltins "list" = some (.type "list")) (ha : DA X C (e :: es) t)
    (he : starEach (e :: es) X.env = (false, eval e X.env) :: starEach es X.env := by rfl) (hpl : (backTo pos (starEach es X.env)).any (·.1) = false := by rfl) : DM X C (.Call (.Name "list" p) (e :: es) [] pos) (mList t) :=
  PEweak (pe_callTy call_list_of hg hm hv ha (by decide) (by decide) he hpl) fun σ H Q h => rd_one (R1 := RA X.K) h fun v x H ow env hv P h => by
    match x, h with
    | [.list ds], h =>
      obtain ⟨w, rfl, d⟩ := hv.one
      cases d with
      | lst h1 h2 h3 hz =>
        exact ⟨_, _, rfl, .inl (.of h1), fun l hl => rdAt_fin h (Gr.newG (i := C.N) hl) ⟨[l], .l upd_same (h3.stay (Gr.newG hl).stay) hz, by simp, fun q hq => by simp at hq; subst hq; exact give_same⟩ P⟩
    | [.tuple ds], h =>
      obtain ⟨w, rfl, d⟩ := hv.one
      cases d with
      | tup h1 h3 hz =>
        exact ⟨_, _, rfl, .inr h1.sq, fun l hl => rdAt_fin h (Gr.newG (i := C.N) hl) ⟨[l], .l upd_same (h3.stay (Gr.newG hl).stay) hz, by simp, fun q hq => by simp at hq; subst hq; exact give_same⟩ P⟩
    | [], h => exact h.elim
    | [.none], h => exact h.elim
    | [.bool _], h => exact h.elim
    | [.int _], h => exact h.elim
    | [.str _], h => exact h.elim
    | [.dict _], h => exact h.elim
    | x :: y :: r, h => cases x <;> exact False.elim h
/-- list(script) -/
def slotScr (env : Env) (i : Nat) : Option (List Int) := match env[i]? with
  | some (some (.scr ns)) => some ns
  | _ => none
def eListScr (i : Nat) : Env → Rs PyData := fun env => lift ((slotScr env i).map fun ns => .list (ns.map .int)) env
theorem slot_scr {H : Hp} {ow : Ow} {σ : L2.St} {env : Env} {i : Nat} {ns : List Int} (P : RpE K C H ow σ env) (e : slotScr env i = some ns) : ∃ a, σ[i]? = some (some (.ref a)) ∧ SqL K H a (ns.map V.int) ∧ ns.length ≤ 16777216 := by
  unfold slotScr at e
  split at e
  · rename_i y h
    cases e
    obtain ⟨v, fp, h1, h2, _⟩ := P.sl i _ h
    cases h2 with
    | scr hz h =>
      refine ⟨_, h1, ?_, hz⟩
      rcases h with ⟨o, h, _⟩ | ⟨h, _⟩ | h
      · exact .inl (.inr ⟨o, h⟩)
      · exact .of h
      · exact h H
  · cases e
theorem de_listScr (i : Nat) {x : Str} {p p2 : Pos} (hg : Gl X "list") (hm : X.mg "list" = none) (hv : bootBuiltins "list" = some (.type "list")) (ha : PA X [.Name x p2] (tCons (tVar i) tNil))
    (he : starEach [.Name x p2] X.env = (false, eval (.Name x p2) X.env) :: starEach [] X.env := by rfl) (hpl : (backTo pos (starEach [] X.env)).any (·.1) = false := by rfl) : DE X C (.Call (.Name "list" p) [.Name x p2] [] pos) (eListScr i) :=
  PEweak (pe_callTy call_list_of hg hm hv ha (by decide) (by decide) he hpl) fun σ H Q ⟨env, ow, P, h⟩ => by
    obtain ⟨d, e, h⟩ := rdAt_lift (v := V.non) h
    cases hn : slotScr env i with
    | none => rw [hn] at e; cases e
    | some ns =>
      rw [hn] at e
      cases e
      obtain ⟨a, h1, h2, hz⟩ := slot_scr P hn
      refine ⟨_, h1, a, _, rfl, .inl h2, fun l hl => rdAt_fin h (Gr.new hl) (.lst upd_same off_same (DVs.of_ints ns) (by rw [List.length_map]; exact hz)) P⟩
end
end DL


namespace DL
open PySem PySem.Spec PyProof.Rows L2

/-! ### slots are set -/
section
variable {K : PySem.W.Frag} {C : Cc} {H H' : Hp} {ow ow' : Ow} {σ : L2.St} {env : Env}
def IoFree (C : Cc) (i : Nat) : Prop := C.io i = none
theorem RpE.set (P : RpE K C H ow σ env) {i : Nat} {v : V} {m : M} {fp : List Addr} (h : VM K H ow v m fp) (nd : fp.Nodup) (hf : ∀ p ∈ fp, ow p = some i) (hio : IoFree C i) : RpE K C H ow (σ.set i (some v)) (env.set i (some m)) :=
  ⟨fun j m' e => by
    by_cases hj : i = j
    · subst hj
      by_cases hi : i < env.length
      · rw [List.getElem?_set_self hi] at e
        cases e
        exact ⟨v, fp, by rw [List.getElem?_set_self (by rw [P.lenS, ← P.len]; exact hi)], h, nd, hf⟩
      · rw [List.getElem?_eq_none (by simpa using hi)] at e; cases e
    · rw [List.getElem?_set_ne hj] at e ⊢
      exact P.sl j m' e,
  fun j v' e => by
    have hj : i ≠ j := fun z => by
      subst z
      rw [show C.io i = none from hio] at e
      cases e
    rw [List.getElem?_set_ne hj]
    exact P.io j v' e, by rw [List.length_set]; exact P.len, by rw [List.length_set]; exact P.lenS⟩
theorem RpE.setD (P : RpE K C H ow σ env) {i : Nat} {v : V} {d : PyData} (h : DV K H ow v d) (hio : IoFree C i) : RpE K C H ow (σ.set i (some v)) (env.set i (some (.d d))) :=
  P.set (.d h) List.nodup_nil (fun p hp => by cases hp) hio
/-- a slot forgotten -/
theorem RpE.drop (P : RpE K C H ow σ env) (i : Nat) : RpE K C H ow σ (env.set i none) :=
  ⟨fun j m' e => by
    by_cases hj : i = j
    · subst hj
      by_cases hi : i < env.length
      · rw [List.getElem?_set_self hi] at e; cases e
      · rw [List.getElem?_eq_none (by simpa using hi)] at e; cases e
    · rw [List.getElem?_set_ne hj] at e
      exact P.sl j m' e, P.io, by rw [List.length_set]; exact P.len, P.lenS⟩
def reown (ow : Ow) (a b : Nat) : Ow := fun x => if ow x = some a then some b else ow x
theorem reown_none {a b : Nat} {x : Addr} (h : ow x = none) : reown ow a b x = none := by
  unfold reown; rw [h]; rfl
theorem reown_ne {a b : Nat} {x : Addr} (h : ow x ≠ some a) : reown ow a b x = ow x := if_neg h
theorem reown_eq {a b : Nat} {x : Addr} (h : ow x = some a) : reown ow a b x = some b := if_pos h
theorem reown_stay {a b : Nat} : Stay H ow H (reown ow a b) := fun x o h h' => ⟨h, reown_none h'⟩
theorem RpE.reown (P : RpE K C H ow σ env) (b : Nat) : RpE K C H (reown ow C.N b) σ env :=
  ⟨fun j m e => by
    obtain ⟨v, fp, h1, h2, h3, h4⟩ := P.sl j m e
    refine ⟨v, fp, h1, h2.stay reown_stay fun _ _ => rfl, h3, fun p hp => ?_⟩
    have hj := (List.getElem?_eq_some_iff.mp e).1
    have := P.len
    rw [reown_ne]
    · exact h4 p hp
    · rw [h4 p hp]
      intro z
      have := Option.some.inj z
      omega, P.io, P.len, P.lenS⟩
theorem Ext.reown {N b : Nat} {H0 : Hp} {ow0 : Ow} (x : Ext N H0 ow0 H ow) : Ext N H0 ow0 H (reown ow N b) := fun a o h h' => by
  obtain ⟨p, q⟩ := x a o h h'
  refine ⟨p, (reown_ne fun z => ?_).trans q⟩
  rw [q] at z
  exact absurd (h' N z) (Nat.lt_irrefl _)
/-- a value at the end of an expression, put into a slot -/
theorem RpE.setM (P : RpE K C H ow σ env) {i : Nat} {v : V} {m : M} (h : RM K C.N H ow v m) (hio : IoFree C i) : RpE K C H (DL.reown ow C.N i) (σ.set i (some v)) (env.set i (some m)) := by
  obtain ⟨fp, h1, h2, h3⟩ := h
  exact (P.reown i).set (h1.stay reown_stay fun _ _ => rfl) h2 (fun p hp => reown_eq (h3 p hp)) hio
/-- the object of an owned list at slot i is changed -/
theorem RpE.upd (P : RpE K C H ow σ env) {i : Nat} {a : Addr} {vs' : List V} {ds' : List PyData} (hi : σ[i]? = some (some (.ref a))) (ha : ow a = some i) (hl : i < C.N) (h : DVs K H ow vs' ds') (hz : ds'.length ≤ 16777216) :
    RpE K C (upd H a (.lst vs')) ow σ (env.set i (some (.l ds'))) ∧ Ext C.N H ow (upd H a (.lst vs')) ow ∧ Stay H ow (upd H a (.lst vs')) ow := by
  have st : Stay H ow (L2.upd H a (.lst vs')) ow := fun b o hb hb' => ⟨by
    rw [upd_ne (fun z => by rw [z, ha] at hb'; cases hb')]; exact hb, hb'⟩
  refine ⟨⟨fun j m e => ?_, P.io, by rw [List.length_set]; exact P.len, P.lenS⟩, fun b o hb hb' => ⟨?_, rfl⟩, st⟩
  · by_cases hj : i = j
    · subst hj
      rw [List.getElem?_set_self (by rw [P.len]; exact hl)] at e
      cases e
      exact ⟨.ref a, [a], hi, .l upd_same (h.stay st) hz, by simp, fun p hp => by simp at hp; subst hp; exact ha⟩
    · rw [List.getElem?_set_ne hj] at e
      obtain ⟨v, fp, h1, h2, h3, h4⟩ := P.sl j m e
      refine ⟨v, fp, h1, h2.stay st fun p hp => upd_ne fun z => ?_, h3, h4⟩
      have := h4 p hp
      rw [z, ha] at this
      exact hj (Option.some.inj this)
  · refine (upd_ne fun z => ?_).trans hb
    have := hb' i (by rw [z]; exact ha)
    omega
end

/-! ### targets -/
def rdG (K : PySem.W.Frag) (C : Cc) (ts : List Nat) (g : PyData → Env → Option Env) : TG := fun v σ H Q => ∃ env ow d, RpE K C H ow σ env ∧ DV K H ow v d ∧
  match g d env with
  | some env' => ∀ σ', (∀ i, i ∉ ts → σ'[i]? = σ[i]?) → RpE K C H ow σ' env' → Q σ' H
  | none => False
def rdGs (K : PySem.W.Frag) (C : Cc) (ts : List Nat) (g : List PyData → Env → Option Env) : TGs := fun vs σ H Q => ∃ env ow ds, RpE K C H ow σ env ∧ DVs K H ow vs ds ∧
  match g ds env with
  | some env' => ∀ σ', (∀ i, i ∉ ts → σ'[i]? = σ[i]?) → RpE K C H ow σ' env' → Q σ' H
  | none => False
def DG (X : Cx) (C : Cc) (e : Expr) (ts : List Nat) (g : PyData → Env → Option Env) : Prop := PG X e (rdG X.K C ts g)
def DGs (X : Cx) (C : Cc) (es : List Expr) (ts : List Nat) (g : List PyData → Env → Option Env) : Prop := PGs X es (rdGs X.K C ts g)
theorem PGweak {X : Cx} {e : Expr} {t t' : TG} (h : PG X e t) (w : ∀ v σ H Q, t' v σ H Q → t v σ H Q) : PG X e t' := ⟨fun pins s σ H v u Q I r q => h.run pins s σ H v u Q I r (w v σ H Q q)⟩
theorem PGsweak {X : Cx} {e : List Expr} {t t' : TGs} (h : PGs X e t) (w : ∀ v σ H Q, t' v σ H Q → t v σ H Q) : PGs X e t' := ⟨fun pins s σ H v u Q I r q => h.run pins s σ H v u Q I r (w v σ H Q q)⟩
def gN (i : Nat) : PyData → Env → Option Env := fun d env => some (env.set i (some (.d d)))
def gsN : List PyData → Env → Option Env := fun ds env => match ds with | [] => some env | _ => none
def gsC (g : PyData → Env → Option Env) (gs : List PyData → Env → Option Env) : List PyData → Env → Option Env := fun ds env => match ds with | d :: r => (g d env).bind (gs r) | [] => none
def gT (n : Nat) (gs : List PyData → Env → Option Env) : PyData → Env → Option Env := fun d env => match d with | .tuple ds => if ds.length = n then gs ds env else none | _ => none
section
variable {X : Cx} {C : Cc} {pos : Pos}
theorem dg_name (i : Nat) {x : Str} (hN : X.N.Nodup) (hi : X.N[i]? = some x) (hx : Loc X.env.scope x) (hio : IoFree C i) (hf : X.fn x = true ∨ X.env.scope.names.lookup x = some .local := by first | exact .inl rfl | exact .inr rfl | assumption) : DG X C (.Name x pos) [i] (gN i) :=
  PGweak (pg_name hN hi hx hf) fun v σ H Q ⟨env, ow, d, P, hd, h⟩ => h _ (fun j hj => List.getElem?_set_ne (fun z => hj (by simp [z]))) (P.setD hd hio)
theorem dgs_nil : DGs X C [] [] gsN :=
  PGsweak pgs_nil fun vs σ H Q ⟨env, ow, ds, P, hd, h⟩ => by
    cases hd with
    | nil => exact ⟨rfl, h σ (fun _ _ => rfl) P⟩
    | cons => exact h.elim
theorem dgs_cons {e : Expr} {es : List Expr} {ts us : List Nat} {g : PyData → Env → Option Env} {gs : List PyData → Env → Option Env} (h1 : DG X C e ts g) (h2 : DGs X C es us gs)
    (hs : (assignEach (e :: es) X.env).map (·.2) = assign e X.env :: (assignEach es X.env).map (·.2) := by rfl) : DGs X C (e :: es) (ts ++ us) (gsC g gs) :=
  PGsweak (pgs_cons h1 h2 hs) fun vs σ H Q ⟨env, ow, ds, P, hd, h⟩ => by
    cases hd with
    | nil => exact h.elim
    | @cons v vs d ds hd hds =>
      refine ⟨v, vs, rfl, env, ow, d, P, hd, ?_⟩
      cases e1 : g d env with
      | none => simp only [gsC, e1, Option.bind_none] at h
      | some env1 =>
        simp only [gsC, e1, Option.bind_some] at h
        intro σ1 hσ1 P1
        refine ⟨env1, ow, ds, P1, hds, ?_⟩
        cases e2 : gs ds env1 with
        | none => rw [e2] at h; exact h
        | some env2 =>
          rw [e2] at h
          intro σ2 hσ2 P2
          exact h σ2 (fun i hi => (hσ2 i fun z => hi (by simp [z])).trans (hσ1 i fun z => hi (by simp [z]))) P2
theorem dg_tup {es : List Expr} {k n : Nat} {ts : List Nat} {gs : List PyData → Env → Option Env} (hc : X.calm = true) (h : DGs X C es ts gs)
    (hn : (assignEach es X.env).length = n := by rfl) (hst : (assignEach es X.env).findIdx? (·.1) = none := by rfl) : DG X C (.Tuple es k pos) ts (gT n gs) :=
  PGweak (pg_tup hc h hn hst) fun v σ H Q ⟨env, ow, d, P, hd, h⟩ => by
    cases hd with
    | @tup a xs ds h1 h3 hz =>
      by_cases hl : ds.length = n
      · simp only [gT, if_pos hl] at h
        exact ⟨a, xs, rfl, h1.sq, h3.length.trans hl, env, ow, ds, P, h3, h⟩
      · simp only [gT, if_neg hl] at h
    | _ => exact h.elim
end

/-! ### what is walked -/
structure Wk (K : PySem.W.Frag) (J : It) (ds : List PyData) (G : Hp → Ow → Prop) : Prop where
  st : ∀ H ow H' ow', G H ow → Stay H ow H' ow' → G H' ow'
  goes : ∀ i H ow, i < ds.length → G H ow → J.go i H
  stops : ∀ H ow, G H ow → J.stop ds.length H
  yields : ∀ i H ow x H', i < ds.length → G H ow → J.yld i H x H' → ∃ ow' d, ds[i]? = some d ∧ Gr H ow H' ow' ∧ DV K H' ow' x d
  len : ds.length ≤ 16777216
abbrev RI (K : PySem.W.Frag) : Hp → Ow → It → List PyData → Prop := fun H ow J ds => ∃ G, Wk K J ds G ∧ G H ow
def DI (X : Cx) (C : Cc) (tg e : Expr) (t : Env → Rs (List PyData)) : Prop := PI X tg e (rd X.K C (RI X.K) t)
theorem PIweak {X : Cx} {tg e : Expr} {t t' : TI} (h : PI X tg e t) (w : ∀ σ H Q, t' σ H Q → t σ H Q) : PI X tg e t' := ⟨fun pins s σ H Q I q => h.run pins s σ H Q I (w σ H Q q)⟩
def itSeq (t : Env → Rs PyData) : Env → Rs (List PyData) := fun env => (t env).bind fun d e => lift (seqOf d) e
section
variable {X : Cx} {C : Cc} {tg e : Expr} {K : PySem.W.Frag}
theorem wk_list {a : Addr} {xs : List V} {ds : List PyData} (hz : ds.length ≤ 16777216) (h : xs.length = ds.length) : Wk K (Itl K a) ds fun H ow => H a = some (.lst xs) ∧ ow a = none ∧ DVs K H ow xs ds where
  st := fun H ow H' ow' ⟨a, b, c⟩ st => let ⟨p, q⟩ := st _ _ a b; ⟨p, q, c.stay st⟩
  goes := fun i H ow hi ⟨a, b, c⟩ => ⟨xs, xs[i]'(by omega), .of a, by simp [h, hi]⟩
  stops := fun H ow ⟨a, b, c⟩ => ⟨xs, .of a, by omega⟩
  yields := fun i H ow x H' hi ⟨a, b, c⟩ ⟨e, y⟩ => by
    subst e
    obtain ⟨v, h1, h2⟩ := c.get (i := i) (d := ds[i]) (by simp)
    have := y xs (.of a)
    rw [h1] at this
    cases this
    exact ⟨ow, ds[i], by simp, .refl, h2⟩
  len := by omega
theorem wk_tup {a : Addr} {xs : List V} {ds : List PyData} (hz : ds.length ≤ 16777216) (h : xs.length = ds.length) : Wk K (Itt K a) ds fun H ow => FT K H ow a xs ∧ DVs K H ow xs ds where
  st := fun H ow H' ow' ⟨a, c⟩ st => ⟨a.stay st, c.stay st⟩
  goes := fun i H ow hi ⟨a, c⟩ => ⟨xs, xs[i]'(by omega), a.sq, by simp [h, hi]⟩
  stops := fun H ow ⟨a, c⟩ => ⟨xs, a.sq, by omega⟩
  yields := fun i H ow x H' hi ⟨a, c⟩ ⟨e, y⟩ => by
    subst e
    obtain ⟨v, h1, h2⟩ := c.get (i := i) (d := ds[i]) (by simp)
    have := y xs a.sq
    rw [h1] at this
    cases this
    exact ⟨ow, ds[i], by simp, .refl, h2⟩
  len := by omega
theorem di_seq {t : Env → Rs PyData} (h : DE X C e t) : DI X C tg e (itSeq t) := by
  refine ⟨fun pins s σ H R I ⟨env, ow, P, hw⟩ => ?_⟩
  refine thn (PE.run h pins s σ H _ I ⟨env, ow, P, rdAt_bind (R1 := RE X.K) hw⟩) fun v s1 ⟨x, H1, I1, r1, d, e1, ow1, X1, V1, P1, h1⟩ => ?_
  obtain ⟨ds, e2, h1⟩ := rdAt_lift (v := Itr 0 0) h1
  cases V1 with
  | @lst a xs ds h2 h3 h4 hl =>
    cases e2
    cases r1
    obtain ⟨its, rv, p, hz⟩ := I1.list (.of h2)
    refine wpAny_pyIter_list p.isList ?_
    refine ⟨s1.heap.objs.size, [s1.heap.objs.size], _, _, H1, rfl, I1.kept (t' := s1.toks) fun b o e => Heap.get?_push_of_some _ e, turn_list a _, ⟨_, Heap.get?_push_size _ rfl, rfl, rfl⟩, fun b hb => ?_, h1 _ H1 ow1 Ext.refl ⟨_, wk_list hl h4.length, h2, h3, h4⟩ P1⟩
    have e : b = s1.heap.objs.size := by simpa using hb
    subst e
    exact I1.fpOk (Nat.le_refl _) (I1.hok.fresh (Nat.le_refl _))
  | @tup a xs ds h2 h4 hl =>
    cases e2
    cases r1
    obtain ⟨its, rv, p, hz⟩ := I1.tuple h2.sq
    refine wpAny_pyIter_tuple (show s1.heap.IsTuple a its.toArray from p) ?_
    refine ⟨s1.heap.objs.size, [s1.heap.objs.size], _, _, H1, rfl, I1.kept (t' := s1.toks) fun b o e => Heap.get?_push_of_some _ e, turn_tuple a _, ⟨_, Heap.get?_push_size _ rfl, rfl, rfl⟩, fun b hb => ?_, h1 _ H1 ow1 Ext.refl ⟨_, wk_tup hl h4.length, h2, h4⟩ P1⟩
    have e : b = s1.heap.objs.size := by simpa using hb
    subst e
    exact I1.fpOk (Nat.le_refl _) (I1.hok.fresh (Nat.le_refl _))
  | _ => cases e2
def rangeD (lo : Int) (n : Nat) : List PyData := (List.range n).map fun (k : Nat) => .int (lo + k)
def bRange1 : List PyData → Option (List PyData)
  | [.int j] => if j ≤ 16777216 ∧ -(2 ^ 62) ≤ j then some (rangeD 0 j.toNat) else none
  | _ => none
def bRange2 : List PyData → Option (List PyData)
  | [.int i, .int j] => if j ≤ 16777216 ∧ -(2 ^ 62) ≤ j ∧ -1000 ≤ i ∧ i ≤ 16777216 ∧ j - i ≤ 16777216 then some (rangeD i (j - i).toNat) else none
  | _ => none
def itB (f : List PyData → Option (List PyData)) (t : Env → Rs (List PyData)) : Env → Rs (List PyData) := fun env => (t env).bind fun d e => lift (f d) e
theorem wk_range {lo : Int} {n : Nat} (hn : n ≤ 16777216) : Wk K (Itr lo n) (rangeD lo n) fun _ _ => True where
  st := fun _ _ _ _ _ _ => trivial
  goes := fun i H ow hi _ => by
    show i < n
    simpa [rangeD] using hi
  stops := fun H ow _ => by show n ≤ _; simp [rangeD]
  yields := fun i H ow x H' hi _ ⟨e, y⟩ => by
    subst e; subst y
    refine ⟨ow, .int (lo + i), ?_, .refl, .int _⟩
    have : i < n := by simpa [rangeD] using hi
    simp [rangeD, this]
  len := by simpa [rangeD] using hn
theorem di_range1 {a : Expr} {t : Env → Rs (List PyData)} {p pos : Pos} (hg : Gl X "range") (hm : X.mg "range" = none) (ha : DA X C [a] t) (hs : starEach [a] X.env = [(false, eval a X.env)] := by rfl) : DI X C tg (.Call (.Name "range" p) [a] [] pos) (itB bRange1 t) :=
  PIweak (pi_range1 hg hm ha hs) fun σ H Q h => rd_one (R1 := RA X.K) h fun v x H ow env hv P h => by
    obtain ⟨o, e, h⟩ := rdAt_lift (v := Itr 0 0) h
    unfold bRange1 at e
    split at e
    · obtain ⟨w, rfl, d⟩ := hv.one
      cases d
      obtain ⟨hj, rfl⟩ := if_some e
      exact ⟨_, rfl, by omega, by omega, h _ H ow Ext.refl ⟨_, wk_range (by omega), trivial⟩ P⟩
    · cases e
theorem di_range2 {a b : Expr} {t : Env → Rs (List PyData)} {p pos : Pos} (hg : Gl X "range") (hm : X.mg "range" = none) (ha : DA X C [a, b] t) (hs : starEach [a, b] X.env = [(false, eval a X.env), (false, eval b X.env)] := by rfl) (hs2 : starEach [b] X.env = [(false, eval b X.env)] := by rfl) : DI X C tg (.Call (.Name "range" p) [a, b] [] pos) (itB bRange2 t) :=
  PIweak (pi_range2 hg hm ha hs hs2) fun σ H Q h => rd_one (R1 := RA X.K) h fun v x H ow env hv P h => by
    obtain ⟨o, e, h⟩ := rdAt_lift (v := Itr 0 0) h
    unfold bRange2 at e
    split at e
    · obtain ⟨w, w', rfl, d, d'⟩ := hv.two
      cases d
      cases d'
      obtain ⟨hj, rfl⟩ := if_some e
      exact ⟨_, _, rfl, by omega, h _ H ow Ext.refl ⟨_, wk_range (by omega), trivial⟩ P⟩
    · cases e
/-- zip of two lists, of two tuples -/
def zip2 (xs ys : List PyData) : List PyData := List.zipWith (fun x y => .tuple [x, y]) xs ys
def bZip : List PyData → Option (List PyData)
  | [.list xs, .list ys] => some (zip2 xs ys)
  | [.tuple xs, .tuple ys] => some (zip2 xs ys)
  | _ => none
theorem wk_zipL {a b : Addr} {xs ys : List V} {ds es : List PyData} (hz : ds.length ≤ 16777216) (h : xs.length = ds.length) (h' : ys.length = es.length) :
    Wk K (DLT.ItzZ K a b) (zip2 ds es) fun H ow => (H a = some (.lst xs) ∧ ow a = none ∧ DVs K H ow xs ds) ∧ (H b = some (.lst ys) ∧ ow b = none ∧ DVs K H ow ys es) where
  st := fun H ow H' ow' ⟨⟨a, b, c⟩, ⟨a', b', c'⟩⟩ st => ⟨let ⟨p, q⟩ := st _ _ a b; ⟨p, q, c.stay st⟩, let ⟨p, q⟩ := st _ _ a' b'; ⟨p, q, c'.stay st⟩⟩
  goes := fun i H ow hi ⟨⟨a, b, c⟩, ⟨a', b', c'⟩⟩ => by
    have hi' : i < min ds.length es.length := by simpa [zip2] using hi
    exact ⟨xs, ys, xs[i]'(by omega), ys[i]'(by omega), .of a, .of a', by simp, by simp⟩
  stops := fun H ow ⟨⟨a, b, c⟩, ⟨a', b', c'⟩⟩ => ⟨xs, ys, .of a, .of a', by
    simp only [zip2, List.length_zipWith]
    omega⟩
  yields := fun i H ow x H' hi ⟨⟨a, b, c⟩, ⟨a', b', c'⟩⟩ ⟨T, u, w, zo, e1, e2, e3, hd, e4, e5⟩ => by
    have hi' : i < min ds.length es.length := by simpa [zip2] using hi
    subst e1; subst e3
    obtain ⟨v1, h1, h2⟩ := c.get (i := i) (d := ds[i]'(by omega)) (by simp)
    obtain ⟨v2, k1, k2⟩ := c'.get (i := i) (d := es[i]'(by omega)) (by simp)
    have t1 := e4 xs (.of a)
    have t2 := e5 ys (.of a')
    rw [h1] at t1
    rw [k1] at t2
    cases t1; cases t2
    refine ⟨off ow T, .tuple [ds[i]'(by omega), es[i]'(by omega)], ?_, Gr.new e2, .tup (.new hd) (.cons (h2.stay (Gr.new e2).stay) (.cons (k2.stay (Gr.new e2).stay) .nil)) (by simp)⟩
    simp [zip2, List.getElem?_zipWith, show i < ds.length by omega, show i < es.length by omega]
  len := by
    simp only [zip2, List.length_zipWith]
    omega
theorem wk_zipT {a b : Addr} {xs ys : List V} {ds es : List PyData} (hz : ds.length ≤ 16777216) (h : xs.length = ds.length) (h' : ys.length = es.length) :
    Wk K (DLT.ItzTZ K a b) (zip2 ds es) fun H ow => (FT K H ow a xs ∧ DVs K H ow xs ds) ∧ (FT K H ow b ys ∧ DVs K H ow ys es) where
  st := fun H ow H' ow' ⟨⟨a, c⟩, ⟨a', c'⟩⟩ st => ⟨⟨a.stay st, c.stay st⟩, ⟨a'.stay st, c'.stay st⟩⟩
  goes := fun i H ow hi ⟨⟨a, c⟩, ⟨a', c'⟩⟩ => by
    have hi' : i < min ds.length es.length := by simpa [zip2] using hi
    exact ⟨xs, ys, xs[i]'(by omega), ys[i]'(by omega), a.sq, a'.sq, by simp, by simp⟩
  stops := fun H ow ⟨⟨a, c⟩, ⟨a', c'⟩⟩ => ⟨xs, ys, a.sq, a'.sq, by
    simp only [zip2, List.length_zipWith]
    omega⟩
  yields := fun i H ow x H' hi ⟨⟨a, c⟩, ⟨a', c'⟩⟩ ⟨T, u, w, zo, e1, e2, e3, hd, e4, e5⟩ => by
    have hi' : i < min ds.length es.length := by simpa [zip2] using hi
    subst e1; subst e3
    obtain ⟨v1, h1, h2⟩ := c.get (i := i) (d := ds[i]'(by omega)) (by simp)
    obtain ⟨v2, k1, k2⟩ := c'.get (i := i) (d := es[i]'(by omega)) (by simp)
    have t1 := e4 xs a.sq
    have t2 := e5 ys a'.sq
    rw [h1] at t1
    rw [k1] at t2
    cases t1; cases t2
    refine ⟨off ow T, .tuple [ds[i]'(by omega), es[i]'(by omega)], ?_, Gr.new e2, .tup (.new hd) (.cons (h2.stay (Gr.new e2).stay) (.cons (k2.stay (Gr.new e2).stay) .nil)) (by simp)⟩
    simp [zip2, List.getElem?_zipWith, show i < ds.length by omega, show i < es.length by omega]
  len := by
    simp only [zip2, List.length_zipWith]
    omega
theorem di_zip {a b : Expr} {elts : List Expr} {kk : Nat} {tpos : Pos} {t : Env → Rs (List PyData)} {p pos : Pos} (hg : Gl X "zip") (hm : X.mg "zip" = none) (ha : DA X C [a, b] t)
    (hs : starEach [a, b] X.env = (false, eval a X.env) :: starEach [b] X.env := by rfl) (hpl : (backTo pos (starEach [b] X.env)).any (·.1) = false := by rfl) : DI X C (.Tuple elts kk tpos) (.Call (.Name "zip" p) [a, b] [] pos) (itB bZip t) :=
  PIweak (DLT.pi_zipZ hg hm ha hs hpl) fun σ H Q h => rd_one (R1 := RA X.K) h fun v x H ow env hv P h => by
    obtain ⟨o, e, h⟩ := rdAt_lift (v := Itr 0 0) h
    unfold bZip at e
    split at e
    · obtain ⟨w, w', rfl, d, d'⟩ := hv.two
      cases d with
      | @lst a xs ds h1 h2 h3 hz =>
        cases d' with
        | @lst b ys es k1 k2 k3 hz' =>
          cases e
          exact ⟨a, b, xs, ys, rfl, .inl ⟨.of h1, .of k1, h _ H ow Ext.refl ⟨_, wk_zipL hz h3.length k3.length, ⟨h1, h2, h3⟩, ⟨k1, k2, k3⟩⟩ P⟩⟩
    · obtain ⟨w, w', rfl, d, d'⟩ := hv.two
      cases d with
      | @tup a xs ds h1 h3 hz =>
        cases d' with
        | @tup b ys es k1 k3 hz' =>
          cases e
          exact ⟨a, b, xs, ys, rfl, .inr ⟨h1.sq, k1.sq, h _ H ow Ext.refl ⟨_, wk_zipT hz h3.length k3.length, ⟨h1, h3⟩, ⟨k1, k3⟩⟩ P⟩⟩
    · cases e
/-- enumerate of a list -/
def enumD (n : Nat) : List PyData → List PyData
  | [] => []
  | x :: r => .tuple [.int n, x] :: enumD (n + 1) r
theorem enumD_length : ∀ (ds : List PyData) (n : Nat), (enumD n ds).length = ds.length
  | [], _ => rfl
  | _ :: r, n => by simp [enumD, enumD_length r]
theorem enumD_get : ∀ (ds : List PyData) (n i : Nat), (enumD n ds)[i]? = ds[i]?.map fun x => .tuple [.int ((n + i : Nat) : Int), x]
  | [], _, _ => by simp [enumD]
  | x :: r, n, 0 => by simp [enumD]
  | x :: r, n, i + 1 => by
    simp only [enumD, List.getElem?_cons_succ]
    rw [enumD_get r (n + 1) i]
    rw [show n + 1 + i = n + (i + 1) by omega]
def bEnumL : List PyData → Option (List PyData)
  | [.list xs] => some (enumD 0 xs)
  | _ => none
theorem wk_enumL {a : Addr} {xs : List V} {ds : List PyData} (hz : ds.length ≤ 16777216) (h : xs.length = ds.length) : Wk K (DLT.IteZ K a) (enumD 0 ds) fun H ow => H a = some (.lst xs) ∧ ow a = none ∧ DVs K H ow xs ds where
  st := fun H ow H' ow' ⟨a, b, c⟩ st => let ⟨p, q⟩ := st _ _ a b; ⟨p, q, c.stay st⟩
  goes := fun i H ow hi ⟨a, b, c⟩ => by
    rw [enumD_length] at hi
    exact ⟨xs, xs[i]'(by omega), .of a, by simp [h, hi]⟩
  stops := fun H ow ⟨a, b, c⟩ => ⟨xs, .of a, by rw [enumD_length]; omega⟩
  yields := fun i H ow x H' hi ⟨a, b, c⟩ ⟨T, u, zo, e1, e2, e3, hd, e4⟩ => by
    rw [enumD_length] at hi
    subst e1; subst e3
    obtain ⟨v, h1, h2⟩ := c.get (i := i) (d := ds[i]) (by simp)
    have := e4 xs (.of a)
    rw [h1] at this
    cases this
    refine ⟨off ow T, .tuple [.int i, ds[i]], ?_, Gr.new e2, .tup (.new hd) (.cons (.int _) (.cons (h2.stay (Gr.new e2).stay) .nil)) (by simp)⟩
    rw [enumD_get]
    simp [hi]
  len := by rw [enumD_length]; exact hz
theorem di_enumL {a : Expr} {elts : List Expr} {kk : Nat} {tpos : Pos} {t : Env → Rs (List PyData)} {p pos : Pos} (hg : Gl X "enumerate") (hm : X.mg "enumerate" = none) (ha : DA X C [a] t) (hs : starEach [a] X.env = [(false, eval a X.env)] := by rfl) :
    DI X C (.Tuple elts kk tpos) (.Call (.Name "enumerate" p) [a] [] pos) (itB bEnumL t) :=
  PIweak (DLT.pi_enumZ hg hm ha hs) fun σ H Q h => rd_one (R1 := RA X.K) h fun v x H ow env hv P h => by
    obtain ⟨o, e, h⟩ := rdAt_lift (v := Itr 0 0) h
    unfold bEnumL at e
    split at e
    · obtain ⟨w, rfl, d⟩ := hv.one
      cases d with
      | @lst a xs ds h1 h2 h3 hz =>
        cases e
        exact ⟨a, xs, rfl, .of h1, h _ H ow Ext.refl ⟨_, wk_enumL hz h3.length, h1, h2, h3⟩ P⟩
    · cases e
end
end DL


namespace DL
open PySem PySem.Spec PyProof.Rows L2

/-! ### comprehensions -/
def wipeE (e : Env) : List Nat → Env
  | [] => e
  | v :: vs => (wipeE e vs).set v none
def keepD : Option (Option M) → Option M
  | some (some (.d x)) => some (.d x)
  | _ => none
def restE (e0 : Env) : List Nat → Env → Env
  | [], e => e
  | v :: vs, e => restE e0 vs (e.set v (keepD e0[v]?))
def compGo (g : PyData → Env → Option Env) (tt : Env → Rs Bool) (te : Env → Rs PyData) (vs : List Nat) : List PyData → List PyData → Env → Rs (List PyData)
  | [], acc, e => .ok acc e
  | x :: xs, acc, e => match g x e with
    | none => .no
    | some e1 => (tt e1).bind fun b e2 => if b = true then (te e2).bind fun y e3 => compGo g tt te vs xs (acc ++ [y]) (wipeE e3 vs) else compGo g tt te vs xs acc (wipeE e2 vs)
def compR (vs : List Nat) (e0 : Env) : Rs (List PyData) → Rs (List PyData)
  | .ok r e => .ok r (restE e0 vs e)
  | _ => .no
def eComp0 (it : Env → Rs (List PyData)) (g : PyData → Env → Option Env) (tt : Env → Rs Bool) (te : Env → Rs PyData) (vs : List Nat) : Env → Rs (List PyData) := fun env =>
  (it env).bind fun ds e => compR vs e (compGo g tt te vs ds [] (wipeE e vs))
def eComp (it : Env → Rs (List PyData)) (g : PyData → Env → Option Env) (tt : Env → Rs Bool) (te : Env → Rs PyData) (vs : List Nat) : Env → Rs PyData := fun env => (eComp0 it g tt te vs env).bind fun r e => .ok (.list r) e
def mComp (it : Env → Rs (List PyData)) (g : PyData → Env → Option Env) (tt : Env → Rs Bool) (te : Env → Rs PyData) (vs : List Nat) : Env → Rs M := fun env => (eComp0 it g tt te vs env).bind fun r e => .ok (.l r) e
def tYesD : Env → Rs Bool := fun e => .ok true e
theorem wipeE_length (e : Env) : ∀ vs, (wipeE e vs).length = e.length
  | [] => rfl
  | v :: vs => by unfold wipeE; rw [List.length_set, wipeE_length e vs]
theorem wipeE_some {e : Env} {i : Nat} {m : M} : ∀ {vs : List Nat}, (wipeE e vs)[i]? = some (some m) → e[i]? = some (some m) ∧ i ∉ vs
  | [], h => ⟨h, by simp⟩
  | v :: vs, h => by
    unfold wipeE at h
    by_cases hi : v = i
    · subst hi
      by_cases hv : v < (wipeE e vs).length
      · rw [List.getElem?_set_self hv] at h; cases h
      · rw [List.getElem?_eq_none (by simpa using hv)] at h; cases h
    · rw [List.getElem?_set_ne hi] at h
      obtain ⟨h1, h2⟩ := wipeE_some h
      exact ⟨h1, by simp only [List.mem_cons, not_or]; exact ⟨fun e => hi e.symm, h2⟩⟩
theorem wipe_in {σ : L2.St} {i : Nat} : ∀ {vs : List Nat}, i ∈ vs → i < σ.length → (wipe σ vs)[i]? = some none
  | v :: vs, h, hl => by
    unfold wipe
    by_cases hi : v = i
    · subst hi; rw [List.getElem?_set_self (by rw [wipe_length]; exact hl)]
    · rw [List.getElem?_set_ne hi]
      exact wipe_in ((List.mem_cons.mp h).resolve_left fun z => hi z.symm) hl
theorem wipe_eq {σ σ2 : L2.St} {vs : List Nat} (hl : σ2.length = σ.length) (h : ∀ i, i ∉ vs → σ2[i]? = σ[i]?) : wipe σ2 vs = wipe σ vs := by
  apply List.ext_getElem?
  intro i
  by_cases hi : i ∈ vs
  · by_cases hb : i < σ.length
    · rw [wipe_in hi hb, wipe_in hi (by rw [hl]; exact hb)]
    · rw [List.getElem?_eq_none (by rw [wipe_length]; omega), List.getElem?_eq_none (by rw [wipe_length]; omega)]
  · rw [wipe_out hi, wipe_out hi]
    exact h i hi
section
variable {K : PySem.W.Frag} {C : Cc} {H H' : Hp} {ow ow' : Ow} {σ : L2.St} {env : Env}
def IoFreeAll (C : Cc) (vs : List Nat) : Prop := ∀ i ∈ vs, IoFree C i
theorem RpE.wipe (P : RpE K C H ow σ env) {vs : List Nat} (hio : IoFreeAll C vs) : RpE K C H ow (L2.wipe σ vs) (wipeE env vs) :=
  ⟨fun i m e => by
    obtain ⟨h1, h2⟩ := wipeE_some e
    obtain ⟨v, fp, a, b, c, d⟩ := P.sl i m h1
    exact ⟨v, fp, by rw [wipe_out h2]; exact a, b, c, d⟩, fun i v e => by
    have hi : i ∉ vs := fun z => by
      rw [show C.io i = none from hio i z] at e
      cases e
    rw [wipe_out hi]; exact P.io i v e, by rw [wipeE_length]; exact P.len, by rw [wipe_length]; exact P.lenS⟩
theorem restE_length (e0 : Env) : ∀ (vs : List Nat) (e : Env), (restE e0 vs e).length = e.length
  | [], _ => rfl
  | v :: vs, e => by unfold restE; rw [restE_length e0 vs, List.length_set]
/-- behind the block: its own names are as before it -/
theorem restE_get {e0 : Env} {i : Nat} {m : M} : ∀ {vs : List Nat} {e : Env}, (restE e0 vs e)[i]? = some (some m) → (i ∈ vs ∧ ∃ x, m = .d x ∧ e0[i]? = some (some (.d x))) ∨ (i ∉ vs ∧ e[i]? = some (some m))
  | [], e, h => .inr ⟨by simp, h⟩
  | v :: vs, e, h => by
    unfold restE at h
    rcases restE_get h with ⟨a, b⟩ | ⟨a, b⟩
    · exact .inl ⟨List.mem_cons_of_mem _ a, b⟩
    · by_cases hv : v = i
      · subst hv
        by_cases hl : v < e.length
        · rw [List.getElem?_set_self hl] at b
          have b' : keepD e0[v]? = some m := Option.some.inj b
          unfold keepD at b'
          split at b'
          · rename_i x hx
            cases b'
            exact .inl ⟨List.mem_cons_self, x, rfl, hx⟩
          · cases b'
        · rw [List.getElem?_eq_none (by simpa using hl)] at b; cases b
      · rw [List.getElem?_set_ne hv] at b
        exact .inr ⟨fun z => (List.mem_cons.mp z).elim (fun q => hv q.symm) a, b⟩
theorem RpE.rest {e0 : Env} {vs : List Nat} {H0 : Hp} {ow0 : Ow} (P0 : RpE K C H0 ow0 σ e0) (st : Stay H0 ow0 H ow) (P : RpE K C H ow (L2.wipe σ vs) env) : RpE K C H ow σ (restE e0 vs env) :=
  ⟨fun i m e => by
    rcases restE_get e with ⟨a, x, rfl, hx⟩ | ⟨a, b⟩
    · obtain ⟨v, fp, h1, h2, h3, h4⟩ := P0.sl i _ hx
      cases h2 with
      | d h2 => exact ⟨v, [], h1, .d (h2.stay st), List.nodup_nil, fun p hp => by cases hp⟩
    · obtain ⟨v, fp, h1, h2, h3, h4⟩ := P.sl i m b
      exact ⟨v, fp, by rw [wipe_out a] at h1; exact h1, h2, h3, h4⟩, P0.io, by rw [restE_length]; exact P.len, P0.lenS⟩
end
theorem RpE.other {K : PySem.W.Frag} {C : Cc} {H H' : Hp} {ow ow' : Ow} {σ : L2.St} {env : Env} (h : ∀ a o, H a = some o → (∀ i, ow a = some i → i < C.N) → H' a = some o ∧ ow' a = ow a) (P : RpE K C H ow σ env) : RpE K C H' ow' σ env :=
  ⟨fun i m e => by
    obtain ⟨v, fp, h1, h2, h3, h4⟩ := P.sl i m e
    have hi := (List.getElem?_eq_some_iff.mp e).1
    have hN := P.len
    have hk : ∀ p ∈ fp, H' p = H p ∧ ow' p = ow p := fun p hp => by
      obtain ⟨o, ho⟩ := h2.there p hp
      obtain ⟨a, b⟩ := h p o ho fun j z => by
        rw [h4 p hp] at z
        have := Option.some.inj z
        omega
      exact ⟨a.trans ho.symm, b⟩
    refine ⟨v, fp, h1, h2.stay (fun a o ha ha' => ?_) fun p hp => (hk p hp).1, h3, fun p hp => (hk p hp).2.trans (h4 p hp)⟩
    obtain ⟨p, q⟩ := h a o ha fun j z => by rw [ha'] at z; cases z
    exact ⟨p, q.trans ha'⟩, P.io, P.len, P.lenS⟩
def Cc.blk (C : Cc) : Cc := { C with W := fun _ _ _ _ => False }
theorem RpE.blk {K : PySem.W.Frag} {C : Cc} {H : Hp} {ow : Ow} {σ : L2.St} {env : Env} (P : RpE K C H ow σ env) : RpE K C.blk H ow σ env := ⟨P.sl, P.io, P.len, P.lenS⟩
theorem RpE.unblk {K : PySem.W.Frag} {C : Cc} {H : Hp} {ow : Ow} {σ : L2.St} {env : Env} (P : RpE K C.blk H ow σ env) : RpE K C H ow σ env := ⟨P.sl, P.io, P.len, P.lenS⟩
def Ex0 {α : Type} : Rs α → Prop
  | .ok _ _ => True
  | _ => False
section
variable {X : Cx} {C : Cc} {K : PySem.W.Frag} {it : Env → Rs (List PyData)} {g : PyData → Env → Option Env} {tt : Env → Rs Bool} {te : Env → Rs PyData} {vs ts : List Nat}
/-- the reading of a comprehension, R the representation of its end (N1: the new list's owner on the way) -/
theorem rd_comp {α : Type} {R : Hp → Ow → V → α → Prop} {k : List PyData → α} (hts : ∀ i ∈ ts, i ∈ vs) (hio : IoFreeAll C vs)
    (hk : ∀ (H : Hp) (ow : Ow) (D : Addr) (xs : List V) (ds : List PyData), H D = some (.lst xs) → ow D = some (C.N + 1) → DVs K H ow xs ds → ds.length ≤ 16777216 → ∃ o : Option Nat, (o = none ∨ o = some C.N) ∧ R H (fun a => if a = D then o else ow a) (.ref D) (k ds))
    {σ : L2.St} {H : Hp} {Q : VK} (h : rd K C R (fun env => (eComp0 it g tt te vs env).bind fun r e => .ok (k r) e) σ H Q) :
    tLc (rd K C (RI K) it) (rdG K C.blk ts g) (rd K C.blk RT tt) (rd K C.blk (RE K) te) vs σ H Q := by
  obtain ⟨env, ow, P, h⟩ := h
  have h : rdAt K C R σ H ow Q ((it env).bind fun ds e => (compR vs e (compGo g tt te vs ds [] (wipeE e vs))).bind fun r e => .ok (k r) e) := by
    have e : (eComp0 it g tt te vs env).bind (fun r e => Rs.ok (k r) e) = ((it env).bind fun ds e => (compR vs e (compGo g tt te vs ds [] (wipeE e vs))).bind fun r e => .ok (k r) e) := by
      unfold eComp0
      cases it env <;> rfl
    rw [← e]; exact h
  refine ⟨env, ow, P, rdAt_mono (rdAt_bind (R1 := RI K) h) fun J H1 ⟨ds, e1, ow1, X1, ⟨G, W, hG⟩, P1, h1⟩ => fun D hD => ?_⟩
  have grD : Gr H1 ow1 (upd H1 D (.lst [])) (give ow1 D (C.N + 1)) := Gr.newG hD
  have start : compGo g tt te vs (ds.drop 0) [] (wipeE e1 vs) = compGo g tt te vs ds [] (wipeE e1 vs) := by rw [List.drop_zero]
  generalize compGo g tt te vs ds [] (wipeE e1 vs) = rr at h1 start
  have okc : Ex0 rr := by
    cases rr with
    | ok _ _ => trivial
    | ex _ _ => exact h1.elim
    | no => exact h1.elim
  let Pv : Nat → Hp → Prop := fun i H2 => ∃ acc xs env2 ow2, H2 D = some (.lst xs) ∧ ow2 D = some (C.N + 1) ∧ DVs K H2 ow2 xs acc ∧ acc.length ≤ i ∧ G H2 ow2 ∧ Ext C.N H1 ow1 H2 ow2 ∧ RpE K C.blk H2 ow2 (wipe σ vs) env2 ∧
    compGo g tt te vs (ds.drop i) acc env2 = rr
  refine lc_it (n := ds.length) (G := fun H => ∃ ow, G H ow) (Y := fun i H x H' => ∀ ow, G H ow → ∃ ow' d, ds[i]? = some d ∧ Gr H ow H' ow' ∧ DV K H' ow' x d)
    ⟨fun i H hi ⟨ow, q⟩ => W.goes i H ow hi q, fun H ⟨ow, q⟩ => W.stops H ow q, fun i H x H' hi ⟨ow, q⟩ y ow' q' => W.yields i H ow' x H' hi q' y⟩ Pv ?_ ?_ ?_ ?_
  · exact ⟨[], [], wipeE e1 vs, _, upd_same, give_same, .nil, Nat.zero_le _, W.st _ _ _ _ hG grD.stay, grD.ext, ((P1.gr grD).wipe hio).blk, start⟩
  · rintro i H2 _ ⟨acc, xs, env2, ow2, _, _, _, _, q, _⟩
    exact ⟨ow2, q⟩
  · rintro i x H2 H3 hi ⟨acc, xs, env2, ow2, a1, a2, a3, a4, a5, a6, a7, a8⟩ y
    obtain ⟨ow3, d, e2, g3, d3⟩ := y ow2 a5
    have hd : ds.drop i = d :: ds.drop (i + 1) := by
      have hl : i < ds.length := hi
      rw [List.drop_eq_getElem_cons hl]
      rw [List.getElem?_eq_getElem hl] at e2
      cases e2; rfl
    rw [hd, compGo] at a8
    have P3 := a7.gr g3
    refine ⟨env2, ow3, d, P3, d3, ?_⟩
    cases e3 : g d env2 with
    | none => rw [e3] at a8; rw [← a8] at okc; exact okc.elim
    | some env3 =>
      rw [e3] at a8
      replace a8 : ((tt env3).bind fun b e2 => if b = true then (te e2).bind fun y e3 => compGo g tt te vs (ds.drop (i + 1)) (acc ++ [y]) (wipeE e3 vs) else compGo g tt te vs (ds.drop (i + 1)) acc (wipeE e2 vs)) = rr := a8
      intro σ2 hσ P4
      have hw : wipe σ2 vs = wipe σ vs := by
        rw [wipe_eq (σ := wipe σ vs) (σ2 := σ2) (P4.lenS.trans P3.lenS.symm) fun j hj => hσ j fun z => hj (hts j z)]
        exact wipe_eq (wipe_length _ _) fun j hj => wipe_out hj
      refine ⟨hw, env3, ow3, P4, ?_⟩
      have bD3 := g3 D _ a1
      have X3 : Ext C.N H1 ow1 H3 ow3 := a6.trans g3.ext
      cases e4 : tt env3 with
      | no => rw [e4] at a8; rw [← a8] at okc; exact okc.elim
      | ex x e => rw [e4] at a8; rw [← a8] at okc; exact okc.elim
      | ok b env4 =>
        rw [e4] at a8
        intro b' H5 ow5 X5 eb P5
        subst eb
        have bD5 := X5 D _ bD3.1 (fun j z => by rw [bD3.2, a2] at z; have := Option.some.inj z; show C.N < j; omega)
        have c5 : DVs K H5 ow5 xs acc := (a3.stay g3.stay).stay X5.stay
        have G5 : G H5 ow5 := W.st _ _ _ _ (W.st _ _ _ _ a5 g3.stay) X5.stay
        cases b' with
        | false =>
          refine iteF ⟨acc, xs, wipeE env4 vs, ow5, bD5.1, bD5.2.trans (bD3.2.trans a2), c5, by omega, G5, X3.trans X5, ?_, ?_⟩
          · have := P5.wipe (vs := vs) (fun j hj => hio j hj)
            rw [hw] at this
            exact this
          · exact a8
        | true =>
          refine iteT ⟨env4, ow5, P5, ?_⟩
          cases e5 : te env4 with
          | no => simp only [Rs.bind_ok, if_true, e5, Rs.bind_no] at a8; rw [← a8] at okc; exact okc.elim
          | ex x e => simp only [Rs.bind_ok, if_true, e5, Rs.bind_ex] at a8; rw [← a8] at okc; exact okc.elim
          | ok yd env5 =>
            simp only [Rs.bind_ok, if_true, e5] at a8
            intro yv H6 ow6 X6 dy P6
            have bD6 := X6 D _ bD5.1 (fun j z => by rw [bD5.2, bD3.2, a2] at z; have := Option.some.inj z; show C.N < j; omega)
            have o6 : ow6 D = some (C.N + 1) := bD6.2.trans (bD5.2.trans (bD3.2.trans a2))
            have lenA := W.len
            have st6 : Stay H6 ow6 (upd H6 D (.lst (xs ++ [yv]))) ow6 := fun a o h h' => ⟨by rw [upd_ne (fun z => by rw [z, o6] at h'; cases h')]; exact h, h'⟩
            refine ⟨xs, bD6.1, ?_, acc ++ [yd], xs ++ [yv], wipeE env5 vs, ow6, upd_same, o6, ?_, ?_, ?_, ?_, ?_, a8⟩
            · rw [sizeLine_eq, (c5.stay X6.stay).length]; omega
            · exact ((c5.stay X6.stay).append (.cons dy .nil)).stay st6
            · rw [List.length_append, List.length_singleton]; omega
            · exact W.st _ _ _ _ (W.st _ _ _ _ G5 X6.stay) st6
            · intro a o h h'
              obtain ⟨p, q⟩ := ((X3.trans X5).trans X6) a o h h'
              exact ⟨by rw [upd_ne (ne_of_none h hD)]; exact p, q⟩
            · have := P6.wipe (vs := vs) (fun j hj => hio j hj)
              rw [hw] at this
              refine this.other fun a o h h' => ⟨?_, rfl⟩
              rw [upd_ne fun z => ?_]
              · exact h
              · have := h' _ (by rw [z]; exact o6)
                change C.N + 1 < C.N at this
                omega
  · rintro H2 ⟨acc, xs, env2, ow2, a1, a2, a3, a4, a5, a6, a7, a8⟩
    rw [List.drop_length, compGo] at a8
    subst a8
    obtain ⟨o, ho, hR⟩ := hk H2 ow2 D xs acc a1 a2 a3 (by have := W.len; omega)
    have X2 : Ext C.N H1 ow1 H2 (fun a => if a = D then o else ow2 a) := fun a u h h' => by
      obtain ⟨p, q⟩ := a6 a u h h'
      exact ⟨p, (if_neg (ne_of_none h hD)).trans q⟩
    refine h1 _ H2 _ X2 hR (RpE.rest P1 X2.stay ?_)
    refine a7.unblk.other fun a u h h' => ⟨h, if_neg fun z => ?_⟩
    have := h' _ (by rw [z]; exact a2)
    omega
theorem hk_data {K : PySem.W.Frag} {C : Cc} (H : Hp) (ow : Ow) (D : Addr) (xs : List V) (ds : List PyData) (h : H D = some (.lst xs)) (ho : ow D = some (C.N + 1)) (hd : DVs K H ow xs ds) (hz : ds.length ≤ 16777216) :
    ∃ o : Option Nat, (o = none ∨ o = some C.N) ∧ RE K H (fun a => if a = D then o else ow a) (.ref D) (.list ds) :=
  ⟨none, .inl rfl, .lst h (if_pos rfl) (hd.stay fun a o h h' => ⟨h, by show (if a = D then none else ow a) = none; split; rfl; exact h'⟩) hz⟩
theorem hk_own {K : PySem.W.Frag} {C : Cc} (H : Hp) (ow : Ow) (D : Addr) (xs : List V) (ds : List PyData) (h : H D = some (.lst xs)) (ho : ow D = some (C.N + 1)) (hd : DVs K H ow xs ds) (hz : ds.length ≤ 16777216) :
    ∃ o : Option Nat, (o = none ∨ o = some C.N) ∧ RM K C.N H (fun a => if a = D then o else ow a) (.ref D) (.l ds) :=
  ⟨some C.N, .inr rfl, [D], .l h (hd.stay fun a o h h' => ⟨h, by
    show (if a = D then some C.N else ow a) = none
    rw [if_neg fun z => by rw [z, ho] at h'; cases h']; exact h'⟩) hz, by simp, fun p hp => by simp at hp; subst hp; exact if_pos rfl⟩
variable {elt tg iter : Expr} {ifs : List Expr} {scope : Scope} {own : List (Str × Nat)} {pos : Pos}
def DTs (X : Cx) (C : Cc) (ifs : List Expr) (t : Env → Rs Bool) : Prop := PTs X ifs (rd X.K C RT t)
theorem PTsweak {X : Cx} {e : List Expr} {t t' : TT} (h : PTs X e t) (w : ∀ σ H Q, t' σ H Q → t σ H Q) : PTs X e t' := ⟨fun pins s σ H Q I q => h.run pins s σ H Q I (w σ H Q q)⟩
theorem dts_nil : DTs X C [] tYesD := PTsweak pts_nil fun σ H Q ⟨env, ow, P, h⟩ => h true H ow Ext.refl rfl P
theorem dts_one {c : Expr} {t : Env → Rs Bool} (h : DT X C c t) : DTs X C [c] t := pts_one h
/-- a block's parts, wherever the block starts -/
abbrev Blk (X : Cx) (s : Shared) (H : Hp) (scope : Scope) (Cc : Addr) (cl : List (Str × Addr)) (fp : List Addr) : Cx := X.blk s H scope (compEnvC scope cl Cc X.env) fp
theorem de_comp (hc : X.calm = true) (hN : X.N.Nodup) (hi : DI X C tg iter it) (ok : BlkOk X.N X.env.scope scope own)
    (hg : ∀ (s : Shared) (H : Hp) (D : Addr) (cl : List (Str × Addr)) (fp : List Addr), DG (Blk X s H scope D cl fp) C.blk tg ts g) (ht : ∀ (s : Shared) (H : Hp) (D : Addr) (cl : List (Str × Addr)) (fp : List Addr), DTs (Blk X s H scope D cl fp) C.blk ifs tt)
    (he : ∀ (s : Shared) (H : Hp) (D : Addr) (cl : List (Str × Addr)) (fp : List Addr), DE (Blk X s H scope D cl fp) C.blk elt te) (hts : ∀ i ∈ ts, i ∈ vs) (hio : IoFreeAll C vs) (hs : ∀ x, foldedSetIterable iter X.env x = pure x := by intro _; rfl) (hvs : own.map (·.2) = vs := by rfl) :
    DE X C (.ListComp elt [⟨tg, iter, ifs, 0⟩] scope pos) (eComp it g tt te vs) := by
  subst hvs
  exact PEweak (pe_lc (g := rdG X.K C.blk ts g) (tt := rd X.K C.blk RT tt) (te := rd X.K C.blk (RE X.K) te) hc hN hi ok hg ht he hs) fun σ H Q h => rd_comp (k := PyData.list) hts hio hk_data h
theorem dm_comp (hc : X.calm = true) (hN : X.N.Nodup) (hi : DI X C tg iter it) (ok : BlkOk X.N X.env.scope scope own)
    (hg : ∀ (s : Shared) (H : Hp) (D : Addr) (cl : List (Str × Addr)) (fp : List Addr), DG (Blk X s H scope D cl fp) C.blk tg ts g) (ht : ∀ (s : Shared) (H : Hp) (D : Addr) (cl : List (Str × Addr)) (fp : List Addr), DTs (Blk X s H scope D cl fp) C.blk ifs tt)
    (he : ∀ (s : Shared) (H : Hp) (D : Addr) (cl : List (Str × Addr)) (fp : List Addr), DE (Blk X s H scope D cl fp) C.blk elt te) (hts : ∀ i ∈ ts, i ∈ vs) (hio : IoFreeAll C vs) (hs : ∀ x, foldedSetIterable iter X.env x = pure x := by intro _; rfl) (hvs : own.map (·.2) = vs := by rfl) :
    DM X C (.ListComp elt [⟨tg, iter, ifs, 0⟩] scope pos) (mComp it g tt te vs) := by
  subst hvs
  exact PEweak (pe_lc (g := rdG X.K C.blk ts g) (tt := rd X.K C.blk RT tt) (te := rd X.K C.blk (RE X.K) te) hc hN hi ok hg ht he hs) fun σ H Q h => rd_comp (k := M.l) hts hio hk_own h
end
end DL


namespace DL
open PySem PySem.Spec PyProof.Rows L2

/-! ### statements -/
def outAt (K : PySem.W.Frag) (C : Cc) (D : Ends) (H : Hp) (ow : Ow) : Out → Prop
  | .nx env' => ∀ σ' H' ow', Ext C.N H ow H' ow' → RpE K C H' ow' σ' env' → D.nx σ' H'
  | .rt m env' => ∀ v σ' H' ow', Ext C.N H ow H' ow' → RM K C.N H' ow' v m → RpE K C H' ow' σ' env' → D.rt v H'
  | .bk env' => ∀ σ' H' ow', Ext C.N H ow H' ow' → RpE K C H' ow' σ' env' → D.bk σ' H'
  | .ct env' => ∀ σ' H' ow', Ext C.N H ow H' ow' → RpE K C H' ow' σ' env' → D.ct σ' H'
  | .ex x env' => ∀ c dx σ' H' ow', Ext C.N H ow H' ow' → XR K C H' ow' x c dx → RpE K C H' ow' σ' env' → C.W c dx σ' H'
  | .no => False
def rdS (K : PySem.W.Frag) (C : Cc) (t : Env → Out) : TS := fun D σ H => ∃ env ow, RpE K C H ow σ env ∧ outAt K C D H ow (t env)
def DS (X : Cx) (C : Cc) (st : Stmt) (t : Env → Out) : Prop := PS X st (rdS X.K C t)
def DSs (X : Cx) (C : Cc) (st : List Stmt) (t : Env → Out) : Prop := PSs X st (rdS X.K C t)
section
variable {K : PySem.W.Frag} {C : Cc} {D : Ends} {H H' : Hp} {ow ow' : Ow} {σ : L2.St} {env : Env} {o : Out}
theorem outAt_from (x : Ext C.N H ow H' ow') (h : outAt K C D H ow o) : outAt K C D H' ow' o := by
  cases o with
  | nx e => exact fun a b c y => h a b c (x.trans y)
  | rt m e => exact fun v a b c y => h v a b c (x.trans y)
  | bk e => exact fun a b c y => h a b c (x.trans y)
  | ct e => exact fun a b c y => h a b c (x.trans y)
  | ex a e => exact fun u v a b c y => h u v a b c (x.trans y)
  | no => exact h
def sThen (t u : Env → Out) : Env → Out := fun env => match t env with
  | .nx e => u e
  | .rt m e => .rt m e
  | .bk e => .bk e
  | .ct e => .ct e
  | .ex x e => .ex x e
  | .no => .no
def sNx : Env → Out := fun env => .nx env
theorem out_then {t u : Env → Out} (h : outAt K C D H ow (sThen t u env)) : outAt K C { D with nx := fun σ1 H1 => rdS K C u D σ1 H1 } H ow (t env) := by
  unfold sThen at h
  cases e : t env with
  | nx e1 => rw [e] at h; exact fun σ1 H1 ow1 x P => ⟨e1, ow1, P, outAt_from x h⟩
  | rt m e1 => rw [e] at h; exact h
  | bk e1 => rw [e] at h; exact h
  | ct e1 => rw [e] at h; exact h
  | ex x e1 => rw [e] at h; exact h
  | no => rw [e] at h; exact h
/-- an expression in a statement -/
def sE {α : Type} (t : Env → Rs α) (k : α → Env → Out) : Env → Out := fun env => match t env with
  | .ok a e => k a e
  | .ex x e => .ex x e
  | .no => .no
theorem out_E {α β : Type} {R : Hp → Ow → β → α → Prop} {t : Env → Rs α} {k : α → Env → Out} (P : RpE K C H ow σ env) (h : outAt K C D H ow (sE t k env)) {Q : β → Hp → Prop}
    (q : ∀ v H1 a e1 ow1, R H1 ow1 v a → RpE K C H1 ow1 σ e1 → outAt K C D H1 ow1 (k a e1) → Q v H1) : rd K C R t σ H Q := by
  refine ⟨env, ow, P, ?_⟩
  unfold sE at h
  cases e : t env with
  | ok a e1 => rw [e] at h; exact fun v H1 ow1 x y z => q v H1 a e1 ow1 y z (outAt_from x h)
  | ex x e1 => rw [e] at h; exact fun c dx H1 ow1 y z w => h c dx σ H1 ow1 y z w
  | no => rw [e] at h; exact h.elim
theorem out_EX {α β : Type} {R : Hp → Ow → β → α → Prop} {t : Env → Rs α} {k : α → Env → Out} (P : RpE K C H ow σ env) (h : outAt K C D H ow (sE t k env)) {Q : β → Hp → Prop}
    (q : ∀ v H1 a e1 ow1, Ext C.N H ow H1 ow1 → R H1 ow1 v a → RpE K C H1 ow1 σ e1 → outAt K C D H1 ow1 (k a e1) → Q v H1) : rd K C R t σ H Q := by
  refine ⟨env, ow, P, ?_⟩
  unfold sE at h
  cases e : t env with
  | ok a e1 => rw [e] at h; exact fun v H1 ow1 x y z => q v H1 a e1 ow1 x y z (outAt_from x h)
  | ex x e1 => rw [e] at h; exact fun c dx H1 ow1 y z w => h c dx σ H1 ow1 y z w
  | no => rw [e] at h; exact h.elim
end
section
variable {X : Cx} {C : Cc} {st : Stmt} {sts : List Stmt} {e : Expr} {pos : Pos} {t u : Env → Out}
theorem dss_nil : DSs X C [] sNx := PSsweak pss_nil fun D σ H ⟨env, ow, P, h⟩ => h σ H ow Ext.refl P
theorem dss_cons (h1 : DS X C st t) (h2 : DSs X C sts u) : DSs X C (st :: sts) (sThen t u) :=
  PSsweak (pss_cons h1 h2) fun D σ H ⟨env, ow, P, h⟩ => ⟨env, ow, P, out_then h⟩
theorem dss_one (h : DS X C st t) : DSs X C [st] t := pss_one h
theorem ds_pass : DS X C (.Pass pos) sNx := PSweak ps_pass fun D σ H ⟨env, ow, P, h⟩ => h σ H ow Ext.refl P
def sBk : Env → Out := fun env => .bk env
def sCt : Env → Out := fun env => .ct env
def sNo : Env → Out := fun _ => .no
theorem ds_break : DS X C (.Break pos) sBk := PSweak ps_break fun D σ H ⟨env, ow, P, h⟩ => h σ H ow Ext.refl P
theorem ds_continue : DS X C (.Continue pos) sCt := PSweak ps_continue fun D σ H ⟨env, ow, P, h⟩ => h σ H ow Ext.refl P
/-- a statement that is never reached -/
theorem ds_never : DS X C st sNo := PSweak ps_never fun D σ H ⟨env, ow, P, h⟩ => h.elim
def sRet (t : Env → Rs M) : Env → Out := sE t fun m e => .rt m e
theorem ds_ret {t : Env → Rs M} (h : DM X C e t) : DS X C (.Return (some e) pos) (sRet t) :=
  PSweak (ps_ret h) fun D σ H ⟨env, ow, P, h⟩ => out_E P h fun v H1 a e1 ow1 y z q => q v σ H1 ow1 Ext.refl y z
def sRetN : Env → Out := fun env => .rt (.d .none) env
theorem ds_retN : DS X C (.Return none pos) sRetN :=
  PSweak ps_retN fun D σ H ⟨env, ow, P, h⟩ => h .non σ H ow Ext.refl ⟨[], .d .non, by simp, fun p hp => by cases hp⟩ P
def sDrop (t : Env → Rs M) : Env → Out := sE t fun _ e => .nx e
theorem ds_expr {t : Env → Rs M} (h : DM X C e t) (hs : swapsWith e none pos.line X.env = pure false := by rfl) : DS X C (.Expr e pos) (sDrop t) :=
  PSweak (ps_expr h hs) fun D σ H ⟨env, ow, P, h⟩ => out_E P h fun v H1 a e1 ow1 y z q => q σ H1 ow1 Ext.refl z
def sIf (c : Env → Rs Bool) (t u : Env → Out) : Env → Out := sE c fun b e => if b = true then t e else u e
theorem ds_if {c : Expr} {a b : List Stmt} {tc : Env → Rs Bool} (hc : DT X C c tc) (ha : DSs X C a t) (hb : DSs X C b u) : DS X C (.If c a b pos) (sIf tc t u) :=
  PSweak (ps_if hc ha hb) fun D σ H ⟨env, ow, P, h⟩ => out_E (R := RT) P h fun v H1 a e1 ow1 y z q => by
    cases y
    cases v with
    | true => exact iteT ⟨e1, ow1, z, q⟩
    | false => exact iteF ⟨e1, ow1, z, q⟩
def sSet (i : Nat) (t : Env → Rs M) : Env → Out := sE t fun m e => .nx (e.set i (some m))
theorem ds_set {i : Nat} {x : Str} {t : Env → Rs M} {pos' : Pos} (h : DM X C e t) (hN : X.N.Nodup) (hi : X.N[i]? = some x) (hx : Loc X.env.scope x) (hio : IoFree C i) (hs : swapsWith e (some (.Name x pos')) pos.line X.env = pure false := by rfl) (hf : X.fn x = true ∨ X.env.scope.names.lookup x = some .local := by first | exact .inl rfl | exact .inr rfl | assumption) :
    DS X C (.Assign [.Name x pos'] e pos) (sSet i t) :=
  PSweak (ps_set hN hi hx h hs hf) fun D σ H ⟨env, ow, P, h⟩ => out_E P h fun v H1 a e1 ow1 y z q => q _ H1 _ (Ext.reown Ext.refl) (z.setM y hio)
/-- name = [.. for ..] -/
theorem ds_setLc {i : Nat} {y : Str} {py : Pos} {elt tg iter : Expr} {ifs : List Expr} {scope : Scope} {own : List (Str × Nat)} {spos : Pos} {ts vs : List Nat} {it : Env → Rs (List PyData)} {g : PyData → Env → Option Env} {tt : Env → Rs Bool} {te : Env → Rs PyData}
    (hc : X.calm = true) (hN : X.N.Nodup) (hy : X.N[i]? = some y) (hyl : X.env.scope.names.lookup y = some .local) (hsw : swapsWith (.ListComp elt [⟨tg, iter, ifs, 0⟩] scope pos) (some (.Name y py)) spos.line X.env = pure true)
    (hi : DI X C tg iter it) (ok : BlkOk X.N X.env.scope scope own)
    (hg : ∀ (s : Shared) (H : Hp) (D : Addr) (cl : List (Str × Addr)) (fp : List Addr), DG (Blk X s H scope D cl fp) C.blk tg ts g) (ht : ∀ (s : Shared) (H : Hp) (D : Addr) (cl : List (Str × Addr)) (fp : List Addr), DTs (Blk X s H scope D cl fp) C.blk ifs tt)
    (he : ∀ (s : Shared) (H : Hp) (D : Addr) (cl : List (Str × Addr)) (fp : List Addr), DE (Blk X s H scope D cl fp) C.blk elt te) (hts : ∀ i ∈ ts, i ∈ vs) (hio : IoFreeAll C vs) (hioi : IoFree C i) (hs : ∀ x, foldedSetIterable iter X.env x = pure x := by intro _; rfl) (hvs : own.map (·.2) = vs := by rfl) :
    DS X C (.Assign [.Name y py] (.ListComp elt [⟨tg, iter, ifs, 0⟩] scope pos) spos) (sSet i (mComp it g tt te vs)) := by
  subst hvs
  exact PSweak (ps_setLc (g := rdG X.K C.blk ts g) (tt := rd X.K C.blk RT tt) (te := rd X.K C.blk (RE X.K) te) hc hN hy hyl hsw hi ok hg ht he hs) fun D σ H ⟨env, ow, P, h⟩ =>
    rd_comp (k := M.l) hts hio hk_own (out_E (R := RM X.K C.N) P h fun v H1 a e1 ow1 y z q => q _ H1 _ (Ext.reown Ext.refl) (z.setM y hioi))
/-- a, b = e -/
def sAsg (t : Env → Rs PyData) (g : PyData → Env → Option Env) : Env → Out := sE t fun d e => match g d e with | some e' => .nx e' | none => .no
theorem ds_asg {tg : Expr} {t : Env → Rs PyData} {ts : List Nat} {g : PyData → Env → Option Env} (h : DE X C e t) (hg : DG X C tg ts g) (hs : swapsWithSole [tg] e pos.line X.env = pure false := by rfl) (hw : swappedStores [tg] e X.env = pure none := by rfl)
    (h1 : (assignEach [tg] X.env).map (·.2) = [assign tg X.env] := by rfl) : DS X C (.Assign [tg] e pos) (sAsg t g) :=
  PSweak (ps_asg h hg hs hw h1) fun D σ H ⟨env, ow, P, h⟩ => out_E (R := RE X.K) P h fun v H1 a e1 ow1 y z q => by
    refine ⟨e1, ow1, a, z, y, ?_⟩
    cases eg : g a e1 with
    | none => rw [eg] at q; exact q
    | some e2 => rw [eg] at q; exact fun σ' _ P' => q σ' H1 ow1 Ext.refl P'
/-- x op= e -/
def sAug (i : Nat) (f : PyData → PyData → Option PyData) (t : Env → Rs PyData) : Env → Out := fun env => match slotD env i with
  | none => .no
  | some x => sE t (fun y e => match f x y with | some z => .nx (e.set i (some (.d z))) | none => .no) env
theorem ds_aug {i : Nat} {x : Str} {op : Operator} {r : R2} {f : PyData → PyData → Option PyData} {t : Env → Rs PyData} {pos' : Pos} (ho : OpR X (inplaceOp op) r) (hop : Op2 X.K r f) (h : DE X C e t) (hN : X.N.Nodup) (hi : X.N[i]? = some x) (hx : Loc X.env.scope x) (hio : IoFree C i)
    (hf : X.fn x = true ∨ X.env.scope.names.lookup x = some .local := by first | exact .inl rfl | exact .inr rfl | assumption) : DS X C (.AugAssign (.Name x pos') op e pos) (sAug i f t) :=
  PSweak (ps_aug (ti := r) hN hi hx h ho hf) fun D σ H ⟨env, ow, P, h⟩ => by
    unfold sAug at h
    cases hs : slotD env i with
    | none => rw [hs] at h; exact h.elim
    | some x =>
      rw [hs] at h
      obtain ⟨v, h1, h2⟩ := slot_d P hs
      refine ⟨v, h1, env, ow, P, ?_⟩
      have h : outAt X.K C D H ow (sE t (fun y e => match f x y with | some z => .nx (e.set i (some (.d z))) | none => .no) env) := h
      unfold sE at h
      cases et : t env with
      | no => rw [et] at h; exact h
      | ex a b => rw [et] at h; exact fun c dx H1 ow1 y z w => h c dx σ H1 ow1 y z w
      | ok y e3 =>
        rw [et] at h
        intro w H1 ow1 X1 dw P1
        have h : outAt X.K C D H ow (match f x y with | some z => .nx (e3.set i (some (.d z))) | none => .no) := h
        cases ef : f x y with
        | none => rw [ef] at h; exact h.elim
        | some z =>
          rw [ef] at h
          exact hop v w x y z H1 ow1 _ (h2.stay X1.stay) dw ef fun v' H' ow' g d => h _ H' ow' (X1.trans g.ext) ((P1.gr g).setD d hio)
/-! ### owned lists -/
def slotL (env : Env) (i : Nat) : Option (List PyData) := match env[i]? with
  | some (some (.l x)) => some x
  | _ => none
theorem slot_l {K : PySem.W.Frag} {H : Hp} {ow : Ow} {σ : L2.St} {env : Env} {i : Nat} {x : List PyData} (P : RpE K C H ow σ env) (e : slotL env i = some x) :
    ∃ a vs, σ[i]? = some (some (.ref a)) ∧ H a = some (.lst vs) ∧ DVs K H ow vs x ∧ ow a = some i ∧ x.length ≤ 16777216 ∧ i < C.N := by
  unfold slotL at e
  split at e
  · rename_i y h
    cases e
    obtain ⟨v, fp, h1, h2, _, h4⟩ := P.sl i _ h
    cases h2 with
    | l h hd hz => exact ⟨_, _, h1, h, hd, h4 _ (by simp), hz, by rw [← P.len]; exact (List.getElem?_eq_some_iff.mp (by assumption)).1⟩
  · cases e
/-- the table of an owned dict -/
def slotM (env : Env) (i : Nat) : Option (List (Int × PyData)) := match env[i]? with
  | some (some (.m x)) => some x
  | _ => none
theorem slot_m {K : PySem.W.Frag} {H : Hp} {ow : Ow} {σ : L2.St} {env : Env} {i : Nat} {x : List (Int × PyData)} (P : RpE K C H ow σ env) (e : slotM env i = some x) :
    ∃ a vs, σ[i]? = some (some (.ref a)) ∧ H a = some (.dK vs) ∧ DKs K H ow vs x ∧ ow a = some i ∧ x.length ≤ 16777216 ∧ i < C.N := by
  unfold slotM at e
  split at e
  · rename_i y h
    cases e
    obtain ⟨v, fp, h1, h2, _, h4⟩ := P.sl i _ h
    cases h2 with
    | m h hd hz => exact ⟨_, _, h1, h, hd, h4 _ (by simp), hz, by rw [← P.len]; exact (List.getElem?_eq_some_iff.mp (by assumption)).1⟩
  · cases e
/-- the table of a dict that stands as it is -/
def slotF (env : Env) (i : Nat) : Option (List (Int × PyData)) := match env[i]? with
  | some (some (.fm x)) => some x
  | _ => none
theorem slot_f {K : PySem.W.Frag} {H : Hp} {ow : Ow} {σ : L2.St} {env : Env} {i : Nat} {x : List (Int × PyData)} (P : RpE K C H ow σ env) (e : slotF env i = some x) :
    ∃ a o vs, σ[i]? = some (some (.ref a)) ∧ H a = some (.frz o (.dK vs)) ∧ DKs K H ow vs x ∧ ow a = none ∧ x.length ≤ 16777216 := by
  unfold slotF at e
  split at e
  · rename_i y h
    cases e
    obtain ⟨v, fp, h1, h2, _, h4⟩ := P.sl i _ h
    cases h2 with
    | fm h h0 hd hz => obtain ⟨o, h⟩ := h; exact ⟨_, o, _, h1, h, hd, h0, hz⟩
  · cases e
/-- a name whose owned list is let go -/
def eVarF (i : Nat) : Env → Rs PyData := fun env => match env[i]? with
  | some (some (.d x)) => .ok x env
  | some (some (.l ds)) => .ok (.list ds) (env.set i (some (.d (.list ds))))
  | _ => .no
theorem freeze {K : PySem.W.Frag} {H : Hp} {ow : Ow} {σ : L2.St} {env : Env} {i : Nat} {ds : List PyData} {a : Addr} {vs : List V} (P : RpE K C H ow σ env) (h1 : σ[i]? = some (some (.ref a))) (h2 : H a = some (.lst vs)) (h3 : DVs K H ow vs ds) (h4 : ow a = some i) (hz : ds.length ≤ 16777216) (hi : i < C.N) :
    RpE K C H (off ow a) σ (env.set i (some (.d (.list ds)))) ∧ Ext C.N H ow H (off ow a) ∧ DV K H (off ow a) (.ref a) (.list ds) := by
  have st : Stay H ow H (off ow a) := fun b o hb hb' => ⟨hb, by
    by_cases z : b = a
    · rw [z]; exact off_same
    · rw [off_ne z]; exact hb'⟩
  have dv : DV K H (off ow a) (.ref a) (.list ds) := .lst h2 off_same (h3.stay st) hz
  refine ⟨⟨fun j m e => ?_, P.io, by rw [List.length_set]; exact P.len, P.lenS⟩, fun b o hb hb' => ⟨hb, off_ne fun z => ?_⟩, dv⟩
  · by_cases hj : i = j
    · subst hj
      rw [List.getElem?_set_self (by rw [P.len]; exact hi)] at e
      cases e
      exact ⟨.ref a, [], h1, .d dv, List.nodup_nil, fun p hp => by cases hp⟩
    · rw [List.getElem?_set_ne hj] at e
      obtain ⟨v, fp, a1, a2, a3, a4⟩ := P.sl j m e
      refine ⟨v, fp, a1, a2.stay st fun _ _ => rfl, a3, fun p hp => ?_⟩
      rw [off_ne fun z => ?_]
      · exact a4 p hp
      · have := a4 p hp
        rw [z, h4] at this
        exact hj (Option.some.inj this)
  · have := hb' i (by rw [z]; exact h4)
    omega
theorem de_varF (i : Nat) {x : Str} (hN : X.N[i]? = some x := by rfl) (hv : Vis X.env.scope x := by first | exact Or.inl rfl | exact Or.inr (Or.inl rfl) | exact Or.inr (Or.inr rfl)) (hd : (x == ("__debug__" : Str)) = false := by decide)
    (hcd : (x == ("__classdict__" : Str)) = false := by decide) : DE X C (.Name x pos) (eVarF i) :=
  PEweak (pe_var hN hv hd hcd) fun σ H Q ⟨env, ow, P, h⟩ => by
    unfold eVarF at h
    cases he : env[i]? with
    | none => rw [he] at h; exact h.elim
    | some o =>
      rw [he] at h
      cases o with
      | none => exact h.elim
      | some m =>
        cases m with
        | d x =>
          obtain ⟨v, h1, h2⟩ := slot_d P (show slotD env i = some x by unfold slotD; rw [he])
          exact ⟨v, h1, h v H ow Ext.refl h2 P⟩
        | l ds =>
          obtain ⟨a, vs, h1, h2, h3, h4, hz, hi⟩ := slot_l P (show slotL env i = some ds by unfold slotL; rw [he])
          obtain ⟨P', x, d⟩ := freeze P h1 h2 h3 h4 hz hi
          exact ⟨_, h1, h _ H _ x d P'⟩
        | scr ns => exact h.elim
        | m ks => exact h.elim
        | fm ks => exact h.elim
        | o _ _ => exact h.elim
        | fo _ _ => exact h.elim
        | ll _ => exact h.elim
        | fk _ => exact h.elim
/-- xs.append(e) -/
def sApp (i : Nat) (t : Env → Rs PyData) : Env → Out := sE t fun d e => match slotL e i with
  | some ds => if ds.length < 16777216 then .nx (e.set i (some (.l (ds ++ [d])))) else .no
  | none => .no
theorem ty_list {K : PySem.W.Frag} {a : Addr} {vs : List V} {H : Hp} (h : H a = some (.lst vs)) : tyV K "list" (.ref a) H := .inl ⟨rfl, _, .of h⟩
/-- what a method does to an owned list: xs and an argument list to the answer and the new xs -/
def MtD (K : PySem.W.Frag) (r : V → List V → Hp → VK → Prop) (f : List PyData → List PyData → Option (PyData × List PyData)) : Prop :=
  ∀ (a : Addr) vs ws xs ys o zs H ow (Q : VK), H a = some (.lst vs) → DVs K H ow vs xs → xs.length ≤ 16777216 → DVs K H ow ws ys → f xs ys = some (o, zs) →
    (∀ v us, DVs K H ow us zs → DV K H ow v o → zs.length ≤ 16777216 → Q v (upd H a (.lst us))) → r (.ref a) ws H Q
def eMt (i : Nat) (f : List PyData → List PyData → Option (PyData × List PyData)) (t : Env → Rs (List PyData)) : Env → Rs PyData := fun env => match slotL env i with
  | none => .no
  | some _ => (t env).bind fun ys e => match slotL e i with
    | some xs => match f xs ys with
      | some (o, zs) => .ok o (e.set i (some (.l zs)))
      | none => .no
    | none => .no
theorem rd_mt {K : PySem.W.Frag} {i : Nat} {r : V → List V → Hp → VK → Prop} {f : List PyData → List PyData → Option (PyData × List PyData)} {t : Env → Rs (List PyData)} (hf : MtD K r f) {σ : L2.St} {H : Hp} {Q : VK} (h : rd K C (RE K) (eMt i f t) σ H Q) :
    tVar i σ H fun x H1 => tyV K "list" x H1 ∧ rd K C (RA K) t σ H1 fun xs H2 => r x xs H2 Q := by
  obtain ⟨env, ow, P, h⟩ := h
  unfold eMt at h
  cases hs : slotL env i with
  | none => rw [hs] at h; exact h.elim
  | some xs0 =>
    rw [hs] at h
    obtain ⟨a, vs, h1, h2, h3, h4, hz, hi⟩ := slot_l P hs
    refine ⟨.ref a, h1, ty_list h2, env, ow, P, rdAt_mono (rdAt_bind (R1 := RA K) h) fun ws H1 ⟨ys, e1, ow1, X1, V1, P1, h5⟩ => ?_⟩
    cases hs1 : slotL e1 i with
    | none => rw [hs1] at h5; exact h5.elim
    | some xs =>
      rw [hs1] at h5
      obtain ⟨a', vs', k1, k2, k3, k4, kz, ki⟩ := slot_l P1 hs1
      rw [h1] at k1
      cases k1
      have h5 : rdAt K C (RE K) σ H1 ow1 Q (match f xs ys with | some (o, zs) => .ok o (e1.set i (some (.l zs))) | none => .no) := h5
      cases hf1 : f xs ys with
      | none => rw [hf1] at h5; exact h5.elim
      | some oz =>
        obtain ⟨o, zs⟩ := oz
        rw [hf1] at h5
        refine hf a vs' ws xs ys o zs H1 ow1 Q k2 k3 kz V1 hf1 fun v us du dv hzz => ?_
        obtain ⟨P2, x, st⟩ := P1.upd h1 k4 ki du hzz
        exact h5 v _ ow1 x (dv.stay st) P2
variable {o e0 : Expr} {es : List Expr} {name : Str} {apos cpos : Pos} {id : String} {r : V → List V → Hp → VK → Prop} {f : List PyData → List PyData → Option (PyData × List PyData)}
theorem de_mt {i : Nat} {t : Env → Rs (List PyData)} (hf : MtD X.K r f) (slot : Slot "list" name id) (hty : typeOf (.builtin id) = pure (.type "method_descriptor")) (hm : MtR X id r) (ho : PE X o (tVar i)) (ha : DA X C (e0 :: es) t)
    (hbase : attributeBase o name X.env (eval o X.env) = eval o X.env := by rfl)
    (hfew : ((backTo cpos (starEach (e0 :: es) X.env)).all (fun x => !x.1) && (backToKw cpos (keywordEach [] X.env)).all (fun x => x.1.isSome)
      && decide ((e0 :: es).length + ([] : List Keyword).length + (if ([] : List Keyword).isEmpty then 0 else 1) < 30)) = true := by rfl)
    (hline : (apos.endLine == cpos.line) = true := by rfl) (hs : starEach (e0 :: es) X.env = (false, eval e0 X.env) :: starEach es X.env := by rfl) (hplain : (backTo cpos (starEach es X.env)).any (·.1) = false := by rfl) :
    DE X C (.Call (.Attribute o name apos) (e0 :: es) [] cpos) (eMt i f t) :=
  PEweak (pe_bm F.plainAttrs_list slot hty hm ho ha hbase hfew hline hs hplain) fun σ H Q h => rd_mt hf h
theorem de_mt0 {i : Nat} (hf : MtD X.K r f) (slot : Slot "list" name id) (hty : typeOf (.builtin id) = pure (.type "method_descriptor")) (hm : MtR X id r) (ho : PE X o (tVar i))
    (hbase : attributeBase o name X.env (eval o X.env) = eval o X.env := by rfl) (hline : (apos.endLine == cpos.line) = true := by rfl) : DE X C (.Call (.Attribute o name apos) [] [] cpos) (eMt i f aNil) :=
  PEweak (pe_bm0 F.plainAttrs_list slot hty hm ho hbase hline) fun σ H Q h => by
    obtain ⟨v, h1, h2, env, ow, P, h3⟩ := rd_mt hf h
    exact ⟨v, h1, h2, h3 [] H ow Ext.refl .nil P⟩
def mApp : List PyData → List PyData → Option (PyData × List PyData)
  | xs, [y] => if xs.length < 16777216 then some (.none, xs ++ [y]) else none
  | _, _ => none
def mPop : List PyData → List PyData → Option (PyData × List PyData)
  | xs, [] => xs.getLast?.map fun y => (y, xs.dropLast)
  | _, _ => none
def mPopAt : List PyData → List PyData → Option (PyData × List PyData)
  | xs, [.int i] => (ixN xs.length i).bind fun k => xs[k]?.map fun y => (y, xs.eraseIdx k)
  | _, _ => none
def mExt : List PyData → List PyData → Option (PyData × List PyData)
  | xs, [.list ys] => if xs.length + ys.length ≤ 16777216 then some (.none, xs ++ ys) else none
  | _, _ => none
def mRev : List PyData → List PyData → Option (PyData × List PyData)
  | xs, [] => some (.none, xs.reverse)
  | _, _ => none
variable {K : PySem.W.Frag}
theorem md_app : MtD K rAppend mApp := by
  intro a vs ws xs ys o zs H ow Q h1 h2 hz h3 e q
  unfold mApp at e
  split at e
  · obtain ⟨hl, e⟩ := if_some e
    cases e
    obtain ⟨w, rfl, d⟩ := h3.one
    exact ⟨a, vs, w, rfl, rfl, h1, by rw [sizeLine_eq, h2.length]; exact hl, q _ _ (h2.append (.cons d .nil)) .non (by rw [List.length_append, List.length_singleton]; omega)⟩
  · cases e
theorem md_pop : MtD K rPop mPop := by
  intro a vs ws xs ys o zs H ow Q h1 h2 hz h3 e q
  unfold mPop at e
  split at e
  · cases h3
    rw [List.getLast?_eq_getElem?] at e
    cases hx : xs[xs.length - 1]? with
    | none => rw [hx] at e; cases e
    | some y =>
      rw [hx] at e
      cases e
      obtain ⟨v, k1, k2⟩ := h2.get hx
      exact ⟨a, vs, v, rfl, rfl, h1, by rw [h2.length]; exact k1, q _ _ h2.dropLast k2 (by rw [List.length_dropLast]; omega)⟩
  · cases e
theorem md_popAt : MtD K rPopAt mPopAt := by
  intro a vs ws xs ys o zs H ow Q h1 h2 hz h3 e q
  unfold mPopAt at e
  split at e
  · rename_i i
    obtain ⟨w, rfl, d⟩ := h3.one
    cases d
    cases hi : ixN xs.length i with
    | none => rw [hi] at e; cases e
    | some k =>
      rw [hi] at e
      simp only [Option.bind_some] at e
      cases hx : xs[k]? with
      | none => rw [hx] at e; cases e
      | some y =>
        rw [hx] at e
        cases e
        obtain ⟨v, k1, k2⟩ := h2.get hx
        obtain ⟨s1, s2, s3, s4⟩ := ixN_seq hi
        exact ⟨a, vs, i, k, v, rfl, rfl, h1, by omega, by omega, by rw [h2.length]; exact s1, k1, q _ _ (h2.eraseIdx _) k2 (by rw [List.length_eraseIdx]; split <;> omega)⟩
  · cases e
theorem md_rev : MtD K rReverse mRev := by
  intro a vs ws xs ys o zs H ow Q h1 h2 hz h3 e q
  unfold mRev at e
  split at e
  · cases h3; cases e
    exact ⟨a, vs, rfl, rfl, h1, q _ _ h2.reverse .non (by rw [List.length_reverse]; exact hz)⟩
  · cases e
theorem md_ext : MtD K rExtend mExt := by
  intro a vs ws xs ys o zs H ow Q h1 h2 hz h3 e q
  unfold mExt at e
  split at e
  · obtain ⟨hl, e⟩ := if_some e
    cases e
    obtain ⟨w, rfl, d⟩ := h3.one
    cases d with
    | @lst b us ds k1 k2 k3 kz => exact ⟨a, b, vs, us, rfl, rfl, h1, k1, by rw [sizeLine_eq, h2.length, k3.length]; exact hl, q _ _ (h2.append k3) .non (by rw [List.length_append]; exact hl)⟩
  · cases e
/-- xs[k] = e -/
def setIt (i : Nat) (d k : PyData) (e : Env) : Out := match slotL e i with
  | some xs => match k with
    | .int j => match ixN xs.length j with
      | some n => .nx (e.set i (some (.l (xs.set n d))))
      | none => .no
    | _ => .no
  | none => .no
def sSetItem (i : Nat) (t tk : Env → Rs PyData) : Env → Out := sE t fun d e => match slotL e i with
  | none => .no
  | some _ => sE tk (setIt i d) e
end
end DL


namespace DL
open PySem PySem.Spec PyProof.Rows L2
section
variable {X : Cx} {C : Cc} {K : PySem.W.Frag} {e k : Expr} {pos tpos : Pos} {t tk : Env → Rs PyData}
/-! ### xs[k] = e, xs[k], xs[a:b] -/
theorem ds_setItem {i : Nat} {o : Expr} (h : DE X C e t) (ho : PE X o (tVar i)) (hk : DE X C k tk)
    (ha : ∀ v, assign (.Subscript o k tpos) X.env v = (do
      let ov ← holding [v] (eval o X.env)
      let iv ← holding [v, ov] (eval k X.env)
      standAt tpos
      holding [v, ov, iv] (setItem ov iv v)
      release [v, ov, iv] []) := by intro _; rfl)
    (hs : swapsWithSole [.Subscript o k tpos] e pos.line X.env = pure false := by rfl) (hw : swappedStores [.Subscript o k tpos] e X.env = pure none := by rfl)
    (h1 : (assignEach [.Subscript o k tpos] X.env).map (·.2) = [assign (.Subscript o k tpos) X.env] := by rfl) : DS X C (.Assign [.Subscript o k tpos] e pos) (sSetItem i t tk) :=
  PSweak (ps_asg h (pg_sub ho hk set_list ha) hs hw h1) fun D σ H ⟨env, ow, P, h⟩ => out_E (R := RE X.K) P h fun v H1 d e1 ow1 dv P1 q => by
    cases hs1 : slotL e1 i with
    | none => rw [hs1] at q; exact q.elim
    | some xs0 =>
      rw [hs1] at q
      obtain ⟨a, vs0, k1, k2, k3, k4, kz, ki⟩ := slot_l P1 hs1
      refine ⟨.ref a, k1, ?_⟩
      have q : outAt X.K C D H1 ow1 (sE tk (setIt i d) e1) := q
      refine out_EX (R := RE X.K) P1 q fun kv H2 kd e2 ow2 X2 dk P2 q => ?_
      have dv2 : DV X.K H2 ow2 v d := dv.stay X2.stay
      unfold setIt at q
      cases hs2 : slotL e2 i with
      | none => rw [hs2] at q; exact q.elim
      | some xs =>
        rw [hs2] at q
        obtain ⟨a', vs, l1, l2, l3, l4, lz, li⟩ := slot_l P2 hs2
        rw [k1] at l1
        cases l1
        cases dk with
        | int j =>
          have q : outAt X.K C D H2 ow2 (match ixN xs.length j with | some n => .nx (e2.set i (some (.l (xs.set n d)))) | none => .no) := q
          cases hn : ixN xs.length j with
          | none => rw [hn] at q; exact q.elim
          | some n =>
            rw [hn] at q
            obtain ⟨P3, x3, st3⟩ := P2.upd k1 l4 li (l3.set dv2 n) (by rw [List.length_set]; exact lz)
            exact ⟨a, vs, j, n, rfl, rfl, l2, by rw [l3.length]; exact hn, q σ _ ow2 x3 P3⟩
        | _ => exact q.elim
def dIx : PyData → PyData → Option PyData
  | .list xs, .int i => atI xs i
  | .tuple xs, .int i => atI xs i
  | .str z, .int i => if z.length ≤ 16777216 then (atI z.cps.toList i).map fun c => .str ⟨#[c]⟩ else none
  | _, _ => none
theorem atI_dv {H : Hp} {ow : Ow} {vs : List V} {ds : List PyData} (h : DVs K H ow vs ds) {i : Int} {d : PyData} (e : atI ds i = some d) : ∃ v, atI vs i = some v ∧ DV K H ow v d := by
  unfold atI at e ⊢
  rw [h.length]
  cases hn : ixN ds.length i with
  | none => rw [hn] at e; cases e
  | some n =>
    rw [hn] at e
    exact h.get e
theorem o2_ix : Op2 K (rIx K) dIx := by
  intro v w x y o H ow Q hv hw e q
  cases hw with
  | int i =>
    cases hv with
    | @lst a xs ds h1 h2 h3 hz =>
      obtain ⟨u, k1, k2⟩ := atI_dv h3 e
      exact .inl ⟨a, xs, i, u, rfl, rfl, .of h1, k1, q _ _ _ .refl k2⟩
    | @tup a xs ds h1 h3 hz =>
      obtain ⟨u, k1, k2⟩ := atI_dv h3 e
      exact .inr (.inl ⟨a, xs, i, u, rfl, rfl, h1.sq, k1, q _ _ _ .refl k2⟩)
    | str z =>
      have e : (if z.length ≤ 16777216 then (atI z.cps.toList i).map fun c => PyData.str ⟨#[c]⟩ else none) = some o := e
      by_cases hl : z.length ≤ 16777216
      · rw [if_pos hl] at e
        cases hc : atI z.cps.toList i with
        | none => rw [hc] at e; cases e
        | some c => rw [hc] at e; cases e; exact .inr (.inr ⟨z, i, c, rfl, rfl, by rw [sizeLine_eq]; exact hl, hc, q _ _ _ .refl (.str _)⟩)
      · rw [if_neg hl] at e; cases e
    | _ => cases e
  | _ => cases x <;> cases e
theorem de_ix {a b : Expr} {ta tb : Env → Rs PyData} (ha : DE X C a ta) (hb : DE X C b tb) (hs : PlainIx b) : DE X C (.Subscript a b pos) (e2 dIx ta tb) :=
  PEweak (pe_ix ix_seq ha hb hs) fun σ H Q h => rd_op o2_ix h
/-- an item of an owned list -/
def eIxO (i : Nat) (tb : Env → Rs PyData) : Env → Rs PyData := fun env => match slotL env i with
  | none => .no
  | some _ => (tb env).bind fun k e => match slotL e i, k with
    | some xs, .int j => lift (atI xs j) e
    | _, _ => .no
theorem de_ixO {i : Nat} {a b : Expr} {tb : Env → Rs PyData} (ha : PE X a (tVar i)) (hb : DE X C b tb) (hs : PlainIx b) : DE X C (.Subscript a b pos) (eIxO i tb) :=
  PEweak (pe_ix ix_list ha hb hs) fun σ H Q ⟨env, ow, P, h⟩ => by
    unfold eIxO at h
    cases hs : slotL env i with
    | none => rw [hs] at h; exact h.elim
    | some xs0 =>
      rw [hs] at h
      obtain ⟨a, vs0, k1, k2, k3, k4, kz, ki⟩ := slot_l P hs
      refine ⟨.ref a, k1, env, ow, P, rdAt_mono (rdAt_bind (R1 := RE X.K) h) fun kv H1 ⟨kd, e1, ow1, X1, V1, P1, h1⟩ => ?_⟩
      cases hs1 : slotL e1 i with
      | none => rw [hs1] at h1; exact h1.elim
      | some xs =>
        rw [hs1] at h1
        obtain ⟨a', vs, l1, l2, l3, l4, lz, li⟩ := slot_l P1 hs1
        rw [k1] at l1
        cases l1
        cases V1 with
        | int j =>
          obtain ⟨d, e, h1⟩ := rdAt_lift (v := V.non) h1
          obtain ⟨u, m1, m2⟩ := atI_dv l3 e
          exact ⟨a, vs, j, u, rfl, rfl, .of l2, m1, h1 _ _ _ Ext.refl m2 P1⟩
        | _ => exact h1.elim
/-- slices -/
def cutD (xs : List PyData) (lo hi : Option Int) : List PyData := (xs.drop (HT.sIx xs.length 0 lo)).take (HT.sIx xs.length xs.length hi - HT.sIx xs.length 0 lo)
theorem cut_dv {H : Hp} {ow : Ow} {vs : List V} {ds : List PyData} (h : DVs K H ow vs ds) (lo hi : Option Int) : DVs K H ow (cutV vs lo hi) (cutD ds lo hi) := by
  unfold cutV cutD
  rw [h.length]
  exact (h.drop _).take _
theorem cutD_length (xs : List PyData) (lo hi : Option Int) : (cutD xs lo hi).length ≤ xs.length := by
  unfold cutD
  rw [List.length_take, List.length_drop]
  omega
def oInt : PyData → Option (Option Int)
  | .int i => some (some i)
  | _ => none
def pNo : Env → Rs (Option Int) := fun e => .ok none e
def pSome (t : Env → Rs PyData) : Env → Rs (Option Int) := fun env => (t env).bind fun d e => lift (oInt d) e
def DP (X : Cx) (C : Cc) (e : Option Expr) (t : Env → Rs (Option Int)) : Prop := PO X e (rd X.K C (fun _ _ (a b : Option Int) => a = b) t)
theorem POweak {X : Cx} {e : Option Expr} {t t' : TO} (h : PO X e t) (w : ∀ σ H Q, t' σ H Q → t σ H Q) : PO X e t' := ⟨fun pins s σ H Q I q => h.run pins s σ H Q I (w σ H Q q)⟩
theorem dp_no : DP X C none pNo := POweak po_none fun σ H Q ⟨env, ow, P, h⟩ => h none H ow Ext.refl rfl P
theorem dp_some {e : Expr} {t : Env → Rs PyData} (h : DE X C e t) : DP X C (some e) (pSome t) :=
  POweak (po_some h) fun σ H Q h => rd_one (R1 := RE X.K) h fun v x H ow env hv P h => by
    obtain ⟨o, e, h⟩ := rdAt_lift (v := (none : Option Int)) h
    cases hv with
    | int i => cases e; exact ⟨i, rfl, h _ H ow Ext.refl rfl P⟩
    | _ => cases e
def dSlice : PyData → Option Int → Option Int → Option PyData
  | .list xs, lo, hi => some (.list (cutD xs lo hi))
  | .tuple xs, lo, hi => some (.tuple (cutD xs lo hi))
  | _, _, _ => none
def eSlice (t : Env → Rs PyData) (lo hi : Env → Rs (Option Int)) : Env → Rs PyData := fun env => (t env).bind fun x e1 => (lo e1).bind fun l e2 => (hi e2).bind fun u e3 => lift (dSlice x l u) e3
theorem de_slice {lo hi : Option Expr} {tl th : Env → Rs (Option Int)} {p2 : Pos} (h : DE X C e t) (hl : DP X C lo tl) (hh : DP X C hi th) : DE X C (.Subscript e (.Slice lo hi none p2) pos) (eSlice t tl th) :=
  PEweak (pe_slice (sl_list.or DLT.sl_tupZ) h hl hh) fun σ H Q ⟨env, ow, P, h⟩ => ⟨env, ow, P, rdAt_mono (rdAt_bind (R1 := RE X.K) h) fun v H1 ⟨x, e1, ow1, X1, V1, P1, h1⟩ =>
    ⟨e1, ow1, P1, rdAt_mono (rdAt_bind (R1 := fun _ _ (a b : Option Int) => a = b) h1) fun l H2 ⟨l', e2, ow2, X2, V2, P2, h2⟩ =>
      ⟨e2, ow2, P2, rdAt_mono (rdAt_bind (R1 := fun _ _ (a b : Option Int) => a = b) h2) fun u H3 ⟨u', e3, ow3, X3, V3, P3, h3⟩ => by
        cases V2
        cases V3
        obtain ⟨o, e, h3⟩ := rdAt_lift (v := V.non) h3
        have V := (V1.stay X2.stay).stay X3.stay
        cases V with
        | @lst a xs ds k1 k2 k3 kz =>
          cases e
          exact .inl ⟨a, xs, rfl, .of k1, fun p hp => rdAt_fin h3 (Gr.new hp) (.lst upd_same off_same ((cut_dv k3 l u).stay (Gr.new hp).stay) (Nat.le_trans (cutD_length ..) kz)) P3⟩
        | @tup a xs ds k1 k3 kz =>
          cases e
          refine .inr ⟨a, xs, rfl, k1.sq, fun hw => ?_, fun hw zo p hd hp => rdAt_fin h3 (Gr.new hp) (.tup (.new hd) ((cut_dv k3 l u).stay (Gr.new hp).stay) (Nat.le_trans (cutD_length ..) kz)) P3⟩
          have e : cutD ds l u = ds := by
            unfold cutD
            rw [k3.length] at hw
            rw [hw.1, hw.2, List.drop_zero, Nat.sub_zero, List.take_length]
          rw [e] at h3
          exact h3 _ H3 ow3 Ext.refl (.tup k1 k3 kz) P3
        | _ => cases e⟩⟩⟩

/-! ### a list is read while it stays owned -/
def scal0 : PyData → Bool
  | .none | .bool _ | .int _ | .str _ => true
  | _ => false
theorem DV.scal {H H' : Hp} {ow ow' : Ow} {v : V} {d : PyData} (h : DV K H ow v d) (s : scal0 d = true) : DV K H' ow' v d := by
  cases h with
  | non => exact .non
  | bl b => exact .bl b
  | int b => exact .int b
  | str b => exact .str b
  | lst => cases s
  | tup => cases s
theorem Gr.back {H H' : Hp} {ow ow' : Ow} {a : Addr} {i : Nat} (g : Gr H (off ow a) H' ow') (h : ow a = some i) : Gr H ow H' (give ow' a i) := fun b o hb => by
  obtain ⟨p, q⟩ := g b o hb
  by_cases z : b = a
  · subst z; exact ⟨p, give_same.trans h.symm⟩
  · exact ⟨p, by rw [give_ne z, q, off_ne z]⟩
def chkS : Option PyData → Option PyData
  | some d => if scal0 d = true then some d else none
  | none => none
theorem chkS_some {o : Option PyData} {d : PyData} (h : chkS o = some d) : o = some d ∧ scal0 d = true := by
  cases o with
  | none => cases h
  | some x => obtain ⟨a, rfl⟩ := if_some h; exact ⟨rfl, a⟩
/-- len(xs), sum(xs), .. of an owned list -/
def eBO (i : Nat) (f : List PyData → Option PyData) : Env → Rs PyData := fun env => lift ((slotL env i).bind fun ds => chkS (f [.list ds])) env
theorem rd_BO {r : List V → Hp → VK → Prop} {f : List PyData → Option PyData} {i : Nat} (hf : OpB K r f) {σ : L2.St} {H : Hp} {Q : VK} (h : rd K C (RE K) (eBO i f) σ H Q) : tCB r (tCons (tVar i) tNil) σ H Q := by
  obtain ⟨env, ow, P, h⟩ := h
  obtain ⟨d, e, h⟩ := rdAt_lift (v := V.non) h
  cases hs : slotL env i with
  | none => rw [hs] at e; cases e
  | some ds =>
    rw [hs] at e
    obtain ⟨e, sc⟩ := chkS_some e
    obtain ⟨a, vs, h1, h2, h3, h4, hz, hi⟩ := slot_l P hs
    obtain ⟨P', x, dv⟩ := freeze P h1 h2 h3 h4 hz hi
    exact ⟨_, h1, hf _ _ d H (off ow a) Q (.cons dv .nil) e fun v' H' ow' g d => h v' H' _ (g.back h4).ext (d.scal sc) (P.gr (g.back h4))⟩
theorem de_BO {i : Nat} {x : Str} {id : String} {e : Expr} {p : Pos} {r : List V → Hp → VK → Prop} {f : List PyData → Option PyData} (hc : CallR X (.builtin id) r) (hf : OpB X.K r f) (hg : Gl X x) (hm : X.mg x = none) (hv : bootBuiltins x = some (.builtin id)) (ha : PE X e (tVar i))
    (hn : x ≠ "__name__" := by decide) (hdb : (x == ("__debug__" : Str)) = false := by decide)
    (he : starEach [e] X.env = (false, eval e X.env) :: starEach [] X.env := by rfl) (hpl : (backTo pos (starEach [] X.env)).any (·.1) = false := by rfl) : DE X C (.Call (.Name x p) [e] [] pos) (eBO i f) :=
  PEweak (pe_callB hc hg hm hv (pa_cons ha pa_nil he) hn hdb he hpl) fun σ H Q h => rd_BO hf h
/-- t op xs, xs an owned list -/
def e2R (f : PyData → PyData → Option PyData) (t : Env → Rs PyData) (i : Nat) : Env → Rs PyData := fun env => (t env).bind fun x e => lift ((slotL e i).bind fun ds => chkS (f x (.list ds))) e
theorem rd_2R {r : R2} {f : PyData → PyData → Option PyData} {i : Nat} (hf : Op2 K r f) {σ : L2.St} {H : Hp} {Q : VK} (h : rd K C (RE K) (e2R f t i) σ H Q) : tOp r (rd K C (RE K) t) (tVar i) σ H Q := by
  refine rd_one (R1 := RE K) h fun v x H ow env hv P h => ?_
  obtain ⟨d, e, h⟩ := rdAt_lift (v := V.non) h
  cases hs : slotL env i with
  | none => rw [hs] at e; cases e
  | some ds =>
    rw [hs] at e
    obtain ⟨e, sc⟩ := chkS_some e
    obtain ⟨a, vs, h1, h2, h3, h4, hz, hi⟩ := slot_l P hs
    obtain ⟨P', X', dv⟩ := freeze P h1 h2 h3 h4 hz hi
    exact ⟨_, h1, hf _ _ x _ d H (off ow a) Q (hv.stay X'.stay) dv e fun v' H' ow' g d => h v' H' _ (g.back h4).ext (d.scal sc) (P.gr (g.back h4))⟩
theorem de_cmpR {i : Nat} {a b : Expr} {op : CmpOp} {r : R2} {f : PyData → PyData → Option PyData} (ho : OpR X (compareOp op) r) (hop : Op2 X.K r f) (ha : DE X C a t) (hb : PE X b (tVar i)) (hm : behindInMarks op b = false) : DE X C (.Compare a [op] [b] pos) (e2R f t i) :=
  PEweak (pe_cmpR ho ha hb hm) fun σ H Q h => rd_2R hop h
theorem dt_cmpR {i : Nat} {a b : Expr} {op : CmpOp} {r : R2} {f : PyData → PyData → Option PyData} (ho : OpR X (compareOp op) r) (hop : Op2 X.K r f) (ha : DE X C a t) (hb : PE X b (tVar i)) (hm : behindInMarks op b = false) : DT X C (.Compare a [op] [b] pos) (tb1 (e2R f t i)) :=
  PTweak (pt_cmpR ho ha hb hm) fun σ H Q h => rd_2R hop (rd_tb h)
/-- truth of an owned list -/
def ttO (i : Nat) : Env → Rs Bool := fun env => lift ((slotL env i).map fun ds => !ds.isEmpty) env
theorem dt_truthO {i : Nat} {e : Expr} (h : PE X e (tVar i)) (he : ∀ whole, isTrue e X.env whole = (do let v ← whole; standAt e.pos; holding [v] (truthy v)) := by intro _; rfl) : DT X C e (ttO i) :=
  PTweak (pt_truth h he) fun σ H Q ⟨env, ow, P, h⟩ => by
    obtain ⟨d, e, h⟩ := rdAt_lift (v := true) h
    cases hs : slotL env i with
    | none => rw [hs] at e; cases e
    | some ds =>
      rw [hs] at e
      cases e
      obtain ⟨a, vs, h1, h2, h3, h4, hz, hi⟩ := slot_l P hs
      exact ⟨_, h1, _, .inl ⟨vs, .of h2, by rw [h3.isEmpty]⟩, h _ H ow Ext.refl rfl P⟩
/-- tuple(xs), list(xs) of an owned list: a copy -/
def eTupO (i : Nat) : Env → Rs PyData := fun env => lift ((slotL env i).map fun ds => .tuple ds) env
theorem de_tupO {i : Nat} {e : Expr} {p : Pos} (hg : Gl X "tuple") (hm : X.mg "tuple" = none) (hv : bootBuiltins "tuple" = some (.type "tuple")) (ha : PE X e (tVar i))
    (he : starEach [e] X.env = (false, eval e X.env) :: starEach [] X.env := by rfl) (hpl : (backTo pos (starEach [] X.env)).any (·.1) = false := by rfl) : DE X C (.Call (.Name "tuple" p) [e] [] pos) (eTupO i) :=
  PEweak (pe_callTy DLT.call_tupZ hg hm hv (pa_cons ha pa_nil he) (by decide) (by decide) he hpl) fun σ H Q ⟨env, ow, P, h⟩ => by
    obtain ⟨d, e, h⟩ := rdAt_lift (v := V.non) h
    cases hs : slotL env i with
    | none => rw [hs] at e; cases e
    | some ds =>
      rw [hs] at e
      cases e
      obtain ⟨a, vs, h1, h2, h3, h4, hz, hi⟩ := slot_l P hs
      exact ⟨_, h1, a, vs, rfl, .inl ⟨.of h2, fun zo l hd hl => rdAt_fin h (Gr.new hl) (.tup (.new hd) (h3.stay (Gr.new hl).stay) hz) P⟩⟩
def eListO (i : Nat) : Env → Rs PyData := fun env => lift ((slotL env i).map fun ds => .list ds) env
theorem de_listO {i : Nat} {e : Expr} {p : Pos} (hg : Gl X "list") (hm : X.mg "list" = none) (hv : bootBuiltins "list" = some (.type "list")) (ha : PE X e (tVar i))
    (he : starEach [e] X.env = (false, eval e X.env) :: starEach [] X.env := by rfl) (hpl : (backTo pos (starEach [] X.env)).any (·.1) = false := by rfl) : DE X C (.Call (.Name "list" p) [e] [] pos) (eListO i) :=
  PEweak (pe_callTy call_list_of hg hm hv (pa_cons ha pa_nil he) (by decide) (by decide) he hpl) fun σ H Q ⟨env, ow, P, h⟩ => by
    obtain ⟨d, e, h⟩ := rdAt_lift (v := V.non) h
    cases hs : slotL env i with
    | none => rw [hs] at e; cases e
    | some ds =>
      rw [hs] at e
      cases e
      obtain ⟨a, vs, h1, h2, h3, h4, hz, hi⟩ := slot_l P hs
      exact ⟨_, h1, a, vs, rfl, .inl (.of h2), fun l hl => rdAt_fin h (Gr.new hl) (.lst upd_same off_same (h3.stay (Gr.new hl).stay) hz) P⟩
end
end DL


namespace DL
open PySem PySem.Spec PyProof.Rows L2
section
variable {X : Cx} {C : Cc} {K : PySem.W.Frag} {pos : Pos}
/-! ### loops -/
def forGo (g : PyData → Env → Option Env) (body : Env → Out) : List PyData → Env → Out
  | [], e => .nx e
  | x :: xs, e => match g x e with
    | none => .no
    | some e1 => match body e1 with
      | .nx e2 => forGo g body xs e2
      | .ct e2 => forGo g body xs e2
      | .bk e2 => .nx e2
      | .rt m e2 => .rt m e2
      | .ex x e2 => .ex x e2
      | .no => .no
def sFor (it : Env → Rs (List PyData)) (g : PyData → Env → Option Env) (body : Env → Out) : Env → Out := sE it (forGo g body)
theorem rd_for {it : Env → Rs (List PyData)} {g : PyData → Env → Option Env} {ts : List Nat} {body : Env → Out} {D : Ends} {σ : L2.St} {H : Hp} (h : rdS K C (sFor it g body) D σ H) :
    tFor (rd K C (RI K) it) (rdG K C ts g) (rdS K C body) D σ H := by
  obtain ⟨env, ow, P, h⟩ := h
  refine out_EX (R := RI K) P h fun J H1 ds e1 ow1 X1 ⟨G, W, hG⟩ P1 h1 => ?_
  refine for_it (n := ds.length) (G := fun H => ∃ ow, G H ow) (Y := fun i H x H' => ∀ ow, G H ow → ∃ ow' d, ds[i]? = some d ∧ Gr H ow H' ow' ∧ DV K H' ow' x d)
    ⟨fun i H hi ⟨ow, q⟩ => W.goes i H ow hi q, fun H ⟨ow, q⟩ => W.stops H ow q, fun i H x H' hi ⟨ow, q⟩ y ow' q' => W.yields i H ow' x H' hi q' y⟩
    (fun i σ2 H2 => ∃ env2 ow2, G H2 ow2 ∧ RpE K C H2 ow2 σ2 env2 ∧ outAt K C D H2 ow2 (forGo g body (ds.drop i) env2)) ?_ ?_ ?_ ?_
  · exact ⟨e1, ow1, hG, P1, by rw [List.drop_zero]; exact h1⟩
  · rintro i σ2 H2 _ ⟨env2, ow2, q, _⟩
    exact ⟨ow2, q⟩
  · rintro i x σ2 H2 H3 hi ⟨env2, ow2, a5, a7, a8⟩ y
    obtain ⟨ow3, d, e2, g3, d3⟩ := y ow2 a5
    have hd : ds.drop i = d :: ds.drop (i + 1) := by
      have hl : i < ds.length := hi
      rw [List.drop_eq_getElem_cons hl]
      rw [List.getElem?_eq_getElem hl] at e2
      cases e2; rfl
    rw [hd, forGo] at a8
    replace a8 := outAt_from (Gr.ext g3) a8
    refine ⟨env2, ow3, d, a7.gr g3, d3, ?_⟩
    cases e3 : g d env2 with
    | none => rw [e3] at a8; exact a8.elim
    | some env3 =>
      rw [e3] at a8
      intro σ3 hσ P3
      refine ⟨env3, ow3, P3, ?_⟩
      have a8 : outAt K C D H3 ow3 (match body env3 with
        | .nx e2 => forGo g body (ds.drop (i + 1)) e2
        | .ct e2 => forGo g body (ds.drop (i + 1)) e2
        | .bk e2 => .nx e2
        | .rt m e2 => .rt m e2
        | .ex x e2 => .ex x e2
        | .no => .no) := a8
      have G3 : G H3 ow3 := W.st _ _ _ _ a5 g3.stay
      cases e4 : body env3 with
      | nx e => rw [e4] at a8; exact fun σ4 H4 ow4 X4 P4 => ⟨e, ow4, W.st _ _ _ _ G3 X4.stay, P4, outAt_from X4 a8⟩
      | ct e => rw [e4] at a8; exact fun σ4 H4 ow4 X4 P4 => ⟨e, ow4, W.st _ _ _ _ G3 X4.stay, P4, outAt_from X4 a8⟩
      | bk e => rw [e4] at a8; exact a8
      | rt m e => rw [e4] at a8; exact a8
      | ex x e => rw [e4] at a8; exact a8
      | no => rw [e4] at a8; exact a8
  · rintro σ2 H2 ⟨env2, ow2, a5, a7, a8⟩
    rw [List.drop_length] at a8
    exact a8 σ2 H2 ow2 Ext.refl a7
theorem ds_for {tg iter : Expr} {sts : List Stmt} {it : Env → Rs (List PyData)} {g : PyData → Env → Option Env} {ts : List Nat} {body : Env → Out} (hp : PassesOwn (model X.prog X.w) X.A X.env X.xe) (hc : X.calm = true) (hi : DI X C tg iter it) (hg : DG X C tg ts g) (hb : DSs X C sts body)
    (hs : ∀ x, foldedSetIterable iter X.env x = pure x := by intro _; rfl) : DS X C (.For tg iter sts [] pos) (sFor it g body) :=
  PSweak (ps_for hp hc hi hg hb hs) fun D σ H h => rd_for h
def whileGo (c : Env → Rs Bool) (body : Env → Out) : Nat → Env → Out
  | 0, _ => .no
  | n + 1, e => match c e with
    | .ok true e1 => match body e1 with
      | .nx e2 => whileGo c body n e2
      | .ct e2 => whileGo c body n e2
      | .bk e2 => .nx e2
      | .rt m e2 => .rt m e2
      | .ex x e2 => .ex x e2
      | .no => .no
    | .ok false e1 => .nx e1
    | .ex x e1 => .ex x e1
    | .no => .no
open Classical in
noncomputable def sWhile (c : Env → Rs Bool) (body : Env → Out) : Env → Out := fun e => if h : ∃ n, whileGo c body n e ≠ .no then whileGo c body (Classical.choose h) e else .no
theorem whileGo_mono {c : Env → Rs Bool} {body : Env → Out} : ∀ {n m : Nat} {e : Env}, n ≤ m → whileGo c body n e ≠ .no → whileGo c body m e = whileGo c body n e
  | 0, _, _, _, h => absurd rfl h
  | n + 1, 0, _, hm, _ => absurd hm (by omega)
  | n + 1, m + 1, e, hm, h => by
    have ih := @whileGo_mono c body n m
    unfold whileGo at h ⊢
    cases hc : c e with
    | ok b e1 =>
      rw [hc] at h
      cases b with
      | false => rfl
      | true =>
        cases hb : body e1 with
        | nx e2 => simp only [hb] at h ⊢; exact ih (by omega) h
        | ct e2 => simp only [hb] at h ⊢; exact ih (by omega) h
        | _ => simp only [hb]
    | ex x e1 => rfl
    | no => rfl
theorem sWhile_eq {c : Env → Rs Bool} {body : Env → Out} {n : Nat} {e : Env} {o : Out} (h : whileGo c body n e = o) (ho : o ≠ .no) : sWhile c body e = o := by
  have hx : ∃ n, whileGo c body n e ≠ .no := ⟨n, by rw [h]; exact ho⟩
  unfold sWhile
  rw [dif_pos hx]
  have h1 := Classical.choose_spec hx
  rcases Nat.le_total n (Classical.choose hx) with l | l
  · rw [whileGo_mono l (by rw [h]; exact ho)]; exact h
  · rw [← whileGo_mono l h1]; exact h
theorem sWhile_get {c : Env → Rs Bool} {body : Env → Out} {e : Env} (h : sWhile c body e ≠ .no) : ∃ n, sWhile c body e = whileGo c body n e := by
  by_cases hx : ∃ n, whileGo c body n e ≠ .no
  · exact ⟨Classical.choose hx, by unfold sWhile; rw [dif_pos hx]⟩
  · exact absurd (by unfold sWhile; rw [dif_neg hx]) h
theorem ds_while {c : Expr} {sts : List Stmt} {tc : Env → Rs Bool} {body : Env → Out} (hp : PassesOwn (model X.prog X.w) X.A X.env X.xe) (hc : DT X C c tc) (hb : DSs X C sts body) : DS X C (.While c sts [] pos) (sWhile tc body) :=
  PSweak (ps_while hp hc hb) fun D σ H ⟨env, ow, P, h⟩ => by
    have hne : sWhile tc body env ≠ .no := fun z => by rw [z] at h; exact h
    obtain ⟨n, en⟩ := sWhile_get hne
    rw [en] at h
    refine ⟨fun m σ2 H2 => ∃ env2 ow2, RpE X.K C H2 ow2 σ2 env2 ∧ outAt X.K C D H2 ow2 (whileGo tc body m env2), ⟨n, env, ow, P, h⟩, ?_⟩
    rintro m σ2 H2 ⟨env2, ow2, P2, h2⟩
    cases m with
    | zero => exact h2.elim
    | succ m =>
      refine ⟨env2, ow2, P2, ?_⟩
      unfold whileGo at h2
      cases e1 : tc env2 with
      | no => rw [e1] at h2; exact h2.elim
      | ex x e => rw [e1] at h2; exact fun cc dx H3 ow3 y z w => h2 cc dx σ2 H3 ow3 y z w
      | ok b env3 =>
        rw [e1] at h2
        intro b' H3 ow3 X3 eb P3
        cases eb
        cases b with
        | false => exact iteF (h2 σ2 H3 ow3 X3 P3)
        | true =>
          refine iteT ⟨fun σ4 H4 => ∃ env2 ow2, RpE X.K C H4 ow2 σ4 env2 ∧ outAt X.K C D H4 ow2 (whileGo tc body m env2), fun σ' H' q => ⟨m, by omega, q⟩, env3, ow3, P3, ?_⟩
          replace h2 := outAt_from X3 h2
          have h2 : outAt X.K C D H3 ow3 (match body env3 with
            | .nx e2 => whileGo tc body m e2
            | .ct e2 => whileGo tc body m e2
            | .bk e2 => .nx e2
            | .rt m e2 => .rt m e2
            | .ex x e2 => .ex x e2
            | .no => .no) := h2
          cases e4 : body env3 with
          | nx e => rw [e4] at h2; exact fun σ4 H4 ow4 X4 P4 => ⟨e, ow4, P4, outAt_from X4 h2⟩
          | ct e => rw [e4] at h2; exact fun σ4 H4 ow4 X4 P4 => ⟨e, ow4, P4, outAt_from X4 h2⟩
          | bk e => rw [e4] at h2; exact h2
          | rt m e => rw [e4] at h2; exact h2
          | ex x e => rw [e4] at h2; exact h2
          | no => rw [e4] at h2; exact h2

/-! ### defs -/
inductive FOut where
  | rt (m : M) (os : List (Option M))
  | ex (x : Exn) (os : List (Option M))
  | no
abbrev Fn := List M → FOut
def outs : List Bool → Env → List (Option M)
  | b :: r, m :: e => (if b = true then m else none) :: outs r e
  | _, _ => []
def start0 (n : Nat) (ms : List M) : Env := ms.map some ++ List.replicate (n - ms.length) none
def runDef (ios : List Bool) (n : Nat) (body : Env → Out) : Fn := fun ms => match body (start0 n ms) with
  | .nx e => .rt (.d .none) (outs ios e)
  | .rt m e => .rt m (outs ios e)
  | .ex x e => .ex x (outs ios e)
  | _ => .no
theorem outs_get : ∀ {ios : List Bool} {e : Env} {i : Nat} {m : M}, (outs ios e)[i]? = some (some m) → ios.getD i false = true ∧ e[i]? = some (some m)
  | [], _, _, _, h => by simp [outs] at h
  | _ :: _, [], _, _, h => by simp [outs] at h
  | b :: r, m0 :: e, 0, m, h => by
    simp only [outs, List.getElem?_cons_zero] at h
    cases b with
    | false => cases h
    | true => exact ⟨rfl, h⟩
  | b :: r, m0 :: e, i + 1, m, h => by
    simp only [outs, List.getElem?_cons_succ] at h
    obtain ⟨a, b⟩ := outs_get h
    exact ⟨by simpa using a, by simpa using b⟩
def RpL (K : PySem.W.Frag) (H : Hp) (ow : Ow) (vs : List V) (ms : List M) : Prop := ∀ (i : Nat) (m : M), ms[i]? = some m → ∃ v fp, vs[i]? = some v ∧ VM K H ow v m fp ∧ fp.Nodup ∧ ∀ p ∈ fp, ow p = some i
def RpO (K : PySem.W.Frag) (H : Hp) (ow : Ow) (vs : List V) (os : List (Option M)) : Prop := ∀ (i : Nat) (m : M), os[i]? = some (some m) → ∃ v fp, vs[i]? = some v ∧ VM K H ow v m fp ∧ fp.Nodup ∧ ∀ p ∈ fp, ow p = some i
def foAt (K : PySem.W.Frag) (cl : Str → Option Addr) (n : Nat) (vs : List V) (H : Hp) (ow : Ow) (Q : VK) (E : XK) : FOut → Prop
  | .rt m os => ∀ v H' ow', Ext n H ow H' ow' → RM K n H' ow' v m → RpO K H' ow' vs os → Q v H'
  | .ex x os => ∀ c dx H' ow', Ext n H ow H' ow' → XR K ⟨n, fun _ => none, cl, fun _ _ _ _ => False⟩ H' ow' x c dx → RpO K H' ow' vs os → E c dx H'
  | .no => False
def spD (K : PySem.W.Frag) (cl : Str → Option Addr) (n ar : Nat) (F : Fn) : Sp := fun vs H Q E => vs.length = ar ∧ ∃ ms ow, ms.length = ar ∧ RpL K H ow vs ms ∧ foAt K cl n vs H ow Q E (F ms)
def ioOf (ios : List Bool) (vs : List V) : Nat → Option V := fun i => if ios.getD i false = true then vs[i]? else none
theorem start_get {N : List Str} {vs : List V} {i : Nat} {v : V} (h : vs[i]? = some v) : (L2.start N vs)[i]? = some (some v) := by
  unfold L2.start
  have hi := (List.getElem?_eq_some_iff.mp h).1
  rw [List.getElem?_append_left (by simpa using hi), List.getElem?_map, h]
  rfl
theorem rp_start {N : List Str} {vs : List V} {ms : List M} {H : Hp} {ow : Ow} {ios : List Bool} {cl : Str → Option Addr} {W : WX} (hl : vs.length ≤ N.length) (hm : ms.length = vs.length) (h : RpL K H ow vs ms) : RpE K ⟨N.length, ioOf ios vs, cl, W⟩ H ow (L2.start N vs) (start0 N.length ms) := by
  refine ⟨fun i m e => ?_, fun i v e => ?_, ?_, ?_⟩
  · unfold start0 at e
    by_cases hi : i < ms.length
    · rw [List.getElem?_append_left (by simpa using hi), List.getElem?_map] at e
      cases hms : ms[i]? with
      | none => rw [hms] at e; cases e
      | some m' =>
        rw [hms] at e
        cases e
        obtain ⟨v, fp, a, b⟩ := h i m hms
        exact ⟨v, fp, start_get a, b⟩
    · rw [List.getElem?_append_right (by simpa using hi), List.getElem?_replicate] at e
      split at e
      · cases e
      · cases e
  · have e : (if ios.getD i false = true then vs[i]? else none) = some v := e
    by_cases hb : ios.getD i false = true
    · rw [if_pos hb] at e
      exact start_get e
    · rw [if_neg hb] at e; cases e
  · show (start0 N.length ms).length = N.length
    unfold start0
    rw [List.length_append, List.length_map, List.length_replicate]
    omega
  · show (L2.start N vs).length = N.length
    unfold L2.start
    rw [List.length_append, List.length_map, List.length_replicate]
    omega
/-- a def keeps its promise, by its body -/
theorem fn_d {P : Program} {w : World} {mg : Str → Option Value} {base : Heap} {x qual : Str} {st : Stmt} {f : Addr} {fd : FuncData} {N ps : List Str} {k : Nat} {cl : Str → Option Addr} {ios : List Bool} {body : Env → Out} (F : Fun K x qual st f fd) (S : FnScope N ps (defScope st)) (hps : ps.length ≤ N.length) (hios : ios.length ≤ ps.length)
    (hb : ∀ (cdv : Value) (A : Around) (outer : List PySem.Env) (s : Shared) (H : Hp) (vs : List V) (E : XK), Room k (A.deeper (envOfC qual (defScope st) s.heap.objs.size f cdv)) →
      DSs (cxOf CX0 P w K mg base N qual (defScope st) f cdv A outer s H E).nox ⟨N.length, ioOf ios vs, cl, fun c d σ H => E c d H⟩ (defBody st) body) :
    FnOk P w K mg base CX0 (k + 1) f fd ps (spD K cl N.length ps.length (runDef ios N.length body)) := by
  refine F.ok S (fun vs H Q E h => h.1) fun cdv A outer s H vs Q E hr ⟨hl, ms, ow, hm, hp, hf⟩ => ⟨_, hb cdv A outer s H vs E hr, ?_⟩
  have P0 : RpE K ⟨N.length, ioOf ios vs, cl, fun c d σ H => E c d H⟩ H ow (L2.start N vs) (start0 N.length ms) := rp_start (by omega) (by omega) hp
  refine ⟨_, ow, P0, ?_⟩
  have ro : ∀ {H' : Hp} {ow' : Ow} {σ' : L2.St} {e : Env}, RpE K ⟨N.length, ioOf ios vs, cl, fun c d σ H => E c d H⟩ H' ow' σ' e → RpO K H' ow' vs (outs ios e) := fun {H' ow' σ' e} P' i m hi => by
    obtain ⟨a, b⟩ := outs_get hi
    obtain ⟨v, fp, c1, c2, c3, c4⟩ := P'.sl i m b
    have hv : vs[i]? = some v := by
      have hlt : i < vs.length := by
        have : i < ios.length := Nat.lt_of_not_le fun z => by
          rw [List.getD_eq_getElem?_getD, List.getElem?_eq_none z] at a
          cases a
        omega
      have h2 := P'.io i vs[i] (by show (if ios.getD i false = true then vs[i]? else none) = _; rw [if_pos a]; simp)
      rw [c1] at h2
      cases h2
      simp
    exact ⟨v, fp, hv, c2, c3, c4⟩
  unfold runDef at hf
  cases e : body (start0 N.length ms) with
  | nx env => rw [e] at hf; exact fun σ' H' ow' x P' => hf .non H' ow' x ⟨[], .d .non, by simp, fun p hp => by cases hp⟩ (ro P')
  | rt m env => rw [e] at hf; exact fun v σ' H' ow' x r P' => hf v H' ow' x r (ro P')
  | ex x env => rw [e] at hf; exact fun c dx σ' H' ow' x r P' => hf c dx H' ow' x r (ro P')
  | bk env => rw [e] at hf; exact hf.elim
  | ct env => rw [e] at hf; exact hf.elim
  | no => rw [e] at hf; exact hf.elim
end
end DL


namespace DL
open PySem PySem.Spec PyProof.Rows L2
/-! ### calls of defs -/
/-- an argument: data, or a slot that the callee may change -/
inductive AV where
  | d (x : PyData)
  | s (j : Nat)
inductive RVi (K : PySem.W.Frag) (σ : L2.St) (H : Hp) (ow : Ow) : List V → List AV → Prop
  | nil : RVi K σ H ow [] []
  | d {v : V} {x : PyData} {vs : List V} {r : List AV} : DV K H ow v x → RVi K σ H ow vs r → RVi K σ H ow (v :: vs) (.d x :: r)
  | s {v : V} {j : Nat} {vs : List V} {r : List AV} : σ[j]? = some (some v) → RVi K σ H ow vs r → RVi K σ H ow (v :: vs) (.s j :: r)
abbrev RV (K : PySem.W.Frag) (σ : L2.St) : Hp → Ow → List V → List AV → Prop := fun H ow vs r => RVi K σ H ow vs r
theorem RVi.length {K : PySem.W.Frag} {σ : L2.St} {H : Hp} {ow : Ow} : ∀ {vs : List V} {r : List AV}, RVi K σ H ow vs r → vs.length = r.length
  | _, _, .nil => rfl
  | _, _, .d _ t => by simp [t.length]
  | _, _, .s _ t => by simp [t.length]
theorem RVi.getS {K : PySem.W.Frag} {σ : L2.St} {H : Hp} {ow : Ow} {j : Nat} : ∀ {vs : List V} {r : List AV} {i : Nat}, RVi K σ H ow vs r → r[i]? = some (.s j) → ∃ v, vs[i]? = some v ∧ σ[j]? = some (some v)
  | _, _, _, .nil, h => by simp at h
  | _, _, 0, .d _ t, h => by simp at h
  | _, _, 0, .s a t, h => by simp at h; subst h; exact ⟨_, rfl, a⟩
  | _, _, i + 1, .d _ t, h => by simpa using t.getS (i := i) (by simpa using h)
  | _, _, i + 1, .s _ t, h => by simpa using t.getS (i := i) (by simpa using h)
theorem RVi.getD {K : PySem.W.Frag} {σ : L2.St} {H : Hp} {ow : Ow} {x : PyData} : ∀ {vs : List V} {r : List AV} {i : Nat}, RVi K σ H ow vs r → r[i]? = some (.d x) → ∃ v, vs[i]? = some v ∧ DV K H ow v x
  | _, _, _, .nil, h => by simp at h
  | _, _, 0, .d a t, h => by simp at h; subst h; exact ⟨_, rfl, a⟩
  | _, _, 0, .s a t, h => by simp at h
  | _, _, i + 1, .d _ t, h => by simpa using t.getD (i := i) (by simpa using h)
  | _, _, i + 1, .s _ t, h => by simpa using t.getD (i := i) (by simpa using h)
def avNil : Env → Rs (List AV) := fun env => .ok [] env
def avD (t : Env → Rs PyData) (u : Env → Rs (List AV)) : Env → Rs (List AV) := fun env => (t env).bind fun x e1 => (u e1).bind fun r e2 => .ok (.d x :: r) e2
def avS (j : Nat) (u : Env → Rs (List AV)) : Env → Rs (List AV) := fun env => match env[j]? with
  | some (some _) => (u env).bind fun r e2 => .ok (.s j :: r) e2
  | _ => .no
def DAv (X : Cx) (C : Cc) (es : List Expr) (t : Env → Rs (List AV)) : Prop := PA X es fun σ H Q => rd X.K C (RV X.K σ) t σ H Q
section
variable {X : Cx} {C : Cc} {e : Expr} {es : List Expr} {t : Env → Rs PyData} {u : Env → Rs (List AV)}
theorem dav_nil : DAv X C [] avNil := PAweak pa_nil fun σ H Q ⟨env, ow, P, h⟩ => h [] H ow Ext.refl .nil P
theorem dav_d (h : DE X C e t) (k : DAv X C es u) (hs : starEach (e :: es) X.env = (false, eval e X.env) :: starEach es X.env := by rfl) : DAv X C (e :: es) (avD t u) :=
  PAweak (pa_cons h k hs) fun σ H Q h => rd_two (R1 := RE X.K) (R2 := RV X.K σ) h (fun H H' ow ow' v d st x => DV.stay st x) fun v w x y H ow env hv hw P h => h _ H ow Ext.refl (.d hv hw) P
theorem dav_s {j : Nat} (h : PE X e (tVar j)) (k : DAv X C es u) (hs : starEach (e :: es) X.env = (false, eval e X.env) :: starEach es X.env := by rfl) : DAv X C (e :: es) (avS j u) :=
  PAweak (pa_cons h k hs) fun σ H Q ⟨env, ow, P, h⟩ => by
    unfold avS at h
    cases he : env[j]? with
    | none => rw [he] at h; exact h.elim
    | some o =>
      rw [he] at h
      cases o with
      | none => exact h.elim
      | some m =>
        obtain ⟨v, fp, a, b⟩ := P.sl j m he
        exact ⟨v, a, env, ow, P, rdAt_mono (rdAt_bind (R1 := RV X.K σ) h) fun w H1 ⟨y, e1, ow1, X1, V1, P1, h1⟩ => h1 _ H1 ow1 Ext.refl (.s a V1) P1⟩
end
def avM (env : Env) : AV → Option M
  | .d x => some (.d x)
  | .s j => match env[j]? with
    | some (some m) => some m
    | _ => none
theorem avM_s {env : Env} {j : Nat} {m : M} (h : avM env (.s j) = some m) : env[j]? = some (some m) := by
  have h : (match env[j]? with | some (some m) => some m | _ => none) = some m := h
  cases e : env[j]? with
  | none => rw [e] at h; cases h
  | some o =>
    rw [e] at h
    cases o with
    | none => cases h
    | some m' => cases h; rfl
def avMs (env : Env) : List AV → Option (List M)
  | [] => some []
  | a :: r => (avM env a).bind fun m => (avMs env r).map (m :: ·)
def jsOf : List AV → List Nat
  | [] => []
  | .d _ :: r => jsOf r
  | .s j :: r => j :: jsOf r
def putBack : List AV → List (Option M) → Env → Env
  | [], _, e => e
  | .d _ :: r, os, e => putBack r os.tail e
  | .s j :: r, os, e => putBack r os.tail (e.set j (os.head?.join))
def callM (ar : Nat) (F : Fn) (avs : List AV) (env : Env) : Rs M := match avMs env avs with
  | none => .no
  | some ms => if avs.length = ar ∧ (jsOf avs).Nodup then match F ms with
    | .rt m os => .ok m (putBack avs os env)
    | _ => .no
    else .no
def eCall (ar : Nat) (F : Fn) (t : Env → Rs (List AV)) : Env → Rs M := fun env => (t env).bind fun avs e => callM ar F avs e
theorem avMs_get {env : Env} : ∀ {avs : List AV} {ms : List M} {i : Nat} {m : M}, avMs env avs = some ms → ms[i]? = some m → ∃ a, avs[i]? = some a ∧ avM env a = some m
  | [], _, _, _, h, e => by cases h; simp at e
  | a :: r, ms, i, m, h, e => by
    simp only [avMs] at h
    cases ha : avM env a with
    | none => rw [ha] at h; cases h
    | some m0 =>
      rw [ha] at h
      cases hr : avMs env r with
      | none => rw [hr] at h; cases h
      | some ms0 =>
        rw [hr] at h
        cases h
        cases i with
        | zero => simp at e; subst e; exact ⟨a, rfl, ha⟩
        | succ i => simpa using avMs_get (i := i) hr (by simpa using e)
theorem avMs_length {env : Env} : ∀ {avs : List AV} {ms : List M}, avMs env avs = some ms → ms.length = avs.length
  | [], _, h => by cases h; rfl
  | a :: r, ms, h => by
    simp only [avMs] at h
    cases ha : avM env a with
    | none => rw [ha] at h; cases h
    | some m0 =>
      rw [ha] at h
      cases hr : avMs env r with
      | none => rw [hr] at h; cases h
      | some ms0 => rw [hr] at h; cases h; simp [avMs_length hr]
theorem avMs_slot {env : Env} {j : Nat} : ∀ {avs : List AV} {ms : List M}, avMs env avs = some ms → j ∈ jsOf avs → j < env.length
  | [], _, _, h => by simp [jsOf] at h
  | a :: r, ms, h, hj => by
    simp only [avMs] at h
    cases ha : avM env a with
    | none => rw [ha] at h; cases h
    | some m0 =>
      rw [ha] at h
      cases hr : avMs env r with
      | none => rw [hr] at h; cases h
      | some ms0 =>
        cases a with
        | d x => exact avMs_slot hr hj
        | s k =>
          rcases List.mem_cons.mp hj with rfl | hj
          · exact (List.getElem?_eq_some_iff.mp (avM_s ha)).1
          · exact avMs_slot hr hj
theorem mem_js {j : Nat} : ∀ {avs : List AV} {i : Nat}, avs[i]? = some (.s j) → j ∈ jsOf avs
  | [], _, h => by simp at h
  | .d x :: r, 0, h => by simp at h
  | .s k :: r, 0, h => by simp at h; subst h; exact List.mem_cons_self
  | .d x :: r, i + 1, h => by have := mem_js (avs := r) (i := i) (by simpa using h); exact this
  | .s k :: r, i + 1, h => List.mem_cons_of_mem _ (mem_js (avs := r) (i := i) (by simpa using h))
theorem putBack_get {j : Nat} {m : M} : ∀ {avs : List AV} {os : List (Option M)} {e : Env}, (putBack avs os e)[j]? = some (some m) → (∃ i : Nat, avs[i]? = some (.s j) ∧ os[i]? = some (some m)) ∨ (j ∉ jsOf avs ∧ e[j]? = some (some m))
  | [], os, e, h => .inr ⟨by simp [jsOf], h⟩
  | .d x :: r, os, e, h => by
    rcases putBack_get (avs := r) h with ⟨i, a, b⟩ | ⟨a, b⟩
    · refine .inl ⟨i + 1, by simpa using a, ?_⟩
      cases os with
      | nil => simp at b
      | cons o os => simpa using b
    · exact .inr ⟨a, b⟩
  | .s k :: r, os, e, h => by
    rcases putBack_get (avs := r) h with ⟨i, a, b⟩ | ⟨a, b⟩
    · refine .inl ⟨i + 1, by simpa using a, ?_⟩
      cases os with
      | nil => simp at b
      | cons o os => simpa using b
    · by_cases hk : k = j
      · subst hk
        by_cases hl : k < e.length
        · rw [List.getElem?_set_self hl] at b
          cases os with
          | nil => simp at b
          | cons o os => exact .inl ⟨0, rfl, by simpa using b⟩
        · rw [List.getElem?_eq_none (by simpa using hl)] at b; cases b
      · rw [List.getElem?_set_ne hk] at b
        exact .inr ⟨fun z => (List.mem_cons.mp z).elim (fun q => hk q.symm) a, b⟩
theorem putBack_length : ∀ (avs : List AV) (os : List (Option M)) (e : Env), (putBack avs os e).length = e.length
  | [], _, _ => rfl
  | .d _ :: r, os, e => putBack_length r _ _
  | .s j :: r, os, e => by
    show (putBack r os.tail (e.set j _)).length = _
    rw [putBack_length r, List.length_set]
/-- the place of slot j among the arguments -/
def posOf : List AV → Nat → Option Nat
  | [], _ => none
  | .d _ :: r, j => (posOf r j).map (· + 1)
  | .s k :: r, j => if k = j then some 0 else (posOf r j).map (· + 1)
theorem posOf_at : ∀ {avs : List AV} {i j : Nat}, (jsOf avs).Nodup → avs[i]? = some (.s j) → posOf avs j = some i
  | [], _, _, _, h => by simp at h
  | .d x :: r, 0, j, _, h => by simp at h
  | .d x :: r, i + 1, j, nd, h => by simp [posOf, posOf_at (avs := r) (i := i) nd (by simpa using h)]
  | .s k :: r, 0, j, _, h => by simp at h; simp [posOf, h]
  | .s k :: r, i + 1, j, nd, h => by
    have h' : r[i]? = some (.s j) := by simpa using h
    have nd' := List.nodup_cons.mp nd
    have hne : k ≠ j := fun z => nd'.1 (by rw [z]; exact mem_js h')
    simp [posOf, hne, posOf_at nd'.2 h']
theorem posOf_none : ∀ {avs : List AV} {j : Nat}, j ∉ jsOf avs → posOf avs j = none
  | [], _, _ => rfl
  | .d x :: r, j, h => by simp [posOf, posOf_none (avs := r) h]
  | .s k :: r, j, h => by
    have h1 : k ≠ j := fun z => h (by rw [z]; exact List.mem_cons_self)
    have h2 : j ∉ jsOf r := fun z => h (List.mem_cons_of_mem _ z)
    simp [posOf, h1, posOf_none h2]
section
variable {K : PySem.W.Frag} {C : Cc}
def owIn (ow : Ow) (avs : List AV) (n : Nat) : Ow := fun a => (ow a).map fun j => (posOf avs j).getD (n + 1)
def owOut (N : Nat) (ow : Ow) (avs : List AV) (n : Nat) (ow' : Ow) : Ow := fun a => match ow' a with
  | none => none
  | some i => if i = n then some N else match avs[i]? with
    | some (.s j) => some j
    | _ => if n < i then ow a else none
theorem owOut_none {N : Nat} {ow ow' : Ow} {avs : List AV} {n : Nat} {a : Addr} (h : ow' a = none) : owOut N ow avs n ow' a = none := by unfold owOut; rw [h]
theorem owOut_res {N : Nat} {ow ow' : Ow} {avs : List AV} {n : Nat} {a : Addr} (h : ow' a = some n) : owOut N ow avs n ow' a = some N := by unfold owOut; rw [h]; exact if_pos rfl
theorem owOut_arg {N : Nat} {ow ow' : Ow} {avs : List AV} {n i j : Nat} {a : Addr} (h : ow' a = some i) (hi : avs[i]? = some (.s j)) (hl : avs.length ≤ n) : owOut N ow avs n ow' a = some j := by
  unfold owOut
  rw [h]
  have := (List.getElem?_eq_some_iff.mp hi).1
  show (if i = n then some N else _) = _
  rw [if_neg (by omega), hi]
theorem owOut_out {N : Nat} {ow ow' : Ow} {avs : List AV} {n : Nat} {a : Addr} (h : ow' a = some (n + 1)) (hl : avs.length ≤ n) : owOut N ow avs n ow' a = ow a := by
  unfold owOut
  rw [h]
  show (if n + 1 = n then some N else match avs[n + 1]? with | some (.s j) => some j | _ => if n < n + 1 then ow a else none) = _
  rw [if_neg (by omega), List.getElem?_eq_none (by omega)]
  exact if_pos (by omega)
/-- the callee's end, in the caller's eyes -/
theorem call_back {σ : L2.St} {H H' : Hp} {ow ow' : Ow} {env : Env} {avs : List AV} {ms : List M} {vs : List V} {n : Nat} {os : List (Option M)} (P : RpE K C H ow σ env) (hv : RVi K σ H ow vs avs) (hm : avMs env avs = some ms) (nd : (jsOf avs).Nodup) (hl : avs.length ≤ n)
    (x : Ext n H (owIn ow avs n) H' ow') (ro : RpO K H' ow' vs os) :
    Ext C.N H ow H' (owOut C.N ow avs n ow') ∧ RpE K C H' (owOut C.N ow avs n ow') σ (putBack avs os env) := by
  have st2 : Stay H' ow' H' (owOut C.N ow avs n ow') := fun a o h h' => ⟨h, owOut_none h'⟩
  have far : ∀ a o, H a = some o → (ow a = none ∨ ∃ j, ow a = some j ∧ j ∉ jsOf avs) → H' a = some o ∧ owOut C.N ow avs n ow' a = ow a := fun a o h hj => by
    rcases hj with hj | ⟨j, hj, nj⟩
    · have e : owIn ow avs n a = none := by unfold owIn; rw [hj]; rfl
      obtain ⟨p, q⟩ := x a o h fun i z => by rw [e] at z; cases z
      exact ⟨p, by rw [owOut_none (q.trans e), hj]⟩
    · have e : owIn ow avs n a = some (n + 1) := by unfold owIn; rw [hj]; simp [posOf_none nj]
      obtain ⟨p, q⟩ := x a o h fun i z => by rw [e] at z; cases z; omega
      exact ⟨p, owOut_out (q.trans e) hl⟩
  have X : Ext C.N H ow H' (owOut C.N ow avs n ow') := fun a o h h' => by
    refine far a o h ?_
    cases hj : ow a with
    | none => exact .inl rfl
    | some j =>
      refine .inr ⟨j, rfl, fun z => ?_⟩
      have h1 := avMs_slot hm z
      have h2 := h' j hj
      have := P.len
      omega
  refine ⟨X, fun j m e => ?_, P.io, by rw [putBack_length]; exact P.len, P.lenS⟩
  rcases putBack_get e with ⟨i, a, b⟩ | ⟨a, b⟩
  · obtain ⟨v, fp, c1, c2, c3, c4⟩ := ro i m b
    obtain ⟨v', d1, d2⟩ := hv.getS a
    rw [c1] at d1
    cases d1
    exact ⟨v, fp, d2, c2.stay st2 fun _ _ => rfl, c3, fun p hp => owOut_arg (c4 p hp) a hl⟩
  · obtain ⟨v, fp, c1, c2, c3, c4⟩ := P.sl j m b
    have hk : ∀ p ∈ fp, H' p = H p ∧ owOut C.N ow avs n ow' p = ow p := fun p hp => by
      obtain ⟨o, ho⟩ := c2.there p hp
      obtain ⟨q, r⟩ := far p o ho (.inr ⟨j, c4 p hp, a⟩)
      exact ⟨q.trans ho.symm, r⟩
    exact ⟨v, fp, c1, c2.stay X.stay fun p hp => (hk p hp).1, c3, fun p hp => (hk p hp).2.trans (c4 p hp)⟩
theorem call_in {σ : L2.St} {H : Hp} {ow : Ow} {env : Env} {avs : List AV} {ms : List M} {vs : List V} {n : Nat} (P : RpE K C H ow σ env) (hv : RVi K σ H ow vs avs) (hm : avMs env avs = some ms) (nd : (jsOf avs).Nodup) : RpL K H (owIn ow avs n) vs ms := fun i m e => by
  have st : Stay H ow H (owIn ow avs n) := fun a o h h' => ⟨h, by unfold owIn; rw [h']; rfl⟩
  obtain ⟨a, h1, h2⟩ := avMs_get hm e
  cases a with
  | d x =>
    cases h2
    obtain ⟨v, k1, k2⟩ := hv.getD h1
    exact ⟨v, [], k1, .d (k2.stay st), List.nodup_nil, fun p hp => by cases hp⟩
  | s j =>
    obtain ⟨v, fp, c1, c2, c3, c4⟩ := P.sl j m (avM_s h2)
    obtain ⟨v', d1, d2⟩ := hv.getS h1
    rw [c1] at d2
    cases d2
    refine ⟨v, fp, d1, c2.stay st fun _ _ => rfl, c3, fun p hp => ?_⟩
    unfold owIn
    rw [c4 p hp, Option.map_some, posOf_at nd h1]
    rfl
theorem rd_call {cl : Str → Option Addr} {n ar : Nat} {F : Fn} {t : Env → Rs (List AV)} (hn : ar ≤ n) {σ : L2.St} {H : Hp} {Q : VK} (h : rd K C (RM K C.N) (eCall ar F t) σ H Q) :
    tCall (spD K cl n ar F) [] E0 (fun σ H Q => rd K C (RV K σ) t σ H Q) σ H Q := by
  refine rd_one (R1 := RV K σ) h fun vs avs H ow env hv P h => ?_
  unfold callM at h
  cases hm : avMs env avs with
  | none => rw [hm] at h; exact h.elim
  | some ms =>
    rw [hm] at h
    by_cases hc : avs.length = ar ∧ (jsOf avs).Nodup
    · have h : rdAt K C (RM K C.N) σ H ow Q (if avs.length = ar ∧ (jsOf avs).Nodup then match F ms with
        | .rt m os => .ok m (putBack avs os env)
        | _ => .no
        else .no) := h
      rw [if_pos hc] at h
      rw [List.append_nil]
      refine ⟨hv.length.trans hc.1, ms, owIn ow avs n, (avMs_length hm).trans hc.1, call_in P hv hm hc.2, ?_⟩
      cases hF : F ms with
      | no => rw [hF] at h; exact h.elim
      | ex x os => rw [hF] at h; exact h.elim
      | rt m os =>
        rw [hF] at h
        intro v H' ow' x ⟨fp, r1, r2, r3⟩ ro
        obtain ⟨X, P'⟩ := call_back P hv hm hc.2 (by omega) x ro
        exact h v H' _ X ⟨fp, r1.stay (fun a o h h' => ⟨h, owOut_none h'⟩) fun _ _ => rfl, r2, fun p hp => owOut_res (r3 p hp)⟩ P'
    · have h : rdAt K C (RM K C.N) σ H ow Q (if avs.length = ar ∧ (jsOf avs).Nodup then match F ms with
        | .rt m os => .ok m (putBack avs os env)
        | _ => .no
        else .no) := h
      rw [if_neg hc] at h
      exact h.elim
variable {X : Cx}
theorem dm_call {k n ar : Nat} {f : Addr} {fd : FuncData} {ps : List Str} {cl : Str → Option Addr} {F : Fn} {x : Str} {p pos : Pos} {e : Expr} {es : List Expr} {t : Env → Rs (List AV)} (Fo : FnOk X.prog X.w X.K X.mg X.base CX0 k f fd ps (spD X.K cl n ar F)) (hr : Room k X.A) (hg : Gl X x) (hm : X.mg x = some (.ref f)) (hk : PySem.W.keepIn X.K (.ref f) = true) (hb : Binds X.K fd ps [])
    (ha : DAv X C (e :: es) t) (hn : ar ≤ n := by decide) (hdb : (x == ("__debug__" : Str)) = false := by decide) (he : starEach (e :: es) X.env = (false, eval e X.env) :: starEach es X.env := by rfl) (hpl : (backTo pos (starEach es X.env)).any (·.1) = false := by rfl) :
    DM X C (.Call (.Name x p) (e :: es) [] pos) (eCall ar F t) :=
  PEweak (pe_call Fo hr hg hm hk hb .nil pass0 ha hdb he hpl) fun σ H Q h => rd_call hn h
end
theorem fn_no {P : Program} {w : World} {K : PySem.W.Frag} {mg : Str → Option Value} {base : Heap} {k n ar : Nat} {f : Addr} {fd : FuncData} {ps : List Str} {cl : Str → Option Addr} : FnOk P w K mg base CX0 k f fd ps (spD K cl n ar fun _ => .no) :=
  ⟨fun _ _ _ _ h => (by obtain ⟨_, _, _, _, _, h⟩ := h; exact h.elim), fun _ _ _ _ _ _ _ _ _ _ _ _ _ h => (by obtain ⟨_, _, _, _, _, h⟩ := h; exact h.elim)⟩
end DL


namespace DLS
open PySem PyProof.Rows Srt SrtO
section
variable {prog : Program} {w : World} {A : Around} {E : Value → Shared → Prop} {s : Shared}
/-- a tuple's items, collected -/
theorem collect_tup {l : Addr} {vs : List Value} {Q : List Value → Shared → Prop} (hl : IsTup s.heap l vs.toArray)
    (h : Q vs { s with heap := (s.heap.push (seqObj "list" #[] 0)).update s.heap.objs.size (Obj.mapSeq (· ++ vs.toArray)) }) (hsz : vs.length ≤ sizeLine) :
    wpAny (model prog w) A (collect (.ref l)) Q E s := by
  obtain ⟨o, ho, hc, n, hd⟩ := id hl
  unfold collect
  refine wpAny_bind (wpAny_runValue (codeAny_builtin entry_proto_collect' ?_))
  show wpAny _ _ (do again (.builtin "list.__iadd__" ⟨[← newList [], .ref l], []⟩)) _ _ s
  refine wpAny_bind (wpAny_newList (wpAny_pure ⟨Code.quiet_builtin _ (by decide +kernel), codeAny_builtin entry_list_iadd' ?_⟩))
  show wpAny _ _ (Builtin.List.listExtendWith (.ref s.heap.objs.size) (.ref l) (.ref s.heap.objs.size)) _ _ { s with heap := s.heap.push (seqObj "list" #[] 0) }
  unfold Builtin.List.listExtendWith
  have ho' : (s.heap.push (seqObj "list" #[] 0)).get? l = some o := Heap.get?_push_of_some _ ho
  refine wpAny_bind (wpAny_typeOf (T := "tuple") ⟨o, ho', hc⟩ ?_)
  have ht : (Value.type "tuple" == Value.type "tuple") = true := by rfl
  rw [if_pos (by rw [ht]; simp)]
  refine wpAny_bind (listItems_at ho' hd ?_)
  refine wpAny_bind (listItems_at (xs := #[]) (n := 0) (Heap.get?_push_size _ rfl) rfl ?_)
  rw [if_neg (by simp)]
  refine wpAny_bind (listUpdate_at (xs := #[]) (n := 0) (Heap.get?_push_size _ rfl) rfl ?_ (Nat.zero_le _) (by show (#[] ++ vs.toArray).size ≤ sizeLine + 1; simp only [Array.size_append, List.size_toArray, List.length_nil]; omega))
  refine wpAny_pure ?_
  show wpAny (model prog w) A (do
      let o ← load s.heap.objs.size
      match o.data with
      | .seq xs _ => pure xs.toList
      | _ => unsupported "internal:collect") Q E { s with heap := (s.heap.push (seqObj "list" #[] 0)).update s.heap.objs.size (Obj.mapSeq (· ++ vs.toArray)) }
  refine wpAny_bind (wpAny_load (get?_update_seq (Heap.get?_push_size _ rfl) _) ?_)
  show wpAny _ _ (pure ((#[] : Array Value) ++ vs.toArray).toList) Q E _
  rw [show ((#[] : Array Value) ++ vs.toArray).toList = vs by simp]
  exact wpAny_pure h
theorem sorted_tup {l : Addr} {vs : List Value} {ltv : Value → Value → Bool} {Q : Value → Shared → Prop} (O : Swo ltv) (hl : IsTup s.heap l vs.toArray) (hz : vs.length ≤ sizeLine)
    (hS : 2 ≤ vs.length → ∀ (h₁ : Heap) (a : Addr), h₁.get? a = some (seqObj "list" vs.toArray 0) → (∀ b o, s.heap.get? b = some o → b ≠ a ∧ h₁.get? b = some o) → SortableO prog w A.in1.in1 { s with heap := h₁ } a vs ltv)
    (h : ∀ out : List Value, Srtd ltv out → Stb ltv out vs → Q (.ref (s.heap.objs.size + 1)) { s with heap := sortedAll s.heap vs out.toArray }) :
    wpAny (model prog w) A (call (.builtin "sorted") [.ref l]) Q E s := by
  refine Calls.call_function_entry kind_sorted plain_sorted entry_sorted (args_sorted1 _) ?_
  unfold Builtin.«sorted»
  refine wpAny_bind (m := checkCount "sorted" 1 1 _) (wpAny_pure ?_)
  refine wpAny_bind (collect_tup hl ?_ hz)
  refine wpAny_bind (wpAny_newList ?_ hz)
  have hsz : ((s.heap.push (seqObj "list" #[] 0)).update s.heap.objs.size (Obj.mapSeq (· ++ vs.toArray))).objs.size = s.heap.objs.size + 1 := by
    rw [Heap.size_update, size_push']
  have hoL : (((s.heap.push (seqObj "list" #[] 0)).update s.heap.objs.size (Obj.mapSeq (· ++ vs.toArray))).push (seqObj "list" vs.toArray 0)).get? (s.heap.objs.size + 1) = some (seqObj "list" vs.toArray 0) := by
    rw [← hsz]; exact Heap.get?_push_size _ rfl
  have keep : ∀ b o, s.heap.get? b = some o → b ≠ s.heap.objs.size + 1 ∧ (((s.heap.push (seqObj "list" #[] 0)).update s.heap.objs.size (Obj.mapSeq (· ++ vs.toArray))).push (seqObj "list" vs.toArray 0)).get? b = some o := fun b o q => by
    have hlt : b < s.heap.objs.size := Heap.lt_size q
    refine ⟨Nat.ne_of_lt (Nat.lt_succ_of_lt hlt), Heap.get?_push_of_some _ ?_⟩
    rw [Heap.get?_update_ne _ _ _ _ (Nat.ne_of_lt hlt)]
    exact Heap.get?_push_of_some _ q
  show wpAny _ _ _ _ _ { s with heap := ((s.heap.push (seqObj "list" #[] 0)).update s.heap.objs.size (Obj.mapSeq (· ++ vs.toArray))).push (seqObj "list" vs.toArray 0) }
  rw [hsz]
  refine wpAny_bind (wpAny_holding (wpAny_call_entry slot_list_sort ⟨_, hoL, rfl⟩ entry_list_sort (list_sort_ord O hoL hz (fun h2 => hS h2 _ _ hoL keep) fun out hs hb => ⟨_, rfl, ?_⟩) (args_list_sort _)))
  exact wpAny_pure ⟨_, rfl, h out hs hb⟩
end
end DLS
namespace DL
open PySem PySem.Spec PyProof.Rows L2
section
variable {X : Cx} {C : Cc} {K : PySem.W.Frag} {pos : Pos}
def rSortedT (K : PySem.W.Frag) : List V → Hp → VK → Prop := fun vs H Q => ∃ (a : Addr) (ns : List Int), vs = [V.ref a] ∧ SqT K H a (ns.map V.int) ∧
  ∀ (ns' : List Int) (p : Addr), ns'.Perm ns → ns'.Pairwise (· ≤ ·) → H p = none → Q (.ref p) (upd H p (.lst (ns'.map V.int)))
theorem cr_sortedT : CallR X (.builtin "sorted") (rSortedT X.K) := by
  intro pins s σ H vs us Q I r h
  obtain ⟨a, ns, rfl, hs, q⟩ := h
  obtain ⟨its, rv, hl, hz⟩ := I.tuple hs
  rw [Vals.ref1 r]
  have hi := rv.ints
  refine DLS.sorted_tup SrtO.swo_int hl (by rw [← rv.length]; exact hz) (fun h2 h₁ a' _ _ => SrtO.ints_sortable hi h2) fun out h1 h2 => ?_
  obtain ⟨k1, k2, k3⟩ := SrtO.ints_out hi h1 h2
  obtain ⟨ep, he'⟩ := PyProof.Rows.sortedAll_at s.heap its out.toArray
  have hlen : ((out.map SrtO.iv).map V.int).length ≤ sizeLine := by
    rw [List.length_map, k2.length_eq]
    rw [List.length_map] at hz
    exact hz
  exact ⟨.ref _, upd H (s.heap.objs.size + 1) (.lst ((out.map SrtO.iv).map V.int)), I.laid (t' := s.toks) (fun _ _ => PyProof.Rows.sortedAll_old) (Nat.le_succ _) ⟨hlen, out, ep, vals_of_ints k1, he'⟩, rfl, q _ _ k2 k3 (I.hok.fresh (Nat.le_succ _))⟩
/-- ints in order -/
def insI (x : Int) : List Int → List Int
  | [] => [x]
  | y :: r => if x ≤ y then x :: y :: r else y :: insI x r
def sortI : List Int → List Int
  | [] => []
  | x :: r => insI x (sortI r)
theorem insI_perm (x : Int) : ∀ l : List Int, (insI x l).Perm (x :: l)
  | [] => .refl _
  | y :: r => by
    unfold insI
    split
    · exact .refl _
    · exact ((insI_perm x r).cons y).trans (.swap x y r)
theorem sortI_perm : ∀ l : List Int, (sortI l).Perm l
  | [] => .refl _
  | x :: r => (insI_perm x _).trans ((sortI_perm r).cons x)
theorem insI_sorted (x : Int) : ∀ {l : List Int}, l.Pairwise (· ≤ ·) → (insI x l).Pairwise (· ≤ ·)
  | [], _ => by simp [insI]
  | y :: r, h => by
    unfold insI
    split
    · rename_i hxy
      refine .cons (fun z hz => ?_) h
      rcases List.mem_cons.mp hz with rfl | hz
      · exact hxy
      · exact Int.le_trans hxy (List.rel_of_pairwise_cons h hz)
    · rename_i hxy
      refine .cons (fun z hz => ?_) (insI_sorted x h.of_cons)
      rcases List.mem_cons.mp ((insI_perm x r).mem_iff.mp hz) with rfl | hz
      · omega
      · exact List.rel_of_pairwise_cons h hz
theorem sortI_sorted : ∀ l : List Int, (sortI l).Pairwise (· ≤ ·)
  | [] => .nil
  | x :: r => insI_sorted x (sortI_sorted r)
theorem sorted_unique : ∀ {l m : List Int}, l.Perm m → l.Pairwise (· ≤ ·) → m.Pairwise (· ≤ ·) → l = m
  | [], m, p, _, _ => by rw [List.nil_perm.mp p]
  | x :: l, [], p, _, _ => by simp at p
  | x :: l, y :: m, p, h1, h2 => by
    have e : x = y := by
      have a : x ∈ y :: m := p.mem_iff.mp List.mem_cons_self
      have b : y ∈ x :: l := p.mem_iff.mpr List.mem_cons_self
      rcases List.mem_cons.mp a with a | a
      · exact a
      · rcases List.mem_cons.mp b with b | b
        · exact b.symm
        · have := List.rel_of_pairwise_cons h2 a
          have := List.rel_of_pairwise_cons h1 b
          omega
    subst e
    rw [sorted_unique ((List.perm_cons x).mp p) h1.of_cons h2.of_cons]
/-! pairs in order -/
def pairsOf : List PyData → Option (List (Int × Int))
  | [] => some []
  | .tuple [.int i, .int j] :: r => (pairsOf r).map ((i, j) :: ·)
  | _ => none
def prD (p : Int × Int) : PyData := .tuple [.int p.1, .int p.2]
theorem pairsOf_map : ∀ ps : List (Int × Int), pairsOf (ps.map prD) = some ps
  | [] => rfl
  | p :: ps => by simp [pairsOf, prD, pairsOf_map ps]
theorem pairsOf_eq : ∀ {ds : List PyData} {ps : List (Int × Int)}, pairsOf ds = some ps → ds = ps.map prD
  | [], ps, e => by cases e; rfl
  | d :: ds, ps, e => by
    unfold pairsOf at e
    split at e
    · rename_i h; cases h
    · rename_i i j r h
      cases h
      cases h2 : pairsOf ds with
      | none => rw [h2] at e; cases e
      | some qs =>
        rw [h2] at e
        cases e
        rw [pairsOf_eq h2]
        rfl
    · cases e
def cod (p : Int × Int) : Int := p.1 * 64 + p.2
def dec (c : Int) : Int × Int := (c / 64, c % 64)
def inB (p : Int × Int) : Prop := (0 ≤ p.1 ∧ p.1 < 64) ∧ 0 ≤ p.2 ∧ p.2 < 64
instance (p : Int × Int) : Decidable (inB p) := by unfold inB; exact inferInstance
theorem dec_cod (p : Int × Int) (h : inB p) : dec (cod p) = p := by
  obtain ⟨a, b⟩ := p
  obtain ⟨⟨h1, h2⟩, h3, h4⟩ := h
  simp only at h1 h2 h3 h4
  unfold dec cod
  simp only
  rw [show (a * 64 + b) / 64 = a by omega, show (a * 64 + b) % 64 = b by omega]
def sortP (ps : List (Int × Int)) : List (Int × Int) := (sortI (ps.map cod)).map dec
theorem sortP_eq {ps qs : List (Int × Int)} (hb : ∀ p ∈ ps, inB p) (h : qs.Perm ps) (hs : (qs.map cod).Pairwise (· ≤ ·)) : qs = sortP ps := by
  have e : qs.map cod = sortI (ps.map cod) := sorted_unique ((h.map cod).trans (sortI_perm _).symm) hs (sortI_sorted _)
  unfold sortP
  rw [← e, List.map_map]
  conv => lhs; rw [← List.map_id qs]
  exact List.map_congr_left fun p hp => (dec_cod p (hb p (h.mem_iff.1 hp))).symm
theorem DVs.permV {H : Hp} {ow : Ow} {xs ys : List V} (p : ys.Perm xs) : ∀ {ds : List PyData}, DVs K H ow xs ds → ∃ es : List PyData, es.Perm ds ∧ DVs K H ow ys es := by
  induction p with
  | nil => intro ds h; exact ⟨ds, .refl _, h⟩
  | cons x p ih =>
    intro ds h
    cases h with
    | cons h1 h2 =>
      obtain ⟨es, e1, e2⟩ := ih h2
      exact ⟨_ :: es, e1.cons _, .cons h1 e2⟩
  | swap x y l =>
    intro ds h
    cases h with
    | cons h1 h2 => cases h2 with
      | cons h2 h3 => exact ⟨_, .swap _ _ _, .cons h2 (.cons h1 h3)⟩
  | trans p q ihp ihq =>
    intro ds h
    obtain ⟨es, e1, e2⟩ := ihq h
    obtain ⟨fs, f1, f2⟩ := ihp e2
    exact ⟨fs, f1.trans e1, f2⟩
theorem DV.pair {H : Hp} {ow : Ow} {x : V} {p : Int × Int} (h : DV K H ow x (prD p)) : TupI K H x [p.1, p.2] := by
  cases h with
  | @tup a xs ds h1 h3 hz =>
    have e : xs = [p.1, p.2].map V.int := DVs.ints (ns := [p.1, p.2]) h3
    exact ⟨a, rfl, by rw [← e]; exact h1.sq⟩
theorem DVs.mem {H : Hp} {ow : Ow} : ∀ {ds : List PyData} {vs : List V}, DVs K H ow vs ds → ∀ x ∈ vs, ∃ d ∈ ds, DV K H ow x d
  | [], _, h, x, hx => by cases h; cases hx
  | d :: ds, _, h, x, hx => by
    cases h with
    | cons h1 h2 =>
      rcases List.mem_cons.1 hx with rfl | hx
      · exact ⟨d, List.mem_cons_self, h1⟩
      · obtain ⟨e, e1, e2⟩ := DVs.mem h2 x hx
        exact ⟨e, List.mem_cons_of_mem _ e1, e2⟩
theorem DVs.pairwise {H : Hp} {ow : Ow} {R : V → V → Prop} {S : Int × Int → Int × Int → Prop} (h : ∀ x y p q, DV K H ow x (prD p) → DV K H ow y (prD q) → R x y → S p q) : ∀ {ps : List (Int × Int)} {vs : List V}, DVs K H ow vs (ps.map prD) → vs.Pairwise R → ps.Pairwise S
  | [], _, _, _ => .nil
  | p :: ps, _, hd, hp => by
    cases hd with
    | cons h1 h2 =>
      refine .cons (fun q hq => ?_) (DVs.pairwise h h2 hp.of_cons)
      have key : ∀ {qs : List (Int × Int)} {ws : List V}, DVs K H ow ws (qs.map prD) → q ∈ qs → ∃ y ∈ ws, DV K H ow y (prD q) := by
        intro qs
        induction qs with
        | nil => intro ws _ hq; cases hq
        | cons r qs ih =>
          intro ws hw hq
          cases hw with
          | cons k1 k2 =>
            rcases List.mem_cons.1 hq with rfl | hq
            · exact ⟨_, List.mem_cons_self, k1⟩
            · obtain ⟨y, y1, y2⟩ := ih k2 hq
              exact ⟨y, List.mem_cons_of_mem _ y1, y2⟩
      obtain ⟨y, y1, y2⟩ := key h2 hq
      exact h _ _ _ _ h1 y2 (List.rel_of_pairwise_cons hp y1)
def bSorted : List PyData → Option PyData
  | [x] => (seqOf x).bind fun ds => match intsOf ds with
    | some ns => some (.list ((sortI ns).map .int))
    | none => match x, pairsOf ds with
      | .list _, some ps => if ps.length < 64 ∧ ∀ p ∈ ps, inB p then some (.list ((sortP ps).map prD)) else none
      | _, _ => none
  | _ => none
def rSortedAll (K : PySem.W.Frag) : List V → Hp → VK → Prop := fun vs H Q => (rSortedI K vs H Q ∨ rSortedT K vs H Q) ∨ rSortU K 2 64 vs H Q
theorem ob_sorted : OpB K (rSortedAll K) bSorted := by
  intro vs xs o H ow Q h e q
  match xs, h, e with
  | [x], h, e =>
    obtain ⟨v, rfl, d⟩ := h.one
    have fin : ∀ (ns ns' : List Int) (p : Addr), ns.length ≤ 16777216 → ns'.Perm ns → ns'.Pairwise (· ≤ ·) → H p = none → o = .list ((sortI ns).map .int) → Q (.ref p) (upd H p (.lst (ns'.map V.int))) := fun ns ns' p hz h1 h2 hp ho => by
      have e : ns' = sortI ns := sorted_unique (h1.trans (sortI_perm ns).symm) h2 (sortI_sorted ns)
      subst e
      subst ho
      exact q _ _ _ (Gr.new hp) (.lst upd_same off_same (DVs.of_ints _) (by rw [List.length_map, (sortI_perm ns).length_eq]; exact hz))
    cases d with
    | @lst a vs ds h1 h2 h3 hz =>
      cases hn : intsOf ds with
      | none =>
        simp only [bSorted, seqOf, hn, Option.bind_some] at e
        cases hp : pairsOf ds with
        | none => simp [hp] at e
        | some ps =>
          simp only [hp] at e
          obtain ⟨⟨hl, hb⟩, rfl⟩ := if_some e
          have he := pairsOf_eq hp
          subst he
          have hvl : vs.length < 64 := by rw [h3.length, List.length_map]; exact hl
          refine .inr ⟨a, vs, rfl, .of h1, hvl, fun x hx => ?_, fun ys p k1 k2 k3 => ?_⟩
          · obtain ⟨d, d1, d2⟩ := DVs.mem h3 x hx
            obtain ⟨r, r1, rfl⟩ := List.mem_map.1 d1
            have b := hb r r1
            exact ⟨_, d2.pair, rfl, fun m hm => by
              rcases List.mem_cons.1 hm with rfl | hm
              · exact b.1
              · rw [List.mem_singleton.1 hm]; exact b.2⟩
          · obtain ⟨es, e1, e2⟩ := DVs.permV k1 h3
            have : ∃ qs : List (Int × Int), es = qs.map prD := by
              have : ∀ l : List PyData, (∀ d ∈ l, ∃ r : Int × Int, d = prD r) → ∃ qs : List (Int × Int), l = qs.map prD := fun l => by
                induction l with
                | nil => intro _; exact ⟨[], rfl⟩
                | cons d l ih =>
                  intro hl
                  obtain ⟨r, rfl⟩ := hl d List.mem_cons_self
                  obtain ⟨qs, rfl⟩ := ih fun x hx => hl x (List.mem_cons_of_mem _ hx)
                  exact ⟨r :: qs, rfl⟩
              refine this es fun d hd => ?_
              obtain ⟨r, _, rfl⟩ := List.mem_map.1 (e1.mem_iff.1 hd)
              exact ⟨r, rfl⟩
            obtain ⟨qs, rfl⟩ := this
            have hqp : qs.Perm ps := by
              have inj : ∀ p : Int × Int, (pairsOf [prD p]) = some [p] := fun p => rfl
              have dd : ∀ p : Int × Int, (fun d : PyData => match d with | .tuple [.int i, .int j] => (i, j) | _ => (0, 0)) (prD p) = p := fun p => rfl
              have := e1.map (fun d : PyData => match d with | .tuple [.int i, .int j] => (i, j) | _ => ((0 : Int), (0 : Int)))
              rw [List.map_map, List.map_map] at this
              have e0 : ∀ l : List (Int × Int), l.map ((fun d : PyData => match d with | .tuple [.int i, .int j] => (i, j) | _ => ((0 : Int), (0 : Int))) ∘ prD) = l := fun l => by
                conv => rhs; rw [← List.map_id l]
                exact List.map_congr_left fun p _ => rfl
              rwa [e0, e0] at this
            have hs : (qs.map cod).Pairwise (· ≤ ·) := by
              rw [List.pairwise_map]
              refine DVs.pairwise (R := fun x y => ∀ n m, TupI K H x n → TupI K H y m → TS.code 64 n ≤ TS.code 64 m) (fun x y p q hx hy hr => ?_) e2 k2
              have := hr _ _ hx.pair hy.pair
              rw [code_pair, code_pair] at this
              exact this
            have := sortP_eq hb hqp hs
            subst this
            exact q _ _ _ (Gr.new k3) (.lst upd_same off_same (e2.stay (Gr.new k3).stay) (by rw [← e2.length, k1.length_eq]; omega))
      | some ns =>
        simp only [bSorted, seqOf, hn, Option.bind_some] at e
        have := intsOf_eq hn
        subst this
        have := h3.ints
        subst this
        exact .inl <| .inl ⟨a, ns, rfl, .of h1, fun ns' p k1 k2 k3 => fin ns ns' p (by simpa using hz) k1 k2 k3 (Option.some.inj e).symm⟩
    | @tup a vs ds h1 h3 hz =>
      cases hn : intsOf ds with
      | none => simp [bSorted, seqOf, hn] at e
      | some ns =>
        simp only [bSorted, seqOf, hn, Option.bind_some] at e
        have := intsOf_eq hn
        subst this
        have := h3.ints
        subst this
        exact .inl <| .inr ⟨a, ns, rfl, h1.sq, fun ns' p k1 k2 k3 => fin ns ns' p (by simpa using hz) k1 k2 k3 (Option.some.inj e).symm⟩
    | _ => cases e
theorem cr_sortedAll : CallR X (.builtin "sorted") (rSortedAll X.K) := (cr_sortedI.or cr_sortedT).or (cr_sortT (by omega))
theorem cr_sumAll (hc : X.calm = true) : CallR X (.builtin "sum") (fun vs H Q => rSum X.K vs H Q ∨ rSumT X.K vs H Q) := (cr_sum hc).or (cr_sumT hc)
/-! max, min of two ints, of a list of ints -/
def maxL : Int → List Int → Int
  | m, [] => m
  | m, x :: r => maxL (if x > m then x else m) r
def minL : Int → List Int → Int
  | m, [] => m
  | m, x :: r => minL (if x < m then x else m) r
def bMax : List PyData → Option PyData
  | [.int i, .int j] => some (.int (if j > i then j else i))
  | [.list ds] => (intsOf ds).bind fun ns => match ns with | [] => none | n :: r => some (.int (maxL n r))
  | _ => none
def bMin : List PyData → Option PyData
  | [.int i, .int j] => some (.int (if j < i then j else i))
  | [.list ds] => (intsOf ds).bind fun ns => match ns with | [] => none | n :: r => some (.int (minL n r))
  | _ => none
theorem maxL_ge : ∀ (r : List Int) (m : Int), m ≤ maxL m r ∧ ∀ y ∈ r, y ≤ maxL m r
  | [], m => ⟨Int.le_refl _, by simp⟩
  | x :: r, m => by
    obtain ⟨a, b⟩ := maxL_ge r (if x > m then x else m)
    simp only [maxL]
    refine ⟨?_, fun y hy => ?_⟩
    · split at a <;> (rename_i h; simp only [h, if_true, if_false]; omega)
    · rcases List.mem_cons.mp hy with rfl | hy
      · split at a <;> (rename_i h; simp only [h, if_true, if_false]; omega)
      · exact b y hy
theorem maxL_mem : ∀ (r : List Int) (m : Int), maxL m r ∈ m :: r
  | [], m => by simp [maxL]
  | x :: r, m => by
    have := maxL_mem r (if x > m then x else m)
    simp only [maxL]
    rcases List.mem_cons.mp this with h | h
    · rw [h]; split <;> simp
    · simp [h]
theorem minL_le : ∀ (r : List Int) (m : Int), minL m r ≤ m ∧ ∀ y ∈ r, minL m r ≤ y
  | [], m => ⟨Int.le_refl _, by simp⟩
  | x :: r, m => by
    obtain ⟨a, b⟩ := minL_le r (if x < m then x else m)
    simp only [minL]
    refine ⟨?_, fun y hy => ?_⟩
    · split at a <;> (rename_i h; simp only [h, if_true, if_false]; omega)
    · rcases List.mem_cons.mp hy with rfl | hy
      · split at a <;> (rename_i h; simp only [h, if_true, if_false]; omega)
      · exact b y hy
theorem minL_mem : ∀ (r : List Int) (m : Int), minL m r ∈ m :: r
  | [], m => by simp [minL]
  | x :: r, m => by
    have := minL_mem r (if x < m then x else m)
    simp only [minL]
    rcases List.mem_cons.mp this with h | h
    · rw [h]; split <;> simp
    · simp [h]
def rMaxAll (K : PySem.W.Frag) : List V → Hp → VK → Prop := fun xs H Q => (∃ i j, xs = [.int i, .int j] ∧ Q (.int (if j > i then j else i)) H) ∨ rMax K xs H Q
def rMinAll (K : PySem.W.Frag) : List V → Hp → VK → Prop := fun xs H Q => (∃ i j, xs = [.int i, .int j] ∧ Q (.int (if j < i then j else i)) H) ∨ rMin K xs H Q
theorem cr_maxAll (hc : X.calm = true) : CallR X (.builtin "max") (rMaxAll X.K) := (call_max2 hc).or (cr_max hc)
theorem cr_minAll (hc : X.calm = true) : CallR X (.builtin "min") (rMinAll X.K) := (call_min2 hc).or (cr_min hc)
theorem ob_max : OpB K (rMaxAll K) bMax := by
  intro vs xs o H ow Q h e q
  unfold bMax at e
  split at e
  · obtain ⟨v, w, rfl, d, d'⟩ := h.two
    cases d; cases d'; cases e
    exact .inl ⟨_, _, rfl, q _ _ _ .refl (.int _)⟩
  · obtain ⟨v, rfl, d⟩ := h.one
    rename_i ds
    cases d with
    | @lst a vs ds h1 h2 h3 hz =>
      cases hn : intsOf ds with
      | none => simp [hn] at e
      | some ns =>
        have := intsOf_eq hn
        subst this
        have := h3.ints
        subst this
        simp only [hn, Option.bind_some] at e
        cases ns with
        | nil => cases e
        | cons n r =>
          cases e
          refine .inr ⟨a, n :: r, rfl, .of h1, by simp, fun m hm hle => ?_⟩
          have hm' : m = maxL n r := by
            have a1 := hle _ (maxL_mem r n)
            obtain ⟨b1, b2⟩ := maxL_ge r n
            rcases List.mem_cons.mp hm with rfl | hm
            · omega
            · have := b2 m hm; omega
          subst hm'
          exact q _ _ _ .refl (.int _)
  · cases e
theorem ob_min : OpB K (rMinAll K) bMin := by
  intro vs xs o H ow Q h e q
  unfold bMin at e
  split at e
  · obtain ⟨v, w, rfl, d, d'⟩ := h.two
    cases d; cases d'; cases e
    exact .inl ⟨_, _, rfl, q _ _ _ .refl (.int _)⟩
  · obtain ⟨v, rfl, d⟩ := h.one
    rename_i ds
    cases d with
    | @lst a vs ds h1 h2 h3 hz =>
      cases hn : intsOf ds with
      | none => simp [hn] at e
      | some ns =>
        have := intsOf_eq hn
        subst this
        have := h3.ints
        subst this
        simp only [hn, Option.bind_some] at e
        cases ns with
        | nil => cases e
        | cons n r =>
          cases e
          refine .inr ⟨a, n :: r, rfl, .of h1, by simp, fun m hm hle => ?_⟩
          have hm' : m = minL n r := by
            have a1 := hle _ (minL_mem r n)
            obtain ⟨b1, b2⟩ := minL_le r n
            rcases List.mem_cons.mp hm with rfl | hm
            · omega
            · have := b2 m hm; omega
          subst hm'
          exact q _ _ _ .refl (.int _)
  · cases e
/-! list(range(..)) -/
theorem rgV_dv {H : Hp} {ow : Ow} (lo : Int) (n : Int) : DVs K H ow (rgV lo n) (rangeD lo (n - lo).toNat) := by
  unfold rgV rangeD
  generalize (n - lo).toNat = k
  have : ∀ (l : List Nat), DVs K H ow (l.map fun (i : Nat) => V.int (lo + (i : Nat))) (l.map fun (k : Nat) => PyData.int (lo + k)) := fun l => by
    induction l with
    | nil => exact .nil
    | cons x r ih => exact .cons (.int _) ih
  exact this _
def eListRg (f : List PyData → Option (List PyData)) (t : Env → Rs (List PyData)) : Env → Rs PyData := fun env => (t env).bind fun xs e => lift ((f xs).map .list) e
def mListRg (f : List PyData → Option (List PyData)) (t : Env → Rs (List PyData)) : Env → Rs M := fun env => (t env).bind fun xs e => lift ((f xs).map .l) e
def aOne (t : Env → Rs PyData) : Env → Rs (List PyData) := aCons t aNil
theorem bind_aOne {α : Type} {t : Env → Rs PyData} {f : List PyData → Env → Rs α} {env : Env} : (aOne t env).bind f = (t env).bind fun x e => f [x] e := by
  unfold aOne aCons aNil
  cases t env <;> rfl
theorem de_listRg {a : Expr} {t : Env → Rs PyData} {p p2 pos2 : Pos} (hc : X.calm = true) (hg : Gl X "list") (hm : X.mg "list" = none) (hg2 : Gl X "range") (hm2 : X.mg "range" = none) (ha : DE X C a t) (na2 : starEach [a] X.env = (false, eval a X.env) :: starEach [] X.env := by rfl)
    (na : starEach [.Call (.Name "range" p2) [a] [] pos2] X.env = (false, eval (.Call (.Name "range" p2) [a] [] pos2) X.env) :: starEach [] X.env := by rfl) : DE X C (.Call (.Name "list" p) [.Call (.Name "range" p2) [a] [] pos2] [] pos) (eListRg bRange1 (aOne t)) :=
  PEweak (pe_listRg hc hg hm (prg_1 hg2 hm2 ha na2) na) fun σ H Q ⟨env, ow, P, h⟩ => ⟨env, ow, P, rdAt_mono (rdAt_bind (R1 := RE X.K) (show rdAt X.K C (RE X.K) σ H ow Q ((t env).bind fun x e => lift ((bRange1 [x]).map .list) e) by unfold eListRg at h; rw [bind_aOne] at h; exact h)) fun v H1 ⟨x, e1, ow1, X1, V1, P1, h1⟩ => by
    obtain ⟨o, e, h1⟩ := rdAt_lift (v := V.non) h1
    cases V1 with
    | int j =>
      simp only [bRange1] at e
      by_cases hj : j ≤ 16777216 ∧ -(2 ^ 62) ≤ j
      · rw [if_pos hj] at e
        cases e
        refine ⟨j, rfl, ⟨by omega, by omega, by omega, by omega, by omega⟩, fun p hp => rdAt_fin h1 (Gr.new hp) (.lst upd_same off_same ?_ ?_) P1⟩
        · have := rgV_dv (K := X.K) (H := upd H1 p (.lst (rgV 0 j))) (ow := off ow1 p) 0 j
          rw [Int.sub_zero] at this
          exact this
        · simp [rangeD]; omega
      · rw [if_neg hj] at e; cases e
    | _ => cases e⟩
theorem dm_listRg {a : Expr} {t : Env → Rs PyData} {p p2 pos2 : Pos} (hc : X.calm = true) (hg : Gl X "list") (hm : X.mg "list" = none) (hg2 : Gl X "range") (hm2 : X.mg "range" = none) (ha : DE X C a t) (na2 : starEach [a] X.env = (false, eval a X.env) :: starEach [] X.env := by rfl)
    (na : starEach [.Call (.Name "range" p2) [a] [] pos2] X.env = (false, eval (.Call (.Name "range" p2) [a] [] pos2) X.env) :: starEach [] X.env := by rfl) : DM X C (.Call (.Name "list" p) [.Call (.Name "range" p2) [a] [] pos2] [] pos) (mListRg bRange1 (aOne t)) :=
  PEweak (pe_listRg hc hg hm (prg_1 hg2 hm2 ha na2) na) fun σ H Q ⟨env, ow, P, h⟩ => ⟨env, ow, P, rdAt_mono (rdAt_bind (R1 := RE X.K) (show rdAt X.K C (RM X.K C.N) σ H ow Q ((t env).bind fun x e => lift ((bRange1 [x]).map .l) e) by unfold mListRg at h; rw [bind_aOne] at h; exact h)) fun v H1 ⟨x, e1, ow1, X1, V1, P1, h1⟩ => by
    obtain ⟨o, e, h1⟩ := rdAt_lift (v := V.non) h1
    cases V1 with
    | int j =>
      simp only [bRange1] at e
      by_cases hj : j ≤ 16777216 ∧ -(2 ^ 62) ≤ j
      · rw [if_pos hj] at e
        cases e
        refine ⟨j, rfl, ⟨by omega, by omega, by omega, by omega, by omega⟩, fun p hp => rdAt_fin h1 (Gr.newG (i := C.N) hp) ⟨[p], .l upd_same ?_ ?_, by simp, fun q hq => by simp at hq; subst hq; exact give_same⟩ P1⟩
        · have := rgV_dv (K := X.K) (H := upd H1 p (.lst (rgV 0 j))) (ow := give ow1 p C.N) 0 j
          rw [Int.sub_zero] at this
          exact this
        · simp [rangeD]; omega
      · rw [if_neg hj] at e; cases e
    | _ => cases e⟩
/-! isinstance -/
inductive Ty where
  | int | bool | str | tup | lst
def Ty.nm : Ty → String
  | .int => "int" | .bool => "bool" | .str => "str" | .tup => "tuple" | .lst => "list"
def isI : Ty → PyData → Bool
  | .int, .int _ => true
  | .int, .bool _ => true
  | .bool, .bool _ => true
  | .str, .str _ => true
  | .tup, .tuple _ => true
  | .lst, .list _ => true
  | _, _ => false
def tyN : PyData → String
  | .none => "NoneType" | .bool _ => "bool" | .int _ => "int" | .str _ => "str" | .list _ => "list" | .tuple _ => "tuple" | .dict _ => "dict"
theorem kit_isI (T : Ty) (d : PyData) (h : ∀ kvs, d ≠ .dict kvs) : PySem.W.kitOne K (.type (tyN d)) (.type T.nm) = some (isI T d) := by
  refine kit_ty ?_
  cases d with
  | dict kvs => exact absurd rfl (h kvs)
  | _ => cases T <;> (dsimp only [tyN, Ty.nm, isI]; decide +kernel)
theorem tyx_dv {H : Hp} {ow : Ow} {v : V} {d : PyData} (h : DV K H ow v d) : TyX K H v (.type (tyN d)) ∧ ∀ kvs, d ≠ .dict kvs := by
  cases h with
  | non => exact ⟨.base .non, fun _ z => nomatch z⟩
  | bl b => exact ⟨.base (.bl b), fun _ z => nomatch z⟩
  | int i => exact ⟨.base (.int i), fun _ z => nomatch z⟩
  | str x => exact ⟨.base (.str x), fun _ z => nomatch z⟩
  | lst h1 h2 h3 hz => exact ⟨.base (.lst h1), fun _ z => nomatch z⟩
  | tup h1 h3 hz =>
    refine ⟨?_, fun _ z => nomatch z⟩
    rcases h1 with ⟨zo, h1, _⟩ | ⟨o, its, n, h1, h2, _⟩
    · exact .fTuple h1
    · exact .kTuple h1.1 h2
def eIsi (T : Ty) (t : Env → Rs PyData) : Env → Rs PyData := fun env => (t env).bind fun d e => .ok (.bool (isI T d)) e
theorem de_isi (T : Ty) {a : Expr} {t : Env → Rs PyData} {p p2 : Pos} {y : Str} (hg : Gl X "isinstance") (hm : X.mg "isinstance" = none) (hv : bootBuiltins "isinstance" = some (.builtin "isinstance")) (ha : DE X C a t) (hg2 : Gl X y) (hm2 : X.mg y = none) (hv2 : bootBuiltins y = some (.type T.nm))
    (hn2 : y ≠ "__name__" := by decide) (hd2 : (y == ("__debug__" : Str)) = false := by decide)
    (h1 : starEach [a, .Name y p2] X.env = (false, eval a X.env) :: starEach [.Name y p2] X.env := by rfl) (h2 : starEach [.Name y p2] X.env = (false, eval (.Name y p2) X.env) :: starEach [] X.env := by rfl) (hpl : (backTo pos (starEach [.Name y p2] X.env)).any (·.1) = false := by rfl) :
    DE X C (.Call (.Name "isinstance" p) [a, .Name y p2] [] pos) (eIsi T t) :=
  PEweak (pe_callB call_isi hg hm hv (pa_cons ha (pa_cons (pe_bltn (v := .ty T.nm) hg2 hm2 hv2 rfl hn2 hd2) pa_nil h2) h1) (by decide) (by decide) h1 hpl) fun σ H Q h => rd_one (R1 := RE X.K) h fun v x H ow env hv P h => by
    obtain ⟨t1, t2⟩ := tyx_dv hv
    exact ⟨v, .ty T.nm, _, _, _, rfl, .ty _, t1, kit_isI T x t2, h _ H ow Ext.refl (.bl _) P⟩
end
/-! ### the end of a law -/
theorem law_sp {K : PySem.W.Frag} {cl : Str → Option Addr} {n : Nat} {F : Fn} (hF : ∀ ns : List Int, ns.length ≤ 63 → ∃ os, F [.scr ns] = .rt (.d (.bool true)) os) {H : Hp} {a : Addr} {ns : List Int} (hl : ns.length ≤ 63) (hS : SqL K H a (ns.map V.int)) :
    spD K cl n 1 F [.ref a] H (fun v _ => v = .bl true) (fun _ _ _ => False) := by
  obtain ⟨os, e⟩ := hF ns hl
  refine ⟨rfl, [.scr ns], fun _ => none, rfl, fun i m hi => ?_, ?_⟩
  · cases i with
    | zero =>
      simp at hi
      subst hi
      refine ⟨.ref a, [], rfl, .scr (by omega) ?_, List.nodup_nil, fun p hp => by cases hp⟩
      rcases hS with (h | ⟨o, h⟩) | h
      · exact .inr (.inl ⟨h, rfl⟩)
      · exact .inl ⟨o, h, rfl⟩
      · exact .inr (.inr fun H' => .inr h)
    | succ i => simp at hi
  · rw [e]
    intro v H' ow' x ⟨fp, r1, _⟩ _
    cases r1 with
    | d h => cases h; rfl
end DL


namespace DL
open PySem PySem.Spec PyProof.Rows L2
theorem bt_len : bootBuiltins "len" = some (.builtin "len") := by decide +kernel
theorem bt_abs : bootBuiltins "abs" = some (.builtin "abs") := by decide +kernel
theorem bt_sum : bootBuiltins "sum" = some (.builtin "sum") := by decide +kernel
theorem bt_all : bootBuiltins "all" = some (.builtin "all") := by decide +kernel
theorem bt_any : bootBuiltins "any" = some (.builtin "any") := by decide +kernel
theorem bt_max : bootBuiltins "max" = some (.builtin "max") := by decide +kernel
theorem bt_min : bootBuiltins "min" = some (.builtin "min") := by decide +kernel
theorem bt_sorted : bootBuiltins "sorted" = some (.builtin "sorted") := by decide +kernel
theorem bt_isinstance : bootBuiltins "isinstance" = some (.builtin "isinstance") := by decide +kernel
theorem bt_int : bootBuiltins "int" = some (.type "int") := by decide +kernel
theorem bt_bool : bootBuiltins "bool" = some (.type "bool") := by decide +kernel
theorem bt_str : bootBuiltins "str" = some (.type "str") := by decide +kernel
theorem bt_tuple : bootBuiltins "tuple" = some (.type "tuple") := by decide +kernel
theorem bt_list : bootBuiltins "list" = some (.type "list") := by decide +kernel
theorem hu65 {k : Nat} {A : Around} (hr : Room k A) : A.units + 65 < cLine := by have := hr.un; omega
theorem ioAll {C : Cc} {vs : List Nat} (h : (vs.all fun i => (C.io i).isNone) = true) : IoFreeAll C vs := fun i hi => by
  have := List.all_eq_true.mp h i hi
  exact Option.isNone_iff_eq_none.mp this
section
variable {X : Cx} {C : Cc} {K : PySem.W.Frag} {pos : Pos}
/-- a module's constant -/
inductive Kon (mg : Str → Option Value) (x : Str) : PyData → Prop
  | int {i : Int} {t : Tok} (h : mg x = some (.int i t)) : Kon mg x (.int i)
theorem Kon.de {x : Str} {d : PyData} (k : Kon X.mg x d) (hg : Gl X x) (hd : (x == ("__debug__" : Str)) = false := by decide) : DE X C (.Name x pos) (eC d) := by
  cases k with
  | @int i t h => exact de_glob (v := .int i) hg h ⟨_, rfl⟩ (fun _ _ => .int _) hd
def dAddI : PyData → PyData → Option PyData
  | .int i, .int j => some (.int (i + j))
  | _, _ => none
theorem o2_addI : Op2 K (rI0 fun i j => .int (i + j)) dAddI := o2_rI0 (fun i j o h => by cases h; rfl) fun x y o h => by
  cases x <;> cases y <;> first | exact ⟨_, _, rfl, rfl⟩ | cases h
/-- name = [.. for ..], data -/
theorem ds_setLcD {i : Nat} {y : Str} {py : Pos} {elt tg iter : Expr} {ifs : List Expr} {scope : Scope} {own : List (Str × Nat)} {spos : Pos} {ts vs : List Nat} {it : Env → Rs (List PyData)} {g : PyData → Env → Option Env} {tt : Env → Rs Bool} {te : Env → Rs PyData}
    (hc : X.calm = true) (hN : X.N.Nodup) (hy : X.N[i]? = some y) (hyl : X.env.scope.names.lookup y = some .local) (hsw : swapsWith (.ListComp elt [⟨tg, iter, ifs, 0⟩] scope pos) (some (.Name y py)) spos.line X.env = pure true)
    (hi : DI X C tg iter it) (ok : BlkOk X.N X.env.scope scope own)
    (hg : ∀ (s : Shared) (H : Hp) (D : Addr) (cl : List (Str × Addr)) (fp : List Addr), DG (Blk X s H scope D cl fp) C.blk tg ts g) (ht : ∀ (s : Shared) (H : Hp) (D : Addr) (cl : List (Str × Addr)) (fp : List Addr), DTs (Blk X s H scope D cl fp) C.blk ifs tt)
    (he : ∀ (s : Shared) (H : Hp) (D : Addr) (cl : List (Str × Addr)) (fp : List Addr), DE (Blk X s H scope D cl fp) C.blk elt te) (hts : ∀ i ∈ ts, i ∈ vs) (hio : IoFreeAll C vs) (hioi : IoFree C i) (hs : ∀ x, foldedSetIterable iter X.env x = pure x := by intro _; rfl) (hvs : own.map (·.2) = vs := by rfl) :
    DS X C (.Assign [.Name y py] (.ListComp elt [⟨tg, iter, ifs, 0⟩] scope pos) spos) (sSet i (mD (eComp it g tt te vs))) := by
  subst hvs
  exact PSweak (ps_setLc (g := rdG X.K C.blk ts g) (tt := rd X.K C.blk RT tt) (te := rd X.K C.blk (RE X.K) te) hc hN hy hyl hsw hi ok hg ht he hs) fun D σ H ⟨env, ow, P, h⟩ => by
    refine rd_comp (k := PyData.list) hts hio hk_data (out_E (R := RE X.K) (k := fun d e => .nx (e.set i (some (.d d)))) P ?_ fun v H1 a e1 ow1 y z q => q _ H1 _ Ext.refl (z.setD y hioi))
    have e : sSet i (mD (eComp it g tt te (own.map (·.2)))) env = sE (fun env => (eComp0 it g tt te (own.map (·.2)) env).bind fun r e => .ok (.list r) e) (fun d e => .nx (e.set i (some (.d d)))) env := by
      unfold sSet sE mD eComp
      dsimp only
      cases eComp0 it g tt te (own.map (·.2)) env <;> rfl
    rw [← e]; exact h
/-- a name whose owned list goes on -/
def mVar (i : Nat) : Env → Rs M := fun env => match env[i]? with
  | some (some (.l ds)) => .ok (.l ds) (env.set i none)
  | some (some (.d x)) => .ok (.d x) env
  | some (some (.m ks)) => .ok (.m ks) (env.set i none)
  | _ => .no
theorem dm_var (i : Nat) {x : Str} (hN : X.N[i]? = some x := by rfl) (hv : Vis X.env.scope x := by first | exact Or.inl rfl | exact Or.inr (Or.inl rfl) | exact Or.inr (Or.inr rfl)) (hd : (x == ("__debug__" : Str)) = false := by decide)
    (hcd : (x == ("__classdict__" : Str)) = false := by decide) : DM X C (.Name x pos) (mVar i) :=
  PEweak (pe_var hN hv hd hcd) fun σ H Q ⟨env, ow, P, h⟩ => by
    unfold mVar at h
    cases he : env[i]? with
    | none => rw [he] at h; exact h.elim
    | some o =>
      rw [he] at h
      cases o with
      | none => exact h.elim
      | some m =>
        cases m with
        | d x =>
          obtain ⟨v, h1, h2⟩ := slot_d P (show slotD env i = some x by unfold slotD; rw [he])
          exact ⟨v, h1, h v H ow Ext.refl ⟨[], .d h2, by simp, fun p hp => by cases hp⟩ P⟩
        | l ds =>
          obtain ⟨a, vs, h1, h2, h3, h4, hz, hi⟩ := slot_l P (show slotL env i = some ds by unfold slotL; rw [he])
          refine ⟨_, h1, h _ H (reown ow i C.N) (fun b o hb hb' => ⟨hb, reown_ne fun z => ?_⟩) ⟨[a], .l h2 (h3.stay reown_stay) hz, by simp, fun p hp => by simp at hp; subst hp; exact reown_eq h4⟩ ⟨fun j m e => ?_, P.io, by rw [List.length_set]; exact P.len, P.lenS⟩⟩
          · have := hb' i z; omega
          · have hne : i ≠ j := fun z => by
              subst z
              rw [List.getElem?_set_self (by rw [P.len]; exact hi)] at e
              cases e
            rw [List.getElem?_set_ne hne] at e
            obtain ⟨v, fp, a1, a2, a3, a4⟩ := P.sl j m e
            refine ⟨v, fp, a1, a2.stay reown_stay fun _ _ => rfl, a3, fun p hp => ?_⟩
            rw [reown_ne fun z => ?_]
            · exact a4 p hp
            · rw [a4 p hp] at z
              exact hne (Option.some.inj z).symm
        | scr ns => exact h.elim
        | fm ks => exact h.elim
        | o _ _ => exact h.elim
        | fo _ _ => exact h.elim
        | ll _ => exact h.elim
        | fk _ => exact h.elim
        | m ks =>
          obtain ⟨a, vs, h1, h2, h3, h4, hz, hi⟩ := slot_m P (show slotM env i = some ks by unfold slotM; rw [he])
          refine ⟨_, h1, h _ H (reown ow i C.N) (fun b o hb hb' => ⟨hb, reown_ne fun z => ?_⟩) ⟨[a], .m h2 (h3.stay reown_stay) hz, by simp, fun p hp => by simp at hp; subst hp; exact reown_eq h4⟩ ⟨fun j m e => ?_, P.io, by rw [List.length_set]; exact P.len, P.lenS⟩⟩
          · have := hb' i z; omega
          · have hne : i ≠ j := fun z => by
              subst z
              rw [List.getElem?_set_self (by rw [P.len]; exact hi)] at e
              cases e
            rw [List.getElem?_set_ne hne] at e
            obtain ⟨v, fp, a1, a2, a3, a4⟩ := P.sl j m e
            refine ⟨v, fp, a1, a2.stay reown_stay fun _ _ => rfl, a3, fun p hp => ?_⟩
            rw [reown_ne fun z => ?_]
            · exact a4 p hp
            · rw [a4 p hp] at z
              exact hne (Option.some.inj z).symm
/-- a tuple of names takes a list -/
def gTL (n : Nat) (gs : List PyData → Env → Option Env) : PyData → Env → Option Env := fun d env => match d with | .list ds => if ds.length = n then gs ds env else none | _ => none
theorem dg_tupL {es : List Expr} {k n : Nat} {ts : List Nat} {gs : List PyData → Env → Option Env} (hc : X.calm = true) (h : DGs X C es ts gs)
    (hn : (assignEach es X.env).length = n := by rfl) (hst : (assignEach es X.env).findIdx? (·.1) = none := by rfl) : DG X C (.Tuple es k pos) ts (gTL n gs) :=
  PGweak (pg_lst hc h hn hst) fun v σ H Q ⟨env, ow, d, P, hd, h⟩ => by
    cases hd with
    | @lst a xs ds h1 h2 h3 hz =>
      by_cases hl : ds.length = n
      · simp only [gTL, if_pos hl] at h
        exact ⟨a, xs, rfl, .of h1, h3.length.trans hl, env, ow, ds, P, h3, h⟩
      · simp only [gTL, if_neg hl] at h
    | _ => exact h.elim
end
end DL


namespace DL
open PySem PySem.Spec PyProof.Rows L2
/-! methods of tuples and of lists that are data: count, index -/
section
variable {X : Cx} {C : Cc}
/-- x is a list, or a tuple whose object has no names of its own -/
def tyS (K : PySem.W.Frag) (T : String) (x : V) (H : Hp) : Prop := match x with
  | .ref p => (T = "list" ∧ ∃ xs, SqL K H p xs) ∨ (T = "tuple" ∧ ((∃ zo xs, H p = some (.frz zo (.tup xs)) ∧ zo.dict = none) ∨ ∃ o, K.lookup p = some o ∧ o.cls = .type "tuple" ∧ o.dict = none))
  | _ => False
theorem tyS_is {pps : List (Addr × Obj)} {σ : L2.St} {H : Hp} {sh : Shared} {T : String} {x : V} {v : Value} (I : Inv X pps σ H sh) (r : RelV x v) (ty : tyS X.K T x H) :
    sh.TypeIs v T ∧ ∀ a, v = .ref a → ∃ ob, sh.heap.get? a = some ob ∧ ob.dict = none := by
  cases x with
  | ref p =>
    rcases ty with ⟨rfl, xs, lq⟩ | ⟨rfl, ⟨zo, xs, e, d⟩ | ⟨o, e, c, d⟩⟩
    · exact tyV_is I r (T := "list") (.inl ⟨rfl, xs, lq⟩)
    · cases r
      obtain ⟨e1, _, jts, _, o, e2, c, _⟩ := (show ObjOk X.prog X.w H sh.heap p (.frz zo (.tup xs)) from I.hok p _ e)
      refine ⟨⟨o, e2, c⟩, fun a ea => ?_⟩
      cases ea
      exact ⟨zo, e1, d⟩
    · cases r
      exact ⟨⟨o, I.kIn p o e, c⟩, fun a ea => by cases ea; exact ⟨o, I.kIn _ o e, d⟩⟩
  | _ => exact ty.elim
/-- a call of a method of either type -/
def tSM (K : PySem.W.Frag) (r1 r2 : V → List V → Hp → VK → Prop) (to : TE) (t : TA) : TE := fun σ H Q => to σ H fun x H1 => (tyS K "list" x H1 ∧ t σ H1 fun xs H2 => r1 x xs H2 Q) ∨ (tyS K "tuple" x H1 ∧ t σ H1 fun xs H2 => r2 x xs H2 Q)
theorem pe_sm {o e : Expr} {es : List Expr} {to : TE} {t : TA} {name : Str} {apos cpos : Pos} {i1 i2 : String} {r1 r2 : V → List V → Hp → VK → Prop} (slot1 : Slot "list" name i1) (hty1 : typeOf (.builtin i1) = pure (.type "method_descriptor")) (hm1 : MtR X i1 r1)
    (slot2 : Slot "tuple" name i2) (hty2 : typeOf (.builtin i2) = pure (.type "method_descriptor")) (hm2 : MtR X i2 r2) (ho : PE X o to) (ha : PA X (e :: es) t)
    (hbase : attributeBase o name X.env (eval o X.env) = eval o X.env := by rfl)
    (hfew : ((backTo cpos (starEach (e :: es) X.env)).all (fun x => !x.1) && (backToKw cpos (keywordEach [] X.env)).all (fun x => x.1.isSome)
      && decide ((e :: es).length + ([] : List Keyword).length + (if ([] : List Keyword).isEmpty then 0 else 1) < 30)) = true := by rfl)
    (hline : (apos.endLine == cpos.line) = true := by rfl) (nst : starEach (e :: es) X.env = (false, eval e X.env) :: starEach es X.env := by rfl) (npl : (backTo cpos (starEach es X.env)).any (·.1) = false := by rfl) :
    PE X (.Call (.Attribute o name apos) (e :: es) [] cpos) (tSM X.K r1 r2 to t) := by
  refine ⟨fun pps sh σ H Q I h => ?_⟩
  refine wpAny_Call_method_late hbase hfew hline rfl (thn (ho.run pps sh σ H _ I h) fun v s1 ⟨x, H1, J, rv, y⟩ => ?_)
  have fin : ∀ (T id : String) (r : V → List V → Hp → VK → Prop) (pa : PlainAttrs T) (slot : Slot T name id) (hty : typeOf (.builtin id) = pure (.type "method_descriptor")) (hm : MtR X id r), tyS X.K T x H1 → t σ H1 (fun xs H2 => r x xs H2 Q) → MethodOn X.prog X.w X.A name cpos v (backTo cpos (starEach (e :: es) X.env)) (EP X pps σ Q) X.xe s1 := fun T id r pa slot hty hm ty y1 => by
    obtain ⟨z1, z2⟩ := tyS_is J rv ty
    refine ⟨T, id, pa, slot, hty, z1, z2, ?_⟩
    have zA := ha.run cpos pps s1 σ H1 _ J y1
    rw [nst] at zA ⊢
    refine Calls.callWith_builtin (by show (false || (backTo cpos (starEach es X.env)).any (·.1)) = false; rw [npl]; rfl) (Calls.evalArgs_plain ?_)
    exact thn zA fun uu s2 ⟨vs, H2, J2, rw2, y2⟩ => hm pps s2 σ H2 x vs v uu Q J2 rv rw2 y2
  rcases y with ⟨ty, y⟩ | ⟨ty, y⟩
  · exact fin _ _ _ PySem.F.plainAttrs_list slot1 hty1 hm1 ty y
  · exact fin _ _ _ PySem.F.plainAttrs_tuple slot2 hty2 hm2 ty y
/-- t.count(k) of whole numbers -/
def rCntTI (K : PySem.W.Frag) : V → List V → Hp → VK → Prop := fun x xs H Q => ∃ (p : Addr) (ns : List Int) (k : Int), x = .ref p ∧ xs = [.int k] ∧ SqT K H p (ns.map V.int) ∧ Q (.int (ns.count k : Nat)) H
theorem mt_tcount : MtR X "tuple.count" (rCntTI X.K) := by
  intro pps sh σ H x xs v us Q I rx rxs h
  obtain ⟨p, ns, k, rfl, rfl, lq, y⟩ := h
  cases rx
  obtain ⟨u, rfl, ru⟩ := rxs.one
  obtain ⟨t, rfl⟩ := ru
  obtain ⟨jts, sv, ⟨⟨cls, dd, data, sl⟩, ho, cc, n, cd⟩, lz⟩ := I.tuple lq
  simp only at cc cd
  subst cc cd
  have ji := ints_of_vals sv
  refine call_meets PySem.F.slot_tuple_count ⟨_, ho, rfl⟩ PySem.F.entry_tuple_count (PySem.F.args_tuple_count_2 _ _)
    (PySem.SeqAt.tuple_countAt p jts.toArray n dd sl (.int k t) (eqk k)) ⟨ho, fun w hw => (eqk_gives ji w (by simpa using hw)).at _ _, ?_⟩
  have ec : jts.toArray.toList.countP (eqk k) = ns.count k := eqk_count ji
  rw [ec]
  exact ⟨.int (ns.count k : Nat), H, I.tok _, ⟨sh.toks, rfl⟩, y⟩
/-- t.index(k) of whole numbers, the first place -/
def rIdxTI (K : PySem.W.Frag) : V → List V → Hp → VK → Prop := fun x xs H Q => ∃ (p : Addr) (ns : List Int) (k : Int) (j : Nat), x = .ref p ∧ xs = [.int k] ∧ SqT K H p (ns.map V.int) ∧ ns[j]? = some k ∧ (∀ m, m < j → ns[m]? ≠ some k) ∧ Q (.int (j : Nat)) H
theorem mt_tindex : MtR X "tuple.index" (rIdxTI X.K) := by
  intro pps sh σ H x xs v us Q I rx rxs h
  obtain ⟨p, ns, k, j, rfl, rfl, lq, hj, hno, y⟩ := h
  cases rx
  obtain ⟨u, rfl, ru⟩ := rxs.one
  obtain ⟨t, rfl⟩ := ru
  obtain ⟨jts, sv, ⟨⟨cls, dd, data, sl⟩, ho, cc, n, cd⟩, lz⟩ := I.tuple lq
  simp only at cc cd
  subst cc cd
  have ji := ints_of_vals sv
  have jl := sv.length
  rw [List.length_map] at jl
  have hjn : j < ns.length := (List.getElem?_eq_some_iff.mp hj).1
  have hjl : j < jts.toArray.size := by rw [List.size_toArray]; omega
  refine call_meets PySem.F.slot_tuple_index ⟨_, ho, rfl⟩ PySem.F.entry_tuple_index (PySem.F.args_tuple_index_2 _ _) (TI.tuple_indexAt p jts.toArray n dd sl (.int k t) (eqk k) j hjl ?_ ?_)
    ⟨ho, fun w hw => (eqk_gives ji w (by simpa using hw)).at _ _, ⟨.int (j : Nat), H, I.tok _, ⟨_, rfl⟩, y⟩⟩
  · obtain ⟨tj, hjt⟩ := ji.get j k hj
    obtain ⟨z1, z2⟩ := List.getElem?_eq_some_iff.mp hjt
    rw [show jts.toArray[j] = .int k tj by simpa using z2]
    exact beq_self_eq_true k
  · intro m mh hmj
    have hmn : m < ns.length := by omega
    obtain ⟨tm, hmt⟩ := ji.get m _ (List.getElem?_eq_getElem hmn)
    obtain ⟨z1, z2⟩ := List.getElem?_eq_some_iff.mp hmt
    rw [show jts.toArray[m] = .int ns[m] tm by simpa using z2]
    refine beq_eq_false_iff_ne.mpr fun e2 => hno m hmj ?_
    rw [List.getElem?_eq_getElem hmn, e2]
def isSq : PyData → Bool
  | .list _ | .tuple _ => true
  | _ => false
/-- what such a method answers -/
def eSM (f : PyData → List PyData → Option PyData) (t : Env → Rs PyData) (u : Env → Rs (List PyData)) : Env → Rs PyData := fun env => (t env).bind fun x e1 => if isSq x = true then (u e1).bind fun ys e2 => lift (f x ys) e2 else .no
def SmD (K : PySem.W.Frag) (r1 r2 : V → List V → Hp → VK → Prop) (f : PyData → List PyData → Option PyData) : Prop :=
  ∀ v ws x ys o H ow (Q : VK), DV K H ow v x → DVs K H ow ws ys → f x ys = some o → (∀ w, DV K H ow w o → Q w H) → match x with
    | .list _ => r1 v ws H Q
    | .tuple _ => r2 v ws H Q
    | _ => False
def cntD : PyData → List PyData → Option PyData
  | .list xs, [.int k] => (intsOf xs).map fun ns => .int (ns.count k : Nat)
  | .tuple xs, [.int k] => (intsOf xs).map fun ns => .int (ns.count k : Nat)
  | _, _ => none
theorem sm_cnt {K : PySem.W.Frag} : SmD K (rCntI K) (rCntTI K) cntD := by
  intro v ws x ys o H ow Q hv hw e q
  cases hv with
  | @lst a xs ds h1 h2 h3 hz =>
    unfold cntD at e
    split at e
    · rename_i xs' k e1
      cases e1
      obtain ⟨w, rfl, d⟩ := hw.one
      cases d
      cases hn : intsOf ds with
      | none => rw [hn] at e; cases e
      | some ns =>
        rw [hn] at e
        cases e
        have := intsOf_eq hn
        subst this
        have := h3.ints
        subst this
        exact ⟨a, ns, k, rfl, rfl, .of h1, q _ (.int _)⟩
    · rename_i e1; cases e1
    · cases e
  | @tup a xs ds h1 h3 hz =>
    unfold cntD at e
    split at e
    · rename_i e1; cases e1
    · rename_i xs' k e1
      cases e1
      obtain ⟨w, rfl, d⟩ := hw.one
      cases d
      cases hn : intsOf ds with
      | none => rw [hn] at e; cases e
      | some ns =>
        rw [hn] at e
        cases e
        have := intsOf_eq hn
        subst this
        have := h3.ints
        subst this
        exact ⟨a, ns, k, rfl, rfl, h1.sq, q _ (.int _)⟩
    · cases e
  | _ => cases e
theorem tyS_l {K : PySem.W.Frag} {H : Hp} {ow : Ow} {v : V} {xs : List PyData} (h : DV K H ow v (.list xs)) : tyS K "list" v H := by
  cases h with
  | lst h1 h2 h3 hz => exact .inl ⟨rfl, _, .of h1⟩
theorem tyS_t {K : PySem.W.Frag} {H : Hp} {ow : Ow} {v : V} {xs : List PyData} (h : DV K H ow v (.tuple xs)) : tyS K "tuple" v H := by
  cases h with
  | tup h1 h3 hz =>
    rcases h1 with ⟨zo, h1, h2, _⟩ | ⟨o, its, n, h1, h2, _⟩
    · exact .inr ⟨rfl, .inl ⟨zo, _, h1, h2⟩⟩
    · exact .inr ⟨rfl, .inr ⟨o, h1.1, h2, h1.2⟩⟩
theorem de_sm {o e0 : Expr} {es : List Expr} {name : Str} {apos cpos : Pos} {i1 i2 : String} {r1 r2 : V → List V → Hp → VK → Prop} {f : PyData → List PyData → Option PyData} {t : Env → Rs PyData} {u : Env → Rs (List PyData)} (hf : SmD X.K r1 r2 f)
    (slot1 : Slot "list" name i1) (hty1 : typeOf (.builtin i1) = pure (.type "method_descriptor")) (hm1 : MtR X i1 r1) (slot2 : Slot "tuple" name i2) (hty2 : typeOf (.builtin i2) = pure (.type "method_descriptor")) (hm2 : MtR X i2 r2)
    (ho : DE X C o t) (ha : DA X C (e0 :: es) u)
    (hbase : attributeBase o name X.env (eval o X.env) = eval o X.env := by rfl)
    (hfew : ((backTo cpos (starEach (e0 :: es) X.env)).all (fun x => !x.1) && (backToKw cpos (keywordEach [] X.env)).all (fun x => x.1.isSome)
      && decide ((e0 :: es).length + ([] : List Keyword).length + (if ([] : List Keyword).isEmpty then 0 else 1) < 30)) = true := by rfl)
    (hline : (apos.endLine == cpos.line) = true := by rfl) (nst : starEach (e0 :: es) X.env = (false, eval e0 X.env) :: starEach es X.env := by rfl) (npl : (backTo cpos (starEach es X.env)).any (·.1) = false := by rfl) :
    DE X C (.Call (.Attribute o name apos) (e0 :: es) [] cpos) (eSM f t u) :=
  PEweak (pe_sm slot1 hty1 hm1 slot2 hty2 hm2 ho ha hbase hfew hline nst npl) fun σ H Q ⟨env, ow, P, h⟩ => ⟨env, ow, P, rdAt_mono (rdAt_bind (R1 := RE X.K) h) fun v H1 ⟨x, e1, ow1, X1, V1, P1, h1⟩ => by
    by_cases hx : isSq x = true
    rotate_left
    · rw [if_neg hx] at h1
      exact h1.elim
    rw [if_pos hx] at h1
    have fin : ∀ (r : V → List V → Hp → VK → Prop), (∀ ws ys o H2 ow2, DV X.K H2 ow2 v x → DVs X.K H2 ow2 ws ys → f x ys = some o → (∀ w, DV X.K H2 ow2 w o → Q w H2) → r v ws H2 Q) → rd X.K C (RA X.K) u σ H1 fun xs H2 => r v xs H2 Q := fun r hr => by
      refine ⟨e1, ow1, P1, rdAt_mono (rdAt_bind (R1 := RA X.K) h1) fun ws H2 ⟨ys, e2, ow2, X2, V2, P2, h2⟩ => ?_⟩
      obtain ⟨o, e, h2⟩ := rdAt_lift (v := V.non) h2
      exact hr ws ys o H2 ow2 (V1.stay X2.stay) V2 e fun w dw => h2 _ H2 ow2 Ext.refl dw P2
    cases x with
    | list xs => exact .inl ⟨tyS_l V1, fin r1 fun ws ys o H2 ow2 d1 d2 e q => hf v ws _ ys o H2 ow2 Q d1 d2 e q⟩
    | tuple xs => exact .inr ⟨tyS_t V1, fin r2 fun ws ys o H2 ow2 d1 d2 e q => hf v ws _ ys o H2 ow2 Q d1 d2 e q⟩
    | _ => exact absurd hx (by simp [isSq])⟩
def idxD : PyData → List PyData → Option PyData
  | .list xs, [.int k] => (intsOf xs).bind fun ns => if k ∈ ns then some (.int (ns.idxOf k : Nat)) else none
  | .tuple xs, [.int k] => (intsOf xs).bind fun ns => if k ∈ ns then some (.int (ns.idxOf k : Nat)) else none
  | _, _ => none
theorem idx_first {ns : List Int} {k : Int} (h : k ∈ ns) : ns[ns.idxOf k]? = some k ∧ ∀ m, m < ns.idxOf k → ns[m]? ≠ some k := by
  induction ns with
  | nil => cases h
  | cons x xs ih =>
    rw [List.idxOf_cons]
    by_cases hx : x = k
    · subst hx
      simp
    · have hk : k ∈ xs := by
        rcases List.mem_cons.mp h with e | e
        · exact absurd e.symm hx
        · exact e
      obtain ⟨z1, z2⟩ := ih hk
      have hx' : (x == k) = false := by simpa using hx
      rw [hx', cond_false]
      refine ⟨by simpa using z1, fun m hm => ?_⟩
      cases m with
      | zero => simpa using hx
      | succ m => simpa using z2 m (by omega)
theorem sm_idx {K : PySem.W.Frag} : SmD K (rIndex K) (rIdxTI K) idxD := by
  intro v ws x ys o H ow Q hv hw e q
  cases hv with
  | @lst a xs ds h1 h2 h3 hz =>
    unfold idxD at e
    split at e
    · rename_i xs' k e1
      cases e1
      obtain ⟨w, rfl, d⟩ := hw.one
      cases d
      cases hn : intsOf ds with
      | none => rw [hn] at e; cases e
      | some ns =>
        rw [hn] at e
        have e : (if k ∈ ns then some (PyData.int (ns.idxOf k : Nat)) else none) = some o := e
        by_cases hk : k ∈ ns
        · rw [if_pos hk] at e
          cases e
          have := intsOf_eq hn
          subst this
          have := h3.ints
          subst this
          obtain ⟨z1, z2⟩ := idx_first hk
          refine ⟨a, _, .int k, ns.idxOf k, .int k, rfl, rfl, .of h1, rfl, ?_, by simp [z1], by simp [eqV], fun m z' hm hz' => ?_, q _ (.int _)⟩
          · rw [List.all_map]
            exact List.all_eq_true.mpr fun _ _ => rfl
          · rw [List.getElem?_map] at hz'
            cases hg : ns[m]? with
            | none => rw [hg] at hz'; cases hz'
            | some i =>
              rw [hg] at hz'
              cases hz'
              have : i ≠ k := fun c => z2 m hm (by rw [hg, c])
              simpa [eqV] using this
        · rw [if_neg hk] at e; cases e
    · rename_i e1; cases e1
    · cases e
  | @tup a xs ds h1 h3 hz =>
    unfold idxD at e
    split at e
    · rename_i e1; cases e1
    · rename_i xs' k e1
      cases e1
      obtain ⟨w, rfl, d⟩ := hw.one
      cases d
      cases hn : intsOf ds with
      | none => rw [hn] at e; cases e
      | some ns =>
        rw [hn] at e
        have e : (if k ∈ ns then some (PyData.int (ns.idxOf k : Nat)) else none) = some o := e
        by_cases hk : k ∈ ns
        · rw [if_pos hk] at e
          cases e
          have := intsOf_eq hn
          subst this
          have := h3.ints
          subst this
          obtain ⟨z1, z2⟩ := idx_first hk
          exact ⟨a, ns, k, ns.idxOf k, rfl, rfl, h1.sq, z1, z2, q _ (.int _)⟩
        · rw [if_neg hk] at e; cases e
    · cases e
  | _ => cases e
end
end DL


/-! enumerate of a tuple -/
namespace DLT
open PySem PySem.Spec PyProof.Rows L2 RZ
section
variable {prog : Program} {w : World} {A : Around} {E : Value → Shared → Prop} {s : Shared}
set_option maxHeartbeats 1000000 in
theorem meets_enum_tup (a : Addr) (us : Array Value) :
    Meets (Builtin.«enumerate.__new__» ⟨[.type "enumerate", .ref a], []⟩) (fun _ R s => s.heap.IsTuple a us ∧
      R (.ok (.ret (.ref (s.heap.push { cls := .type "tuple_iterator", data := .fields #[.ref a, .int 0 0] }).objs.size)))
        { s with heap := (s.heap.push { cls := .type "tuple_iterator", data := .fields #[.ref a, .int 0 0] }).push { cls := .type "enumerate", data := .fields #[.none, .bool false, .ref s.heap.objs.size, rawInt 0, .none, .none] } }) :=
  .of_wp fun prog w A R s h => by
    obtain ⟨hp, g, d, tk, os⟩ := s; obtain ⟨ht, h⟩ := h
    have hsub := sub_enumerate
    have kk : Heap.IsTuple (Shared.heap ⟨hp, g, d, tk, os⟩) a us := ht
    wp_walk using wpAny_pyIter_tuple kk
    refine wpAny_stack_any fun st => wpAny_pure ?_
    split
    · rename_i c _ _ _ _ _
      cases (c == Value.type "enumerate")
      · wp_walk using wpAny_pyIter_tuple kk
        exact ⟨_, rfl, h⟩
      · wp_walk using wpAny_pyIter_tuple kk
        exact ⟨_, rfl, h⟩
    · wp_walk using wpAny_pyIter_tuple kk
      exact ⟨_, rfl, h⟩
theorem call_enum_tup {a : Addr} {us : Array Value} {Q : Value → Shared → Prop} (ht : s.heap.IsTuple a us)
    (h : ∀ h', IsEnum h' (s.heap.objs.size + 1) s.heap.objs.size 0 .none → h'.IsTupleIter s.heap.objs.size a 0 → h'.objs.size = s.heap.objs.size + 2 →
      (∀ b o, s.heap.get? b = some o → h'.get? b = some o) → Q (.ref (s.heap.objs.size + 1)) { s with heap := h' }) :
    wpAny (model prog w) A (call (.type "enumerate") [.ref a]) Q E s := by
  refine callType_new F.called_enumerate (by decide) (F.typeCall_enumerate_1 _) (F.newCall_enumerate_1 _) (fun z => F.args_object_init_2 z _) F.entry_enumerate_new (meets_enum_tup a us) ⟨ht, ?_⟩
  have gz : (s.heap.push { cls := .type "tuple_iterator", data := .fields #[.ref a, .int 0 0] }).objs.size = s.heap.objs.size + 1 := Heap.size_push ..
  show _ ∧ _
  rw [gz]
  have te : IsEnum ((s.heap.push { cls := .type "tuple_iterator", data := .fields #[.ref a, .int 0 0] }).push { cls := .type "enumerate", data := .fields #[.none, .bool false, .ref s.heap.objs.size, rawInt 0, .none, .none] }) (s.heap.objs.size + 1) s.heap.objs.size 0 .none := by
    have z := Heap.get?_push_size (s.heap.push { cls := .type "tuple_iterator", data := .fields #[.ref a, .int 0 0] }) (o := { cls := .type "enumerate", data := .fields #[.none, .bool false, .ref s.heap.objs.size, rawInt 0, .none, .none] }) rfl
    rw [gz] at z; exact z
  exact ⟨⟨_, te, rfl⟩, h _ te ⟨_, Heap.get?_push_of_some _ (Heap.get?_push_size _ rfl), rfl, rfl⟩ (by rw [Heap.size_push, gz]) fun b o x => Heap.get?_push_of_some _ (Heap.get?_push_of_some _ x)⟩
theorem enum_endT {e it a : Addr} {i : Nat} {us : Array Value} {old : Value} {Q : Option Value → Shared → Prop} (hh : A.handled = none) (he : IsEnum s.heap e it i old) (hit : s.heap.IsTupleIter it a i) (ht : s.heap.IsTuple a us) (hx : us[i]? = none)
    (hQ : ∀ h', Heap.ExtBut it s.heap h' → Q none { s with heap := h' }) : wpAny (model prog w) A (pyNext (.ref e)) Q E s := by
  have hT : s.TypeIs (.ref e) "enumerate" := ⟨_, he, rfl⟩
  unfold pyNext
  refine wpAny_bind (wpAny_attempt (wpAny_callSpecial?_slot (name := Str.ofString "__next__") hT F.slot_enumerate_next (wpAny_call_entry F.slot_enumerate_next hT F.entry_enumerate_next ?_ (F.args_enumerate_next_1 _))))
  show wpAny _ _ (field (.ref e) 2 >>= _) _ _ _
  refine wpAny_bind (wpAny_field he rfl (x := .ref it) rfl ?_)
  refine wpAny_bind (wpAny_nextOf_tuple_end hh hit ht hx fun h' x z1 z2 => ?_)
  obtain ⟨o, ho, ct⟩ := z2
  exact wpAny_bind (wpAny_isInstance (T := "StopIteration") (b := true) ⟨o, ho, ct⟩ isSubtype_stop (wpAny_pure (hQ _ z1)))
end
/-- the tuple at a as it stands at each turn, each item in a new pair -/
def IteT (K : PySem.W.Frag) (a : Addr) : It :=
  ⟨fun i H => ∃ (xs : List V) (x : V), SqT K H a xs ∧ xs[i]? = some x, fun i H v H' => ∃ T x zo, v = .ref T ∧ H T = none ∧ H' = upd H T (.frz zo (.tup [.int (i : Nat), x])) ∧ zo.dict = none ∧ ∀ xs, SqT K H a xs → xs[i]? = some x, fun i H => ∃ xs : List V, SqT K H a xs ∧ xs.length ≤ i⟩
theorem turn_enumT {P : Program} {w : World} {K : PySem.W.Frag} {elts : List Expr} {kk : Nat} {tpos : Pos} (a e it : Addr) :
    Turn P w K (.Tuple elts kk tpos) (IteT K a) [e, it] e (fun ix h => (∃ old, IsEnum h e it ((ix : Nat) : Int) old) ∧ h.IsTupleIter it a ix ∧ e ≠ it ∧ e ≠ a ∧ a ≠ it) where
  mem := by simp
  obj := fun ix h sta b nb => by
    obtain ⟨⟨old, he⟩, ⟨o, ho, cc, hd⟩, _⟩ := sta
    have ee : b = e ∨ b = it := by simpa using nb
    rcases ee with z | z
    · rw [z]; exact ⟨_, he, fun v qq => nomatch qq⟩
    · rw [z]; exact ⟨o, ho, fun v qq => by rw [hd] at qq; cases qq⟩
  keep := fun ix h h' sta k => let ⟨⟨old, he⟩, hi, hne⟩ := sta; ⟨⟨old, k e (by simp) _ he⟩, hi.at fun o qq => k it (by simp) o qq, hne⟩
  item := by
    intro X hP hw hK cc ix pps sh σ H EE I fo sta yg
    subst hP hw hK
    obtain ⟨⟨old, he⟩, hit, hn3⟩ := sta
    obtain ⟨hne, hea, hat⟩ := hn3
    obtain ⟨xs, x, lq, gx⟩ := yg
    obtain ⟨jts, sv, pl1, gz⟩ := I.tuple lq
    obtain ⟨u, hu, ru⟩ := sv.get gx
    have lel : e < sh.heap.objs.size := Heap.lt_size he
    have lil : it < sh.heap.objs.size := by obtain ⟨_, qq, _⟩ := hit; exact Heap.lt_size qq
    have hlt : ix < jts.toArray.size := by
      have := (List.getElem?_eq_some_iff.mp hu).1
      simpa using this
    refine wpAny_pyNext_enum_itemD (Draws.tuple (show X.A.in1.handled = none from I.ok.hd cc) it a hat jts.toArray) he ⟨hit, pl1⟩ hlt hne (by simp [hne, hea]) fun u' h' tk hPu ho hst' hT hsz hk => ?_
    have eu : u' = u := by
      have q2 : jts.toArray[ix]? = some u := by simpa using hu
      rw [q2] at hPu
      exact (Option.some.inj hPu).symm
    subst eu
    have hit' := hst'.1
    refine ⟨_, rfl, wpAny_letOwnedTupleGo_enum (s := { sh with heap := h', toks := tk + 1 }) ho fun h'' he' sb => ?_⟩
    have tT2 : h''.get? sh.heap.objs.size = some { cls := .type "tuple", data := .seq #[.int ix tk, u'] } := (sb.2 _ (Nat.ne_of_gt lel)).trans hT
    have neu : ObjOk X.prog X.w (upd H sh.heap.objs.size (.frz { cls := .type "tuple", data := .seq #[.int ix tk, u'] } (.tup [.int (ix : Nat), x]))) h'' sh.heap.objs.size (.frz { cls := .type "tuple", data := .seq #[.int ix tk, u'] } (.tup [.int (ix : Nat), x])) :=
      ⟨tT2, by show 2 ≤ sizeLine; decide, [.int ix tk, u'], .cons ⟨_, rfl⟩ (.cons ru .nil), ⟨_, tT2, rfl, _, rfl⟩⟩
    have I1 : Inv X pps σ (upd H sh.heap.objs.size (.frz { cls := .type "tuple", data := .seq #[.int ix tk, u'] } (.tup [.int (ix : Nat), x]))) { sh with heap := h'', toks := tk + 1 } :=
      I.turnedNew (ch := [e, it]) (fun b ob nb qq => (sb.2 b (fun z => nb (by simp [z]))).trans (hk b ob (fun z => nb (by simp [z])) (fun z => nb (by simp [z])) qq)) fo (Nat.le_refl _) neu
    refine ⟨.ref sh.heap.objs.size, _, I1, rfl, ⟨_, x, _, rfl, I.hok.fresh (Nat.le_refl _), rfl, rfl, fun ys hy => by rw [I.tuple_inj hy lq]; exact gx⟩, ⟨⟨u', ?_⟩, hit'.at fun o qq => (sb.2 it (Ne.symm hne)).trans qq, ⟨hne, hea, hat⟩⟩, fun b nb => ?_⟩
    · have e1 : ((ix + 1 : Nat) : Int) = (ix : Int) + 1 := by omega
      rw [e1]; exact he'
    · have hb' : b < sh.heap.objs.size := by
        have ee : b = e ∨ b = it := by simpa using nb
        rcases ee with z | z
        · rw [z]; exact lel
        · rw [z]; exact lil
      rw [upd_ne (Nat.ne_of_lt hb')]
      exact (fo b nb).1
  done := by
    intro X hP hw hK cc ix pps sh σ H EE I fo sta yg
    subst hP hw hK
    obtain ⟨⟨old, he⟩, hit, hne, hea, hat⟩ := sta
    obtain ⟨xs, lq, gx⟩ := yg
    obtain ⟨jts, sv, pl1, gz⟩ := I.tuple lq
    obtain ⟨f0, f1, f2, f3, f4, f5⟩ := fo it (by simp)
    have hl := sv.length
    exact enum_endT (I.ok.hd cc) he hit pl1 (by simp; omega) fun h' eb => ⟨rfl, I.turned (t' := sh.toks) (fun b o nb qq => eb b o nb qq) f0 f1 f3 f4 f5⟩
  self := fun A ix sh Q EE sta h => let ⟨⟨_, he⟩, _⟩ := sta; wpAny_pyIter_enum he h

def iEnumA (K : PySem.W.Frag) (ta : TA) : TI := fun σ H R => ta σ H fun vs H1 => ∃ a xs, vs = [.ref a] ∧ ((SqL K H1 a xs ∧ R (IteZ K a) H1) ∨ (SqT K H1 a xs ∧ R (IteT K a) H1))
theorem pi_enumA {X : Cx} {e : Expr} {ta : TA} {pl1 pos tpos : Pos} {elts : List Expr} {kk : Nat} (yg : Gl X "enumerate") (mz : X.mg "enumerate" = none) (pa1 : PA X [e] ta) (ns1 : starEach [e] X.env = [(false, eval e X.env)] := by rfl) :
    PI X (.Tuple elts kk tpos) (.Call (.Name "enumerate" pl1) [e] [] pos) (iEnumA X.K ta) := by
  refine ⟨fun pps sh σ H R I h => ?_⟩
  refine Call_ (ld_blt I yg mz boot_enumerate (PyProof.Rows.callWith_type1 (thn (pa1.run pos pps sh σ H _ I h) fun uu s1 ⟨vs, H1, J, r1, q1⟩ => ?_) ns1 rfl))
  obtain ⟨a, xs, ex, lqq⟩ := q1
  subst ex
  have far : ∀ b, b ∈ [s1.heap.objs.size + 1, s1.heap.objs.size] → FpOk X pps H1 b := fun b nb => by
    have ee : b = s1.heap.objs.size + 1 ∨ b = s1.heap.objs.size := by simpa using nb
    have lec : s1.heap.objs.size ≤ b := by rcases ee with z | z <;> rw [z] <;> omega
    exact J.fpOk lec (J.hok.fresh lec)
  cases r1 with
  | cons rr0 rr1 =>
    cases rr1
    cases rr0
    rcases lqq with ⟨lq, qq⟩ | ⟨lq, qq⟩
    · obtain ⟨jts, sv, pl, gz⟩ := J.list lq
      refine call_enumerate_list pl.isList fun h' he hit gsz gk => wpAny_pyIter_enum he ?_
      have J2 : Inv X pps σ H1 { s1 with heap := h' } := J.kept (t' := s1.toks) gk
      exact ⟨s1.heap.objs.size + 1, [s1.heap.objs.size + 1, s1.heap.objs.size], _, _, H1, rfl, J2, turn_enumZ a (s1.heap.objs.size + 1) s1.heap.objs.size, ⟨⟨.none, he⟩, hit, Nat.succ_ne_self _⟩, far, qq⟩
    · obtain ⟨jts, sv, pl, gz⟩ := J.tuple lq
      obtain ⟨oa, hoa, _⟩ := id pl
      have la := Heap.lt_size hoa
      refine call_enum_tup (show s1.heap.IsTuple a jts.toArray from pl) fun h' he hit gsz gk => wpAny_pyIter_enum he ?_
      have J2 : Inv X pps σ H1 { s1 with heap := h' } := J.kept (t' := s1.toks) gk
      exact ⟨s1.heap.objs.size + 1, [s1.heap.objs.size + 1, s1.heap.objs.size], _, _, H1, rfl, J2, turn_enumT a (s1.heap.objs.size + 1) s1.heap.objs.size, ⟨⟨.none, he⟩, hit, Nat.succ_ne_self _, Nat.ne_of_gt (Nat.lt_succ_of_lt la), Nat.ne_of_lt la⟩, far, qq⟩
end DLT
namespace DL
open PySem PySem.Spec PyProof.Rows L2
section
variable {X : Cx} {C : Cc} {K : PySem.W.Frag}
def bEnum : List PyData → Option (List PyData)
  | [.list xs] => some (enumD 0 xs)
  | [.tuple xs] => some (enumD 0 xs)
  | _ => none
theorem wk_enumT {a : Addr} {xs : List V} {ds : List PyData} (hz : ds.length ≤ 16777216) (h : xs.length = ds.length) : Wk K (DLT.IteT K a) (enumD 0 ds) fun H ow => FT K H ow a xs ∧ DVs K H ow xs ds where
  st := fun H ow H' ow' ⟨a, c⟩ st => ⟨a.stay st, c.stay st⟩
  goes := fun i H ow hi ⟨a, c⟩ => by
    rw [enumD_length] at hi
    exact ⟨xs, xs[i]'(by omega), a.sq, by simp [h, hi]⟩
  stops := fun H ow ⟨a, c⟩ => ⟨xs, a.sq, by rw [enumD_length]; omega⟩
  yields := fun i H ow x H' hi ⟨a, c⟩ ⟨T, u, zo, e1, e2, e3, hd, e4⟩ => by
    rw [enumD_length] at hi
    subst e1; subst e3
    obtain ⟨v, h1, h2⟩ := c.get (i := i) (d := ds[i]) (by simp)
    have := e4 xs a.sq
    rw [h1] at this
    cases this
    refine ⟨off ow T, .tuple [.int i, ds[i]], ?_, Gr.new e2, .tup (.new hd) (.cons (.int _) (.cons (h2.stay (Gr.new e2).stay) .nil)) (by simp)⟩
    rw [enumD_get]
    simp [hi]
  len := by rw [enumD_length]; exact hz
theorem di_enum {a : Expr} {elts : List Expr} {kk : Nat} {tpos : Pos} {t : Env → Rs (List PyData)} {p pos : Pos} (hg : Gl X "enumerate") (hm : X.mg "enumerate" = none) (ha : DA X C [a] t) (hs : starEach [a] X.env = [(false, eval a X.env)] := by rfl) :
    DI X C (.Tuple elts kk tpos) (.Call (.Name "enumerate" p) [a] [] pos) (itB bEnum t) :=
  PIweak (DLT.pi_enumA hg hm ha hs) fun σ H Q h => rd_one (R1 := RA X.K) h fun v x H ow env hv P h => by
    obtain ⟨o, e, h⟩ := rdAt_lift (v := Itr 0 0) h
    unfold bEnum at e
    split at e
    · obtain ⟨w, rfl, d⟩ := hv.one
      cases d with
      | @lst a xs ds h1 h2 h3 hz =>
        cases e
        exact ⟨a, xs, rfl, .inl ⟨.of h1, h _ H ow Ext.refl ⟨_, wk_enumL hz h3.length, h1, h2, h3⟩ P⟩⟩
    · obtain ⟨w, rfl, d⟩ := hv.one
      cases d with
      | @tup a xs ds h1 h3 hz =>
        cases e
        exact ⟨a, xs, rfl, .inr ⟨h1.sq, h _ H ow Ext.refl ⟨_, wk_enumT hz h3.length, h1, h3⟩ P⟩⟩
    · cases e
end
end DL


namespace DL
open PySem PySem.Spec PyProof.Rows L2
/-! ### calls that are lent owned lists, and answer something plain -/
inductive AL where
  | d (x : PyData)
  | l (j : Nat)
inductive RLi (K : PySem.W.Frag) (σ : L2.St) (H : Hp) (ow : Ow) : List V → List AL → Prop
  | nil : RLi K σ H ow [] []
  | d {v : V} {x : PyData} {vs : List V} {r : List AL} : DV K H ow v x → RLi K σ H ow vs r → RLi K σ H ow (v :: vs) (.d x :: r)
  | l {v : V} {j : Nat} {vs : List V} {r : List AL} : σ[j]? = some (some v) → RLi K σ H ow vs r → RLi K σ H ow (v :: vs) (.l j :: r)
abbrev RL (K : PySem.W.Frag) (σ : L2.St) : Hp → Ow → List V → List AL → Prop := fun H ow vs r => RLi K σ H ow vs r
def alNil : Env → Rs (List AL) := fun env => .ok [] env
def alD (t : Env → Rs PyData) (u : Env → Rs (List AL)) : Env → Rs (List AL) := fun env => (t env).bind fun x e1 => (u e1).bind fun r e2 => .ok (.d x :: r) e2
def alL (j : Nat) (u : Env → Rs (List AL)) : Env → Rs (List AL) := fun env => match env[j]? with
  | some (some _) => (u env).bind fun r e2 => .ok (.l j :: r) e2
  | _ => .no
def DAl (X : Cx) (C : Cc) (es : List Expr) (t : Env → Rs (List AL)) : Prop := PA X es fun σ H Q => rd X.K C (RL X.K σ) t σ H Q
section
variable {X : Cx} {C : Cc} {e : Expr} {es : List Expr} {t : Env → Rs PyData} {u : Env → Rs (List AL)}
theorem dal_nil : DAl X C [] alNil := PAweak pa_nil fun σ H Q ⟨env, ow, P, h⟩ => h [] H ow Ext.refl .nil P
theorem dal_d (h : DE X C e t) (k : DAl X C es u) (hs : starEach (e :: es) X.env = (false, eval e X.env) :: starEach es X.env := by rfl) : DAl X C (e :: es) (alD t u) :=
  PAweak (pa_cons h k hs) fun σ H Q h => rd_two (R1 := RE X.K) (R2 := RL X.K σ) h (fun H H' ow ow' v d st x => DV.stay st x) fun v w x y H ow env hv hw P h => h _ H ow Ext.refl (.d hv hw) P
theorem dal_l {j : Nat} (h : PE X e (tVar j)) (k : DAl X C es u) (hs : starEach (e :: es) X.env = (false, eval e X.env) :: starEach es X.env := by rfl) : DAl X C (e :: es) (alL j u) :=
  PAweak (pa_cons h k hs) fun σ H Q ⟨env, ow, P, h⟩ => by
    unfold alL at h
    cases he : env[j]? with
    | none => rw [he] at h; exact h.elim
    | some om =>
     rw [he] at h
     cases om with
     | none => exact h.elim
     | some m =>
      obtain ⟨v, fp, h1, _⟩ := P.sl j m he
      exact ⟨_, h1, env, ow, P, rdAt_mono (rdAt_bind (R1 := RL X.K σ) h) fun w H1 ⟨y, e1, ow1, X1, V1, P1, h2⟩ => h2 _ H1 ow1 Ext.refl (.l h1 V1) P1⟩
end
def alM (env : Env) : AL → Option M
  | .d x => some (.d x)
  | .l j => (env[j]?.join.bind frzM).map .d
def alMs (env : Env) : List AL → Option (List M)
  | [] => some []
  | a :: r => (alM env a).bind fun m => (alMs env r).map (m :: ·)
def jlOf : List AL → List Nat
  | [] => []
  | .d _ :: r => jlOf r
  | .l j :: r => j :: jlOf r
/-- what holds no list -/
def scalar : PyData → Bool
  | .tuple xs => xs.all scal0
  | x => scal0 x
def callL (ar : Nat) (F : Fn) (als : List AL) (env : Env) : Rs PyData := match alMs env als with
  | none => .no
  | some ms => if als.length = ar then match F ms with
    | .rt (.d x) _ => if scalar x = true then .ok x env else .no
    | _ => .no
    else .no
def eCallL (ar : Nat) (F : Fn) (t : Env → Rs (List AL)) : Env → Rs PyData := fun env => (t env).bind fun als e => callL ar F als e
theorem alMs_length {env : Env} : ∀ {als : List AL} {ms : List M}, alMs env als = some ms → ms.length = als.length
  | [], _, h => by cases h; rfl
  | a :: r, ms, h => by
    simp only [alMs] at h
    cases ha : alM env a with
    | none => rw [ha] at h; cases h
    | some m0 =>
      rw [ha] at h
      cases hr : alMs env r with
      | none => rw [hr] at h; cases h
      | some ms0 => rw [hr] at h; cases h; simp [alMs_length hr]
section
variable {K : PySem.W.Frag} {C : Cc}
theorem RLi.length {σ : L2.St} {H : Hp} {ow : Ow} : ∀ {vs : List V} {r : List AL}, RLi K σ H ow vs r → vs.length = r.length
  | _, _, .nil => rfl
  | _, _, .d _ t => by simp [t.length]
  | _, _, .l _ t => by simp [t.length]
open Classical in
noncomputable def owL (H : Hp) (ow : Ow) (js : List Nat) (n : Nat) : Ow := fun a => match ow a with
  | some j => if j ∈ js ∧ ∃ xs, H a = some (.lst xs) then none else some (n + 1)
  | none => none
def owB (H : Hp) (ow ow' : Ow) (N : Nat) : Ow := fun a => match H a with
  | some _ => ow a
  | none => match ow' a with
    | some _ => some N
    | none => none
theorem lend_in {σ : L2.St} {H : Hp} {ow : Ow} {env : Env} {n : Nat} {js : List Nat} (P : RpE K C H ow σ env) : ∀ {als : List AL} {ms : List M} {vs : List V}, RLi K σ H ow vs als → alMs env als = some ms → (∀ j ∈ jlOf als, j ∈ js) →
    ∀ (i : Nat) (m : M), ms[i]? = some m → ∃ v, vs[i]? = some v ∧ ∃ x, m = .d x ∧ DV K H (owL H ow js n) v x
  | _, _, _, .nil, hm, _, i, m, e => by cases hm; simp at e
  | .d x :: r, ms, _, .d (v := v) hd t, hm, hj, i, m, e => by
    have st : Stay H ow H (owL H ow js n) := fun a o h h' => ⟨h, by unfold owL; rw [h']⟩
    simp only [alMs, alM, Option.bind_some] at hm
    cases hr : alMs env r with
    | none => rw [hr] at hm; cases hm
    | some ms0 =>
      rw [hr] at hm
      cases hm
      cases i with
      | zero => simp at e; subst e; exact ⟨v, rfl, x, rfl, hd.stay st⟩
      | succ i => exact lend_in P t hr hj i m (by simpa using e)
  | .l j :: r, ms, _, .l (v := v) hs t, hm, hj, i, m, e => by
    have st : Stay H ow H (owL H ow js n) := fun a o h h' => ⟨h, by unfold owL; rw [h']⟩
    simp only [alMs, alM] at hm
    cases hl : env[j]? with
    | none => rw [hl] at hm; simp at hm
    | some om =>
      cases om with
      | none => rw [hl] at hm; simp at hm
      | some m0 =>
        rw [hl] at hm
        simp only [Option.join_some, Option.bind_some] at hm
        cases hf : frzM m0 with
        | none => rw [hf] at hm; cases hm
        | some y =>
          rw [hf] at hm
          simp only [Option.map_some, Option.bind_some] at hm
          cases hr : alMs env r with
          | none => rw [hr] at hm; cases hm
          | some ms0 =>
            rw [hr] at hm
            cases hm
            cases i with
            | zero =>
              simp at e
              subst e
              obtain ⟨w, fp, h1, h2, h3, h4⟩ := P.sl j m0 hl
              rw [hs] at h1
              cases h1
              cases h2 with
              | d hd =>
                cases hf
                exact ⟨_, rfl, _, rfl, hd.stay st⟩
              | @l a ws ds q1 q2 q3 =>
                cases hf
                refine ⟨_, rfl, .list ds, rfl, .lst q1 ?_ (q2.stay st) q3⟩
                have := h4 a (by simp)
                unfold owL
                rw [this]
                exact if_pos ⟨hj j List.mem_cons_self, ws, q1⟩
              | scr _ _ => cases hf
              | m _ _ _ => cases hf
              | fm _ _ _ _ => cases hf
              | o _ _ => cases hf
              | fo _ _ _ => cases hf
              | ll _ _ _ => cases hf
              | fk _ _ _ _ _ _ => cases hf
            | succ i => exact lend_in P t hr (fun k hk => hj k (List.mem_cons_of_mem _ hk)) i m (by simpa using e)
theorem dvs_scal0 {H : Hp} {ow ow' : Ow} : ∀ {vs : List V} {xs : List PyData}, DVs K H ow vs xs → xs.all scal0 = true → DVs K H ow' vs xs
  | _, _, .nil, _ => .nil
  | _, _, .cons h t, s => by
    rw [List.all_cons, Bool.and_eq_true] at s
    exact .cons (h.scal s.1) (dvs_scal0 t s.2)
theorem dv_scalar {H : Hp} {ow ow' : Ow} {v : V} {x : PyData} (h : DV K H ow v x) (s : scalar x = true) (hf : ∀ a zo xs, H a = some (.frz zo (.tup xs)) → ow a = none → ow' a = none) : DV K H ow' v x := by
  cases h with
  | non => exact .non
  | bl b => exact .bl b
  | int i => exact .int i
  | str x => exact .str x
  | tup h1 h3 hz =>
    refine .tup ?_ (dvs_scal0 h3 s) hz
    rcases h1 with ⟨zo, e, d, o⟩ | h1
    · exact .inl ⟨zo, e, d, hf _ _ _ e o⟩
    · exact .inr h1
  | _ => cases s
theorem rd_callL {cl : Str → Option Addr} {n ar : Nat} {F : Fn} {t : Env → Rs (List AL)} {σ : L2.St} {H : Hp} {Q : VK} (h : rd K C (RE K) (eCallL ar F t) σ H Q) :
    tCall (spD K cl n ar F) [] E0 (fun σ H Q => rd K C (RL K σ) t σ H Q) σ H Q := by
  refine rd_one (R1 := RL K σ) h fun vs als H ow env hv P h => ?_
  unfold callL at h
  cases hm : alMs env als with
  | none => rw [hm] at h; exact h.elim
  | some ms =>
    rw [hm] at h
    by_cases hc : als.length = ar
    · have h : rdAt K C (RE K) σ H ow Q (if als.length = ar then match F ms with
        | .rt (.d x) _ => if scalar x = true then .ok x env else .no
        | _ => .no
        else .no) := h
      rw [if_pos hc] at h
      rw [List.append_nil]
      refine ⟨hv.length.trans hc, ms, owL H ow (jlOf als) n, (alMs_length hm).trans hc, fun i m e => ?_, ?_⟩
      · obtain ⟨v, h1, x, rfl, h2⟩ := lend_in (n := n) P hv hm (fun j hj => hj) i m e
        exact ⟨v, [], h1, .d h2, List.nodup_nil, fun p hp => by cases hp⟩
      · cases hF : F ms with
        | no => rw [hF] at h; exact h.elim
        | ex x os => rw [hF] at h; exact h.elim
        | rt m os =>
          rw [hF] at h
          cases m with
          | d x =>
            have h : rdAt K C (RE K) σ H ow Q (if scalar x = true then .ok x env else .no) := h
            by_cases hx : scalar x = true
            · rw [if_pos hx] at h
              intro v H' ow' X0 ⟨fp, r1, r2, r3⟩ ro
              have ext : ∀ a o, H a = some o → H' a = some o ∧ ow' a = owL H ow (jlOf als) n a := fun a o ho => X0 a o ho fun i z => by
                unfold owL at z
                cases hj : ow a with
                | none => rw [hj] at z; cases z
                | some j =>
                  rw [hj] at z
                  dsimp only at z
                  split at z
                  · cases z
                  · cases z; omega
              have far : ∀ a o, H a = some o → H' a = some o ∧ owB H ow ow' C.N a = ow a := fun a o ho => by
                refine ⟨(ext a o ho).1, ?_⟩
                unfold owB
                rw [ho]
              have XX : Ext C.N H ow H' (owB H ow ow' C.N) := fun a o ho _ => far a o ho
              refine h v H' _ XX ?_ ⟨fun j m e => ?_, P.io, P.len, P.lenS⟩
              · cases r1 with
                | d r1 =>
                  refine dv_scalar r1 hx fun a zo xs e o => ?_
                  unfold owB
                  cases ha : H a with
                  | none =>
                    dsimp only
                    rw [o]
                  | some u =>
                    dsimp only
                    obtain ⟨e1, e2⟩ := ext a u ha
                    rw [e1] at e
                    cases e
                    rw [o] at e2
                    unfold owL at e2
                    cases hj : ow a with
                    | none => rfl
                    | some j =>
                      rw [hj] at e2
                      dsimp only at e2
                      split at e2
                      · rename_i c
                        obtain ⟨_, ys, c⟩ := c
                        rw [ha] at c
                        cases c
                      · cases e2
              · obtain ⟨w, fp, c1, c2, c3, c4⟩ := P.sl j m e
                have hk : ∀ p ∈ fp, H' p = H p ∧ owB H ow ow' C.N p = ow p := fun p hp => by
                  obtain ⟨o, ho⟩ := c2.there p hp
                  obtain ⟨q, r⟩ := far p o ho
                  exact ⟨q.trans ho.symm, r⟩
                exact ⟨w, fp, c1, c2.stay XX.stay fun p hp => (hk p hp).1, c3, fun p hp => (hk p hp).2.trans (c4 p hp)⟩
            · rw [if_neg hx] at h; exact h.elim
          | l xs => exact h.elim
          | scr xs => exact h.elim
          | m ks => exact h.elim
          | fm ks => exact h.elim
          | o _ _ => exact h.elim
          | fo _ _ => exact h.elim
          | ll _ => exact h.elim
          | fk _ => exact h.elim
    · have h : rdAt K C (RE K) σ H ow Q (if als.length = ar then match F ms with
        | .rt (.d x) _ => if scalar x = true then .ok x env else .no
        | _ => .no
        else .no) := h
      rw [if_neg hc] at h
      exact h.elim
variable {X : Cx}
theorem de_callL {k n ar : Nat} {f : Addr} {fd : FuncData} {ps : List Str} {cl : Str → Option Addr} {F : Fn} {x : Str} {p pos : Pos} {e : Expr} {es : List Expr} {t : Env → Rs (List AL)} (Fo : FnOk X.prog X.w X.K X.mg X.base CX0 k f fd ps (spD X.K cl n ar F)) (hr : Room k X.A) (hg : Gl X x) (hm : X.mg x = some (.ref f)) (hk : PySem.W.keepIn X.K (.ref f) = true) (hb : Binds X.K fd ps [])
    (ha : DAl X C (e :: es) t) (hdb : (x == ("__debug__" : Str)) = false := by decide) (he : starEach (e :: es) X.env = (false, eval e X.env) :: starEach es X.env := by rfl) (hpl : (backTo pos (starEach es X.env)).any (·.1) = false := by rfl) :
    DE X C (.Call (.Name x p) (e :: es) [] pos) (eCallL ar F t) :=
  PEweak (pe_call Fo hr hg hm hk hb .nil pass0 ha hdb he hpl) fun σ H Q h => rd_callL h
end
end DL


/-! zip of three rows for a name: whether the tuple that was given out before still lives is left open -/
namespace ZN
open PySem PySem.Spec PyProof.Rows L2
abbrev ZA (hh : Heap) (zz ti tt : Addr) (mk : Value) (fl : Bool) : Prop :=
  hh.get? zz = some { cls := .type "zip", dict := none, data := .fields #[mk, .bool fl, .bool false, .ref ti, .ref tt], slots := #[] }
def Mk (mk : Value) : Prop := mk = .none ∨ ∃ T : Addr, mk = rawInt T
section
variable {pr : Program} {ww : World} {AA : Around} {EE : Value → Shared → Prop} {sh : Shared} {zz ti tt j1 j2 j3 : Addr} {q1 q2 q3 : List Addr} {m1 m2 m3 k : Nat} {R1 R2' R3 : Nat → Value → Prop} {U1 U2 U3 : Nat → Heap → Prop} {b1 b2 b3 : Value} {mk : Value} {fl : Bool}
theorem alive_none {a : Addr} {Q : Option Obj → Shared → Prop} (ho : sh.heap.get? a = none) (h : Q none sh) : wpAny (model pr ww) AA (loadIfAlive a) Q EE sh := by
  have h' : Q (sh.heap.get? a) sh := by rw [ho]; exact h
  exact fun _ _ _ => h'
theorem alive_some {a : Addr} {o : Obj} {Q : Option Obj → Shared → Prop} (ho : sh.heap.get? a = some o) (h : Q (some o) sh) : wpAny (model pr ww) AA (loadIfAlive a) Q EE sh := by
  have h' : Q (sh.heap.get? a) sh := by rw [ho]; exact h
  exact fun _ _ _ => h'
theorem isFree {Q : Bool → Shared → Prop} (hz : ZA sh.heap zz ti tt mk fl) (hm : Mk mk) (y : Q true sh) (n : ∀ h', ZA h' zz ti tt mk true → Heap.SameBut zz sh.heap h' → Q false { sh with heap := h' }) :
    wpAny (model pr ww) AA (Builtin.SmallTypes.ownedTupleIsFree (.ref zz)) Q EE sh := by
  unfold Builtin.SmallTypes.ownedTupleIsFree
  rcases hm with rfl | ⟨T, rfl⟩
  · exact wpAny_bind (wpAny_field hz rfl (x := .none) rfl (wpAny_pure y))
  · refine wpAny_bind (wpAny_field hz rfl (x := rawInt T) rfl ?_)
    show wpAny _ _ (loadIfAlive ((T : Int).toNat) >>= _) _ _ _
    rw [Int.toNat_natCast]
    cases e : sh.heap.get? T with
    | none =>
      refine wpAny_bind (alive_none e ?_)
      exact wpAny_pure y
    | some oT =>
      refine wpAny_bind (alive_some e ?_)
      simp only [Option.isNone_some, Bool.false_eq_true, if_false]
      refine wpAny_bind (wpAny_field hz rfl (x := .bool fl) rfl ?_)
      cases fl with
      | true =>
        rw [if_neg (show ¬ ((Value.bool true != Value.bool true) = true) from Bool.false_ne_true)]
        exact wpAny_pure (n _ hz (Heap.SameBut.refl _ _))
      | false =>
        rw [if_pos (show (Value.bool false != Value.bool true) = true from rfl)]
        exact wpAny_bind (wpAny_setField_rec hz (by simp) fun h₁ u₁ v₁ => wpAny_pure (n h₁ u₁ v₁))
theorem next_item {Q : Value → Shared → Prop} (S : ZipSep3 zz ti tt j1 j2 j3 q1 q2 q3) (D1 : Draws pr ww AA j1 q1 m1 R1 U1) (D2 : Draws pr ww AA j2 q2 m2 R2' U2) (D3 : Draws pr ww AA j3 q3 m3 R3 U3)
    (hz : ZA sh.heap zz ti tt mk fl) (hm : Mk mk) (hi : IsTupOf3 sh.heap ti (.ref j1) (.ref j2) (.ref j3)) (ho : IsTupOf3 sh.heap tt b1 b2 b3) (u1 : U1 k sh.heap) (u2 : U2 k sh.heap) (u3 : U3 k sh.heap) (l1 : k < m1) (l2 : k < m2) (l3 : k < m3)
    (hQ : ∀ x1 x2 x3 h' tk mk' fl', R1 k x1 → R2' k x2 → R3 k x3 → ZA h' zz ti tt mk' fl' → Mk mk' → (∃ c1 c2 c3, IsTupOf3 h' tt c1 c2 c3) → U1 (k + 1) h' → U2 (k + 1) h' → U3 (k + 1) h' → IsTupOf3 h' sh.heap.objs.size x1 x2 x3 → h'.objs.size = sh.heap.objs.size + 1 →
      (∀ c o, c ≠ zz → c ≠ tt → c ≠ j1 → c ≠ j2 → c ≠ j3 → sh.heap.get? c = some o → h'.get? c = some o) → Q (.ref sh.heap.objs.size) { sh with heap := h', toks := tk }) :
    wpAny (model pr ww) AA (Builtin.«zip.__next__» ⟨[.ref zz], []⟩) (fun fin s' => ∃ v, fin = .done (.ret v) ∧ Q v s') EE sh := by
  obtain ⟨pa, ge, de, ta, og⟩ := sh
  show wpAny _ _ (field (.ref zz) 2 >>= _) _ _ _
  refine wpAny_bind (wpAny_field hz rfl (x := .bool false) rfl ?_)
  show wpAny _ _ (field (.ref zz) 3 >>= _) _ _ _
  refine wpAny_bind (wpAny_field hz rfl (x := .ref ti) rfl ?_)
  refine wpAny_bind (wpAny_seqItems hi rfl ?_)
  show wpAny _ _ (Builtin.SmallTypes.ownedTupleIsFree (.ref zz) >>= _) _ _ _
  refine wpAny_bind (isFree hz hm ?_ fun g0 z0 v0 => ?_)
  · simp only [if_true]
    refine wpAny_bind (wpAny_rule ?_)
    refine wpAny_bind (wpAny_field hz rfl (x := .ref tt) rfl ?_)
    refine wpAny_bind (wpAny_setField_rec hz (by simp) fun g0 z0 v0 => ?_)
    replace z0 : ZA g0 zz ti tt .ellipsis fl := z0
    replace v0 : Heap.SameBut zz pa g0 := v0
    refine wpAny_bind ?_
    simp only [List.zipIdx_cons, List.zipIdx_nil, List.forIn_cons, List.forIn_nil]
    refine wpAny_bind (wpAny_bind (wpAny_onRaise ?_))
    show wpAny _ _ (Builtin.SmallTypes.nextOf (.ref j1) >>= _) _ _ ⟨g0, ge, de, ta, og⟩
    refine wpAny_bind (D1.item k _ _ _ l1 (D1.over u1 v0 S.zf1) fun x1 p1 t1 y1 w1 r1 => wpAny_pure ?_)
    replace r1 : Heap.SameBut j1 g0 p1 := r1
    have n1 : IsTupOf3 p1 tt b1 b2 b3 := r1.extBut _ _ S.Ti1 (v0.extBut _ _ S.TOz ho)
    refine wpAny_bind (wpAny_seqItems (s := ⟨p1, ge, de, t1, og⟩) n1 rfl ?_)
    refine wpAny_bind (updateSeq_IsTupOf3 (s := ⟨p1, ge, de, t1, og⟩) n1 fun g1 o1 v1 => ?_)
    replace o1 : IsTupOf3 g1 tt x1 b2 b3 := o1
    replace v1 : Heap.SameBut tt p1 g1 := v1
    refine wpAny_bind (wpAny_letGo (wpAny_pure ?_))
    refine wpAny_bind (wpAny_bind (wpAny_onRaise ?_))
    show wpAny _ _ (Builtin.SmallTypes.nextOf (.ref j2) >>= _) _ _ ⟨g1, ge, de, t1, og⟩
    refine wpAny_bind (D2.item k _ _ _ l2 (D2.over (D2.over (D2.over u2 v0 S.zf2) r1 S.sep1_2) v1 S.Tf2) fun x2 p2 t2 y2 w2 r2 => wpAny_pure ?_)
    replace r2 : Heap.SameBut j2 g1 p2 := r2
    have n2 : IsTupOf3 p2 tt x1 b2 b3 := r2.extBut _ _ S.Ti2 o1
    refine wpAny_bind (wpAny_seqItems (s := ⟨p2, ge, de, t2, og⟩) n2 rfl ?_)
    refine wpAny_bind (updateSeq_IsTupOf3 (s := ⟨p2, ge, de, t2, og⟩) n2 fun g2 o2 v2 => ?_)
    replace o2 : IsTupOf3 g2 tt x1 x2 b3 := o2
    replace v2 : Heap.SameBut tt p2 g2 := v2
    refine wpAny_bind (wpAny_letGo (wpAny_pure ?_))
    refine wpAny_bind (wpAny_bind (wpAny_onRaise ?_))
    show wpAny _ _ (Builtin.SmallTypes.nextOf (.ref j3) >>= _) _ _ ⟨g2, ge, de, t2, og⟩
    refine wpAny_bind (D3.item k _ _ _ l3 (D3.over (D3.over (D3.over (D3.over (D3.over u3 v0 S.zf3) r1 S.sep1_3) v1 S.Tf3) r2 S.sep2_3) v2 S.Tf3) fun x3 p3 t3 y3 w3 r3 => wpAny_pure ?_)
    replace r3 : Heap.SameBut j3 g2 p3 := r3
    have n3 : IsTupOf3 p3 tt x1 x2 b3 := r3.extBut _ _ S.Ti3 o2
    refine wpAny_bind (wpAny_seqItems (s := ⟨p3, ge, de, t3, og⟩) n3 rfl ?_)
    refine wpAny_bind (updateSeq_IsTupOf3 (s := ⟨p3, ge, de, t3, og⟩) n3 fun g3 o3 v3 => ?_)
    replace o3 : IsTupOf3 g3 tt x1 x2 x3 := o3
    replace v3 : Heap.SameBut tt p3 g3 := v3
    refine wpAny_bind (wpAny_letGo (wpAny_pure (wpAny_pure ?_)))
    refine wpAny_bind (wpAny_seqItems (s := ⟨g3, ge, de, t3, og⟩) o3 rfl ?_)
    refine wpAny_bind (wpAny_newTuple ?_)
    have sz : g3.objs.size = pa.objs.size := by rw [v3.1, r3.1, v2.1, r2.1, v1.1, r1.1, v0.1]
    have z3 : ZA g3 zz ti tt .ellipsis fl := v3.extBut _ _ S.TOz.symm <| r3.extBut _ _ S.zi3 <| v2.extBut _ _ S.TOz.symm <| r2.extBut _ _ S.zi2 <| v1.extBut _ _ S.TOz.symm <| r1.extBut _ _ S.zi1 z0
    have kk : ∀ c o, c ≠ zz → c ≠ tt → c ≠ j1 → c ≠ j2 → c ≠ j3 → pa.get? c = some o → g3.get? c = some o := fun c o cz cT c1 c2 c3 e =>
      v3.extBut _ _ cT <| r3.extBut _ _ c3 <| v2.extBut _ _ cT <| r2.extBut _ _ c2 <| v1.extBut _ _ cT <| r1.extBut _ _ c1 <| v0.extBut _ _ cz e
    have a1 : U1 (k + 1) g3 := D1.over (D1.over (D1.over (D1.over (D1.over w1 v1 S.Tf1) r2 S.sep2_1) v2 S.Tf1) r3 S.sep3_1) v3 S.Tf1
    have a2 : U2 (k + 1) g3 := D2.over (D2.over (D2.over w2 v2 S.Tf2) r3 S.sep3_2) v3 S.Tf2
    have a3 : U3 (k + 1) g3 := D3.over w3 v3 S.Tf3
    have zl : zz < g3.objs.size := Heap.lt_size z3
    show wpAny _ _ (Builtin.SmallTypes.ownedTupleHandOut (.ref zz) (.ref g3.objs.size) >>= _) _ _ ⟨g3.push { cls := .type "tuple", data := .seq #[x1, x2, x3] }, ge, de, t3, og⟩
    refine wpAny_bind ?_
    unfold Builtin.SmallTypes.ownedTupleHandOut
    have z4 : ZA (g3.push { cls := .type "tuple", data := .seq #[x1, x2, x3] }) zz ti tt .ellipsis fl := Heap.get?_push_of_some _ z3
    refine wpAny_bind (wpAny_setField_rec z4 (by simp) fun g5 z5 v5 => ?_)
    replace z5 : ZA g5 zz ti tt (rawInt g3.objs.size) fl := z5
    refine wpAny_setField_rec z5 (by simp) fun g6 z6 v6 => ?_
    replace z6 : ZA g6 zz ti tt (rawInt g3.objs.size) false := z6
    replace v5 : Heap.SameBut zz (g3.push { cls := .type "tuple", data := .seq #[x1, x2, x3] }) g5 := v5
    replace v6 : Heap.SameBut zz g5 g6 := v6
    have up : ∀ c o, c ≠ zz → g3.get? c = some o → g6.get? c = some o := fun c o c1 e => v6.extBut _ _ c1 (v5.extBut _ _ c1 (Heap.get?_push_of_some _ e))
    have nt : IsTupOf3 g6 g3.objs.size x1 x2 x3 := v6.extBut _ _ (Nat.ne_of_gt zl) (v5.extBut _ _ (Nat.ne_of_gt zl) (Heap.get?_push_size _ rfl))
    have s6 : g6.objs.size = g3.objs.size + 1 := by rw [v6.1, v5.1, Heap.size_push]
    rw [sz] at z6 nt s6
    refine wpAny_pure ⟨_, rfl, ?_⟩
    show Q (.ref g3.objs.size) ⟨g6, ge, de, t3, og⟩
    rw [sz]
    exact hQ x1 x2 x3 g6 t3 _ _ y1 y2 y3 z6 (.inr ⟨_, rfl⟩) ⟨_, _, _, up _ _ S.TOz o3⟩ (D1.frame _ _ _ a1 fun b hb o e => up b o (fun q => S.zf1 (q ▸ hb)) e) (D2.frame _ _ _ a2 fun b hb o e => up b o (fun q => S.zf2 (q ▸ hb)) e) (D3.frame _ _ _ a3 fun b hb o e => up b o (fun q => S.zf3 (q ▸ hb)) e) nt s6
      fun c o cz cT c1 c2 c3 e => up c o cz (kk c o cz cT c1 c2 c3 e)
  · simp only [Bool.false_eq_true, if_false]
    replace v0 : Heap.SameBut zz pa g0 := v0
    refine wpAny_bind ?_
    rw [← Array.forIn_toList]
    simp only [List.forIn_cons, List.forIn_nil]
    refine wpAny_bind (wpAny_bind (wpAny_holding ?_))
    show wpAny _ _ (Builtin.SmallTypes.nextOf (.ref j1) >>= _) _ _ ⟨g0, ge, de, ta, og⟩
    refine wpAny_bind (D1.item k _ _ _ l1 (D1.over u1 v0 S.zf1) fun x1 p1 t1 y1 w1 r1 => wpAny_pure ?_)
    replace r1 : Heap.SameBut j1 g0 p1 := r1
    refine wpAny_pure ?_
    refine wpAny_bind (wpAny_bind (wpAny_holding ?_))
    show wpAny _ _ (Builtin.SmallTypes.nextOf (.ref j2) >>= _) _ _ ⟨p1, ge, de, t1, og⟩
    refine wpAny_bind (D2.item k _ _ _ l2 (D2.over (D2.over u2 v0 S.zf2) r1 S.sep1_2) fun x2 p2 t2 y2 w2 r2 => wpAny_pure ?_)
    replace r2 : Heap.SameBut j2 p1 p2 := r2
    refine wpAny_pure ?_
    refine wpAny_bind (wpAny_bind (wpAny_holding ?_))
    show wpAny _ _ (Builtin.SmallTypes.nextOf (.ref j3) >>= _) _ _ ⟨p2, ge, de, t2, og⟩
    refine wpAny_bind (D3.item k _ _ _ l3 (D3.over (D3.over (D3.over u3 v0 S.zf3) r1 S.sep1_3) r2 S.sep2_3) fun x3 p3 t3 y3 w3 r3 => wpAny_pure ?_)
    replace r3 : Heap.SameBut j3 p2 p3 := r3
    refine wpAny_pure (wpAny_pure ?_)
    show wpAny _ _ (newTuple [x1, x2, x3] >>= _) _ _ _
    refine wpAny_bind (wpAny_newTuple ?_)
    have sz : p3.objs.size = pa.objs.size := by rw [r3.1, r2.1, r1.1, v0.1]
    have z3 : ZA p3 zz ti tt mk true := r3.extBut _ _ S.zi3 <| r2.extBut _ _ S.zi2 <| r1.extBut _ _ S.zi1 z0
    have kk : ∀ c o, c ≠ zz → c ≠ j1 → c ≠ j2 → c ≠ j3 → pa.get? c = some o → p3.get? c = some o := fun c o cz c1 c2 c3 e =>
      r3.extBut _ _ c3 <| r2.extBut _ _ c2 <| r1.extBut _ _ c1 <| v0.extBut _ _ cz e
    have a1 : U1 (k + 1) p3 := D1.over (D1.over w1 r2 S.sep2_1) r3 S.sep3_1
    have a2 : U2 (k + 1) p3 := D2.over w2 r3 S.sep3_2
    have up : ∀ c o, p3.get? c = some o → (p3.push { cls := .type "tuple", data := .seq #[x1, x2, x3] }).get? c = some o := fun c o e => Heap.get?_push_of_some _ e
    refine wpAny_pure ⟨_, rfl, ?_⟩
    show Q (.ref p3.objs.size) _
    have nt : IsTupOf3 (p3.push { cls := .type "tuple", data := .seq #[x1, x2, x3] }) p3.objs.size x1 x2 x3 := Heap.get?_push_size _ rfl
    have s6 : (p3.push { cls := .type "tuple", data := .seq #[x1, x2, x3] }).objs.size = p3.objs.size + 1 := Heap.size_push ..
    rw [sz] at nt s6 ⊢
    exact hQ x1 x2 x3 _ t3 _ _ y1 y2 y3 (up _ _ z3) hm ⟨_, _, _, up _ _ (kk _ _ S.TOz S.Ti1 S.Ti2 S.Ti3 ho)⟩ (D1.frame _ _ _ a1 fun b _ o e => up b o e) (D2.frame _ _ _ a2 fun b _ o e => up b o e) (D3.frame _ _ _ w3 fun b _ o e => up b o e) nt s6
      fun c o cz cT c1 c2 c3 e => up c o (kk c o cz c1 c2 c3 e)
theorem next_end {Q : Fin → Shared → Prop} (S : ZipSep3 zz ti tt j1 j2 j3 q1 q2 q3) (D1 : Draws pr ww AA j1 q1 m1 R1 U1) (D2 : Draws pr ww AA j2 q2 m2 R2' U2) (D3 : Draws pr ww AA j3 q3 m3 R3 U3)
    (hz : ZA sh.heap zz ti tt mk fl) (hm : Mk mk) (hi : IsTupOf3 sh.heap ti (.ref j1) (.ref j2) (.ref j3)) (ho : IsTupOf3 sh.heap tt b1 b2 b3) (u1 : U1 k sh.heap) (u2 : U2 k sh.heap) (u3 : U3 k sh.heap) (l1 : k ≤ m1) (l2 : k ≤ m2) (l3 : k ≤ m3) (en : k = m1 ∨ k = m2 ∨ k = m3)
    (hE : ∀ h' tk e, (∀ c o, c ≠ zz → c ≠ tt → c ≠ j1 → c ≠ j2 → c ≠ j3 → sh.heap.get? c = some o → h'.get? c = some o) → (∃ o, h'.get? e = some o ∧ o.cls = .type "StopIteration") → EE (.ref e) { sh with heap := h', toks := tk }) :
    wpAny (model pr ww) AA (Builtin.«zip.__next__» ⟨[.ref zz], []⟩) Q EE sh := by
  obtain ⟨pa, ge, de, ta, og⟩ := sh
  show wpAny _ _ (field (.ref zz) 2 >>= _) _ _ _
  refine wpAny_bind (wpAny_field hz rfl (x := .bool false) rfl ?_)
  show wpAny _ _ (field (.ref zz) 3 >>= _) _ _ _
  refine wpAny_bind (wpAny_field hz rfl (x := .ref ti) rfl ?_)
  refine wpAny_bind (wpAny_seqItems hi rfl ?_)
  show wpAny _ _ (Builtin.SmallTypes.ownedTupleIsFree (.ref zz) >>= _) _ _ _
  refine wpAny_bind (isFree hz hm ?_ fun g0 z0 v0 => ?_)
  · simp only [if_true]
    refine wpAny_bind (wpAny_rule ?_)
    refine wpAny_bind (wpAny_field hz rfl (x := .ref tt) rfl ?_)
    refine wpAny_bind (wpAny_setField_rec hz (by simp) fun g0 z0 v0 => ?_)
    replace z0 : ZA g0 zz ti tt .ellipsis fl := z0
    replace v0 : Heap.SameBut zz pa g0 := v0
    refine wpAny_bind ?_
    simp only [List.zipIdx_cons, List.zipIdx_nil, List.forIn_cons, List.forIn_nil]
    refine wpAny_bind (wpAny_bind (wpAny_onRaise ?_))
    show wpAny _ _ (Builtin.SmallTypes.nextOf (.ref j1) >>= _) _ _ ⟨g0, ge, de, ta, og⟩
    by_cases c1 : k < m1
    · refine wpAny_bind (D1.item k _ _ _ c1 (D1.over u1 v0 S.zf1) fun x1 p1 t1 y1 w1 r1 => wpAny_pure ?_)
      replace r1 : Heap.SameBut j1 g0 p1 := r1
      have n1 : IsTupOf3 p1 tt b1 b2 b3 := r1.extBut _ _ S.Ti1 (v0.extBut _ _ S.TOz ho)
      refine wpAny_bind (wpAny_seqItems (s := ⟨p1, ge, de, t1, og⟩) n1 rfl ?_)
      refine wpAny_bind (updateSeq_IsTupOf3 (s := ⟨p1, ge, de, t1, og⟩) n1 fun g1 o1 v1 => ?_)
      replace o1 : IsTupOf3 g1 tt x1 b2 b3 := o1
      replace v1 : Heap.SameBut tt p1 g1 := v1
      refine wpAny_bind (wpAny_letGo (wpAny_pure ?_))
      refine wpAny_bind (wpAny_bind (wpAny_onRaise ?_))
      show wpAny _ _ (Builtin.SmallTypes.nextOf (.ref j2) >>= _) _ _ ⟨g1, ge, de, t1, og⟩
      by_cases c2 : k < m2
      · refine wpAny_bind (D2.item k _ _ _ c2 (D2.over (D2.over (D2.over u2 v0 S.zf2) r1 S.sep1_2) v1 S.Tf2) fun x2 p2 t2 y2 w2 r2 => wpAny_pure ?_)
        replace r2 : Heap.SameBut j2 g1 p2 := r2
        have n2 : IsTupOf3 p2 tt x1 b2 b3 := r2.extBut _ _ S.Ti2 o1
        refine wpAny_bind (wpAny_seqItems (s := ⟨p2, ge, de, t2, og⟩) n2 rfl ?_)
        refine wpAny_bind (updateSeq_IsTupOf3 (s := ⟨p2, ge, de, t2, og⟩) n2 fun g2 o2 v2 => ?_)
        replace o2 : IsTupOf3 g2 tt x1 x2 b3 := o2
        replace v2 : Heap.SameBut tt p2 g2 := v2
        refine wpAny_bind (wpAny_letGo (wpAny_pure ?_))
        have e3 : k = m3 := by omega
        refine wpAny_bind (wpAny_bind (wpAny_onRaise ?_))
        show wpAny _ _ (Builtin.SmallTypes.nextOf (.ref j3) >>= _) _ _ ⟨g2, ge, de, t2, og⟩
        refine wpAny_bind (D3.done ⟨g2, ge, de, t2, og⟩ _ _ (by rw [← e3]; exact D3.over (D3.over (D3.over (D3.over (D3.over u3 v0 S.zf3) r1 S.sep1_3) v1 S.Tf3) r2 S.sep2_3) v2 S.Tf3) fun gq e hq he => ?_)
        replace hq : Heap.ExtBut j3 g2 gq := hq
        obtain ⟨oe, f1, f2⟩ := he
        replace f1 : gq.get? e = some oe := f1
        have zq : ZA gq zz ti tt .ellipsis fl := hq _ _ S.zi3 <| v2.extBut _ _ S.TOz.symm <| r2.extBut _ _ S.zi2 <| v1.extBut _ _ S.TOz.symm <| r1.extBut _ _ S.zi1 z0
        have ez : e ≠ zz := fun x => by subst x; rw [zq] at f1; cases f1; simp at f2
        refine wpAny_setField_rec (s := ⟨gq, ge, de, t2, og⟩) zq (by simp) fun gr _ hr => ?_
        replace hr : Heap.SameBut zz gq gr := hr
        exact hE gr t2 e (fun c o cz cT d1 d2 d3 x => hr.extBut _ _ cz <| hq _ _ d3 <| v2.extBut _ _ cT <| r2.extBut _ _ d2 <| v1.extBut _ _ cT <| r1.extBut _ _ d1 <| v0.extBut _ _ cz x) ⟨oe, hr.extBut _ _ ez f1, f2⟩
      · have e2 : k = m2 := by omega
        refine wpAny_bind (D2.done ⟨g1, ge, de, t1, og⟩ _ _ (by rw [← e2]; exact D2.over (D2.over (D2.over u2 v0 S.zf2) r1 S.sep1_2) v1 S.Tf2) fun gq e hq he => ?_)
        replace hq : Heap.ExtBut j2 g1 gq := hq
        obtain ⟨oe, f1, f2⟩ := he
        replace f1 : gq.get? e = some oe := f1
        have zq : ZA gq zz ti tt .ellipsis fl := hq _ _ S.zi2 <| v1.extBut _ _ S.TOz.symm <| r1.extBut _ _ S.zi1 z0
        have ez : e ≠ zz := fun x => by subst x; rw [zq] at f1; cases f1; simp at f2
        refine wpAny_setField_rec (s := ⟨gq, ge, de, t1, og⟩) zq (by simp) fun gr _ hr => ?_
        replace hr : Heap.SameBut zz gq gr := hr
        exact hE gr t1 e (fun c o cz cT d1 d2 d3 x => hr.extBut _ _ cz <| hq _ _ d2 <| v1.extBut _ _ cT <| r1.extBut _ _ d1 <| v0.extBut _ _ cz x) ⟨oe, hr.extBut _ _ ez f1, f2⟩
    · have e1 : k = m1 := by omega
      refine wpAny_bind (D1.done ⟨g0, ge, de, ta, og⟩ _ _ (by rw [← e1]; exact D1.over u1 v0 S.zf1) fun gq e hq he => ?_)
      replace hq : Heap.ExtBut j1 g0 gq := hq
      obtain ⟨oe, f1, f2⟩ := he
      replace f1 : gq.get? e = some oe := f1
      have zq : ZA gq zz ti tt .ellipsis fl := hq _ _ S.zi1 z0
      have ez : e ≠ zz := fun x => by subst x; rw [zq] at f1; cases f1; simp at f2
      refine wpAny_setField_rec (s := ⟨gq, ge, de, ta, og⟩) zq (by simp) fun gr _ hr => ?_
      replace hr : Heap.SameBut zz gq gr := hr
      exact hE gr ta e (fun c o cz cT d1 d2 d3 x => hr.extBut _ _ cz <| hq _ _ d1 <| v0.extBut _ _ cz x) ⟨oe, hr.extBut _ _ ez f1, f2⟩
  · simp only [Bool.false_eq_true, if_false]
    replace v0 : Heap.SameBut zz pa g0 := v0
    refine wpAny_bind ?_
    rw [← Array.forIn_toList]
    simp only [List.forIn_cons, List.forIn_nil]
    refine wpAny_bind (wpAny_bind (wpAny_holding ?_))
    show wpAny _ _ (Builtin.SmallTypes.nextOf (.ref j1) >>= _) _ _ ⟨g0, ge, de, ta, og⟩
    by_cases c1 : k < m1
    · refine wpAny_bind (D1.item k _ _ _ c1 (D1.over u1 v0 S.zf1) fun x1 p1 t1 y1 w1 r1 => wpAny_pure ?_)
      replace r1 : Heap.SameBut j1 g0 p1 := r1
      refine wpAny_pure ?_
      refine wpAny_bind (wpAny_bind (wpAny_holding ?_))
      show wpAny _ _ (Builtin.SmallTypes.nextOf (.ref j2) >>= _) _ _ ⟨p1, ge, de, t1, og⟩
      by_cases c2 : k < m2
      · refine wpAny_bind (D2.item k _ _ _ c2 (D2.over (D2.over u2 v0 S.zf2) r1 S.sep1_2) fun x2 p2 t2 y2 w2 r2 => wpAny_pure ?_)
        replace r2 : Heap.SameBut j2 p1 p2 := r2
        refine wpAny_pure ?_
        refine wpAny_bind (wpAny_bind (wpAny_holding ?_))
        show wpAny _ _ (Builtin.SmallTypes.nextOf (.ref j3) >>= _) _ _ ⟨p2, ge, de, t2, og⟩
        have e3 : k = m3 := by omega
        refine wpAny_bind (D3.done ⟨p2, ge, de, t2, og⟩ _ _ (by rw [← e3]; exact D3.over (D3.over (D3.over u3 v0 S.zf3) r1 S.sep1_3) r2 S.sep2_3) fun gq e hq he => ?_)
        exact hE gq t2 e (fun c o cz cT d1 d2 d3 x => hq _ _ d3 <| r2.extBut _ _ d2 <| r1.extBut _ _ d1 <| v0.extBut _ _ cz x) he
      · have e2 : k = m2 := by omega
        refine wpAny_bind (D2.done ⟨p1, ge, de, t1, og⟩ _ _ (by rw [← e2]; exact D2.over (D2.over u2 v0 S.zf2) r1 S.sep1_2) fun gq e hq he => ?_)
        exact hE gq t1 e (fun c o cz cT d1 d2 d3 x => hq _ _ d2 <| r1.extBut _ _ d1 <| v0.extBut _ _ cz x) he
    · have e1 : k = m1 := by omega
      refine wpAny_bind (D1.done ⟨g0, ge, de, ta, og⟩ _ _ (by rw [← e1]; exact D1.over u1 v0 S.zf1) fun gq e hq he => ?_)
      exact hE gq ta e (fun c o cz cT d1 d2 d3 x => hq _ _ d1 <| v0.extBut _ _ cz x) he
end
end ZN
namespace DLT
open PySem PySem.Spec PyProof.Rows L2 ZN
theorem sep3 (n a b c : Nat) (ha : a < n) (hb : b < n) (hc : c < n) : ZipSep3 (n + 5) (n + 3) (n + 4) n (n + 1) (n + 2) [n, a] [n + 1, b] [n + 2, c] := by
  have key : ∀ x y : Nat, x ≠ y → ¬ @Eq Addr x y := fun _ _ h => h
  constructor <;> (simp only [List.mem_cons, List.not_mem_nil, or_false, not_or, ne_eq]) <;> first | exact key _ _ (by omega) | exact ⟨key _ _ (by omega), key _ _ (by omega)⟩ | simp
/-- three tuples, turn by turn, each three items in a new tuple -/
def It3 (K : PySem.W.Frag) (a b c : Addr) : It :=
  ⟨fun ix H => ∃ (xs ys zs : List V) (x y z : V), SqT K H a xs ∧ SqT K H b ys ∧ SqT K H c zs ∧ xs[ix]? = some x ∧ ys[ix]? = some y ∧ zs[ix]? = some z,
    fun ix H v H' => ∃ T x y z zo, v = .ref T ∧ H T = none ∧ H' = upd H T (.frz zo (.tup [x, y, z])) ∧ zo.dict = none ∧ (∀ xs, SqT K H a xs → xs[ix]? = some x) ∧ (∀ ys, SqT K H b ys → ys[ix]? = some y) ∧ ∀ zs, SqT K H c zs → zs[ix]? = some z,
    fun ix H => ∃ xs ys zs : List V, SqT K H a xs ∧ SqT K H b ys ∧ SqT K H c zs ∧ ix ≤ xs.length ∧ ix ≤ ys.length ∧ ix ≤ zs.length ∧ (ix = xs.length ∨ ix = ys.length ∨ ix = zs.length)⟩
theorem turn_zip3 {P : Program} {w : World} {K : PySem.W.Frag} {nm : Str} {tpos : Pos} {a b c z TI TO i1 i2 i3 : Addr} (S : ZipSep3 z TI TO i1 i2 i3 [i1, a] [i2, b] [i3, c]) (na : a ≠ i1) (nb : b ≠ i2) (nc : c ≠ i3) :
    Turn P w K (.Name nm tpos) (It3 K a b c) [z, TI, TO, i1, i2, i3] z (fun ix h => (∃ mk fl, ZA h z TI TO mk fl ∧ Mk mk) ∧ IsTupOf3 h TI (.ref i1) (.ref i2) (.ref i3) ∧ (∃ x y u, IsTupOf3 h TO x y u) ∧ h.IsTupleIter i1 a ix ∧ h.IsTupleIter i2 b ix ∧ h.IsTupleIter i3 c ix) where
  mem := by simp
  obj := fun ix h sta b' cc => by
    obtain ⟨⟨mk, fl, gz, _⟩, gTI, ⟨x, y, u, gTO⟩, ⟨o1, e1, _, d1⟩, ⟨o2, e2, _, d2⟩, ⟨o3, e3, _, d3⟩⟩ := sta
    have ee : b' = z ∨ b' = TI ∨ b' = TO ∨ b' = i1 ∨ b' = i2 ∨ b' = i3 := by simpa using cc
    rcases ee with q | q | q | q | q | q
    · rw [q]; exact ⟨_, gz, fun v e => nomatch e⟩
    · rw [q]; exact ⟨_, gTI, fun v e => nomatch e⟩
    · rw [q]; exact ⟨_, gTO, fun v e => nomatch e⟩
    · rw [q]; exact ⟨o1, e1, fun v e => by rw [d1] at e; cases e⟩
    · rw [q]; exact ⟨o2, e2, fun v e => by rw [d2] at e; cases e⟩
    · rw [q]; exact ⟨o3, e3, fun v e => by rw [d3] at e; cases e⟩
  keep := fun ix h h' sta k => by
    obtain ⟨⟨mk, fl, gz, gm⟩, gTI, ⟨x, y, u, gTO⟩, g1, g2, g3⟩ := sta
    exact ⟨⟨mk, fl, k z (by simp) _ gz, gm⟩, k TI (by simp) _ gTI, ⟨x, y, u, k TO (by simp) _ gTO⟩, g1.at fun o e => k i1 (by simp) o e, g2.at fun o e => k i2 (by simp) o e, g3.at fun o e => k i3 (by simp) o e⟩
  item := by
    intro X hP hw hK cc ix pps sh σ H EE I fo sta yg
    subst hP hw hK
    obtain ⟨⟨mk, fl, gz, gm⟩, gTI, ⟨x0, y0, u0, gTO⟩, g1, g2, g3⟩ := sta
    obtain ⟨xs, ys, zs, x, y, u, lx, ly, lz, gx, gy, gu⟩ := yg
    obtain ⟨t1, s1, p1, _⟩ := I.tuple lx
    obtain ⟨t2, s2, p2, _⟩ := I.tuple ly
    obtain ⟨t3, s3, p3, _⟩ := I.tuple lz
    obtain ⟨v1, hv1, r1⟩ := s1.get gx
    obtain ⟨v2, hv2, r2⟩ := s2.get gy
    obtain ⟨v3, hv3, r3⟩ := s3.get gu
    have hzl : z < sh.heap.objs.size := Heap.lt_size gz
    have hTy : sh.TypeIs (.ref z) "zip" := ⟨_, gz, rfl⟩
    have k1 : ix < t1.toArray.size := by have := (List.getElem?_eq_some_iff.mp hv1).1; simpa using this
    have k2 : ix < t2.toArray.size := by have := (List.getElem?_eq_some_iff.mp hv2).1; simpa using this
    have k3 : ix < t3.toArray.size := by have := (List.getElem?_eq_some_iff.mp hv3).1; simpa using this
    have hh : X.A.in1.handled = none := I.ok.hd cc
    unfold pyNext
    refine wpAny_bind (wpAny_attempt (wpAny_callSpecial?_slot (name := Str.ofString "__next__") hTy F.slot_zip_next (wpAny_call_entry F.slot_zip_next hTy F.entry_zip_next
      (next_item S (Draws.tuple hh i1 a na t1.toArray) (Draws.tuple hh i2 b nb t2.toArray) (Draws.tuple hh i3 c nc t3.toArray) gz gm gTI gTO ⟨g1, p1⟩ ⟨g2, p2⟩ ⟨g3, p3⟩ k1 k2 k3 fun w1 w2 w3 h' tk mk' fl' y1 y2 y3 gz' gm' gTO' n1 n2 n3 hT hsz hk => wpAny_pure ?_) (F.args_zip_next_1 _))))
    have f1 : w1 = v1 := by
      have q : t1.toArray[ix]? = some v1 := by simpa using hv1
      rw [q] at y1; exact (Option.some.inj y1).symm
    have f2 : w2 = v2 := by
      have q : t2.toArray[ix]? = some v2 := by simpa using hv2
      rw [q] at y2; exact (Option.some.inj y2).symm
    have f3 : w3 = v3 := by
      have q : t3.toArray[ix]? = some v3 := by simpa using hv3
      rw [q] at y3; exact (Option.some.inj y3).symm
    subst f1 f2 f3
    refine ⟨_, rfl, ?_⟩
    unfold letOwnedTupleGo
    refine wpAny_pure ?_
    have neu : ObjOk X.prog X.w (upd H sh.heap.objs.size (.frz { cls := .type "tuple", data := .seq #[w1, w2, w3] } (.tup [x, y, u]))) h' sh.heap.objs.size (.frz { cls := .type "tuple", data := .seq #[w1, w2, w3] } (.tup [x, y, u])) :=
      ⟨hT, by show 3 ≤ sizeLine; decide, [w1, w2, w3], .cons r1 (.cons r2 (.cons r3 .nil)), ⟨_, hT, rfl, _, rfl⟩⟩
    have I1 : Inv X pps σ (upd H sh.heap.objs.size (.frz { cls := .type "tuple", data := .seq #[w1, w2, w3] } (.tup [x, y, u]))) { sh with heap := h', toks := tk } :=
      I.turnedNew (ch := [z, TI, TO, i1, i2, i3]) (fun d o nb q => hk d o (fun e => nb (by simp [e])) (fun e => nb (by simp [e])) (fun e => nb (by simp [e])) (fun e => nb (by simp [e])) (fun e => nb (by simp [e])) q) fo (Nat.le_refl _) neu
    refine ⟨.ref sh.heap.objs.size, _, I1, rfl, ⟨_, x, y, u, _, rfl, I.hok.fresh (Nat.le_refl _), rfl, rfl, fun l hl => by rw [I.tuple_inj hl lx]; exact gx, fun l hl => by rw [I.tuple_inj hl ly]; exact gy, fun l hl => by rw [I.tuple_inj hl lz]; exact gu⟩,
      ⟨⟨mk', fl', gz', gm'⟩, hk _ _ S.TIz S.TITO S.TIi1 S.TIi2 S.TIi3 gTI, gTO', n1.1, n2.1, n3.1⟩, fun d hd => ?_⟩
    have ltc : d < sh.heap.objs.size := by
      have ee : d = z ∨ d = TI ∨ d = TO ∨ d = i1 ∨ d = i2 ∨ d = i3 := by simpa using hd
      rcases ee with q | q | q | q | q | q
      · rw [q]; exact hzl
      · rw [q]; exact Heap.lt_size gTI
      · rw [q]; exact Heap.lt_size gTO
      · rw [q]; obtain ⟨_, e, _⟩ := g1; exact Heap.lt_size e
      · rw [q]; obtain ⟨_, e, _⟩ := g2; exact Heap.lt_size e
      · rw [q]; obtain ⟨_, e, _⟩ := g3; exact Heap.lt_size e
    rw [upd_ne (Nat.ne_of_lt ltc)]
    exact (fo d hd).1
  done := by
    intro X hP hw hK cc ix pps sh σ H EE I fo sta yg
    subst hP hw hK
    obtain ⟨⟨mk, fl, gz, gm⟩, gTI, ⟨x0, y0, u0, gTO⟩, g1, g2, g3⟩ := sta
    obtain ⟨xs, ys, zs, lx, ly, lz, k1, k2, k3, en⟩ := yg
    obtain ⟨t1, s1, p1, _⟩ := I.tuple lx
    obtain ⟨t2, s2, p2, _⟩ := I.tuple ly
    obtain ⟨t3, s3, p3, _⟩ := I.tuple lz
    have l1 := s1.length
    have l2 := s2.length
    have l3 := s3.length
    have hh : X.A.in1.handled = none := I.ok.hd cc
    have hTy : sh.TypeIs (.ref z) "zip" := ⟨_, gz, rfl⟩
    unfold pyNext
    refine wpAny_bind (wpAny_attempt (wpAny_callSpecial?_slot (name := Str.ofString "__next__") hTy F.slot_zip_next (wpAny_call_entry F.slot_zip_next hTy F.entry_zip_next
      (next_end S (Draws.tuple hh i1 a na t1.toArray) (Draws.tuple hh i2 b nb t2.toArray) (Draws.tuple hh i3 c nc t3.toArray) gz gm gTI gTO ⟨g1, p1⟩ ⟨g2, p2⟩ ⟨g3, p3⟩ (by simp; omega) (by simp; omega) (by simp; omega) (by simp; omega) fun h' tk e hk he => ?_) (F.args_zip_next_1 _))))
    obtain ⟨o, ho, hc⟩ := he
    refine wpAny_bind (wpAny_isInstance (T := "StopIteration") (b := true) ⟨o, ho, hc⟩ isSubtype_stop ?_)
    refine wpAny_pure ⟨rfl, I.turnedL (t' := tk) (ch := [z, TI, TO, i1, i2, i3]) (fun d o nb q => hk d o (fun e => nb (by simp [e])) (fun e => nb (by simp [e])) (fun e => nb (by simp [e])) (fun e => nb (by simp [e])) (fun e => nb (by simp [e])) q) fo⟩
  self := fun A ix sh Q EE sta h => by
    obtain ⟨⟨mk, fl, gz, gm⟩, _⟩ := sta
    have hT : sh.TypeIs (.ref z) "zip" := ⟨_, gz, rfl⟩
    refine wpAny_pyIter_slot hT F.slot_zip_iter (wpAny_call_entry F.slot_zip_iter hT F.entry_zip_iter ?_ (F.args_zip_iter_1 _))
    show wpAny _ _ (ret (.ref z)) _ _ sh
    exact wpAny_pure ⟨_, rfl, "zip", _, hT, F.slot_zip_next.lookup, h⟩
def iZip3 (K : PySem.W.Frag) (ta : TA) : TI := fun σ H R => ta σ H fun vs H1 => ∃ a b c xs ys zs, vs = [.ref a, .ref b, .ref c] ∧ SqT K H1 a xs ∧ SqT K H1 b ys ∧ SqT K H1 c zs ∧ R (It3 K a b c) H1
theorem pi_zip3 {X : Cx} {e1 e2 e3 : Expr} {ta : TA} {pl1 pos tpos : Pos} {nm : Str} (yg : Gl X "zip") (mz : X.mg "zip" = none) (pa1 : PA X [e1, e2, e3] ta)
    (ns1 : starEach [e1, e2, e3] X.env = (false, eval e1 X.env) :: starEach [e2, e3] X.env := by rfl) (npl : (backTo pos (starEach [e2, e3] X.env)).any (·.1) = false := by rfl) :
    PI X (.Name nm tpos) (.Call (.Name "zip" pl1) [e1, e2, e3] [] pos) (iZip3 X.K ta) := by
  refine ⟨fun pps sh σ H R I h => ?_⟩
  refine Call_ (ld_blt I yg mz PyProof.Rows.boot_zip (PyProof.Rows.callWith_type1 (thn (pa1.run pos pps sh σ H _ I h) fun uu s1 ⟨vs, H1, I1, r1, q1⟩ => ?_) ns1 npl))
  obtain ⟨a, b, c, xs, ys, zs, ex, lx, ly, lz, qq⟩ := q1
  subst ex
  cases r1 with
  | cons k1 r1 =>
    cases r1 with
    | cons k2 r1 =>
      cases r1 with
      | cons k3 r1 =>
        cases r1
        cases k1
        cases k2
        cases k3
        obtain ⟨t1, s1', p1, _⟩ := I1.tuple lx
        obtain ⟨t2, s2', p2, _⟩ := I1.tuple ly
        obtain ⟨t3, s3', p3, _⟩ := I1.tuple lz
        obtain ⟨o1, ho1, _⟩ := id p1
        obtain ⟨o2, ho2, _⟩ := id p2
        obtain ⟨o3, ho3, _⟩ := id p3
        have l1 := Heap.lt_size ho1
        have l2 := Heap.lt_size ho2
        have l3 := Heap.lt_size ho3
        refine zip_begins3 (begins_tuple a t1.toArray) (begins_tuple b t2.toArray) (begins_tuple c t3.toArray) p1 p2 p3 fun h' gz gTI gTO g1 g2 g3 hsz hk => wpAny_pyIter_zip gz ?_
        have I2 : Inv X pps σ H1 { s1 with heap := h' } := I1.kept (t' := s1.toks) hk
        refine ⟨s1.heap.objs.size + 5, [s1.heap.objs.size + 5, s1.heap.objs.size + 3, s1.heap.objs.size + 4, s1.heap.objs.size, s1.heap.objs.size + 1, s1.heap.objs.size + 2], _, _, H1, rfl, I2, turn_zip3 (sep3 _ a b c l1 l2 l3) (Nat.ne_of_lt l1) (Nat.ne_of_lt (Nat.lt_succ_of_lt l2)) (Nat.ne_of_lt (Nat.lt_succ_of_lt (Nat.lt_succ_of_lt l3))),
          ⟨⟨_, _, gz, .inl rfl⟩, gTI, ⟨_, _, _, gTO⟩, ⟨_, g1, rfl, rfl⟩, ⟨_, g2, rfl, rfl⟩, ⟨_, g3, rfl, rfl⟩⟩, fun d hd => ?_, qq⟩
        have ee : d = s1.heap.objs.size + 5 ∨ d = s1.heap.objs.size + 3 ∨ d = s1.heap.objs.size + 4 ∨ d = s1.heap.objs.size ∨ d = s1.heap.objs.size + 1 ∨ d = s1.heap.objs.size + 2 := by simpa using hd
        have le : s1.heap.objs.size ≤ d := by
          rcases ee with q | q | q | q | q | q <;> rw [q] <;> omega
        exact I1.fpOk le (I1.hok.fresh le)
end DLT
namespace DL
open PySem PySem.Spec PyProof.Rows L2
section
variable {X : Cx} {C : Cc} {K : PySem.W.Frag}
def zip3 : List PyData → List PyData → List PyData → List PyData
  | x :: xs, y :: ys, z :: zs => .tuple [x, y, z] :: zip3 xs ys zs
  | _, _, _ => []
theorem zip3_len : ∀ xs ys zs : List PyData, (zip3 xs ys zs).length = min xs.length (min ys.length zs.length)
  | x :: xs, y :: ys, z :: zs => by simp only [zip3, List.length_cons, zip3_len xs ys zs]; omega
  | [], _, _ => by simp [zip3]
  | _ :: _, [], _ => by simp [zip3]
  | _ :: _, _ :: _, [] => by simp [zip3]
theorem zip3_get : ∀ (xs ys zs : List PyData) (i : Nat) (h1 : i < xs.length) (h2 : i < ys.length) (h3 : i < zs.length), (zip3 xs ys zs)[i]? = some (.tuple [xs[i], ys[i], zs[i]])
  | x :: xs, y :: ys, z :: zs, 0, _, _, _ => rfl
  | x :: xs, y :: ys, z :: zs, i + 1, h1, h2, h3 => by
    simp only [zip3, List.getElem?_cons_succ, List.getElem_cons_succ]
    exact zip3_get xs ys zs i (by simpa using h1) (by simpa using h2) (by simpa using h3)
  | [], _, _, _, h, _, _ => by simp at h
  | _ :: _, [], _, _, _, h, _ => by simp at h
  | _ :: _, _ :: _, [], _, _, _, h => by simp at h
def bZip3 : List PyData → Option (List PyData)
  | [.tuple xs, .tuple ys, .tuple zs] => some (zip3 xs ys zs)
  | _ => none
theorem wk_zip3 {a b c : Addr} {xs ys zs : List V} {ds es fs : List PyData} (hz : ds.length ≤ 16777216) (h : xs.length = ds.length) (h' : ys.length = es.length) (h'' : zs.length = fs.length) :
    Wk K (DLT.It3 K a b c) (zip3 ds es fs) fun H ow => (FT K H ow a xs ∧ DVs K H ow xs ds) ∧ (FT K H ow b ys ∧ DVs K H ow ys es) ∧ (FT K H ow c zs ∧ DVs K H ow zs fs) where
  st := fun H ow H' ow' ⟨⟨a, c⟩, ⟨a', c'⟩, ⟨a'', c''⟩⟩ st => ⟨⟨a.stay st, c.stay st⟩, ⟨a'.stay st, c'.stay st⟩, ⟨a''.stay st, c''.stay st⟩⟩
  goes := fun i H ow hi ⟨⟨a, c⟩, ⟨a', c'⟩, ⟨a'', c''⟩⟩ => by
    rw [zip3_len] at hi
    exact ⟨xs, ys, zs, xs[i]'(by omega), ys[i]'(by omega), zs[i]'(by omega), a.sq, a'.sq, a''.sq, by simp, by simp, by simp⟩
  stops := fun H ow ⟨⟨a, c⟩, ⟨a', c'⟩, ⟨a'', c''⟩⟩ => ⟨xs, ys, zs, a.sq, a'.sq, a''.sq, by rw [zip3_len]; omega, by rw [zip3_len]; omega, by rw [zip3_len]; omega, by rw [zip3_len]; omega⟩
  yields := fun i H ow x H' hi ⟨⟨a, c⟩, ⟨a', c'⟩, ⟨a'', c''⟩⟩ ⟨T, u, w, q, zo, e1, e2, e3, hd, e4, e5, e6⟩ => by
    rw [zip3_len] at hi
    subst e1; subst e3
    obtain ⟨v1, h1, h2⟩ := c.get (i := i) (d := ds[i]'(by omega)) (by simp)
    obtain ⟨v2, k1, k2⟩ := c'.get (i := i) (d := es[i]'(by omega)) (by simp)
    obtain ⟨v3, l1, l2⟩ := c''.get (i := i) (d := fs[i]'(by omega)) (by simp)
    have t1 := e4 xs a.sq
    have t2 := e5 ys a'.sq
    have t3 := e6 zs a''.sq
    rw [h1] at t1
    rw [k1] at t2
    rw [l1] at t3
    cases t1; cases t2; cases t3
    refine ⟨off ow T, .tuple [ds[i]'(by omega), es[i]'(by omega), fs[i]'(by omega)], ?_, Gr.new e2, .tup (.new hd) (.cons (h2.stay (Gr.new e2).stay) (.cons (k2.stay (Gr.new e2).stay) (.cons (l2.stay (Gr.new e2).stay) .nil))) (by simp)⟩
    exact zip3_get ds es fs i (by omega) (by omega) (by omega)
  len := by
    rw [zip3_len]
    omega
theorem di_zip3 {a b c : Expr} {nm : Str} {tpos : Pos} {t : Env → Rs (List PyData)} {p pos : Pos} (hg : Gl X "zip") (hm : X.mg "zip" = none) (ha : DA X C [a, b, c] t)
    (hs : starEach [a, b, c] X.env = (false, eval a X.env) :: starEach [b, c] X.env := by rfl) (hpl : (backTo pos (starEach [b, c] X.env)).any (·.1) = false := by rfl) : DI X C (.Name nm tpos) (.Call (.Name "zip" p) [a, b, c] [] pos) (itB bZip3 t) :=
  PIweak (DLT.pi_zip3 hg hm ha hs hpl) fun σ H Q h => rd_one (R1 := RA X.K) h fun v x H ow env hv P h => by
    obtain ⟨o, e, h⟩ := rdAt_lift (v := Itr 0 0) h
    unfold bZip3 at e
    split at e
    · cases hv with
      | cons d1 hv =>
        obtain ⟨w, w', rfl, d2, d3⟩ := hv.two
        cases d1 with
        | @tup a xs ds h1 h3 hz =>
          cases d2 with
          | @tup b ys es k1 k3 hz' =>
            cases d3 with
            | @tup c zs fs l1 l3 hz'' =>
              cases e
              exact ⟨a, b, c, xs, ys, zs, rfl, h1.sq, k1.sq, l1.sq, h _ H ow Ext.refl ⟨_, wk_zip3 hz h3.length k3.length l3.length, ⟨h1, h3⟩, ⟨k1, k3⟩, ⟨l1, l3⟩⟩ P⟩
    · cases e
end
end DL


/-! f(*row), f a def of the module -/
namespace DL
open PySem PySem.Spec PyProof.Rows L2
section
variable {X : Cx} {C : Cc} {K : PySem.W.Frag}
theorem pe_callS {CX : CXT} {k : Nat} {f : Addr} {fd : FuncData} {ps : List Str} {sp : Sp} {E : XK} {x : Str} {p sq pos : Pos} {e : Expr} {te : TE} (Fo : FnOk X.prog X.w X.K X.mg X.base CX k f fd ps sp) (hr : Room k X.A) (hg : Gl X x) (hm : X.mg x = some (.ref f)) (hk : PySem.W.keepIn X.K (.ref f) = true) (hb : Binds X.K fd ps []) (hx : Passes CX X E) (he : PE X e te)
    (hd : (x == ("__debug__" : Str)) = false := by decide) (hst : starEach [.Starred e sq] X.env = [(true, eval e X.env)] := by rfl) :
    PE X (.Call (.Name x p) [.Starred e sq] [] pos) (fun σ H Q => te σ H fun y H1 => ∃ a xs, y = V.ref a ∧ (SqT X.K H1 a xs ∨ SqL X.K H1 a xs) ∧ sp xs H1 Q E) := by
  refine ⟨fun pn sh σ H Q I h => ?_⟩
  refine wpAny_Call_Name_kw (ld_glob I hg hm ?_ hd)
  refine PySem.W.callWith_S (h₀ := X.base) I.ok.mod.kin hk (thn (he.run pn sh σ H _ I h) fun v s1 ⟨y, H1, I1, ry, a, xs, ey, hxs, q⟩ => ?_) hst
  subst ey
  obtain rfl : v = Value.ref a := ry
  refine StX.star_any I1 hxs fun us s2 I2 rv => ⟨I2.kIn, ?_⟩
  refine run_fn (dvs := []) Fo hr hb .nil hx I2 rv ?_
  rw [List.append_nil]
  exact q
def dAvs (d : PyData) : List AV := match seqOf d with | some xs => xs.map .d | none => []
def eCallS (ar : Nat) (F : Fn) (t : Env → Rs PyData) : Env → Rs M := fun env => (t env).bind fun d e => if (seqOf d).isSome = true then callM ar F (dAvs d) e else .no
theorem rvi_data {σ : L2.St} {H : Hp} {ow : Ow} : ∀ {ds : List PyData} {vs : List V}, DVs K H ow vs ds → RVi K σ H ow vs (ds.map .d)
  | [], _, h => by cases h; exact .nil
  | _ :: _, _, h => by
    cases h with
    | cons h1 h2 => exact .d h1 (rvi_data h2)
theorem call_core {cl : Str → Option Addr} {n ar : Nat} {F : Fn} (hn : ar ≤ n) {σ : L2.St} {H : Hp} {ow : Ow} {env : Env} {Q : VK} {vs : List V} {avs : List AV} (P : RpE K C H ow σ env) (hv : RVi K σ H ow vs avs) (h : rdAt K C (RM K C.N) σ H ow Q (callM ar F avs env)) : spD K cl n ar F vs H Q E0 := by
  unfold callM at h
  cases hm : avMs env avs with
  | none => rw [hm] at h; exact h.elim
  | some ms =>
    rw [hm] at h
    by_cases hc : avs.length = ar ∧ (jsOf avs).Nodup
    · have h : rdAt K C (RM K C.N) σ H ow Q (if avs.length = ar ∧ (jsOf avs).Nodup then match F ms with
        | .rt m os => .ok m (putBack avs os env)
        | _ => .no
        else .no) := h
      rw [if_pos hc] at h
      refine ⟨hv.length.trans hc.1, ms, owIn ow avs n, (avMs_length hm).trans hc.1, call_in P hv hm hc.2, ?_⟩
      cases hF : F ms with
      | no => rw [hF] at h; exact h.elim
      | ex x os => rw [hF] at h; exact h.elim
      | rt m os =>
        rw [hF] at h
        intro v H' ow' x ⟨fp, r1, r2, r3⟩ ro
        obtain ⟨X, P'⟩ := call_back P hv hm hc.2 (by omega) x ro
        exact h v H' _ X ⟨fp, r1.stay (fun a o h h' => ⟨h, owOut_none h'⟩) fun _ _ => rfl, r2, fun p hp => owOut_res (r3 p hp)⟩ P'
    · have h : rdAt K C (RM K C.N) σ H ow Q (if avs.length = ar ∧ (jsOf avs).Nodup then match F ms with
        | .rt m os => .ok m (putBack avs os env)
        | _ => .no
        else .no) := h
      rw [if_neg hc] at h
      exact h.elim
theorem dm_callS {k n ar : Nat} {f : Addr} {fd : FuncData} {ps : List Str} {cl : Str → Option Addr} {F : Fn} {x : Str} {p sq pos : Pos} {e : Expr} {t : Env → Rs PyData} (Fo : FnOk X.prog X.w X.K X.mg X.base CX0 k f fd ps (spD X.K cl n ar F)) (hr : Room k X.A) (hg : Gl X x) (hm : X.mg x = some (.ref f)) (hk : PySem.W.keepIn X.K (.ref f) = true) (hb : Binds X.K fd ps [])
    (ha : DE X C e t) (hn : ar ≤ n := by decide) (hd : (x == ("__debug__" : Str)) = false := by decide) (hst : starEach [.Starred e sq] X.env = [(true, eval e X.env)] := by rfl) :
    DM X C (.Call (.Name x p) [.Starred e sq] [] pos) (eCallS ar F t) :=
  PEweak (pe_callS Fo hr hg hm hk hb pass0 ha hd hst) fun σ H Q h => rd_one (R1 := RE X.K) h fun v d H ow env hv P h => by
    cases hs : seqOf d with
    | none =>
      rw [hs] at h
      exact h.elim
    | some ds =>
      have h : rdAt X.K C (RM X.K C.N) σ H ow Q (callM ar F (dAvs d) env) := by
        rw [hs] at h
        exact h
      have ea : dAvs d = ds.map .d := by unfold dAvs; rw [hs]
      rw [ea] at h
      cases hv with
      | @lst a xs es h1 h2 h3 hz =>
        cases hs
        exact ⟨a, xs, rfl, .inr (.of h1), call_core hn P (rvi_data h3) h⟩
      | @tup a xs es h1 h3 hz =>
        cases hs
        exact ⟨a, xs, rfl, .inl h1.sq, call_core hn P (rvi_data h3) h⟩
      | _ => cases hs
end
end DL


/-! zip of a tuple and a list -/
namespace DLT
open PySem PySem.Spec PyProof.Rows L2 ZN
theorem sep2 (n a b : Nat) (ha : a < n) (hb : b < n) : ZipSep2 (n + 4) (n + 2) (n + 3) n (n + 1) [n, a] [n + 1, b] := by
  have key : ∀ x y : Nat, x ≠ y → ¬ @Eq Addr x y := fun _ _ h => h
  constructor <;> (simp only [List.mem_cons, List.not_mem_nil, or_false, not_or, ne_eq]) <;> first | exact key _ _ (by omega) | exact ⟨key _ _ (by omega), key _ _ (by omega)⟩ | simp
def ItM (K : PySem.W.Frag) (a b : Addr) : It :=
  ⟨fun ix H => ∃ (xs ys : List V) (x y : V), SqT K H a xs ∧ SqL K H b ys ∧ xs[ix]? = some x ∧ ys[ix]? = some y,
    fun ix H v H' => ∃ T x y zo, v = .ref T ∧ H T = none ∧ H' = upd H T (.frz zo (.tup [x, y])) ∧ zo.dict = none ∧ (∀ xs, SqT K H a xs → xs[ix]? = some x) ∧ ∀ ys, SqL K H b ys → ys[ix]? = some y,
    fun ix H => ∃ xs ys : List V, SqT K H a xs ∧ SqL K H b ys ∧ ix ≤ xs.length ∧ ix ≤ ys.length ∧ (ix = xs.length ∨ ix = ys.length)⟩
theorem turn_zipM {P : Program} {w : World} {K : PySem.W.Frag} {elts : List Expr} {kk : Nat} {tpos : Pos} {a b z TI TO i1 i2 : Addr} (S : ZipSep2 z TI TO i1 i2 [i1, a] [i2, b]) (na : a ≠ i1) (nb : b ≠ i2) :
    Turn P w K (.Tuple elts kk tpos) (ItM K a b) [z, TI, TO, i1, i2] z (fun ix h => IsZip h z TI TO .none ∧ IsTupOf2 h TI (.ref i1) (.ref i2) ∧ (∃ x y, IsTupOf2 h TO x y) ∧ h.IsTupleIter i1 a ix ∧ h.IsListIter i2 b ix) where
  mem := by simp
  obj := fun ix h sta b' cc => by
    obtain ⟨gz, gTI, ⟨x, y, gTO⟩, ⟨o1, e1, _, d1⟩, ⟨o2, e2, _, d2⟩⟩ := sta
    have ee : b' = z ∨ b' = TI ∨ b' = TO ∨ b' = i1 ∨ b' = i2 := by simpa using cc
    rcases ee with q | q | q | q | q
    · rw [q]; exact ⟨_, gz, fun v e => nomatch e⟩
    · rw [q]; exact ⟨_, gTI, fun v e => nomatch e⟩
    · rw [q]; exact ⟨_, gTO, fun v e => nomatch e⟩
    · rw [q]; exact ⟨o1, e1, fun v e => by rw [d1] at e; cases e⟩
    · rw [q]; exact ⟨o2, e2, fun v e => by rw [d2] at e; cases e⟩
  keep := fun ix h h' sta k => by
    obtain ⟨gz, gTI, ⟨x, y, gTO⟩, g1, g2⟩ := sta
    exact ⟨k z (by simp) _ gz, k TI (by simp) _ gTI, ⟨x, y, k TO (by simp) _ gTO⟩, g1.at fun o e => k i1 (by simp) o e, g2.at fun o e => k i2 (by simp) o e⟩
  item := by
    intro X hP hw hK cc ix pps sh σ H EE I fo sta yg
    subst hP hw hK
    obtain ⟨gz, gTI, ⟨x0, y0, gTO⟩, g1, g2⟩ := sta
    obtain ⟨xs, ys, x, y, lx, ly, gx, gy⟩ := yg
    obtain ⟨t1, s1, p1, _⟩ := I.tuple lx
    obtain ⟨t2, s2, p2, _⟩ := I.list ly
    obtain ⟨v1, hv1, r1⟩ := s1.get gx
    obtain ⟨v2, hv2, r2⟩ := s2.get gy
    have hzl : z < sh.heap.objs.size := Heap.lt_size gz
    have hTy : sh.TypeIs (.ref z) "zip" := ⟨_, gz, rfl⟩
    have k1 : ix < t1.toArray.size := by have := (List.getElem?_eq_some_iff.mp hv1).1; simpa using this
    have k2 : ix < t2.toArray.size := by have := (List.getElem?_eq_some_iff.mp hv2).1; simpa using this
    have hh : X.A.in1.handled = none := I.ok.hd cc
    unfold pyNext
    refine wpAny_bind (wpAny_attempt (wpAny_callSpecial?_slot (name := Str.ofString "__next__") hTy F.slot_zip_next (wpAny_call_entry F.slot_zip_next hTy F.entry_zip_next
      (zipD2_next_item S (Draws.tuple hh i1 a na t1.toArray) (Draws.list hh i2 b nb t2.toArray) gz gTI gTO ⟨g1, p1⟩ ⟨g2, p2.isList⟩ k1 k2 fun w1 w2 h' tk y1 y2 gz' gTO' n1 n2 hT hsz hk => wpAny_pure ?_) (F.args_zip_next_1 _))))
    have f1 : w1 = v1 := by
      have q : t1.toArray[ix]? = some v1 := by simpa using hv1
      rw [q] at y1; exact (Option.some.inj y1).symm
    have f2 : w2 = v2 := by
      have q : t2.toArray[ix]? = some v2 := by simpa using hv2
      rw [q] at y2; exact (Option.some.inj y2).symm
    subst f1 f2
    refine ⟨_, rfl, wpAny_letOwnedTupleGo_zip (s := { sh with heap := h', toks := tk }) gz' fun h'' gz'' sb => ?_⟩
    have tT : h''.get? sh.heap.objs.size = some { cls := .type "tuple", data := .seq #[w1, w2] } := (sb.2 _ (Nat.ne_of_gt hzl)).trans hT
    have neu : ObjOk X.prog X.w (upd H sh.heap.objs.size (.frz { cls := .type "tuple", data := .seq #[w1, w2] } (.tup [x, y]))) h'' sh.heap.objs.size (.frz { cls := .type "tuple", data := .seq #[w1, w2] } (.tup [x, y])) :=
      ⟨tT, by show 2 ≤ sizeLine; decide, [w1, w2], .cons r1 (.cons r2 .nil), ⟨_, tT, rfl, _, rfl⟩⟩
    have I1 : Inv X pps σ (upd H sh.heap.objs.size (.frz { cls := .type "tuple", data := .seq #[w1, w2] } (.tup [x, y]))) { sh with heap := h'', toks := tk } :=
      I.turnedNew (ch := [z, TI, TO, i1, i2]) (fun d o nb q => (sb.2 d (fun e => nb (by simp [e]))).trans (hk d o (fun e => nb (by simp [e])) (fun e => nb (by simp [e])) (fun e => nb (by simp [e])) (fun e => nb (by simp [e])) q)) fo (Nat.le_refl _) neu
    refine ⟨.ref sh.heap.objs.size, _, I1, rfl, ⟨_, x, y, _, rfl, I.hok.fresh (Nat.le_refl _), rfl, rfl, fun l hl => by rw [I.tuple_inj hl lx]; exact gx, fun l hl => by rw [I.list_inj hl ly]; exact gy⟩,
      ⟨gz'', (sb.2 _ S.TIz).trans (hk _ _ S.TIz S.TITO S.TIi1 S.TIi2 gTI), ⟨w1, w2, (sb.2 _ S.TOz).trans gTO'⟩, n1.1.at fun o q => (sb.2 _ S.zi1.symm).trans q, n2.1.at fun o q => (sb.2 _ S.zi2.symm).trans q⟩, fun d hd => ?_⟩
    have ltc : d < sh.heap.objs.size := by
      have ee : d = z ∨ d = TI ∨ d = TO ∨ d = i1 ∨ d = i2 := by simpa using hd
      rcases ee with q | q | q | q | q
      · rw [q]; exact hzl
      · rw [q]; exact Heap.lt_size gTI
      · rw [q]; exact Heap.lt_size gTO
      · rw [q]; obtain ⟨_, e, _⟩ := g1; exact Heap.lt_size e
      · rw [q]; obtain ⟨_, e, _⟩ := g2; exact Heap.lt_size e
    rw [upd_ne (Nat.ne_of_lt ltc)]
    exact (fo d hd).1
  done := by
    intro X hP hw hK cc ix pps sh σ H EE I fo sta yg
    subst hP hw hK
    obtain ⟨gz, gTI, ⟨x0, y0, gTO⟩, g1, g2⟩ := sta
    obtain ⟨xs, ys, lx, ly, k1, k2, en⟩ := yg
    obtain ⟨t1, s1, p1, _⟩ := I.tuple lx
    obtain ⟨t2, s2, p2, _⟩ := I.list ly
    have l1 := s1.length
    have l2 := s2.length
    have hh : X.A.in1.handled = none := I.ok.hd cc
    have hTy : sh.TypeIs (.ref z) "zip" := ⟨_, gz, rfl⟩
    unfold pyNext
    refine wpAny_bind (wpAny_attempt (wpAny_callSpecial?_slot (name := Str.ofString "__next__") hTy F.slot_zip_next (wpAny_call_entry F.slot_zip_next hTy F.entry_zip_next
      (zipD2_next_end S (Draws.tuple hh i1 a na t1.toArray) (Draws.list hh i2 b nb t2.toArray) gz gTI gTO ⟨g1, p1⟩ ⟨g2, p2.isList⟩ (by simp; omega) (by simp; omega) (by simp; omega) fun h' tk e hk he => ?_) (F.args_zip_next_1 _))))
    obtain ⟨o, ho, hc⟩ := he
    refine wpAny_bind (wpAny_isInstance (T := "StopIteration") (b := true) ⟨o, ho, hc⟩ isSubtype_stop ?_)
    refine wpAny_pure ⟨rfl, I.turnedL (t' := tk) (ch := [z, TI, TO, i1, i2]) (fun d o nb q => hk d o (fun e => nb (by simp [e])) (fun e => nb (by simp [e])) (fun e => nb (by simp [e])) (fun e => nb (by simp [e])) q) fo⟩
  self := fun A ix sh Q EE sta h => wpAny_pyIter_zip sta.1 h
def iZipM (K : PySem.W.Frag) (ta : TA) : TI := fun σ H R => ta σ H fun vs H1 => ∃ a b xs ys, vs = [.ref a, .ref b] ∧ SqT K H1 a xs ∧ SqL K H1 b ys ∧ R (ItM K a b) H1
theorem pi_zipM {X : Cx} {e1 e2 : Expr} {ta : TA} {pl1 pos tpos : Pos} {elts : List Expr} {kk : Nat} (yg : Gl X "zip") (mz : X.mg "zip" = none) (pa1 : PA X [e1, e2] ta)
    (ns1 : starEach [e1, e2] X.env = (false, eval e1 X.env) :: starEach [e2] X.env := by rfl) (npl : (backTo pos (starEach [e2] X.env)).any (·.1) = false := by rfl) :
    PI X (.Tuple elts kk tpos) (.Call (.Name "zip" pl1) [e1, e2] [] pos) (iZipM X.K ta) := by
  refine ⟨fun pps sh σ H R I h => ?_⟩
  refine Call_ (ld_blt I yg mz PyProof.Rows.boot_zip (PyProof.Rows.callWith_type1 (thn (pa1.run pos pps sh σ H _ I h) fun uu s1 ⟨vs, H1, I1, r1, q1⟩ => ?_) ns1 npl))
  obtain ⟨a, b, xs, ys, ex, lx, ly, qq⟩ := q1
  subst ex
  cases r1 with
  | cons k1 r1 =>
    cases r1 with
    | cons k2 r1 =>
      cases r1
      cases k1
      cases k2
      obtain ⟨t1, s1', p1, _⟩ := I1.tuple lx
      obtain ⟨t2, s2', p2, _⟩ := I1.list ly
      obtain ⟨o1, ho1, _⟩ := id p1
      obtain ⟨o2, ho2, _⟩ := id p2.isList
      have l1 := Heap.lt_size ho1
      have l2 := Heap.lt_size ho2
      refine zip_begins2 (begins_tuple a t1.toArray) (begins_list b t2.toArray) p1 p2.isList fun h' gz gTI gTO g1 g2 hsz hk => wpAny_pyIter_zip gz ?_
      have I2 : Inv X pps σ H1 { s1 with heap := h' } := I1.kept (t' := s1.toks) hk
      refine ⟨s1.heap.objs.size + 4, [s1.heap.objs.size + 4, s1.heap.objs.size + 2, s1.heap.objs.size + 3, s1.heap.objs.size, s1.heap.objs.size + 1], _, _, H1, rfl, I2, turn_zipM (sep2 _ a b l1 l2) (Nat.ne_of_lt l1) (Nat.ne_of_lt (Nat.lt_succ_of_lt l2)),
        ⟨gz, gTI, ⟨_, _, gTO⟩, ⟨_, g1, rfl, rfl⟩, ⟨_, g2, rfl, rfl⟩⟩, fun d hd => ?_, qq⟩
      have ee : d = s1.heap.objs.size + 4 ∨ d = s1.heap.objs.size + 2 ∨ d = s1.heap.objs.size + 3 ∨ d = s1.heap.objs.size ∨ d = s1.heap.objs.size + 1 := by simpa using hd
      have le : s1.heap.objs.size ≤ d := by
        rcases ee with q | q | q | q | q <;> rw [q] <;> omega
      exact I1.fpOk le (I1.hok.fresh le)
end DLT
namespace DL
open PySem PySem.Spec PyProof.Rows L2
section
variable {X : Cx} {C : Cc} {K : PySem.W.Frag}
def bZipM : List PyData → Option (List PyData)
  | [.tuple xs, .list ys] => some (zip2 xs ys)
  | _ => none
theorem wk_zipM {a b : Addr} {xs ys : List V} {ds es : List PyData} (hz : ds.length ≤ 16777216) (h : xs.length = ds.length) (h' : ys.length = es.length) :
    Wk K (DLT.ItM K a b) (zip2 ds es) fun H ow => (FT K H ow a xs ∧ DVs K H ow xs ds) ∧ (H b = some (.lst ys) ∧ ow b = none ∧ DVs K H ow ys es) where
  st := fun H ow H' ow' ⟨⟨a, c⟩, ⟨a', b', c'⟩⟩ st => ⟨⟨a.stay st, c.stay st⟩, ⟨(st _ _ a' b').1, (st _ _ a' b').2, c'.stay st⟩⟩
  goes := fun i H ow hi ⟨⟨a, c⟩, ⟨a', b', c'⟩⟩ => by
    have hi' : i < min ds.length es.length := by simpa [zip2] using hi
    exact ⟨xs, ys, xs[i]'(by omega), ys[i]'(by omega), a.sq, .of a', by simp, by simp⟩
  stops := fun H ow ⟨⟨a, c⟩, ⟨a', b', c'⟩⟩ => ⟨xs, ys, a.sq, .of a', by simp only [zip2, List.length_zipWith]; omega, by simp only [zip2, List.length_zipWith]; omega, by simp only [zip2, List.length_zipWith]; omega⟩
  yields := fun i H ow x H' hi ⟨⟨a, c⟩, ⟨a', b', c'⟩⟩ ⟨T, u, w, zo, e1, e2, e3, hd, e4, e5⟩ => by
    have hi' : i < min ds.length es.length := by simpa [zip2] using hi
    subst e1; subst e3
    obtain ⟨v1, h1, h2⟩ := c.get (i := i) (d := ds[i]'(by omega)) (by simp)
    obtain ⟨v2, k1, k2⟩ := c'.get (i := i) (d := es[i]'(by omega)) (by simp)
    have t1 := e4 xs a.sq
    have t2 := e5 ys (.of a')
    rw [h1] at t1
    rw [k1] at t2
    cases t1; cases t2
    refine ⟨off ow T, .tuple [ds[i]'(by omega), es[i]'(by omega)], ?_, Gr.new e2, .tup (.new hd) (.cons (h2.stay (Gr.new e2).stay) (.cons (k2.stay (Gr.new e2).stay) .nil)) (by simp)⟩
    simp [zip2, List.getElem?_zipWith, show i < ds.length by omega, show i < es.length by omega]
  len := by
    simp only [zip2, List.length_zipWith]
    omega
theorem di_zipM {a b : Expr} {elts : List Expr} {kk : Nat} {tpos : Pos} {t : Env → Rs (List PyData)} {p pos : Pos} (hg : Gl X "zip") (hm : X.mg "zip" = none) (ha : DA X C [a, b] t)
    (hs : starEach [a, b] X.env = (false, eval a X.env) :: starEach [b] X.env := by rfl) (hpl : (backTo pos (starEach [b] X.env)).any (·.1) = false := by rfl) : DI X C (.Tuple elts kk tpos) (.Call (.Name "zip" p) [a, b] [] pos) (itB bZipM t) :=
  PIweak (DLT.pi_zipM hg hm ha hs hpl) fun σ H Q h => rd_one (R1 := RA X.K) h fun v x H ow env hv P h => by
    obtain ⟨o, e, h⟩ := rdAt_lift (v := Itr 0 0) h
    unfold bZipM at e
    split at e
    · obtain ⟨w, w', rfl, d, d'⟩ := hv.two
      cases d with
      | @tup a xs ds h1 h3 hz =>
        cases d' with
        | @lst b ys es k1 k2 k3 hz' =>
          cases e
          exact ⟨a, b, xs, ys, rfl, h1.sq, .of k1, h _ H ow Ext.refl ⟨_, wk_zipM hz h3.length k3.length, ⟨h1, h3⟩, ⟨k1, k2, k3⟩⟩ P⟩
    · cases e
end
end DL


set_option pp.maxSteps 200
/-! len of a dict comprehension: the number of its different keys -/
namespace DL
open PySem PySem.Spec PyProof.Rows L2
section
variable {X : Cx}
/-- a step Pt of a table, done by a store -/
structure PutOk (X : Cx) (Pt : Addr → Hp → V → V → Hp → Prop) : Prop where
  run : ∀ {pps : List (Addr × Obj)} {s : Shared} {σ : L2.St} {H H' : Hp} {Dk : Addr} {yk zk : V} {u r : Value} {Qk : Unit → Shared → Prop} {EE : Value → Shared → Prop},
  Pt Dk H yk zk H' → Inv X pps σ H s → RelV yk u → RelV zk r → (∀ s', Inv X pps σ H' s' → Qk () s') → wpAny (model X.prog X.w) X.A (dictSet Dk u r) Qk EE s
def tDg (o0 : Addr → HO) (Pt : Addr → Hp → V → V → Hp → Prop) (wi : TI) (g : TG) (tt : TT) (tk tv : TE) (vs : List Nat) : TE := fun σ H Qk => wi σ H fun J Ha => ∀ Dk, Ha Dk = none → ∃ W : Nat → Nat → Hp → Prop, (∃ m, W 0 m (upd Ha Dk (o0 Dk))) ∧ ∀ i m H, W i m H →
  (J.stop i H ∧ Qk (.ref Dk) H) ∨ (J.go i H ∧ ∃ Nx : Hp → Prop, (∀ H', Nx H' → ∃ m', m' < m ∧ W (i + 1) m' H') ∧ ∀ xq H', J.yld i H xq H' → g xq (wipe σ vs) H' fun σq Hb => wipe σq vs = wipe σ vs ∧ tt σq Hb fun bq Hc =>
    if bq = true then tk σq Hc fun yq Hd => tv σq Hd fun zq He => ∃ Hf, Pt Dk He yq zq Hf ∧ Nx Hf else Nx Hc)
theorem dg_core {pps : List (Addr × Obj)} {s : Shared} {σ : L2.St} {H : Hp} {Qk : VK} {kx vx tg iter : Expr} {ifs : List Expr} {scope : Scope} {own : List (Str × Nat)} {pos pos' : Pos} {o0 : Addr → HO} {Pt : Addr → Hp → V → V → Hp → Prop} {wi : TI} {g : TG} {tt : TT} {tk tv : TE} {use : Option (Value → Sem Unit)} {Qf : Value → Shared → Prop}
    (hO : ∀ (H : Hp) (h : Heap), sysModules < h.objs.size → ObjOk X.prog X.w H (h.push { cls := .type "dict", data := .dict #[] }) h.objs.size (o0 h.objs.size)) (hP : ∀ (s : Shared) (H : Hp) (Dk : Addr) (cl : List (Str × Addr)) (fp : List Addr), PutOk (X.blk s H scope (compEnvC scope cl Dk X.env) fp) Pt) (hcl : X.calm = true) (hN : X.N.Nodup) (I : Inv X pps σ H s) (hi : PI X tg iter wi) (ok : BlkOk X.N X.env.scope scope own)
    (hg : ∀ (s : Shared) (H : Hp) (C : Addr) (cl : List (Str × Addr)) (fp : List Addr), PG (X.blk s H scope (compEnvC scope cl C X.env) fp) tg g) (ht : ∀ (s : Shared) (H : Hp) (C : Addr) (cl : List (Str × Addr)) (fp : List Addr), PTs (X.blk s H scope (compEnvC scope cl C X.env) fp) ifs tt)
    (hk : ∀ (s : Shared) (H : Hp) (C : Addr) (cl : List (Str × Addr)) (fp : List Addr), PE (X.blk s H scope (compEnvC scope cl C X.env) fp) kx tk)
    (he : ∀ (s : Shared) (H : Hp) (C : Addr) (cl : List (Str × Addr)) (fp : List Addr), PE (X.blk s H scope (compEnvC scope cl C X.env) fp) vx tv) (hs : ∀ xq, foldedSetIterable iter X.env xq = pure xq)
    (h : tDg o0 Pt wi g tt tk tv (own.map (·.2)) σ H Qk)
    (hRd : ∀ Dk C s' mq H', Inv X pps σ H' s' → Qk (.ref Dk) H' → s'.heap.Ns C mq → FpOk X pps H' C → compPost (model X.prog X.w) X.A X.xe use Qf (.ref Dk) C (.ok .next) s') :
    wpAny (model X.prog X.w) X.A (comprehension (.DictComp kx vx [⟨tg, iter, ifs, 0⟩] scope pos) scope X.env pos' newDict false (eval iter X.env) use) Qf X.xe s := by
  have hfr : ∀ yq ∈ scope.names, yq.2 = .free → ∃ cq, X.env.cells.lookup yq.1 = some cq := fun yq hy ee => by
    rcases ok.free yq hy ee with k | k
    · exact I.ok.has _ (.inl k)
    · exact I.ok.has _ (.inr k)
  refine wpAny_comprehension_free (use := use) rfl hs (closure_ok hfr) ok.kind (fun yq hy ee => by rw [ok.uniq yq hy, ee])
    (thn (hi.run pps s σ H _ I h) fun xv sa1 hx => thn hx fun itv sa2 h2 => ?_)
  obtain ⟨it, fp, tn, J, Hb2, ee, Ib2, T, st2, k2, q⟩ := h2
  subst ee
  refine wpAny_newObj_type (newEnv_comp ?_)
  generalize eD : sa2.heap.objs.size = Dk
  have nD0 : Hb2 Dk = none := Ib2.hok.fresh (Nat.le_of_eq eD)
  obtain ⟨W, ⟨m0, w0⟩, turn⟩ := q Dk nD0
  -- the new list
  generalize es3 : ({ sa2 with heap := sa2.heap.push { cls := .type "dict", data := .dict #[] } } : Shared) = sa3
  have Ib3 : Inv X pps σ (upd Hb2 Dk (o0 Dk)) sa3 := by
    rw [← es3]
    refine Ib2.laid (t' := sa2.toks) (fun bq o ee => Heap.get?_push_of_some _ ee) (Nat.le_of_eq eD) ?_
    rw [← eD]
    exact hO _ sa2.heap Ib2.big
  have h3 : sa3.heap = sa2.heap.push { cls := .type "dict", data := .dict #[] } := by rw [← es3]
  have szz : ∀ bq ∈ fp, bq < sa2.heap.objs.size := fun bq hb => by
    obtain ⟨o, ee, _⟩ := T.obj _ _ st2 bq hb
    exact Heap.lt_size ee
  have fq3 : ∀ bq ∈ fp, FpOk X pps (upd Hb2 Dk (o0 Dk)) bq ∧ bq < sa3.heap.objs.size := fun bq hb => by
    have hlt := szz bq hb
    refine ⟨⟨?_, (k2 bq hb).2⟩, by rw [h3, Heap.size_push]; exact Nat.lt_succ_of_lt hlt⟩
    rw [upd_ne (by rw [← eD]; exact Nat.ne_of_lt hlt)]
    exact (k2 bq hb).1
  have sq3 : tn 0 sa3.heap := T.keep _ _ _ st2 fun bq _ o ee => by rw [h3]; exact Heap.get?_push_of_some _ ee
  have Ib4 := block_start Ib3 ok hN fq3
  have pg := hg sa3 (upd Hb2 Dk (o0 Dk)) sa3.heap.objs.size (cellsFrom (sa3.heap.objs.size + 1) scope.names (cloFrom X.env.cells scope.names [])) fp
  have pt := ht sa3 (upd Hb2 Dk (o0 Dk)) sa3.heap.objs.size (cellsFrom (sa3.heap.objs.size + 1) scope.names (cloFrom X.env.cells scope.names [])) fp
  have pk := hk sa3 (upd Hb2 Dk (o0 Dk)) sa3.heap.objs.size (cellsFrom (sa3.heap.objs.size + 1) scope.names (cloFrom X.env.cells scope.names [])) fp
  have ppt := hP sa3 (upd Hb2 Dk (o0 Dk)) sa3.heap.objs.size (cellsFrom (sa3.heap.objs.size + 1) scope.names (cloFrom X.env.cells scope.names [])) fp
  have pe := he sa3 (upd Hb2 Dk (o0 Dk)) sa3.heap.objs.size (cellsFrom (sa3.heap.objs.size + 1) scope.names (cloFrom X.env.cells scope.names [])) fp
  show codeAny _ _ (.compStart (.DictComp kx vx [⟨tg, iter, ifs, 0⟩] scope pos) 0 (.ref it) (.ref Dk) (compEnvC scope (cellsFrom (sa3.heap.objs.size + 1) scope.names (cloFrom X.env.cells scope.names [])) sa3.heap.objs.size X.env)) (compPost (model X.prog X.w) X.A X.xe use Qf (.ref Dk) sa3.heap.objs.size) { sa3 with heap := pushCells (sa3.heap.push { cls := .type "dict", data := .dict #[] }) scope.names }
  have nfp : ∀ bq ∈ fp, (upd Hb2 Dk (o0 Dk)) bq = none := fun bq hb => (fq3 bq hb).1.1
  generalize hce : compEnvC scope (cellsFrom (sa3.heap.objs.size + 1) scope.names (cloFrom X.env.cells scope.names [])) sa3.heap.objs.size X.env = cenv at Ib4 pg pt pk pe ppt ⊢
  have cLo : cenv.locals = sa3.heap.objs.size := by subst hce; rfl
  generalize hH3 : upd Hb2 Dk (o0 Dk) = Hb3 at Ib3 Ib4 pg pt pk pe ppt w0 nfp fq3
  generalize es4 : ({ sa3 with heap := pushCells (sa3.heap.push { cls := .type "dict", data := .dict #[] }) scope.names } : Shared) = sa4 at Ib4 ⊢
  have sq4 : tn 0 sa4.heap := T.keep _ _ _ sq3 fun bq _ o ee => by rw [← es4]; exact pushCells_keeps _ _ _ _ (Heap.get?_push_of_some _ ee)
  have stt : ∀ {σ' : L2.St} {H' : Hp} {s' : Shared}, Inv (X.blk sa3 Hb3 scope cenv fp) [] σ' H' s' → (∀ bq ∈ fp, H' bq = none) → ∀ bq ∈ fp, FpOk (X.blk sa3 Hb3 scope cenv fp) [] H' bq := fun {σ' H' s'} I' hn bq hb =>
    ⟨hn bq hb, (I'.ok.exf bq hb).1, I'.ok.exfs bq hb, .inl hb, fun xq cq ee => (I'.ok.exf bq hb).2 xq cq ee, fun p hp => absurd (show p ∈ ([] : List (Addr × Obj)) ++ [] from hp) (by simp)⟩
  have lop : codeAny (model X.prog X.w) X.A (.compLoop (.DictComp kx vx [⟨tg, iter, ifs, 0⟩] scope pos) 0 (.ref it) (.ref Dk) cenv) (compPost (model X.prog X.w) X.A X.xe use Qf (.ref Dk) sa3.heap.objs.size) sa4 := by
    refine compLoop_anyD (fun n s' => ∃ i H', Inv (X.blk sa3 Hb3 scope cenv fp) [] (wipe σ (own.map (·.2))) H' s' ∧ tn i s'.heap ∧ (∀ bq ∈ fp, H' bq = none) ∧ W i n H') ?_ m0 ⟨0, Hb3, Ib4, sq4, nfp, w0⟩
    rintro n sa5 ⟨i, Hb5, Ib5, st5, nq5, w5⟩
    rcases turn i n Hb5 w5 with ⟨stop, qq⟩ | ⟨go, Nx, hNx, step⟩
    · have tdn := T.done (X.blk sa3 Hb3 scope cenv fp) rfl rfl rfl hcl i [] sa5 _ Hb5 (fun _ _ => False) Ib5 (stt Ib5 nq5) st5 stop
      refine thnF tdn fun r sa6 ⟨hr, Ib6⟩ => ?_
      subst hr
      -- back in the def's context
      have Ib7 : Inv X pps σ Hb5 sa6 := Ib3.call' (ch := fp) Ib6.os Ib6.base Ib6.hok Ib6.bare fun bq hb => ⟨(fq3 bq hb).1.2.2.2.1, (fq3 bq hb).1.2.1, (fq3 bq hb).1.2.2.2.2.1, (fq3 bq hb).1.2.2.2.2.2⟩
      have nC : Hb5 sa3.heap.objs.size = none := by
        have z : Hb5 cenv.locals = none := Ib6.free
        rw [cLo] at z
        exact z
      obtain ⟨mq, hn, _⟩ := Ib6.loc
      have hn : sa6.heap.Ns cenv.locals mq := hn
      rw [cLo] at hn
      exact hRd Dk sa3.heap.objs.size sa6 mq Hb5 Ib7 qq hn (Ib3.fpOk (Nat.le_refl _) nC)
    · have tim := T.item (X.blk sa3 Hb3 scope cenv fp) rfl rfl rfl hcl i [] sa5 _ Hb5 (fun _ _ => False) Ib5 (stt Ib5 nq5) st5 go
      refine thnF tim fun r sa6 ⟨u, hr, h6⟩ => ?_
      subst hr
      refine thnF h6 fun _ sa7 ⟨xq, Hb7, Ib7, r7, y7, st7, n7⟩ => ?_
      have I7' := Ib7.pinned (stt Ib7 n7) (T.obj _ _ st7)
      refine thnF (pg.run _ sa7 _ Hb7 xq u _ I7' r7 (step xq Hb7 y7)) fun _ sa8 ⟨σ8, H8, Ib8, gw8, q8⟩ => ?_
      refine thnF (pt.run _ sa8 σ8 H8 _ Ib8 q8) fun bq sa9 ⟨Hb9, Ib9, q9⟩ => ?_
      -- the turn's end
      have fnn : ∀ {s' : Shared} {H' : Hp}, Inv (X.blk sa3 Hb3 scope cenv fp) ([] ++ pinsAt fp sa7.heap) σ8 H' s' → Nx H' → ∃ mq, mq < n ∧ ∃ i H', Inv (X.blk sa3 Hb3 scope cenv fp) [] (wipe σ (own.map (·.2))) H' s' ∧ tn i s'.heap ∧ (∀ bq ∈ fp, H' bq = none) ∧ W i mq H' := fun {s' H'} I' nx => by
        obtain ⟨m', hm, w'⟩ := hNx H' nx
        have pnn : ∀ bq ∈ fp, ∀ o, sa7.heap.get? bq = some o → s'.heap.get? bq = some o ∧ H' bq = none := fun bq hb o ee =>
          let z := I'.pin (bq, o) (List.mem_append_right _ (List.mem_append_right _ (mem_pinsAt hb ee)))
          ⟨z.1, z.2.1⟩
        have gl : (wipe σ (own.map (·.2))).length = σ8.length := by rw [← gw8, wipe_length]
        refine ⟨m', hm, i + 1, H', (I'.unpinned (pins := [])).weak gl (fun jq vq ee => ?_), T.keep _ _ _ st7 fun bq hb o ee => (pnn bq hb o ee).1, fun bq hb => ?_, w'⟩
        · rw [← gw8] at ee
          exact (wipe_some ee).1
        · obtain ⟨o, ee, _⟩ := T.obj _ _ st7 bq hb
          exact (pnn bq hb o ee).2
      cases bq with
      | false =>
        simp only [Bool.false_eq_true, if_false] at q9 ⊢
        exact fnn Ib9 q9
      | true =>
        simp only [if_true] at q9 ⊢
        refine thnF (pk.run _ sa9 σ8 Hb9 _ Ib9 q9) fun z sa10 ⟨yk, H10, I10, r10, q10⟩ => ?_
        refine thnF (pe.run _ sa10 σ8 H10 _ I10 q10) fun z2 sa11 ⟨yv, H11, I11, r11, H12, pt12, nx⟩ => ?_
        exact ppt.run pt12 I11 r10 r11 fun sa12 I12 => fnn I12 nx
  exact codeAny_compStart_dict lop (T.self X.A 0 _ _ _ sq4 lop)
theorem pe_dg {kx vx tg iter : Expr} {ifs : List Expr} {scope : Scope} {own : List (Str × Nat)} {pos : Pos} {o0 : Addr → HO} {Pt : Addr → Hp → V → V → Hp → Prop} {wi : TI} {g : TG} {tt : TT} {tk tv : TE} (hO : ∀ (H : Hp) (h : Heap), sysModules < h.objs.size → ObjOk X.prog X.w H (h.push { cls := .type "dict", data := .dict #[] }) h.objs.size (o0 h.objs.size)) (hP : ∀ (s : Shared) (H : Hp) (Dk : Addr) (cl : List (Str × Addr)) (fp : List Addr), PutOk (X.blk s H scope (compEnvC scope cl Dk X.env) fp) Pt) (hcl : X.calm = true) (hN : X.N.Nodup) (hi : PI X tg iter wi) (ok : BlkOk X.N X.env.scope scope own)
    (hg : ∀ (s : Shared) (H : Hp) (C : Addr) (cl : List (Str × Addr)) (fp : List Addr), PG (X.blk s H scope (compEnvC scope cl C X.env) fp) tg g) (ht : ∀ (s : Shared) (H : Hp) (C : Addr) (cl : List (Str × Addr)) (fp : List Addr), PTs (X.blk s H scope (compEnvC scope cl C X.env) fp) ifs tt)
    (hk : ∀ (s : Shared) (H : Hp) (C : Addr) (cl : List (Str × Addr)) (fp : List Addr), PE (X.blk s H scope (compEnvC scope cl C X.env) fp) kx tk)
    (he : ∀ (s : Shared) (H : Hp) (C : Addr) (cl : List (Str × Addr)) (fp : List Addr), PE (X.blk s H scope (compEnvC scope cl C X.env) fp) vx tv) (hs : ∀ xq, foldedSetIterable iter X.env xq = pure xq := by intro _; rfl) :
    PE X (.DictComp kx vx [⟨tg, iter, ifs, 0⟩] scope pos) (tDg o0 Pt wi g tt tk tv (own.map (·.2))) := by
  refine ⟨fun pps s σ H Qk I h => ?_⟩
  rw [arm_eval_DictComp]
  refine dg_core hO hP hcl hN I hi ok hg ht hk he hs h fun Dk C s' mq H' I' q hn f => ⟨mq, hn, fun h'' sb => ?_⟩
  obtain ⟨k0, k1, k2, fq3, k4, k5⟩ := f
  exact ⟨.ref Dk, H', I'.turned (t' := s'.toks) (fun bq o hb ee => (sb.2 bq hb).trans ee) k0 k1 fq3 k4 k5, rfl, q⟩
end
/-! ### tables by ints, and by tuples of ints -/
def PtK : Addr → Hp → V → V → Hp → Prop := fun Dk H yk zk H' => ∃ kvs k, yk = kV k ∧ H Dk = some (.dK kvs) ∧ kvs.length < sizeLine ∧ H' = upd H Dk (.dK (putK kvs k zk))
theorem putOkK {X : Cx} : PutOk X PtK := by
  refine ⟨?_⟩
  intro pps s σ H H' Dk yk zk u r Qk EE p I ry rz h
  obtain ⟨kvs, k, rfl, e, l, rfl⟩ := p
  exact d_dictSet I e l ry rz h
abbrev TK (P : Program) (w : World) : HeapKind P w (List Key) := tupleKind (mixKind P w)
/-- the object at Dk is a table, its keys (with the tuples that stand for them) are ks -/
def DicT (P : Program) (w : World) (Dk : Addr) (ks : List (List Key × Addr)) (h : Heap) : Prop :=
  (Dk == sysModules) = false ∧ ∃ (xs : List (List Key × Addr × Value)) (o : Obj) (es : Array DictEntry) (ep : Nat), xs.map (fun x => (x.1, x.2.1)) = ks ∧ h.get? Dk = some o ∧ o.ExactDict ∧ o.data = .dict es ep ∧ es.toList = xs.map (entryOfKey (TK P w)) ∧ (xs.map (·.1)).Nodup
def addA (ks : List (List Key × Addr)) (k : List Key) (b : Addr) : List (List Key × Addr) := if (ks.any fun x => decide (x.1 = k)) = true then ks else ks ++ [(k, b)]
theorem stored_addA (k : List Key) (b : Addr) (v : Value) (xs : List (List Key × Addr × Value)) : (storedH xs k b v).map (fun x => (x.1, x.2.1)) = addA (xs.map fun x => (x.1, x.2.1)) k b := by
  have ea : (atKey xs k).isSome = (xs.map fun x => (x.1, x.2.1)).any fun x => decide (x.1 = k) := by
    unfold atKey
    rw [Option.isSome_map, List.any_map]
    induction xs with
    | nil => rfl
    | cons x r ih =>
      rw [List.find?_cons, List.any_cons]
      show _ = (decide (x.1 = k) || _)
      cases hd : decide (x.1 = k) with
      | true => rfl
      | false => rw [Bool.false_or]; exact ih
  unfold storedH addA
  rw [ea]
  by_cases c : ((xs.map fun x => (x.1, x.2.1)).any fun x => decide (x.1 = k)) = true
  · rw [if_pos c, if_pos c, List.map_map]
    refine List.map_congr_left fun x _ => ?_
    show ((putAt k v x).1, (putAt k v x).2.1) = _
    unfold putAt
    split <;> rfl
  · rw [if_neg c, if_neg c, List.map_append]
    rfl
def oT (P : Program) (w : World) (Dk : Addr) : HO := .ext (DicT P w Dk [])
theorem dicT_keep {P : Program} {w : World} {Dk : Addr} {ks : List (List Key × Addr)} {h h' : Heap} (q : DicT P w Dk ks h) (k : ∀ o, h.get? Dk = some o → h'.get? Dk = some o) : DicT P w Dk ks h' := by
  obtain ⟨a, xs, o, es, ep, e, g, r⟩ := q
  exact ⟨a, xs, o, es, ep, e, k _ g, r⟩
theorem ext_of {P : Program} {w : World} {Dk : Addr} {ks : List (List Key × Addr)} {H : Hp} {h : Heap} (q : DicT P w Dk ks h) : ObjOk P w H h Dk (.ext (DicT P w Dk ks)) := by
  refine ⟨q, ?_, fun h1 h2 p k => dicT_keep p k⟩
  obtain ⟨_, xs, o, es, ep, e, g, r⟩ := q
  exact ⟨o, g⟩
theorem oT_new {P : Program} {w : World} (H : Hp) (h : Heap) (hb : sysModules < h.objs.size) : ObjOk P w H (h.push { cls := .type "dict", data := .dict #[] }) h.objs.size (oT P w h.objs.size) :=
  ext_of ⟨beq_false_of_ne (Nat.ne_of_gt hb), [], _, #[], 0, rfl, Heap.get?_push_size _ rfl, ⟨rfl, rfl, rfl⟩, rfl, rfl, List.nodup_nil⟩
theorem is_key {X : Cx} {pps : List (Addr × Obj)} {σ : L2.St} {H : Hp} {s : Shared} (I : Inv X pps σ H s) {a : Addr} {k : List Key} (h : SqT X.K H a (k.map kV)) : (TK X.prog X.w).is s.heap k a := by
  obtain ⟨its, r, ⟨o, g, hc, n, hd⟩, _⟩ := I.tuple h
  exact ⟨o, its.toArray, n, g, hc, hd, by simpa using items_are r⟩
def PtT (P : Program) (w : World) (K : PySem.W.Frag) : Addr → Hp → V → V → Hp → Prop := fun Dk H yk zk H' => ∃ ks k b, yk = .ref b ∧ H Dk = some (.ext (DicT P w Dk ks)) ∧ ks.length < sizeLine ∧ SqT K H b (k.map kV) ∧ (∀ x ∈ ks, SqT K H x.2 (x.1.map kV)) ∧
  H' = upd H Dk (.ext (DicT P w Dk (addA ks k b)))
theorem dicT_H {X : Cx} {pps : List (Addr × Obj)} {σ : L2.St} {H : Hp} {s : Shared} (I : Inv X pps σ H s) {Dk : Addr} {ks : List (List Key × Addr)} (e : H Dk = some (.ext (DicT X.prog X.w Dk ks))) (ha : ∀ x ∈ ks, SqT X.K H x.2 (x.1.map kV)) :
    (Dk == sysModules) = false ∧ ∃ xs, xs.map (fun x => (x.1, x.2.1)) = ks ∧ s.heap.DictOfH (TK X.prog X.w) Dk xs := by
  obtain ⟨⟨a, xs, o, es, ep, e1, g, c1, c2, c3, c4⟩, _⟩ := (show ObjOk X.prog X.w H s.heap Dk (.ext (DicT X.prog X.w Dk ks)) from I.hok Dk _ e)
  refine ⟨a, xs, e1, o, es, ep, g, c1, c2, c3, fun x hx => ?_, c4⟩
  have := ha (x.1, x.2.1) (by rw [← e1]; exact List.mem_map.mpr ⟨x, hx, rfl⟩)
  exact is_key I this
theorem putOkT {X : Cx} (hu : X.A.units + 65 < cLine) : PutOk X (PtT X.prog X.w X.K) := by
  refine ⟨?_⟩
  intro pps s σ H H' Dk yk zk u r Qk EE p I ry rz h
  obtain ⟨ks, k, b, rfl, e, l, hb, ha, rfl⟩ := p
  obtain rfl : u = Value.ref b := ry
  obtain ⟨hd, xs, e1, dd⟩ := dicT_H I e ha
  have hl : xs.length ≤ sizeLine := by
    have := congrArg List.length e1
    rw [List.length_map] at this
    omega
  refine wpAny_dictSet_heap (hsz := hl) (show X.A.units < cLine by omega) (is_key I hb) dd fun h' dd' hs => h _ ?_
  obtain ⟨q, es, ep, hq, h2, h3, h4, _, h5⟩ := dd'
  refine d_write I (by rw [e]; exact True.intro) hs ⟨q, hq⟩ (ext_of ⟨hd, _, q, es, ep, ?_, hq, h2, h3, h4, h5⟩)
  rw [stored_addA, e1]
/-- len of such a table -/
def rLenD (P : Program) (w : World) (K : PySem.W.Frag) : List V → Hp → VK → Prop := fun vs H Qk => ∃ p, vs = [.ref p] ∧
  ((∃ kvs : List (Key × V), H p = some (.dK kvs) ∧ Qk (.int kvs.length) H) ∨ ∃ ks, H p = some (.ext (DicT P w p ks)) ∧ ks.length ≤ 16777216 ∧ (∀ x ∈ ks, SqT K H x.2 (x.1.map kV)) ∧ Qk (.int ks.length) H)
theorem cr_lenD {X : Cx} : CallR X (.builtin "len") (rLenD X.prog X.w X.K) := by
  intro pps s σ H vs us Qk I r h
  obtain ⟨p, rfl, h⟩ := h
  obtain ⟨u, rfl, rx⟩ := vals1 r
  obtain rfl : u = .ref p := rx
  rcases h with ⟨kvs, e, q⟩ | ⟨ks, e, l, ha, q⟩
  · exact d_len I (.inl e) fun t s' I' => ⟨.int kvs.length, H, I', ⟨t, rfl⟩, q⟩
  · obtain ⟨hd, xs, e1, dd⟩ := dicT_H I e ha
    have hl : xs.length = ks.length := by rw [← e1, List.length_map]
    refine call_len_dictH hd dd (by omega) ?_
    rw [hl]
    exact ⟨.int ks.length, H, I.tok _, ⟨_, rfl⟩, q⟩

/-! ### what is read -/
section
variable {κ : Type} [DecidableEq κ]
def addK (ks : List κ) (k : κ) : List κ := if (ks.any fun x => decide (x = k)) = true then ks else ks ++ [k]
/-- the different ones, in the order of their first places -/
def dedK (l : List κ) : List κ := l.foldl addK []
theorem addK_le (ks : List κ) (k : κ) : (addK ks k).length ≤ ks.length + 1 := by
  unfold addK
  split
  · omega
  · rw [List.length_append]; exact Nat.le_refl _
end
/-- a kind of tables: keys, how they are read from data -/
structure Tabs (K : PySem.W.Frag) (P : Program) (w : World) (κ : Type) [DecidableEq κ] (kf : PyData → Option κ) (o0 : Addr → HO) (Pt : Addr → Hp → V → V → Hp → Prop) where
  T : Hp → Ow → Addr → List κ → Prop
  t0 : ∀ H ow Dk, T (upd H Dk (o0 Dk)) ow Dk []
  st : ∀ H ow H' ow' Dk ks, T H ow Dk ks → H' Dk = H Dk → Stay H ow H' ow' → T H' ow' Dk ks
  at' : ∀ H ow Dk ks, T H ow Dk ks → ∃ o, H Dk = some o
  put : ∀ H ow Dk ks v z y k, T H ow Dk ks → DV K H ow v y → kf y = some k → ks.length < 16777216 → (∃ i, ow Dk = some i) → ∃ o, Pt Dk H v z (upd H Dk o) ∧ T (upd H Dk o) ow Dk (addK ks k)
  len : ∀ H ow Dk ks (Qk : VK), T H ow Dk ks → ks.length ≤ 16777216 → Qk (.int ks.length) H → rLenD P w K [.ref Dk] H Qk
def kI : PyData → Option Int | .int n => some n | _ => none
def kIs : List PyData → Option (List Int)
  | [] => some []
  | .int n :: r => (kIs r).map (n :: ·)
  | _ :: _ => none
def kT : PyData → Option (List Int) | .tuple ds => kIs ds | _ => none
theorem kIs_map : ∀ ns : List Int, kIs (ns.map .int) = some ns
  | [] => rfl
  | n :: r => by show (kIs (r.map .int)).map (n :: ·) = _; rw [kIs_map r]; rfl
theorem kIs_some : ∀ {ds : List PyData} {ns : List Int}, kIs ds = some ns → ds = ns.map .int
  | [], ns, h => by cases h; rfl
  | d :: r, ns, h => by
    cases d with
    | int n =>
      have h : (kIs r).map (n :: ·) = some ns := h
      obtain ⟨m, e, rfl⟩ := Option.map_eq_some_iff.mp h
      rw [kIs_some e]; rfl
    | _ => cases h
def mixK (n : Int) : Key := .inl n
theorem kV_ints (ns : List Int) : (ns.map mixK).map kV = ns.map V.int := by rw [List.map_map]; rfl
theorem any_conv {α β : Type} [DecidableEq α] [DecidableEq β] (f : α → β) (hf : ∀ a b, f a = f b → a = b) (k : α) (l : List α) : ((l.map f).any fun x => decide (x = f k)) = l.any fun x => decide (x = k) := by
  rw [List.any_map]
  refine congrArg (fun g => List.any l g) (funext fun x => ?_)
  show decide (f x = f k) = decide (x = k)
  exact decide_eq_decide.mpr ⟨fun h => hf _ _ h, fun h => by rw [h]⟩
theorem putK_keys {kvs : List (Key × V)} {k : Key} {z : V} : (putK kvs k z).map (·.1) = addK (kvs.map (·.1)) k := by
  unfold putK addK
  have ea : (kvs.any fun kv => decide (kv.1 = k)) = (kvs.map (·.1)).any fun x => decide (x = k) := by rw [List.any_map]; rfl
  rw [ea]
  by_cases c : ((kvs.map (·.1)).any fun x => decide (x = k)) = true
  · rw [if_pos c, if_pos c, List.map_map]
    refine List.map_congr_left fun x _ => ?_
    show (if x.1 = k then (x.1, z) else x).1 = x.1
    split <;> rfl
  · rw [if_neg c, if_neg c, List.map_append]; rfl
theorem addK_map {α β : Type} [DecidableEq α] [DecidableEq β] (f : α → β) (hf : ∀ a b, f a = f b → a = b) (l : List α) (k : α) : addK (l.map f) (f k) = (addK l k).map f := by
  unfold addK
  rw [any_conv f hf]
  split
  · rfl
  · rw [List.map_append]; rfl
def tabsK (K : PySem.W.Frag) (P : Program) (w : World) : Tabs K P w Int kI (fun _ => .dK []) PtK where
  T := fun H ow Dk ks => ∃ kvs : List (Key × V), H Dk = some (.dK kvs) ∧ kvs.map (·.1) = ks.map mixK
  t0 := fun H ow Dk => ⟨[], upd_same, rfl⟩
  st := fun H ow H' ow' Dk ks ⟨kvs, a, b⟩ e _ => ⟨kvs, e.trans a, b⟩
  at' := fun H ow Dk ks ⟨kvs, a, _⟩ => ⟨_, a⟩
  put := fun H ow Dk ks v z y k ⟨kvs, a, b⟩ d e l _ => by
    cases y with
    | int n =>
      cases e
      cases d
      have hl : kvs.length = ks.length := by have := congrArg List.length b; simpa using this
      refine ⟨_, ⟨kvs, mixK k, rfl, a, by rw [sizeLine_eq]; omega, rfl⟩, _, upd_same, ?_⟩
      rw [putK_keys, b]
      exact addK_map mixK (fun x y h => by cases h; rfl) ks k
    | _ => cases e
  len := fun H ow Dk ks Qk ⟨kvs, a, b⟩ l q => ⟨Dk, rfl, .inl ⟨kvs, a, by
    have hl : kvs.length = ks.length := by have := congrArg List.length b; simpa using this
    rw [hl]; exact q⟩⟩
theorem dvs_ints {K : PySem.W.Frag} {H : Hp} {ow : Ow} : ∀ {ns : List Int} {xs : List V}, DVs K H ow xs (ns.map .int) → xs = ns.map V.int
  | [], _, h => by cases h; rfl
  | n :: r, _, h => by
    cases h with
    | cons h1 h2 => cases h1; rw [dvs_ints h2]; rfl
def tabsT (K : PySem.W.Frag) (P : Program) (w : World) : Tabs K P w (List Int) kT (oT P w) (PtT P w K) where
  T := fun H ow Dk ks => ∃ as : List (List Key × Addr), H Dk = some (.ext (DicT P w Dk as)) ∧ as.map (·.1) = ks.map (fun ns => ns.map mixK) ∧ ∀ x ∈ as, FT K H ow x.2 (x.1.map kV)
  t0 := fun H ow Dk => ⟨[], upd_same, rfl, fun x hx => nomatch hx⟩
  st := fun H ow H' ow' Dk ks ⟨as, a, b, c⟩ e st => ⟨as, e.trans a, b, fun x hx => (c x hx).stay st⟩
  at' := fun H ow Dk ks ⟨as, a, _⟩ => ⟨_, a⟩
  put := fun H ow Dk ks v z y k ⟨as, a, b, c⟩ d e l ho => by
    obtain ⟨i, ho⟩ := ho
    cases y with
    | tuple ds =>
      have e := kIs_some (show kIs ds = some k from e)
      subst e
      cases d with
      | @tup p xs _ h1 h2 hz =>
        rw [dvs_ints h2] at h1
        rw [← kV_ints] at h1
        have hl : as.length = ks.length := by have := congrArg List.length b; simpa using this
        refine ⟨_, ⟨as, k.map mixK, p, rfl, a, by rw [sizeLine_eq]; omega, h1.sq, fun x hx => (c x hx).sq, rfl⟩, _, upd_same, ?_, ?_⟩
        · have := addK_map (fun ns : List Int => ns.map mixK) (fun x y h => by
            have inj : ∀ {x y : List Int}, x.map mixK = y.map mixK → x = y := by
              intro x
              induction x with
              | nil => intro y h; cases y with
                | nil => rfl
                | cons _ _ => cases h
              | cons p r ih => intro y h; cases y with
                | nil => cases h
                | cons q t => injection h with h1 h2; cases h1; rw [ih h2]
            exact inj h) ks k
          rw [← this, ← b]
          unfold addA addK
          have ea : (as.any fun x => decide (x.1 = k.map mixK)) = (as.map (·.1)).any fun x => decide (x = k.map mixK) := by rw [List.any_map]; rfl
          rw [ea]
          split
          · rfl
          · rw [List.map_append]; rfl
        · have st : Stay H ow (upd H Dk (.ext (DicT P w Dk (addA as (k.map mixK) p)))) ow := fun q o h h' => ⟨by rw [upd_ne (fun z => by rw [z, ho] at h'; cases h')]; exact h, h'⟩
          intro x hx
          unfold addA at hx
          split at hx
          · exact (c x hx).stay st
          · rcases List.mem_append.mp hx with hx | hx
            · exact (c x hx).stay st
            · simp only [List.mem_singleton] at hx
              subst hx
              exact h1.stay st
    | _ => cases e
  len := fun H ow Dk ks Qk ⟨as, a, b, c⟩ l q => ⟨Dk, rfl, .inr ⟨as, a, by
    have hl : as.length = ks.length := by have := congrArg List.length b; simpa using this
    omega, fun x hx => (c x hx).sq, by
    have hl : as.length = ks.length := by have := congrArg List.length b; simpa using this
    rw [hl]; exact q⟩⟩
/-- one key of a display -/
def eKey {κ : Type} (kf : PyData → Option κ) (tk tv : Env → Rs PyData) : Env → Rs PyData := fun env => (tk env).bind fun y e => (tv e).bind fun _ e2 => if (kf y).isSome = true then .ok y e2 else .no
def dcK {κ : Type} [DecidableEq κ] (kf : PyData → Option κ) (ys : List PyData) : List κ := dedK (ys.filterMap kf)
def eLenDc {κ : Type} [DecidableEq κ] (kf : PyData → Option κ) (it : Env → Rs (List PyData)) (g : PyData → Env → Option Env) (tt : Env → Rs Bool) (tk tv : Env → Rs PyData) (vs : List Nat) : Env → Rs PyData := fun env =>
  (eComp0 it g tt (eKey kf tk tv) vs env).bind fun r e => .ok (.int (dcK kf r).length) e
theorem dcK_snoc {κ : Type} [DecidableEq κ] {kf : PyData → Option κ} {ys : List PyData} {y : PyData} {k : κ} (h : kf y = some k) : dcK kf (ys ++ [y]) = addK (dcK kf ys) k := by
  unfold dcK dedK
  rw [List.filterMap_append, List.foldl_append, List.filterMap_cons, h]
  rfl
theorem dcK_le {κ : Type} [DecidableEq κ] (kf : PyData → Option κ) (ys : List PyData) : (dcK kf ys).length ≤ ys.length := by
  have : ∀ (l : List κ) (a : List κ), (l.foldl addK a).length ≤ a.length + l.length := by
    intro l
    induction l with
    | nil => intro a; exact Nat.le_refl _
    | cons x l ih => intro a; have h1 := ih (addK a x); have h2 := addK_le a x; rw [List.foldl_cons, List.length_cons]; omega
  have h1 := this (ys.filterMap kf) []
  have h2 := List.length_filterMap_le kf ys
  unfold dcK dedK
  simp at h1
  omega
section
variable {X : Cx} {C : Cc} {K : PySem.W.Frag} {it : Env → Rs (List PyData)} {g : PyData → Env → Option Env} {tt : Env → Rs Bool} {tk tv : Env → Rs PyData} {vs ts : List Nat} {κ : Type} [DecidableEq κ] {kf : PyData → Option κ} {o0 : Addr → HO} {Pt : Addr → Hp → V → V → Hp → Prop} {P : Program} {w : World}
theorem dg_it {J : It} {n : Nat} {G : Hp → Prop} {Y : Nat → Hp → V → Hp → Prop} (wk : Walk J n G Y) {g : TG} {tt : TT} {tk tv : TE} {σ : L2.St} {Ha : Hp} {Dk : Addr} {Qd : Hp → Prop} (Pv : Nat → Hp → Prop) (h0 : Pv 0 (upd Ha Dk (o0 Dk))) (hG : ∀ i H, i ≤ n → Pv i H → G H)
    (hs : ∀ i xq H H', i < n → Pv i H → Y i H xq H' → g xq (wipe σ vs) H' fun σq Hb => wipe σq vs = wipe σ vs ∧ tt σq Hb fun bq Hc =>
      if bq = true then tk σq Hc fun yq Hd => tv σq Hd fun zq He => ∃ Hf, Pt Dk He yq zq Hf ∧ Pv (i + 1) Hf else Pv (i + 1) Hc) (hd : ∀ H, Pv n H → Qd H) :
    ∃ W : Nat → Nat → Hp → Prop, (∃ m, W 0 m (upd Ha Dk (o0 Dk))) ∧ ∀ i m H, W i m H →
      (J.stop i H ∧ Qd H) ∨ (J.go i H ∧ ∃ Nx : Hp → Prop, (∀ H', Nx H' → ∃ m', m' < m ∧ W (i + 1) m' H') ∧ ∀ xq H', J.yld i H xq H' → g xq (wipe σ vs) H' fun σq Hb => wipe σq vs = wipe σ vs ∧ tt σq Hb fun bq Hc =>
        if bq = true then tk σq Hc fun yq Hd => tv σq Hd fun zq He => ∃ Hf, Pt Dk He yq zq Hf ∧ Nx Hf else Nx Hc) := by
  refine ⟨fun i m H => m = n - i ∧ i ≤ n ∧ Pv i H, ⟨n, Nat.sub_zero n |>.symm, Nat.zero_le _, h0⟩, fun i m H z => ?_⟩
  obtain ⟨rfl, hi, p⟩ := z
  have gg := hG i H hi p
  rcases Nat.lt_or_ge i n with hlt | hge
  · exact .inr ⟨wk.goes i H hlt gg, Pv (i + 1), fun H' p' => ⟨n - (i + 1), by omega, rfl, hlt, p'⟩, fun xq H' y => hs i xq H H' hlt p (wk.yields i H xq H' hlt gg y)⟩
  · cases Nat.le_antisymm hi hge
    exact .inl ⟨wk.stops H gg, hd H p⟩
theorem rd_dc (B : Tabs K P w κ kf o0 Pt) (hts : ∀ i ∈ ts, i ∈ vs) (hio : IoFreeAll C vs) {σ : L2.St} {H : Hp} {Q : VK} (h : rd K C (RE K) (eLenDc kf it g tt tk tv vs) σ H Q) :
    tDg o0 Pt (rd K C (RI K) it) (rdG K C.blk ts g) (rd K C.blk RT tt) (rd K C.blk (RE K) tk) (rd K C.blk (RE K) tv) vs σ H fun v H => rLenD P w K [v] H Q := by
  obtain ⟨env, ow, P0, h⟩ := h
  have h : rdAt K C (RE K) σ H ow Q ((it env).bind fun ds e => (compR vs e (compGo g tt (eKey kf tk tv) vs ds [] (wipeE e vs))).bind fun r e => .ok (.int (dcK kf r).length) e) := by
    have e : (eComp0 it g tt (eKey kf tk tv) vs env).bind (fun r e => Rs.ok (PyData.int (dcK kf r).length) e) = ((it env).bind fun ds e => (compR vs e (compGo g tt (eKey kf tk tv) vs ds [] (wipeE e vs))).bind fun r e => .ok (.int (dcK kf r).length) e) := by
      unfold eComp0
      cases it env <;> rfl
    rw [← e]; exact h
  refine ⟨env, ow, P0, rdAt_mono (rdAt_bind (R1 := RI K) h) fun J H1 ⟨ds, e1, ow1, X1, ⟨G, W, hG⟩, P1, h1⟩ => fun D hD => ?_⟩
  have grD : Gr H1 ow1 (upd H1 D (o0 D)) (give ow1 D (C.N + 1)) := Gr.newG hD
  have start : compGo g tt (eKey kf tk tv) vs (ds.drop 0) [] (wipeE e1 vs) = compGo g tt (eKey kf tk tv) vs ds [] (wipeE e1 vs) := by rw [List.drop_zero]
  generalize compGo g tt (eKey kf tk tv) vs ds [] (wipeE e1 vs) = rr at h1 start
  have okc : Ex0 rr := by
    cases rr with
    | ok _ _ => trivial
    | ex _ _ => exact h1.elim
    | no => exact h1.elim
  let Pv : Nat → Hp → Prop := fun i H2 => ∃ acc env2 ow2, B.T H2 ow2 D (dcK kf acc) ∧ ow2 D = some (C.N + 1) ∧ acc.length ≤ i ∧ G H2 ow2 ∧ Ext C.N H1 ow1 H2 ow2 ∧ RpE K C.blk H2 ow2 (wipe σ vs) env2 ∧
    compGo g tt (eKey kf tk tv) vs (ds.drop i) acc env2 = rr
  refine dg_it (n := ds.length) (G := fun H => ∃ ow, G H ow) (Y := fun i H x H' => ∀ ow, G H ow → ∃ ow' d, ds[i]? = some d ∧ Gr H ow H' ow' ∧ DV K H' ow' x d)
    ⟨fun i H hi ⟨ow, q⟩ => W.goes i H ow hi q, fun H ⟨ow, q⟩ => W.stops H ow q, fun i H x H' hi ⟨ow, q⟩ y ow' q' => W.yields i H ow' x H' hi q' y⟩ Pv ?_ ?_ ?_ ?_
  · exact ⟨[], wipeE e1 vs, _, B.t0 _ _ _, give_same, Nat.zero_le _, W.st _ _ _ _ hG grD.stay, grD.ext, ((P1.gr grD).wipe hio).blk, start⟩
  · rintro i H2 _ ⟨acc, env2, ow2, _, _, _, q, _⟩
    exact ⟨ow2, q⟩
  · rintro i x H2 H3 hi ⟨acc, env2, ow2, a1, a2, a4, a5, a6, a7, a8⟩ y
    obtain ⟨ow3, d, e2, g3, d3⟩ := y ow2 a5
    have hd : ds.drop i = d :: ds.drop (i + 1) := by
      have hl : i < ds.length := hi
      rw [List.drop_eq_getElem_cons hl]
      rw [List.getElem?_eq_getElem hl] at e2
      cases e2; rfl
    rw [hd, compGo] at a8
    have P3 := a7.gr g3
    refine ⟨env2, ow3, d, P3, d3, ?_⟩
    cases e3 : g d env2 with
    | none => rw [e3] at a8; rw [← a8] at okc; exact okc.elim
    | some env3 =>
      rw [e3] at a8
      replace a8 : ((tt env3).bind fun b e2 => if b = true then (eKey kf tk tv e2).bind fun y e3 => compGo g tt (eKey kf tk tv) vs (ds.drop (i + 1)) (acc ++ [y]) (wipeE e3 vs) else compGo g tt (eKey kf tk tv) vs (ds.drop (i + 1)) acc (wipeE e2 vs)) = rr := a8
      intro σ2 hσ P4
      have hw : wipe σ2 vs = wipe σ vs := by
        rw [wipe_eq (σ := wipe σ vs) (σ2 := σ2) (P4.lenS.trans P3.lenS.symm) fun j hj => hσ j fun z => hj (hts j z)]
        exact wipe_eq (wipe_length _ _) fun j hj => wipe_out hj
      refine ⟨hw, env3, ow3, P4, ?_⟩
      obtain ⟨oD, hoD⟩ := B.at' _ _ _ _ a1
      have bD3 := g3 D _ hoD
      have t3 : B.T H3 ow3 D (dcK kf acc) := B.st _ _ _ _ _ _ a1 (bD3.1.trans hoD.symm) g3.stay
      have X3 : Ext C.N H1 ow1 H3 ow3 := a6.trans g3.ext
      cases e4 : tt env3 with
      | no => rw [e4] at a8; rw [← a8] at okc; exact okc.elim
      | ex x e => rw [e4] at a8; rw [← a8] at okc; exact okc.elim
      | ok b env4 =>
        rw [e4] at a8
        intro b' H5 ow5 X5 eb P5
        subst eb
        have bD5 := X5 D _ bD3.1 (fun j z => by rw [bD3.2, a2] at z; have := Option.some.inj z; show C.N < j; omega)
        have t5 : B.T H5 ow5 D (dcK kf acc) := B.st _ _ _ _ _ _ t3 (bD5.1.trans bD3.1.symm) X5.stay
        have o5 : ow5 D = some (C.N + 1) := bD5.2.trans (bD3.2.trans a2)
        have G5 : G H5 ow5 := W.st _ _ _ _ (W.st _ _ _ _ a5 g3.stay) X5.stay
        cases b' with
        | false =>
          refine iteF ⟨acc, wipeE env4 vs, ow5, t5, o5, by omega, G5, X3.trans X5, ?_, ?_⟩
          · have := P5.wipe (vs := vs) (fun j hj => hio j hj)
            rw [hw] at this
            exact this
          · exact a8
        | true =>
          refine iteT ⟨env4, ow5, P5, ?_⟩
          cases e5 : tk env4 with
          | no => simp only [Rs.bind_ok, if_true, eKey, e5, Rs.bind_no] at a8; rw [← a8] at okc; exact okc.elim
          | ex x e => simp only [Rs.bind_ok, if_true, eKey, e5, Rs.bind_ex] at a8; rw [← a8] at okc; exact okc.elim
          | ok yd env5 =>
            simp only [Rs.bind_ok, if_true, eKey, e5] at a8
            intro yv H6 ow6 X6 dy P6
            have bD6 := X6 D _ bD5.1 (fun j z => by rw [o5] at z; have := Option.some.inj z; show C.N < j; omega)
            have t6 : B.T H6 ow6 D (dcK kf acc) := B.st _ _ _ _ _ _ t5 (bD6.1.trans bD5.1.symm) X6.stay
            have o6 : ow6 D = some (C.N + 1) := bD6.2.trans o5
            refine ⟨env5, ow6, P6, ?_⟩
            cases e6 : tv env5 with
            | no => simp only [e6, Rs.bind_no] at a8; rw [← a8] at okc; exact okc.elim
            | ex x e => simp only [e6, Rs.bind_ex] at a8; rw [← a8] at okc; exact okc.elim
            | ok zd env6 =>
              simp only [Rs.bind_ok, e6] at a8
              intro zv H7 ow7 X7 dz P7
              have bD7 := X7 D _ bD6.1 (fun j z => by rw [o6] at z; have := Option.some.inj z; show C.N < j; omega)
              have t7 : B.T H7 ow7 D (dcK kf acc) := B.st _ _ _ _ _ _ t6 (bD7.1.trans bD6.1.symm) X7.stay
              have o7 : ow7 D = some (C.N + 1) := bD7.2.trans o6
              have lenA := W.len
              cases hk : kf yd with
              | none => rw [hk] at a8; rw [← a8] at okc; exact okc.elim
              | some k =>
                rw [hk] at a8
                have a8 : compGo g tt (eKey kf tk tv) vs (ds.drop (i + 1)) (acc ++ [yd]) (wipeE env6 vs) = rr := a8
                have hl := dcK_le kf acc
                obtain ⟨o, hp, t8⟩ := B.put H7 ow7 D (dcK kf acc) yv zv yd k t7 (dy.stay X7.stay) hk (by omega) ⟨_, o7⟩
                have st7 : Stay H7 ow7 (upd H7 D o) ow7 := fun a q h h' => ⟨by rw [upd_ne (fun z => by rw [z, o7] at h'; cases h')]; exact h, h'⟩
                refine ⟨_, hp, acc ++ [yd], wipeE env6 vs, ow7, ?_, o7, ?_, ?_, ?_, ?_, a8⟩
                · rw [dcK_snoc hk]; exact t8
                · rw [List.length_append, List.length_singleton]; omega
                · exact W.st _ _ _ _ (W.st _ _ _ _ (W.st _ _ _ _ G5 X6.stay) X7.stay) st7
                · intro a q h h'
                  obtain ⟨p, r⟩ := (((X3.trans X5).trans X6).trans X7) a q h h'
                  exact ⟨by rw [upd_ne (ne_of_none h hD)]; exact p, r⟩
                · have := P7.wipe (vs := vs) (fun j hj => hio j hj)
                  rw [hw] at this
                  refine this.other fun a q h h' => ⟨?_, rfl⟩
                  rw [upd_ne fun z => ?_]
                  · exact h
                  · have := h' _ (by rw [z]; exact o7)
                    change C.N + 1 < C.N at this
                    omega
  · rintro H2 ⟨acc, env2, ow2, a1, a2, a4, a5, a6, a7, a8⟩
    rw [List.drop_length, compGo] at a8
    subst a8
    have hl := dcK_le kf acc
    have lenA := W.len
    refine B.len H2 ow2 D _ Q a1 (by omega) ?_
    have X2 : Ext C.N H1 ow1 H2 (fun a => if a = D then some C.N else ow2 a) := fun a u h h' => by
      obtain ⟨p, q⟩ := a6 a u h h'
      exact ⟨p, (if_neg (ne_of_none h hD)).trans q⟩
    refine h1 _ H2 _ X2 (.int _) (RpE.rest P1 X2.stay ?_)
    refine a7.unblk.other fun a u h h' => ⟨h, if_neg fun z => ?_⟩
    have := h' _ (by rw [z]; exact a2)
    omega
variable {kx vx tg iter : Expr} {ifs : List Expr} {scope : Scope} {own : List (Str × Nat)} {pos p : Pos} {cpos : Pos}
theorem de_lenG (B : Tabs X.K X.prog X.w κ kf o0 Pt) (hO : ∀ (H : Hp) (h : Heap), sysModules < h.objs.size → ObjOk X.prog X.w H (h.push { cls := .type "dict", data := .dict #[] }) h.objs.size (o0 h.objs.size)) (hP : ∀ (s : Shared) (H : Hp) (D : Addr) (cl : List (Str × Addr)) (fp : List Addr), PutOk (X.blk s H scope (compEnvC scope cl D X.env) fp) Pt)
    (hc : X.calm = true) (hN : X.N.Nodup) (hg0 : Gl X "len") (hm : X.mg "len" = none) (hi : DI X C tg iter it) (ok : BlkOk X.N X.env.scope scope own)
    (hg : ∀ (s : Shared) (H : Hp) (D : Addr) (cl : List (Str × Addr)) (fp : List Addr), DG (Blk X s H scope D cl fp) C.blk tg ts g) (ht : ∀ (s : Shared) (H : Hp) (D : Addr) (cl : List (Str × Addr)) (fp : List Addr), DTs (Blk X s H scope D cl fp) C.blk ifs tt)
    (hk : ∀ (s : Shared) (H : Hp) (D : Addr) (cl : List (Str × Addr)) (fp : List Addr), DE (Blk X s H scope D cl fp) C.blk kx tk) (hv : ∀ (s : Shared) (H : Hp) (D : Addr) (cl : List (Str × Addr)) (fp : List Addr), DE (Blk X s H scope D cl fp) C.blk vx tv)
    (hts : ∀ i ∈ ts, i ∈ vs) (hio : IoFreeAll C vs) (hs : ∀ x, foldedSetIterable iter X.env x = pure x := by intro _; rfl) (hvs : own.map (·.2) = vs := by rfl)
    (he : starEach [.DictComp kx vx [⟨tg, iter, ifs, 0⟩] scope cpos] X.env = (false, eval (.DictComp kx vx [⟨tg, iter, ifs, 0⟩] scope cpos) X.env) :: starEach [] X.env := by rfl) (hpl : (backTo pos (starEach [] X.env)).any (·.1) = false := by rfl) :
    DE X C (.Call (.Name "len" p) [.DictComp kx vx [⟨tg, iter, ifs, 0⟩] scope cpos] [] pos) (eLenDc kf it g tt tk tv vs) := by
  subst hvs
  exact PEweak (pe_callB cr_lenD hg0 hm bt_len (pa_cons (pe_dg (g := rdG X.K C.blk ts g) (tt := rd X.K C.blk RT tt) (tk := rd X.K C.blk (RE X.K) tk) (tv := rd X.K C.blk (RE X.K) tv) hO hP hc hN hi ok hg ht hk hv hs) pa_nil he) (by decide) (by decide) he hpl) fun σ H Q h => rd_dc B hts hio h
theorem de_lenK (hc : X.calm = true) (hN : X.N.Nodup) (hg0 : Gl X "len") (hm : X.mg "len" = none) (hi : DI X C tg iter it) (ok : BlkOk X.N X.env.scope scope own)
    (hg : ∀ (s : Shared) (H : Hp) (D : Addr) (cl : List (Str × Addr)) (fp : List Addr), DG (Blk X s H scope D cl fp) C.blk tg ts g) (ht : ∀ (s : Shared) (H : Hp) (D : Addr) (cl : List (Str × Addr)) (fp : List Addr), DTs (Blk X s H scope D cl fp) C.blk ifs tt)
    (hk : ∀ (s : Shared) (H : Hp) (D : Addr) (cl : List (Str × Addr)) (fp : List Addr), DE (Blk X s H scope D cl fp) C.blk kx tk) (hv : ∀ (s : Shared) (H : Hp) (D : Addr) (cl : List (Str × Addr)) (fp : List Addr), DE (Blk X s H scope D cl fp) C.blk vx tv)
    (hts : ∀ i ∈ ts, i ∈ vs) (hio : IoFreeAll C vs) (hs : ∀ x, foldedSetIterable iter X.env x = pure x := by intro _; rfl) (hvs : own.map (·.2) = vs := by rfl)
    (he : starEach [.DictComp kx vx [⟨tg, iter, ifs, 0⟩] scope cpos] X.env = (false, eval (.DictComp kx vx [⟨tg, iter, ifs, 0⟩] scope cpos) X.env) :: starEach [] X.env := by rfl) (hpl : (backTo pos (starEach [] X.env)).any (·.1) = false := by rfl) :
    DE X C (.Call (.Name "len" p) [.DictComp kx vx [⟨tg, iter, ifs, 0⟩] scope cpos] [] pos) (eLenDc kI it g tt tk tv vs) :=
  de_lenG (tabsK _ _ _) (fun H h hb => dk_empty h hb) (fun _ _ _ _ _ => putOkK) hc hN hg0 hm hi ok hg ht hk hv hts hio hs hvs he hpl
theorem de_lenT (hu : X.A.units + 65 < cLine) (hc : X.calm = true) (hN : X.N.Nodup) (hg0 : Gl X "len") (hm : X.mg "len" = none) (hi : DI X C tg iter it) (ok : BlkOk X.N X.env.scope scope own)
    (hg : ∀ (s : Shared) (H : Hp) (D : Addr) (cl : List (Str × Addr)) (fp : List Addr), DG (Blk X s H scope D cl fp) C.blk tg ts g) (ht : ∀ (s : Shared) (H : Hp) (D : Addr) (cl : List (Str × Addr)) (fp : List Addr), DTs (Blk X s H scope D cl fp) C.blk ifs tt)
    (hk : ∀ (s : Shared) (H : Hp) (D : Addr) (cl : List (Str × Addr)) (fp : List Addr), DE (Blk X s H scope D cl fp) C.blk kx tk) (hv : ∀ (s : Shared) (H : Hp) (D : Addr) (cl : List (Str × Addr)) (fp : List Addr), DE (Blk X s H scope D cl fp) C.blk vx tv)
    (hts : ∀ i ∈ ts, i ∈ vs) (hio : IoFreeAll C vs) (hs : ∀ x, foldedSetIterable iter X.env x = pure x := by intro _; rfl) (hvs : own.map (·.2) = vs := by rfl)
    (he : starEach [.DictComp kx vx [⟨tg, iter, ifs, 0⟩] scope cpos] X.env = (false, eval (.DictComp kx vx [⟨tg, iter, ifs, 0⟩] scope cpos) X.env) :: starEach [] X.env := by rfl) (hpl : (backTo pos (starEach [] X.env)).any (·.1) = false := by rfl) :
    DE X C (.Call (.Name "len" p) [.DictComp kx vx [⟨tg, iter, ifs, 0⟩] scope cpos] [] pos) (eLenDc kT it g tt tk tv vs) :=
  de_lenG (tabsT _ _ _) (fun H h hb => oT_new H h hb) (fun s H D cl fp => putOkT (X := X.blk s H scope (compEnvC scope cl D X.env) fp) hu) hc hN hg0 hm hi ok hg ht hk hv hts hio hs hvs he hpl
end
end DL


/-! t[::-1], t a tuple -/
namespace DL
open PySem PySem.Spec PyProof.Rows L2
section
variable {prog : Program} {w : World} {A : Around} {EE : Value → Shared → Prop} {sh : Shared}
theorem rev_places (n : Nat) : Builtin.Slice.slicePlaces ((n : Int) - 1) (-1) (-1) = n := by
  unfold Builtin.Slice.slicePlaces
  rw [if_neg (by decide)]
  by_cases h : (n : Int) - 1 > -1
  · rw [if_pos h]
    have : ((n : Int) - 1 - -1 - 1) / (- -1) + 1 = (n : Int) := by
      rw [show (- -1 : Int) = 1 by decide, Int.ediv_one]; omega
    rw [this, Int.toNat_natCast]
  · rw [if_neg h]; omega
theorem applied_rev {sl : Addr} {vs : Value} {n : Nat} {Qk : Int × Int × Nat → Shared → Prop} (hs : sh.heap.IsSliceOf sl .none .none vs) (ps : IsPart vs (some (-1)))
    (h : Qk ((n : Int) - 1, -1, n) sh) : wpAny (model prog w) A (Builtin.Slice.sliceApplied (.ref sl) (pure (n : Int))) Qk EE sh := by
  obtain ⟨ob, eo, ec, ed⟩ := id hs
  unfold Builtin.Slice.sliceApplied Builtin.Slice.sliceFields
  refine wpAny_bind (wpAny_bind (wpAny_field eo ed (x := .none) rfl (wpAny_bind (wpAny_field eo ed (x := .none) rfl (wpAny_bind (wpAny_field eo ed (x := vs) rfl (wpAny_pure ?_)))))))
  refine wpAny_bind (HT.slicePart_ ps ?_)
  show wpAny _ _ (if ((-1 : Int) == 0) = true then _ else _) _ _ sh
  rw [if_neg (by decide)]
  refine wpAny_bind (slicePart_none (wpAny_bind (slicePart_none (wpAny_bind (wpAny_pure ?_)))))
  show wpAny _ _ (pure ((n : Int) - 1, (-1 : Int), Builtin.Slice.slicePlaces ((n : Int) - 1) (-1) (-1))) _ _ sh
  rw [rev_places]
  exact wpAny_pure h
theorem rev_pick (xs : Array Value) : ((List.range xs.size).filterMap fun (m : Nat) => xs[(((xs.size : Int) - 1) + (m : Int) * (-1)).toNat]?).toArray = xs.toList.reverse.toArray := by
  have e1 := PySem.W.krv_pick xs
  unfold slicePick at e1
  rw [PySem.W.krv_bounds] at e1
  have e1 : ((sliceRange ((xs.size : Int) - 1) (-1) (-1)).filterMap (xs[·]?)).toArray = xs.toList.reverse.toArray := e1
  rw [PySem.W.krv_sliceRange, List.filterMap_map] at e1
  rw [← e1]
  congr 1
  have go : ∀ l : List Nat, (∀ m ∈ l, m < xs.size) → (l.filterMap fun (m : Nat) => xs[(((xs.size : Int) - 1) + (m : Int) * (-1)).toNat]?) = l.filterMap ((xs[·]?) ∘ fun k => xs.size - 1 - k) := by
    intro l
    induction l with
    | nil => intro _; rfl
    | cons m l ih =>
      intro h
      have := h m List.mem_cons_self
      rw [List.filterMap_cons, List.filterMap_cons, ih fun k hk => h k (List.mem_cons_of_mem _ hk)]
      have e2 : (((xs.size : Int) - 1) + (m : Int) * (-1)).toNat = xs.size - 1 - m := by omega
      rw [e2]
      rfl
  exact go _ fun m hm => List.mem_range.mp hm
theorem getItem_tuple_rev {t sl : Addr} {jts : Array Value} {vs : Value} {Qk : Value → Shared → Prop} (ht : IsTup sh.heap t jts) (hs : sh.heap.IsSliceOf sl .none .none vs) (ps : IsPart vs (some (-1)))
    (h : Qk (.ref sh.heap.objs.size) { sh with heap := sh.heap.push { cls := .type "tuple", data := .seq jts.toList.reverse.toArray } }) (hz : jts.size ≤ sizeLine) : wpAny (model prog w) A (getItem (.ref t) (.ref sl)) Qk EE sh := by
  have tk : sizeOk (.seq jts.toList.reverse.toArray) := by
    show jts.toList.reverse.toArray.size ≤ sizeLine
    rw [List.size_toArray, List.length_reverse, Array.length_toList]
    exact hz
  obtain ⟨ob, eo, ec, ed⟩ := id hs
  have tS : sh.TypeIs (.ref sl) "slice" := ⟨ob, eo, ec⟩
  unfold getItem
  try with_reducible refine wpAny_holding ?_
  first | refine wpAny_bind (wpAny_pure ?_) | skip
  refine wpAny_bind (wpAny_sequenceKey ht.typeIs (by decide) ?_)
  refine wpAny_bind (wpAny_callSpecial?_slot (name := Str.ofString "__getitem__") ht.typeIs PyProof.Rows.slot_tuple_getitem
    (wpAny_call_entry PyProof.Rows.slot_tuple_getitem ht.typeIs entry_tuple_getitem ?_ (args_tuple_getitem _ _)))
  show wpAny _ _ (Builtin.Tuple.tupleItemsOf (.ref t) >>= _) _ _ sh
  refine wpAny_bind (tupleItemsOf_ ht ?_)
  refine wpAny_bind (wpAny_typeOf tS ?_)
  rw [if_pos (by decide)]
  refine wpAny_bind (applied_rev hs ps ?_)
  have no : ¬ ((((jts.size : Int) - 1) == 0 && (-1 : Int) == 1 && jts.size == jts.size) = true) := by
    rw [show ((-1 : Int) == 1) = false by decide, Bool.and_false, Bool.false_and]
    exact Bool.false_ne_true
  show wpAny _ _ (if (((jts.size : Int) - 1) == 0 && (-1 : Int) == 1 && jts.size == jts.size) = true then _ else _) _ _ sh
  rw [if_neg no, rev_pick]
  first
    | exact wpAny_bind (m := Builtin.Tuple.tupleExact _) (wpAny_newObj_type (wpAny_pure ⟨_, rfl, wpAny_pure h⟩) tk)
    | exact wpAny_bind (m := Builtin.Tuple.tupleExact _) (wpAny_newObj_type (wpAny_bind (wpAny_pure (wpAny_pure ⟨_, rfl, wpAny_pure h⟩))) tk)
    | exact wpAny_bind (wpAny_bind (m := Builtin.Tuple.tupleExact _) (wpAny_newObj_type (wpAny_pure (wpAny_pure ⟨_, rfl, wpAny_pure h⟩)) tk))
    | exact wpAny_bind (wpAny_bind (m := Builtin.Tuple.tupleExact _) (wpAny_newObj_type (wpAny_pure ⟨_, rfl, wpAny_pure h⟩) tk))
end
section
variable {X : Cx} {C : Cc} {e : Expr}
def tRevT (K : PySem.W.Frag) (te : TE) : TE := fun σ H Qk => te σ H fun x Ha => ∃ a xs, x = .ref a ∧ SqT K Ha a xs ∧ ∀ (zo : Obj) p, zo.dict = none → Ha p = none → Qk (.ref p) (upd Ha p (.frz zo (.tup xs.reverse)))
theorem pe_revT {te : TE} {k : Nat} {p1 p2 p3 pos : Pos} (he : PE X e te) : PE X (.Subscript e (.Slice none none (some (.UnaryOp .USub (.Constant (.int 1) k p1) p2)) p3) pos) (tRevT X.K te) := by
  refine ⟨fun pps sh σ H Qk I h => ?_⟩
  refine Subscript_ (thn (he.run pps sh σ H _ I h) fun v sa ⟨x, Ha, Ia, ra, a, xs, ex, hx, q⟩ => ?_)
  subst ex
  cases ra
  have st1 : PO X (some (.UnaryOp .USub (.Constant (.int 1) k p1) p2)) (tPart (tUn (rU fun i => .int (-i)) (tC (.int 1)))) := po_some (pe_un un_neg pe_int)
  refine wpAny_Slice (thn (po_none.run pps sa σ Ha (fun o Hb => o = none ∧ Hb = Ha) Ia ⟨rfl, rfl⟩) fun vl sb ⟨l, Hb, Ib, pl, el, e2⟩ => ?_)
  subst el e2
  refine thn (po_none.run pps sb σ Hb (fun o Hc => o = none ∧ Hc = Hb) Ib ⟨rfl, rfl⟩) fun vu sc ⟨u, Hc, Ic, pu, eu, e3⟩ => ?_
  subst eu e3
  refine thn (st1.run pps sc σ Hc (fun o Hd => o = some (-1) ∧ Hd = Hc) Ic ⟨1, rfl, -1, rfl, rfl, rfl⟩) fun vs sd ⟨o, Hd, Id, ps, eo, e4⟩ => ?_
  subst eo e4
  cases pl
  cases pu
  have If : Inv X pps σ Hd { sd with heap := sd.heap.push { cls := .type "slice", data := .fields #[.none, .none, vs] } } := Id.kept (t' := sd.toks) fun b ob z => Heap.get?_push_of_some _ z
  obtain ⟨jts, r, ht, hz⟩ := If.tuple hx
  have hlen := r.length
  show wpAny (model X.prog X.w) X.A (subscriptTail e (.Slice none none (some (.UnaryOp .USub (.Constant (.int 1) k p1) p2)) p3) (.ref a) (.ref sd.heap.objs.size)) (EP X pps σ Qk) X.xe { sd with heap := sd.heap.push { cls := .type "slice", data := .fields #[.none, .none, vs] } }
  refine tail_any (ops := [.ref a, .ref sd.heap.objs.size]) ht.typeIs (PyProof.Rows.slot_tuple_getitem.lookup) ?_ (by with_unfolding_all rfl)
  refine getItem_tuple_rev ht (Heap.IsSliceOf.new _ .none .none vs) ps ?_ (by rw [List.size_toArray]; omega)
  exact ⟨.ref _, _, If.laid (t' := sd.toks) (o := .frz (DLT.tob _) (.tup xs.reverse)) (fun b ob z => Heap.get?_push_of_some _ z) (Nat.le_refl _) (DLT.tob_ok (by rw [List.length_reverse]; exact hz) r.reverse), rfl, q _ _ rfl (If.hok.fresh (Nat.le_refl _))⟩
/-- t[::-1] -/
def dRev : PyData → Option PyData
  | .tuple xs => some (.tuple xs.reverse)
  | _ => none
theorem DVs.rev {K : PySem.W.Frag} {H : Hp} {ow : Ow} : ∀ {ds : List PyData} {xs : List V}, DVs K H ow xs ds → DVs K H ow xs.reverse ds.reverse
  | [], _, h => by cases h; exact .nil
  | d :: ds, _, h => by
    cases h with
    | cons h1 h2 =>
      rw [List.reverse_cons, List.reverse_cons]
      exact h2.rev.append (.cons h1 .nil)
theorem de_rev {t : Env → Rs PyData} {k : Nat} {p1 p2 p3 pos : Pos} (h : DE X C e t) : DE X C (.Subscript e (.Slice none none (some (.UnaryOp .USub (.Constant (.int 1) k p1) p2)) p3) pos) (e1 dRev t) :=
  PEweak (pe_revT h) fun σ H Q h => rd_one (R1 := RE X.K) h fun v x H ow env hv P h => by
    obtain ⟨o, e, h⟩ := rdAt_lift (v := V.non) h
    cases hv with
    | @tup a xs ds k1 k3 kz =>
      cases e
      exact ⟨a, xs, rfl, k1.sq, fun zo p hd hp => rdAt_fin h (Gr.new hp) (.tup (.new hd) (k3.rev.stay (Gr.new hp).stay) (by rw [List.length_reverse]; exact kz)) P⟩
    | _ => cases e
end
end DL


namespace DL
open PySem
/-! evaluation by simp -/
def Out.thn (o : Out) (u : Env → Out) : Out := match o with
  | .nx e => u e
  | .rt m e => .rt m e
  | .bk e => .bk e
  | .ct e => .ct e
  | .ex x e => .ex x e
  | .no => .no
@[simp] theorem thn_nx (e u) : (Out.nx e).thn u = u e := id rfl
@[simp] theorem thn_rt (m e u) : (Out.rt m e).thn u = .rt m e := id rfl
@[simp] theorem thn_bk (e u) : (Out.bk e).thn u = .bk e := id rfl
@[simp] theorem thn_ct (e u) : (Out.ct e).thn u = .ct e := id rfl
@[simp] theorem thn_ex (x e u) : (Out.ex x e).thn u = .ex x e := id rfl
@[simp] theorem thn_no (u) : (Out.no).thn u = .no := id rfl
theorem thn_ite (c : Prop) [Decidable c] (a b u) : (if c then a else b : Out).thn u = if c then a.thn u else b.thn u := by split <;> rfl
def Rs.to {α : Type} (r : Rs α) (k : α → Env → Out) : Out := match r with
  | .ok a e => k a e
  | .ex x e => .ex x e
  | .no => .no
@[simp] theorem to_ok {α : Type} (a : α) (e k) : (Rs.ok a e).to k = k a e := id rfl
@[simp] theorem to_ex {α : Type} (x e) (k : α → Env → Out) : (Rs.ex x e).to k = .ex x e := id rfl
@[simp] theorem to_no {α : Type} (k : α → Env → Out) : (Rs.no).to k = .no := id rfl
theorem to_ite {α : Type} (c : Prop) [Decidable c] (a b : Rs α) (k) : (if c then a else b : Rs α).to k = if c then a.to k else b.to k := by split <;> rfl
theorem bind_ite {α β : Type} (c : Prop) [Decidable c] (a b : Rs α) (k : α → Env → Rs β) : (if c then a else b : Rs α).bind k = if c then a.bind k else b.bind k := by split <;> rfl
theorem lift_ite {α : Type} (c : Prop) [Decidable c] (a b : Option α) (e) : lift (if c then a else b) e = if c then lift a e else lift b e := by split <;> rfl
def Out.fin (ios : List Bool) (o : Out) : FOut := match o with
  | .nx e => .rt (.d .none) (outs ios e)
  | .rt m e => .rt m (outs ios e)
  | .ex x e => .ex x (outs ios e)
  | _ => .no
@[simp] theorem fin_nx (ios e) : (Out.nx e).fin ios = .rt (.d .none) (outs ios e) := id rfl
@[simp] theorem fin_rt (ios m e) : (Out.rt m e).fin ios = .rt m (outs ios e) := id rfl
theorem fin_ite (c : Prop) [Decidable c] (a b ios) : (if c then a else b : Out).fin ios = if c then a.fin ios else b.fin ios := by split <;> rfl
def optOut {α : Type} (o : Option α) (k : α → Out) : Out := match o with | some a => k a | none => .no
@[simp] theorem optOut_s {α : Type} (a : α) (k) : optOut (some a) k = k a := id rfl
@[simp] theorem optOut_n {α : Type} (k : α → Out) : optOut none k = .no := id rfl
def optRs {α β : Type} (o : Option α) (k : α → Rs β) : Rs β := match o with | some a => k a | none => .no
@[simp] theorem optRs_s {α β : Type} (a : α) (k : α → Rs β) : optRs (some a) k = k a := id rfl
@[simp] theorem optRs_n {α β : Type} (k : α → Rs β) : optRs none k = .no := id rfl
def asB : PyData → Env → Rs Bool
  | .bool b, e => .ok b e
  | _, _ => .no
@[simp] theorem asB_b (b e) : asB (.bool b) e = .ok b e := id rfl
def chB {α : Type} (o : Option PyData) (t u : Rs α) : Rs α := match o with
  | some (.bool true) => t
  | some (.bool false) => u
  | _ => .no
@[simp] theorem chB_b {α : Type} (b) (t u : Rs α) : chB (some (.bool b)) t u = if b = true then t else u := by cases b <;> rfl
@[simp] theorem eVar_eq (i : Nat) (env : Env) : eVar i env = lift (slotD env i) env := id rfl
@[simp] theorem slotD_0 (x : PyData) (r : Env) : slotD (some (.d x) :: r) 0 = some x := id rfl
@[simp] theorem slotD_s (o : Option M) (r : Env) (i : Nat) : slotD (o :: r) (i + 1) = slotD r i := id rfl
@[simp] theorem slotL_0 (x : List PyData) (r : Env) : slotL (some (.l x) :: r) 0 = some x := id rfl
@[simp] theorem slotL_s (o : Option M) (r : Env) (i : Nat) : slotL (o :: r) (i + 1) = slotL r i := id rfl
@[simp] theorem slotM_0 (x : List (Int × PyData)) (r : Env) : slotM (some (.m x) :: r) 0 = some x := id rfl
@[simp] theorem slotM_s (o : Option M) (r : Env) (i : Nat) : slotM (o :: r) (i + 1) = slotM r i := id rfl
@[simp] theorem slotF_0 (x : List (Int × PyData)) (r : Env) : slotF (some (.fm x) :: r) 0 = some x := id rfl
@[simp] theorem slotF_s (o : Option M) (r : Env) (i : Nat) : slotF (o :: r) (i + 1) = slotF r i := id rfl
@[simp] theorem slotScr_0 (x : List Int) (r : Env) : slotScr (some (.scr x) :: r) 0 = some x := id rfl
@[simp] theorem slotScr_s (o : Option M) (r : Env) (i : Nat) : slotScr (o :: r) (i + 1) = slotScr r i := id rfl
@[simp] theorem eC_eq (x : PyData) (env : Env) : eC x env = .ok x env := id rfl
@[simp] theorem e2_eq (f) (a b : Env → Rs PyData) (env : Env) : e2 f a b env = (a env).bind fun x e1 => (b e1).bind fun y e2 => lift (f x y) e2 := id rfl
@[simp] theorem e1_eq (f) (a : Env → Rs PyData) (env : Env) : e1 f a env = (a env).bind fun x e1 => lift (f x) e1 := id rfl
@[simp] theorem tb1_eq (t : Env → Rs PyData) (env : Env) : tb1 t env = (t env).bind asB := by
  unfold tb1
  congr
  funext d e
  cases d <;> rfl
@[simp] theorem tt1_eq (t : Env → Rs PyData) (env : Env) : tt1 t env = (t env).bind fun d e => lift (tru d) e := id rfl
@[simp] theorem tNotD_eq (t : Env → Rs Bool) (env : Env) : tNotD t env = (t env).bind fun b e => .ok (!b) e := id rfl
@[simp] theorem tAndD_eq (t u : Env → Rs Bool) (env : Env) : tAndD t u env = (t env).bind fun b e => if b = true then u e else .ok false e := id rfl
@[simp] theorem tOrD_eq (t u : Env → Rs Bool) (env : Env) : tOrD t u env = (t env).bind fun b e => if b = true then .ok true e else u e := id rfl
@[simp] theorem eNot_eq (t : Env → Rs PyData) (env : Env) : eNot t env = (tb1 t env).bind fun b e => .ok (.bool (!b)) e := id rfl
@[simp] theorem eAnd_eq (t u : Env → Rs PyData) (env : Env) : eAnd t u env = (tb1 t env).bind fun b e => if b = true then u e else .ok (.bool false) e := id rfl
@[simp] theorem eOr_eq (t u : Env → Rs PyData) (env : Env) : eOr t u env = (tb1 t env).bind fun b e => if b = true then .ok (.bool true) e else u e := id rfl
@[simp] theorem eIf_eq {α : Type} (c : Env → Rs Bool) (t u : Env → Rs α) (env : Env) : eIf c t u env = (c env).bind fun b e => if b = true then t e else u e := id rfl
@[simp] theorem eChain_eq (f g) (a b c : Env → Rs PyData) (env : Env) : eChain f g a b c env = (a env).bind fun x e1 => (b e1).bind fun y e2 => chB (f x y) ((c e2).bind fun z e3 => lift (g y z) e3) (.ok (.bool false) e2) := by
  unfold eChain
  refine congrArg _ (funext fun x => funext fun e1 => congrArg _ (funext fun y => funext fun e2 => ?_))
  cases f x y with
  | none => rfl
  | some d => cases d with
    | bool b => cases b <;> rfl
    | _ => rfl
@[simp] theorem aNil_eq (env : Env) : aNil env = .ok [] env := id rfl
@[simp] theorem aCons_eq (t : Env → Rs PyData) (u) (env : Env) : aCons t u env = (t env).bind fun x e1 => (u e1).bind fun xs e2 => .ok (x :: xs) e2 := id rfl
@[simp] theorem aOne_eq (t : Env → Rs PyData) (env : Env) : aOne t env = (t env).bind fun x e1 => .ok [x] e1 := id rfl
@[simp] theorem eTup_eq (t) (env : Env) : eTup t env = (t env).bind fun xs e => if xs.length ≤ 16777216 then .ok (.tuple xs) e else .no := id rfl
@[simp] theorem eLst_eq (t) (env : Env) : eLst t env = (t env).bind fun xs e => if xs.length ≤ 16777216 then .ok (.list xs) e else .no := id rfl
@[simp] theorem mLst_eq (t) (env : Env) : mLst t env = (t env).bind fun xs e => if xs.length ≤ 16777216 then .ok (.l xs) e else .no := id rfl
@[simp] theorem mD_eq (t : Env → Rs PyData) (env : Env) : mD t env = (t env).bind fun x e => .ok (.d x) e := id rfl
@[simp] theorem eFrz_eq (t : Env → Rs M) (env : Env) : eFrz t env = (t env).bind fun m e => lift (frzM m) e := id rfl
@[simp] theorem frzM_d (x : PyData) : frzM (.d x) = some x := id rfl
@[simp] theorem frzM_l (x : List PyData) : frzM (.l x) = some (.list x) := id rfl
@[simp] theorem eB_eq (f) (t) (env : Env) : eB f t env = (t env).bind fun xs e => lift (f xs) e := id rfl
@[simp] theorem eListScr_eq (i) (env : Env) : eListScr i env = lift ((slotScr env i).map fun ns => .list (ns.map .int)) env := id rfl
def ixOf : List PyData → PyData → Option PyData
  | xs, .int j => L2.atI xs j
  | _, _ => none
@[simp] theorem ixOf_i (xs j) : ixOf xs (.int j) = L2.atI xs j := id rfl
@[simp] theorem eIxO_eq (i) (tb) (env : Env) : eIxO i tb env = optRs (slotL env i) fun _ => (tb env).bind fun k e => optRs (slotL e i) fun xs => lift (ixOf xs k) e := by
  unfold eIxO
  cases slotL env i with
  | none => rfl
  | some _ =>
    show (tb env).bind _ = (tb env).bind _
    congr
    funext k e
    cases slotL e i with
    | none => rfl
    | some xs => cases k <;> rfl
@[simp] theorem pNo_eq (env : Env) : pNo env = .ok none env := id rfl
@[simp] theorem pSome_eq (t) (env : Env) : pSome t env = (t env).bind fun d e => lift (oInt d) e := id rfl
@[simp] theorem oInt_i (i : Int) : oInt (.int i) = some (some i) := id rfl
@[simp] theorem eSlice_eq (t lo hi) (env : Env) : eSlice t lo hi env = (t env).bind fun x e1 => (lo e1).bind fun l e2 => (hi e2).bind fun u e3 => lift (dSlice x l u) e3 := id rfl
@[simp] theorem eBO_eq (i f) (env : Env) : eBO i f env = lift ((slotL env i).bind fun ds => chkS (f [.list ds])) env := id rfl
@[simp] theorem e2R_eq (f t i) (env : Env) : e2R f t i env = (t env).bind fun x e => lift ((slotL e i).bind fun ds => chkS (f x (.list ds))) e := id rfl
@[simp] theorem ttO_eq (i) (env : Env) : ttO i env = lift ((slotL env i).map fun ds => !ds.isEmpty) env := id rfl
@[simp] theorem eTupO_eq (i) (env : Env) : eTupO i env = lift ((slotL env i).map fun ds => .tuple ds) env := id rfl
@[simp] theorem eListO_eq (i) (env : Env) : eListO i env = lift ((slotL env i).map fun ds => .list ds) env := id rfl
@[simp] theorem eIsi_eq (T t) (env : Env) : eIsi T t env = (t env).bind fun d e => .ok (.bool (isI T d)) e := id rfl
@[simp] theorem eListRg_eq (f t) (env : Env) : eListRg f t env = (t env).bind fun xs e => lift ((f xs).map .list) e := id rfl
@[simp] theorem mListRg_eq (f t) (env : Env) : mListRg f t env = (t env).bind fun xs e => lift ((f xs).map .l) e := id rfl
@[simp] theorem eMt_eq (i f t) (env : Env) : eMt i f t env = optRs (slotL env i) fun _ => (t env).bind fun ys e => optRs (slotL e i) fun xs => optRs (f xs ys) fun p => .ok p.1 (e.set i (some (.l p.2))) := by
  unfold eMt
  cases slotL env i with
  | none => rfl
  | some _ =>
    show (t env).bind _ = (t env).bind _
    congr
    funext ys e
    cases slotL e i with
    | none => rfl
    | some xs =>
      show (match f xs ys with | some (o, zs) => Rs.ok o (e.set i (some (.l zs))) | none => .no) = optRs (f xs ys) _
      cases f xs ys <;> rfl
def seqOne : List PyData → Option (List PyData)
  | [.list ds] => some ds
  | [.tuple ds] => some ds
  | _ => none
@[simp] theorem seqOne_l (ds) : seqOne [.list ds] = some ds := id rfl
@[simp] theorem seqOne_t (ds) : seqOne [.tuple ds] = some ds := id rfl
@[simp] theorem mList_eq (t) (env : Env) : mList t env = (t env).bind fun xs e => (lift (seqOne xs) e).bind fun ds e => .ok (.l ds) e := by
  unfold mList
  refine congrArg _ (funext fun xs => funext fun e => ?_)
  match xs with
  | [] => rfl
  | [.list ds] => rfl
  | [.tuple ds] => rfl
  | [.int _] => rfl
  | [.bool _] => rfl
  | [.none] => rfl
  | [.str _] => rfl
  | [.dict _] => rfl
  | x :: _ :: _ => cases x <;> rfl
@[simp] theorem itSeq_eq (t) (env : Env) : itSeq t env = (t env).bind fun d e => lift (seqOf d) e := id rfl
@[simp] theorem itB_eq (f t) (env : Env) : itB f t env = (t env).bind fun d e => lift (f d) e := id rfl
@[simp] theorem seqOf_l (x) : seqOf (.list x) = some x := id rfl
@[simp] theorem seqOf_t (x) : seqOf (.tuple x) = some x := id rfl
@[simp] theorem avNil_eq (env : Env) : avNil env = .ok [] env := id rfl
@[simp] theorem avD_eq (t u) (env : Env) : avD t u env = (t env).bind fun x e1 => (u e1).bind fun r e2 => .ok (.d x :: r) e2 := id rfl
@[simp] theorem avS_eq (j u) (env : Env) : avS j u env = optRs (env[j]?.join) fun _ => (u env).bind fun r e2 => .ok (.s j :: r) e2 := by
  unfold avS
  cases env[j]? with
  | none => rfl
  | some o => cases o <;> rfl
@[simp] theorem avMs_nil (env : Env) : avMs env [] = some [] := id rfl
@[simp] theorem avMs_cons (env : Env) (a r) : avMs env (a :: r) = (avM env a).bind fun m => (avMs env r).map (m :: ·) := id rfl
@[simp] theorem avM_d (env : Env) (x) : avM env (.d x) = some (.d x) := id rfl
@[simp] theorem avM_sl (env : Env) (j) : avM env (.s j) = env[j]?.join := by
  show (match env[j]? with | some (some m) => some m | _ => none) = _
  cases env[j]? with
  | none => rfl
  | some o => cases o <;> rfl
@[simp] theorem jsOf_nil : jsOf [] = [] := id rfl
@[simp] theorem jsOf_d (x r) : jsOf (.d x :: r) = jsOf r := id rfl
@[simp] theorem jsOf_s (j r) : jsOf (.s j :: r) = j :: jsOf r := id rfl
@[simp] theorem putBack_nil (os e) : putBack [] os e = e := id rfl
@[simp] theorem putBack_d (x r os e) : putBack (.d x :: r) os e = putBack r os.tail e := id rfl
@[simp] theorem putBack_s (j r os e) : putBack (.s j :: r) os e = putBack r os.tail (e.set j (os.head?.join)) := id rfl
def FOut.toRs (f : FOut) (k : List (Option M) → Env) : Rs M := match f with
  | .rt m os => .ok m (k os)
  | _ => .no
@[simp] theorem toRs_rt (m os k) : (FOut.rt m os).toRs k = .ok m (k os) := id rfl
@[simp] theorem callM_eq (ar F avs) (env : Env) : callM ar F avs env = optRs (avMs env avs) fun ms => if avs.length = ar ∧ (jsOf avs).Nodup then (F ms).toRs fun os => putBack avs os env else .no := by
  unfold callM
  cases avMs env avs with
  | none => rfl
  | some ms =>
    show (if _ then _ else _) = (if _ then _ else _)
    congr
@[simp] theorem eCall_eq (ar F t) (env : Env) : eCall ar F t env = (t env).bind fun avs e => callM ar F avs e := id rfl
@[simp] theorem eCallS_eq (ar F t) (env : Env) : eCallS ar F t env = (t env).bind fun d e => if (seqOf d).isSome = true then callM ar F (dAvs d) e else .no := id rfl
@[simp] theorem dAvs_t (xs : List PyData) : dAvs (.tuple xs) = xs.map .d := id rfl
@[simp] theorem dAvs_l (xs : List PyData) : dAvs (.list xs) = xs.map .d := id rfl
@[simp] theorem seqS_t (xs : List PyData) : (seqOf (.tuple xs)).isSome = true := id rfl
@[simp] theorem seqS_l (xs : List PyData) : (seqOf (.list xs)).isSome = true := id rfl
@[simp] theorem sThen_eq (t u) (env : Env) : sThen t u env = (t env).thn u := id rfl
@[simp] theorem sE_eq {α : Type} (t : Env → Rs α) (k) (env : Env) : sE t k env = (t env).to k := id rfl
@[simp] theorem sNx_eq (env : Env) : sNx env = .nx env := id rfl
@[simp] theorem sBk_eq (env : Env) : sBk env = .bk env := id rfl
@[simp] theorem sCt_eq (env : Env) : sCt env = .ct env := id rfl
@[simp] theorem sNo_eq (env : Env) : sNo env = .no := id rfl
@[simp] theorem sRet_eq (t) (env : Env) : sRet t env = sE t (fun m e => .rt m e) env := id rfl
@[simp] theorem sRetN_eq (env : Env) : sRetN env = .rt (.d .none) env := id rfl
@[simp] theorem sDrop_eq (t) (env : Env) : sDrop t env = sE t (fun _ e => .nx e) env := id rfl
@[simp] theorem sIf_eq (c t u) (env : Env) : sIf c t u env = sE c (fun b e => if b = true then t e else u e) env := id rfl
@[simp] theorem sSet_eq (i t) (env : Env) : sSet i t env = sE t (fun m e => .nx (e.set i (some m))) env := id rfl
@[simp] theorem sAsg_eq (t g) (env : Env) : sAsg t g env = sE t (fun d e => optOut (g d e) .nx) env := by
  refine congrFun ?_ env
  unfold sAsg
  congr
  funext d e
  cases g d e <;> rfl
@[simp] theorem sAug_eq (i f t) (env : Env) : sAug i f t env = optOut (slotD env i) fun x => sE t (fun y e => optOut (f x y) fun z => .nx (e.set i (some (.d z)))) env := by
  unfold sAug
  cases slotD env i with
  | none => rfl
  | some x =>
    show sE t _ env = sE t _ env
    congr
    funext y e
    cases f x y <;> rfl
@[simp] theorem sSetItem_eq (i t tk) (env : Env) : sSetItem i t tk env = sE t (fun d e => optOut (slotL e i) fun _ => sE tk (setIt i d) e) env := by
  refine congrFun ?_ env
  unfold sSetItem
  congr
  funext d e
  cases slotL e i <;> rfl
def asI : PyData → Option Int
  | .int i => some i
  | _ => none
@[simp] theorem asI_i (i) : asI (.int i) = some i := id rfl
@[simp] theorem setIt_eq (i d k e) : setIt i d k e = optOut (slotL e i) fun xs => optOut (asI k) fun j => optOut (L2.ixN xs.length j) fun n => .nx (e.set i (some (.l (xs.set n d)))) := by
  unfold setIt
  cases slotL e i with
  | none => rfl
  | some xs =>
    cases k with
    | int j =>
      show (match L2.ixN xs.length j with | some n => Out.nx (e.set i (some (.l (xs.set n d)))) | none => .no) = optOut (L2.ixN xs.length j) _
      cases L2.ixN xs.length j <;> rfl
    | _ => rfl
@[simp] theorem sFor_eq (it g body) (env : Env) : sFor it g body env = sE it (forGo g body) env := id rfl
@[simp] theorem runDef_eq (ios n body) (ms : List M) : runDef ios n body ms = (body (start0 n ms)).fin ios := id rfl
@[simp] theorem start0_eq (n ms) : start0 n ms = ms.map some ++ List.replicate (n - ms.length) none := id rfl
@[simp] theorem outs_nil (e) : outs [] e = [] := by cases e <;> rfl
@[simp] theorem outs_cons (b r m e) : outs (b :: r) (m :: e) = (if b = true then m else none) :: outs r e := id rfl
@[simp] theorem rep_succ (n : Nat) : List.replicate (n + 1) (none : Option M) = none :: List.replicate n none := id rfl
def mvM : M → Env → Nat → Rs M
  | .l ds, env, i => .ok (.l ds) (env.set i none)
  | .d x, env, _ => .ok (.d x) env
  | .scr _, _, _ => .no
  | .m ks, env, i => .ok (.m ks) (env.set i none)
  | .fm _, _, _ => .no
  | .o _ _, _, _ => .no
  | .fo _ _, _, _ => .no
  | .ll _, _, _ => .no
  | .fk _, _, _ => .no
@[simp] theorem mvM_l (ds env i) : mvM (.l ds) env i = .ok (.l ds) (env.set i none) := id rfl
@[simp] theorem mvM_m (ks env i) : mvM (.m ks) env i = .ok (.m ks) (env.set i none) := id rfl
@[simp] theorem mvM_d (x env i) : mvM (.d x) env i = .ok (.d x) env := id rfl
@[simp] theorem alNil_eq (env : Env) : alNil env = .ok [] env := id rfl
@[simp] theorem alD_eq (t u) (env : Env) : alD t u env = (t env).bind fun x e1 => (u e1).bind fun r e2 => .ok (.d x :: r) e2 := id rfl
@[simp] theorem alL_eq (j u) (env : Env) : alL j u env = optRs (env[j]?.join) fun _ => (u env).bind fun r e2 => .ok (.l j :: r) e2 := by
  unfold alL
  cases env[j]? with
  | none => rfl
  | some o => cases o <;> rfl
@[simp] theorem alMs_nil (env : Env) : alMs env [] = some [] := id rfl
@[simp] theorem alMs_cons (env : Env) (a r) : alMs env (a :: r) = (alM env a).bind fun m => (alMs env r).map (m :: ·) := id rfl
@[simp] theorem alM_d (env : Env) (x) : alM env (.d x) = some (.d x) := id rfl
@[simp] theorem alM_l (env : Env) (j) : alM env (.l j) = (env[j]?.join.bind frzM).map .d := id rfl
def FOut.toSc (f : FOut) (e : Env) : Rs PyData := match f with
  | .rt (.d x) _ => if scalar x = true then .ok x e else .no
  | _ => .no
@[simp] theorem toSc_rt (x os e) : (FOut.rt (.d x) os).toSc e = if scalar x = true then .ok x e else .no := id rfl
@[simp] theorem eCallL_eq (ar F t) (env : Env) : eCallL ar F t env = (t env).bind fun als e => optRs (alMs e als) fun ms => if als.length = ar then (F ms).toSc e else .no := by
  unfold eCallL
  refine congrArg _ (funext fun als => funext fun e => ?_)
  unfold callL
  cases alMs e als with
  | none => rfl
  | some ms =>
    show (if _ then _ else _) = (if _ then _ else _)
    congr
@[simp] theorem bEnum_l (x) : bEnum [.list x] = some (enumD 0 x) := id rfl
@[simp] theorem bEnum_t (x) : bEnum [.tuple x] = some (enumD 0 x) := id rfl
@[simp] theorem eSM_eq (f t u) (env : Env) : eSM f t u env = (t env).bind fun x e1 => if isSq x = true then (u e1).bind fun ys e2 => lift (f x ys) e2 else .no := id rfl
@[simp] theorem isSq_l (x) : isSq (.list x) = true := id rfl
@[simp] theorem isSq_t (x) : isSq (.tuple x) = true := id rfl
@[simp] theorem cntD_l (ns : List Int) (k) : cntD (.list (ns.map .int)) [.int k] = some (.int (ns.count k : Nat)) := by simp [cntD]
@[simp] theorem cntD_t (ns : List Int) (k) : cntD (.tuple (ns.map .int)) [.int k] = some (.int (ns.count k : Nat)) := by simp [cntD]
theorem idxD_t (ns : List Int) (k) (h : k ∈ ns) : idxD (.tuple (ns.map .int)) [.int k] = some (.int (ns.idxOf k : Nat)) := by simp [idxD, h]
theorem idxD_l (ns : List Int) (k) (h : k ∈ ns) : idxD (.list (ns.map .int)) [.int k] = some (.int (ns.idxOf k : Nat)) := by simp [idxD, h]
@[simp] theorem mVar_eq (i) (env : Env) : mVar i env = optRs (env[i]?.join) fun m => mvM m env i := by
  unfold mVar
  cases env[i]? with
  | none => rfl
  | some o => cases o with
    | none => rfl
    | some m => cases m <;> rfl
def mvF : M → Env → Nat → Rs PyData
  | .l ds, env, i => .ok (.list ds) (env.set i (some (.d (.list ds))))
  | .d x, env, _ => .ok x env
  | .scr _, _, _ => .no
  | .m _, _, _ => .no
  | .fm _, _, _ => .no
  | .o _ _, _, _ => .no
  | .fo _ _, _, _ => .no
  | .ll _, _, _ => .no
  | .fk _, _, _ => .no
@[simp] theorem mvF_l (ds env i) : mvF (.l ds) env i = .ok (.list ds) (env.set i (some (.d (.list ds)))) := id rfl
@[simp] theorem mvF_d (x env i) : mvF (.d x) env i = .ok x env := id rfl
@[simp] theorem eVarF_eq (i) (env : Env) : eVarF i env = optRs (env[i]?.join) fun m => mvF m env i := by
  unfold eVarF
  cases env[i]? with
  | none => rfl
  | some o => cases o with
    | none => rfl
    | some m => cases m <;> rfl
/-! operators on data -/
@[simp] theorem dAdd_ii (i j) : dAdd (.int i) (.int j) = some (.int (i + j)) := id rfl
@[simp] theorem dAddI_ii (i j) : dAddI (.int i) (.int j) = some (.int (i + j)) := id rfl
@[simp] theorem dSub_ii (i j) : dSub (.int i) (.int j) = some (.int (i - j)) := id rfl
@[simp] theorem dMul_ii (i j) : dMul (.int i) (.int j) = if okM i j = true then some (.int (i * j)) else none := id rfl
@[simp] theorem dDiv_ii (i j) : dDiv (.int i) (.int j) = if 0 < j ∧ j < 1073741824 then some (.int (i / j)) else none := id rfl
@[simp] theorem dMod_ii (i j) : dMod (.int i) (.int j) = if 0 < j then some (.int (i % j)) else none := id rfl
@[simp] theorem dLt_ii (i j) : dLt (.int i) (.int j) = some (.bool (decide (i < j))) := id rfl
theorem dLt_tt (ns ms : List Int) : dLt (.tuple (ns.map .int)) (.tuple (ms.map .int)) = some (.bool (HT.lexLt ns ms)) := by simp [dLt]
@[simp] theorem dLe_ii (i j) : dLe (.int i) (.int j) = some (.bool (decide (i ≤ j))) := id rfl
@[simp] theorem dGt_ii (i j) : dGt (.int i) (.int j) = some (.bool (decide (j < i))) := id rfl
@[simp] theorem dGe_ii (i j) : dGe (.int i) (.int j) = some (.bool (decide (j ≤ i))) := id rfl
@[simp] theorem dNeg_i (i) : dNeg (.int i) = some (.int (-i)) := id rfl
@[simp] theorem dEq_ii (i j : Int) : dEq (.int i) (.int j) = some (.bool (i == j)) := id rfl
@[simp] theorem dNe_ii (i j : Int) : dNe (.int i) (.int j) = some (.bool (!(i == j))) := id rfl
@[simp] theorem dEq_bb (i j : Bool) : dEq (.bool i) (.bool j) = some (.bool (i == j)) := id rfl
@[simp] theorem dNe_bb (i j : Bool) : dNe (.bool i) (.bool j) = some (.bool (!(i == j))) := id rfl
@[simp] theorem dIs_none (x) : dIs x .none = some (.bool (isNon x)) := by cases x <;> rfl
@[simp] theorem dIsNot_none (x) : dIsNot x .none = some (.bool (!isNon x)) := by cases x <;> rfl
@[simp] theorem isNon_none : isNon .none = true := id rfl
@[simp] theorem isNon_b (b) : isNon (.bool b) = false := id rfl
@[simp] theorem isNon_i (b) : isNon (.int b) = false := id rfl
@[simp] theorem isNon_s (b) : isNon (.str b) = false := id rfl
@[simp] theorem isNon_l (b) : isNon (.list b) = false := id rfl
@[simp] theorem isNon_t (b) : isNon (.tuple b) = false := id rfl
@[simp] theorem tru_b (b) : tru (.bool b) = some b := id rfl
@[simp] theorem tru_i (b) : tru (.int b) = some (b != 0) := id rfl
@[simp] theorem tru_n : tru .none = some false := id rfl
@[simp] theorem tru_l (b) : tru (.list b) = some (!b.isEmpty) := id rfl
@[simp] theorem tru_t (b) : tru (.tuple b) = some (!b.isEmpty) := id rfl
@[simp] theorem bLen_l (x) : bLen [.list x] = some (.int x.length) := id rfl
@[simp] theorem bLen_t (x) : bLen [.tuple x] = some (.int x.length) := id rfl
@[simp] theorem bAbs_i (i) : bAbs [.int i] = some (.int (if i < 0 then -i else i)) := id rfl
@[simp] theorem bInt_i (i) : bInt [.int i] = some (.int i) := id rfl
@[simp] theorem bInt_b (i) : bInt [.bool i] = some (.int (if i then 1 else 0)) := id rfl
@[simp] theorem bSum_l (ns : List Int) : bSum [.list (ns.map .int)] = some (.int ns.sum) := by simp [bSum]
@[simp] theorem bSum_t (ns : List Int) : bSum [.tuple (ns.map .int)] = some (.int ns.sum) := by simp [bSum]
@[simp] theorem bAll_l (ns : List Bool) : bAll [.list (ns.map .bool)] = some (.bool (ns.all id)) := by simp [bAll]
@[simp] theorem bAny_l (ns : List Bool) : bAny [.list (ns.map .bool)] = some (.bool (ns.any id)) := by simp [bAny]
@[simp] theorem bTup_l (x) : bTup [.list x] = some (.tuple x) := id rfl
@[simp] theorem bTup_t (x) : bTup [.tuple x] = some (.tuple x) := id rfl
@[simp] theorem bList_l (x) : bList [.list x] = some (.list x) := id rfl
@[simp] theorem bList_t (x) : bList [.tuple x] = some (.list x) := id rfl
@[simp] theorem bSorted_l (ns : List Int) : bSorted [.list (ns.map .int)] = some (.list ((sortI ns).map .int)) := by simp [bSorted]
@[simp] theorem bSorted_t (ns : List Int) : bSorted [.tuple (ns.map .int)] = some (.list ((sortI ns).map .int)) := by simp [bSorted]
theorem bSorted_p (ps : List (Int × Int)) (h : ps ≠ []) (h1 : ps.length < 64 ∧ ∀ p ∈ ps, inB p) : bSorted [.list (ps.map prD)] = some (.list ((sortP ps).map prD)) := by
  have e : intsOf (ps.map prD) = none := by
    cases ps with
    | nil => exact absurd rfl h
    | cons p ps => rfl
  simp only [bSorted, seqOf, Option.bind_some, e, pairsOf_map, if_pos h1]
@[simp] theorem bMax_ii (i j) : bMax [.int i, .int j] = some (.int (if j > i then j else i)) := id rfl
@[simp] theorem bMin_ii (i j) : bMin [.int i, .int j] = some (.int (if j < i then j else i)) := id rfl
@[simp] theorem bRange1_i (j) : bRange1 [.int j] = if j ≤ 16777216 ∧ -(2 ^ 62) ≤ j then some (rangeD 0 j.toNat) else none := id rfl
@[simp] theorem bZip_l (x y) : bZip [.list x, .list y] = some (zip2 x y) := id rfl
@[simp] theorem bZip_t (x y) : bZip [.tuple x, .tuple y] = some (zip2 x y) := id rfl
@[simp] theorem bZipM_tl (x y) : bZipM [.tuple x, .list y] = some (zip2 x y) := id rfl
@[simp] theorem bZip3_t (x y z) : bZip3 [.tuple x, .tuple y, .tuple z] = some (zip3 x y z) := id rfl
@[simp] theorem dIx_l (xs i) : dIx (.list xs) (.int i) = L2.atI xs i := id rfl
@[simp] theorem dIx_t (xs i) : dIx (.tuple xs) (.int i) = L2.atI xs i := id rfl
@[simp] theorem dSlice_l (xs lo hi) : dSlice (.list xs) lo hi = some (.list (cutD xs lo hi)) := id rfl
@[simp] theorem dSlice_t (xs lo hi) : dSlice (.tuple xs) lo hi = some (.tuple (cutD xs lo hi)) := id rfl
@[simp] theorem isI_1 (i) : isI .int (.int i) = true := id rfl
@[simp] theorem isI_2 (i) : isI .int (.bool i) = true := id rfl
@[simp] theorem isI_3 (i) : isI .bool (.bool i) = true := id rfl
@[simp] theorem isI_4 (i) : isI .bool (.int i) = false := id rfl
@[simp] theorem isI_5 (i) : isI .tup (.tuple i) = true := id rfl
@[simp] theorem isI_6 (i) : isI .lst (.list i) = true := id rfl
@[simp] theorem isI_7 (i) : isI .tup (.list i) = false := id rfl
@[simp] theorem isI_8 (i) : isI .lst (.tuple i) = false := id rfl
@[simp] theorem isI_9 (i) : isI .int (.tuple i) = false := id rfl
@[simp] theorem isI_10 (i) : isI .int (.list i) = false := id rfl
@[simp] theorem isI_11 (i) : isI .bool (.tuple i) = false := id rfl
@[simp] theorem isI_12 (i) : isI .bool (.list i) = false := id rfl
@[simp] theorem isI_13 (i) : isI .tup (.int i) = false := id rfl
@[simp] theorem isI_14 (i) : isI .tup (.bool i) = false := id rfl
@[simp] theorem isI_15 (T) : isI T .none = false := by cases T <;> rfl
@[simp] theorem isI_16 (i) : isI .str (.str i) = true := id rfl
@[simp] theorem isI_17 (i) : isI .tup (.str i) = false := id rfl
@[simp] theorem isI_18 (i) : isI .int (.str i) = false := id rfl
@[simp] theorem isI_19 (i) : isI .bool (.str i) = false := id rfl
@[simp] theorem isI_20 (i) : isI .lst (.str i) = false := id rfl
@[simp] theorem isI_21 (i) : isI .lst (.int i) = false := id rfl
@[simp] theorem isI_22 (i) : isI .lst (.bool i) = false := id rfl
@[simp] theorem isI_23 (i) : isI .str (.int i) = false := id rfl
@[simp] theorem isI_24 (i) : isI .str (.bool i) = false := id rfl
@[simp] theorem isI_25 (i) : isI .str (.list i) = false := id rfl
@[simp] theorem isI_26 (i) : isI .str (.tuple i) = false := id rfl
@[simp] theorem scalar_1 (i) : scalar (.int i) = true := id rfl
@[simp] theorem scalar_2 (i) : scalar (.bool i) = true := id rfl
@[simp] theorem scalar_3 : scalar .none = true := id rfl
@[simp] theorem scalar_4 (i) : scalar (.str i) = true := id rfl
@[simp] theorem scalar_5 (xs : List PyData) : scalar (.tuple xs) = xs.all scal0 := id rfl
@[simp] theorem chkS_i (i) : chkS (some (.int i)) = some (.int i) := id rfl
@[simp] theorem chkS_b (i) : chkS (some (.bool i)) = some (.bool i) := id rfl
@[simp] theorem gN_eq (i d env) : gN i d env = some (env.set i (some (.d d))) := id rfl
@[simp] theorem gT_eq (n gs ds env) : gT n gs (.tuple ds) env = if ds.length = n then gs ds env else none := id rfl
@[simp] theorem gTL_eq (n gs ds env) : gTL n gs (.list ds) env = if ds.length = n then gs ds env else none := id rfl
@[simp] theorem gsN_nil (env) : gsN [] env = some env := id rfl
@[simp] theorem gsC_cons (g gs d r env) : gsC g gs (d :: r) env = (g d env).bind (gs r) := id rfl
@[simp] theorem wipeE_nil (e) : wipeE e [] = e := id rfl
@[simp] theorem wipeE_cons (e v vs) : wipeE e (v :: vs) = (wipeE e vs).set v none := id rfl
@[simp] theorem restE_nil (e0 e) : restE e0 [] e = e := id rfl
@[simp] theorem restE_cons (e0 v vs e) : restE e0 (v :: vs) e = restE e0 vs (e.set v (keepD e0[v]?)) := id rfl
@[simp] theorem keepD_n : keepD (some none) = none := id rfl
@[simp] theorem keepD_d (x) : keepD (some (some (.d x))) = some (.d x) := id rfl
@[simp] theorem keepD_l (x) : keepD (some (some (.l x))) = none := id rfl
@[simp] theorem keepD_x : keepD none = none := id rfl
@[simp] theorem tYesD_eq (e) : tYesD e = .ok true e := id rfl
@[simp] theorem eComp_eq (it g tt te vs) (env : Env) : eComp it g tt te vs env = (it env).bind fun ds e => (compR vs e (compGo g tt te vs ds [] (wipeE e vs))).bind fun r e => .ok (.list r) e := by
  unfold eComp eComp0
  cases it env <;> rfl
@[simp] theorem mComp_eq (it g tt te vs) (env : Env) : mComp it g tt te vs env = (it env).bind fun ds e => (compR vs e (compGo g tt te vs ds [] (wipeE e vs))).bind fun r e => .ok (.l r) e := by
  unfold mComp eComp0
  cases it env <;> rfl
@[simp] theorem compR_ok (vs e0 r e) : compR vs e0 (.ok r e) = .ok r (restE e0 vs e) := id rfl
@[simp] theorem eLenDc_eq {κ : Type} [DecidableEq κ] (kf : PyData → Option κ) (it g tt tk tv vs) (env : Env) : eLenDc kf it g tt tk tv vs env = (it env).bind fun ds e => (compR vs e (compGo g tt (eKey kf tk tv) vs ds [] (wipeE e vs))).bind fun r e => .ok (.int (dcK kf r).length) e := by
  unfold eLenDc eComp0
  cases it env <;> rfl
@[simp] theorem eKey_eq {κ : Type} (kf : PyData → Option κ) (tk tv) (env : Env) : eKey kf tk tv env = (tk env).bind fun y e => (tv e).bind fun _ e2 => if (kf y).isSome = true then .ok y e2 else .no := id rfl
@[simp] theorem kI_i (n : Int) : kI (.int n) = some n := id rfl
@[simp] theorem dRev_t (xs) : dRev (.tuple xs) = some (.tuple xs.reverse) := id rfl
theorem kT_ints (ns : List Int) : kT (.tuple (ns.map .int)) = some ns := kIs_map ns
theorem kT_2 (a b : Int) : kT (.tuple [.int a, .int b]) = some [a, b] := rfl
theorem addK_new {κ : Type} [DecidableEq κ] {ks : List κ} {k : κ} (h : k ∉ ks) : addK ks k = ks ++ [k] := by
  unfold addK
  rw [if_neg]
  rw [List.any_eq_true]
  rintro ⟨x, hx, e⟩
  exact h (of_decide_eq_true e ▸ hx)
theorem dedK_go {κ : Type} [DecidableEq κ] : ∀ (l a : List κ), (a ++ l).Nodup → l.foldl addK a = a ++ l
  | [], a, _ => by rw [List.foldl_nil, List.append_nil]
  | x :: l, a, h => by
    have hx : x ∉ a := fun z => by
      rw [List.nodup_append] at h
      exact h.2.2 x z x List.mem_cons_self rfl
    rw [List.foldl_cons, addK_new hx, dedK_go l (a ++ [x]) (by rw [List.append_assoc]; exact h), List.append_assoc]
    rfl
theorem dedK_nodup {κ : Type} [DecidableEq κ] {l : List κ} (h : l.Nodup) : dedK l = l := dedK_go l [] h
theorem dcK_map {κ α : Type} [DecidableEq κ] {kf : PyData → Option κ} {emb : α → PyData} {key : α → κ} (l : List α) (h : ∀ x ∈ l, kf (emb x) = some (key x)) : dcK kf (l.map emb) = dedK (l.map key) := by
  unfold dcK
  congr 1
  induction l with
  | nil => rfl
  | cons x l ih => rw [List.map_cons, List.map_cons, List.filterMap_cons, h x List.mem_cons_self, ih fun y hy => h y (List.mem_cons_of_mem _ hy)]
theorem dcK_nodup {κ α : Type} [DecidableEq κ] {kf : PyData → Option κ} {emb : α → PyData} {key : α → κ} (l : List α) (h : ∀ x ∈ l, kf (emb x) = some (key x)) (hn : (l.map key).Nodup) : (dcK kf (l.map emb)).length = l.length := by
  rw [dcK_map l h, dedK_nodup hn, List.length_map]
@[simp] theorem compGo_nil (g tt te vs acc e) : compGo g tt te vs [] acc e = .ok acc e := id rfl
theorem compGo_cons (g tt te vs x xs acc e) : compGo g tt te vs (x :: xs) acc e = optRs (g x e) fun e1 => (tt e1).bind fun b e2 => if b = true then (te e2).bind fun y e3 => compGo g tt te vs xs (acc ++ [y]) (wipeE e3 vs) else compGo g tt te vs xs acc (wipeE e2 vs) := by
  rw [compGo]
  cases g x e <;> rfl
/-- a comprehension whose turns leave the slots as they were -/
theorem compGo_map {g : PyData → Env → Option Env} {tt : Env → Rs Bool} {te : Env → Rs PyData} {vs : List Nat} {α : Type} {emb : α → PyData} {e : Env} (p : α → Bool) (f : α → PyData) : ∀ (xs : List α) (acc : List PyData),
    (∀ x ∈ xs, ∃ e1, g (emb x) e = some e1 ∧ tt e1 = .ok (p x) e1 ∧ (p x = true → te e1 = .ok (f x) e1) ∧ wipeE e1 vs = e) → compGo g tt te vs (xs.map emb) acc e = .ok (acc ++ (xs.filter p).map f) e
  | [], acc, _ => by simp
  | x :: xs, acc, h => by
    obtain ⟨e1, h1, h2, h3, h4⟩ := h x List.mem_cons_self
    have ih := fun acc => compGo_map p f xs acc fun y hy => h y (List.mem_cons_of_mem _ hy)
    rw [List.map_cons, compGo_cons, h1, optRs_s, h2]
    cases hp : p x with
    | true =>
      simp only [Rs.bind_ok, if_true, h3 hp, h4, ih]
      simp [hp]
    | false =>
      simp only [Rs.bind_ok, Bool.false_eq_true, if_false, h4, ih]
      simp [hp]
@[simp] theorem forGo_nil (g body e) : forGo g body [] e = .nx e := id rfl
/-- a turn's end in a loop -/
def Out.lp (o : Out) (k : Env → Out) : Out := match o with
  | .nx e => k e
  | .ct e => k e
  | .bk e => .nx e
  | .rt m e => .rt m e
  | .ex x e => .ex x e
  | .no => .no
@[simp] theorem lp_nx (e k) : (Out.nx e).lp k = k e := id rfl
@[simp] theorem lp_ct (e k) : (Out.ct e).lp k = k e := id rfl
@[simp] theorem lp_bk (e k) : (Out.bk e).lp k = .nx e := id rfl
@[simp] theorem lp_rt (m e k) : (Out.rt m e).lp k = .rt m e := id rfl
theorem lp_ite (c : Prop) [Decidable c] (a b k) : (if c then a else b : Out).lp k = if c then a.lp k else b.lp k := by split <;> rfl
theorem forGo_cons (g body x xs e) : forGo g body (x :: xs) e = optOut (g x e) fun e1 => (body e1).lp (forGo g body xs) := by
  rw [forGo]
  cases g x e with
  | none => rfl
  | some e1 =>
    show (match body e1 with | .nx e2 => forGo g body xs e2 | .ct e2 => forGo g body xs e2 | .bk e2 => .nx e2 | .rt m e2 => .rt m e2 | .ex x e2 => .ex x e2 | .no => .no) = (body e1).lp _
    cases body e1 <;> rfl
end DL
namespace DL
open PySem
/-! places -/
theorem atI_nat {α : Type} (xs : List α) (n : Nat) : L2.atI xs (n : Int) = xs[n]? := by
  by_cases h : n < xs.length
  · rw [L2.atI_nat (v := xs[n]) (by simp [h])]
    simp [h]
  · unfold L2.atI L2.ixN
    simp [h]
@[simp] theorem atI_2 {α : Type} (xs : List α) : L2.atI xs 2 = xs[2]? := atI_nat xs 2
@[simp] theorem atI_3 {α : Type} (xs : List α) : L2.atI xs 3 = xs[3]? := atI_nat xs 3
@[simp] theorem atI_4 {α : Type} (xs : List α) : L2.atI xs 4 = xs[4]? := atI_nat xs 4
@[simp] theorem atI_5 {α : Type} (xs : List α) : L2.atI xs 5 = xs[5]? := atI_nat xs 5
@[simp] theorem atI_6 {α : Type} (xs : List α) : L2.atI xs 6 = xs[6]? := atI_nat xs 6
@[simp] theorem atI_7 {α : Type} (xs : List α) : L2.atI xs 7 = xs[7]? := atI_nat xs 7
@[simp] theorem atI_zero {α : Type} (xs : List α) : L2.atI xs 0 = xs[0]? := atI_nat xs 0
@[simp] theorem atI_one {α : Type} (xs : List α) : L2.atI xs 1 = xs[1]? := atI_nat xs 1
theorem atI_int {α : Type} (xs : List α) (i : Int) (h : 0 ≤ i) : L2.atI xs i = xs[i.toNat]? := by
  have := atI_nat xs i.toNat
  rw [Int.toNat_of_nonneg h] at this
  exact this
theorem ixN_int (n : Nat) (i : Int) (h : 0 ≤ i) (h2 : i < n) : L2.ixN n i = some i.toNat := by
  unfold L2.ixN
  rw [if_pos h, if_pos h2]
theorem ixN_nat (n i : Nat) (h2 : i < n) : L2.ixN n (i : Int) = some i := by
  rw [ixN_int n i (by omega) (by omega)]
  simp
@[simp] theorem dPow_10_18 : dPow (.int 10) (.int 18) = some (.int 1000000000000000000) := by
  have e : (10 : Int) ^ (18 : Int).toNat = 1000000000000000000 := by decide +kernel
  show (if 0 ≤ (18 : Int) ∧ (18 : Int) ≤ 1000000 ∧ (10 : Int).natAbs < 2 ^ 64 then some (PyData.int ((10 : Int) ^ (18 : Int).toNat)) else none) = _
  rw [e, if_pos (by decide)]
theorem okM_lit (i j : Int) (h1 : -(2 ^ 64) < j) (h2 : j < 2 ^ 64) : okM i j = true := by
  unfold okM
  simp only [Bool.or_eq_true, Bool.and_eq_true, decide_eq_true_eq]
  exact .inr ⟨h1, h2⟩
theorem okM_lit' (i j : Int) (h1 : -(2 ^ 64) < i) (h2 : i < 2 ^ 64) : okM i j = true := by
  unfold okM
  simp only [Bool.or_eq_true, Bool.and_eq_true, decide_eq_true_eq]
  exact .inl ⟨h1, h2⟩
end DL


namespace DL
open PySem
/-! loops by what stays true -/
theorem compGo_rel {g : PyData → Env → Option Env} {tt : Env → Rs Bool} {te : Env → Rs PyData} {vs : List Nat} (Inv : List PyData → List PyData → Env → Prop)
    (step : ∀ x xs acc e, Inv (x :: xs) acc e → ∃ e1 y e2, g x e = some e1 ∧ tt e1 = .ok true e1 ∧ te e1 = .ok y e2 ∧ Inv xs (acc ++ [y]) (wipeE e2 vs)) :
    ∀ (xs acc : List PyData) (e : Env), Inv xs acc e → ∃ ys e', compGo g tt te vs xs acc e = .ok ys e' ∧ Inv [] ys e'
  | [], acc, e, h => ⟨acc, e, compGo_nil .., h⟩
  | x :: xs, acc, e, h => by
    obtain ⟨e1, y, e2, h1, h2, h3, h4⟩ := step x xs acc e h
    obtain ⟨ys, e', h5, h6⟩ := compGo_rel Inv step xs _ _ h4
    refine ⟨ys, e', ?_, h6⟩
    rw [compGo_cons, h1, optRs_s, h2, Rs.bind_ok, if_pos rfl, h3, Rs.bind_ok, h5]
theorem forGo_rel {g : PyData → Env → Option Env} {body : Env → Out} (Inv : List PyData → Env → Prop)
    (step : ∀ x xs e, Inv (x :: xs) e → ∃ e1 e2, g x e = some e1 ∧ (body e1 = .nx e2 ∨ body e1 = .ct e2) ∧ Inv xs e2) :
    ∀ (xs : List PyData) (e : Env), Inv xs e → ∃ e', forGo g body xs e = .nx e' ∧ Inv [] e'
  | [], e, h => ⟨e, forGo_nil .., h⟩
  | x :: xs, e, h => by
    obtain ⟨e1, e2, h1, h2, h3⟩ := step x xs e h
    obtain ⟨e', h4, h5⟩ := forGo_rel Inv step xs _ h3
    refine ⟨e', ?_, h5⟩
    rw [forGo_cons, h1, optOut_s]
    rcases h2 with h2 | h2 <;> (rw [h2]; exact h4)
/-- a loop over range(N) -/
theorem forGo_range {g : PyData → Env → Option Env} {body : Env → Out} (N : Nat) (Inv : Nat → Env → Prop)
    (step : ∀ k e, k < N → Inv k e → ∃ e1 e2, g (.int k) e = some e1 ∧ (body e1 = .nx e2 ∨ body e1 = .ct e2) ∧ Inv (k + 1) e2) (e : Env) (h0 : Inv 0 e) : ∃ e', forGo g body (rangeD 0 N) e = .nx e' ∧ Inv N e' := by
  obtain ⟨e', h1, k, hk, h2, h3⟩ := forGo_rel (g := g) (body := body) (fun l e => ∃ k : Nat, k ≤ N ∧ l = (List.range' k (N - k)).map (fun i : Nat => PyData.int i) ∧ Inv k e) (by
    rintro x l e ⟨k, hk, h1, h2⟩
    have hk' : k < N := Nat.lt_of_not_le fun z => by
      rw [Nat.sub_eq_zero_of_le z] at h1
      simp at h1
    rw [show N - k = (N - (k + 1)) + 1 by omega, List.range'_succ, List.map_cons] at h1
    cases h1
    obtain ⟨e1, e2, a, b, c⟩ := step k e hk' h2
    exact ⟨e1, e2, a, b, k + 1, hk', rfl, c⟩) (rangeD 0 N) e ⟨0, by omega, by
      have : rangeD 0 N = (List.range N).map fun i : Nat => .int i := by simp [rangeD]
      rw [this, List.range_eq_range']; rfl, h0⟩
  have hN : k = N := by
    have hl := congrArg List.length h2
    simp at hl
    omega
  exact ⟨e', h1, by rw [← hN]; exact h3⟩
/-- a loop over a row, by what is done and what is left -/
theorem forGo_list {α : Type} {emb : α → PyData} {g : PyData → Env → Option Env} {body : Env → Out} (Inv : List α → List α → Env → Prop)
    (step : ∀ d x r e, Inv d (x :: r) e → ∃ e1 e2, g (emb x) e = some e1 ∧ (body e1 = .nx e2 ∨ body e1 = .ct e2) ∧ Inv (d ++ [x]) r e2) : ∀ (r d : List α) (e : Env), Inv d r e → ∃ e', forGo g body (r.map emb) e = .nx e' ∧ Inv (d ++ r) [] e'
  | [], d, e, h => ⟨e, forGo_nil .., by rw [List.append_nil]; exact h⟩
  | x :: r, d, e, h => by
    obtain ⟨e1, e2, h1, h2, h3⟩ := step d x r e h
    obtain ⟨e', h4, h5⟩ := forGo_list Inv step r (d ++ [x]) e2 h3
    refine ⟨e', ?_, by rw [List.append_assoc] at h5; exact h5⟩
    rw [List.map_cons, forGo_cons, h1, optOut_s]
    rcases h2 with h2 | h2 <;> (rw [h2]; exact h4)
/-- a comprehension over range(N) whose turns may draw -/
theorem compGo_range {g : PyData → Env → Option Env} {tt : Env → Rs Bool} {te : Env → Rs PyData} {vs : List Nat} (N : Nat) (Inv : Nat → List PyData → Env → Prop)
    (step : ∀ k acc e, k < N → Inv k acc e → ∃ e1 y e2, g (.int k) e = some e1 ∧ tt e1 = .ok true e1 ∧ te e1 = .ok y e2 ∧ Inv (k + 1) (acc ++ [y]) (wipeE e2 vs)) (e : Env) (h0 : Inv 0 [] e) :
    ∃ ys e', compGo g tt te vs (rangeD 0 N) [] e = .ok ys e' ∧ Inv N ys e' := by
  obtain ⟨ys, e', h1, k, hk, h2, h3⟩ := compGo_rel (g := g) (tt := tt) (te := te) (vs := vs) (fun l acc e => ∃ k : Nat, k ≤ N ∧ l = (List.range' k (N - k)).map (fun i : Nat => PyData.int i) ∧ Inv k acc e) (by
    rintro x l acc e ⟨k, hk, h1, h2⟩
    have hk' : k < N := Nat.lt_of_not_le fun z => by
      rw [Nat.sub_eq_zero_of_le z] at h1
      simp at h1
    rw [show N - k = (N - (k + 1)) + 1 by omega, List.range'_succ, List.map_cons] at h1
    cases h1
    obtain ⟨e1, y, e2, a, b, c, d⟩ := step k acc e hk' h2
    exact ⟨e1, y, e2, a, b, c, k + 1, hk', rfl, d⟩) (rangeD 0 N) [] e ⟨0, by omega, by
      have : rangeD 0 N = (List.range N).map fun i : Nat => .int i := by simp [rangeD]
      rw [this, List.range_eq_range']; rfl, h0⟩
  have hN : k = N := by
    have hl := congrArg List.length h2
    simp at hl
    omega
  exact ⟨ys, e', h1, by rw [← hN]; exact h3⟩
/-- a comprehension over data whose turns leave the slots as they were -/
theorem compGo_id {g : PyData → Env → Option Env} {te : Env → Rs PyData} {vs : List Nat} {e : Env} (f : PyData → PyData) (xs acc : List PyData)
    (h : ∀ x ∈ xs, ∃ e1, g x e = some e1 ∧ te e1 = .ok (f x) e1 ∧ wipeE e1 vs = e) : compGo g tYesD te vs xs acc e = .ok (acc ++ xs.map f) e := by
  have := compGo_map (g := g) (tt := tYesD) (te := te) (vs := vs) (emb := id) (e := e) (fun _ => true) f xs acc (fun x hx => by
    obtain ⟨e1, h1, h2, h3⟩ := h x hx
    exact ⟨e1, h1, rfl, fun _ => h2, h3⟩)
  rw [List.map_id, List.filter_eq_self.2 (by simp)] at this
  exact this
theorem rangeD_len (a : Int) (n : Nat) : (rangeD a n).length = n := by simp [rangeD]
theorem rangeD_eq (n : Nat) : rangeD 0 n = (List.range n).map fun i : Nat => .int i := by simp [rangeD]
/-- a whole number -/
def whole : PyData → Bool
  | .int _ => true
  | _ => false
@[simp] theorem whole_i (i) : whole (.int i) = true := rfl
@[simp] theorem whole_b (i) : whole (.bool i) = false := rfl
@[simp] theorem whole_n : whole .none = false := rfl
@[simp] theorem whole_s (i) : whole (.str i) = false := rfl
@[simp] theorem whole_t (i) : whole (.tuple i) = false := rfl
@[simp] theorem whole_l (i) : whole (.list i) = false := rfl
theorem ints_of_whole : ∀ xs : List PyData, (∀ x ∈ xs, whole x = true) → ∃ ns : List Int, xs = ns.map .int
  | [], _ => ⟨[], rfl⟩
  | x :: xs, h => by
    obtain ⟨ns, e⟩ := ints_of_whole xs fun y hy => h y (List.mem_cons_of_mem _ hy)
    have := h x List.mem_cons_self
    cases x with
    | int i => exact ⟨i :: ns, by rw [e]; rfl⟩
    | _ => cases this
def btw (a b : Int) : PyData → Bool
  | .int i => decide (a ≤ i) && decide (i ≤ b)
  | _ => false
theorem map_int_inj {ns ms : List Int} (h : ns.map PyData.int = ms.map PyData.int) : ns = ms :=
  (List.map_inj_right (fun _ _ e => PyData.int.inj e)).1 h
/-! equality of rows of whole numbers, and of answers -/
theorem lay_ints : ∀ ns : List Int, PyData.canLayAll0 (ns.map .int) = true ∧ PyData.depthAll (ns.map .int) = 0
  | [] => ⟨rfl, rfl⟩
  | x :: xs => by
    obtain ⟨h1, h2⟩ := lay_ints xs
    rw [List.map_cons, PyData.canLayAll0, PyData.depthAll, h1, h2]
    exact ⟨rfl, rfl⟩
theorem lay_bools : ∀ ns : List Bool, PyData.canLayAll0 (ns.map .bool) = true ∧ PyData.depthAll (ns.map .bool) = 0
  | [] => ⟨rfl, rfl⟩
  | x :: xs => by
    obtain ⟨h1, h2⟩ := lay_bools xs
    rw [List.map_cons, PyData.canLayAll0, PyData.depthAll, h1, h2]
    exact ⟨rfl, rfl⟩
theorem shp_list {xs : List PyData} (h : PyData.canLayAll0 xs = true) (d : PyData.depthAll xs ≤ 63) : SeqAt.shaped (.list xs) = true := by
  unfold SeqAt.shaped
  rw [PyData.canLay0, PyData.depth, h, Bool.true_and, decide_eq_true_eq]
  omega
theorem shp_tup {xs : List PyData} (h : PyData.canLayAll0 xs = true) (d : PyData.depthAll xs ≤ 63) : SeqAt.shaped (.tuple xs) = true := by
  unfold SeqAt.shaped
  rw [PyData.canLay0, PyData.depth, h, Bool.true_and, decide_eq_true_eq]
  omega
theorem shp_il (ns : List Int) : SeqAt.shaped (.list (ns.map .int)) = true := shp_list (lay_ints ns).1 (by rw [(lay_ints ns).2]; omega)
theorem shp_it (ns : List Int) : SeqAt.shaped (.tuple (ns.map .int)) = true := shp_tup (lay_ints ns).1 (by rw [(lay_ints ns).2]; omega)
theorem shp_bl (ns : List Bool) : SeqAt.shaped (.list (ns.map .bool)) = true := shp_list (lay_bools ns).1 (by rw [(lay_bools ns).2]; omega)
theorem shp_i (i : Int) : SeqAt.shaped (.int i) = true := by simp [SeqAt.shaped, PyData.canLay0, PyData.depth]
theorem eqv_i (i j : Int) : PyData.eqv (.int i) (.int j) = (i == j) := by simp [PyData.eqv]
theorem eqv_b (i j : Bool) : PyData.eqv (.bool i) (.bool j) = (i == j) := by simp [PyData.eqv]
theorem eqvAll_ints : ∀ ns ms : List Int, PyData.eqvAll (ns.map .int) (ms.map .int) = (ns == ms)
  | [], [] => by simp [PyData.eqvAll]
  | [], _ :: _ => by simp [PyData.eqvAll]
  | _ :: _, [] => by simp [PyData.eqvAll]
  | x :: xs, y :: ys => by
    rw [List.map_cons, List.map_cons, PyData.eqvAll, eqvAll_ints xs ys, eqv_i]
    rfl
theorem eqvAll_bools : ∀ ns ms : List Bool, PyData.eqvAll (ns.map .bool) (ms.map .bool) = (ns == ms)
  | [], [] => by simp [PyData.eqvAll]
  | [], _ :: _ => by simp [PyData.eqvAll]
  | _ :: _, [] => by simp [PyData.eqvAll]
  | x :: xs, y :: ys => by
    rw [List.map_cons, List.map_cons, PyData.eqvAll, eqvAll_bools xs ys, eqv_b]
    rfl
theorem eqv_ll (x y : List PyData) : PyData.eqv (.list x) (.list y) = PyData.eqvAll x y := by rw [PyData.eqv]
theorem eqv_tt (x y : List PyData) : PyData.eqv (.tuple x) (.tuple y) = PyData.eqvAll x y := by rw [PyData.eqv]
theorem dEq_ll (ns ms : List Int) : dEq (.list (ns.map .int)) (.list (ms.map .int)) = some (.bool (ns == ms)) := by
  unfold dEq
  rw [if_pos ⟨shp_il ns, shp_il ms⟩, eqv_ll, eqvAll_ints]
theorem dNe_ll (ns ms : List Int) : dNe (.list (ns.map .int)) (.list (ms.map .int)) = some (.bool (!(ns == ms))) := by
  unfold dNe
  rw [if_pos ⟨shp_il ns, shp_il ms⟩, eqv_ll, eqvAll_ints]
theorem dEq_tt (ns ms : List Int) : dEq (.tuple (ns.map .int)) (.tuple (ms.map .int)) = some (.bool (ns == ms)) := by
  unfold dEq
  rw [if_pos ⟨shp_it ns, shp_it ms⟩, eqv_tt, eqvAll_ints]
theorem dNe_tt (ns ms : List Int) : dNe (.tuple (ns.map .int)) (.tuple (ms.map .int)) = some (.bool (!(ns == ms))) := by
  unfold dNe
  rw [if_pos ⟨shp_it ns, shp_it ms⟩, eqv_tt, eqvAll_ints]
theorem dNe_bools (ns ms : List Bool) : dNe (.list (ns.map .bool)) (.list (ms.map .bool)) = some (.bool (!(ns == ms))) := by
  unfold dNe
  rw [if_pos ⟨shp_bl ns, shp_bl ms⟩, eqv_ll, eqvAll_bools]
theorem dEq_bools (ns ms : List Bool) : dEq (.list (ns.map .bool)) (.list (ms.map .bool)) = some (.bool (ns == ms)) := by
  unfold dEq
  rw [if_pos ⟨shp_bl ns, shp_bl ms⟩, eqv_ll, eqvAll_bools]
theorem any_eqv_ints (i : Int) (ns : List Int) : ((ns.map PyData.int).any fun z => PyData.eqv z (.int i)) = ns.contains i := by
  rw [List.any_map]
  induction ns with
  | nil => rfl
  | cons x xs ih =>
    rw [List.any_cons, ih, List.contains_cons]
    show (PyData.eqv (.int x) (.int i) || _) = _
    rw [eqv_i, Bool.beq_comm]
end DL


namespace DL
open PySem
/-! equality of data that stand for things with decidable equality -/
structure Emb {α : Type} [BEq α] (emb : α → PyData) (d : Nat) : Prop where
  lay : ∀ a, (emb a).canLay0 = true
  dep : ∀ a, (emb a).depth ≤ d
  eqv : ∀ a b, PyData.eqv (emb a) (emb b) = (a == b)
section
variable {α β : Type} [BEq α] [BEq β] {emb : α → PyData} {emb2 : β → PyData} {d d2 : Nat}
theorem Emb.i : Emb PyData.int 0 := ⟨fun a => by simp [PyData.canLay0], fun a => by simp [PyData.depth], eqv_i⟩
theorem Emb.layAll (E : Emb emb d) : ∀ l : List α, PyData.canLayAll0 (l.map emb) = true ∧ PyData.depthAll (l.map emb) ≤ d
  | [] => ⟨rfl, Nat.zero_le _⟩
  | x :: xs => by
    obtain ⟨h1, h2⟩ := E.layAll xs
    rw [List.map_cons, PyData.canLayAll0, PyData.depthAll, h1, E.lay x]
    exact ⟨rfl, Nat.max_le.2 ⟨E.dep x, h2⟩⟩
theorem Emb.eqvAll (E : Emb emb d) : ∀ l r : List α, PyData.eqvAll (l.map emb) (r.map emb) = (l == r)
  | [], [] => by simp [PyData.eqvAll]
  | [], _ :: _ => by simp [PyData.eqvAll]
  | _ :: _, [] => by simp [PyData.eqvAll]
  | x :: xs, y :: ys => by
    rw [List.map_cons, List.map_cons, PyData.eqvAll, E.eqvAll xs ys, E.eqv]
    rfl
theorem Emb.tup (E : Emb emb d) : Emb (fun l : List α => PyData.tuple (l.map emb)) (d + 1) := ⟨fun a => by rw [PyData.canLay0]; exact (E.layAll a).1, fun a => by rw [PyData.depth]; have := (E.layAll a).2; omega, fun a b => by rw [eqv_tt, E.eqvAll]⟩
theorem Emb.lst (E : Emb emb d) : Emb (fun l : List α => PyData.list (l.map emb)) (d + 1) := ⟨fun a => by rw [PyData.canLay0]; exact (E.layAll a).1, fun a => by rw [PyData.depth]; have := (E.layAll a).2; omega, fun a b => by rw [eqv_ll, E.eqvAll]⟩
theorem Emb.pair (E : Emb emb d) (E2 : Emb emb2 d) : Emb (fun p : α × β => PyData.tuple [emb p.1, emb2 p.2]) (d + 1) := ⟨fun a => by
    rw [PyData.canLay0, PyData.canLayAll0, PyData.canLayAll0, PyData.canLayAll0, E.lay, E2.lay]; rfl, fun a => by
    rw [PyData.depth, PyData.depthAll, PyData.depthAll, PyData.depthAll]
    have h1 := E.dep a.1
    have h2 := E2.dep a.2
    omega, fun a b => by
    rw [eqv_tt, PyData.eqvAll, PyData.eqvAll, PyData.eqvAll, E.eqv, E2.eqv, Bool.and_true]
    rfl⟩
theorem Emb.pr : Emb prD 1 := Emb.pair Emb.i Emb.i
theorem Emb.row : Emb (fun r : List Int => PyData.tuple (r.map .int)) 1 := Emb.tup Emb.i
theorem Emb.shp (E : Emb emb d) (hd : d ≤ 62) (a : α) : SeqAt.shaped (emb a) = true := by
  unfold SeqAt.shaped
  rw [E.lay, Bool.true_and, decide_eq_true_eq]
  have := E.dep a
  omega
theorem Emb.any (E : Emb emb d) (x : α) (l : List α) : ((l.map emb).any fun z => PyData.eqv z (emb x)) = l.any (· == x) := by
  rw [List.any_map]
  congr 1
  funext z
  exact E.eqv z x
theorem Emb.in_l (E : Emb emb d) (hd : d ≤ 60) (x : α) (l : List α) : dIn (emb x) (.list (l.map emb)) = some (.bool (l.any (· == x))) := by
  unfold dIn
  rw [if_pos ⟨E.shp (Nat.le_trans hd (by decide)) x, E.lst.shp (d := d + 1) (Nat.succ_le_succ (Nat.le_trans hd (by decide : 60 ≤ 61))) l⟩]
  show some (PyData.bool ((l.map emb).any fun z => PyData.eqv z (emb x))) = _
  rw [E.any]
theorem Emb.in_t (E : Emb emb d) (hd : d ≤ 60) (x : α) (l : List α) : dIn (emb x) (.tuple (l.map emb)) = some (.bool (l.any (· == x))) := by
  unfold dIn
  rw [if_pos ⟨E.shp (Nat.le_trans hd (by decide)) x, E.tup.shp (d := d + 1) (Nat.succ_le_succ (Nat.le_trans hd (by decide : 60 ≤ 61))) l⟩]
  show some (PyData.bool ((l.map emb).any fun z => PyData.eqv z (emb x))) = _
  rw [E.any]
theorem Emb.notIn_l (E : Emb emb d) (hd : d ≤ 60) (x : α) (l : List α) : dNotIn (emb x) (.list (l.map emb)) = some (.bool (!l.any (· == x))) := by
  unfold dNotIn
  rw [if_pos ⟨E.shp (Nat.le_trans hd (by decide)) x, E.lst.shp (d := d + 1) (Nat.succ_le_succ (Nat.le_trans hd (by decide : 60 ≤ 61))) l⟩]
  show some (PyData.bool (!(l.map emb).any fun z => PyData.eqv z (emb x))) = _
  rw [E.any]
theorem Emb.notIn_t (E : Emb emb d) (hd : d ≤ 60) (x : α) (l : List α) : dNotIn (emb x) (.tuple (l.map emb)) = some (.bool (!l.any (· == x))) := by
  unfold dNotIn
  rw [if_pos ⟨E.shp (Nat.le_trans hd (by decide)) x, E.tup.shp (d := d + 1) (Nat.succ_le_succ (Nat.le_trans hd (by decide : 60 ≤ 61))) l⟩]
  show some (PyData.bool (!(l.map emb).any fun z => PyData.eqv z (emb x))) = _
  rw [E.any]
theorem Emb.dEq (E : Emb emb d) (hd : d ≤ 60) (x y : α) : DL.dEq (emb x) (emb y) = some (.bool (x == y)) := by
  unfold DL.dEq
  rw [if_pos ⟨E.shp (Nat.le_trans hd (by decide)) x, E.shp (Nat.le_trans hd (by decide)) y⟩, E.eqv]
theorem Emb.dNe (E : Emb emb d) (hd : d ≤ 60) (x y : α) : DL.dNe (emb x) (emb y) = some (.bool (!(x == y))) := by
  unfold DL.dNe
  rw [if_pos ⟨E.shp (Nat.le_trans hd (by decide)) x, E.shp (Nat.le_trans hd (by decide)) y⟩, E.eqv]
end
end DL


namespace DL
open PySem PySem.Spec PyProof.Rows L2
section
variable {X : Cx} {C : Cc}
def asL : PyData → Env → Rs M
  | .list ds, e => .ok (.l ds) e
  | _, _ => .no
/-- xs * k, an owned list -/
def mOp (f : PyData → PyData → Option PyData) (ta tb : Env → Rs PyData) : Env → Rs M := fun env => (e2 f ta tb env).bind asL
theorem mOp_as (f ta tb) : mOp f ta tb = fun env => (ta env).bind fun x e1 => (tb e1).bind fun y e2 => (lift (f x y) e2).bind asL := by
  funext env
  unfold mOp e2
  cases ta env with
  | ok x e1 =>
    show ((tb e1).bind fun y e2 => lift (f x y) e2).bind asL = (tb e1).bind fun y e2 => (lift (f x y) e2).bind asL
    cases tb e1 <;> rfl
  | ex x e => rfl
  | no => rfl
def OpM (K : PySem.W.Frag) (r : R2) (f : PyData → PyData → Option PyData) : Prop :=
  ∀ v w x y ds H ow (Q : VK), DV K H ow v x → DV K H ow w y → f x y = some (.list ds) → (∀ p xs, H p = none → DVs K H ow xs ds → ds.length ≤ 16777216 → Q (.ref p) (upd H p (.lst xs))) → r v w H Q
theorem dm_op {a b : Expr} {ta tb : Env → Rs PyData} {op : Operator} {r : R2} {f : PyData → PyData → Option PyData} {pos : Pos} (ho : OpR X (binaryOp op) r) (hop : OpM X.K r f) (ha : DE X C a ta) (hb : DE X C b tb) : DM X C (.BinOp a op b pos) (mOp f ta tb) :=
  PEweak (pe_op ho ha hb) fun σ H Q h => rd_two (R1 := RE X.K) (R2 := RE X.K) (show rd X.K C (RM X.K C.N) (fun env => (ta env).bind fun x e1 => (tb e1).bind fun y e2 => (lift (f x y) e2).bind asL) σ H Q by rw [← mOp_as]; exact h) (fun H H' ow ow' v d st x => DV.stay st x) fun v w x y H ow env hv hw P h => by
    cases hf : f x y with
    | none => rw [hf] at h; exact h.elim
    | some d =>
      rw [hf] at h
      cases d with
      | list ds => exact hop v w x y ds H ow Q hv hw hf fun p xs hp hx hz => rdAt_fin (a := M.l ds) h (Gr.newG (i := C.N) hp) ⟨[p], .l upd_same (hx.stay (Gr.newG hp).stay) hz, by simp, fun q hq => by simp at hq; subst hq; exact give_same⟩ P
      | _ => exact h.elim
theorem om_mul {K : PySem.W.Frag} : OpM K (rMulAll K) dMul := by
  intro v w x y ds H ow Q hv hw e q
  cases hv with
  | int i => cases hw with
    | int j => obtain ⟨h, z⟩ := if_some e; cases z
    | _ => cases e
  | @lst a xs es h1 h2 h3 hz => cases hw with
    | int k =>
      obtain ⟨h, z⟩ := if_some e
      cases z
      exact .inr <| .inl ⟨a, k, xs, rfl, rfl, h1, h.2.1, h.1, by rw [sizeLine_eq, h3.length]; exact h.2.2, fun p hp => q p _ hp (h3.flat _) (by rw [List.length_flatten, List.map_replicate, List.sum_replicate_nat, Nat.mul_comm]; exact h.2.2)⟩
    | _ => cases e
  | @tup a xs es h1 h3 hz => cases hw with
    | int k => obtain ⟨h, z⟩ := if_some e; cases z
    | _ => cases e
  | _ => cases e
end
theorem mOp_eq (f ta tb) (env : Env) : mOp f ta tb env = (e2 f ta tb env).bind fun d e => asL d e := id rfl
theorem asL_l (ds) (e : Env) : asL (.list ds) e = .ok (.l ds) e := id rfl
end DL


namespace DL
open PySem PySem.Spec PyProof.Rows L2
section
variable {X : Cx} {C : Cc} {K : PySem.W.Frag}
/-! xs.count(k) of an owned list -/
def mCnt (xs : List PyData) : List PyData → Option (PyData × List PyData)
  | [.int k] => (intsOf xs).map fun ns => (.int (ns.count k : Nat), xs)
  | _ => none
theorem upd_self {H : Hp} {a : Addr} {o : HO} (h : H a = some o) : upd H a o = H := by
  funext b
  unfold upd
  split
  · rename_i e; rw [e, h]
  · rfl
theorem md_cnt : MtD K (rCntI K) mCnt := by
  intro a vs ws xs ys o zs H ow Q h1 h2 hz hw e q
  unfold mCnt at e
  split at e
  · rename_i k
    obtain ⟨w, rfl, d⟩ := hw.one
    cases hn : intsOf xs with
    | none => rw [hn] at e; cases e
    | some ns =>
      rw [hn] at e
      have e : some (PyData.int (ns.count k : Nat), xs) = some (o, zs) := e
      cases e
      have := intsOf_eq hn
      subst this
      have := h2.ints
      subst this
      cases d with
      | int _ =>
        refine ⟨a, ns, k, rfl, rfl, .of h1, ?_⟩
        have := q (.int (ns.count k : Nat)) (ns.map V.int) h2 (.int _) hz
        rw [upd_self h1] at this
        exact this
  · cases e
/-! xs[a], xs[b] = (x, y) -/
def stO (i : Nat) (x : PyData) (tk : Env → Rs PyData) (u : Env → Out) : Env → Out := fun e => match slotL e i with
  | none => .no
  | some _ => sE tk (fun k e1 => match setIt i x k e1 with
    | .nx e2 => u e2
    | _ => .no) e
def sSwap (i : Nat) (t ta tb : Env → Rs PyData) : Env → Out := sE t fun d e => match d with
  | .tuple [x, y] => stO i x ta (stO i y tb .nx) e
  | _ => .no
theorem store_l {D : Ends} {H : Hp} {ow : Ow} {σ : L2.St} {e : Env} {i : Nat} {v : V} {x : PyData} {tk : Env → Rs PyData} {u : Env → Out} (P : RpE K C H ow σ e) (dv : DV K H ow v x) (q : outAt K C D H ow (stO i x tk u e)) {Q : L2.St → Hp → Prop}
    (hQ : ∀ H3 ow3 e3, Stay H ow H3 ow3 → RpE K C H3 ow3 σ e3 → outAt K C D H3 ow3 (u e3) → Q σ H3) : gSub (tVar i) (rd K C (RE K) tk) rSetL v σ H Q := by
  unfold stO at q
  cases hs1 : slotL e i with
  | none => rw [hs1] at q; exact q.elim
  | some xs0 =>
    rw [hs1] at q
    obtain ⟨a, vs0, k1, k2, k3, k4, kz, ki⟩ := slot_l P hs1
    refine ⟨.ref a, k1, ?_⟩
    have q : outAt K C D H ow (sE tk (fun k e1 => match setIt i x k e1 with
      | .nx e2 => u e2
      | _ => .no) e) := q
    refine out_EX (R := RE K) P q fun kv H2 kd e2 ow2 X2 dk P2 q => ?_
    have dv2 : DV K H2 ow2 v x := dv.stay X2.stay
    unfold setIt at q
    cases hs2 : slotL e2 i with
    | none => rw [hs2] at q; exact q.elim
    | some xs =>
      rw [hs2] at q
      obtain ⟨a', vs, l1, l2, l3, l4, lz, li⟩ := slot_l P2 hs2
      rw [k1] at l1
      cases l1
      cases dk with
      | int j =>
        cases hn : ixN xs.length j with
        | none => simp only [hn] at q; exact q.elim
        | some n =>
          simp only [hn] at q
          obtain ⟨P3, x3, st3⟩ := P2.upd k1 l4 li (l3.set dv2 n) (by rw [List.length_set]; exact lz)
          exact ⟨a, vs, j, n, rfl, rfl, l2, by rw [l3.length]; exact hn, hQ _ _ _ (X2.stay.trans st3) P3 (outAt_from x3 q)⟩
      | _ => exact q.elim
variable {e ka kb : Expr} {pos tp1 tp2 pt : Pos} {kt : Nat} {t ta tb : Env → Rs PyData}
theorem ds_swap {i : Nat} {o1 o2 : Expr} (hc : X.calm = true) (h : DE X C e t) (ho1 : PE X o1 (tVar i)) (ho2 : PE X o2 (tVar i)) (hka : DE X C ka ta) (hkb : DE X C kb tb)
    (ha1 : ∀ v, assign (.Subscript o1 ka tp1) X.env v = (do
      let ov ← holding [v] (eval o1 X.env)
      let iv ← holding [v, ov] (eval ka X.env)
      standAt tp1
      holding [v, ov, iv] (setItem ov iv v)
      release [v, ov, iv] []) := by intro _; rfl)
    (ha2 : ∀ v, assign (.Subscript o2 kb tp2) X.env v = (do
      let ov ← holding [v] (eval o2 X.env)
      let iv ← holding [v, ov] (eval kb X.env)
      standAt tp2
      holding [v, ov, iv] (setItem ov iv v)
      release [v, ov, iv] []) := by intro _; rfl)
    (hs1 : (assignEach [.Subscript o1 ka tp1, .Subscript o2 kb tp2] X.env).map (·.2) = assign (.Subscript o1 ka tp1) X.env :: (assignEach [.Subscript o2 kb tp2] X.env).map (·.2) := by rfl)
    (hs2 : (assignEach [.Subscript o2 kb tp2] X.env).map (·.2) = assign (.Subscript o2 kb tp2) X.env :: (assignEach [] X.env).map (·.2) := by rfl)
    (hn : (assignEach [.Subscript o1 ka tp1, .Subscript o2 kb tp2] X.env).length = 2 := by rfl) (hst : (assignEach [.Subscript o1 ka tp1, .Subscript o2 kb tp2] X.env).findIdx? (·.1) = none := by rfl)
    (hs : swapsWithSole [.Tuple [.Subscript o1 ka tp1, .Subscript o2 kb tp2] kt pt] e pos.line X.env = pure false := by rfl) (hw : swappedStores [.Tuple [.Subscript o1 ka tp1, .Subscript o2 kb tp2] kt pt] e X.env = pure none := by rfl)
    (h1 : (assignEach [.Tuple [.Subscript o1 ka tp1, .Subscript o2 kb tp2] kt pt] X.env).map (·.2) = [assign (.Tuple [.Subscript o1 ka tp1, .Subscript o2 kb tp2] kt pt) X.env] := by rfl) :
    DS X C (.Assign [.Tuple [.Subscript o1 ka tp1, .Subscript o2 kb tp2] kt pt] e pos) (sSwap i t ta tb) :=
  PSweak (ps_asg h (pg_tup hc (pgs_cons (pg_sub ho1 hka set_list ha1) (pgs_cons (pg_sub ho2 hkb set_list ha2) pgs_nil hs2) hs1) hn hst) hs hw h1) fun D σ H ⟨env, ow, P, h⟩ => out_E (R := RE X.K) P h fun v H1 d e1 ow1 dv P1 q => by
    cases dv with
    | @tup a xs ds f1 f3 fz =>
      cases f3 with
      | nil => exact q.elim
      | @cons v1 vs1 d1 ds1 g1 g2 =>
        cases g2 with
        | nil => exact q.elim
        | @cons v2 vs2 d2 ds2 g3 g4 =>
          cases g4 with
          | @cons v3 vs3 d3 ds3 g5 g6 => exact q.elim
          | nil =>
            have q : outAt X.K C D H1 ow1 (stO i d1 ta (stO i d2 tb .nx) e1) := q
            refine ⟨a, _, rfl, f1.sq, rfl, v1, [v2], rfl, store_l P1 g1 q fun H3 ow3 e3 S3 P3 q3 => ⟨v2, [], rfl, store_l P3 (g3.stay S3) q3 fun H4 ow4 e4 S4 P4 q4 => ⟨rfl, q4 _ H4 ow4 Ext.refl P4⟩⟩⟩
    | _ => exact q.elim
end
theorem sSwap_eq (i : Nat) (t ta tb : Env → Rs PyData) (env : Env) : sSwap i t ta tb env = (t env).to fun d e => match d with
  | .tuple [x, y] => stO i x ta (stO i y tb .nx) e
  | _ => .no := id rfl
theorem stO_eq (i : Nat) (x : PyData) (tk : Env → Rs PyData) (u : Env → Out) (e : Env) : stO i x tk u e = optOut (slotL e i) fun _ => (tk e).to fun k e1 => match setIt i x k e1 with
    | .nx e2 => u e2
    | _ => .no := by
  unfold stO
  cases slotL e i <;> rfl
end DL


namespace DL
open PySem PySem.Spec PyProof.Rows L2
section
variable {X : Cx} {C : Cc} {K : PySem.W.Frag} {H : Hp} {ow : Ow}
/-! owned dicts with whole numbers for keys -/
def getM : List (Int × PyData) → Int → Option PyData
  | [], _ => none
  | p :: r, k => if p.1 = k then some p.2 else getM r k
def putM : List (Int × PyData) → Int → PyData → List (Int × PyData)
  | [], k, d => [(k, d)]
  | p :: r, k, d => if p.1 = k then (p.1, d) :: r.map (fun q => if q.1 = k then (q.1, d) else q) else p :: putM r k d
theorem DKs.val {vs : List (Key × V)} {ks : List (Int × PyData)} (h : DKs K H ow vs ks) (k : Int) : match getM ks k with
    | none => valV vs (.inl k) = none
    | some d => ∃ v, valV vs (.inl k) = some v ∧ DV K H ow v d := by
  unfold DKs at h
  induction h with
  | nil => exact rfl
  | @cons p q ps qs hq t ih =>
    obtain ⟨h1, h2⟩ := hq
    unfold getM
    by_cases e : q.1 = k
    · rw [if_pos e]
      exact ⟨p.2, valV_pos (h1.trans (by rw [e])), h2⟩
    · rw [if_neg e, valV_neg (fun z => e (by rw [h1] at z; exact Sum.inl.inj z))]
      exact ih
theorem DKs.some {vs : List (Key × V)} {ks : List (Int × PyData)} (h : DKs K H ow vs ks) {k : Int} : (valV vs (.inl k)).isSome = (getM ks k).isSome := by
  have := h.val k
  cases e : getM ks k with
  | none => rw [e] at this; rw [this]; rfl
  | some d =>
    rw [e] at this
    obtain ⟨v, h1, _⟩ := this
    rw [h1]; rfl
theorem DKs.repl {vs : List (Key × V)} {ks : List (Int × PyData)} (h : DKs K H ow vs ks) (k : Int) {v : V} {d : PyData} (dv : DV K H ow v d) : DKs K H ow (vs.map fun kv => if kv.1 = .inl k then (kv.1, v) else kv) (ks.map fun q => if q.1 = k then (q.1, d) else q) := by
  unfold DKs at h ⊢
  induction h with
  | nil => exact .nil
  | @cons p q ps qs hq t ih =>
    obtain ⟨h1, h2⟩ := hq
    rw [List.map_cons, List.map_cons]
    refine .cons ?_ ih
    by_cases e : q.1 = k
    · rw [if_pos e, if_pos (h1.trans (by rw [e]))]; exact ⟨h1, dv⟩
    · rw [if_neg e, if_neg (fun z => e (by rw [h1] at z; exact Sum.inl.inj z))]; exact ⟨h1, h2⟩
theorem DKs.put {vs : List (Key × V)} {ks : List (Int × PyData)} (h : DKs K H ow vs ks) (k : Int) {v : V} {d : PyData} (dv : DV K H ow v d) : DKs K H ow (putK vs (.inl k) v) (putM ks k d) := by
  have key : putK vs (.inl k) v = if (vs.any fun kv => decide (kv.1 = Sum.inl k)) = true then vs.map (fun kv => if kv.1 = .inl k then (kv.1, v) else kv) else vs ++ [(.inl k, v)] := rfl
  rw [key]
  clear key
  have h0 := h
  unfold DKs at h ⊢
  induction h with
  | nil => exact .cons ⟨rfl, dv⟩ .nil
  | @cons p q ps qs hq t ih =>
    obtain ⟨h1, h2⟩ := hq
    have ih := ih t
    rw [List.any_cons, putM]
    by_cases e : q.1 = k
    · have e2 : p.1 = Sum.inl k := h1.trans (by rw [e])
      rw [if_pos e, decide_eq_true e2, Bool.true_or, if_pos rfl, List.map_cons, if_pos e2]
      exact .cons ⟨h1, dv⟩ (DKs.repl t k dv)
    · have e2 : ¬p.1 = Sum.inl k := fun z => e (by rw [h1] at z; exact Sum.inl.inj z)
      rw [if_neg e, decide_eq_false e2, Bool.false_or]
      by_cases c : (ps.any fun kv => decide (kv.1 = Sum.inl k)) = true
      · rw [if_pos c] at ih ⊢
        rw [List.map_cons, if_neg e2]
        exact .cons ⟨h1, h2⟩ ih
      · rw [if_neg c] at ih ⊢
        rw [List.cons_append]
        exact .cons ⟨h1, h2⟩ ih
theorem putM_len : ∀ (ks : List (Int × PyData)) (k : Int) (d : PyData), (putM ks k d).length ≤ ks.length + 1
  | [], k, d => by simp [putM]
  | p :: r, k, d => by
    have := putM_len r k d
    rw [putM]
    split
    · simp
    · rw [List.length_cons, List.length_cons]; omega
theorem DKs.length {vs : List (Key × V)} {ks : List (Int × PyData)} (h : DKs K H ow vs ks) : vs.length = ks.length := Paired.length h
/-- the object of an owned dict at slot i is changed -/
theorem RpE.updM {σ : L2.St} {env : Env} (P : RpE K C H ow σ env) {i : Nat} {a : Addr} {vs' : List (Key × V)} {ks' : List (Int × PyData)} (hi : σ[i]? = some (some (.ref a))) (ha : ow a = some i) (hl : i < C.N) (h : DKs K H ow vs' ks') (hz : ks'.length ≤ 16777216) :
    RpE K C (L2.upd H a (.dK vs')) ow σ (env.set i (some (.m ks'))) ∧ Ext C.N H ow (L2.upd H a (.dK vs')) ow ∧ Stay H ow (L2.upd H a (.dK vs')) ow := by
  have st : Stay H ow (L2.upd H a (.dK vs')) ow := fun b o hb hb' => ⟨by
    rw [upd_ne (fun z => by rw [z, ha] at hb'; cases hb')]; exact hb, hb'⟩
  refine ⟨⟨fun j m e => ?_, P.io, by rw [List.length_set]; exact P.len, P.lenS⟩, fun b o hb hb' => ⟨?_, rfl⟩, st⟩
  · by_cases hj : i = j
    · subst hj
      rw [List.getElem?_set_self (by rw [P.len]; exact hl)] at e
      cases e
      exact ⟨.ref a, [a], hi, .m upd_same (h.stay st) hz, by simp, fun p hp => by simp at hp; subst hp; exact ha⟩
    · rw [List.getElem?_set_ne hj] at e
      obtain ⟨v, fp, h1, h2, h3, h4⟩ := P.sl j m e
      refine ⟨v, fp, h1, h2.stay st fun p hp => upd_ne fun z => ?_, h3, h4⟩
      have := h4 p hp
      rw [z, ha] at this
      exact hj (Option.some.inj this)
  · refine (upd_ne fun z => ?_).trans hb
    have := hb' i (by rw [z]; exact ha)
    omega
/-- {} -/
def mNewM : Env → Rs M := fun e => .ok (.m []) e
theorem dm_newM {pos : Pos} : DM X C (.Dict [] [] pos) mNewM :=
  PEweak pe_dnewK fun σ H Q ⟨env, ow, P, h⟩ => fun p hp => rdAt_fin (a := M.m []) h (Gr.newG (i := C.N) hp) ⟨[p], .m upd_same .nil (by simp), by simp, fun q hq => by simp at hq; subst hq; exact give_same⟩ P
variable {a b e k : Expr} {pos tpos : Pos} {t tk tv : Env → Rs PyData} {i : Nat}
/-- x in d, x not in d -/
def eInM (n : Bool) (i : Nat) (t : Env → Rs PyData) : Env → Rs PyData := fun env => (t env).bind fun x e => match slotM e i, x with
  | some ks, .int k => .ok (.bool (xor n (getM ks k).isSome)) e
  | _, _ => .no
theorem rd_inM {n : Bool} {σ : L2.St} {H : Hp} {Q : VK} (h : rd K C (RE K) (eInM n i t) σ H Q) : rd K C (RE K) t σ H fun y H1 => tVar i σ H1 fun x H2 => ∃ a o, x = .ref a ∧ DGet H2 a y o ∧ Q (.bl (xor n o.isSome)) H2 := by
  refine rd_one (R1 := RE K) h fun v x H ow env hv P h => ?_
  cases hs : slotM env i with
  | none => rw [hs] at h; exact h.elim
  | some ks =>
    rw [hs] at h
    cases hv with
    | int j =>
      obtain ⟨a, vs, h1, h2, h3, h4, hz, hi⟩ := slot_m P hs
      refine ⟨.ref a, h1, a, _, rfl, DGet.k (k := .inl j) h2, ?_⟩
      rw [h3.some]
      exact h _ H ow Ext.refl (.bl _) P
    | _ => exact h.elim
theorem de_inM (hu : X.A.units + 65 < cLine) (ha : DE X C a t) (hb : PE X b (tVar i)) (hm : behindInMarks .In b = false := by first | exact nobehind _ (by decide) (by decide) | rfl) : DE X C (.Compare a [.In] [b] pos) (eInM false i t) :=
  PEweak (pe_cmp (pc_din (by omega) ha hb) hm) fun σ H Q h => by
    have := rd_inM h
    simp only [Bool.false_xor] at this
    exact this
theorem de_notInM (hu : X.A.units + 65 < cLine) (ha : DE X C a t) (hb : PE X b (tVar i)) (hm : behindInMarks .NotIn b = false := by first | exact nobehind _ (by decide) (by decide) | rfl) : DE X C (.Compare a [.NotIn] [b] pos) (eInM true i t) :=
  PEweak (pe_cmp (pc_dnotin (by omega) ha hb) hm) fun σ H Q h => by
    have := rd_inM h
    simp only [Bool.true_xor] at this
    exact this
theorem dt_inM (hu : X.A.units + 65 < cLine) (ha : DE X C a t) (hb : PE X b (tVar i)) (hm : behindInMarks .In b = false := by first | exact nobehind _ (by decide) (by decide) | rfl) : DT X C (.Compare a [.In] [b] pos) (tb1 (eInM false i t)) :=
  PTweak (pt_cmp (pc_din (by omega) ha hb) hm) fun σ H Q h => by
    have := rd_inM (rd_tb h)
    simp only [Bool.false_xor] at this
    exact this
theorem dt_notInM (hu : X.A.units + 65 < cLine) (ha : DE X C a t) (hb : PE X b (tVar i)) (hm : behindInMarks .NotIn b = false := by first | exact nobehind _ (by decide) (by decide) | rfl) : DT X C (.Compare a [.NotIn] [b] pos) (tb1 (eInM true i t)) :=
  PTweak (pt_cmp (pc_dnotin (by omega) ha hb) hm) fun σ H Q h => by
    have := rd_inM (rd_tb h)
    simp only [Bool.true_xor] at this
    exact this
/-- d[x] -/
def eGetM (i : Nat) (t : Env → Rs PyData) : Env → Rs PyData := fun env => match slotM env i with
  | none => .no
  | some _ => (t env).bind fun x e => match slotM e i, x with
    | some ks, .int k => lift (getM ks k) e
    | _, _ => .no
theorem de_getM (hu : X.A.units + 65 < cLine) (ho : PE X a (tVar i)) (hb : DE X C b t) (hs : NoSl b) : DE X C (.Subscript a b pos) (eGetM i t) :=
  PEweak (pe_dget (by omega) ho hb hs) fun σ H Q ⟨env, ow, P, h⟩ => by
    unfold eGetM at h
    cases hs : slotM env i with
    | none => rw [hs] at h; exact h.elim
    | some ks0 =>
      rw [hs] at h
      obtain ⟨a, vs0, k1, k2, k3, k4, kz, ki⟩ := slot_m P hs
      refine ⟨.ref a, k1, env, ow, P, rdAt_mono (rdAt_bind (R1 := RE X.K) h) fun kv H1 ⟨kd, e1, ow1, X1, V1, P1, h1⟩ => ?_⟩
      cases hs1 : slotM e1 i with
      | none => rw [hs1] at h1; exact h1.elim
      | some ks =>
        rw [hs1] at h1
        obtain ⟨a', vs, l1, l2, l3, l4, lz, li⟩ := slot_m P1 hs1
        rw [k1] at l1
        cases l1
        cases V1 with
        | int j =>
          obtain ⟨d, e, h1⟩ := rdAt_lift (v := V.non) h1
          have := l3.val j
          rw [e] at this
          obtain ⟨v, m1, m2⟩ := this
          refine ⟨a, v, rfl, ?_, h1 _ _ _ Ext.refl m2 P1⟩
          have g := DGet.k (k := .inl j) l2
          rw [m1] at g
          exact g
        | _ => exact h1.elim
/-- d[k] = v -/
def putIt (i : Nat) (d k : PyData) (e : Env) : Out := match slotM e i with
  | some ks => match k with
    | .int j => if ks.length < 16777216 then .nx (e.set i (some (.m (putM ks j d)))) else .no
    | _ => .no
  | none => .no
def sPutM (i : Nat) (t tk : Env → Rs PyData) : Env → Out := sE t fun d e => match slotM e i with
  | none => .no
  | some _ => sE tk (putIt i d) e
theorem ds_putM {o : Expr} (hu : X.A.units + 65 < cLine) (h : DE X C e t) (ho : PE X o (tVar i)) (hk : DE X C k tk) (hs : swapsWith e (some (.Subscript o k tpos)) pos.line X.env = pure false := by rfl) : DS X C (.Assign [.Subscript o k tpos] e pos) (sPutM i t tk) :=
  PSweak (ps_dput (by omega) ho hk h hs) fun D σ H ⟨env, ow, P, h⟩ => out_E (R := RE X.K) P h fun v H1 d e1 ow1 dv P1 q => by
    cases hs1 : slotM e1 i with
    | none => rw [hs1] at q; exact q.elim
    | some xs0 =>
      rw [hs1] at q
      obtain ⟨a, vs0, k1, k2, k3, k4, kz, ki⟩ := slot_m P1 hs1
      refine ⟨.ref a, k1, ?_⟩
      have q : outAt X.K C D H1 ow1 (sE tk (putIt i d) e1) := q
      refine out_EX (R := RE X.K) P1 q fun kv H2 kd e2 ow2 X2 dk P2 q => ?_
      have dv2 : DV X.K H2 ow2 v d := dv.stay X2.stay
      unfold putIt at q
      cases hs2 : slotM e2 i with
      | none => rw [hs2] at q; exact q.elim
      | some xs =>
        rw [hs2] at q
        obtain ⟨a', vs, l1, l2, l3, l4, lz, li⟩ := slot_m P2 hs2
        rw [k1] at l1
        cases l1
        cases dk with
        | int j =>
          by_cases hl : xs.length < 16777216
          · have q : outAt X.K C D H2 ow2 (.nx (e2.set i (some (.m (putM xs j d))))) := by simpa only [if_pos hl] using q
            obtain ⟨P3, x3, st3⟩ := P2.updM k1 l4 li (l3.put j dv2) (by have := putM_len xs j d; omega)
            refine ⟨a, _, rfl, DPut.k (k := .inl j) l2 (by rw [sizeLine_eq, l3.length]; exact hl), q σ _ ow2 x3 P3⟩
          · have q : outAt X.K C D H2 ow2 .no := by simpa only [if_neg hl] using q
            exact q.elim
        | _ => exact q.elim
/-- len(d) -/
def eLenM (i : Nat) : Env → Rs PyData := fun env => lift ((slotM env i).map fun ks => .int (ks.length : Nat)) env
theorem de_lenM {e : Expr} {p : Pos} (hg : Gl X "len") (hm : X.mg "len" = none) (ha : PE X e (tVar i))
    (he : starEach [e] X.env = (false, eval e X.env) :: starEach [] X.env := by rfl) (hpl : (backTo pos (starEach [] X.env)).any (·.1) = false := by rfl) : DE X C (.Call (.Name "len" p) [e] [] pos) (eLenM i) :=
  PEweak (pe_callB call_lenD hg hm rfl (pa_cons ha pa_nil he) (by decide) (by decide) he hpl) fun σ H Q ⟨env, ow, P, h⟩ => by
    obtain ⟨d, e, h⟩ := rdAt_lift (v := V.non) h
    cases hs : slotM env i with
    | none => rw [hs] at e; cases e
    | some ks =>
      rw [hs] at e
      cases e
      obtain ⟨a, vs, h1, h2, h3, h4, hz, hi⟩ := slot_m P hs
      refine ⟨_, h1, a, vs, rfl, h2, ?_⟩
      rw [h3.length]
      exact h _ H ow Ext.refl (.int _) P
end
@[simp] theorem mNewM_eq (env : Env) : mNewM env = .ok (.m []) env := id rfl
@[simp] theorem eInM_eq (n i t) (env : Env) : eInM n i t env = (t env).bind fun x e => optRs (slotM e i) fun ks => optRs (asI x) fun k => .ok (.bool (xor n (getM ks k).isSome)) e := by
  unfold eInM
  congr 1
  funext x e
  cases slotM e i with
  | none => rfl
  | some ks => cases x <;> rfl
@[simp] theorem eGetM_eq (i t) (env : Env) : eGetM i t env = optRs (slotM env i) fun _ => (t env).bind fun x e => optRs (slotM e i) fun ks => optRs (asI x) fun k => lift (getM ks k) e := by
  unfold eGetM
  cases slotM env i with
  | none => rfl
  | some _ =>
    show (t env).bind _ = (t env).bind _
    congr 1
    funext x e
    cases slotM e i with
    | none => rfl
    | some ks => cases x <;> rfl
@[simp] theorem putIt_eq (i d k e) : putIt i d k e = optOut (slotM e i) fun ks => optOut (asI k) fun j => if ks.length < 16777216 then .nx (e.set i (some (.m (putM ks j d)))) else .no := by
  unfold putIt
  cases slotM e i with
  | none => rfl
  | some ks => cases k <;> rfl
@[simp] theorem sPutM_eq (i t tk) (env : Env) : sPutM i t tk env = sE t (fun d e => optOut (slotM e i) fun _ => sE tk (putIt i d) e) env := by
  unfold sPutM
  congr 1
  funext d e
  cases slotM e i <;> rfl
@[simp] theorem eLenM_eq (i) (env : Env) : eLenM i env = lift ((slotM env i).map fun ks => .int (ks.length : Nat)) env := id rfl
end DL


local macro_rules | `(tactic| simp only [dlall, $ts,*] $[$l:location]?) => `(tactic| simp only [DL.Rs.bind_ok, DL.Rs.bind_ex, DL.Rs.bind_no, DL.lift_some, DL.lift_none, DL.thn_nx, DL.thn_rt, DL.thn_bk, DL.thn_ct, DL.thn_ex, DL.thn_no, DL.to_ok, DL.to_ex, DL.to_no, DL.fin_nx, DL.fin_rt, DL.optOut_s, DL.optOut_n, DL.optRs_s, DL.optRs_n, DL.asB_b, DL.chB_b, DL.eVar_eq, DL.slotD_0, DL.slotD_s, DL.slotL_0, DL.slotL_s, DL.slotM_0, DL.slotM_s, DL.slotF_0, DL.slotF_s, DL.slotScr_0, DL.slotScr_s, DL.eC_eq, DL.e2_eq, DL.e1_eq, DL.tb1_eq, DL.tt1_eq, DL.tNotD_eq, DL.tAndD_eq, DL.tOrD_eq, DL.eNot_eq, DL.eAnd_eq, DL.eOr_eq, DL.eIf_eq, DL.eChain_eq, DL.aNil_eq, DL.aCons_eq, DL.aOne_eq, DL.eTup_eq, DL.eLst_eq, DL.mLst_eq, DL.mD_eq, DL.eFrz_eq, DL.frzM_d, DL.frzM_l, DL.eB_eq, DL.eListScr_eq, DL.ixOf_i, DL.eIxO_eq, DL.pNo_eq, DL.pSome_eq, DL.oInt_i, DL.eSlice_eq, DL.eBO_eq, DL.e2R_eq, DL.ttO_eq, DL.eTupO_eq, DL.eListO_eq, DL.eIsi_eq, DL.eListRg_eq, DL.mListRg_eq, DL.eMt_eq, DL.seqOne_l, DL.seqOne_t, DL.mList_eq, DL.itSeq_eq, DL.itB_eq, DL.seqOf_l, DL.seqOf_t, DL.avNil_eq, DL.avD_eq, DL.avS_eq, DL.avMs_nil, DL.avMs_cons, DL.avM_d, DL.avM_sl, DL.jsOf_nil, DL.jsOf_d, DL.jsOf_s, DL.putBack_nil, DL.putBack_d, DL.putBack_s, DL.toRs_rt, DL.callM_eq, DL.eCall_eq, DL.eCallS_eq, DL.dAvs_t, DL.dAvs_l, DL.seqS_t, DL.seqS_l, DL.sThen_eq, DL.sE_eq, DL.sNx_eq, DL.sBk_eq, DL.sCt_eq, DL.sNo_eq, DL.sRet_eq, DL.sRetN_eq, DL.sDrop_eq, DL.sIf_eq, DL.sSet_eq, DL.sAsg_eq, DL.sAug_eq, DL.sSetItem_eq, DL.asI_i, DL.setIt_eq, DL.sFor_eq, DL.runDef_eq, DL.start0_eq, DL.outs_nil, DL.outs_cons, DL.rep_succ, DL.mvM_l, DL.mvM_m, DL.mvM_d, DL.alNil_eq, DL.alD_eq, DL.alL_eq, DL.alMs_nil, DL.alMs_cons, DL.alM_d, DL.alM_l, DL.toSc_rt, DL.eCallL_eq, DL.bEnum_l, DL.bEnum_t, DL.eSM_eq, DL.isSq_l, DL.isSq_t, DL.cntD_l, DL.cntD_t, DL.mVar_eq, DL.mvF_l, DL.mvF_d, DL.eVarF_eq, DL.dAdd_ii, DL.dAddI_ii, DL.dSub_ii, DL.dMul_ii, DL.dDiv_ii, DL.dMod_ii, DL.dLt_ii, DL.dLe_ii, DL.dGt_ii, DL.dGe_ii, DL.dNeg_i, DL.dEq_ii, DL.dNe_ii, DL.dEq_bb, DL.dNe_bb, DL.dIs_none, DL.dIsNot_none, DL.isNon_none, DL.isNon_b, DL.isNon_i, DL.isNon_s, DL.isNon_l, DL.isNon_t, DL.tru_b, DL.tru_i, DL.tru_n, DL.tru_l, DL.tru_t, DL.bLen_l, DL.bLen_t, DL.bAbs_i, DL.bInt_i, DL.bInt_b, DL.bSum_l, DL.bSum_t, DL.bAll_l, DL.bAny_l, DL.bTup_l, DL.bTup_t, DL.bList_l, DL.bList_t, DL.bSorted_l, DL.bSorted_t, DL.bMax_ii, DL.bMin_ii, DL.bRange1_i, DL.bZip_l, DL.bZip_t, DL.bZipM_tl, DL.bZip3_t, DL.dIx_l, DL.dIx_t, DL.dSlice_l, DL.dSlice_t, DL.isI_1, DL.isI_2, DL.isI_3, DL.isI_4, DL.isI_5, DL.isI_6, DL.isI_7, DL.isI_8, DL.isI_9, DL.isI_10, DL.isI_11, DL.isI_12, DL.isI_13, DL.isI_14, DL.isI_15, DL.isI_16, DL.isI_17, DL.isI_18, DL.isI_19, DL.isI_20, DL.isI_21, DL.isI_22, DL.isI_23, DL.isI_24, DL.isI_25, DL.isI_26, DL.scalar_1, DL.scalar_2, DL.scalar_3, DL.scalar_4, DL.scalar_5, DL.chkS_i, DL.chkS_b, DL.gN_eq, DL.gT_eq, DL.gTL_eq, DL.gsN_nil, DL.gsC_cons, DL.wipeE_nil, DL.wipeE_cons, DL.restE_nil, DL.restE_cons, DL.keepD_n, DL.keepD_d, DL.keepD_l, DL.keepD_x, DL.tYesD_eq, DL.eComp_eq, DL.mComp_eq, DL.compR_ok, DL.eLenDc_eq, DL.eKey_eq, DL.kI_i, DL.dRev_t, DL.compGo_nil, DL.forGo_nil, DL.lp_nx, DL.lp_ct, DL.lp_bk, DL.lp_rt, DL.atI_2, DL.atI_3, DL.atI_4, DL.atI_5, DL.atI_6, DL.atI_7, DL.atI_zero, DL.atI_one, DL.dPow_10_18, Option.isSome_some, beq_self_eq_true, List.map_cons, List.map_nil, List.length_cons, List.length_nil, List.cons_append, List.nil_append, List.set_cons_succ, List.set_cons_zero, List.getElem?_cons_succ, List.getElem?_cons_zero, Option.join_some, Option.map_some, Option.bind_some, List.tail_cons, List.head?_cons, if_true, if_false, Bool.false_eq_true, Bool.true_eq_false, and_true, true_and, List.nodup_cons, List.not_mem_nil, not_false_eq_true, List.nodup_nil, Bool.not_true, Bool.not_false, ite_true, ite_false, Nat.reduceAdd, Nat.reduceSub, Nat.zero_add, List.replicate_zero, List.append_nil, List.mem_cons, Nat.reduceEqDiff, or_false, or_self, reduceIte, decide_true, decide_false, Nat.reduceLeDiff, Nat.reduceLT, Nat.le_refl, $ts,*] $[$l]?)
local macro_rules | `(tactic| simp only [dlall] $[$l:location]?) => `(tactic| simp only [DL.Rs.bind_ok, DL.Rs.bind_ex, DL.Rs.bind_no, DL.lift_some, DL.lift_none, DL.thn_nx, DL.thn_rt, DL.thn_bk, DL.thn_ct, DL.thn_ex, DL.thn_no, DL.to_ok, DL.to_ex, DL.to_no, DL.fin_nx, DL.fin_rt, DL.optOut_s, DL.optOut_n, DL.optRs_s, DL.optRs_n, DL.asB_b, DL.chB_b, DL.eVar_eq, DL.slotD_0, DL.slotD_s, DL.slotL_0, DL.slotL_s, DL.slotM_0, DL.slotM_s, DL.slotF_0, DL.slotF_s, DL.slotScr_0, DL.slotScr_s, DL.eC_eq, DL.e2_eq, DL.e1_eq, DL.tb1_eq, DL.tt1_eq, DL.tNotD_eq, DL.tAndD_eq, DL.tOrD_eq, DL.eNot_eq, DL.eAnd_eq, DL.eOr_eq, DL.eIf_eq, DL.eChain_eq, DL.aNil_eq, DL.aCons_eq, DL.aOne_eq, DL.eTup_eq, DL.eLst_eq, DL.mLst_eq, DL.mD_eq, DL.eFrz_eq, DL.frzM_d, DL.frzM_l, DL.eB_eq, DL.eListScr_eq, DL.ixOf_i, DL.eIxO_eq, DL.pNo_eq, DL.pSome_eq, DL.oInt_i, DL.eSlice_eq, DL.eBO_eq, DL.e2R_eq, DL.ttO_eq, DL.eTupO_eq, DL.eListO_eq, DL.eIsi_eq, DL.eListRg_eq, DL.mListRg_eq, DL.eMt_eq, DL.seqOne_l, DL.seqOne_t, DL.mList_eq, DL.itSeq_eq, DL.itB_eq, DL.seqOf_l, DL.seqOf_t, DL.avNil_eq, DL.avD_eq, DL.avS_eq, DL.avMs_nil, DL.avMs_cons, DL.avM_d, DL.avM_sl, DL.jsOf_nil, DL.jsOf_d, DL.jsOf_s, DL.putBack_nil, DL.putBack_d, DL.putBack_s, DL.toRs_rt, DL.callM_eq, DL.eCall_eq, DL.eCallS_eq, DL.dAvs_t, DL.dAvs_l, DL.seqS_t, DL.seqS_l, DL.sThen_eq, DL.sE_eq, DL.sNx_eq, DL.sBk_eq, DL.sCt_eq, DL.sNo_eq, DL.sRet_eq, DL.sRetN_eq, DL.sDrop_eq, DL.sIf_eq, DL.sSet_eq, DL.sAsg_eq, DL.sAug_eq, DL.sSetItem_eq, DL.asI_i, DL.setIt_eq, DL.sFor_eq, DL.runDef_eq, DL.start0_eq, DL.outs_nil, DL.outs_cons, DL.rep_succ, DL.mvM_l, DL.mvM_m, DL.mvM_d, DL.alNil_eq, DL.alD_eq, DL.alL_eq, DL.alMs_nil, DL.alMs_cons, DL.alM_d, DL.alM_l, DL.toSc_rt, DL.eCallL_eq, DL.bEnum_l, DL.bEnum_t, DL.eSM_eq, DL.isSq_l, DL.isSq_t, DL.cntD_l, DL.cntD_t, DL.mVar_eq, DL.mvF_l, DL.mvF_d, DL.eVarF_eq, DL.dAdd_ii, DL.dAddI_ii, DL.dSub_ii, DL.dMul_ii, DL.dDiv_ii, DL.dMod_ii, DL.dLt_ii, DL.dLe_ii, DL.dGt_ii, DL.dGe_ii, DL.dNeg_i, DL.dEq_ii, DL.dNe_ii, DL.dEq_bb, DL.dNe_bb, DL.dIs_none, DL.dIsNot_none, DL.isNon_none, DL.isNon_b, DL.isNon_i, DL.isNon_s, DL.isNon_l, DL.isNon_t, DL.tru_b, DL.tru_i, DL.tru_n, DL.tru_l, DL.tru_t, DL.bLen_l, DL.bLen_t, DL.bAbs_i, DL.bInt_i, DL.bInt_b, DL.bSum_l, DL.bSum_t, DL.bAll_l, DL.bAny_l, DL.bTup_l, DL.bTup_t, DL.bList_l, DL.bList_t, DL.bSorted_l, DL.bSorted_t, DL.bMax_ii, DL.bMin_ii, DL.bRange1_i, DL.bZip_l, DL.bZip_t, DL.bZipM_tl, DL.bZip3_t, DL.dIx_l, DL.dIx_t, DL.dSlice_l, DL.dSlice_t, DL.isI_1, DL.isI_2, DL.isI_3, DL.isI_4, DL.isI_5, DL.isI_6, DL.isI_7, DL.isI_8, DL.isI_9, DL.isI_10, DL.isI_11, DL.isI_12, DL.isI_13, DL.isI_14, DL.isI_15, DL.isI_16, DL.isI_17, DL.isI_18, DL.isI_19, DL.isI_20, DL.isI_21, DL.isI_22, DL.isI_23, DL.isI_24, DL.isI_25, DL.isI_26, DL.scalar_1, DL.scalar_2, DL.scalar_3, DL.scalar_4, DL.scalar_5, DL.chkS_i, DL.chkS_b, DL.gN_eq, DL.gT_eq, DL.gTL_eq, DL.gsN_nil, DL.gsC_cons, DL.wipeE_nil, DL.wipeE_cons, DL.restE_nil, DL.restE_cons, DL.keepD_n, DL.keepD_d, DL.keepD_l, DL.keepD_x, DL.tYesD_eq, DL.eComp_eq, DL.mComp_eq, DL.compR_ok, DL.eLenDc_eq, DL.eKey_eq, DL.kI_i, DL.dRev_t, DL.compGo_nil, DL.forGo_nil, DL.lp_nx, DL.lp_ct, DL.lp_bk, DL.lp_rt, DL.atI_2, DL.atI_3, DL.atI_4, DL.atI_5, DL.atI_6, DL.atI_7, DL.atI_zero, DL.atI_one, DL.dPow_10_18, Option.isSome_some, beq_self_eq_true, List.map_cons, List.map_nil, List.length_cons, List.length_nil, List.cons_append, List.nil_append, List.set_cons_succ, List.set_cons_zero, List.getElem?_cons_succ, List.getElem?_cons_zero, Option.join_some, Option.map_some, Option.bind_some, List.tail_cons, List.head?_cons, if_true, if_false, Bool.false_eq_true, Bool.true_eq_false, and_true, true_and, List.nodup_cons, List.not_mem_nil, not_false_eq_true, List.nodup_nil, Bool.not_true, Bool.not_false, ite_true, ite_false, Nat.reduceAdd, Nat.reduceSub, Nat.zero_add, List.replicate_zero, List.append_nil, List.mem_cons, Nat.reduceEqDiff, or_false, or_self, reduceIte, decide_true, decide_false, Nat.reduceLeDiff, Nat.reduceLT, Nat.le_refl] $[$l]?)
local macro_rules | `(tactic| simp only [dlboth, $ts,*] $[$l:location]?) => `(tactic| simp only [DL.Rs.bind_ok, DL.Rs.bind_ex, DL.Rs.bind_no, DL.lift_some, DL.lift_none, DL.thn_nx, DL.thn_rt, DL.thn_bk, DL.thn_ct, DL.thn_ex, DL.thn_no, DL.to_ok, DL.to_ex, DL.to_no, DL.fin_nx, DL.fin_rt, DL.optOut_s, DL.optOut_n, DL.optRs_s, DL.optRs_n, DL.asB_b, DL.chB_b, DL.eVar_eq, DL.slotD_0, DL.slotD_s, DL.slotL_0, DL.slotL_s, DL.slotM_0, DL.slotM_s, DL.slotF_0, DL.slotF_s, DL.slotScr_0, DL.slotScr_s, DL.eC_eq, DL.e2_eq, DL.e1_eq, DL.tb1_eq, DL.tt1_eq, DL.tNotD_eq, DL.tAndD_eq, DL.tOrD_eq, DL.eNot_eq, DL.eAnd_eq, DL.eOr_eq, DL.eIf_eq, DL.eChain_eq, DL.aNil_eq, DL.aCons_eq, DL.aOne_eq, DL.eTup_eq, DL.eLst_eq, DL.mLst_eq, DL.mD_eq, DL.eFrz_eq, DL.frzM_d, DL.frzM_l, DL.eB_eq, DL.eListScr_eq, DL.ixOf_i, DL.eIxO_eq, DL.pNo_eq, DL.pSome_eq, DL.oInt_i, DL.eSlice_eq, DL.eBO_eq, DL.e2R_eq, DL.ttO_eq, DL.eTupO_eq, DL.eListO_eq, DL.eIsi_eq, DL.eListRg_eq, DL.mListRg_eq, DL.eMt_eq, DL.seqOne_l, DL.seqOne_t, DL.mList_eq, DL.itSeq_eq, DL.itB_eq, DL.seqOf_l, DL.seqOf_t, DL.avNil_eq, DL.avD_eq, DL.avS_eq, DL.avMs_nil, DL.avMs_cons, DL.avM_d, DL.avM_sl, DL.jsOf_nil, DL.jsOf_d, DL.jsOf_s, DL.putBack_nil, DL.putBack_d, DL.putBack_s, DL.toRs_rt, DL.callM_eq, DL.eCall_eq, DL.eCallS_eq, DL.dAvs_t, DL.dAvs_l, DL.seqS_t, DL.seqS_l, DL.sThen_eq, DL.sE_eq, DL.sNx_eq, DL.sBk_eq, DL.sCt_eq, DL.sNo_eq, DL.sRet_eq, DL.sRetN_eq, DL.sDrop_eq, DL.sIf_eq, DL.sSet_eq, DL.sAsg_eq, DL.sAug_eq, DL.sSetItem_eq, DL.asI_i, DL.setIt_eq, DL.sFor_eq, DL.runDef_eq, DL.start0_eq, DL.outs_nil, DL.outs_cons, DL.rep_succ, DL.mvM_l, DL.mvM_m, DL.mvM_d, DL.alNil_eq, DL.alD_eq, DL.alL_eq, DL.alMs_nil, DL.alMs_cons, DL.alM_d, DL.alM_l, DL.toSc_rt, DL.eCallL_eq, DL.bEnum_l, DL.bEnum_t, DL.eSM_eq, DL.isSq_l, DL.isSq_t, DL.cntD_l, DL.cntD_t, DL.mVar_eq, DL.mvF_l, DL.mvF_d, DL.eVarF_eq, DL.dAdd_ii, DL.dAddI_ii, DL.dSub_ii, DL.dMul_ii, DL.dDiv_ii, DL.dMod_ii, DL.dLt_ii, DL.dLe_ii, DL.dGt_ii, DL.dGe_ii, DL.dNeg_i, DL.dEq_ii, DL.dNe_ii, DL.dEq_bb, DL.dNe_bb, DL.dIs_none, DL.dIsNot_none, DL.isNon_none, DL.isNon_b, DL.isNon_i, DL.isNon_s, DL.isNon_l, DL.isNon_t, DL.tru_b, DL.tru_i, DL.tru_n, DL.tru_l, DL.tru_t, DL.bLen_l, DL.bLen_t, DL.bAbs_i, DL.bInt_i, DL.bInt_b, DL.bSum_l, DL.bSum_t, DL.bAll_l, DL.bAny_l, DL.bTup_l, DL.bTup_t, DL.bList_l, DL.bList_t, DL.bSorted_l, DL.bSorted_t, DL.bMax_ii, DL.bMin_ii, DL.bRange1_i, DL.bZip_l, DL.bZip_t, DL.bZipM_tl, DL.bZip3_t, DL.dIx_l, DL.dIx_t, DL.dSlice_l, DL.dSlice_t, DL.isI_1, DL.isI_2, DL.isI_3, DL.isI_4, DL.isI_5, DL.isI_6, DL.isI_7, DL.isI_8, DL.isI_9, DL.isI_10, DL.isI_11, DL.isI_12, DL.isI_13, DL.isI_14, DL.isI_15, DL.isI_16, DL.isI_17, DL.isI_18, DL.isI_19, DL.isI_20, DL.isI_21, DL.isI_22, DL.isI_23, DL.isI_24, DL.isI_25, DL.isI_26, DL.scalar_1, DL.scalar_2, DL.scalar_3, DL.scalar_4, DL.scalar_5, DL.chkS_i, DL.chkS_b, DL.gN_eq, DL.gT_eq, DL.gTL_eq, DL.gsN_nil, DL.gsC_cons, DL.wipeE_nil, DL.wipeE_cons, DL.restE_nil, DL.restE_cons, DL.keepD_n, DL.keepD_d, DL.keepD_l, DL.keepD_x, DL.tYesD_eq, DL.eComp_eq, DL.mComp_eq, DL.compR_ok, DL.eLenDc_eq, DL.eKey_eq, DL.kI_i, DL.dRev_t, DL.compGo_nil, DL.forGo_nil, DL.lp_nx, DL.lp_ct, DL.lp_bk, DL.lp_rt, DL.atI_2, DL.atI_3, DL.atI_4, DL.atI_5, DL.atI_6, DL.atI_7, DL.atI_zero, DL.atI_one, DL.dPow_10_18, Option.isSome_some, beq_self_eq_true, List.map_cons, List.map_nil, List.length_cons, List.length_nil, List.cons_append, List.nil_append, List.set_cons_succ, List.set_cons_zero, List.getElem?_cons_succ, List.getElem?_cons_zero, Option.join_some, Option.map_some, Option.bind_some, List.tail_cons, List.head?_cons, if_true, if_false, Bool.false_eq_true, Bool.true_eq_false, and_true, true_and, List.nodup_cons, List.not_mem_nil, not_false_eq_true, List.nodup_nil, Bool.not_true, Bool.not_false, ite_true, ite_false, Nat.reduceAdd, Nat.reduceSub, Nat.zero_add, List.replicate_zero, List.append_nil, List.mem_cons, Nat.reduceEqDiff, or_false, or_self, reduceIte, decide_true, decide_false, Nat.reduceLeDiff, Nat.reduceLT, Nat.le_refl, DL.mNewM_eq, DL.eInM_eq, DL.eGetM_eq, DL.putIt_eq, DL.sPutM_eq, DL.eLenM_eq, $ts,*] $[$l]?)
local macro_rules | `(tactic| simp only [dlboth] $[$l:location]?) => `(tactic| simp only [DL.Rs.bind_ok, DL.Rs.bind_ex, DL.Rs.bind_no, DL.lift_some, DL.lift_none, DL.thn_nx, DL.thn_rt, DL.thn_bk, DL.thn_ct, DL.thn_ex, DL.thn_no, DL.to_ok, DL.to_ex, DL.to_no, DL.fin_nx, DL.fin_rt, DL.optOut_s, DL.optOut_n, DL.optRs_s, DL.optRs_n, DL.asB_b, DL.chB_b, DL.eVar_eq, DL.slotD_0, DL.slotD_s, DL.slotL_0, DL.slotL_s, DL.slotM_0, DL.slotM_s, DL.slotF_0, DL.slotF_s, DL.slotScr_0, DL.slotScr_s, DL.eC_eq, DL.e2_eq, DL.e1_eq, DL.tb1_eq, DL.tt1_eq, DL.tNotD_eq, DL.tAndD_eq, DL.tOrD_eq, DL.eNot_eq, DL.eAnd_eq, DL.eOr_eq, DL.eIf_eq, DL.eChain_eq, DL.aNil_eq, DL.aCons_eq, DL.aOne_eq, DL.eTup_eq, DL.eLst_eq, DL.mLst_eq, DL.mD_eq, DL.eFrz_eq, DL.frzM_d, DL.frzM_l, DL.eB_eq, DL.eListScr_eq, DL.ixOf_i, DL.eIxO_eq, DL.pNo_eq, DL.pSome_eq, DL.oInt_i, DL.eSlice_eq, DL.eBO_eq, DL.e2R_eq, DL.ttO_eq, DL.eTupO_eq, DL.eListO_eq, DL.eIsi_eq, DL.eListRg_eq, DL.mListRg_eq, DL.eMt_eq, DL.seqOne_l, DL.seqOne_t, DL.mList_eq, DL.itSeq_eq, DL.itB_eq, DL.seqOf_l, DL.seqOf_t, DL.avNil_eq, DL.avD_eq, DL.avS_eq, DL.avMs_nil, DL.avMs_cons, DL.avM_d, DL.avM_sl, DL.jsOf_nil, DL.jsOf_d, DL.jsOf_s, DL.putBack_nil, DL.putBack_d, DL.putBack_s, DL.toRs_rt, DL.callM_eq, DL.eCall_eq, DL.eCallS_eq, DL.dAvs_t, DL.dAvs_l, DL.seqS_t, DL.seqS_l, DL.sThen_eq, DL.sE_eq, DL.sNx_eq, DL.sBk_eq, DL.sCt_eq, DL.sNo_eq, DL.sRet_eq, DL.sRetN_eq, DL.sDrop_eq, DL.sIf_eq, DL.sSet_eq, DL.sAsg_eq, DL.sAug_eq, DL.sSetItem_eq, DL.asI_i, DL.setIt_eq, DL.sFor_eq, DL.runDef_eq, DL.start0_eq, DL.outs_nil, DL.outs_cons, DL.rep_succ, DL.mvM_l, DL.mvM_m, DL.mvM_d, DL.alNil_eq, DL.alD_eq, DL.alL_eq, DL.alMs_nil, DL.alMs_cons, DL.alM_d, DL.alM_l, DL.toSc_rt, DL.eCallL_eq, DL.bEnum_l, DL.bEnum_t, DL.eSM_eq, DL.isSq_l, DL.isSq_t, DL.cntD_l, DL.cntD_t, DL.mVar_eq, DL.mvF_l, DL.mvF_d, DL.eVarF_eq, DL.dAdd_ii, DL.dAddI_ii, DL.dSub_ii, DL.dMul_ii, DL.dDiv_ii, DL.dMod_ii, DL.dLt_ii, DL.dLe_ii, DL.dGt_ii, DL.dGe_ii, DL.dNeg_i, DL.dEq_ii, DL.dNe_ii, DL.dEq_bb, DL.dNe_bb, DL.dIs_none, DL.dIsNot_none, DL.isNon_none, DL.isNon_b, DL.isNon_i, DL.isNon_s, DL.isNon_l, DL.isNon_t, DL.tru_b, DL.tru_i, DL.tru_n, DL.tru_l, DL.tru_t, DL.bLen_l, DL.bLen_t, DL.bAbs_i, DL.bInt_i, DL.bInt_b, DL.bSum_l, DL.bSum_t, DL.bAll_l, DL.bAny_l, DL.bTup_l, DL.bTup_t, DL.bList_l, DL.bList_t, DL.bSorted_l, DL.bSorted_t, DL.bMax_ii, DL.bMin_ii, DL.bRange1_i, DL.bZip_l, DL.bZip_t, DL.bZipM_tl, DL.bZip3_t, DL.dIx_l, DL.dIx_t, DL.dSlice_l, DL.dSlice_t, DL.isI_1, DL.isI_2, DL.isI_3, DL.isI_4, DL.isI_5, DL.isI_6, DL.isI_7, DL.isI_8, DL.isI_9, DL.isI_10, DL.isI_11, DL.isI_12, DL.isI_13, DL.isI_14, DL.isI_15, DL.isI_16, DL.isI_17, DL.isI_18, DL.isI_19, DL.isI_20, DL.isI_21, DL.isI_22, DL.isI_23, DL.isI_24, DL.isI_25, DL.isI_26, DL.scalar_1, DL.scalar_2, DL.scalar_3, DL.scalar_4, DL.scalar_5, DL.chkS_i, DL.chkS_b, DL.gN_eq, DL.gT_eq, DL.gTL_eq, DL.gsN_nil, DL.gsC_cons, DL.wipeE_nil, DL.wipeE_cons, DL.restE_nil, DL.restE_cons, DL.keepD_n, DL.keepD_d, DL.keepD_l, DL.keepD_x, DL.tYesD_eq, DL.eComp_eq, DL.mComp_eq, DL.compR_ok, DL.eLenDc_eq, DL.eKey_eq, DL.kI_i, DL.dRev_t, DL.compGo_nil, DL.forGo_nil, DL.lp_nx, DL.lp_ct, DL.lp_bk, DL.lp_rt, DL.atI_2, DL.atI_3, DL.atI_4, DL.atI_5, DL.atI_6, DL.atI_7, DL.atI_zero, DL.atI_one, DL.dPow_10_18, Option.isSome_some, beq_self_eq_true, List.map_cons, List.map_nil, List.length_cons, List.length_nil, List.cons_append, List.nil_append, List.set_cons_succ, List.set_cons_zero, List.getElem?_cons_succ, List.getElem?_cons_zero, Option.join_some, Option.map_some, Option.bind_some, List.tail_cons, List.head?_cons, if_true, if_false, Bool.false_eq_true, Bool.true_eq_false, and_true, true_and, List.nodup_cons, List.not_mem_nil, not_false_eq_true, List.nodup_nil, Bool.not_true, Bool.not_false, ite_true, ite_false, Nat.reduceAdd, Nat.reduceSub, Nat.zero_add, List.replicate_zero, List.append_nil, List.mem_cons, Nat.reduceEqDiff, or_false, or_self, reduceIte, decide_true, decide_false, Nat.reduceLeDiff, Nat.reduceLT, Nat.le_refl, DL.mNewM_eq, DL.eInM_eq, DL.eGetM_eq, DL.putIt_eq, DL.sPutM_eq, DL.eLenM_eq] $[$l]?)
local macro_rules | `(tactic| simp only [dnall, $ts,*] $[$l:location]?) => `(tactic| simp only [DL.mNewM_eq, DL.eInM_eq, DL.eGetM_eq, DL.putIt_eq, DL.sPutM_eq, DL.eLenM_eq, $ts,*] $[$l]?)
local macro_rules | `(tactic| simp only [dnall] $[$l:location]?) => `(tactic| simp only [DL.mNewM_eq, DL.eInM_eq, DL.eGetM_eq, DL.putIt_eq, DL.sPutM_eq, DL.eLenM_eq] $[$l]?)
namespace DCom
open PySem DL
def b_is_whole : DL.Env → Out :=
  sRet (mD (eAnd (eIsi .int (eVar 0)) (eNot (eIsi .bool (eVar 0)))))
def f_is_whole : Fn := runDef [false] 1 b_is_whole
def b__law_stream : DL.Env → Out :=
  sRet (mLst (aCons (eListScr 0) (aCons (eC (.int 0)) (aCons (eC (.int 0)) (aNil)))))
def f__law_stream : Fn := runDef [true] 1 b__law_stream
def b__law_next : DL.Env → Out :=
  sThen (sIf (tb1 (e2 dEq (eIxO 0 (eC (.int 1))) (eC (.int 0)))) (sThen (sSet 3 (mD (eIxO 0 (eC (.int 2)))))
    (sThen (sSet 4 (mD (e2 dAdd (eC (.int 7)) (eVar 3))))
    (sThen (sIf (tb1 (e2 dLt (eVar 3) (eB bLen (aCons (eIxO 0 (eC (.int 0))) (aNil))))) (sSet 4 (mD (eB bAbs (aCons (e2 dIx (eIxO 0 (eC (.int 0))) (eVar 3)) (aNil))))) (sNx))
    (sThen (sIf (tb1 (e2 dLt (eVar 4) (e2 dPow (eC (.int 10)) (eC (.int 18))))) (sThen (sSet 4 (mD (e2 dMod (eB bInt (aCons (e2 dAdd (e2 dAdd (e2 dMul (eVar 4) (eC (.int 48271))) (e2 dMul (eVar 3) (eC (.int 69621)))) (eC (.int 11))) (aNil))) (eC (.int 2147483647)))))
      (sSet 4 (mD (e2 dAdd (e2 dMul (e2 dMod (eB bInt (aCons (e2 dAdd (e2 dMul (eVar 4) (eC (.int 16807))) (eC (.int 13))) (aNil))) (eC (.int 2147483647))) (eC (.int 65537))) (eVar 4))))) (sNx))
    (sThen (sSetItem 0 (eVar 4) (eC (.int 1)))
    (sSetItem 0 (e2 dAdd (eVar 3) (eC (.int 1))) (eC (.int 2)))))))) (sNx))
  (sThen (sSet 2 (mD (e2 dMod (eB bInt (aCons (eIxO 0 (eC (.int 1))) (aNil))) (eVar 1))))
  (sThen (sSetItem 0 (e2 dDiv (eIxO 0 (eC (.int 1))) (eVar 1)) (eC (.int 1)))
  (sRet (mD (eVar 2)))))
def f__law_next : Fn := runDef [true, false] 5 b__law_next
def b_is_between : DL.Env → Out :=
  sRet (mD (eAnd (eFrz (eCall 1 f_is_whole (avD (eVar 0) (avNil)))) (eChain dLe dLe (eVar 1) (eVar 0) (eVar 2))))
def f_is_between : Fn := runDef [false, false, false] 3 b_is_between
def b_is_allocation : DL.Env → Out :=
  sThen (sIf (tOrD (tNotD (tt1 (eIsi .tup (eVar 0)))) (tb1 (e2 dNe (eB bLen (aCons (eVar 0) (aNil))) (eVar 1)))) (sRet (mD (eC (.bool false)))) (sNx))
  (sRet (mD (eAnd (eB bAll (aCons (eComp (itSeq (eVar 0)) (gN 3) (tYesD) (eAnd (eFrz (eCall 1 f_is_whole (avD (eVar 3) (avNil)))) (e2 dGe (eVar 3) (eC (.int 0)))) [3]) (aNil))) (e2 dEq (eB bSum (aCons (eVar 0) (aNil))) (eVar 2)))))
def f_is_allocation : Fn := runDef [false, false, false] 4 b_is_allocation
def b_is_order : DL.Env → Out :=
  sThen (sIf (tOrD (tNotD (tt1 (eIsi .tup (eVar 0)))) (tOrD (tb1 (e2 dNe (eB bLen (aCons (eVar 0) (aNil))) (eVar 1))) (tNotD (tt1 (eB bAll (aCons (eComp (itSeq (eVar 0)) (gN 2) (tYesD) (eFrz (eCall 1 f_is_whole (avD (eVar 2) (avNil)))) [2]) (aNil))))))) (sRet (mD (eC (.bool false)))) (sNx))
  (sRet (mD (e2 dEq (eB bSorted (aCons (eVar 0) (aNil))) (eListRg bRange1 (aOne (eVar 1))))))
def f_is_order : Fn := runDef [false, false] 3 b_is_order
def b__law_pick : DL.Env → Out :=
  sRet (mD (e2 dIx (eVar 1) (eFrz (eCall 2 f__law_next (avS 0 (avD (eB bLen (aCons (eVar 1) (aNil))) (avNil)))))))
def f__law_pick : Fn := runDef [true, false] 2 b__law_pick
def b__law_allocation : DL.Env → Out :=
  sThen (sSet 3 (mComp (itB bRange1 (aCons (eVar 1) (aNil))) (gN 5) (tYesD) (eC (.int 0)) [5]))
  (sThen (sFor (itB bRange1 (aCons (eVar 2) (aNil))) (gN 4) (sThen (sSet 5 (mD (eFrz (eCall 2 f__law_next (avS 0 (avD (eVar 1) (avNil)))))))
    (sSetItem 3 (e2 dAdd (eIxO 3 (eVar 5)) (eC (.int 1))) (eVar 5))))
  (sRet (mD (eTupO 3))))
def f__law_allocation : Fn := runDef [true, false, false] 6 b__law_allocation
def b__law_assignment : DL.Env → Out :=
  sRet (mD (eB bTup (aCons (eComp (itB bRange1 (aCons (eVar 2) (aNil))) (gN 3) (tYesD) (eFrz (eCall 2 f__law_next (avS 0 (avD (eVar 1) (avNil))))) [3]) (aNil))))
def f__law_assignment : Fn := runDef [true, false, false] 4 b__law_assignment
def b__law_order : DL.Env → Out :=
  sThen (sSet 2 (mListRg bRange1 (aOne (eVar 1))))
  (sRet (mD (eB bTup (aCons (eComp (itB bRange1 (aCons (eVar 1) (aNil))) (gN 3) (tYesD) (eMt 2 mPopAt (aCons (eFrz (eCall 2 f__law_next (avS 0 (avD (eBO 2 bLen) (avNil))))) (aNil))) [3]) (aNil)))))
def f__law_order : Fn := runDef [true, false] 4 b__law_order
def b_is_assignment : DL.Env → Out :=
  sThen (sIf (tOrD (tNotD (tt1 (eIsi .tup (eVar 0)))) (tb1 (e2 dNe (eB bLen (aCons (eVar 0) (aNil))) (eVar 2)))) (sRet (mD (eC (.bool false)))) (sNx))
  (sRet (mD (eB bAll (aCons (eComp (itSeq (eVar 0)) (gN 3) (tYesD) (eFrz (eCall 3 f_is_between (avD (eVar 3) (avD (eC (.int 0)) (avD (e2 dSub (eVar 1) (eC (.int 1))) (avNil)))))) [3]) (aNil)))))
def f_is_assignment : Fn := runDef [false, false, false] 4 b_is_assignment
def b__law_is_integer : DL.Env → Out :=
  sRet (mD (eAnd (eIsi .int (eVar 0)) (eNot (eIsi .bool (eVar 0)))))
def f__law_is_integer : Fn := runDef [false] 1 b__law_is_integer
def b__law_equal (F : Fn) : DL.Env → Out :=
  sThen (sIf (tb1 (e2 dIs (eVar 1) (eC (.none)))) (sRet (mD (e2 dIs (eVar 0) (eC (.none))))) (sNx))
  (sThen (sIf (tt1 (eIsi .bool (eVar 1))) (sRet (mD (eAnd (eIsi .bool (eVar 0)) (e2 dEq (eVar 0) (eVar 1))))) (sNx))
  (sThen (sIf (tt1 (eIsi .int (eVar 1))) (sRet (mD (eAnd (eFrz (eCall 1 f__law_is_integer (avD (eVar 0) (avNil)))) (e2 dEq (eVar 0) (eVar 1))))) (sNx))
  (sThen (sIf (tt1 (eIsi .str (eVar 1))) (sRet (mD (eAnd (eIsi .str (eVar 0)) (e2 dEq (eVar 0) (eVar 1))))) (sNx))
  (sThen (sIf (tAndD (tt1 (eIsi .tup (eVar 1))) (tNotD (tt1 (eIsi .tup (eVar 0))))) (sRet (mD (eC (.bool false)))) (sNx))
  (sThen (sIf (tAndD (tt1 (eIsi .lst (eVar 1))) (tNotD (tt1 (eIsi .lst (eVar 0))))) (sRet (mD (eC (.bool false)))) (sNx))
  (sThen (sIf (tb1 (e2 dNe (eB bLen (aCons (eVar 0) (aNil))) (eB bLen (aCons (eVar 1) (aNil))))) (sRet (mD (eC (.bool false)))) (sNx))
  (sRet (mD (eB bAll (aCons (eComp (itB bRange1 (aCons (eB bLen (aCons (eVar 1) (aNil))) (aNil))) (gN 2) (tYesD) (eFrz (eCall 2 F (avD (e2 dIx (eVar 0) (eVar 2)) (avD (e2 dIx (eVar 1) (eVar 2)) (avNil))))) [2]) (aNil)))))))))))
def r__law_equal : Nat → Fn
  | 0 => fun _ => .no
  | n + 1 => runDef [false, false] 3 (b__law_equal (r__law_equal n))
abbrev f__law_equal : Fn := r__law_equal 8
def b_transfer_of : DL.Env → Out :=
  sRet (mD (eB bSum (aCons (eComp (itB bZip (aCons (eVar 0) (aCons (eVar 1) (aNil)))) (gT 2 (gsC (gN 3) (gsC (gN 2) (gsN)))) (tYesD) (eB bMax (aCons (eC (.int 0)) (aCons (e2 dSub (eVar 3) (eVar 2)) (aNil)))) [3, 2]) (aNil))))
def f_transfer_of : Fn := runDef [false, false] 4 b_transfer_of
def b_check_allocation : DL.Env → Out :=
  sThen (sIf (tOrD (tNotD (tt1 (eIsi .tup (eVar 0)))) (tNotD (tb1 (eChain dLe dLe (eC (.int 1)) (eB bLen (aCons (eVar 0) (aNil))) (eC (.int 5)))))) (sNo) (sNx))
  (sIf (tOrD (tNotD (tt1 (eB bAll (aCons (eComp (itSeq (eVar 0)) (gN 2) (tYesD) (eFrz (eCall 3 f_is_between (avD (eVar 2) (avD (eC (.int 0)) (avD (eC (.int 20)) (avNil)))))) [2]) (aNil))))) (tb1 (e2 dGt (eB bSum (aCons (eVar 0) (aNil))) (eC (.int 20))))) (sNo) (sNx))
def f_check_allocation : Fn := runDef [false, false] 3 b_check_allocation
def b_check_alike : DL.Env → Out :=
  sIf (tNotD (tt1 (eFrz (eCall 3 f_is_allocation (avD (eVar 0) (avD (eB bLen (aCons (eVar 1) (aNil))) (avD (eB bSum (aCons (eVar 1) (aNil))) (avNil)))))))) (sNo) (sNx)
def f_check_alike : Fn := runDef [false, false, false] 3 b_check_alike
def b_counts_of : DL.Env → Out :=
  sRet (mD (eB bTup (aCons (eComp (itB bRange1 (aCons (eVar 1) (aNil))) (gN 2) (tYesD) (eSM cntD (eVar 0) (aCons (eVar 2) (aNil))) [2]) (aNil))))
def f_counts_of : Fn := runDef [false, false] 3 b_counts_of
def b_churn_of : DL.Env → Out :=
  sRet (mD (eB bSum (aCons (eComp (itB bZip (aCons (eVar 0) (aCons (eVar 1) (aNil)))) (gT 2 (gsC (gN 3) (gsC (gN 2) (gsN)))) (tYesD) (eB bInt (aCons (e2 dNe (eVar 3) (eVar 2)) (aNil))) [3, 2]) (aNil))))
def f_churn_of : Fn := runDef [false, false] 4 b_churn_of
def b__law_back : DL.Env → Out :=
  sRet (mD (eB bTup (aCons (eComp (itB bRange1 (aCons (eB bLen (aCons (eVar 0) (aNil))) (aNil))) (gN 1) (tYesD) (eSM idxD (eVar 0) (aCons (eVar 1) (aNil))) [1]) (aNil))))
def f__law_back : Fn := runDef [false] 2 b__law_back
def b_transfer : DL.Env → Out :=
  sThen (sDrop (eCall 2 f_check_allocation (avD (eVar 0) (avD (eC (.str "first")) (avNil)))))
  (sThen (sDrop (eCall 3 f_check_alike (avD (eVar 1) (avD (eVar 0) (avD (eC (.str "second")) (avNil))))))
  (sRet (mD (eFrz (eCall 2 f_transfer_of (avD (eVar 0) (avD (eVar 1) (avNil))))))))
def f_transfer : Fn := runDef [false, false] 2 b_transfer
def b_renamed_shares : DL.Env → Out :=
  sThen (sDrop (eCall 2 f_check_allocation (avD (eVar 0) (avD (eC (.str "allocation")) (avNil)))))
  (sThen (sIf (tNotD (tt1 (eFrz (eCall 2 f_is_order (avD (eVar 1) (avD (eB bLen (aCons (eVar 0) (aNil))) (avNil))))))) (sNo) (sNx))
  (sRet (mD (eB bTup (aCons (eComp (itB bRange1 (aCons (eB bLen (aCons (eVar 0) (aNil))) (aNil))) (gN 2) (tYesD) (e2 dIx (eVar 0) (eSM idxD (eVar 1) (aCons (eVar 2) (aNil)))) [2]) (aNil))))))
def f_renamed_shares : Fn := runDef [false, false] 3 b_renamed_shares
def b_check_assignment : DL.Env → Out :=
  sThen (sIf (tOrD (tNotD (tt1 (eIsi .tup (eVar 0)))) (tb1 (e2 dGt (eB bLen (aCons (eVar 0) (aNil))) (eC (.int 20))))) (sNo) (sNx))
  (sIf (tNotD (tt1 (eFrz (eCall 3 f_is_assignment (avD (eVar 0) (avD (eVar 1) (avD (eB bLen (aCons (eVar 0) (aNil))) (avNil)))))))) (sNo) (sNx))
def f_check_assignment : Fn := runDef [false, false, false] 3 b_check_assignment
def b_check_variants : DL.Env → Out :=
  sThen (sIf (tNotD (tt1 (eFrz (eCall 3 f_is_between (avD (eVar 0) (avD (eC (.int 1)) (avD (eC (.int 5)) (avNil)))))))) (sNo) (sNx))
  (sIf (tNotD (tt1 (eB bAll (aCons (eComp (itSeq (eVar 1)) (gN 2) (tYesD) (eFrz (eCall 3 f_is_assignment (avD (eVar 2) (avD (eVar 0) (avD (eB bLen (aCons (eVar 2) (aNil))) (avNil)))))) [2]) (aNil))))) (sNo) (sNx))
def f_check_variants : Fn := runDef [false, false] 3 b_check_variants
def b_check_two : DL.Env → Out :=
  sThen (sDrop (eCall 3 f_check_assignment (avD (eVar 0) (avD (eC (.int 5)) (avD (eC (.str "first")) (avNil))))))
  (sIf (tNotD (tt1 (eFrz (eCall 3 f_is_assignment (avD (eVar 1) (avD (eC (.int 5)) (avD (eB bLen (aCons (eVar 0) (aNil))) (avNil)))))))) (sNo) (sNx))
def f_check_two : Fn := runDef [false, false] 2 b_check_two
def b_allocation_of : DL.Env → Out :=
  sThen (sDrop (eCall 3 f_check_assignment (avD (eVar 0) (avD (eC (.int 5)) (avD (eC (.str "assignment")) (avNil))))))
  (sThen (sDrop (eCall 2 f_check_variants (avD (eVar 1) (avD (eLst (aCons (eVar 0) (aNil))) (avNil)))))
  (sRet (mD (eFrz (eCall 2 f_counts_of (avD (eVar 0) (avD (eVar 1) (avNil))))))))
def f_allocation_of : Fn := runDef [false, false] 2 b_allocation_of
def b_renamed : DL.Env → Out :=
  sThen (sDrop (eCall 3 f_check_assignment (avD (eVar 0) (avD (eC (.int 5)) (avD (eC (.str "assignment")) (avNil))))))
  (sThen (sIf (tNotD (tt1 (eFrz (eCall 2 f_is_order (avD (eVar 1) (avD (eC (.int 5)) (avNil))))))) (sNo) (sNx))
  (sRet (mD (eB bTup (aCons (eComp (itSeq (eVar 0)) (gN 2) (tYesD) (e2 dIx (eVar 1) (eVar 2)) [2]) (aNil))))))
def f_renamed : Fn := runDef [false, false] 3 b_renamed
def b_rearranged : DL.Env → Out :=
  sThen (sDrop (eCall 3 f_check_assignment (avD (eVar 0) (avD (eC (.int 5)) (avD (eC (.str "assignment")) (avNil))))))
  (sThen (sIf (tNotD (tt1 (eFrz (eCall 2 f_is_order (avD (eVar 1) (avD (eB bLen (aCons (eVar 0) (aNil))) (avNil))))))) (sNo) (sNx))
  (sRet (mD (eB bTup (aCons (eComp (itB bRange1 (aCons (eB bLen (aCons (eVar 0) (aNil))) (aNil))) (gN 2) (tYesD) (e2 dIx (eVar 0) (eSM idxD (eVar 1) (aCons (eVar 2) (aNil)))) [2]) (aNil))))))
def f_rearranged : Fn := runDef [false, false] 3 b_rearranged
def b_churn : DL.Env → Out :=
  sThen (sDrop (eCall 2 f_check_two (avD (eVar 0) (avD (eVar 1) (avNil)))))
  (sRet (mD (eFrz (eCall 2 f_churn_of (avD (eVar 0) (avD (eVar 1) (avNil)))))))
def f_churn : Fn := runDef [false, false] 2 b_churn
end DCom


namespace DCon
open PySem DL DCom
def b_intervals : DL.Env → Out :=
  sThen (sSet 2 (mD (eLst (aNil))))
  (sThen (sFor (itSeq (eVar 1)) (gN 3) (sSet 2 (mD (e2 dAdd (eVar 2) (e2 dMul (eLst (aCons (eVar 3) (aNil))) (e2 dIx (eVar 0) (eVar 3)))))))
  (sRet (mD (eB bTup (aCons (eVar 2) (aNil))))))
def f_intervals : Fn := runDef [false, false] 4 b_intervals
def b__law_assignments : DL.Env → Out :=
  sThen (sSet 1 (mD (eLst (aCons (eTup (aNil)) (aNil)))))
  (sThen (sFor (itB bRange1 (aCons (eB bSum (aCons (eVar 0) (aNil))) (aNil))) (gN 2) (sThen (sSet 3 (mLst (aNil)))
    (sThen (sFor (itSeq (eVar 1)) (gN 4) (sFor (itB bRange1 (aCons (eB bLen (aCons (eVar 0) (aNil))) (aNil))) (gN 5) (sIf (tb1 (e2 dLt (eSM cntD (eVar 4) (aCons (eVar 5) (aNil))) (e2 dIx (eVar 0) (eVar 5)))) (sDrop (mD (eMt 3 mApp (aCons (e2 dAdd (eVar 4) (eTup (aCons (eVar 5) (aNil)))) (aNil))))) (sNx))))
    (sSet 1 (mD (eVarF 3))))))
  (sRet (mD (eVar 1))))
def f__law_assignments : Fn := runDef [false] 6 b__law_assignments
def b__law_intervals : DL.Env → Out :=
  sThen (sSet 2 (mD (eTup (aNil))))
  (sThen (sFor (itSeq (eVar 1)) (gN 3) (sSet 2 (mD (e2 dAdd (eVar 2) (e2 dMul (eTup (aCons (eVar 3) (aNil))) (e2 dIx (eVar 0) (eVar 3)))))))
  (sRet (mD (eVar 2))))
def f__law_intervals : Fn := runDef [false, false] 4 b__law_intervals
def b__law_near : DL.Env → Out :=
  sThen (sSet 2 (mList (aCons (eVar 1) (aNil))))
  (sThen (sFor (itB bRange1 (aCons (eFrz (eCall 2 f__law_next (avS 0 (avD (eC (.int 3)) (avNil))))) (aNil))) (gN 3) (sThen (sSet 4 (mD (eFrz (eCall 2 f__law_next (avS 0 (avD (eBO 2 bLen) (avNil)))))))
    (sThen (sSet 5 (mD (eFrz (eCall 2 f__law_next (avS 0 (avD (eBO 2 bLen) (avNil)))))))
    (sIf (tb1 (e2 dGt (eIxO 2 (eVar 4)) (eC (.int 0)))) (sThen (sSetItem 2 (e2 dSub (eIxO 2 (eVar 4)) (eC (.int 1))) (eVar 4))
      (sSetItem 2 (e2 dAdd (eIxO 2 (eVar 5)) (eC (.int 1))) (eVar 5))) (sNx)))))
  (sRet (mD (eTupO 2))))
def f__law_near : Fn := runDef [true, false] 6 b__law_near
def b__law_order : DL.Env → Out :=
  sThen (sSet 2 (mListRg bRange1 (aOne (eVar 1))))
  (sThen (sSet 3 (mLst (aNil)))
  (sThen (sFor (itB bRange1 (aCons (eVar 1) (aNil))) (gN 4) (sDrop (mD (eMt 3 mApp (aCons (eMt 2 mPopAt (aCons (eFrz (eCall 2 f__law_next (avS 0 (avD (eBO 2 bLen) (avNil))))) (aNil))) (aNil))))))
  (sRet (mD (eTupO 3)))))
def f__law_order : Fn := runDef [true, false] 5 b__law_order
def b_check_order : DL.Env → Out :=
  sIf (tNotD (tt1 (eFrz (eCall 2 f_is_order (avD (eVar 0) (avD (eVar 1) (avNil))))))) (sNo) (sNx)
def f_check_order : Fn := runDef [false, false] 2 b_check_order
def b__law_series : DL.Env → Out :=
  sThen (sSet 4 (mLst (aCons (eFrz (eCall 3 f__law_allocation (avS 0 (avD (eVar 1) (avD (eVar 2) (avNil)))))) (aNil))))
  (sThen (sFor (itB bRange1 (aCons (e2 dSub (eVar 3) (eC (.int 1))) (aNil))) (gN 5) (sIf (tb1 (e2 dEq (eFrz (eCall 2 f__law_next (avS 0 (avD (eC (.int 2)) (avNil))))) (eC (.int 1)))) (sDrop (mD (eMt 4 mApp (aCons (eFrz (eCall 2 f__law_near (avS 0 (avD (eIxO 4 (eFrz (eCall 2 f__law_next (avS 0 (avD (eBO 4 bLen) (avNil)))))) (avNil))))) (aNil))))) (sDrop (mD (eMt 4 mApp (aCons (eFrz (eCall 3 f__law_allocation (avS 0 (avD (eVar 1) (avD (eVar 2) (avNil)))))) (aNil)))))))
  (sRet (mD (eTupO 4))))
def f__law_series : Fn := runDef [true, false, false, false] 6 b__law_series
def b_by_intervals : DL.Env → Out :=
  sThen (sDrop (eCall 2 f_check_allocation (avD (eVar 0) (avD (eC (.str "allocation")) (avNil)))))
  (sThen (sDrop (eCall 2 f_check_order (avD (eVar 1) (avD (eB bLen (aCons (eVar 0) (aNil))) (avNil)))))
  (sRet (mD (eFrz (eCall 2 f_intervals (avD (eVar 0) (avD (eVar 1) (avNil))))))))
def f_by_intervals : Fn := runDef [false, false] 2 b_by_intervals
def b_boundaries : DL.Env → Out :=
  sThen (sDrop (eCall 2 f_check_allocation (avD (eVar 0) (avD (eC (.str "allocation")) (avNil)))))
  (sThen (sDrop (eCall 2 f_check_order (avD (eVar 1) (avD (eB bLen (aCons (eVar 0) (aNil))) (avNil)))))
  (sThen (sSet 2 (mLst (aNil)))
  (sThen (sSet 3 (mD (eC (.int 0))))
  (sThen (sFor (itSeq (eSlice (eVar 1) (pNo) (pSome (e1 dNeg (eC (.int 1)))))) (gN 4) (sThen (sSet 3 (mD (e2 dAdd (eVar 3) (e2 dIx (eVar 0) (eVar 4)))))
    (sDrop (mD (eMt 2 mApp (aCons (eVar 3) (aNil)))))))
  (sRet (mD (eTupO 2)))))))
def f_boundaries : Fn := runDef [false, false] 5 b_boundaries
def b__law_two : DL.Env → Out :=
  sThen (sSet 1 (mD (e2 dAdd (eC (.int 1)) (eFrz (eCall 2 f__law_next (avS 0 (avD (eC (.int 5)) (avNil))))))))
  (sThen (sSet 2 (mD (e2 dIx (eLst (aCons (eFrz (eCall 2 f__law_next (avS 0 (avD (eC (.int 8)) (avNil))))) (aCons (eFrz (eCall 2 f__law_next (avS 0 (avD (eC (.int 21)) (avNil))))) (aNil)))) (eFrz (eCall 2 f__law_next (avS 0 (avD (eC (.int 2)) (avNil))))))))
  (sThen (sAsg (eFrz (eCall 4 f__law_series (avS 0 (avD (eVar 1) (avD (eVar 2) (avD (eC (.int 2)) (avNil))))))) (gT 2 (gsC (gN 3) (gsC (gN 4) (gsN)))))
  (sRet (mD (eTup (aCons (eVar 3) (aCons (eVar 4) (aCons (eFrz (eCall 2 f__law_order (avS 0 (avD (eVar 1) (avNil))))) (aNil)))))))))
def f__law_two : Fn := runDef [true] 5 b__law_two
def b_both : DL.Env → Out :=
  sThen (sDrop (eCall 2 f_check_allocation (avD (eVar 0) (avD (eC (.str "first")) (avNil)))))
  (sThen (sDrop (eCall 3 f_check_alike (avD (eVar 1) (avD (eVar 0) (avD (eC (.str "second")) (avNil))))))
  (sThen (sDrop (eCall 2 f_check_order (avD (eVar 2) (avD (eB bLen (aCons (eVar 0) (aNil))) (avNil)))))
  (sRet (mD (eTup (aCons (eFrz (eCall 2 f_intervals (avD (eVar 0) (avD (eVar 2) (avNil))))) (aCons (eFrz (eCall 2 f_intervals (avD (eVar 1) (avD (eVar 2) (avNil))))) (aNil))))))))
def f_both : Fn := runDef [false, false, false] 3 b_both
def b_interval_churn : DL.Env → Out :=
  sThen (sAsg (eFrz (eCall 3 f_both (avD (eVar 0) (avD (eVar 1) (avD (eVar 2) (avNil)))))) (gT 2 (gsC (gN 3) (gsC (gN 4) (gsN)))))
  (sRet (mD (eFrz (eCall 2 f_churn_of (avD (eVar 3) (avD (eVar 4) (avNil)))))))
def f_interval_churn : Fn := runDef [false, false, false] 5 b_interval_churn
def b_waste : DL.Env → Out :=
  sThen (sAsg (eFrz (eCall 3 f_both (avD (eVar 0) (avD (eVar 1) (avD (eVar 2) (avNil)))))) (gT 2 (gsC (gN 3) (gsC (gN 4) (gsN)))))
  (sRet (mD (e2 dSub (eFrz (eCall 2 f_churn_of (avD (eVar 3) (avD (eVar 4) (avNil))))) (eFrz (eCall 2 f_transfer_of (avD (eVar 0) (avD (eVar 1) (avNil))))))))
def f_waste : Fn := runDef [false, false, false] 5 b_waste
end DCon


namespace DCoo
open PySem DL DCom
def b_is_integer : DL.Env → Out :=
  sRet (mD (eAnd (eIsi .int (eVar 0)) (eNot (eIsi .bool (eVar 0)))))
def f_is_integer : Fn := runDef [false] 1 b_is_integer
def b__law_counts : DL.Env → Out :=
  sRet (mD (eB bTup (aCons (eComp (itB bRange1 (aCons (eVar 1) (aNil))) (gN 2) (tYesD) (eB bLen (aCons (eComp (itSeq (eVar 0)) (gN 3) (tb1 (e2 dEq (eVar 3) (eVar 2))) (eVar 3) [3]) (aNil))) [2]) (aNil))))
def f__law_counts : Fn := runDef [false, false] 4 b__law_counts
def b__law_transfer : DL.Env → Out :=
  sRet (mD (eB bSum (aCons (eComp (itB bRange1 (aCons (eB bLen (aCons (eVar 0) (aNil))) (aNil))) (gN 2) (tYesD) (eB bMax (aCons (eC (.int 0)) (aCons (e2 dSub (e2 dIx (eVar 0) (eVar 2)) (e2 dIx (eVar 1) (eVar 2))) (aNil)))) [2]) (aNil))))
def f__law_transfer : Fn := runDef [false, false] 3 b__law_transfer
def b__law_churn : DL.Env → Out :=
  sRet (mD (eB bLen (aCons (eComp (itB bRange1 (aCons (eB bLen (aCons (eVar 0) (aNil))) (aNil))) (gN 2) (tb1 (e2 dNe (e2 dIx (eVar 0) (eVar 2)) (e2 dIx (eVar 1) (eVar 2)))) (eVar 2) [2]) (aNil))))
def f__law_churn : Fn := runDef [false, false] 3 b__law_churn
def b__law_all : DL.Env → Out :=
  sThen (sSet 2 (mD (eLst (aCons (eTup (aNil)) (aNil)))))
  (sThen (sFor (itB bRange1 (aCons (eVar 1) (aNil))) (gN 3) (sThen (sSet 4 (mLst (aNil)))
    (sThen (sFor (itSeq (eVar 2)) (gN 5) (sFor (itB bRange1 (aCons (eVar 0) (aNil))) (gN 6) (sDrop (mD (eMt 4 mApp (aCons (e2 dAdd (eVar 5) (eTup (aCons (eVar 6) (aNil)))) (aNil)))))))
    (sSet 2 (mD (eVarF 4))))))
  (sRet (mD (eVar 2))))
def f__law_all : Fn := runDef [false, false] 7 b__law_all
def b__law_sizes : DL.Env → Out :=
  sRet (mD (e2 dIx (eLst (aCons (eTup (aCons (eC (.int 1)) (aCons (eC (.int 3)) (aNil)))) (aCons (eTup (aCons (eC (.int 2)) (aCons (eC (.int 6)) (aNil)))) (aCons (eTup (aCons (eC (.int 3)) (aCons (eC (.int 5)) (aNil)))) (aCons (eTup (aCons (eC (.int 3)) (aCons (eC (.int 6)) (aNil)))) (aCons (eTup (aCons (eC (.int 4)) (aCons (eC (.int 4)) (aNil)))) (aCons (eTup (aCons (eC (.int 5)) (aCons (eC (.int 4)) (aNil)))) (aCons (eTup (aCons (eC (.int 2)) (aCons (eC (.int 0)) (aNil)))) (aCons (eTup (aCons (eC (.int 3)) (aCons (eC (.int 1)) (aNil)))) (aNil)))))))))) (eFrz (eCall 2 f__law_next (avS 0 (avD (eC (.int 8)) (avNil)))))))
def f__law_sizes : Fn := runDef [true] 1 b__law_sizes
def b__law_least : DL.Env → Out :=
  sThen (sSet 4 (mD (eFrz (eCall 2 f__law_transfer (avD (eFrz (eCall 2 f__law_counts (avD (eVar 2) (avD (eVar 0) (avNil))))) (avD (eVar 3) (avNil)))))))
  (sThen (sSet 5 (mD (eComp (itSeq (eFrz (eCall 2 f__law_all (avD (eVar 0) (avD (eVar 1) (avNil)))))) (gN 6) (tb1 (e2 dEq (eFrz (eCall 2 f__law_counts (avD (eVar 6) (avD (eVar 0) (avNil))))) (eVar 3))) (eVar 6) [6])))
  (sRet (mD (eComp (itSeq (eVar 5)) (gN 6) (tb1 (e2 dEq (eFrz (eCall 2 f__law_churn (avD (eVar 2) (avD (eVar 6) (avNil))))) (eVar 4))) (eVar 6) [6]))))
def f__law_least : Fn := runDef [false, false, false, false] 7 b__law_least
def b_is_some_allocation : DL.Env → Out :=
  sThen (sIf (tOrD (tNotD (tt1 (eIsi .tup (eVar 0)))) (tNotD (tb1 (eChain dLe dLe (eC (.int 1)) (eB bLen (aCons (eVar 0) (aNil))) (eC (.int 5)))))) (sRet (mD (eC (.bool false)))) (sNx))
  (sThen (sIf (tOrD (tNotD (tt1 (eB bAll (aCons (eComp (itSeq (eVar 0)) (gN 1) (tYesD) (eAnd (eFrz (eCall 1 f_is_integer (avD (eVar 1) (avNil)))) (e2 dGe (eVar 1) (eC (.int 0)))) [1]) (aNil))))) (tb1 (e2 dGt (eB bSum (aCons (eVar 0) (aNil))) (eC (.int 20))))) (sRet (mD (eC (.bool false)))) (sNx))
  (sRet (mD (eFrz (eCall 3 f_is_allocation (avD (eVar 0) (avD (eB bLen (aCons (eVar 0) (aNil))) (avD (eB bSum (aCons (eVar 0) (aNil))) (avNil)))))))))
def f_is_some_allocation : Fn := runDef [false] 2 b_is_some_allocation
def b__law_shares : DL.Env → Out :=
  sRet (mD (eFrz (eCall 2 f__law_counts (avD (eFrz (eCall 3 f__law_assignment (avS 0 (avD (eVar 1) (avD (eVar 2) (avNil)))))) (avD (eVar 1) (avNil))))))
def f__law_shares : Fn := runDef [true, false, false] 3 b__law_shares
def b_check_allocation : DL.Env → Out :=
  sIf (tNotD (tt1 (eFrz (eCall 1 f_is_some_allocation (avD (eVar 0) (avNil)))))) (sNo) (sNx)
def f_check_allocation : Fn := runDef [false] 1 b_check_allocation
def b_check_assignment : DL.Env → Out :=
  sIf (tNotD (tt1 (eFrz (eCall 3 f_is_assignment (avD (eVar 1) (avD (eB bLen (aCons (eVar 0) (aNil))) (avD (eB bSum (aCons (eVar 0) (aNil))) (avNil)))))))) (sNo) (sNx)
def f_check_assignment : Fn := runDef [false, false, false] 3 b_check_assignment
def b__law_given : DL.Env → Out :=
  sThen (sAsg (eFrz (eCall 1 f__law_sizes (avS 0 (avNil)))) (gT 2 (gsC (gN 3) (gsC (gN 4) (gsN)))))
  (sThen (sSet 1 (mD (eFrz (eCall 3 f__law_assignment (avS 0 (avD (eVar 3) (avD (eVar 4) (avNil))))))))
  (sThen (sSet 2 (mD (eFrz (eCall 3 f__law_shares (avS 0 (avD (eVar 3) (avD (eVar 4) (avNil))))))))
  (sThen (sIf (tb1 (e2 dEq (eFrz (eCall 2 f__law_next (avS 0 (avD (eC (.int 6)) (avNil))))) (eC (.int 0)))) (sSet 2 (mD (eFrz (eCall 2 f__law_counts (avD (eVar 1) (avD (eVar 3) (avNil))))))) (sNx))
  (sRet (mD (eTup (aCons (eVar 3) (aCons (eVar 4) (aCons (eVar 1) (aCons (eVar 2) (aNil)))))))))))
def f__law_given : Fn := runDef [true] 5 b__law_given
def b_needless_move : DL.Env → Out :=
  sThen (sFor (itB bEnum (aCons (eVar 2) (aNil))) (gT 2 (gsC (gN 4) (gsC (gN 5) (gsN)))) (sThen (sSet 6 (mD (e2 dIx (eVar 3) (eVar 4))))
    (sIf (tb1 (e2 dNe (eVar 5) (eVar 6))) (sThen (sIf (tb1 (e2 dGe (e2 dIx (eVar 1) (eVar 5)) (e2 dIx (eVar 0) (eVar 5)))) (sRet (mD (eTup (aCons (eVar 4) (aCons (eC (.str "leaves")) (aNil)))))) (sNx))
      (sIf (tb1 (e2 dLe (e2 dIx (eVar 1) (eVar 6)) (e2 dIx (eVar 0) (eVar 6)))) (sRet (mD (eTup (aCons (eVar 4) (aCons (eC (.str "enters")) (aNil)))))) (sNx))) (sNx))))
  (sRet (mD (eC (.none))))
def f_needless_move : Fn := runDef [false, false, false, false] 7 b_needless_move
def b_check_variants : DL.Env → Out :=
  sIf (tOrD (tNotD (tt1 (eFrz (eCall 1 f_is_integer (avD (eVar 0) (avNil)))))) (tNotD (tb1 (eChain dLe dLe (eC (.int 1)) (eVar 0) (eC (.int 5)))))) (sNo) (sNx)
def f_check_variants : Fn := runDef [false] 1 b_check_variants
def b_first_needless : DL.Env → Out :=
  sRet (mD (eFrz (eCall 4 f_needless_move (avD (eFrz (eCall 2 f_counts_of (avD (eVar 1) (avD (eVar 0) (avNil))))) (avD (eFrz (eCall 2 f_counts_of (avD (eVar 2) (avD (eVar 0) (avNil))))) (avD (eVar 1) (avD (eVar 2) (avNil))))))))
def f_first_needless : Fn := runDef [false, false, false] 3 b_first_needless
def b_needless : DL.Env → Out :=
  sThen (sDrop (eCall 1 f_check_variants (avD (eVar 0) (avNil))))
  (sThen (sIf (tOrD (tNotD (tt1 (eIsi .tup (eVar 1)))) (tb1 (e2 dGt (eB bLen (aCons (eVar 1) (aNil))) (eC (.int 20))))) (sNo) (sNx))
  (sThen (sIf (tNotD (tt1 (eFrz (eCall 3 f_is_assignment (avD (eVar 1) (avD (eVar 0) (avD (eB bLen (aCons (eVar 1) (aNil))) (avNil)))))))) (sNo) (sNx))
  (sThen (sIf (tNotD (tt1 (eFrz (eCall 3 f_is_assignment (avD (eVar 2) (avD (eVar 0) (avD (eB bLen (aCons (eVar 1) (aNil))) (avNil)))))))) (sNo) (sNx))
  (sRet (mD (eFrz (eCall 3 f_first_needless (avD (eVar 0) (avD (eVar 1) (avD (eVar 2) (avNil)))))))))))
def f_needless : Fn := runDef [false, false, false] 3 b_needless
def b_is_minimal : DL.Env → Out :=
  sRet (mD (e2 dIs (eFrz (eCall 3 f_needless (avD (eVar 0) (avD (eVar 1) (avD (eVar 2) (avNil)))))) (eC (.none))))
def f_is_minimal : Fn := runDef [false, false, false] 3 b_is_minimal
def b__law_due : DL.Env → Out :=
  sThen (sSet 3 (mD (eFrz (eCall 2 f__law_counts (avD (eVar 1) (avD (eVar 0) (avNil)))))))
  (sThen (sSet 4 (mD (eFrz (eCall 2 f__law_counts (avD (eVar 2) (avD (eVar 0) (avNil)))))))
  (sThen (sFor (itB bRange1 (aCons (eB bLen (aCons (eVar 1) (aNil))) (aNil))) (gN 5) (sIf (tb1 (e2 dNe (e2 dIx (eVar 1) (eVar 5)) (e2 dIx (eVar 2) (eVar 5)))) (sThen (sIf (tb1 (e2 dGe (e2 dIx (eVar 4) (e2 dIx (eVar 1) (eVar 5))) (e2 dIx (eVar 3) (e2 dIx (eVar 1) (eVar 5))))) (sRet (mD (eTup (aCons (eVar 5) (aCons (eC (.str "leaves")) (aNil)))))) (sNx))
      (sIf (tb1 (e2 dLe (e2 dIx (eVar 4) (e2 dIx (eVar 2) (eVar 5))) (e2 dIx (eVar 3) (e2 dIx (eVar 2) (eVar 5))))) (sRet (mD (eTup (aCons (eVar 5) (aCons (eC (.str "enters")) (aNil)))))) (sNx))) (sNx)))
  (sRet (mD (eC (.none))))))
def f__law_due : Fn := runDef [false, false, false] 6 b__law_due
end DCoo


namespace DCop
open PySem DL DCom
def b_is_some_allocation : DL.Env → Out :=
  sThen (sIf (tOrD (tNotD (tt1 (eIsi .tup (eVar 0)))) (tNotD (tb1 (eChain dLe dLe (eC (.int 1)) (eB bLen (aCons (eVar 0) (aNil))) (eC (.int 5)))))) (sRet (mD (eC (.bool false)))) (sNx))
  (sThen (sIf (tNotD (tt1 (eB bAll (aCons (eComp (itSeq (eVar 0)) (gN 1) (tYesD) (eAnd (eIsi .int (eVar 1)) (eAnd (eNot (eIsi .bool (eVar 1))) (e2 dGe (eVar 1) (eC (.int 0))))) [1]) (aNil))))) (sRet (mD (eC (.bool false)))) (sNx))
  (sRet (mD (e2 dLe (eB bSum (aCons (eVar 0) (aNil))) (eC (.int 20))))))
def f_is_some_allocation : Fn := runDef [false] 2 b_is_some_allocation
def b__law_count : DL.Env → Out :=
  sRet (mD (eB bTup (aCons (eComp (itB bRange1 (aCons (eVar 1) (aNil))) (gN 2) (tYesD) (eB bSum (aCons (eComp (itSeq (eVar 0)) (gN 3) (tYesD) (eB bInt (aCons (e2 dEq (eVar 3) (eVar 2)) (aNil))) [3]) (aNil))) [2]) (aNil))))
def f__law_count : Fn := runDef [false, false] 4 b__law_count
def b__law_medians : DL.Env → Out :=
  sRet (mD (eB bTup (aCons (eComp (itB bRange1 (aCons (eB bLen (aCons (eVar 0) (aNil))) (aNil))) (gN 3) (tYesD) (e2 dIx (eB bSorted (aCons (eLst (aCons (e2 dIx (eVar 0) (eVar 3)) (aCons (e2 dIx (eVar 1) (eVar 3)) (aCons (e2 dIx (eVar 2) (eVar 3)) (aNil))))) (aNil))) (eC (.int 1))) [3]) (aNil))))
def f__law_medians : Fn := runDef [false, false, false] 4 b__law_medians
def b__law_drawn : DL.Env → Out :=
  sRet (mD (eB bTup (aCons (eComp (itB bRange1 (aCons (eVar 2) (aNil))) (gN 3) (tYesD) (eFrz (eCall 2 f__law_next (avS 0 (avD (eVar 1) (avNil))))) [3]) (aNil))))
def f__law_drawn : Fn := runDef [true, false, false] 4 b__law_drawn
def b_check_like : DL.Env → Out :=
  sThen (sAsg (eVar 0) (gT 2 (gsC (gN 2) (gsC (gN 3) (gsN)))))
  (sThen (sIf (tNotD (tt1 (eFrz (eCall 1 f_is_some_allocation (avD (eVar 3) (avNil)))))) (sNo) (sNx))
  (sFor (itSeq (eVar 1)) (gT 2 (gsC (gN 4) (gsC (gN 5) (gsN)))) (sIf (tNotD (tt1 (eFrz (eCall 3 f_is_allocation (avD (eVar 5) (avD (eB bLen (aCons (eVar 3) (aNil))) (avD (eB bSum (aCons (eVar 3) (aNil))) (avNil)))))))) (sNo) (sNx))))
def f_check_like : Fn := runDef [false, false] 6 b_check_like
def b__law_allocation : DL.Env → Out :=
  sRet (mD (eFrz (eCall 2 f__law_count (avD (eFrz (eCall 3 f__law_drawn (avS 0 (avD (eVar 1) (avD (eVar 2) (avNil)))))) (avD (eVar 1) (avNil))))))
def f__law_allocation : Fn := runDef [true, false, false] 3 b__law_allocation
def b_medians : DL.Env → Out :=
  sThen (sDrop (eCall 2 f_check_allocation (avD (eVar 0) (avD (eC (.str "first")) (avNil)))))
  (sThen (sDrop (eCall 3 f_check_alike (avD (eVar 1) (avD (eVar 0) (avD (eC (.str "second")) (avNil))))))
  (sThen (sDrop (eCall 3 f_check_alike (avD (eVar 2) (avD (eVar 0) (avD (eC (.str "third")) (avNil))))))
  (sRet (mD (eB bTup (aCons (eComp (itB bZip3 (aCons (eVar 0) (aCons (eVar 1) (aCons (eVar 2) (aNil))))) (gN 3) (tYesD) (e2 dIx (eB bSorted (aCons (eVar 3) (aNil))) (eC (.int 1))) [3]) (aNil)))))))
def f_medians : Fn := runDef [false, false, false] 4 b_medians
def b_check_three : DL.Env → Out :=
  sDrop (eCall 2 f_check_like (avD (eTup (aCons (eC (.str "first")) (aCons (eVar 0) (aNil)))) (avD (eLst (aCons (eTup (aCons (eC (.str "second")) (aCons (eVar 1) (aNil)))) (aCons (eTup (aCons (eC (.str "third")) (aCons (eVar 2) (aNil)))) (aNil)))) (avNil))))
def f_check_three : Fn := runDef [false, false, false] 3 b_check_three
def b__law_three : DL.Env → Out :=
  sRet (mD (eComp (itB bRange1 (aCons (eC (.int 3)) (aNil))) (gN 3) (tYesD) (eFrz (eCall 3 f__law_allocation (avS 0 (avD (eVar 1) (avD (eVar 2) (avNil)))))) [3]))
def f__law_three : Fn := runDef [true, false, false] 4 b__law_three
end DCop


namespace DCoq
open PySem DL DCom
def b_greatest_shares : DL.Env → Out :=
  sRet (mD (eComp (itB bRange1 (aCons (e2 dSub (eVar 0) (eC (.int 1))) (aNil))) (gN 2) (tYesD) (eB bMax (aCons (eComp (itSeq (eVar 1)) (gN 3) (tYesD) (e2 dIx (eVar 3) (eVar 2)) [3]) (aNil))) [2]))
def f_greatest_shares : Fn := runDef [false, false] 4 b_greatest_shares
def b_are_together : DL.Env → Out :=
  sThen (sIf (tb1 (e2 dEq (eVar 1) (eVar 2))) (sRet (mD (eC (.bool false)))) (sNx))
  (sRet (mD (eB bAny (aCons (eComp (itSeq (eVar 0)) (gN 3) (tYesD) (eAnd (e2 dGt (e2 dIx (eVar 3) (e2 dSub (e2 dIx (eVar 1) (eC (.int 0))) (eC (.int 1)))) (e2 dIx (eVar 1) (eC (.int 1)))) (e2 dGt (e2 dIx (eVar 3) (e2 dSub (e2 dIx (eVar 2) (eC (.int 0))) (eC (.int 1)))) (e2 dIx (eVar 2) (eC (.int 1))))) [3]) (aNil)))))
def f_are_together : Fn := runDef [false, false, false] 4 b_are_together
def b__law_allowed : DL.Env → Out :=
  sThen (sSet 1 (mD (eLst (aNil))))
  (sThen (sFor (itSeq (eVar 0)) (gN 2) (sThen (sSet 3 (mD (eLst (aCons (eTup (aNil)) (aNil)))))
    (sThen (sFor (itSeq (eVar 2)) (gN 4) (sThen (sSet 5 (mD (eLst (aNil))))
      (sThen (sFor (itSeq (eVar 3)) (gN 6) (sSet 5 (mD (e2 dAdd (eVar 5) (eComp (itB bRange1 (aCons (e2 dAdd (eVar 4) (eC (.int 1))) (aNil))) (gN 7) (tYesD) (e2 dAdd (eVar 6) (eTup (aCons (eVar 7) (aNil)))) [7])))))
      (sSet 3 (mD (eVar 5))))))
    (sSet 1 (mD (e2 dAdd (eVar 1) (eComp (itSeq (eVar 3)) (gN 6) (tb1 (e2 dNotIn (eVar 6) (eVar 1))) (eVar 6) [6])))))))
  (sRet (mD (eVar 1))))
def f__law_allowed : Fn := runDef [false] 8 b__law_allowed
def b__law_used : DL.Env → Out :=
  sThen (sSet 1 (mD (eLst (aNil))))
  (sThen (sFor (itB bRange1 (aCons (eB bLen (aCons (eVar 0) (aNil))) (aNil))) (gN 2) (sSet 1 (mD (e2 dAdd (eVar 1) (eComp (itB bRange1 (aCons (e2 dIx (eVar 0) (eVar 2)) (aNil))) (gN 3) (tYesD) (eTup (aCons (e2 dAdd (eVar 2) (eC (.int 1))) (aCons (eVar 3) (aNil)))) [3])))))
  (sRet (mD (eVar 1))))
def f__law_used : Fn := runDef [false] 4 b__law_used
def b_entries_of : DL.Env → Out :=
  sThen (sSet 2 (mLst (aNil)))
  (sThen (sFor (itB bEnum (aCons (eFrz (eCall 2 f_greatest_shares (avD (eVar 0) (avD (eVar 1) (avNil))))) (aNil))) (gT 2 (gsC (gN 3) (gsC (gN 4) (gsN)))) (sDrop (mD (eMt 2 mExt (aCons (eComp (itB bRange1 (aCons (eVar 4) (aNil))) (gN 5) (tYesD) (eTup (aCons (e2 dAdd (eVar 3) (eC (.int 1))) (aCons (eVar 5) (aNil)))) [5]) (aNil))))))
  (sRet (mD (eVarF 2))))
def f_entries_of : Fn := runDef [false, false] 6 b_entries_of
def b__law_family : DL.Env → Out :=
  sThen (sSet 3 (mD (e2 dAdd (eC (.int 1)) (eFrz (eCall 2 f__law_next (avS 0 (avD (eVar 1) (avNil))))))))
  (sThen (sSet 4 (mLst (aNil)))
  (sThen (sFor (itB bRange1 (aCons (e2 dAdd (eC (.int 1)) (eFrz (eCall 2 f__law_next (avS 0 (avD (eC (.int 5)) (avNil)))))) (aNil))) (gN 5) (sThen (sSet 6 (mD (eVar 2)))
    (sThen (sSet 7 (mLst (aNil)))
    (sThen (sFor (itB bRange1 (aCons (e2 dSub (eVar 3) (eC (.int 1))) (aNil))) (gN 8) (sThen (sSet 9 (mD (eFrz (eCall 2 f__law_next (avS 0 (avD (e2 dAdd (eB bMin (aCons (eVar 6) (aCons (eC (.int 3)) (aNil)))) (eC (.int 1))) (avNil)))))))
      (sThen (sSet 6 (mD (e2 dSub (eVar 6) (eVar 9))))
      (sDrop (mD (eMt 7 mApp (aCons (eVar 9) (aNil))))))))
    (sDrop (mD (eMt 4 mApp (aCons (eTupO 7) (aNil)))))))))
  (sRet (mD (eLst (aCons (eVar 3) (aCons (eTupO 4) (aNil))))))))
def f__law_family : Fn := runDef [true, false, false] 10 b__law_family
def b__law_entries : DL.Env → Out :=
  sThen (sSet 1 (mD (eLst (aNil))))
  (sThen (sFor (itSeq (eFrz (eCall 1 f__law_allowed (avD (eVar 0) (avNil))))) (gN 2) (sSet 1 (mD (e2 dAdd (eVar 1) (eComp (itSeq (eFrz (eCall 1 f__law_used (avD (eVar 2) (avNil))))) (gN 3) (tb1 (e2 dNotIn (eVar 3) (eVar 1))) (eVar 3) [3])))))
  (sRet (mD (eB bSorted (aCons (eVar 1) (aNil))))))
def f__law_entries : Fn := runDef [false] 4 b__law_entries
def b_is_array : DL.Env → Out :=
  sThen (sIf (tOrD (tNotD (tt1 (eIsi .tup (eVar 0)))) (tb1 (e2 dNe (eB bLen (aCons (eVar 0) (aNil))) (e2 dSub (eVar 1) (eC (.int 1)))))) (sRet (mD (eC (.bool false)))) (sNx))
  (sRet (mD (eAnd (eB bAll (aCons (eComp (itSeq (eVar 0)) (gN 2) (tYesD) (eFrz (eCall 3 f_is_between (avD (eVar 2) (avD (eC (.int 0)) (avD (eC (.int 10)) (avNil)))))) [2]) (aNil))) (e2 dLe (eB bSum (aCons (eVar 0) (aNil))) (eC (.int 10))))))
def f_is_array : Fn := runDef [false, false] 3 b_is_array
def b_check_variants : DL.Env → Out :=
  sIf (tNotD (tt1 (eFrz (eCall 3 f_is_between (avD (eVar 0) (avD (eC (.int 1)) (avD (eC (.int 5)) (avNil)))))))) (sNo) (sNx)
def f_check_variants : Fn := runDef [false] 1 b_check_variants
def b_are_arrays : DL.Env → Out :=
  sThen (sIf (tOrD (tNotD (tt1 (eIsi .tup (eVar 0)))) (tNotD (tb1 (eChain dLe dLe (eC (.int 1)) (eB bLen (aCons (eVar 0) (aNil))) (eC (.int 5)))))) (sRet (mD (eC (.bool false)))) (sNx))
  (sRet (mD (eB bAll (aCons (eComp (itSeq (eVar 0)) (gN 2) (tYesD) (eFrz (eCall 2 f_is_array (avD (eVar 2) (avD (eVar 1) (avNil))))) [2]) (aNil)))))
def f_are_arrays : Fn := runDef [false, false] 3 b_are_arrays
def b_check_family : DL.Env → Out :=
  sThen (sDrop (eCall 1 f_check_variants (avD (eVar 0) (avNil))))
  (sIf (tNotD (tt1 (eFrz (eCall 2 f_are_arrays (avD (eVar 1) (avD (eVar 0) (avNil))))))) (sNo) (sNx))
def f_check_family : Fn := runDef [false, false] 2 b_check_family
def b__law_together : DL.Env → Out :=
  sThen (sFor (itSeq (eVar 0)) (gN 3) (sIf (tAndD (tb1 (e2 dGt (e2 dIx (eVar 3) (e2 dSub (e2 dIx (eVar 1) (eC (.int 0))) (eC (.int 1)))) (e2 dIx (eVar 1) (eC (.int 1))))) (tAndD (tb1 (e2 dGt (e2 dIx (eVar 3) (e2 dSub (e2 dIx (eVar 2) (eC (.int 0))) (eC (.int 1)))) (e2 dIx (eVar 2) (eC (.int 1))))) (tb1 (e2 dNe (eVar 1) (eVar 2))))) (sRet (mD (eC (.bool true)))) (sNx)))
  (sRet (mD (eC (.bool false))))
def f__law_together : Fn := runDef [false, false, false] 4 b__law_together
def b_fits : DL.Env → Out :=
  sThen (sSet 3 (mD (eTup (aCons (e2 dAdd (eB bLen (aCons (eVar 1) (aNil))) (eC (.int 1))) (aCons (e2 dSub (eVar 2) (eC (.int 1))) (aNil))))))
  (sThen (sFor (itB bEnum (aCons (eVar 1) (aNil))) (gT 2 (gsC (gN 4) (gsC (gN 5) (gsN)))) (sIf (tAndD (tb1 (e2 dGt (eVar 5) (eC (.int 0)))) (tAndD (tb1 (e2 dGt (eVar 2) (eC (.int 0)))) (tNotD (tt1 (eFrz (eCall 3 f_are_together (avD (eVar 0) (avD (eTup (aCons (e2 dAdd (eVar 4) (eC (.int 1))) (aCons (e2 dSub (eVar 5) (eC (.int 1))) (aNil)))) (avD (eVar 3) (avNil)))))))))) (sRet (mD (eC (.bool false)))) (sNx)))
  (sRet (mD (eC (.bool true)))))
def f_fits : Fn := runDef [false, false, false] 6 b_fits
def b_all_heights : DL.Env → Out :=
  sThen (sSet 2 (mD (eLst (aCons (eTup (aNil)) (aNil)))))
  (sThen (sFor (itSeq (eFrz (eCall 2 f_greatest_shares (avD (eVar 0) (avD (eVar 1) (avNil)))))) (gN 3) (sThen (sSet 4 (mLst (aNil)))
    (sThen (sFor (itSeq (eVar 2)) (gN 5) (sDrop (mD (eMt 4 mExt (aCons (eComp (itB bRange1 (aCons (e2 dAdd (eVar 3) (eC (.int 1))) (aNil))) (gN 6) (tt1 (eFrz (eCall 3 f_fits (avD (eVar 1) (avD (eVar 5) (avD (eVar 6) (avNil))))))) (e2 dAdd (eVar 5) (eTup (aCons (eVar 6) (aNil)))) [6]) (aNil))))))
    (sSet 2 (mD (eVarF 4))))))
  (sRet (mD (eVar 2))))
def f_all_heights : Fn := runDef [false, false] 7 b_all_heights
def b_greatest : DL.Env → Out :=
  sThen (sSet 2 (mD (eTup (aCons (eC (.int 0)) (aCons (e2 dMul (eTup (aCons (eC (.int 0)) (aNil))) (e2 dSub (eVar 0) (eC (.int 1)))) (aNil))))))
  (sThen (sFor (itSeq (eFrz (eCall 2 f_all_heights (avD (eVar 0) (avD (eVar 1) (avNil)))))) (gN 3) (sIf (tb1 (e2 dGt (eB bSum (aCons (eVar 3) (aNil))) (e2 dIx (eVar 2) (eC (.int 0))))) (sSet 2 (mD (eTup (aCons (eB bSum (aCons (eVar 3) (aNil))) (aCons (eVar 3) (aNil)))))) (sNx)))
  (sRet (mD (eVar 2))))
def f_greatest : Fn := runDef [false, false] 4 b_greatest
def b_greatest_clique : DL.Env → Out :=
  sThen (sDrop (eCall 2 f_check_family (avD (eVar 0) (avD (eVar 1) (avNil)))))
  (sRet (mD (eFrz (eCall 2 f_greatest (avD (eVar 0) (avD (eVar 1) (avNil)))))))
def f_greatest_clique : Fn := runDef [false, false] 2 b_greatest_clique
def b__law_greatest : DL.Env → Out :=
  sThen (sSet 2 (mD (eLst (aCons (eTup (aNil)) (aNil)))))
  (sThen (sFor (itSeq (eVar 1)) (gN 3) (sThen (sSet 4 (mLst (aNil)))
    (sThen (sFor (itSeq (eVar 2)) (gN 5) (sIf (tt1 (eB bAll (aCons (eComp (itSeq (eVar 5)) (gN 6) (tYesD) (eFrz (eCall 3 f__law_together (avD (eVar 0) (avD (eVar 3) (avD (eVar 6) (avNil)))))) [6]) (aNil)))) (sDrop (mD (eMt 4 mApp (aCons (e2 dAdd (eVar 5) (eTup (aCons (eVar 3) (aNil)))) (aNil))))) (sNx)))
    (sSet 2 (mD (e2 dAdd (eVar 2) (eVarF 4)))))))
  (sRet (mD (eB bMax (aCons (eComp (itSeq (eVar 2)) (gN 5) (tYesD) (eB bLen (aCons (eVar 5) (aNil))) [5]) (aNil))))))
def f__law_greatest : Fn := runDef [false, false] 7 b__law_greatest
def b__law_first_heights : DL.Env → Out :=
  sThen (sSet 3 (mD (eComp (itB bRange1 (aCons (e2 dSub (eVar 1) (eC (.int 1))) (aNil))) (gN 12) (tYesD) (eB bMax (aCons (eComp (itSeq (eVar 0)) (gN 13) (tYesD) (e2 dIx (eVar 13) (eVar 12)) [13]) (aNil))) [12])))
  (sThen (sSet 4 (mD (eLst (aCons (eTup (aNil)) (aNil)))))
  (sThen (sFor (itSeq (eVar 3)) (gN 5) (sThen (sSet 7 (mD (eLst (aNil))))
    (sThen (sFor (itSeq (eVar 4)) (gN 8) (sSet 7 (mD (e2 dAdd (eVar 7) (eComp (itB bRange1 (aCons (e2 dAdd (eVar 5) (eC (.int 1))) (aNil))) (gN 14) (tYesD) (e2 dAdd (eVar 8) (eTup (aCons (eVar 14) (aNil)))) [14])))))
    (sSet 4 (mD (eVar 7))))))
  (sThen (sFor (itSeq (eVar 4)) (gN 6) (sThen (sSet 9 (mD (eFrz (eCall 1 f__law_used (avD (eVar 6) (avNil))))))
    (sThen (sSet 10 (mD (e2 dEq (eB bLen (aCons (eVar 9) (aNil))) (eVar 2))))
    (sThen (sFor (itB bRange1 (aCons (eB bLen (aCons (eVar 9) (aNil))) (aNil))) (gN 11) (sIf (tNotD (tt1 (eB bAll (aCons (eComp (itB bRange1 (aCons (eVar 11) (aNil))) (gN 15) (tYesD) (eFrz (eCall 3 f__law_together (avD (eVar 0) (avD (e2 dIx (eVar 9) (eVar 15)) (avD (e2 dIx (eVar 9) (eVar 11)) (avNil)))))) [15]) (aNil))))) (sSet 10 (mD (eC (.bool false)))) (sNx)))
    (sIf (tt1 (eVar 10)) (sRet (mD (eVar 6))) (sNx))))))
  (sRet (mD (eC (.none)))))))
def f__law_first_heights : Fn := runDef [false, false, false] 16 b__law_first_heights
end DCoq


namespace DCor
open PySem DL DCom
def b_goes_needlessly : DL.Env → Out :=
  sThen (sSet 3 (mD (e2 dIx (e2 dIx (eVar 0) (eC (.int 1))) (eVar 2))))
  (sRet (mD (eAnd (e2 dNe (eVar 3) (eC (.int 0))) (eAnd (e2 dNe (e2 dIx (e2 dIx (eVar 1) (eC (.int 1))) (eVar 2)) (eVar 3)) (e2 dGe (e2 dIx (e2 dIx (eVar 1) (eC (.int 0))) (eVar 3)) (e2 dIx (e2 dIx (eVar 0) (eC (.int 0))) (eVar 3)))))))
def f_goes_needlessly : Fn := runDef [false, false, false] 4 b_goes_needlessly
def b__law_allocations : DL.Env → Out :=
  sThen (sSet 2 (mD (eLst (aCons (eTup (aNil)) (aNil)))))
  (sThen (sFor (itB bRange1 (aCons (e2 dSub (eVar 0) (eC (.int 1))) (aNil))) (gN 3) (sThen (sSet 4 (mLst (aNil)))
    (sThen (sFor (itSeq (eVar 2)) (gN 5) (sFor (itB bRange1 (aCons (e2 dAdd (e2 dSub (eVar 1) (eB bSum (aCons (eVar 5) (aNil)))) (eC (.int 1))) (aNil))) (gN 6) (sDrop (mD (eMt 4 mApp (aCons (e2 dAdd (eVar 5) (eTup (aCons (eVar 6) (aNil)))) (aNil)))))))
    (sSet 2 (mD (eVarF 4))))))
  (sRet (mD (eComp (itSeq (eVar 2)) (gN 5) (tYesD) (e2 dAdd (eVar 5) (eTup (aCons (e2 dSub (eVar 1) (eB bSum (aCons (eVar 5) (aNil)))) (aNil)))) [5]))))
def f__law_allocations : Fn := runDef [false, false] 7 b__law_allocations
def b__law_by_lists : DL.Env → Out :=
  sThen (sSet 3 (mOp dMul (eLst (aCons (eC (.int 0)) (aNil))) (eVar 2)))
  (sThen (sFor (itB bRange1 (aCons (eB bLen (aCons (eVar 0) (aNil))) (aNil))) (gN 4) (sFor (itSeq (eSlice (e2 dIx (eVar 0) (eVar 4)) (pNo) (pSome (e2 dIx (eVar 1) (e2 dAdd (eVar 4) (eC (.int 1))))))) (gN 5) (sThen (sIf (tb1 (e2 dNe (eIxO 3 (eVar 5)) (eC (.int 0)))) (sRet (mD (eC (.none)))) (sNx))
      (sSetItem 3 (e2 dAdd (eVar 4) (eC (.int 1))) (eVar 5)))))
  (sRet (mD (eTupO 3))))
def f__law_by_lists : Fn := runDef [false, false, false] 6 b__law_by_lists
def b__law_goes : DL.Env → Out :=
  sThen (sSet 3 (mD (e2 dIx (e2 dIx (eVar 0) (eC (.int 1))) (eVar 2))))
  (sRet (mD (eAnd (e2 dGt (eVar 3) (eC (.int 0))) (eAnd (e2 dNe (e2 dIx (e2 dIx (eVar 1) (eC (.int 1))) (eVar 2)) (eVar 3)) (e2 dGe (e2 dIx (e2 dIx (eVar 1) (eC (.int 0))) (eVar 3)) (e2 dIx (e2 dIx (eVar 0) (eC (.int 0))) (eVar 3)))))))
def f__law_goes : Fn := runDef [false, false, false] 4 b__law_goes
def b_first_needless : DL.Env → Out :=
  sThen (sFor (itB bEnum (aCons (eVar 1) (aNil))) (gT 2 (gsC (gN 2) (gsC (gN 3) (gsN)))) (sFor (itB bEnum (aCons (eVar 1) (aNil))) (gT 2 (gsC (gN 4) (gsC (gN 5) (gsN)))) (sFor (itB bRange1 (aCons (eVar 0) (aNil))) (gN 6) (sIf (tt1 (eFrz (eCall 3 f_goes_needlessly (avD (eVar 3) (avD (eVar 5) (avD (eVar 6) (avNil))))))) (sRet (mD (eTup (aCons (eVar 2) (aCons (eVar 4) (aCons (eVar 6) (aNil))))))) (sNx)))))
  (sRet (mD (eC (.none))))
def f_first_needless : Fn := runDef [false, false] 7 b_first_needless
def b__law_shuffled : DL.Env → Out :=
  sThen (sSet 2 (mListRg bRange1 (aOne (eVar 1))))
  (sThen (sSet 3 (mLst (aNil)))
  (sThen (sFor (itB bRange1 (aCons (eVar 1) (aNil))) (gN 4) (sDrop (mD (eMt 3 mApp (aCons (eMt 2 mPopAt (aCons (eFrz (eCall 2 f__law_next (avS 0 (avD (eBO 2 bLen) (avNil))))) (aNil))) (aNil))))))
  (sRet (mD (eVarF 3)))))
def f__law_shuffled : Fn := runDef [true, false] 5 b__law_shuffled
def b__law_drawn_assignment : DL.Env → Out :=
  sThen (sSet 3 (mList (aCons (eVar 1) (aNil))))
  (sThen (sSet 4 (mLst (aNil)))
  (sThen (sFor (itB bRange1 (aCons (eVar 2) (aNil))) (gN 5) (sThen (sSet 6 (mD (eComp (itB bRange1 (aCons (eBO 3 bLen) (aNil))) (gN 7) (tb1 (e2 dGt (eIxO 3 (eVar 7)) (eC (.int 0)))) (eVar 7) [7])))
    (sThen (sSet 7 (mD (e2 dIx (eVar 6) (eFrz (eCall 2 f__law_next (avS 0 (avD (eB bLen (aCons (eVar 6) (aNil))) (avNil))))))))
    (sThen (sSetItem 3 (e2 dSub (eIxO 3 (eVar 7)) (eC (.int 1))) (eVar 7))
    (sDrop (mD (eMt 4 mApp (aCons (eVar 7) (aNil)))))))))
  (sRet (mD (eTupO 4)))))
def f__law_drawn_assignment : Fn := runDef [true, false, false] 8 b__law_drawn_assignment
def b__law_first_leave : DL.Env → Out :=
  sThen (sFor (itB bRange1 (aCons (eB bLen (aCons (eVar 0) (aNil))) (aNil))) (gN 2) (sFor (itB bRange1 (aCons (eB bLen (aCons (eVar 0) (aNil))) (aNil))) (gN 3) (sFor (itB bRange1 (aCons (eVar 1) (aNil))) (gN 4) (sIf (tt1 (eFrz (eCall 3 f__law_goes (avD (e2 dIx (eVar 0) (eVar 2)) (avD (e2 dIx (eVar 0) (eVar 3)) (avD (eVar 4) (avNil))))))) (sRet (mD (eTup (aCons (eVar 2) (aCons (eVar 3) (aCons (eVar 4) (aNil))))))) (sNx)))))
  (sRet (mD (eC (.none))))
def f__law_first_leave : Fn := runDef [false, false] 5 b__law_first_leave
def b_check_sizes : DL.Env → Out :=
  sThen (sIf (tNotD (tt1 (eFrz (eCall 3 f_is_between (avD (eVar 0) (avD (eC (.int 1)) (avD (eC (.int 5)) (avNil)))))))) (sNo) (sNx))
  (sIf (tNotD (tt1 (eFrz (eCall 3 f_is_between (avD (eVar 1) (avD (eC (.int 0)) (avD (eC (.int 20)) (avNil)))))))) (sNo) (sNx))
def f_check_sizes : Fn := runDef [false, false] 2 b_check_sizes
def b__law_rule : DL.Env → Out :=
  sThen (sSet 4 (mD (eComp (itB bRange1 (aCons (e2 dSub (eVar 1) (eC (.int 1))) (aNil))) (gN 9) (tYesD) (eFrz (eCall 2 f__law_shuffled (avS 0 (avD (eVar 2) (avNil))))) [9])))
  (sThen (sSet 5 (mD (eFrz (eCall 2 f__law_allocations (avD (eVar 1) (avD (eVar 2) (avNil)))))))
  (sThen (sSet 6 (mD (e2 dEq (eFrz (eCall 2 f__law_next (avS 0 (avD (eC (.int 3)) (avNil))))) (eC (.int 1)))))
  (sThen (sSet 7 (mLst (aNil)))
  (sThen (sSet 8 (mLst (aNil)))
  (sThen (sFor (itB bRange1 (aCons (eFrz (eCall 2 f__law_next (avS 0 (avD (e2 dAdd (eVar 3) (eC (.int 1))) (avNil))))) (aNil))) (gN 9) (sThen (sSet 10 (mD (e2 dIx (eVar 5) (eFrz (eCall 2 f__law_next (avS 0 (avD (eB bLen (aCons (eVar 5) (aNil))) (avNil))))))))
    (sThen (sSet 11 (mD (eFrz (eCall 3 f__law_by_lists (avD (eVar 4) (avD (eVar 10) (avD (eVar 2) (avNil))))))))
    (sThen (sIf (tAndD (tt1 (eVar 6)) (tOrD (tb1 (e2 dIs (eVar 11) (eC (.none)))) (tb1 (e2 dEq (eFrz (eCall 2 f__law_next (avS 0 (avD (eC (.int 2)) (avNil))))) (eC (.int 1)))))) (sSet 11 (mD (eFrz (eCall 3 f__law_drawn_assignment (avS 0 (avD (eVar 10) (avD (eVar 2) (avNil)))))))) (sNx))
    (sIf (tAndD (tb1 (e2R dNotIn (eVar 10) 8)) (tb1 (e2 dIsNot (eVar 11) (eC (.none))))) (sThen (sDrop (mD (eMt 8 mApp (aCons (eVar 10) (aNil)))))
      (sDrop (mD (eMt 7 mApp (aCons (eTup (aCons (eVar 10) (aCons (eVar 11) (aNil)))) (aNil)))))) (sNx))))))
  (sRet (mD (eTupO 7))))))))
def f__law_rule : Fn := runDef [true, false, false, false] 12 b__law_rule
def b_is_pair : DL.Env → Out :=
  sThen (sIf (tOrD (tNotD (tt1 (eIsi .tup (eVar 0)))) (tb1 (e2 dNe (eB bLen (aCons (eVar 0) (aNil))) (eC (.int 2))))) (sRet (mD (eC (.bool false)))) (sNx))
  (sThen (sIf (tOrD (tNotD (tt1 (eFrz (eCall 3 f_is_allocation (avD (e2 dIx (eVar 0) (eC (.int 0))) (avD (eVar 1) (avD (eVar 2) (avNil)))))))) (tNotD (tt1 (eFrz (eCall 3 f_is_assignment (avD (e2 dIx (eVar 0) (eC (.int 1))) (avD (eVar 1) (avD (eVar 2) (avNil))))))))) (sRet (mD (eC (.bool false)))) (sNx))
  (sRet (mD (e2 dEq (eFrz (eCall 2 f_allocation_of (avD (e2 dIx (eVar 0) (eC (.int 1))) (avD (eVar 1) (avNil))))) (e2 dIx (eVar 0) (eC (.int 0)))))))
def f_is_pair : Fn := runDef [false, false, false] 3 b_is_pair
def b_are_pairs : DL.Env → Out :=
  sThen (sIf (tOrD (tNotD (tt1 (eIsi .tup (eVar 0)))) (tb1 (e2 dGt (eB bLen (aCons (eVar 0) (aNil))) (eC (.int 20))))) (sRet (mD (eC (.bool false)))) (sNx))
  (sThen (sIf (tNotD (tt1 (eB bAll (aCons (eComp (itSeq (eVar 0)) (gN 3) (tYesD) (eFrz (eCall 3 f_is_pair (avD (eVar 3) (avD (eVar 1) (avD (eVar 2) (avNil)))))) [3]) (aNil))))) (sRet (mD (eC (.bool false)))) (sNx))
  (sRet (mD (e2 dEq (eLenDc kT (itSeq (eVar 0)) (gN 3) (tYesD) (e2 dIx (eVar 3) (eC (.int 0))) (eC (.bool true)) [3]) (eB bLen (aCons (eVar 0) (aNil)))))))
def f_are_pairs : Fn := runDef [false, false, false] 4 b_are_pairs
def b_check_rule : DL.Env → Out :=
  sThen (sDrop (eCall 2 f_check_sizes (avD (eVar 0) (avD (eVar 1) (avNil)))))
  (sIf (tNotD (tt1 (eFrz (eCall 3 f_are_pairs (avD (eVar 2) (avD (eVar 0) (avD (eVar 1) (avNil)))))))) (sNo) (sNx))
def f_check_rule : Fn := runDef [false, false, false] 3 b_check_rule
def b_needless_leave : DL.Env → Out :=
  sThen (sDrop (eCall 3 f_check_rule (avD (eVar 0) (avD (eVar 1) (avD (eVar 2) (avNil))))))
  (sRet (mD (eFrz (eCall 2 f_first_needless (avD (eVar 1) (avD (eVar 2) (avNil)))))))
def f_needless_leave : Fn := runDef [false, false, false] 3 b_needless_leave
def b_is_allowed : DL.Env → Out :=
  sThen (sFor (itSeq (eVar 0)) (gT 2 (gsC (gN 4) (gsC (gN 5) (gsN)))) (sThen (sSet 6 (mD (e2 dIx (eVar 5) (eVar 2))))
    (sThen (sIf (tAndD (tb1 (e2 dNe (eVar 6) (eC (.int 0)))) (tAndD (tb1 (e2 dLe (e2 dIx (eVar 4) (eVar 6)) (e2 dIx (eVar 1) (eVar 6)))) (tb1 (e2 dNe (eVar 3) (eVar 6))))) (sRet (mD (eC (.bool false)))) (sNx))
    (sIf (tAndD (tb1 (e2 dNe (eVar 3) (eC (.int 0)))) (tAndD (tb1 (e2 dGe (e2 dIx (eVar 4) (eVar 3)) (e2 dIx (eVar 1) (eVar 3)))) (tb1 (e2 dNe (eVar 3) (eVar 6))))) (sRet (mD (eC (.bool false)))) (sNx)))))
  (sRet (mD (eC (.bool true))))
def f_is_allowed : Fn := runDef [false, false, false, false] 7 b_is_allowed
def b__law_assignments : DL.Env → Out :=
  sThen (sSet 2 (mD (eLst (aCons (eTup (aNil)) (aNil)))))
  (sThen (sFor (itB bRange1 (aCons (eVar 1) (aNil))) (gN 3) (sThen (sSet 4 (mD (eLst (aNil))))
    (sThen (sFor (itSeq (eVar 2)) (gN 5) (sSet 4 (mD (e2 dAdd (eVar 4) (eComp (itB bRange1 (aCons (eVar 0) (aNil))) (gN 6) (tYesD) (e2 dAdd (eVar 5) (eTup (aCons (eVar 6) (aNil)))) [6])))))
    (sSet 2 (mD (eVar 4))))))
  (sRet (mD (eVar 2))))
def f__law_assignments : Fn := runDef [false, false] 7 b__law_assignments
def b__law_shares : DL.Env → Out :=
  sRet (mD (eB bTup (aCons (eComp (itB bRange1 (aCons (eVar 1) (aNil))) (gN 2) (tYesD) (eSM cntD (eVar 0) (aCons (eVar 2) (aNil))) [2]) (aNil))))
def f__law_shares : Fn := runDef [false, false] 3 b__law_shares
def b__law_is_allowed : DL.Env → Out :=
  sThen (sFor (itSeq (eVar 0)) (gT 2 (gsC (gN 4) (gsC (gN 5) (gsN)))) (sFor (itB bRange2 (aCons (eC (.int 1)) (aCons (eB bLen (aCons (eVar 4) (aNil))) (aNil)))) (gN 6) (sThen (sIf (tAndD (tb1 (e2 dEq (e2 dIx (eVar 5) (eVar 2)) (eVar 6))) (tAndD (tb1 (e2 dLe (e2 dIx (eVar 4) (eVar 6)) (e2 dIx (eVar 1) (eVar 6)))) (tb1 (e2 dNe (eVar 3) (eVar 6))))) (sRet (mD (eC (.bool false)))) (sNx))
      (sIf (tAndD (tb1 (e2 dEq (eVar 3) (eVar 6))) (tAndD (tb1 (e2 dGe (e2 dIx (eVar 4) (eVar 6)) (e2 dIx (eVar 1) (eVar 6)))) (tb1 (e2 dNe (e2 dIx (eVar 5) (eVar 2)) (eVar 6))))) (sRet (mD (eC (.bool false)))) (sNx)))))
  (sRet (mD (eC (.bool true))))
def f__law_is_allowed : Fn := runDef [false, false, false, false] 7 b__law_is_allowed
def b_menus_of : DL.Env → Out :=
  sThen (sSet 4 (mLst (aNil)))
  (sThen (sFor (itB bRange1 (aCons (eVar 1) (aNil))) (gN 5) (sDrop (mD (eMt 4 mApp (aCons (eB bTup (aCons (eComp (itB bRange1 (aCons (eVar 0) (aNil))) (gN 6) (tt1 (eFrz (eCall 4 f_is_allowed (avD (eVar 2) (avD (eVar 3) (avD (eVar 5) (avD (eVar 6) (avNil)))))))) (eVar 6) [6]) (aNil))) (aNil))))))
  (sRet (mD (eTupO 4))))
def f_menus_of : Fn := runDef [false, false, false, false] 7 b_menus_of
def b_check_all : DL.Env → Out :=
  sThen (sDrop (eCall 3 f_check_rule (avD (eVar 0) (avD (eVar 1) (avD (eVar 2) (avNil))))))
  (sIf (tNotD (tt1 (eFrz (eCall 3 f_is_allocation (avD (eVar 3) (avD (eVar 0) (avD (eVar 1) (avNil)))))))) (sNo) (sNx))
def f_check_all : Fn := runDef [false, false, false, false] 4 b_check_all
def b_allowed_variants : DL.Env → Out :=
  sThen (sDrop (eCall 4 f_check_all (avD (eVar 0) (avD (eVar 1) (avD (eVar 2) (avD (eVar 3) (avNil)))))))
  (sRet (mD (eFrz (eCall 4 f_menus_of (avD (eVar 0) (avD (eVar 1) (avD (eVar 2) (avD (eVar 3) (avNil)))))))))
def f_allowed_variants : Fn := runDef [false, false, false, false] 4 b_allowed_variants
def b__law_asked : DL.Env → Out :=
  sThen (sSet 4 (mD (eFrz (eCall 2 f__law_allocations (avD (eVar 2) (avD (eVar 3) (avNil)))))))
  (sThen (sIf (tAndD (tt1 (eVar 1)) (tb1 (e2 dEq (eFrz (eCall 2 f__law_next (avS 0 (avD (eC (.int 2)) (avNil))))) (eC (.int 1))))) (sRet (mD (e2 dIx (e2 dIx (eVar 1) (eFrz (eCall 2 f__law_next (avS 0 (avD (eB bLen (aCons (eVar 1) (aNil))) (avNil)))))) (eC (.int 0))))) (sNx))
  (sRet (mD (e2 dIx (eVar 4) (eFrz (eCall 2 f__law_next (avS 0 (avD (eB bLen (aCons (eVar 4) (aNil))) (avNil)))))))))
def f__law_asked : Fn := runDef [true, false, false, false] 5 b__law_asked
def b__law_churn : DL.Env → Out :=
  sRet (mD (eB bSum (aCons (eComp (itB bRange1 (aCons (eB bLen (aCons (eVar 0) (aNil))) (aNil))) (gN 2) (tYesD) (eB bInt (aCons (e2 dNe (e2 dIx (eVar 0) (eVar 2)) (e2 dIx (eVar 1) (eVar 2))) (aNil))) [2]) (aNil))))
def f__law_churn : Fn := runDef [false, false] 3 b__law_churn
def b_most_waste : DL.Env → Out :=
  sThen (sDrop (eCall 3 f_check_rule (avD (eVar 0) (avD (eVar 1) (avD (eVar 2) (avNil))))))
  (sThen (sSet 3 (mD (eC (.none))))
  (sThen (sFor (itB bRange1 (aCons (eB bLen (aCons (eVar 2) (aNil))) (aNil))) (gN 4) (sFor (itB bRange1 (aCons (eVar 4) (aNil))) (gN 5) (sThen (sSet 6 (mD (eFrz (eCall 2 f_churn (avD (e2 dIx (e2 dIx (eVar 2) (eVar 5)) (eC (.int 1))) (avD (e2 dIx (e2 dIx (eVar 2) (eVar 4)) (eC (.int 1))) (avNil)))))))
      (sThen (sSet 7 (mD (eFrz (eCall 2 f_transfer (avD (e2 dIx (e2 dIx (eVar 2) (eVar 5)) (eC (.int 0))) (avD (e2 dIx (e2 dIx (eVar 2) (eVar 4)) (eC (.int 0))) (avNil)))))))
      (sThen (sSet 8 (mD (eTup (aCons (e2 dSub (eVar 7) (eVar 6)) (aCons (eVar 5) (aCons (eVar 4) (aCons (eVar 6) (aCons (eVar 7) (aNil)))))))))
      (sIf (tOrD (tb1 (e2 dIs (eVar 3) (eC (.none)))) (tb1 (e2 dLt (eVar 8) (eVar 3)))) (sSet 3 (mD (eVar 8))) (sNx)))))))
  (sRet (mD (eIf (tb1 (e2 dIs (eVar 3) (eC (.none)))) (eC (.none)) (eSlice (eVar 3) (pSome (eC (.int 1))) (pNo)))))))
def f_most_waste : Fn := runDef [false, false, false] 9 b_most_waste
end DCor


namespace DCos
open PySem DL DCom
def b_are_joined : DL.Env → Out :=
  sRet (mD (e2 dIn (eTup (aCons (eB bMin (aCons (eVar 1) (aCons (eVar 2) (aNil)))) (aCons (eB bMax (aCons (eVar 1) (aCons (eVar 2) (aNil)))) (aNil)))) (eVar 0)))
def f_are_joined : Fn := runDef [false, false, false] 3 b_are_joined
def b_median_total : DL.Env → Out :=
  sThen (sAsg (eComp (itSeq (eVar 1)) (gN 5) (tYesD) (e2 dIx (eVar 0) (eVar 5)) [5]) (gTL 3 (gsC (gN 2) (gsC (gN 3) (gsC (gN 4) (gsN))))))
  (sRet (mD (eB bSum (aCons (eComp (itB bZip3 (aCons (eVar 2) (aCons (eVar 3) (aCons (eVar 4) (aNil))))) (gN 6) (tYesD) (e2 dIx (eB bSorted (aCons (eVar 6) (aNil))) (eC (.int 1))) [6]) (aNil)))))
def f_median_total : Fn := runDef [false, false] 7 b_median_total
def b__law_all_pairs : DL.Env → Out :=
  sThen (sSet 1 (mLst (aNil)))
  (sThen (sFor (itB bRange1 (aCons (eVar 0) (aNil))) (gN 2) (sFor (itB bRange2 (aCons (e2 dAdd (eVar 2) (eC (.int 1))) (aCons (eVar 0) (aNil)))) (gN 3) (sDrop (mD (eMt 1 mApp (aCons (eTup (aCons (eVar 2) (aCons (eVar 3) (aNil)))) (aNil)))))))
  (sRet (mVar 1)))
def f__law_all_pairs : Fn := runDef [false] 4 b__law_all_pairs
def b_is_cycle : DL.Env → Out :=
  sRet (mD (eB bAll (aCons (eComp (itB bRange1 (aCons (eB bLen (aCons (eVar 1) (aNil))) (aNil))) (gN 2) (tYesD) (eFrz (eCall 3 f_are_joined (avD (eVar 0) (avD (e2 dIx (eVar 1) (e2 dSub (eVar 2) (eC (.int 1)))) (avD (e2 dIx (eVar 1) (eVar 2)) (avNil)))))) [2]) (aNil))))
def f_is_cycle : Fn := runDef [false, false] 3 b_is_cycle
def b__law_pairs : DL.Env → Out :=
  sThen (sSet 3 (eCall 1 f__law_all_pairs (avD (eVar 1) (avNil))))
  (sThen (sSet 4 (mLst (aNil)))
  (sThen (sFor (itB bRange1 (aCons (eB bMin (aCons (eVar 2) (aCons (eBO 3 bLen) (aNil)))) (aNil))) (gN 5) (sIf (tb1 (e2 dGt (eFrz (eCall 2 f__law_next (avS 0 (avD (eC (.int 4)) (avNil))))) (eC (.int 0)))) (sDrop (mD (eMt 4 mApp (aCons (eMt 3 mPopAt (aCons (eFrz (eCall 2 f__law_next (avS 0 (avD (eBO 3 bLen) (avNil))))) (aNil))) (aNil))))) (sNx)))
  (sRet (mD (eTupO 4)))))
def f__law_pairs : Fn := runDef [true, false, false] 6 b__law_pairs
def b_is_series : DL.Env → Out :=
  sThen (sIf (tOrD (tNotD (tt1 (eIsi .tup (eVar 0)))) (tOrD (tNotD (tb1 (eChain dLe dLe (eC (.int 1)) (eB bLen (aCons (eVar 0) (aNil))) (eVar 1)))) (tNotD (tt1 (eIsi .tup (e2 dIx (eVar 0) (eC (.int 0)))))))) (sRet (mD (eC (.bool false)))) (sNx))
  (sThen (sIf (tOrD (tNotD (tb1 (eChain dLe dLe (eC (.int 1)) (eB bLen (aCons (e2 dIx (eVar 0) (eC (.int 0))) (aNil))) (eC (.int 5))))) (tNotD (tt1 (eB bAll (aCons (eComp (itSeq (e2 dIx (eVar 0) (eC (.int 0)))) (gN 3) (tYesD) (eFrz (eCall 3 f_is_between (avD (eVar 3) (avD (eC (.int 0)) (avD (eC (.int 20)) (avNil)))))) [3]) (aNil)))))) (sRet (mD (eC (.bool false)))) (sNx))
  (sThen (sSet 2 (mD (eB bSum (aCons (e2 dIx (eVar 0) (eC (.int 0))) (aNil)))))
  (sRet (mD (eAnd (e2 dLe (eVar 2) (eC (.int 20))) (eB bAll (aCons (eComp (itSeq (eVar 0)) (gN 3) (tYesD) (eFrz (eCall 3 f_is_allocation (avD (eVar 3) (avD (eB bLen (aCons (e2 dIx (eVar 0) (eC (.int 0))) (aNil))) (avD (eVar 2) (avNil)))))) [3]) (aNil))))))))
def f_is_series : Fn := runDef [false, false] 4 b_is_series
def b_is_pair : DL.Env → Out :=
  sThen (sIf (tOrD (tNotD (tt1 (eIsi .tup (eVar 0)))) (tOrD (tb1 (e2 dNe (eB bLen (aCons (eVar 0) (aNil))) (eC (.int 2)))) (tNotD (tt1 (eB bAll (aCons (eComp (itSeq (eVar 0)) (gN 2) (tYesD) (eFrz (eCall 3 f_is_between (avD (eVar 2) (avD (eC (.int 0)) (avD (e2 dSub (eVar 1) (eC (.int 1))) (avNil)))))) [2]) (aNil))))))) (sRet (mD (eC (.bool false)))) (sNx))
  (sRet (mD (e2 dLt (e2 dIx (eVar 0) (eC (.int 0))) (e2 dIx (eVar 0) (eC (.int 1))))))
def f_is_pair : Fn := runDef [false, false] 3 b_is_pair
def b_check_series : DL.Env → Out :=
  sIf (tNotD (tt1 (eFrz (eCall 2 f_is_series (avD (eVar 0) (avD (eVar 1) (avNil))))))) (sNo) (sNx)
def f_check_series : Fn := runDef [false, false] 2 b_check_series
def b_check_plan : DL.Env → Out :=
  sThen (sDrop (eCall 2 f_check_series (avD (eVar 0) (avD (eC (.int 6)) (avNil)))))
  (sThen (sIf (tOrD (tNotD (tt1 (eIsi .tup (eVar 1)))) (tb1 (e2 dGt (eB bLen (aCons (eVar 1) (aNil))) (eC (.int 15))))) (sNo) (sNx))
  (sThen (sIf (tNotD (tt1 (eB bAll (aCons (eComp (itSeq (eVar 1)) (gN 2) (tYesD) (eFrz (eCall 2 f_is_pair (avD (eVar 2) (avD (eB bLen (aCons (eVar 0) (aNil))) (avNil))))) [2]) (aNil))))) (sNo) (sNx))
  (sIf (tb1 (e2 dLt (eLenDc kT (itSeq (eVar 1)) (gN 2) (tYesD) (eVar 2) (eC (.bool true)) [2]) (eB bLen (aCons (eVar 1) (aNil))))) (sNo) (sNx))))
def f_check_plan : Fn := runDef [false, false] 3 b_check_plan
def b_bad_triples : DL.Env → Out :=
  sThen (sDrop (eCall 2 f_check_plan (avD (eVar 0) (avD (eVar 1) (avNil)))))
  (sThen (sSet 2 (mD (eB bLen (aCons (eVar 0) (aNil)))))
  (sThen (sSet 3 (mLst (aNil)))
  (sThen (sFor (itB bRange1 (aCons (eVar 2) (aNil))) (gN 4) (sFor (itB bRange2 (aCons (e2 dAdd (eVar 4) (eC (.int 1))) (aCons (eVar 2) (aNil)))) (gN 5) (sFor (itB bRange2 (aCons (e2 dAdd (eVar 5) (eC (.int 1))) (aCons (eVar 2) (aNil)))) (gN 6) (sIf (tAndD (tt1 (eFrz (eCall 2 f_is_cycle (avD (eVar 1) (avD (eTup (aCons (eVar 4) (aCons (eVar 5) (aCons (eVar 6) (aNil))))) (avNil)))))) (tb1 (e2 dGt (eFrz (eCall 2 f_median_total (avD (eVar 0) (avD (eTup (aCons (eVar 4) (aCons (eVar 5) (aCons (eVar 6) (aNil))))) (avNil))))) (eB bSum (aCons (e2 dIx (eVar 0) (eC (.int 0))) (aNil)))))) (sDrop (mD (eMt 3 mApp (aCons (eTup (aCons (eVar 4) (aCons (eVar 5) (aCons (eVar 6) (aNil))))) (aNil))))) (sNx)))))
  (sRet (mVar 3)))))
def f_bad_triples : Fn := runDef [false, false] 7 b_bad_triples
def b_is_needless : DL.Env → Out :=
  sRet (mD (eAnd (e2 dNe (eVar 2) (eVar 3)) (eOr (e2 dGe (e2 dIx (eVar 1) (eVar 2)) (e2 dIx (eVar 0) (eVar 2))) (e2 dLe (e2 dIx (eVar 1) (eVar 3)) (e2 dIx (eVar 0) (eVar 3))))))
def f_is_needless : Fn := runDef [false, false, false, false] 4 b_is_needless
def b_is_least : DL.Env → Out :=
  sRet (mD (eNot (eB bAny (aCons (eComp (itB bZip (aCons (eVar 2) (aCons (eVar 3) (aNil)))) (gT 2 (gsC (gN 5) (gsC (gN 4) (gsN)))) (tYesD) (eFrz (eCall 4 f_is_needless (avD (eVar 0) (avD (eVar 1) (avD (eVar 5) (avD (eVar 4) (avNil))))))) [5, 4]) (aNil)))))
def f_is_least : Fn := runDef [false, false, false, false] 6 b_is_least
def b__law_sorted : DL.Env → Out :=
  sThen (sSet 1 (mD (eLst (aNil))))
  (sThen (sFor (itB bRange1 (aCons (eB bLen (aCons (eVar 0) (aNil))) (aNil))) (gN 2) (sSet 1 (mD (e2 dAdd (eVar 1) (eComp (itB bRange1 (aCons (e2 dIx (eVar 0) (eVar 2)) (aNil))) (gN 3) (tYesD) (eVar 2) [3])))))
  (sRet (mD (eB bTup (aCons (eVar 1) (aNil))))))
def f__law_sorted : Fn := runDef [false] 4 b__law_sorted
def b__law_transfer : DL.Env → Out :=
  sRet (mD (eB bSum (aCons (eComp (itB bZip (aCons (eVar 0) (aCons (eVar 1) (aNil)))) (gT 2 (gsC (gN 2) (gsC (gN 3) (gsN)))) (tYesD) (eB bMax (aCons (eC (.int 0)) (aCons (e2 dSub (eVar 2) (eVar 3)) (aNil)))) [2, 3]) (aNil))))
def f__law_transfer : Fn := runDef [false, false] 4 b__law_transfer
def b__law_drawn : DL.Env → Out :=
  sThen (sSet 2 (mList (aCons (eFrz (eCall 1 f__law_sorted (avD (eVar 1) (avNil)))) (aNil))))
  (sThen (sFor (itB bRange1 (aCons (eBO 2 bLen) (aNil))) (gN 3) (sThen (sSet 4 (mD (e2 dAdd (eVar 3) (eFrz (eCall 2 f__law_next (avS 0 (avD (e2 dSub (eBO 2 bLen) (eVar 3)) (avNil))))))))
    (sSwap 2 (eTup (aCons (eIxO 2 (eVar 4)) (aCons (eIxO 2 (eVar 3)) (aNil)))) (eVar 3) (eVar 4))))
  (sRet (mD (eTupO 2))))
def f__law_drawn : Fn := runDef [true, false] 5 b__law_drawn
def b__law_change : DL.Env → Out :=
  sThen (sSet 4 (mList (aCons (eVar 3) (aNil))))
  (sThen (sFor (itB bRange1 (aCons (eB bLen (aCons (eVar 1) (aNil))) (aNil))) (gN 5) (sFor (itB bRange1 (aCons (e2 dSub (e2 dIx (eVar 1) (eVar 5)) (e2 dIx (eVar 2) (eVar 5))) (aNil))) (gN 6) (sThen (sSet 7 (mD (eComp (itB bRange1 (aCons (eBO 4 bLen) (aNil))) (gN 9) (tb1 (e2 dEq (eIxO 4 (eVar 9)) (eVar 5))) (eVar 9) [9])))
      (sThen (sSet 8 (mD (eComp (itB bRange1 (aCons (eB bLen (aCons (eVar 1) (aNil))) (aNil))) (gN 10) (tb1 (e2 dLt (eMt 4 mCnt (aCons (eVar 10) (aNil))) (e2 dIx (eVar 2) (eVar 10)))) (eVar 10) [10])))
      (sSetItem 4 (e2 dIx (eVar 8) (eFrz (eCall 2 f__law_next (avS 0 (avD (eB bLen (aCons (eVar 8) (aNil))) (avNil)))))) (e2 dIx (eVar 7) (eFrz (eCall 2 f__law_next (avS 0 (avD (eB bLen (aCons (eVar 7) (aNil))) (avNil)))))))))))
  (sRet (mD (eTupO 4))))
def f__law_change : Fn := runDef [true, false, false, false] 11 b__law_change
def b_kept_by : DL.Env → Out :=
  sThen (sSet 3 (mLst (aNil)))
  (sThen (sFor (itB bEnum (aCons (eVar 1) (aNil))) (gT 2 (gsC (gN 4) (gsC (gT 2 (gsC (gN 5) (gsC (gN 6) (gsN)))) (gsN)))) (sIf (tt1 (eFrz (eCall 4 f_is_least (avD (e2 dIx (eVar 0) (eVar 5)) (avD (e2 dIx (eVar 0) (eVar 6)) (avD (e2 dIx (eVar 2) (eVar 5)) (avD (e2 dIx (eVar 2) (eVar 6)) (avNil)))))))) (sDrop (mD (eMt 3 mApp (aCons (eVar 4) (aNil))))) (sNx)))
  (sRet (mD (eTupO 3))))
def f_kept_by : Fn := runDef [false, false, false] 7 b_kept_by
def b_is_table : DL.Env → Out :=
  sThen (sIf (tOrD (tNotD (tt1 (eIsi .tup (eVar 1)))) (tb1 (e2 dNe (eB bLen (aCons (eVar 1) (aNil))) (eB bLen (aCons (eVar 0) (aNil)))))) (sRet (mD (eC (.bool false)))) (sNx))
  (sThen (sSet 2 (mD (eB bLen (aCons (e2 dIx (eVar 0) (eC (.int 0))) (aNil)))))
  (sThen (sIf (tNotD (tt1 (eB bAll (aCons (eComp (itSeq (eVar 1)) (gN 4) (tYesD) (eFrz (eCall 3 f_is_assignment (avD (eVar 4) (avD (eVar 2) (avD (eB bSum (aCons (e2 dIx (eVar 0) (eC (.int 0))) (aNil))) (avNil)))))) [4]) (aNil))))) (sRet (mD (eC (.bool false)))) (sNx))
  (sRet (mD (eB bAll (aCons (eComp (itB bZip (aCons (eVar 1) (aCons (eVar 0) (aNil)))) (gT 2 (gsC (gN 4) (gsC (gN 3) (gsN)))) (tYesD) (e2 dEq (eFrz (eCall 2 f_counts_of (avD (eVar 4) (avD (eVar 2) (avNil))))) (eVar 3)) [4, 3]) (aNil)))))))
def f_is_table : Fn := runDef [false, false] 5 b_is_table
def b_check_table : DL.Env → Out :=
  sIf (tNotD (tt1 (eFrz (eCall 2 f_is_table (avD (eVar 0) (avD (eVar 1) (avNil))))))) (sNo) (sNx)
def f_check_table : Fn := runDef [false, false, false] 3 b_check_table
def b_kept_pairs : DL.Env → Out :=
  sThen (sDrop (eCall 2 f_check_plan (avD (eVar 0) (avD (eVar 1) (avNil)))))
  (sThen (sDrop (eCall 3 f_check_table (avD (eVar 0) (avD (eVar 2) (avD (eC (.str "table")) (avNil))))))
  (sRet (mD (eFrz (eCall 3 f_kept_by (avD (eVar 0) (avD (eVar 1) (avD (eVar 2) (avNil)))))))))
def f_kept_pairs : Fn := runDef [false, false, false] 3 b_kept_pairs
end DCos


namespace DCot
open PySem DL DCoo
open DCom hiding b_check_allocation f_check_allocation b_check_assignment f_check_assignment b_check_variants f_check_variants
def b__law_by_lists : DL.Env → Out :=
  sThen (sSet 2 (mNewM))
  (sThen (sFor (itB bRange1 (aCons (eB bLen (aCons (eVar 1) (aNil))) (aNil))) (gN 3) (sFor (itSeq (eSlice (e2 dIx (eVar 0) (eVar 3)) (pNo) (pSome (e2 dIx (eVar 1) (eVar 3))))) (gN 4) (sThen (sIf (tb1 (eInM false 2 (eVar 4))) (sRet (mD (eC (.none)))) (sNx))
      (sPutM 2 (eVar 3) (eVar 4)))))
  (sRet (mD (eB bTup (aCons (eComp (itB bRange1 (aCons (eLenM 2) (aNil))) (gN 4) (tYesD) (eGetM 2 (eVar 4)) [4]) (aNil))))))
def f__law_by_lists : Fn := runDef [false, false] 5 b__law_by_lists
def b__law_is_least : DL.Env → Out :=
  sThen (sSet 3 (mD (eFrz (eCall 2 f__law_transfer (avD (eFrz (eCall 2 f__law_counts (avD (eVar 1) (avD (eVar 0) (avNil))))) (avD (eFrz (eCall 2 f__law_counts (avD (eVar 2) (avD (eVar 0) (avNil))))) (avNil)))))))
  (sRet (mD (e2 dEq (eFrz (eCall 2 f__law_churn (avD (eVar 1) (avD (eVar 2) (avNil))))) (eVar 3))))
def f__law_is_least : Fn := runDef [false, false, false] 4 b__law_is_least
def b__law_order : DL.Env → Out :=
  sThen (sSet 2 (mListRg bRange1 (aOne (eVar 1))))
  (sThen (sSet 3 (mLst (aNil)))
  (sThen (sFor (itB bRange1 (aCons (eVar 1) (aNil))) (gN 4) (sDrop (mD (eMt 3 mApp (aCons (eMt 2 mPopAt (aCons (eFrz (eCall 2 f__law_next (avS 0 (avD (eBO 2 bLen) (avNil))))) (aNil))) (aNil))))))
  (sRet (mD (eVarF 3)))))
def f__law_order : Fn := runDef [true, false] 5 b__law_order
def b_first_unlike : DL.Env → Out :=
  sThen (sFor (itB bRange1 (aCons (eB bLen (aCons (eVar 1) (aNil))) (aNil))) (gN 2) (sFor (itB bRange2 (aCons (e2 dAdd (eVar 2) (eC (.int 1))) (aCons (eB bLen (aCons (eVar 1) (aNil))) (aNil)))) (gN 3) (sIf (tb1 (e2 dIsNot (eFrz (eCall 3 f_first_needless (avD (eVar 0) (avD (e2 dIx (eVar 1) (eVar 2)) (avD (e2 dIx (eVar 1) (eVar 3)) (avNil)))))) (eC (.none)))) (sRet (mD (eTup (aCons (eVar 2) (aCons (eVar 3) (aNil)))))) (sNx))))
  (sRet (mD (eC (.none))))
def f_first_unlike : Fn := runDef [false, false] 4 b_first_unlike
def b_is_table : DL.Env → Out :=
  sThen (sIf (tOrD (tNotD (tt1 (eIsi .tup (eVar 1)))) (tNotD (tb1 (eChain dLe dLe (eC (.int 1)) (eB bLen (aCons (eVar 1) (aNil))) (eC (.int 6)))))) (sRet (mD (eC (.bool false)))) (sNx))
  (sThen (sIf (tOrD (tNotD (tt1 (eIsi .tup (e2 dIx (eVar 1) (eC (.int 0)))))) (tb1 (e2 dGt (eB bLen (aCons (e2 dIx (eVar 1) (eC (.int 0))) (aNil))) (eC (.int 20))))) (sRet (mD (eC (.bool false)))) (sNx))
  (sRet (mD (eB bAll (aCons (eComp (itSeq (eVar 1)) (gN 2) (tYesD) (eFrz (eCall 3 f_is_assignment (avD (eVar 2) (avD (eVar 0) (avD (eB bLen (aCons (e2 dIx (eVar 1) (eC (.int 0))) (aNil))) (avNil)))))) [2]) (aNil))))))
def f_is_table : Fn := runDef [false, false] 3 b_is_table
def b__law_table : DL.Env → Out :=
  sThen (sSet 3 (mD (eComp (itB bRange1 (aCons (eVar 1) (aNil))) (gN 8) (tYesD) (eFrz (eCall 2 f__law_order (avS 0 (avD (eVar 2) (avNil))))) [8])))
  (sThen (sSet 4 (mLst (aNil)))
  (sThen (sFor (itB bRange1 (aCons (eC (.int 12)) (aNil))) (gN 5) (sThen (sSet 6 (mD (eFrz (eCall 3 f__law_shares (avS 0 (avD (eVar 1) (avD (eVar 2) (avNil))))))))
    (sThen (sSet 7 (mD (eFrz (eCall 2 f__law_by_lists (avD (eVar 3) (avD (eVar 6) (avNil)))))))
    (sIf (tAndD (tb1 (e2 dIsNot (eVar 7) (eC (.none)))) (tb1 (e2 dLt (eBO 4 bLen) (eC (.int 6))))) (sDrop (mD (eMt 4 mApp (aCons (eVar 7) (aNil))))) (sNx)))))
  (sThen (sIf (tNotD (ttO 4)) (sDrop (mD (eMt 4 mApp (aCons (eFrz (eCall 3 f__law_assignment (avS 0 (avD (eVar 1) (avD (eVar 2) (avNil)))))) (aNil))))) (sNx))
  (sRet (mD (eB bTup (aCons (eSlice (eVarF 4) (pNo) (pSome (e2 dAdd (eC (.int 1)) (eFrz (eCall 2 f__law_next (avS 0 (avD (eC (.int 6)) (avNil)))))))) (aNil))))))))
def f__law_table : Fn := runDef [true, false, false] 9 b__law_table
def b_check_table : DL.Env → Out :=
  sThen (sDrop (eCall 1 f_check_variants (avD (eVar 0) (avNil))))
  (sIf (tNotD (tt1 (eFrz (eCall 2 f_is_table (avD (eVar 0) (avD (eVar 1) (avNil))))))) (sNo) (sNx))
def f_check_table : Fn := runDef [false, false] 2 b_check_table
def b__law_any_table : DL.Env → Out :=
  sThen (sIf (tb1 (e2 dEq (eFrz (eCall 2 f__law_next (avS 0 (avD (eC (.int 2)) (avNil))))) (eC (.int 0)))) (sRet (mD (eFrz (eCall 3 f__law_table (avS 0 (avD (eVar 1) (avD (eVar 2) (avNil)))))))) (sNx))
  (sThen (sSet 3 (mLst (aCons (eFrz (eCall 3 f__law_assignment (avS 0 (avD (eVar 1) (avD (eVar 2) (avNil)))))) (aNil))))
  (sThen (sFor (itB bRange1 (aCons (eFrz (eCall 2 f__law_next (avS 0 (avD (eC (.int 6)) (avNil))))) (aNil))) (gN 4) (sThen (sSet 5 (mList (aCons (eIxO 3 (e1 dNeg (eC (.int 1)))) (aNil))))
    (sThen (sFor (itB bRange1 (aCons (e2 dAdd (eC (.int 1)) (eFrz (eCall 2 f__law_next (avS 0 (avD (eC (.int 2)) (avNil)))))) (aNil))) (gN 6) (sIf (tb1 (e2 dGt (eVar 2) (eC (.int 0)))) (sSetItem 5 (eFrz (eCall 2 f__law_next (avS 0 (avD (eVar 1) (avNil))))) (eFrz (eCall 2 f__law_next (avS 0 (avD (eVar 2) (avNil)))))) (sNx)))
    (sDrop (mD (eMt 3 mApp (aCons (eTupO 5) (aNil))))))))
  (sRet (mD (eTupO 3)))))
def f__law_any_table : Fn := runDef [true, false, false] 7 b__law_any_table
def b_unlike_pair : DL.Env → Out :=
  sThen (sDrop (eCall 2 f_check_table (avD (eVar 0) (avD (eVar 1) (avNil)))))
  (sRet (mD (eFrz (eCall 2 f_first_unlike (avD (eVar 0) (avD (eVar 1) (avNil)))))))
def f_unlike_pair : Fn := runDef [false, false] 2 b_unlike_pair
end DCot


namespace DL
open PySem PySem.Spec PyProof.Rows L2
/-! a table by tuples of ints that a name holds: `t = {key: val for ..}`, `x in t` -/
section
variable {X : Cx} {C : Cc} {K : PySem.W.Frag}
theorem keyH_int (w w' : World) (i : Int) : keyH w (.inl i) = keyH w' (.inl i) := rfl
theorem tupH_int (P P' : Program) (w w' : World) (ns : List Int) : (tupleKind (mixKind P w)).hash (ns.map Sum.inl) = (tupleKind (mixKind P' w')).hash (ns.map Sum.inl) := by
  show tupleKeyHash (mixKind P w) _ = tupleKeyHash (mixKind P' w') _
  unfold tupleKeyHash
  rw [List.map_map, List.map_map]
  rfl
/-- a table by ints looks the same in every world -/
theorem dicT0_of {P : Program} {w : World} {a : Addr} {as : List (List Key × Addr)} {ks : List (List Int)} {h : Heap} (e : as.map (·.1) = ks.map (fun ns => ns.map Sum.inl)) (q : DicT P w a as h) (P' : Program) (w' : World) : DicT0 P' w' a as h := by
  obtain ⟨q0, xs, o, es, ep, q1, q2, q3, q4, q5, q6⟩ := q
  refine ⟨q0, xs, o, es, ep, q1, q2, q3, q4, ?_, q6⟩
  rw [q5]
  refine List.map_congr_left fun x hx => ?_
  have hm : x.1 ∈ as.map (·.1) := by
    rw [← q1, List.map_map]
    exact List.mem_map.2 ⟨x, hx, rfl⟩
  rw [e] at hm
  obtain ⟨ns, _, hn⟩ := List.mem_map.1 hm
  obtain ⟨k, b, v⟩ := x
  have hn : ns.map Sum.inl = k := hn
  subst hn
  show DictEntry.mk _ _ _ = DictEntry.mk _ _ _
  rw [tupH_int P P' w w' ns]
/-- the slot of such a table -/
def slotFk (env : Env) (i : Nat) : Option (List (List Int)) := match env[i]? with
  | some (some (.fk x)) => some x
  | _ => none
theorem slot_fk {H : Hp} {ow : Ow} {σ : L2.St} {env : Env} {i : Nat} {x : List (List Int)} (P : RpE K C H ow σ env) (e : slotFk env i = some x) :
    ∃ a as φ, σ[i]? = some (some (.ref a)) ∧ H a = some (.ext φ) ∧ (∀ h, φ h → ∀ P w, DicT0 P w a as h) ∧ as.map (·.1) = x.map (fun ns => ns.map Sum.inl) ∧ (∀ y ∈ as, FT K H ow y.2 (y.1.map kV)) ∧ x.length ≤ 16777216 := by
  unfold slotFk at e
  split at e
  · rename_i y h
    cases e
    obtain ⟨v, fp, h1, h2, h3, h4⟩ := P.sl i _ h
    cases h2 with
    | fk q1 q0 q3 q4 q5 qz => exact ⟨_, _, _, h1, q1, q3, q4, q5, qz⟩
  · cases e
/-! x in t -/
def eInFk (n : Bool) (i : Nat) (t : Env → Rs PyData) : Env → Rs PyData := fun env => (t env).bind fun x e => match slotFk e i, kT x with
  | some ks, some k => .ok (.bool (xor n (ks.any fun y => decide (y = k)))) e
  | _, _ => .no
def rFk (P : Program) (w : World) (K : PySem.W.Frag) (n : Bool) : R2 := fun x y H Q => ∃ a b as k φ, x = .ref b ∧ y = .ref a ∧ SqT K H b (k.map kV) ∧ H a = some (.ext φ) ∧ (∀ h, φ h → DicT0 P w a as h) ∧ (∀ x ∈ as, SqT K H x.2 (x.1.map kV)) ∧
  Q (.bl (xor n (as.any fun y => decide (y.1 = k)))) H
theorem atKey_any {κ : Type} [DecidableEq κ] (k : κ) : ∀ xs : List (κ × Addr × Value), (atKey xs k).isSome = (xs.map fun x => (x.1, x.2.1)).any fun x => decide (x.1 = k) := by
  intro xs
  unfold atKey
  rw [Option.isSome_map, List.any_map]
  induction xs with
  | nil => rfl
  | cons x r ih =>
    rw [List.find?_cons, List.any_cons]
    show _ = (decide (x.1 = k) || _)
    cases hd : decide (x.1 = k) with
    | true => rfl
    | false => rw [Bool.false_or]; exact ih
theorem fk_dict {pps : List (Addr × Obj)} {σ : L2.St} {H : Hp} {s : Shared} (I : Inv X pps σ H s) {a : Addr} {as : List (List Key × Addr)} {φ : Heap → Prop} (e : H a = some (.ext φ)) (hφ : ∀ h, φ h → DicT0 X.prog X.w a as h) (ha : ∀ x ∈ as, SqT X.K H x.2 (x.1.map kV)) :
    (a == sysModules) = false ∧ ∃ xs, xs.map (fun x => (x.1, x.2.1)) = as ∧ s.heap.DictOfH (TK X.prog X.w) a xs := by
  obtain ⟨q, _⟩ := (show ObjOk X.prog X.w H s.heap a (.ext φ) from I.hok a _ e)
  obtain ⟨a0, xs, o, es, ep, e1, g, c1, c2, c3, c4⟩ := hφ _ q
  refine ⟨a0, xs, e1, o, es, ep, g, c1, c2, c3, fun x hx => ?_, c4⟩
  have := ha (x.1, x.2.1) (by rw [← e1]; exact List.mem_map.mpr ⟨x, hx, rfl⟩)
  exact is_key I this
theorem op_inFk (hu : X.A.units + 65 < cLine) : OpR X (compareOp .In) (rFk X.prog X.w X.K false) := by
  intro pins s σ H x y v u Q I rx ry h
  obtain ⟨a, b, as, k, φ, rfl, rfl, hb, e, hφ, ha, q⟩ := h
  obtain rfl : v = Value.ref b := rx
  obtain rfl : u = Value.ref a := ry
  obtain ⟨hd, xs, e1, dd⟩ := fk_dict I e hφ ha
  refine wpAny_in_heap (tupleKind_room_in1 (by omega)) (is_key I hb) hd dd ?_
  refine ⟨.bl _, H, I.tok _, rfl, ?_⟩
  rw [atKey_any, e1]
  rw [Bool.false_xor] at q
  exact q
theorem op_notInFk (hu : X.A.units + 65 < cLine) : OpR X (compareOp .NotIn) (rFk X.prog X.w X.K true) := by
  intro pins s σ H x y v u Q I rx ry h
  obtain ⟨a, b, as, k, φ, rfl, rfl, hb, e, hφ, ha, q⟩ := h
  obtain rfl : v = Value.ref b := rx
  obtain rfl : u = Value.ref a := ry
  obtain ⟨hd, xs, e1, dd⟩ := fk_dict I e hφ ha
  refine wpAny_notIn_heap (tupleKind_room_in1 (by omega)) (is_key I hb) hd dd ?_
  refine ⟨.bl _, H, I.tok _, rfl, ?_⟩
  rw [atKey_any, e1]
  rw [Bool.true_xor] at q
  exact q
theorem inj_inl : ∀ {x y : List Int}, x.map (Sum.inl : Int → Key) = y.map Sum.inl → x = y
  | [], [], _ => rfl
  | [], _ :: _, h => by cases h
  | _ :: _, [], h => by cases h
  | p :: r, q :: t, h => by
    injection h with h1 h2
    cases h1
    rw [inj_inl h2]
theorem rd_inFk {n : Bool} {i : Nat} {t : Env → Rs PyData} {σ : L2.St} {H : Hp} {Q : VK} (h : rd K C (RE K) (eInFk n i t) σ H Q) (P : Program) (w : World) : tOp (rFk P w K n) (rd K C (RE K) t) (tVar i) σ H Q := by
  refine rd_one (R1 := RE K) h fun v x H ow env hv P0 h => ?_
  cases hs : slotFk env i with
  | none => rw [hs] at h; exact h.elim
  | some ks =>
    cases hk : kT x with
    | none => rw [hs, hk] at h; exact h.elim
    | some k =>
      rw [hs, hk] at h
      obtain ⟨a, as, φ, h1, h2, h3, h4, h5, hz⟩ := slot_fk P0 hs
      cases x with
      | tuple ds =>
        have e := kIs_some (show kIs ds = some k from hk)
        subst e
        cases hv with
        | @tup p xs _ f1 f2 fz =>
          rw [dvs_ints f2, ← kV_ints] at f1
          refine ⟨.ref a, h1, a, p, as, k.map mixK, φ, rfl, rfl, f1.sq, h2, fun hh hq => h3 hh hq P w, fun x hx => (h5 x hx).sq, ?_⟩
          have ea : (as.any fun y => decide (y.1 = k.map mixK)) = (as.map (·.1)).any fun x => decide (x = k.map mixK) := by rw [List.any_map]; rfl
          rw [ea, h4, show (ks.map fun ns => ns.map Sum.inl) = ks.map (fun ns => ns.map mixK) from rfl, any_conv (fun ns : List Int => ns.map mixK) (fun x y h => inj_inl h) k ks]
          exact h _ H ow Ext.refl (.bl _) P0
      | _ => cases hk
variable {a b : Expr} {i : Nat} {t : Env → Rs PyData} {pos : Pos}
theorem de_inFk (hu : X.A.units + 65 < cLine) (ha : DE X C a t) (hb : PE X b (tVar i)) (hm : behindInMarks .In b = false := by first | exact nobehind _ (by decide) (by decide) | rfl) : DE X C (.Compare a [.In] [b] pos) (eInFk false i t) :=
  PEweak (pe_cmpR (op_inFk hu) ha hb hm) fun σ H Q h => rd_inFk h _ _
theorem de_notInFk (hu : X.A.units + 65 < cLine) (ha : DE X C a t) (hb : PE X b (tVar i)) (hm : behindInMarks .NotIn b = false := by first | exact nobehind _ (by decide) (by decide) | rfl) : DE X C (.Compare a [.NotIn] [b] pos) (eInFk true i t) :=
  PEweak (pe_cmpR (op_notInFk hu) ha hb hm) fun σ H Q h => rd_inFk h _ _
theorem dt_inFk (hu : X.A.units + 65 < cLine) (ha : DE X C a t) (hb : PE X b (tVar i)) (hm : behindInMarks .In b = false := by first | exact nobehind _ (by decide) (by decide) | rfl) : DT X C (.Compare a [.In] [b] pos) (tb1 (eInFk false i t)) :=
  PTweak (pt_cmpR (op_inFk hu) ha hb hm) fun σ H Q h => rd_inFk (rd_tb h) _ _
theorem dt_notInFk (hu : X.A.units + 65 < cLine) (ha : DE X C a t) (hb : PE X b (tVar i)) (hm : behindInMarks .NotIn b = false := by first | exact nobehind _ (by decide) (by decide) | rfl) : DT X C (.Compare a [.NotIn] [b] pos) (tb1 (eInFk true i t)) :=
  PTweak (pt_cmpR (op_notInFk hu) ha hb hm) fun σ H Q h => rd_inFk (rd_tb h) _ _
end
/-! t = {key: val for ..} -/
section
variable {X : Cx} {C : Cc} {K : PySem.W.Frag} {it : Env → Rs (List PyData)} {g : PyData → Env → Option Env} {tt : Env → Rs Bool} {tk tv : Env → Rs PyData} {vs ts : List Nat} {κ : Type} [DecidableEq κ] {kf : PyData → Option κ} {o0 : Addr → HO} {Pt : Addr → Hp → V → V → Hp → Prop} {P : Program} {w : World}
theorem rd_dcM {α : Type} {R : Hp → Ow → V → α → Prop} {kk : List κ → α} (B : Tabs K P w κ kf o0 Pt) (hts : ∀ i ∈ ts, i ∈ vs) (hio : IoFreeAll C vs)
    (hk : ∀ (H : Hp) (ow : Ow) (D : Addr) (ks : List κ), B.T H ow D ks → ow D = some (C.N + 1) → ks.length ≤ 16777216 → ∃ o : Option Nat, (o = none ∨ o = some C.N) ∧ R H (fun a => if a = D then o else ow a) (.ref D) (kk ks))
    {σ : L2.St} {H : Hp} {Q : VK} (h : rd K C R (fun env => (eComp0 it g tt (eKey kf tk tv) vs env).bind fun r e => .ok (kk (dcK kf r)) e) σ H Q) :
    tDg o0 Pt (rd K C (RI K) it) (rdG K C.blk ts g) (rd K C.blk RT tt) (rd K C.blk (RE K) tk) (rd K C.blk (RE K) tv) vs σ H Q := by
  obtain ⟨env, ow, P0, h⟩ := h
  have h : rdAt K C R σ H ow Q ((it env).bind fun ds e => (compR vs e (compGo g tt (eKey kf tk tv) vs ds [] (wipeE e vs))).bind fun r e => .ok (kk (dcK kf r)) e) := by
    have e : (eComp0 it g tt (eKey kf tk tv) vs env).bind (fun r e => Rs.ok (kk (dcK kf r)) e) = ((it env).bind fun ds e => (compR vs e (compGo g tt (eKey kf tk tv) vs ds [] (wipeE e vs))).bind fun r e => .ok (kk (dcK kf r)) e) := by
      unfold eComp0
      cases it env <;> rfl
    rw [← e]; exact h
  refine ⟨env, ow, P0, rdAt_mono (rdAt_bind (R1 := RI K) h) fun J H1 ⟨ds, e1, ow1, X1, ⟨G, W, hG⟩, P1, h1⟩ => fun D hD => ?_⟩
  have grD : Gr H1 ow1 (upd H1 D (o0 D)) (give ow1 D (C.N + 1)) := Gr.newG hD
  have start : compGo g tt (eKey kf tk tv) vs (ds.drop 0) [] (wipeE e1 vs) = compGo g tt (eKey kf tk tv) vs ds [] (wipeE e1 vs) := by rw [List.drop_zero]
  generalize compGo g tt (eKey kf tk tv) vs ds [] (wipeE e1 vs) = rr at h1 start
  have okc : Ex0 rr := by
    cases rr with
    | ok _ _ => trivial
    | ex _ _ => exact h1.elim
    | no => exact h1.elim
  let Pv : Nat → Hp → Prop := fun i H2 => ∃ acc env2 ow2, B.T H2 ow2 D (dcK kf acc) ∧ ow2 D = some (C.N + 1) ∧ acc.length ≤ i ∧ G H2 ow2 ∧ Ext C.N H1 ow1 H2 ow2 ∧ RpE K C.blk H2 ow2 (wipe σ vs) env2 ∧
    compGo g tt (eKey kf tk tv) vs (ds.drop i) acc env2 = rr
  refine dg_it (n := ds.length) (G := fun H => ∃ ow, G H ow) (Y := fun i H x H' => ∀ ow, G H ow → ∃ ow' d, ds[i]? = some d ∧ Gr H ow H' ow' ∧ DV K H' ow' x d)
    ⟨fun i H hi ⟨ow, q⟩ => W.goes i H ow hi q, fun H ⟨ow, q⟩ => W.stops H ow q, fun i H x H' hi ⟨ow, q⟩ y ow' q' => W.yields i H ow' x H' hi q' y⟩ Pv ?_ ?_ ?_ ?_
  · exact ⟨[], wipeE e1 vs, _, B.t0 _ _ _, give_same, Nat.zero_le _, W.st _ _ _ _ hG grD.stay, grD.ext, ((P1.gr grD).wipe hio).blk, start⟩
  · rintro i H2 _ ⟨acc, env2, ow2, _, _, _, q, _⟩
    exact ⟨ow2, q⟩
  · rintro i x H2 H3 hi ⟨acc, env2, ow2, a1, a2, a4, a5, a6, a7, a8⟩ y
    obtain ⟨ow3, d, e2, g3, d3⟩ := y ow2 a5
    have hd : ds.drop i = d :: ds.drop (i + 1) := by
      have hl : i < ds.length := hi
      rw [List.drop_eq_getElem_cons hl]
      rw [List.getElem?_eq_getElem hl] at e2
      cases e2; rfl
    rw [hd, compGo] at a8
    have P3 := a7.gr g3
    refine ⟨env2, ow3, d, P3, d3, ?_⟩
    cases e3 : g d env2 with
    | none => rw [e3] at a8; rw [← a8] at okc; exact okc.elim
    | some env3 =>
      rw [e3] at a8
      replace a8 : ((tt env3).bind fun b e2 => if b = true then (eKey kf tk tv e2).bind fun y e3 => compGo g tt (eKey kf tk tv) vs (ds.drop (i + 1)) (acc ++ [y]) (wipeE e3 vs) else compGo g tt (eKey kf tk tv) vs (ds.drop (i + 1)) acc (wipeE e2 vs)) = rr := a8
      intro σ2 hσ P4
      have hw : wipe σ2 vs = wipe σ vs := by
        rw [wipe_eq (σ := wipe σ vs) (σ2 := σ2) (P4.lenS.trans P3.lenS.symm) fun j hj => hσ j fun z => hj (hts j z)]
        exact wipe_eq (wipe_length _ _) fun j hj => wipe_out hj
      refine ⟨hw, env3, ow3, P4, ?_⟩
      obtain ⟨oD, hoD⟩ := B.at' _ _ _ _ a1
      have bD3 := g3 D _ hoD
      have t3 : B.T H3 ow3 D (dcK kf acc) := B.st _ _ _ _ _ _ a1 (bD3.1.trans hoD.symm) g3.stay
      have X3 : Ext C.N H1 ow1 H3 ow3 := a6.trans g3.ext
      cases e4 : tt env3 with
      | no => rw [e4] at a8; rw [← a8] at okc; exact okc.elim
      | ex x e => rw [e4] at a8; rw [← a8] at okc; exact okc.elim
      | ok b env4 =>
        rw [e4] at a8
        intro b' H5 ow5 X5 eb P5
        subst eb
        have bD5 := X5 D _ bD3.1 (fun j z => by rw [bD3.2, a2] at z; have := Option.some.inj z; show C.N < j; omega)
        have t5 : B.T H5 ow5 D (dcK kf acc) := B.st _ _ _ _ _ _ t3 (bD5.1.trans bD3.1.symm) X5.stay
        have o5 : ow5 D = some (C.N + 1) := bD5.2.trans (bD3.2.trans a2)
        have G5 : G H5 ow5 := W.st _ _ _ _ (W.st _ _ _ _ a5 g3.stay) X5.stay
        cases b' with
        | false =>
          refine iteF ⟨acc, wipeE env4 vs, ow5, t5, o5, by omega, G5, X3.trans X5, ?_, ?_⟩
          · have := P5.wipe (vs := vs) (fun j hj => hio j hj)
            rw [hw] at this
            exact this
          · exact a8
        | true =>
          refine iteT ⟨env4, ow5, P5, ?_⟩
          cases e5 : tk env4 with
          | no => simp only [Rs.bind_ok, if_true, eKey, e5, Rs.bind_no] at a8; rw [← a8] at okc; exact okc.elim
          | ex x e => simp only [Rs.bind_ok, if_true, eKey, e5, Rs.bind_ex] at a8; rw [← a8] at okc; exact okc.elim
          | ok yd env5 =>
            simp only [Rs.bind_ok, if_true, eKey, e5] at a8
            intro yv H6 ow6 X6 dy P6
            have bD6 := X6 D _ bD5.1 (fun j z => by rw [o5] at z; have := Option.some.inj z; show C.N < j; omega)
            have t6 : B.T H6 ow6 D (dcK kf acc) := B.st _ _ _ _ _ _ t5 (bD6.1.trans bD5.1.symm) X6.stay
            have o6 : ow6 D = some (C.N + 1) := bD6.2.trans o5
            refine ⟨env5, ow6, P6, ?_⟩
            cases e6 : tv env5 with
            | no => simp only [e6, Rs.bind_no] at a8; rw [← a8] at okc; exact okc.elim
            | ex x e => simp only [e6, Rs.bind_ex] at a8; rw [← a8] at okc; exact okc.elim
            | ok zd env6 =>
              simp only [Rs.bind_ok, e6] at a8
              intro zv H7 ow7 X7 dz P7
              have bD7 := X7 D _ bD6.1 (fun j z => by rw [o6] at z; have := Option.some.inj z; show C.N < j; omega)
              have t7 : B.T H7 ow7 D (dcK kf acc) := B.st _ _ _ _ _ _ t6 (bD7.1.trans bD6.1.symm) X7.stay
              have o7 : ow7 D = some (C.N + 1) := bD7.2.trans o6
              have lenA := W.len
              cases hkd : kf yd with
              | none => rw [hkd] at a8; rw [← a8] at okc; exact okc.elim
              | some k =>
                rw [hkd] at a8
                have a8 : compGo g tt (eKey kf tk tv) vs (ds.drop (i + 1)) (acc ++ [yd]) (wipeE env6 vs) = rr := a8
                have hl := dcK_le kf acc
                obtain ⟨o, hp, t8⟩ := B.put H7 ow7 D (dcK kf acc) yv zv yd k t7 (dy.stay X7.stay) hkd (by omega) ⟨_, o7⟩
                have st7 : Stay H7 ow7 (upd H7 D o) ow7 := fun a q h h' => ⟨by rw [upd_ne (fun z => by rw [z, o7] at h'; cases h')]; exact h, h'⟩
                refine ⟨_, hp, acc ++ [yd], wipeE env6 vs, ow7, ?_, o7, ?_, ?_, ?_, ?_, a8⟩
                · rw [dcK_snoc hkd]; exact t8
                · rw [List.length_append, List.length_singleton]; omega
                · exact W.st _ _ _ _ (W.st _ _ _ _ (W.st _ _ _ _ G5 X6.stay) X7.stay) st7
                · intro a q h h'
                  obtain ⟨p, r⟩ := (((X3.trans X5).trans X6).trans X7) a q h h'
                  exact ⟨by rw [upd_ne (ne_of_none h hD)]; exact p, r⟩
                · have := P7.wipe (vs := vs) (fun j hj => hio j hj)
                  rw [hw] at this
                  refine this.other fun a q h h' => ⟨?_, rfl⟩
                  rw [upd_ne fun z => ?_]
                  · exact h
                  · have := h' _ (by rw [z]; exact o7)
                    change C.N + 1 < C.N at this
                    omega
  · rintro H2 ⟨acc, env2, ow2, a1, a2, a4, a5, a6, a7, a8⟩
    rw [List.drop_length, compGo] at a8
    subst a8
    have hl := dcK_le kf acc
    have lenA := W.len
    obtain ⟨o, ho, hR⟩ := hk H2 ow2 D _ a1 a2 (by omega)
    have X2 : Ext C.N H1 ow1 H2 (fun a => if a = D then o else ow2 a) := fun a u h h' => by
      obtain ⟨p, q⟩ := a6 a u h h'
      exact ⟨p, (if_neg (ne_of_none h hD)).trans q⟩
    refine h1 _ H2 _ X2 hR (RpE.rest P1 X2.stay ?_)
    refine a7.unblk.other fun a u h h' => ⟨h, if_neg fun z => ?_⟩
    have := h' _ (by rw [z]; exact a2)
    omega
/-- the table, one that a name holds -/
def mDcT (it : Env → Rs (List PyData)) (g : PyData → Env → Option Env) (tt : Env → Rs Bool) (tk tv : Env → Rs PyData) (vs : List Nat) : Env → Rs M := fun env =>
  (eComp0 it g tt (eKey kT tk tv) vs env).bind fun r e => .ok (.fk (dcK kT r)) e
theorem hk_fk {N : Nat} (H : Hp) (ow : Ow) (D : Addr) (ks : List (List Int)) (h : (tabsT K P w).T H ow D ks) (ho : ow D = some (N + 1)) (hz : ks.length ≤ 16777216) :
    ∃ o : Option Nat, (o = none ∨ o = some N) ∧ RM K N H (fun a => if a = D then o else ow a) (.ref D) (.fk ks) := by
  obtain ⟨as, a, b, c⟩ := h
  refine ⟨none, .inl rfl, [], .fk a (if_pos rfl) (fun h q P' w' => dicT0_of b q P' w') b (fun x hx => (c x hx).stay fun p o h h' => ⟨h, ?_⟩) hz, by simp, fun p hp => by cases hp⟩
  show (if p = D then none else ow p) = none
  split
  · rfl
  · exact h'
variable {kx vx tg iter : Expr} {ifs : List Expr} {scope : Scope} {own : List (Str × Nat)} {pos : Pos}
theorem sw_trueD {gs : List Comprehension} {pos py : Pos} {y : Str} {l : Nat} {env : PySem.Env} (hk : env.scope.kind = .function) (hy : env.scope.names.lookup y = some .local) (hl : (py.line == pos.line) = true)
    (ha : (scope.names.any fun (n, k) => n == y && (k == .local || k == .cell)) = false) : swapsWith (.DictComp kx vx gs scope pos) (some (.Name y py)) l env = pure true := by
  have ky : env.kindOf y = some .local := hy
  have hb : env.blockKind = .function := by unfold PySem.Env.blockKind; rw [hk]; rfl
  unfold swapsWith
  simp only [hb, ky, ha, Expr.pos, hl]
  rfl
theorem ps_setDc {i : Nat} {y : Str} {py : Pos} {spos : Pos} {wi : TI} {g : TG} {tt : TT} {tk tv : TE} (hO : ∀ (H : Hp) (h : Heap), sysModules < h.objs.size → ObjOk X.prog X.w H (h.push { cls := .type "dict", data := .dict #[] }) h.objs.size (o0 h.objs.size)) (hP : ∀ (s : Shared) (H : Hp) (Dk : Addr) (cl : List (Str × Addr)) (fp : List Addr), PutOk (X.blk s H scope (compEnvC scope cl Dk X.env) fp) Pt)
    (hc : X.calm = true) (hN : X.N.Nodup) (hy : X.N[i]? = some y) (hyl : X.env.scope.names.lookup y = some .local)
    (hsw : swapsWith (.DictComp kx vx [⟨tg, iter, ifs, 0⟩] scope pos) (some (.Name y py)) spos.line X.env = pure true) (hi : PI X tg iter wi) (ok : BlkOk X.N X.env.scope scope own)
    (hg : ∀ (s : Shared) (H : Hp) (C : Addr) (cl : List (Str × Addr)) (fp : List Addr), PG (X.blk s H scope (compEnvC scope cl C X.env) fp) tg g) (ht : ∀ (s : Shared) (H : Hp) (C : Addr) (cl : List (Str × Addr)) (fp : List Addr), PTs (X.blk s H scope (compEnvC scope cl C X.env) fp) ifs tt)
    (hk : ∀ (s : Shared) (H : Hp) (C : Addr) (cl : List (Str × Addr)) (fp : List Addr), PE (X.blk s H scope (compEnvC scope cl C X.env) fp) kx tk)
    (he : ∀ (s : Shared) (H : Hp) (C : Addr) (cl : List (Str × Addr)) (fp : List Addr), PE (X.blk s H scope (compEnvC scope cl C X.env) fp) vx tv) (hs : ∀ x, foldedSetIterable iter X.env x = pure x := by intro _; rfl) :
    PS X (.Assign [.Name y py] (.DictComp kx vx [⟨tg, iter, ifs, 0⟩] scope pos) spos) (tAsg (tDg o0 Pt wi g tt tk tv (own.map (·.2))) (gName i)) := by
  refine ⟨fun pins s σ H D I h => ?_⟩
  rw [exec_Assign_Name_used _ _ _ _ hsw]
  refine wpAny_bind (wpAny_standAt (wpAny_bind ?_))
  show wpAny _ X.A (do let _ ← comprehension (.DictComp kx vx [⟨tg, iter, ifs, 0⟩] scope pos) scope X.env (firstIterPos [⟨tg, iter, ifs, 0⟩] pos) newDict false (eval iter X.env) (some (assign (.Name y py) X.env))) _ _ s
  have h : tDg o0 Pt wi g tt tk tv (own.map (·.2)) σ H (fun x H1 => gName i x σ H1 D.nx) := h
  refine wpAny_bind (thn (dg_core (Qf := fun _ s' => SP X pins D .next s') hO hP hc hN I hi ok hg ht hk he hs h fun L C s' m H' I' q hn f => ?_) fun _ s' hq => wpAny_pure (wpAny_pure hq))
  show wpAny _ _ (assign (.Name y py) X.env (.ref L)) _ _ _
  refine wpAny_assign_Name (store_ok2 (v := V.ref L) I' hN hy (.inl hyl) rfl (fun s2 I2 ⟨a, sb, ha⟩ => ?_) (.inr hyl))
  obtain ⟨f0, f1, f2, f3, f4, f5⟩ := f
  have haC : C ≠ a := by
    rcases ha with z | z
    · rw [z]; exact f1
    · exact fun e => f4 y a z e.symm
  refine ⟨m, hn.sameBut sb haC, fun h3 sb3 => ?_⟩
  exact ⟨_, H', I2.turned (t' := s2.toks) (fun b o hb e => (sb3.2 b hb).trans e) f0 f1 f3 f4 f5, q⟩
theorem ds_setDcT {i : Nat} {y : Str} {py : Pos} {spos : Pos} (hu : X.A.units + 65 < cLine)
    (hc : X.calm = true) (hN : X.N.Nodup) (hy : X.N[i]? = some y) (hyl : X.env.scope.names.lookup y = some .local) (hsw : swapsWith (.DictComp kx vx [⟨tg, iter, ifs, 0⟩] scope pos) (some (.Name y py)) spos.line X.env = pure true)
    (hi : DI X C tg iter it) (ok : BlkOk X.N X.env.scope scope own)
    (hg : ∀ (s : Shared) (H : Hp) (D : Addr) (cl : List (Str × Addr)) (fp : List Addr), DG (Blk X s H scope D cl fp) C.blk tg ts g) (ht : ∀ (s : Shared) (H : Hp) (D : Addr) (cl : List (Str × Addr)) (fp : List Addr), DTs (Blk X s H scope D cl fp) C.blk ifs tt)
    (hk : ∀ (s : Shared) (H : Hp) (D : Addr) (cl : List (Str × Addr)) (fp : List Addr), DE (Blk X s H scope D cl fp) C.blk kx tk) (hv : ∀ (s : Shared) (H : Hp) (D : Addr) (cl : List (Str × Addr)) (fp : List Addr), DE (Blk X s H scope D cl fp) C.blk vx tv)
    (hts : ∀ i ∈ ts, i ∈ vs) (hio : IoFreeAll C vs) (hioi : IoFree C i) (hs : ∀ x, foldedSetIterable iter X.env x = pure x := by intro _; rfl) (hvs : own.map (·.2) = vs := by rfl) :
    DS X C (.Assign [.Name y py] (.DictComp kx vx [⟨tg, iter, ifs, 0⟩] scope pos) spos) (sSet i (mDcT it g tt tk tv vs)) := by
  subst hvs
  exact PSweak (ps_setDc (o0 := oT X.prog X.w) (Pt := PtT X.prog X.w X.K) (g := rdG X.K C.blk ts g) (tt := rd X.K C.blk RT tt) (tk := rd X.K C.blk (RE X.K) tk) (tv := rd X.K C.blk (RE X.K) tv) (fun H h hb => oT_new H h hb) (fun s H D cl fp => putOkT (X := X.blk s H scope (compEnvC scope cl D X.env) fp) hu) hc hN hy hyl hsw hi ok hg ht hk hv hs) fun D σ H ⟨env, ow, P, h⟩ =>
    rd_dcM (tabsT X.K X.prog X.w) (kk := M.fk) hts hio hk_fk (out_E (R := RM X.K C.N) P h fun v H1 a e1 ow1 y z q => q _ H1 _ (Ext.reown Ext.refl) (z.setM y hioi))
end
end DL


namespace Lk53
open PySem DL

abbrev b_is_whole := DCom.b_is_whole
abbrev f_is_whole := DCom.f_is_whole
abbrev b_counts_of := DCom.b_counts_of
abbrev f_counts_of := DCom.f_counts_of
def b_given_back : DL.Env → Out :=
  sThen (sSet 2 (mList (aCons (eVar 0) (aNil))))
  (sThen (sSetItem 2 (e2 dAdd (eIxO 2 (eC (.int 0))) (eC (.int 1))) (eC (.int 0)))
  (sThen (sSetItem 2 (e2 dSub (eIxO 2 (eVar 1)) (eC (.int 1))) (eVar 1))
  (sRet (mD (eTupO 2)))))
def f_given_back : Fn := runDef [false, false] 3 b_given_back
abbrev b__law_stream := DCom.b__law_stream
abbrev f__law_stream := DCom.f__law_stream
abbrev b__law_next := DCom.b__law_next
abbrev f__law_next := DCom.f__law_next
abbrev b__law_allocations := DCor.b__law_allocations
abbrev f__law_allocations := DCor.f__law_allocations
abbrev b__law_by_lists := DCor.b__law_by_lists
abbrev f__law_by_lists := DCor.f__law_by_lists
def b__law_first_missing : DL.Env → Out :=
  sThen (sSet 2 (mD (eComp (itSeq (eVar 0)) (gT 2 (gsC (gN 6) (gsC (gN 7) (gsN)))) (tYesD) (eVar 6) [6, 7])))
  (sThen (sFor (itB bRange1 (aCons (eB bLen (aCons (eVar 2) (aNil))) (aNil))) (gN 3) (sFor (itB bRange2 (aCons (eC (.int 1)) (aCons (eVar 1) (aNil)))) (gN 4) (sThen (sSet 5 (mList (aCons (e2 dIx (eVar 2) (eVar 3)) (aNil))))
      (sThen (sSetItem 5 (e2 dAdd (eIxO 5 (eC (.int 0))) (eC (.int 1))) (eC (.int 0)))
      (sThen (sSetItem 5 (e2 dSub (eIxO 5 (eVar 4)) (eC (.int 1))) (eVar 4))
      (sIf (tAndD (tb1 (e2 dGe (eIxO 5 (eVar 4)) (eC (.int 0)))) (tb1 (e2 dNotIn (eTupO 5) (eVar 2)))) (sRet (mD (eTup (aCons (eVar 3) (aCons (eVar 4) (aCons (eTupO 5) (aNil))))))) (sNx)))))))
  (sRet (mD (eC (.none)))))
def f__law_first_missing : Fn := runDef [false, false] 8 b__law_first_missing
abbrev b_is_between := DCom.b_is_between
abbrev f_is_between := DCom.f_is_between
abbrev b_is_allocation := DCom.b_is_allocation
abbrev f_is_allocation := DCom.f_is_allocation
abbrev b__law_shuffled := DCor.b__law_shuffled
abbrev f__law_shuffled := DCor.f__law_shuffled
abbrev b__law_drawn_assignment := DCor.b__law_drawn_assignment
abbrev f__law_drawn_assignment := DCor.f__law_drawn_assignment
def b__law_is_closed : DL.Env → Out :=
  sThen (sSet 3 (mD (eComp (itSeq (eVar 0)) (gT 2 (gsC (gN 4) (gsC (gN 6) (gsN)))) (tYesD) (eVar 4) [4, 6])))
  (sThen (sFor (itSeq (eVar 3)) (gN 4) (sFor (itSeq (eFrz (eCall 2 f__law_allocations (avD (eVar 1) (avD (eVar 2) (avNil)))))) (gN 5) (sIf (tAndD (tb1 (e2 dNotIn (eVar 5) (eVar 3))) (tt1 (eB bAll (aCons (eComp (itB bRange2 (aCons (eC (.int 1)) (aCons (eVar 1) (aNil)))) (gN 7) (tYesD) (e2 dLe (e2 dIx (eVar 5) (eVar 7)) (e2 dIx (eVar 4) (eVar 7))) [7]) (aNil))))) (sRet (mD (eC (.bool false)))) (sNx))))
  (sRet (mD (eC (.bool true)))))
def f__law_is_closed : Fn := runDef [false, false, false] 8 b__law_is_closed
def b__law_spoilt : DL.Env → Out :=
  sThen (sSet 4 (mD (e2 dAdd (eTup (aCons (eVar 3) (aNil))) (e2 dMul (eTup (aCons (eC (.int 0)) (aNil))) (e2 dSub (eVar 2) (eC (.int 1)))))))
  (sThen (sSet 5 (mD (eTup (aCons (eVar 4) (aCons (e2 dMul (eTup (aCons (eC (.int 0)) (aNil))) (eVar 3)) (aNil))))))
  (sThen (sSet 6 (mD (eLst (aCons (eIf (tb1 (e2 dLt (eB bLen (aCons (eVar 1) (aNil))) (eC (.int 19)))) (e2 dAdd (eSlice (eVar 1) (pNo) (pSome (eC (.int 19)))) (eTup (aCons (eVar 5) (aCons (eVar 5) (aNil))))) (eVar 1)) (aCons (e2 dMul (eTup (aCons (eVar 5) (aNil))) (eC (.int 21))) (aCons (eB bList (aCons (eVar 1) (aNil))) (aCons (eTup (aCons (eTup (aCons (eVar 4) (aCons (e2 dMul (eTup (aCons (eC (.int 0)) (aNil))) (e2 dAdd (eVar 3) (eC (.int 1)))) (aNil)))) (aNil))) (aCons (eTup (aCons (eTup (aCons (e2 dAdd (eVar 4) (eTup (aCons (eC (.int 0)) (aNil)))) (aCons (e2 dMul (eTup (aCons (eC (.int 0)) (aNil))) (eVar 3)) (aNil)))) (aNil))) (aCons (eTup (aCons (eTup (aCons (eVar 4) (aCons (e2 dAdd (eTup (aCons (eVar 2) (aNil))) (e2 dMul (eTup (aCons (eC (.int 0)) (aNil))) (eVar 3))) (aNil)))) (aNil))) (aCons (eTup (aCons (eLst (aCons (eVar 4) (aCons (e2 dMul (eTup (aCons (eC (.int 0)) (aNil))) (eVar 3)) (aNil)))) (aNil))) (aCons (eTup (aCons (eTup (aCons (eVar 4) (aNil))) (aNil))) (aCons (eC (.none)) (aNil)))))))))))))
  (sRet (mD (e2 dIx (eVar 6) (eFrz (eCall 2 f__law_next (avS 0 (avD (eB bLen (aCons (eVar 6) (aNil))) (avNil))))))))))
def f__law_spoilt : Fn := runDef [true, false, false, false] 7 b__law_spoilt
abbrev b_is_assignment := DCom.b_is_assignment
abbrev f_is_assignment := DCom.f_is_assignment
abbrev b_check_sizes := DCor.b_check_sizes
abbrev f_check_sizes := DCor.f_check_sizes
abbrev b__law_rule := DCor.b__law_rule
abbrev f__law_rule := DCor.f__law_rule
abbrev b_check_assignment := DCom.b_check_assignment
abbrev f_check_assignment := DCom.f_check_assignment
abbrev b_check_variants := DCom.b_check_variants
abbrev f_check_variants := DCom.f_check_variants
abbrev b_allocation_of := DCom.b_allocation_of
abbrev f_allocation_of := DCom.f_allocation_of
abbrev b_is_pair := DCor.b_is_pair
abbrev f_is_pair := DCor.f_is_pair
abbrev b_are_pairs := DCor.b_are_pairs
abbrev f_are_pairs := DCor.f_are_pairs
def b_is_rule : DL.Env → Out :=
  sThen (sDrop (eCall 2 f_check_sizes (avD (eVar 1) (avD (eVar 2) (avNil)))))
  (sRet (mD (eFrz (eCall 3 f_are_pairs (avD (eVar 0) (avD (eVar 1) (avD (eVar 2) (avNil))))))))
def f_is_rule : Fn := runDef [false, false, false] 3 b_is_rule
abbrev b_check_rule := DCor.b_check_rule
abbrev f_check_rule := DCor.f_check_rule
def b_missing : DL.Env → Out :=
  sThen (sDrop (eCall 3 f_check_rule (avD (eVar 0) (avD (eVar 1) (avD (eVar 2) (avNil))))))
  (sThen (sSet 3 (mDcT (itSeq (eVar 2)) (gT 2 (gsC (gN 6) (gsC (gN 7) (gsN)))) (tYesD) (eVar 6) (eC (.bool true)) [6, 7]))
  (sThen (sFor (itB bEnum (aCons (eVar 2) (aNil))) (gT 2 (gsC (gN 4) (gsC (gT 2 (gsC (gN 6) (gsC (gN 7) (gsN)))) (gsN)))) (sFor (itB bRange2 (aCons (eC (.int 1)) (aCons (eVar 0) (aNil)))) (gN 5) (sIf (tAndD (tb1 (e2 dGt (e2 dIx (eVar 6) (eVar 5)) (eC (.int 0)))) (tb1 (eInFk true 3 (eFrz (eCall 2 f_given_back (avD (eVar 6) (avD (eVar 5) (avNil)))))))) (sRet (mD (eTup (aCons (eVar 4) (aCons (eVar 5) (aCons (eFrz (eCall 2 f_given_back (avD (eVar 6) (avD (eVar 5) (avNil))))) (aNil))))))) (sNx))))
  (sRet (mD (eC (.none))))))
def f_missing : Fn := runDef [false, false, false] 8 b_missing
def b_law : DL.Env → Out :=
  sThen (sSet 1 (eCall 1 f__law_stream (avS 0 (avNil))))
  (sThen (sSet 2 (mD (e2 dAdd (eC (.int 1)) (eFrz (eCall 2 f__law_next (avS 1 (avD (eC (.int 4)) (avNil))))))))
  (sThen (sSet 3 (mD (eFrz (eCall 2 f__law_next (avS 1 (avD (eC (.int 5)) (avNil)))))))
  (sThen (sSet 4 (mD (eFrz (eCall 4 f__law_rule (avS 1 (avD (eVar 2) (avD (eVar 3) (avD (eC (.int 6)) (avNil)))))))))
  (sThen (sIf (tb1 (e2 dIsNot (eFrz (eCall 3 f_is_rule (avD (eVar 4) (avD (eVar 2) (avD (eVar 3) (avNil)))))) (eC (.bool true)))) (sRet (mD (eC (.bool false)))) (sNx))
  (sThen (sIf (tb1 (e2 dIsNot (eFrz (eCall 3 f_is_rule (avD (eFrz (eCall 4 f__law_spoilt (avS 1 (avD (eVar 4) (avD (eVar 2) (avD (eVar 3) (avNil))))))) (avD (eVar 2) (avD (eVar 3) (avNil)))))) (eC (.bool false)))) (sRet (mD (eC (.bool false)))) (sNx))
  (sThen (sSet 5 (mD (eFrz (eCall 2 f__law_first_missing (avD (eVar 4) (avD (eVar 2) (avNil)))))))
  (sThen (sIf (tb1 (e2 dNe (e2 dIs (eVar 5) (eC (.none))) (eFrz (eCall 3 f__law_is_closed (avD (eVar 4) (avD (eVar 2) (avD (eVar 3) (avNil)))))))) (sRet (mD (eC (.bool false)))) (sNx))
  (sRet (mD (e2 dEq (eFrz (eCall 3 f_missing (avD (eVar 2) (avD (eVar 3) (avD (eVar 4) (avNil)))))) (eVar 5)))))))))))
def f_law : Fn := runDef [true] 6 b_law
end Lk53


namespace DL
open PySem
/-! loops that end with an answer -/
def outOf : Option PyData → Env → Out
  | some y, e => .rt (.d y) e
  | none, e => .nx e
theorem outOf_s (y) (e : Env) : outOf (some y) e = .rt (.d y) e := rfl
theorem outOf_n (e : Env) : outOf none e = .nx e := rfl
/-- k slots at least -/
def Sh (k : Nat) (e : Env) : Prop := k ≤ e.length
theorem forGo_find {α : Type} {emb : α → PyData} {g : PyData → Env → Option Env} {body : Env → Out} (l : List α) (res : α → Option PyData) (k : Nat) (St : List α → Env → Prop) (hs : ∀ d e, St d e → Sh k e)
    (step : ∀ d x r e, d ++ x :: r = l → St d e → ∃ e1 e2, g (emb x) e = some e1 ∧ body e1 = outOf (res x) e2 ∧ Sh k e2 ∧ (res x = none → St (d ++ [x]) e2)) : ∀ (r d : List α) (e : Env), d ++ r = l → St d e → ∃ e2, forGo g body (r.map emb) e = outOf (r.findSome? res) e2 ∧ Sh k e2 ∧ (r.findSome? res = none → St l e2)
  | [], d, e, hd, h => ⟨e, forGo_nil .., hs d e h, fun _ => by rw [List.append_nil] at hd; rw [← hd]; exact h⟩
  | x :: r, d, e, hd, h => by
    obtain ⟨e1, e2, h1, h2, h2s, h3⟩ := step d x r e hd h
    cases hr : res x with
    | some y =>
      refine ⟨e2, ?_, h2s, fun z => ?_⟩
      · rw [List.map_cons, forGo_cons, h1, optOut_s, h2, hr, List.findSome?_cons, hr]; rfl
      · rw [List.findSome?_cons, hr] at z; cases z
    | none =>
      obtain ⟨e3, h4, h4s, h5⟩ := forGo_find l res k St hs step r (d ++ [x]) e2 (by rw [List.append_assoc]; exact hd) (h3 hr)
      refine ⟨e3, ?_, h4s, fun z => ?_⟩
      · rw [List.map_cons, forGo_cons, h1, optOut_s, h2, hr, List.findSome?_cons, hr]; exact h4
      · rw [List.findSome?_cons, hr] at z; exact h5 z
/-- the whole loop, the state's shape alone in sight -/
theorem forGo_fnd {α : Type} {emb : α → PyData} {g : PyData → Env → Option Env} {body : Env → Out} (l : List α) (res : α → Option PyData) (k : Nat) (St : Env → Prop) (hs : ∀ e, St e → Sh k e)
    (step : ∀ x ∈ l, ∀ e, St e → ∃ e1 e2, g (emb x) e = some e1 ∧ body e1 = outOf (res x) e2 ∧ Sh k e2 ∧ (res x = none → St e2)) (e : Env) (h : St e) : ∃ e2, forGo g body (l.map emb) e = outOf (l.findSome? res) e2 ∧ Sh k e2 ∧ (l.findSome? res = none → St e2) :=
  forGo_find l res k (fun _ e => St e) (fun _ e h => hs e h) (fun d x r e hd h => step x (by rw [← hd]; simp) e h) l [] e rfl h
theorem outs_2 {e : Env} (h : Sh 2 e) : outs [false, false] e = [none, none] := by
  cases e with
  | nil => exact absurd h (by unfold Sh; simp)
  | cons a e => cases e with
    | nil => exact absurd h (by unfold Sh; simp)
    | cons b e => rfl
theorem outs_3 {e : Env} (h : Sh 3 e) : outs [false, false, false] e = [none, none, none] := by
  cases e with
  | nil => exact absurd h (by unfold Sh; simp)
  | cons a e => cases e with
    | nil => exact absurd h (by unfold Sh; simp)
    | cons b e => cases e with
      | nil => exact absurd h (by unfold Sh; simp)
      | cons c e => rfl
theorem Sh.mono {j k : Nat} {e : Env} (h : Sh k e) (hk : j ≤ k) : Sh j e := Nat.le_trans hk h
theorem outOf_fin (o : Option PyData) (e : Env) (y : PyData) : ((outOf o e).thn fun e => .rt (.d y) e) = .rt (.d (o.getD y)) e := by cases o <;> rfl
theorem outOf_thn (o p : Option PyData) (e e2 : Env) (u : Env → Out) (h : o = none → u e = outOf p e2) : (outOf o e).thn u = outOf (o.or p) (if o.isSome = true then e else e2) := by
  cases o with
  | none => exact h rfl
  | some y => rfl
end DL


namespace DCom
open PySem DL
/-! what the shared defs answer -/
structure Strm where
  ns : List Int
  c : Nat
  k : Nat
def Strm.m (s : Strm) : M := .l [.list (s.ns.map .int), .int s.c, .int s.k]
theorem stream_e (ns : List Int) : f__law_stream [.scr ns] = .rt (Strm.m ⟨ns, 0, 0⟩) [some (.scr ns)] := by
  simp [f__law_stream, b__law_stream, Strm.m]
abbrev nxA : DL.Env → Out := sIf (tb1 (e2 dLt (eVar 4) (e2 dPow (eC (.int 10)) (eC (.int 18))))) (sThen (sSet 4 (mD (e2 dMod (eB bInt (aCons (e2 dAdd (e2 dAdd (e2 dMul (eVar 4) (eC (.int 48271))) (e2 dMul (eVar 3) (eC (.int 69621)))) (eC (.int 11))) (aNil))) (eC (.int 2147483647)))))
      (sSet 4 (mD (e2 dAdd (e2 dMul (e2 dMod (eB bInt (aCons (e2 dAdd (e2 dMul (eVar 4) (eC (.int 16807))) (eC (.int 13))) (aNil))) (eC (.int 2147483647))) (eC (.int 65537))) (eVar 4))))) (sNx)
abbrev nxB : DL.Env → Out := sThen (sSetItem 0 (eVar 4) (eC (.int 1))) (sSetItem 0 (e2 dAdd (eVar 3) (eC (.int 1))) (eC (.int 2)))
abbrev nxC : DL.Env → Out := sThen (sSet 2 (mD (e2 dMod (eB bInt (aCons (eIxO 0 (eC (.int 1))) (aNil))) (eVar 1))))
  (sThen (sSetItem 0 (e2 dDiv (eIxO 0 (eC (.int 1))) (eVar 1)) (eC (.int 1)))
  (sRet (mD (eVar 2))))
theorem nxA_e (a b c : Option M) (k cell : Int) (hcell : 0 ≤ cell) : ∃ c' : Nat, nxA [a, b, c, some (.d (.int k)), some (.d (.int cell))] = .nx [a, b, c, some (.d (.int k)), some (.d (.int c'))] := by
  by_cases h18 : cell < 1000000000000000000
  · have h1 := Int.emod_nonneg (cell * 48271 + k * 69621 + 11) (show (2147483647 : Int) ≠ 0 by omega)
    have h2 := Int.emod_nonneg ((cell * 48271 + k * 69621 + 11) % 2147483647 * 16807 + 13) (show (2147483647 : Int) ≠ 0 by omega)
    have g1 : ∀ i : Int, okM i 48271 = true := fun i => okM_lit _ _ (by omega) (by omega)
    have g2 : ∀ i : Int, okM i 69621 = true := fun i => okM_lit _ _ (by omega) (by omega)
    have g3 : ∀ i : Int, okM i 16807 = true := fun i => okM_lit _ _ (by omega) (by omega)
    have g4 : ∀ i : Int, okM i 65537 = true := fun i => okM_lit _ _ (by omega) (by omega)
    have g5 : (0 : Int) < 2147483647 := by omega
    generalize hx : cell * 48271 + k * 69621 + 11 = x at h1 h2
    generalize hy : x % 2147483647 = y at h1 h2
    generalize hz : (y * 16807 + 13) % 2147483647 = z at h2
    refine ⟨(z * 65537 + y).toNat, ?_⟩
    have e : ((z * 65537 + y).toNat : Int) = z * 65537 + y := Int.toNat_of_nonneg (by omega)
    rw [e]
    simp only [nxA, sIf_eq, sE_eq, tb1_eq, e2_eq, eVar_eq, slotD_0, slotD_s, lift_some, Rs.bind_ok, eC_eq, dPow_10_18, dLt_ii, asB_b, to_ok, h18, decide_true, if_true, sThen_eq, sSet_eq, mD_eq, eB_eq, aCons_eq, aNil_eq, dMul_ii, g1, g2, g3, g4, dAdd_ii, bInt_i, dMod_ii, g5, hx, hy, hz, thn_nx, List.set_cons_succ, List.set_cons_zero]
  · refine ⟨cell.toNat, ?_⟩
    have e : (cell.toNat : Int) = cell := Int.toNat_of_nonneg hcell
    rw [e]
    simp only [nxA, sIf_eq, sE_eq, tb1_eq, e2_eq, eVar_eq, slotD_0, slotD_s, lift_some, Rs.bind_ok, eC_eq, dPow_10_18, dLt_ii, asB_b, to_ok, h18, decide_false, Bool.false_eq_true, if_false, sNx_eq]
theorem nxB_e (L : PyData) (c k k' : Int) (b a : Option M) (c' : Int) : nxB [some (.l [L, .int c, .int k]), b, a, some (.d (.int k')), some (.d (.int c'))] = .nx [some (.l [L, .int c', .int (k' + 1)]), b, a, some (.d (.int k')), some (.d (.int c'))] := by
  simp [nxB, L2.ixN]
theorem nxC_e (L : PyData) (c k m : Int) (b d : Option M) (hm : 0 < m) (hm2 : m < 1073741824) : (nxC [some (.l [L, .int c, .int k]), some (.d (.int m)), none, b, d]).fin [true, false] = .rt (.d (.int (c % m))) [some (.l [L, .int (c / m), .int k]), none] := by
  simp [nxC, L2.ixN, hm, hm2]
def nxZ : DL.Env → Out := sThen nxA nxB
theorem unf : f__law_next = runDef [true, false] 5 (sThen (sIf (tb1 (e2 dEq (eIxO 0 (eC (.int 1))) (eC (.int 0)))) (sThen (sSet 3 (mD (eIxO 0 (eC (.int 2)))))
    (sThen (sSet 4 (mD (e2 dAdd (eC (.int 7)) (eVar 3))))
    (sThen (sIf (tb1 (e2 dLt (eVar 3) (eB bLen (aCons (eIxO 0 (eC (.int 0))) (aNil))))) (sSet 4 (mD (eB bAbs (aCons (e2 dIx (eIxO 0 (eC (.int 0))) (eVar 3)) (aNil))))) (sNx))
    nxZ))) sNx) nxC) := rfl
theorem nxZ_e (a b : Option M) (L : PyData) (c k cell : Int) (hcell : 0 ≤ cell) : ∃ c' : Nat, nxZ [some (M.l [L, .int c, .int k]), b, a, some (.d (.int k)), some (.d (.int cell))] =
      .nx [some (M.l [L, .int c', .int (k + 1)]), b, a, some (.d (.int k)), some (.d (.int c'))] := by
  obtain ⟨c', e⟩ := nxA_e (some (M.l [L, .int c, .int k])) b a k cell hcell
  exact ⟨c', by rw [nxZ, sThen_eq, e, thn_nx, nxB_e]⟩
theorem nxC_f (ns : List Int) (m : Int) (hm : 0 < m) (hm2 : m < 1073741824) (c' k' : Nat) (e3 e4 : Option M) : ∃ d s', Out.fin [true, false] (nxC [some (M.l [PyData.list (ns.map .int), .int c', .int k']), some (.d (.int m)), none, e3, e4]) = .rt (.d (.int d)) [some (Strm.m s'), none] ∧ 0 ≤ d ∧ d < m := by
  refine ⟨c' % m, ⟨ns, (c' / m).toNat, k'⟩, ?_, Int.emod_nonneg _ (by omega), Int.emod_lt_of_pos _ hm⟩
  have hd : ((c' / m : Int).toNat : Int) = c' / m := Int.toNat_of_nonneg (Int.ediv_nonneg (by omega) (by omega))
  rw [nxC_e _ _ _ _ _ _ hm hm2]
  simp only [Strm.m, hd]
theorem next_ex (s : Strm) (m : Int) (hm : 0 < m) (hm2 : m < 1073741824) : ∃ d s', f__law_next [s.m, .d (.int m)] = .rt (.d (.int d)) [some (Strm.m s'), none] ∧ 0 ≤ d ∧ d < m := by
  obtain ⟨ns, c, k⟩ := s
  have fin := nxC_f ns m hm hm2
  rw [unf]
  have key := fun cell h => nxZ_e none (some (.d (.int m))) (PyData.list (ns.map .int)) c k cell h
  generalize nxZ = Z at key ⊢
  generalize nxC = C at fin ⊢
  by_cases hc : (c : Int) = 0
  · by_cases hk : (k : Int) < (ns.length : Int)
    · have hk' : k < ns.length := by omega
      obtain ⟨c', e⟩ := key (if ns[k] < 0 then -ns[k] else ns[k]) (by split <;> omega)
      obtain ⟨d, s', e2, h⟩ := fin c' (k + 1) (some (.d (.int k))) (some (.d (.int c')))
      refine ⟨d, s', ?_, h⟩
      rw [← e2]
      simp only [dlall, Strm.m, hc, hk, List.length_map, beq_self_eq_true, atI_nat, List.getElem?_map, List.getElem?_eq_getElem hk'] at e ⊢
      rw [e]
      rfl
    · obtain ⟨c', e⟩ := key (7 + k) (by omega)
      obtain ⟨d, s', e2, h⟩ := fin c' (k + 1) (some (.d (.int k))) (some (.d (.int c')))
      refine ⟨d, s', ?_, h⟩
      rw [← e2]
      simp only [dlall, Strm.m, hc, hk, List.length_map, beq_self_eq_true] at e ⊢
      rw [e]
      rfl
  · obtain ⟨d, s', e2, h⟩ := fin c k none none
    refine ⟨d, s', ?_, h⟩
    rw [← e2]
    have hc' : ((c : Int) == 0) = false := by simpa using hc
    simp only [dlall, Strm.m, hc']
end DCom


namespace DCom
open PySem DL
/-! judges of forms -/
theorem is_whole_e (x : PyData) : f_is_whole [.d x] = .rt (.d (.bool (whole x))) [none] := by
  cases x <;> rfl
theorem isTup (x : PyData) : isI .tup x = match x with | .tuple _ => true | _ => false := by cases x <;> rfl
theorem is_between_e (x : PyData) (a b : Int) : f_is_between [.d x, .d (.int a), .d (.int b)] = .rt (.d (.bool (btw a b x))) [none, none, none] := by
  simp only [dlall, f_is_between, b_is_between, is_whole_e]
  cases x with
  | int i =>
    simp only [dlall, whole_i, btw]
    by_cases h : a ≤ i <;> simp [h]
  | _ => simp [whole, btw]
def IsAll (x : PyData) (v n : Int) : Prop := ∃ ns : List Int, x = .tuple (ns.map .int) ∧ (ns.length : Int) = v ∧ (∀ i ∈ ns, 0 ≤ i) ∧ ns.sum = n
def IsAsg (x : PyData) (v n : Int) : Prop := ∃ ns : List Int, x = .tuple (ns.map .int) ∧ (ns.length : Int) = n ∧ ∀ i ∈ ns, 0 ≤ i ∧ i < v
def IsOrd (x : PyData) (n : Int) : Prop := ∃ ns : List Int, x = .tuple (ns.map .int) ∧ (ns.length : Int) = n ∧ ns.Perm ((List.range ns.length).map fun i : Nat => (i : Int))
def shr : PyData → Bool
  | .int i => decide (0 ≤ i)
  | _ => false
theorem shr_e (x : PyData) (e : DL.Env) (te : DL.Env → Rs PyData) (h : te e = .ok x e) : (if whole x = true then Rs.bind (te e) fun y e1 => lift (dGe y (.int 0)) e1 else .ok (.bool false) e) = .ok (.bool (shr x)) e := by
  rw [h]
  cases x <;> simp [whole, shr]
open Classical in
theorem is_allocation_e (x : PyData) (v n : Int) : f_is_allocation [.d x, .d (.int v), .d (.int n)] = .rt (.d (.bool (decide (IsAll x v n)))) [none, none, none] := by
  cases x with
  | tuple xs =>
    have hc : compGo (gN 3) tYesD (eAnd (eFrz (eCall 1 f_is_whole (avD (eVar 3) (avNil)))) (e2 dGe (eVar 3) (eC (.int 0)))) [3] xs [] [some (.d (.tuple xs)), some (.d (.int v)), some (.d (.int n)), none] = .ok ([] ++ xs.map fun x => .bool (shr x)) [some (.d (.tuple xs)), some (.d (.int v)), some (.d (.int n)), none] := by
      refine compGo_id (fun x => .bool (shr x)) xs [] fun x _ => ⟨[some (.d (.tuple xs)), some (.d (.int v)), some (.d (.int n)), some (.d x)], ?_, ?_, ?_⟩
      · simp only [dlall]
      · simp only [dlall, is_whole_e]
        cases x <;> simp [whole, shr]
      · simp only [dlall]
    have hm : (xs.map fun x => PyData.bool (shr x)) = (xs.map shr).map .bool := by rw [List.map_map]; rfl
    by_cases hl : (xs.length : Int) = v
    · have hl' : (!((xs.length : Int) == v)) = false := by simp [hl]
      simp only [dlall, f_is_allocation, b_is_allocation, hl', hc, hm, thn_ite, to_ite, fin_ite]
      by_cases ha : ((xs.map shr).all id) = true
      · have hw : ∀ x ∈ xs, whole x = true := fun x hx => by
          have := List.all_eq_true.1 ha (shr x) (List.mem_map_of_mem hx)
          cases x <;> first | rfl | cases this
        obtain ⟨ns, rfl⟩ := ints_of_whole xs hw
        have h0 : ∀ i ∈ ns, 0 ≤ i := fun i hi => by
          have := List.all_eq_true.1 ha (shr (.int i)) (List.mem_map_of_mem (List.mem_map_of_mem hi))
          simpa [shr] using this
        have key : (ns.sum == n) = decide (IsAll (.tuple (ns.map .int)) v n) := by
          apply Bool.eq_iff_iff.2
          rw [decide_eq_true_eq, beq_iff_eq]
          refine ⟨fun h => ⟨ns, rfl, by simpa using hl, h0, h⟩, fun ⟨ms, h1, _, _, h4⟩ => ?_⟩
          have := map_int_inj (PyData.tuple.inj h1)
          rw [this]; exact h4
        simp only [dlall, ha, bSum_t, key]
      · have key : decide (IsAll (.tuple xs) v n) = false := by
          rw [decide_eq_false_iff_not]
          rintro ⟨ms, h1, _, h3, _⟩
          apply ha
          rw [PyData.tuple.inj h1]
          simp only [List.all_map, List.all_eq_true]
          intro i hi
          simpa [shr] using h3 i hi
        have ha' : ((xs.map shr).all id) = false := by simpa using ha
        simp only [dlall, ha', key]
    · have hl' : (!((xs.length : Int) == v)) = true := by simp [hl]
      have key : decide (IsAll (.tuple xs) v n) = false := by
        rw [decide_eq_false_iff_not]
        rintro ⟨ms, h1, h2, _⟩
        apply hl
        rw [PyData.tuple.inj h1, ← h2]
        simp
      simp only [dlall, f_is_allocation, b_is_allocation, hl', key]
  | _ =>
    rw [decide_eq_false (by rintro ⟨ms, h1, _⟩; cases h1)]
    simp only [dlall, f_is_allocation, b_is_allocation, isTup]
open Classical in
theorem is_assignment_e (x : PyData) (v n : Int) : f_is_assignment [.d x, .d (.int v), .d (.int n)] = .rt (.d (.bool (decide (IsAsg x v n)))) [none, none, none] := by
  cases x with
  | tuple xs =>
    have hc : compGo (gN 3) tYesD (eFrz (eCall 3 f_is_between (avD (eVar 3) (avD (eC (.int 0)) (avD (e2 dSub (eVar 1) (eC (.int 1))) (avNil)))))) [3] xs [] [some (.d (.tuple xs)), some (.d (.int v)), some (.d (.int n)), none] = .ok ([] ++ xs.map fun x => .bool (btw 0 (v - 1) x)) [some (.d (.tuple xs)), some (.d (.int v)), some (.d (.int n)), none] := by
      refine compGo_id (fun x => .bool (btw 0 (v - 1) x)) xs [] fun x _ => ⟨[some (.d (.tuple xs)), some (.d (.int v)), some (.d (.int n)), some (.d x)], ?_, ?_, ?_⟩
      · simp only [dlall]
      · simp only [dlall, is_between_e]
      · simp only [dlall]
    have hm : (xs.map fun x => PyData.bool (btw 0 (v - 1) x)) = (xs.map (btw 0 (v - 1))).map .bool := by rw [List.map_map]; rfl
    by_cases hl : (xs.length : Int) = n
    · have hl' : (!((xs.length : Int) == n)) = false := by simp [hl]
      have key : ((xs.map (btw 0 (v - 1))).all id) = decide (IsAsg (.tuple xs) v n) := by
        apply Bool.eq_iff_iff.2
        rw [decide_eq_true_eq, List.all_map, List.all_eq_true]
        refine ⟨fun h => ?_, fun ⟨ms, h1, h2, h3⟩ => ?_⟩
        · obtain ⟨ns, rfl⟩ := ints_of_whole xs fun x hx => by
            have := h x hx
            cases x <;> first | rfl | cases this
          refine ⟨ns, rfl, by simpa using hl, fun i hi => ?_⟩
          have := h (.int i) (List.mem_map_of_mem hi)
          simp [btw] at this
          omega
        · rw [PyData.tuple.inj h1]
          intro x hx
          obtain ⟨i, hi, rfl⟩ := List.mem_map.1 hx
          have := h3 i hi
          simp [btw]
          omega
      simp only [dlall, f_is_assignment, b_is_assignment, hl', hc, hm, key]
    · have hl' : (!((xs.length : Int) == n)) = true := by simp [hl]
      have key : decide (IsAsg (.tuple xs) v n) = false := by
        rw [decide_eq_false_iff_not]
        rintro ⟨ms, h1, h2, _⟩
        apply hl
        rw [PyData.tuple.inj h1, ← h2]
        simp
      simp only [dlall, f_is_assignment, b_is_assignment, hl', key]
  | _ =>
    rw [decide_eq_false (by rintro ⟨ms, h1, _⟩; cases h1)]
    simp only [dlall, f_is_assignment, b_is_assignment, isTup]
open Classical in
theorem is_order_e (x : PyData) (n : Int) (hn : 0 ≤ n) (hn2 : n ≤ 1000) : f_is_order [.d x, .d (.int n)] = .rt (.d (.bool (decide (IsOrd x n)))) [none, none] := by
  cases x with
  | tuple xs =>
    have hc : compGo (gN 2) tYesD (eFrz (eCall 1 f_is_whole (avD (eVar 2) (avNil)))) [2] xs [] [some (.d (.tuple xs)), some (.d (.int n)), none] = .ok ([] ++ xs.map fun x => .bool (whole x)) [some (.d (.tuple xs)), some (.d (.int n)), none] := by
      refine compGo_id (fun x => .bool (whole x)) xs [] fun x _ => ⟨[some (.d (.tuple xs)), some (.d (.int n)), some (.d x)], ?_, ?_, ?_⟩
      · simp only [dlall]
      · simp only [dlall, is_whole_e]
      · simp only [dlall]
    have hm : (xs.map fun x => PyData.bool (whole x)) = (xs.map whole).map .bool := by rw [List.map_map]; rfl
    by_cases hl : (xs.length : Int) = n
    · have hl' : (!((xs.length : Int) == n)) = false := by simp [hl]
      by_cases ha : ((xs.map whole).all id) = true
      · have hw : ∀ x ∈ xs, whole x = true := fun x hx => by
          have := List.all_eq_true.1 ha (whole x) (List.mem_map_of_mem hx)
          exact this
        obtain ⟨ns, rfl⟩ := ints_of_whole xs hw
        have hln : ns.length = n.toNat := by simp at hl; omega
        have key : dEq (.list ((sortI ns).map .int)) (.list (rangeD 0 n.toNat)) = some (.bool (decide (IsOrd (.tuple (ns.map .int)) n))) := by
          have e1 : rangeD 0 n.toNat = ((List.range ns.length).map fun i : Nat => (i : Int)).map .int := by
            rw [rangeD_eq, List.map_map, hln]; rfl
          rw [e1, dEq_ll]
          have hs : ((List.range ns.length).map fun i : Nat => (i : Int)).Pairwise (· ≤ ·) := by
            rw [List.pairwise_map]
            exact List.pairwise_lt_range.imp fun h => by omega
          refine congrArg (fun b => some (PyData.bool b)) (Bool.eq_iff_iff.2 ?_)
          rw [decide_eq_true_eq, beq_iff_eq]
          refine ⟨fun h => ⟨ns, rfl, by simpa using hl, h ▸ (sortI_perm ns).symm⟩, fun ⟨ms, h1, _, h4⟩ => ?_⟩
          have := map_int_inj (PyData.tuple.inj h1)
          subst this
          exact sorted_unique ((sortI_perm ns).trans h4) (sortI_sorted ns) hs
        have hr : n ≤ 16777216 ∧ -(2 ^ 62) ≤ n := by constructor <;> omega
        simp only [dlall, f_is_order, b_is_order, hl', hc, hm, ha, hr, key]
      · have ha' : ((xs.map whole).all id) = false := by simpa using ha
        have key : decide (IsOrd (.tuple xs) n) = false := by
          rw [decide_eq_false_iff_not]
          rintro ⟨ms, h1, _⟩
          apply ha
          rw [PyData.tuple.inj h1]
          simp [List.all_eq_true]
        simp only [dlall, f_is_order, b_is_order, hl', hc, hm, ha', key]
    · have hl' : (!((xs.length : Int) == n)) = true := by simp [hl]
      have key : decide (IsOrd (.tuple xs) n) = false := by
        rw [decide_eq_false_iff_not]
        rintro ⟨ms, h1, h2, _⟩
        apply hl
        rw [PyData.tuple.inj h1, ← h2]
        simp
      simp only [dlall, f_is_order, b_is_order, hl', key]
  | _ =>
    rw [decide_eq_false (by rintro ⟨ms, h1, _⟩; cases h1)]
    simp only [dlall, f_is_order, b_is_order, isTup]
end DCom


namespace DCom
open PySem DL
/-! draws -/
theorem sum_set : ∀ (al : List Int) (k : Nat) (h : k < al.length), (al.set k (al[k] + 1)).sum = al.sum + 1
  | [], _, h => by cases h
  | x :: xs, 0, _ => by simp; omega
  | x :: xs, k + 1, h => by
    have := sum_set xs k (by simpa using h)
    simp
    omega
theorem er_map : ∀ (xs : List Int) (k : Nat), (xs.map PyData.int).eraseIdx k = (xs.eraseIdx k).map .int
  | [], _ => by simp
  | x :: xs, 0 => by simp
  | x :: xs, k + 1 => by
    have := er_map xs k
    simp [this]
theorem er_perm : ∀ (xs : List Int) (k : Nat) (h : k < xs.length), (xs[k] :: xs.eraseIdx k).Perm xs
  | [], _, h => by cases h
  | x :: xs, 0, _ => by simp
  | x :: xs, k + 1, h => by
    have := er_perm xs k (by simpa using h)
    simp only [List.getElem_cons_succ, List.eraseIdx_cons_succ]
    exact (List.Perm.swap _ _ _).trans (this.cons x)
theorem assignment_ex (s : Strm) (v n : Int) (hv : 0 < v) (hv2 : v < 1073741824) (hn : 0 ≤ n) (hn2 : n ≤ 16777216) :
    ∃ (al : List Int) (s' : Strm), f__law_assignment [s.m, .d (.int v), .d (.int n)] = .rt (.d (.tuple (al.map .int))) [some s'.m, none, none] ∧ (al.length : Int) = n ∧ ∀ i ∈ al, 0 ≤ i ∧ i < v := by
  have hr : n ≤ 16777216 ∧ -(2 ^ 62) ≤ n := by constructor <;> omega
  obtain ⟨ys, e', h1, al, s', h2, h3, h4, h5⟩ := compGo_rel (g := gN 3) (tt := tYesD) (te := eFrz (eCall 2 f__law_next (avS 0 (avD (eVar 1) (avNil))))) (vs := [3])
    (fun xs acc e => ∃ (al : List Int) (s : Strm), acc = al.map .int ∧ e = [some s.m, some (.d (.int v)), some (.d (.int n)), none] ∧ (al.length + xs.length : Int) = n ∧ ∀ i ∈ al, 0 ≤ i ∧ i < v) (by
      rintro x xs acc e ⟨al, s, rfl, rfl, h1, h2⟩
      obtain ⟨d, s', e1, h3, h4⟩ := next_ex s v hv hv2
      refine ⟨[some s.m, some (.d (.int v)), some (.d (.int n)), some (.d x)], .int d, [some s'.m, some (.d (.int v)), some (.d (.int n)), some (.d x)], ?_, rfl, ?_, al ++ [d], s', ?_, ?_, ?_, ?_⟩
      · simp only [dlall]
      · simp only [dlall, e1]
      · simp
      · simp only [dlall]
      · simp at h1 ⊢
        omega
      · intro i hi
        rcases List.mem_append.1 hi with hi | hi
        · exact h2 i hi
        · rw [List.mem_singleton.1 hi]
          exact ⟨h3, h4⟩) (rangeD 0 n.toNat) [] [some s.m, some (.d (.int v)), some (.d (.int n)), none] ⟨[], s, rfl, rfl, by simp [rangeD_len]; omega, by simp⟩
  refine ⟨al, s', ?_, by simpa using h4, h5⟩
  simp only [dlall, f__law_assignment, b__law_assignment, hr, h1, h2, h3]
theorem allocation_ex (s : Strm) (v n : Int) (hv : 0 < v) (hv2 : v ≤ 16777216) (hn : 0 ≤ n) (hn2 : n ≤ 16777216) :
    ∃ (al : List Int) (s' : Strm), f__law_allocation [s.m, .d (.int v), .d (.int n)] = .rt (.d (.tuple (al.map .int))) [some s'.m, none, none] ∧ (al.length : Int) = v ∧ (∀ i ∈ al, 0 ≤ i) ∧ al.sum = n := by
  have hr : n ≤ 16777216 ∧ -(2 ^ 62) ≤ n := by constructor <;> omega
  have hr2 : v ≤ 16777216 ∧ -(2 ^ 62) ≤ v := by constructor <;> omega
  have h0 := compGo_id (g := gN 5) (te := eC (.int 0)) (vs := [5]) (e := [some s.m, some (.d (.int v)), some (.d (.int n)), none, none, none]) (fun _ => .int 0) (rangeD 0 v.toNat) [] (fun x _ => ⟨[some s.m, some (.d (.int v)), some (.d (.int n)), none, none, some (.d x)], rfl, rfl, rfl⟩)
  have hz : (rangeD 0 v.toNat).map (fun _ => PyData.int 0) = (List.replicate v.toNat (0 : Int)).map .int := by
    rw [List.map_const', rangeD_len, List.map_replicate]
  obtain ⟨e', h1, al, s', o4, o5, rfl, h3, h4, h5⟩ := forGo_rel (g := gN 4) (body := sThen (sSet 5 (mD (eFrz (eCall 2 f__law_next (avS 0 (avD (eVar 1) (avNil)))))))
    (sSetItem 3 (e2 dAdd (eIxO 3 (eVar 5)) (eC (.int 1))) (eVar 5)))
    (fun xs e => ∃ (al : List Int) (s : Strm) (o4 o5 : Option M), e = [some s.m, some (.d (.int v)), some (.d (.int n)), some (.l (al.map .int)), o4, o5] ∧ (al.length : Int) = v ∧ (∀ i ∈ al, 0 ≤ i) ∧ al.sum + xs.length = n) (by
      rintro x xs e ⟨al, s, o4, o5, rfl, h1, h2, h3⟩
      obtain ⟨d, s', e1, h4, h5⟩ := next_ex s v hv (by omega)
      have hd : d.toNat < al.length := by omega
      refine ⟨[some s.m, some (.d (.int v)), some (.d (.int n)), some (.l (al.map .int)), some (.d x), o5], [some s'.m, some (.d (.int v)), some (.d (.int n)), some (.l ((al.set d.toNat (al[d.toNat] + 1)).map .int)), some (.d x), some (.d (.int d))], ?_, .inl ?_, al.set d.toNat (al[d.toNat] + 1), s', _, _, rfl, ?_, ?_, ?_⟩
      · simp only [dlall]
      · have hi := ixN_int al.length d h4 (by omega)
        simp only [dlall, e1, atI_int _ _ h4, List.getElem?_map, List.getElem?_eq_getElem hd, List.length_map, hi, List.map_set]
      · rw [List.length_set]; exact h1
      · intro i hi
        rcases List.mem_or_eq_of_mem_set hi with hi | hi
        · exact h2 i hi
        · have := h2 al[d.toNat] (List.getElem_mem hd)
          omega
      · rw [sum_set al _ hd]
        simp at h3
        omega) (rangeD 0 n.toNat) [some s.m, some (.d (.int v)), some (.d (.int n)), some (.l ((List.replicate v.toNat (0 : Int)).map .int)), none, none] ⟨List.replicate v.toNat 0, s, none, none, rfl, by simp; omega, by
      intro i hi
      rw [List.eq_of_mem_replicate hi]
      omega, by
      simp [rangeD_len]
      omega⟩
  refine ⟨al, s', ?_, h3, h4, by simpa using h5⟩
  simp only [dlall, f__law_allocation, b__law_allocation, hr, hr2, h0, hz, h1]
theorem order_ex (s : Strm) (n : Int) (hn : 0 ≤ n) (hn2 : n ≤ 16777216) :
    ∃ (al : List Int) (s' : Strm), f__law_order [s.m, .d (.int n)] = .rt (.d (.tuple (al.map .int))) [some s'.m, none] ∧ (al.length : Int) = n ∧ al.Perm ((List.range n.toNat).map fun i : Nat => (i : Int)) := by
  have hr : n ≤ 16777216 ∧ -(2 ^ 62) ≤ n := by constructor <;> omega
  have e0 : rangeD 0 n.toNat = ((List.range n.toNat).map fun i : Nat => (i : Int)).map .int := by
    rw [rangeD_eq, List.map_map]; rfl
  obtain ⟨ys, e', h1, al, left, s', h2, h3, h4, h5⟩ := compGo_rel (g := gN 3) (tt := tYesD) (te := eMt 2 mPopAt (aCons (eFrz (eCall 2 f__law_next (avS 0 (avD (eBO 2 bLen) (avNil))))) (aNil))) (vs := [3])
    (fun xs acc e => ∃ (al left : List Int) (s : Strm), acc = al.map .int ∧ e = [some s.m, some (.d (.int n)), some (.l (left.map .int)), none] ∧ left.length = xs.length ∧ (xs.length ≤ 16777216) ∧ (al ++ left).Perm ((List.range n.toNat).map fun i : Nat => (i : Int))) (by
      rintro x xs acc e ⟨al, left, s, rfl, rfl, h1, h2, h3⟩
      rw [List.length_cons] at h1 h2
      obtain ⟨d, s', e1, h4, h5⟩ := next_ex s left.length (by omega) (by omega)
      have hd : d.toNat < left.length := by omega
      refine ⟨[some s.m, some (.d (.int n)), some (.l (left.map .int)), some (.d x)], .int left[d.toNat], [some s'.m, some (.d (.int n)), some (.l ((left.eraseIdx d.toNat).map .int)), some (.d x)], ?_, rfl, ?_, al ++ [left[d.toNat]], left.eraseIdx d.toNat, s', ?_, ?_, ?_, ?_, ?_⟩
      · simp only [dlall]
      · have hi := ixN_int left.length d h4 (by omega)
        simp only [dlall, e1, mPopAt, List.getElem?_map, List.getElem?_eq_getElem hd, List.length_map, hi, er_map]
      · simp
      · simp only [dlall]
      · rw [List.length_eraseIdx_of_lt hd]
        omega
      · omega
      · refine List.Perm.trans ?_ h3
        rw [List.append_assoc]
        refine List.Perm.append_left al ?_
        show ([left[d.toNat]] ++ left.eraseIdx d.toNat).Perm left
        exact (er_perm left _ hd)) (rangeD 0 n.toNat) [] [some s.m, some (.d (.int n)), some (.l (((List.range n.toNat).map fun i : Nat => (i : Int)).map .int)), none] ⟨[], _, s, rfl, rfl, by simp [rangeD_len], by rw [rangeD_len]; omega, by simp⟩
  have hl : left = [] := List.eq_nil_of_length_eq_zero h4
  subst hl
  rw [List.append_nil] at h5
  refine ⟨al, s', ?_, by rw [h5.2.length_eq]; simp; omega, h5.2⟩
  rw [e0] at h1
  simp only [dlall, f__law_order, b__law_order, hr, e0, h1, h2, h3]
theorem pick_ex (s : Strm) (rows : List PyData) (hr : rows ≠ []) (hr2 : rows.length < 1073741824) : ∃ x s', f__law_pick [s.m, .d (.list rows)] = .rt (.d x) [some (Strm.m s'), none] ∧ x ∈ rows := by
  have hp : 0 < rows.length := List.length_pos_iff.2 hr
  obtain ⟨d, s', e1, h4, h5⟩ := next_ex s rows.length (by omega) (by omega)
  have hd : d.toNat < rows.length := by omega
  refine ⟨rows[d.toNat], s', ?_, List.getElem_mem hd⟩
  simp only [dlall, f__law_pick, b__law_pick, e1, atI_int _ _ h4, List.getElem?_eq_getElem hd]
end DCom


namespace DCom
open PySem DL
/-! _law_equal of a value and itself; transfers; checks that pass -/
theorem is_integer_e (x : PyData) : f__law_is_integer [.d x] = .rt (.d (.bool (whole x))) [none] := by
  cases x <;> rfl
theorem r_eq_succ (n : Nat) : r__law_equal (n + 1) = runDef [false, false] 3 (b__law_equal (r__law_equal n)) := rfl
theorem dIx_at {xs : List PyData} {i : Nat} (h : i < xs.length) : L2.atI xs (i : Int) = some xs[i] := by
  rw [atI_nat, List.getElem?_eq_getElem h]
theorem canL_get : ∀ {xs : List PyData}, PyData.canLayAll0 xs = true → ∀ x ∈ xs, x.canLay0 = true
  | y :: ys, h, x, hx => by
    rw [PyData.canLayAll0, Bool.and_eq_true] at h
    rcases List.mem_cons.1 hx with e | e
    · rw [e]; exact h.1
    · exact canL_get h.2 x e
theorem depL_get : ∀ {xs : List PyData} {k : Nat}, PyData.depthAll xs ≤ k → ∀ x ∈ xs, x.depth ≤ k
  | y :: ys, k, h, x, hx => by
    rw [PyData.depthAll] at h
    rcases List.mem_cons.1 hx with e | e
    · rw [e]; omega
    · exact depL_get (by omega) x e
/-- rows short enough for len and range -/
def short : Nat → PyData → Prop
  | 0, x => True
  | n + 1, .list xs => xs.length ≤ 16777216 ∧ ∀ x ∈ xs, short n x
  | n + 1, .tuple xs => xs.length ≤ 16777216 ∧ ∀ x ∈ xs, short n x
  | _, _ => True
theorem comp_same (F : Fn) (x : PyData) (xs : List PyData) (hx : ∀ i : Int, dIx x (.int i) = L2.atI xs i) (h : ∀ y ∈ xs, F [.d y, .d y] = .rt (.d (.bool true)) [none, none]) :
    compGo (gN 2) tYesD (eFrz (eCall 2 F (avD (e2 dIx (eVar 0) (eVar 2)) (avD (e2 dIx (eVar 1) (eVar 2)) (avNil))))) [2] (rangeD 0 xs.length) [] [some (.d x), some (.d x), none] = .ok ([] ++ (rangeD 0 xs.length).map fun _ => .bool true) [some (.d x), some (.d x), none] := by
  refine compGo_id (fun _ => .bool true) _ [] fun r hr => ⟨[some (.d x), some (.d x), some (.d r)], ?_, ?_, ?_⟩
  · simp only [dlall]
  · rw [rangeD_eq, List.mem_map] at hr
    obtain ⟨i, hi, rfl⟩ := hr
    rw [List.mem_range] at hi
    have := h xs[i] (List.getElem_mem hi)
    simp only [dlall, hx, dIx_at hi, this]
  · simp only [dlall]
theorem all_true {α : Type} (xs : List α) : bAll [.list (xs.map fun _ => .bool true)] = some (.bool true) := by
  rw [show (xs.map fun _ => PyData.bool true) = (xs.map fun _ => true).map .bool by rw [List.map_map]; rfl, bAll_l]
  simp
theorem equal_same : ∀ (n : Nat) (x : PyData), x.canLay0 = true → x.depth ≤ 60 → x.depth < n → short n x → r__law_equal n [.d x, .d x] = .rt (.d (.bool true)) [none, none]
  | 0, _, _, _, h, _ => absurd h (by omega)
  | n + 1, x, hl, h60, hd, hs => by
    rw [r_eq_succ]
    have sh : SeqAt.shaped x = true := by
      unfold SeqAt.shaped
      rw [hl, Bool.true_and, decide_eq_true_eq]
      omega
    cases x with
    | none => simp only [dlall, b__law_equal]
    | bool b =>
      have e : dEq (.bool b) (.bool b) = some (.bool true) := by simp
      simp only [dlall, b__law_equal, isNon_b] at e ⊢
      try (cases b <;> simp [b__law_equal])
    | int i => simp [b__law_equal, is_integer_e]
    | str s =>
      have e : dEq (.str s) (.str s) = some (.bool true) := by
        unfold dEq
        rw [if_pos ⟨sh, sh⟩, PyData.eqv]
        simp
      simp [b__law_equal, e]
    | list xs =>
      rw [PyData.canLay0] at hl
      rw [PyData.depth] at hd h60
      have hxs := canL_get hl
      have hdx := depL_get (Nat.le_refl (PyData.depthAll xs))
      have hc := comp_same (r__law_equal n) (.list xs) xs (fun _ => rfl) fun y hy => equal_same n y (hxs y hy) (by have := hdx y hy; omega) (by have := hdx y hy; omega) (hs.2 y hy)
      have hr : (xs.length : Int) ≤ 16777216 ∧ -(2 ^ 62) ≤ (xs.length : Int) := by have := hs.1; constructor <;> omega
      have hb : (!((xs.length : Int) == (xs.length : Int))) = false := by simp
      simp only [dlall, b__law_equal, hb, hr, Int.toNat_natCast, hc, all_true]
    | tuple xs =>
      rw [PyData.canLay0] at hl
      rw [PyData.depth] at hd h60
      have hxs := canL_get hl
      have hdx := depL_get (Nat.le_refl (PyData.depthAll xs))
      have hc := comp_same (r__law_equal n) (.tuple xs) xs (fun _ => rfl) fun y hy => equal_same n y (hxs y hy) (by have := hdx y hy; omega) (by have := hdx y hy; omega) (hs.2 y hy)
      have hr : (xs.length : Int) ≤ 16777216 ∧ -(2 ^ 62) ≤ (xs.length : Int) := by have := hs.1; constructor <;> omega
      have hb : (!((xs.length : Int) == (xs.length : Int))) = false := by simp
      simp only [dlall, b__law_equal, hb, hr, Int.toNat_natCast, hc, all_true]
    | dict kvs => rw [PyData.canLay0] at hl; cases hl
/-- two rows of whole numbers that are the same -/
theorem equal_tup (ns : List Int) (h : ns.length ≤ 16777216) : f__law_equal [.d (.tuple (ns.map .int)), .d (.tuple (ns.map .int))] = .rt (.d (.bool true)) [none, none] := by
  refine equal_same 8 _ ?_ ?_ ?_ ?_
  · rw [PyData.canLay0]; exact (lay_ints ns).1
  · rw [PyData.depth, (lay_ints ns).2]; omega
  · rw [PyData.depth, (lay_ints ns).2]; omega
  · refine ⟨by simpa using h, fun x hx => ?_⟩
    obtain ⟨i, _, rfl⟩ := List.mem_map.1 hx
    trivial
theorem equal_lst (ns : List Int) (h : ns.length ≤ 16777216) : f__law_equal [.d (.list (ns.map .int)), .d (.list (ns.map .int))] = .rt (.d (.bool true)) [none, none] := by
  refine equal_same 8 _ ?_ ?_ ?_ ?_
  · rw [PyData.canLay0]; exact (lay_ints ns).1
  · rw [PyData.depth, (lay_ints ns).2]; omega
  · rw [PyData.depth, (lay_ints ns).2]; omega
  · refine ⟨by simpa using h, fun x hx => ?_⟩
    obtain ⟨i, _, rfl⟩ := List.mem_map.1 hx
    trivial
/-! transfers -/
def trf : List Int → List Int → Int
  | x :: xs, y :: ys => (if x - y > 0 then x - y else 0) + trf xs ys
  | _, _ => 0
theorem zip2_cons (x y : PyData) (xs ys) : zip2 (x :: xs) (y :: ys) = .tuple [x, y] :: zip2 xs ys := rfl
theorem transfer_comp : ∀ (ns ms : List Int) (acc : List PyData) (a b : Option M), compGo (gT 2 (gsC (gN 3) (gsC (gN 2) gsN))) tYesD (eB bMax (aCons (eC (.int 0)) (aCons (e2 dSub (eVar 3) (eVar 2)) (aNil)))) [3, 2] (zip2 (ns.map .int) (ms.map .int)) acc [a, b, none, none] =
      .ok (acc ++ ((ns.zip ms).map fun p => if p.1 - p.2 > 0 then p.1 - p.2 else 0).map .int) [a, b, none, none]
  | [], ms, acc, a, b => by simp [zip2]
  | _ :: _, [], acc, a, b => by simp [zip2]
  | x :: xs, y :: ys, acc, a, b => by
    have ih := transfer_comp xs ys (acc ++ [.int (if x - y > 0 then x - y else 0)]) a b
    simp only [dlall, List.map_cons, zip2_cons, compGo_cons] at ih ⊢
    rw [ih]
    simp
theorem trf_sum : ∀ ns ms : List Int, ((ns.zip ms).map fun p => if p.1 - p.2 > 0 then p.1 - p.2 else 0).sum = trf ns ms
  | [], ms => by simp [trf]
  | _ :: _, [] => by simp [trf]
  | x :: xs, y :: ys => by
    rw [List.zip_cons_cons, List.map_cons, List.sum_cons, trf_sum xs ys, trf]
theorem transfer_of_e (ns ms : List Int) : f_transfer_of [.d (.tuple (ns.map .int)), .d (.tuple (ms.map .int))] = .rt (.d (.int (trf ns ms))) [none, none] := by
  have h := transfer_comp ns ms [] (some (.d (.tuple (ns.map .int)))) (some (.d (.tuple (ms.map .int))))
  simp only [dlall, f_transfer_of, b_transfer_of, h, List.nil_append, bSum_l, trf_sum]
/-- a good allocation -/
def Good (ns : List Int) : Prop := 1 ≤ ns.length ∧ ns.length ≤ 5 ∧ (∀ i ∈ ns, 0 ≤ i ∧ i ≤ 20) ∧ ns.sum ≤ 20
theorem check_allocation_e (ns : List Int) (nm : PyData) (h : Good ns) : f_check_allocation [.d (.tuple (ns.map .int)), .d nm] = .rt (.d .none) [none, none] := by
  obtain ⟨h1, h2, h3, h4⟩ := h
  have hc : compGo (gN 2) tYesD (eFrz (eCall 3 f_is_between (avD (eVar 2) (avD (eC (.int 0)) (avD (eC (.int 20)) (avNil)))))) [2] (ns.map .int) [] [some (.d (.tuple (ns.map .int))), some (.d nm), none] = .ok ([] ++ (ns.map PyData.int).map fun x => .bool (btw 0 20 x)) [some (.d (.tuple (ns.map .int))), some (.d nm), none] := by
    refine compGo_id (fun x => .bool (btw 0 20 x)) _ [] fun x _ => ⟨[some (.d (.tuple (ns.map .int))), some (.d nm), some (.d x)], ?_, ?_, ?_⟩
    · simp only [dlall]
    · simp only [dlall, is_between_e]
    · simp only [dlall]
  have hm : ((ns.map PyData.int).map fun x => PyData.bool (btw 0 20 x)) = (ns.map fun _ => PyData.bool true) := by
    rw [List.map_map]
    refine List.map_congr_left fun i hi => ?_
    have := h3 i hi
    simp [btw, this]
  have hs : decide (20 < ns.sum) = false := by simpa using h4
  have l1 : decide ((1 : Int) ≤ ns.length) = true := decide_eq_true (by omega)
  have l2 : decide ((ns.length : Int) ≤ 5) = true := decide_eq_true (by omega)
  simp only [dlall, f_check_allocation, b_check_allocation, List.length_map, l1, l2, hc, hm, all_true, bSum_t, hs]
open Classical in
theorem check_alike_e (ns ms : List Int) (nm : PyData) (h0 : ∀ i ∈ ns, 0 ≤ i) (hl : ns.length = ms.length) (hs : ns.sum = ms.sum) : f_check_alike [.d (.tuple (ns.map .int)), .d (.tuple (ms.map .int)), .d nm] = .rt (.d .none) [none, none, none] := by
  have j : decide (IsAll (.tuple (ns.map .int)) ms.length ms.sum) = true := decide_eq_true ⟨ns, rfl, by omega, h0, hs⟩
  simp only [dlall, f_check_alike, b_check_alike, List.length_map, bSum_t, is_allocation_e, j]
end DCom


namespace DCom
open PySem DL
/-! plain laws of transfers -/
theorem trf_self : ∀ a : List Int, trf a a = 0
  | [] => rfl
  | x :: xs => by rw [trf, trf_self xs]; simp
theorem trf_nonneg : ∀ a b : List Int, 0 ≤ trf a b
  | [], _ => by simp [trf]
  | _ :: _, [] => by simp [trf]
  | x :: xs, y :: ys => by
    have := trf_nonneg xs ys
    rw [trf]
    split <;> omega
theorem trf_diff : ∀ a b : List Int, a.length = b.length → trf a b - trf b a = a.sum - b.sum
  | [], [], _ => rfl
  | [], _ :: _, h => by simp at h
  | _ :: _, [], h => by simp at h
  | x :: xs, y :: ys, h => by
    have := trf_diff xs ys (by simpa using h)
    rw [trf, trf, List.sum_cons, List.sum_cons]
    split <;> split <;> omega
theorem trf_zero : ∀ a b : List Int, a.length = b.length → trf a b = 0 → trf b a = 0 → a = b
  | [], [], _, _, _ => rfl
  | [], _ :: _, h, _, _ => by simp at h
  | _ :: _, [], h, _, _ => by simp at h
  | x :: xs, y :: ys, h, h1, h2 => by
    have n1 := trf_nonneg xs ys
    have n2 := trf_nonneg ys xs
    rw [trf] at h1 h2
    have e : x = y ∧ trf xs ys = 0 ∧ trf ys xs = 0 := by
      split at h1 <;> split at h2 <;> (refine ⟨?_, ?_, ?_⟩ <;> omega)
    rw [e.1, trf_zero xs ys (by simpa using h) e.2.1 e.2.2]
theorem trf_tri : ∀ a b c : List Int, a.length = b.length → b.length = c.length → trf a c ≤ trf a b + trf b c
  | [], _, _, _, _ => by
    have := trf_nonneg [] ‹_›
    simp [trf]
    exact trf_nonneg _ _
  | _ :: _, [], _, h, _ => by simp at h
  | _ :: _, _ :: _, [], _, h => by simp at h
  | x :: xs, y :: ys, z :: zs, h, h' => by
    have := trf_tri xs ys zs (by simpa using h) (by simpa using h')
    rw [trf, trf, trf]
    split <;> split <;> split <;> omega
theorem transfer_e (a b : List Int) (ha : Good a) (hb : Good b) (hl : a.length = b.length) (hs : a.sum = b.sum) : f_transfer [.d (.tuple (a.map .int)), .d (.tuple (b.map .int))] = .rt (.d (.int (trf a b))) [none, none] := by
  simp only [dlall, f_transfer, b_transfer, check_allocation_e a _ ha, check_alike_e b a _ (fun i hi => (hb.2.2.1 i hi).1) hl.symm hs.symm, transfer_of_e]
/-! renaming -/
def ren (a od : List Int) : List Int := (List.range a.length).map fun i : Nat => a.getD (od.idxOf (i : Int)) 0
def IsO (od : List Int) (n : Nat) : Prop := od.length = n ∧ od.Perm ((List.range n).map fun i : Nat => (i : Int))
theorem IsO.mem {od : List Int} {n i : Nat} (h : IsO od n) (hi : i < n) : (i : Int) ∈ od := by
  rw [h.2.mem_iff]
  simp only [List.mem_map, List.mem_range]
  exact ⟨i, hi, rfl⟩
theorem IsO.idx {od : List Int} {n i : Nat} (h : IsO od n) (hi : i < n) : od.idxOf (i : Int) < n := by
  rw [← h.1]
  exact List.idxOf_lt_length_iff.2 (h.mem hi)
theorem IsO.bnd {od : List Int} {n : Nat} (h : IsO od n) (i : Int) (hi : i ∈ od) : 0 ≤ i ∧ i < n := by
  rw [h.2.mem_iff] at hi
  simp at hi
  obtain ⟨a, h1, rfl⟩ := hi
  omega
theorem IsO.nd {od : List Int} {n : Nat} (h : IsO od n) : od.Nodup := by
  rw [h.2.nodup_iff]
  refine List.Pairwise.map _ (fun a b h => ?_) List.nodup_range
  omega
theorem nd_get {l : List Int} (h : l.Nodup) {i j : Nat} (hi : i < l.length) (hj : j < l.length) (e : l[i] = l[j]) : i = j := by
  induction l generalizing i j with
  | nil => cases hi
  | cons x xs ih =>
    rw [List.nodup_cons] at h
    cases i with
    | zero =>
      cases j with
      | zero => rfl
      | succ j =>
        have e : x = xs[j]'(by simpa using hj) := by simpa using e
        refine absurd ?_ h.1
        rw [e]
        exact List.getElem_mem _
    | succ i =>
      cases j with
      | zero =>
        have e : xs[i]'(by simpa using hi) = x := by simpa using e
        refine absurd ?_ h.1
        rw [← e]
        exact List.getElem_mem _
      | succ j => rw [ih h.2 (by simpa using hi) (by simpa using hj) e]
theorem IsO.back {od : List Int} {n v : Nat} (h : IsO od n) (hv : v < n) : od.idxOf (od[v]'(by rw [h.1]; exact hv)) = v := by
  have hv' : v < od.length := by rw [h.1]; exact hv
  have hm : od[v] ∈ od := List.getElem_mem hv'
  have h1 := (idx_first hm).1
  have h2 : od.idxOf od[v] < od.length := List.idxOf_lt_length_iff.2 hm
  rw [List.getElem?_eq_getElem h2] at h1
  exact nd_get h.nd h2 hv' (Option.some.inj h1)
open Classical in
theorem renamed_e (a od : List Int) (ha : Good a) (ho : IsO od a.length) : f_renamed_shares [.d (.tuple (a.map .int)), .d (.tuple (od.map .int))] = .rt (.d (.tuple ((ren a od).map .int))) [none, none] := by
  have hl5 : a.length ≤ 5 := ha.2.1
  have hc := compGo_map (g := gN 2) (tt := tYesD) (te := e2 dIx (eVar 0) (eSM idxD (eVar 1) (aCons (eVar 2) (aNil)))) (vs := [2]) (emb := fun i : Nat => PyData.int i)
    (e := [some (.d (.tuple (a.map .int))), some (.d (.tuple (od.map .int))), none]) (fun i => true) (fun i : Nat => .int (a.getD (od.idxOf (i : Int)) 0)) (List.range a.length) [] (fun i hi => by
      rw [List.mem_range] at hi
      have hx := ho.idx hi
      have h1 : L2.atI (a.map PyData.int) ((od.idxOf (i : Int) : Nat) : Int) = some (.int (a.getD (od.idxOf (i : Int)) 0)) := by simp [atI_nat, hx]
      refine ⟨[some (.d (.tuple (a.map .int))), some (.d (.tuple (od.map .int))), some (.d (.int i))], ?_, rfl, fun _ => ?_, ?_⟩
      · simp only [dlall]
      · simp only [dlall, idxD_t od i (ho.mem hi), h1]
      · simp only [dlall])
  rw [← rangeD_eq, List.filter_eq_self.2 (by simp)] at hc
  have hr : (a.length : Int) ≤ 16777216 ∧ -(2 ^ 62) ≤ (a.length : Int) := by constructor <;> omega
  have hm : ((List.range a.length).map fun i : Nat => PyData.int (a.getD (od.idxOf (i : Int)) 0)) = (ren a od).map .int := by
    rw [ren, List.map_map]; rfl
  have j : decide (IsOrd (.tuple (od.map .int)) a.length) = true := decide_eq_true ⟨od, rfl, by rw [ho.1], by rw [ho.1]; exact ho.2⟩
  simp only [dlall, f_renamed_shares, b_renamed_shares, check_allocation_e a _ ha, List.length_map, is_order_e _ (a.length : Int) (by omega) (by omega), j, hr, Int.toNat_natCast, hc, hm]
theorem ren_len (a od : List Int) : (ren a od).length = a.length := by simp [ren]
theorem ren_get (a od : List Int) (ho : IsO od a.length) (v : Nat) (hv : v < a.length) : (ren a od)[(od[v]'(by rw [ho.1]; exact hv)).toNat]? = some (a.getD v 0) := by
  have hv' : v < od.length := by rw [ho.1]; exact hv
  have hb := ho.bnd od[v] (List.getElem_mem hv')
  have hlt : od[v].toNat < a.length := by omega
  have e : ((od[v].toNat : Nat) : Int) = od[v] := Int.toNat_of_nonneg hb.1
  simp [ren, hlt, e, ho.back hv]
theorem perm_sum {l l' : List Int} (h : l.Perm l') : l.sum = l'.sum := by
  induction h with
  | nil => rfl
  | cons x _ ih => simp [ih]
  | swap x y l => simp; omega
  | trans _ _ h1 h2 => rw [h1, h2]
theorem ren_sum (a od : List Int) (ho : IsO od a.length) (f : Nat → Int) : ((List.range a.length).map fun i : Nat => f (od.idxOf (i : Int))).sum = ((List.range a.length).map f).sum := by
  have h1 : ((List.range a.length).map fun i : Nat => f (od.idxOf (i : Int))) = ((List.range a.length).map fun i : Nat => (i : Int)).map fun k => f (od.idxOf k) := by rw [List.map_map]; rfl
  have h2 : (od.map fun k => f (od.idxOf k)) = (List.range a.length).map f := by
    refine List.ext_getElem (by simp [ho.1]) fun v h3 h4 => ?_
    have hv : v < a.length := by simpa using h4
    simp [ho.back hv]
  rw [h1, ← perm_sum (ho.2.map fun k => f (od.idxOf k)), h2]
theorem trf_range : ∀ (a b : List Int), a.length = b.length → trf a b = ((List.range a.length).map fun i => if a.getD i 0 - b.getD i 0 > 0 then a.getD i 0 - b.getD i 0 else 0).sum
  | [], [], _ => rfl
  | [], _ :: _, h => by simp at h
  | _ :: _, [], h => by simp at h
  | x :: xs, y :: ys, h => by
    have ih := trf_range xs ys (by simpa using h)
    rw [trf, ih, List.length_cons, List.range_succ_eq_map, List.map_cons, List.sum_cons, List.map_map]
    rfl
theorem ren_trf (a b od : List Int) (hl : a.length = b.length) (ho : IsO od a.length) : trf (ren a od) (ren b od) = trf a b := by
  rw [trf_range _ _ (by rw [ren_len, ren_len, hl]), trf_range a b hl, ren_len]
  rw [← ren_sum a od ho fun i => if a.getD i 0 - b.getD i 0 > 0 then a.getD i 0 - b.getD i 0 else 0]
  refine congrArg _ (List.map_congr_left fun i hi => ?_)
  rw [List.mem_range] at hi
  have hi' : i < b.length := by omega
  simp [ren, hi, hi']
theorem ren_good (a od : List Int) (ha : Good a) (ho : IsO od a.length) : Good (ren a od) ∧ (ren a od).sum = a.sum := by
  have e : (ren a od).sum = a.sum := by
    rw [ren, ren_sum a od ho fun i => a.getD i 0]
    congr 1
    refine List.ext_getElem (by simp) fun v h3 h4 => ?_
    simp [h4]
  refine ⟨⟨by rw [ren_len]; exact ha.1, by rw [ren_len]; exact ha.2.1, fun i hi => ?_, by rw [e]; exact ha.2.2.2⟩, e⟩
  rw [ren, List.mem_map] at hi
  obtain ⟨k, hk, rfl⟩ := hi
  rw [List.mem_range] at hk
  have hx := ho.idx hk
  have : a.getD (od.idxOf (k : Int)) 0 = a[od.idxOf (k : Int)] := by simp [hx]
  rw [this]
  exact ha.2.2.1 _ (List.getElem_mem hx)
theorem le_sum : ∀ (al : List Int), (∀ i ∈ al, 0 ≤ i) → (∀ i ∈ al, i ≤ al.sum) ∧ 0 ≤ al.sum
  | [], _ => ⟨fun _ h => (by cases h), by simp⟩
  | x :: xs, h => by
    have h0 := h x List.mem_cons_self
    obtain ⟨h1, h2⟩ := le_sum xs fun i hi => h i (List.mem_cons_of_mem _ hi)
    refine ⟨fun i hi => ?_, by simp; omega⟩
    rw [List.sum_cons]
    rcases List.mem_cons.1 hi with e | e
    · omega
    · have := h1 i e
      omega
theorem good_of {al : List Int} {v n : Int} (h1 : (al.length : Int) = v) (h2 : ∀ i ∈ al, 0 ≤ i) (h3 : al.sum = n) (hv : 1 ≤ v) (hv5 : v ≤ 5) (hn : n ≤ 20) : Good al := by
  refine ⟨by omega, by omega, fun i hi => ⟨h2 i hi, ?_⟩, by omega⟩
  have := (le_sum al h2).1 i hi
  omega
theorem rep2 (x : PyData) : dMul (.list [x]) (.int 2) = some (.list [x, x]) := by
  simp [dMul, List.replicate]
end DCom


namespace DCom
open PySem DL
/-! what the defs about assignments answer -/
/-- an assignment to fewer than v variants -/
def AsgN (ns : List Int) (v : Int) : Prop := ns.length ≤ 20 ∧ ∀ i ∈ ns, 0 ≤ i ∧ i < v
open Classical in
theorem check_assignment_e (ns : List Int) (v : Int) (nm : PyData) (h : AsgN ns v) : f_check_assignment [.d (.tuple (ns.map .int)), .d (.int v), .d nm] = .rt (.d .none) [none, none, none] := by
  have j : decide (IsAsg (.tuple (ns.map .int)) v ns.length) = true := decide_eq_true ⟨ns, rfl, rfl, h.2⟩
  have l : decide ((20 : Int) < ns.length) = false := by have := h.1; simp; omega
  simp only [dlall, f_check_assignment, b_check_assignment, List.length_map, l, is_assignment_e, j]
open Classical in
theorem check_variants_e (ns : List Int) (v : Int) (h : AsgN ns v) (h1 : 1 ≤ v) (h5 : v ≤ 5) : f_check_variants [.d (.int v), .d (.list [.tuple (ns.map .int)])] = .rt (.d .none) [none, none] := by
  have j : decide (IsAsg (.tuple (ns.map .int)) v ns.length) = true := decide_eq_true ⟨ns, rfl, rfl, h.2⟩
  have a := bAll_l [true]
  simp only [List.map_cons, List.map_nil, List.all_cons, List.all_nil, id, Bool.and_true] at a
  have b : btw 1 5 (.int v) = true := by simp [btw]; omega
  simp only [dlall, f_check_variants, b_check_variants, is_between_e, b, compGo_cons, List.length_map, is_assignment_e, j, a]
open Classical in
theorem check_two_e (ns ms : List Int) (h : AsgN ns 5) (h' : AsgN ms 5) (hl : ms.length = ns.length) : f_check_two [.d (.tuple (ns.map .int)), .d (.tuple (ms.map .int))] = .rt (.d .none) [none, none] := by
  have j : decide (IsAsg (.tuple (ms.map .int)) 5 ns.length) = true := decide_eq_true ⟨ms, rfl, by rw [hl], h'.2⟩
  simp only [dlall, f_check_two, b_check_two, check_assignment_e ns 5 _ h, List.length_map, is_assignment_e, j]
def cnt (ns : List Int) (k : Nat) : List Int := (List.range k).map fun i : Nat => ((ns.count (i : Int) : Nat) : Int)
theorem counts_of_e (ns : List Int) (v : Int) (h0 : 0 ≤ v) (h5 : v ≤ 1000) : f_counts_of [.d (.tuple (ns.map .int)), .d (.int v)] = .rt (.d (.tuple ((cnt ns v.toNat).map .int))) [none, none] := by
  have hc := compGo_map (g := gN 2) (tt := tYesD) (te := eSM cntD (eVar 0) (aCons (eVar 2) (aNil))) (vs := [2]) (emb := fun i : Nat => PyData.int i)
    (e := [some (.d (.tuple (ns.map .int))), some (.d (.int v)), none]) (fun i => true) (fun i : Nat => .int (ns.count (i : Int) : Nat)) (List.range v.toNat) [] (fun i hi => by
      refine ⟨[some (.d (.tuple (ns.map .int))), some (.d (.int v)), some (.d (.int i))], ?_, rfl, fun _ => ?_, ?_⟩
      · simp only [dlall]
      · simp only [dlall, cntD_t]
      · simp only [dlall])
  rw [← rangeD_eq, List.filter_eq_self.2 (by simp)] at hc
  have hr : v ≤ 16777216 ∧ -(2 ^ 62) ≤ v := by constructor <;> omega
  have hm : ((List.range v.toNat).map fun i : Nat => PyData.int (ns.count (i : Int) : Nat)) = (cnt ns v.toNat).map .int := by
    rw [cnt, List.map_map]; rfl
  simp only [dlall, f_counts_of, b_counts_of, hr, hc, hm]
theorem allocation_of_e (ns : List Int) (v : Int) (h : AsgN ns v) (h1 : 1 ≤ v) (h5 : v ≤ 5) : f_allocation_of [.d (.tuple (ns.map .int)), .d (.int v)] = .rt (.d (.tuple ((cnt ns v.toNat).map .int))) [none, none] := by
  have h' : AsgN ns 5 := ⟨h.1, fun i hi => by have := h.2 i hi; omega⟩
  simp only [dlall, f_allocation_of, b_allocation_of, check_assignment_e ns 5 _ h', check_variants_e ns v h h1 h5, counts_of_e ns v (by omega) (by omega)]
/-! churn -/
def chu : List Int → List Int → Int
  | x :: xs, y :: ys => (if x = y then 0 else 1) + chu xs ys
  | _, _ => 0
theorem churn_comp : ∀ (ns ms : List Int) (acc : List PyData) (a b : Option M), compGo (gT 2 (gsC (gN 3) (gsC (gN 2) gsN))) tYesD (eB bInt (aCons (e2 dNe (eVar 3) (eVar 2)) (aNil))) [3, 2] (zip2 (ns.map .int) (ms.map .int)) acc [a, b, none, none] =
      .ok (acc ++ ((ns.zip ms).map fun p => if p.1 = p.2 then (0 : Int) else 1).map .int) [a, b, none, none]
  | [], ms, acc, a, b => by simp [zip2]
  | _ :: _, [], acc, a, b => by simp [zip2]
  | x :: xs, y :: ys, acc, a, b => by
    have ih := churn_comp xs ys (acc ++ [.int (if x = y then 0 else 1)]) a b
    have e : (if (!(x == y)) = true then (1 : Int) else 0) = if x = y then 0 else 1 := by
      by_cases h : x = y <;> simp [h]
    simp only [dlall, List.map_cons, zip2_cons, compGo_cons, e] at ih ⊢
    rw [ih]
    simp
theorem chu_sum : ∀ ns ms : List Int, ((ns.zip ms).map fun p => if p.1 = p.2 then (0 : Int) else 1).sum = chu ns ms
  | [], ms => by simp [chu]
  | _ :: _, [] => by simp [chu]
  | x :: xs, y :: ys => by
    rw [List.zip_cons_cons, List.map_cons, List.sum_cons, chu_sum xs ys, chu]
theorem churn_of_e (ns ms : List Int) : f_churn_of [.d (.tuple (ns.map .int)), .d (.tuple (ms.map .int))] = .rt (.d (.int (chu ns ms))) [none, none] := by
  have h := churn_comp ns ms [] (some (.d (.tuple (ns.map .int)))) (some (.d (.tuple (ms.map .int))))
  simp only [dlall, f_churn_of, b_churn_of, h, List.nil_append, bSum_l, chu_sum]
theorem churn_e (ns ms : List Int) (h : AsgN ns 5) (h' : AsgN ms 5) (hl : ms.length = ns.length) : f_churn [.d (.tuple (ns.map .int)), .d (.tuple (ms.map .int))] = .rt (.d (.int (chu ns ms))) [none, none] := by
  simp only [dlall, f_churn, b_churn, check_two_e ns ms h h' hl, churn_of_e]
theorem chu_range : ∀ (a b : List Int), a.length = b.length → chu a b = ((List.range a.length).map fun i => if a.getD i 0 = b.getD i 0 then (0 : Int) else 1).sum
  | [], [], _ => rfl
  | [], _ :: _, h => by simp at h
  | _ :: _, [], h => by simp at h
  | x :: xs, y :: ys, h => by
    have ih := chu_range xs ys (by simpa using h)
    rw [chu, ih, List.length_cons, List.range_succ_eq_map, List.map_cons, List.sum_cons, List.map_map]
    rfl
theorem ren_chu (a b od : List Int) (hl : a.length = b.length) (ho : IsO od a.length) : chu (ren a od) (ren b od) = chu a b := by
  rw [chu_range _ _ (by rw [ren_len, ren_len, hl]), chu_range a b hl, ren_len]
  rw [← ren_sum a od ho fun i => if a.getD i 0 = b.getD i 0 then (0 : Int) else 1]
  refine congrArg _ (List.map_congr_left fun i hi => ?_)
  rw [List.mem_range] at hi
  have hi' : i < b.length := by omega
  simp [ren, hi, hi']
/-! new names -/
def nam (nm : List Int) (a : List Int) : List Int := a.map fun i => nm.getD i.toNat 0
open Classical in
theorem isO_dec {od : List Int} {n : Nat} (h : IsO od n) (hn : n ≤ 1000) : decide (IsOrd (.tuple (od.map .int)) (n : Int)) = true := decide_eq_true ⟨od, rfl, by rw [h.1], by rw [h.1]; exact h.2⟩
open Classical in
theorem renamed_as_e (a nm : List Int) (ha : AsgN a 5) (ho : IsO nm 5) : f_renamed [.d (.tuple (a.map .int)), .d (.tuple (nm.map .int))] = .rt (.d (.tuple ((nam nm a).map .int))) [none, none] := by
  have hc := compGo_map (g := gN 2) (tt := tYesD) (te := e2 dIx (eVar 1) (eVar 2)) (vs := [2]) (emb := PyData.int)
    (e := [some (.d (.tuple (a.map .int))), some (.d (.tuple (nm.map .int))), none]) (fun i => true) (fun i => .int (nm.getD i.toNat 0)) a [] (fun i hi => by
      have hb := ha.2 i hi
      have hl : i.toNat < nm.length := by rw [ho.1]; omega
      have h1 : L2.atI (nm.map PyData.int) i = some (.int (nm.getD i.toNat 0)) := by simp [atI_int _ _ hb.1, hl]
      refine ⟨[some (.d (.tuple (a.map .int))), some (.d (.tuple (nm.map .int))), some (.d (.int i))], ?_, rfl, fun _ => ?_, ?_⟩
      · simp only [dlall]
      · simp only [dlall, h1]
      · simp only [dlall])
  rw [List.filter_eq_self.2 (by simp)] at hc
  have hm : (a.map fun i => PyData.int (nm.getD i.toNat 0)) = (nam nm a).map .int := by
    rw [nam, List.map_map]; rfl
  have j : decide (IsOrd (.tuple (nm.map .int)) (5 : Int)) = true := isO_dec (n := 5) ho (by omega)
  simp only [dlall, f_renamed, b_renamed, check_assignment_e a 5 _ ha, is_order_e _ (5 : Int) (by omega) (by omega), j, hc, hm]
theorem rearranged_e (a od : List Int) (ha : AsgN a 5) (ho : IsO od a.length) : f_rearranged [.d (.tuple (a.map .int)), .d (.tuple (od.map .int))] = .rt (.d (.tuple ((ren a od).map .int))) [none, none] := by
  have hc := compGo_map (g := gN 2) (tt := tYesD) (te := e2 dIx (eVar 0) (eSM idxD (eVar 1) (aCons (eVar 2) (aNil)))) (vs := [2]) (emb := fun i : Nat => PyData.int i)
    (e := [some (.d (.tuple (a.map .int))), some (.d (.tuple (od.map .int))), none]) (fun i => true) (fun i : Nat => .int (a.getD (od.idxOf (i : Int)) 0)) (List.range a.length) [] (fun i hi => by
      rw [List.mem_range] at hi
      have hx := ho.idx hi
      have h1 : L2.atI (a.map PyData.int) ((od.idxOf (i : Int) : Nat) : Int) = some (.int (a.getD (od.idxOf (i : Int)) 0)) := by simp [atI_nat, hx]
      refine ⟨[some (.d (.tuple (a.map .int))), some (.d (.tuple (od.map .int))), some (.d (.int i))], ?_, rfl, fun _ => ?_, ?_⟩
      · simp only [dlall]
      · simp only [dlall, idxD_t od i (ho.mem hi), h1]
      · simp only [dlall])
  rw [← rangeD_eq, List.filter_eq_self.2 (by simp)] at hc
  have hl20 := ha.1
  have hr : (a.length : Int) ≤ 16777216 ∧ -(2 ^ 62) ≤ (a.length : Int) := by constructor <;> omega
  have hm : ((List.range a.length).map fun i : Nat => PyData.int (a.getD (od.idxOf (i : Int)) 0)) = (ren a od).map .int := by
    rw [ren, List.map_map]; rfl
  have j := isO_dec ho (by omega)
  simp only [dlall, f_rearranged, b_rearranged, check_assignment_e a 5 _ ha, List.length_map, is_order_e _ (a.length : Int) (by omega) (by omega), j, hr, Int.toNat_natCast, hc, hm]
/-! the order back -/
def bk (od : List Int) : List Int := (List.range od.length).map fun i : Nat => ((od.idxOf (i : Int) : Nat) : Int)
theorem back_e (od : List Int) (n : Nat) (hn : n ≤ 1000) (ho : IsO od n) : f__law_back [.d (.tuple (od.map .int))] = .rt (.d (.tuple ((bk od).map .int))) [none] := by
  have hc := compGo_map (g := gN 1) (tt := tYesD) (te := eSM idxD (eVar 0) (aCons (eVar 1) (aNil))) (vs := [1]) (emb := fun i : Nat => PyData.int i)
    (e := [some (.d (.tuple (od.map .int))), none]) (fun i => true) (fun i : Nat => .int (od.idxOf (i : Int) : Nat)) (List.range od.length) [] (fun i hi => by
      rw [List.mem_range, ho.1] at hi
      refine ⟨[some (.d (.tuple (od.map .int))), some (.d (.int i))], ?_, rfl, fun _ => ?_, ?_⟩
      · simp only [dlall]
      · simp only [dlall, idxD_t od i (ho.mem hi)]
      · simp only [dlall])
  rw [← rangeD_eq, List.filter_eq_self.2 (by simp)] at hc
  have hr : (od.length : Int) ≤ 16777216 ∧ -(2 ^ 62) ≤ (od.length : Int) := by rw [ho.1]; constructor <;> omega
  have hm : ((List.range od.length).map fun i : Nat => PyData.int (od.idxOf (i : Int) : Nat)) = (bk od).map .int := by
    rw [bk, List.map_map]; rfl
  simp only [dlall, f__law_back, b__law_back, List.length_map, hr, Int.toNat_natCast, hc, hm]
theorem bk_at {od : List Int} {n v : Nat} (h : IsO od n) (hv : v < n) : (bk od)[(od[v]'(by rw [h.1]; exact hv)).toNat]? = some (v : Int) := by
  have hv' : v < od.length := by rw [h.1]; exact hv
  have hb := h.bnd od[v] (List.getElem_mem hv')
  have hlt : od[v].toNat < od.length := by rw [h.1]; omega
  have e : ((od[v].toNat : Nat) : Int) = od[v] := Int.toNat_of_nonneg hb.1
  simp [bk, hlt, e, h.back hv]
theorem idx_back {od : List Int} {n : Nat} (h : IsO od n) {i : Nat} (hi : i < n) : od[od.idxOf (i : Int)]? = some (i : Int) := (idx_first (h.mem hi)).1
theorem bk_isO {od : List Int} {n : Nat} (h : IsO od n) : IsO (bk od) n := by
  have hl : (bk od).length = n := by simp [bk, h.1]
  refine ⟨hl, ?_⟩
  have h1 : bk od = ((List.range n).map fun i : Nat => (i : Int)).map fun k => ((od.idxOf k : Nat) : Int) := by
    rw [bk, h.1, List.map_map]; rfl
  have h2 : (od.map fun k => ((od.idxOf k : Nat) : Int)) = (List.range n).map fun i : Nat => (i : Int) := by
    refine List.ext_getElem (by simp [h.1]) fun v h3 h4 => ?_
    have hv : v < n := by simpa using h4
    simp [h.back hv]
  have h3 := (h.2.map fun k => ((od.idxOf k : Nat) : Int)).symm
  rw [h2] at h3
  rw [h1]
  exact h3
end DCom


namespace DCom
open PySem DL
/-! leavers and enterers of a variant -/
def lev (v : Int) : List Int → List Int → Int
  | x :: xs, y :: ys => (if x = v ∧ y ≠ v then 1 else 0) + lev v xs ys
  | _, _ => 0
theorem lev_nonneg (v : Int) : ∀ a b : List Int, 0 ≤ lev v a b
  | [], _ => by simp [lev]
  | _ :: _, [] => by simp [lev]
  | x :: xs, y :: ys => by
    have := lev_nonneg v xs ys
    rw [lev]
    split <;> omega
/-- before less behind: those that leave less those that enter -/
theorem count_lev (v : Int) : ∀ a b : List Int, a.length = b.length → ((a.count v : Nat) : Int) - ((b.count v : Nat) : Int) = lev v a b - lev v b a
  | [], [], _ => rfl
  | [], _ :: _, h => by simp at h
  | _ :: _, [], h => by simp at h
  | x :: xs, y :: ys, h => by
    have ih := count_lev v xs ys (by simpa using h)
    rw [lev, lev, List.count_cons, List.count_cons]
    by_cases hx : x = v <;> by_cases hy : y = v <;> simp [hx, hy] <;> omega
/-- somebody leaves v -/
theorem lev_pos (v : Int) : ∀ a b : List Int, a.length = b.length → (0 < lev v a b ↔ ∃ k, k < a.length ∧ a.getD k 0 = v ∧ b.getD k 0 ≠ v)
  | [], [], _ => by simp [lev]
  | [], _ :: _, h => by simp at h
  | _ :: _, [], h => by simp at h
  | x :: xs, y :: ys, h => by
    have ih := lev_pos v xs ys (by simpa using h)
    have n := lev_nonneg v xs ys
    rw [lev]
    constructor
    · intro hp
      by_cases hxy : x = v ∧ y ≠ v
      · exact ⟨0, by simp, hxy.1, hxy.2⟩
      · rw [if_neg hxy] at hp
        obtain ⟨k, h1, h2, h3⟩ := ih.1 (by omega)
        exact ⟨k + 1, by simpa using h1, h2, h3⟩
    · rintro ⟨k, h1, h2, h3⟩
      cases k with
      | zero =>
        rw [if_pos ⟨h2, h3⟩]
        omega
      | succ k =>
        have := ih.2 ⟨k, by simpa using h1, h2, h3⟩
        split <;> omega
/-- churn, variant by variant -/
theorem chu_lev (n : Nat) : ∀ a b : List Int, a.length = b.length → (∀ i ∈ a, 0 ≤ i ∧ i < n) → chu a b = ((List.range n).map fun v : Nat => lev v a b).sum
  | [], [], _, _ => by
    have : ∀ m : Nat, ((List.range m).map fun v : Nat => lev v [] []).sum = 0 := fun m => by
      induction m with
      | zero => rfl
      | succ m ih => rw [List.range_succ, List.map_append, List.sum_append, ih]; rfl
    rw [this]
    rfl
  | [], _ :: _, h, _ => by simp at h
  | _ :: _, [], h, _ => by simp at h
  | x :: xs, y :: ys, h, hx => by
    have ih := chu_lev n xs ys (by simpa using h) fun i hi => hx i (List.mem_cons_of_mem _ hi)
    have hb := hx x List.mem_cons_self
    have key : ∀ m : Nat, ((List.range m).map fun v : Nat => lev v (x :: xs) (y :: ys)).sum = (if x < m ∧ x ≠ y then 1 else 0) + ((List.range m).map fun v : Nat => lev v xs ys).sum := fun m => by
      induction m with
      | zero =>
        rw [if_neg (by omega)]
        rfl
      | succ m ihm =>
        rw [List.range_succ, List.map_append, List.map_append, List.sum_append, List.sum_append, ihm]
        simp only [List.map_cons, List.map_nil, List.sum_cons, List.sum_nil, lev]
        by_cases h1 : x = (m : Int)
        · subst h1
          by_cases h2 : y = (m : Int) <;> simp [h2] <;> (try split) <;> omega
        · have e1 : ¬ (x = (m : Int) ∧ y ≠ (m : Int)) := fun z => h1 z.1
          rw [if_neg e1]
          by_cases h2 : x < m ∧ x ≠ y
          · rw [if_pos h2, if_pos ⟨by omega, h2.2⟩]; omega
          · rw [if_neg h2, if_neg (fun z => h2 ⟨by omega, z.2⟩)]; omega
    rw [chu, ih, key n]
    by_cases hxy : x = y
    · rw [if_pos hxy, if_neg (fun z => z.2 hxy)]
    · rw [if_neg hxy, if_pos ⟨hb.2, hxy⟩]
theorem sum_eq_iff (f g : Nat → Int) (n : Nat) (h : ∀ v, v < n → g v ≤ f v) : (((List.range n).map f).sum = ((List.range n).map g).sum ↔ ∀ v, v < n → f v = g v) ∧ ((List.range n).map g).sum ≤ ((List.range n).map f).sum := by
  induction n with
  | zero => exact ⟨⟨fun _ v hv => absurd hv (by omega), fun _ => rfl⟩, Int.le_refl _⟩
  | succ n ih =>
    obtain ⟨i1, i2⟩ := ih fun v hv => h v (by omega)
    have hn := h n (by omega)
    simp only [List.range_succ, List.map_append, List.sum_append, List.map_cons, List.map_nil, List.sum_cons, List.sum_nil]
    refine ⟨⟨fun e v hv => ?_, fun e => ?_⟩, by omega⟩
    · have q : ((List.range n).map f).sum = ((List.range n).map g).sum := by omega
      by_cases hv' : v = n
      · subst hv'; omega
      · exact i1.1 q v (by omega)
    · have q := i1.2 fun v hv => e v (by omega)
      have := e n (by omega)
      omega
theorem trf_lev (a b : List Int) (n : Nat) (h : a.length = b.length) : trf (cnt a n) (cnt b n) = ((List.range n).map fun v : Nat => if lev v a b - lev v b a > 0 then lev v a b - lev v b a else 0).sum := by
  rw [trf_range _ _ (by simp [cnt])]
  have hl : (cnt a n).length = n := by simp [cnt]
  rw [hl]
  refine congrArg _ (List.map_congr_left fun v hv => ?_)
  rw [List.mem_range] at hv
  have e1 : (cnt a n).getD v 0 = ((a.count (v : Int) : Nat) : Int) := by simp [cnt, hv]
  have e2 : (cnt b n).getD v 0 = ((b.count (v : Int) : Nat) : Int) := by simp [cnt, hv]
  rw [e1, e2, count_lev v a b h]
theorem pos_le (L E : Int) (h1 : 0 ≤ L) (h2 : 0 ≤ E) : (if L - E > 0 then L - E else 0) ≤ L := by split <;> omega
theorem pos_eq (L E : Int) (h1 : 0 ≤ L) (h2 : 0 ≤ E) (h : L = 0 ∨ E = 0) : L = if L - E > 0 then L - E else 0 := by split <;> omega
theorem pos_ne (L E : Int) (h1 : 0 ≤ L) (h2 : 0 ≤ E) (h : L = if L - E > 0 then L - E else 0) : L = 0 ∨ E = 0 := by split at h <;> omega
/-- no move is needless exactly if the churn is the transfer -/
theorem min_iff (a b : List Int) (n : Nat) (h : a.length = b.length) (ha : ∀ i ∈ a, 0 ≤ i ∧ i < n) (hb : ∀ i ∈ b, 0 ≤ i ∧ i < n) :
    (∀ k, k < a.length → a.getD k 0 ≠ b.getD k 0 → b.count (a.getD k 0) < a.count (a.getD k 0) ∧ a.count (b.getD k 0) < b.count (b.getD k 0)) ↔ chu a b = trf (cnt a n) (cnt b n) := by
  rw [chu_lev n a b h ha, trf_lev a b n h, (sum_eq_iff (fun v : Nat => lev v a b) (fun v : Nat => if lev v a b - lev v b a > 0 then lev v a b - lev v b a else 0) n fun v _ => by
    exact pos_le _ _ (lev_nonneg v a b) (lev_nonneg v b a)).1]
  constructor
  · intro hk v hv
    have h1 := lev_nonneg v a b
    have h2 := lev_nonneg v b a
    have q : lev v a b = 0 ∨ lev v b a = 0 := by
      refine Classical.byContradiction fun z => ?_
      obtain ⟨k, k1, k2, k3⟩ := (lev_pos v a b h).1 (by omega)
      obtain ⟨j, j1, j2, j3⟩ := (lev_pos v b a h.symm).1 (by omega)
      have z1 := (hk k k1 (by rw [k2]; exact fun e => k3 e.symm)).1
      have z2 := (hk j (by omega) (by rw [j2]; exact j3)).2
      rw [k2] at z1
      rw [j2] at z2
      omega
    exact pos_eq _ _ h1 h2 q
  · intro hv k hk hne
    have hkb : k < b.length := by omega
    have xa : a.getD k 0 ∈ a := by simp [hk]
    have xb : b.getD k 0 ∈ b := by simp [hkb]
    have ba := ha _ xa
    have bb := hb _ xb
    have ea : (((a.getD k 0).toNat : Nat) : Int) = a.getD k 0 := Int.toNat_of_nonneg ba.1
    have eb : (((b.getD k 0).toNat : Nat) : Int) = b.getD k 0 := Int.toNat_of_nonneg bb.1
    have p1 := (lev_pos (a.getD k 0) a b h).2 ⟨k, hk, rfl, fun e => hne e.symm⟩
    have p2 := (lev_pos (b.getD k 0) b a h.symm).2 ⟨k, hkb, rfl, hne⟩
    have v1 := hv (a.getD k 0).toNat (by omega)
    have v2 := hv (b.getD k 0).toNat (by omega)
    simp only [ea, eb] at v1 v2
    have c1 := count_lev (a.getD k 0) a b h
    have c2 := count_lev (b.getD k 0) a b h
    have n1 := lev_nonneg (a.getD k 0) b a
    have n2 := lev_nonneg (b.getD k 0) a b
    have w1 := pos_ne _ _ (Int.le_of_lt p1) n1 v1
    have w2 := pos_ne _ _ n2 (Int.le_of_lt p2) v2
    constructor <;> omega
end DCom


namespace DCom
open PySem DL
/-! all rows; least changes -/
abbrev tp (row : List Int) : PyData := .tuple (row.map .int)
theorem appE (xs : List PyData) (y : PyData) (h : xs.length < 16777216) : mApp xs [y] = some (.none, xs ++ [y]) := if_pos h
theorem addT (xs ys : List PyData) (h : xs.length + ys.length ≤ 16777216) : dAdd (.tuple xs) (.tuple ys) = some (.tuple (xs ++ ys)) := if_pos h
theorem addL (xs ys : List PyData) (h : xs.length + ys.length ≤ 16777216) : dAdd (.list xs) (.list ys) = some (.list (xs ++ ys)) := if_pos h
def extR (n : Nat) (row : List Int) : List (List Int) := (List.range n).map fun v : Nat => row ++ [(v : Int)]
def allR (n : Nat) : Nat → List (List Int)
  | 0 => [[]]
  | k + 1 => (allR n k).flatMap (extR n)
theorem extR_len (n : Nat) (row : List Int) : (extR n row).length = n := by simp [extR]
theorem fm_len {α β : Type} (f : α → List β) (c : Nat) (h : ∀ x, (f x).length ≤ c) : ∀ l : List α, (l.flatMap f).length ≤ c * l.length
  | [] => by simp
  | x :: l => by
    have := fm_len f c h l
    have := h x
    rw [List.flatMap_cons, List.length_append, List.length_cons, Nat.mul_succ]
    omega
theorem allR_len (n : Nat) (h : n ≤ 5) : ∀ k, (allR n k).length ≤ 5 ^ k
  | 0 => by simp [allR]
  | k + 1 => by
    have := allR_len n h k
    have q := fm_len (extR n) 5 (fun x => by rw [extR_len]; exact h) (allR n k)
    rw [allR, Nat.pow_succ]
    omega
theorem mem_ext {n : Nat} {row x : List Int} : x ∈ extR n row ↔ ∃ v : Nat, v < n ∧ x = row ++ [(v : Int)] := by
  unfold extR
  rw [List.mem_map]
  constructor
  · rintro ⟨v, hv, rfl⟩
    exact ⟨v, List.mem_range.1 hv, rfl⟩
  · rintro ⟨v, h1, rfl⟩
    exact ⟨v, List.mem_range.2 h1, rfl⟩
theorem mem_allR (n : Nat) : ∀ (k : Nat) (row : List Int), row ∈ allR n k ↔ row.length = k ∧ ∀ i ∈ row, 0 ≤ i ∧ i < n
  | 0, row => by
    rw [allR, List.mem_singleton]
    constructor
    · rintro rfl
      exact ⟨rfl, by simp⟩
    · rintro ⟨h, _⟩
      exact List.eq_nil_of_length_eq_zero h
  | k + 1, row => by
    rw [allR, List.mem_flatMap]
    constructor
    · rintro ⟨r, hr, hx⟩
      obtain ⟨v, v1, rfl⟩ := mem_ext.1 hx
      obtain ⟨m1, m2⟩ := (mem_allR n k r).1 hr
      refine ⟨by simp [m1], fun i hi => ?_⟩
      rcases List.mem_append.1 hi with hi | hi
      · exact m2 i hi
      · rw [List.mem_singleton.1 hi]; omega
    · rintro ⟨m1, m2⟩
      have hne : row ≠ [] := fun e => by rw [e] at m1; simp at m1
      have hd := List.dropLast_concat_getLast hne
      have hb := m2 _ (List.getLast_mem hne)
      have hv : (((row.getLast hne).toNat : Nat) : Int) = row.getLast hne := Int.toNat_of_nonneg hb.1
      exact ⟨row.dropLast, (mem_allR n k _).2 ⟨by simp [m1], fun i hi => m2 i (List.dropLast_subset _ hi)⟩, mem_ext.2 ⟨(row.getLast hne).toNat, by omega, by rw [hv, hd]⟩⟩
theorem cntSum (a : List Int) (m : Nat) (h : ∀ i ∈ a, 0 ≤ i ∧ i < m) : (cnt a m).sum = a.length := by
  induction m generalizing a with
  | zero =>
    cases a with
    | nil => rfl
    | cons x xs => have := h x List.mem_cons_self; omega
  | succ m ih =>
    have hs : a.length = (a.filter fun x => x == (m : Int)).length + (a.filter fun x => !(x == (m : Int))).length := by
      induction a with
      | nil => rfl
      | cons x xs ih2 =>
        have := ih2 fun i hi => h i (List.mem_cons_of_mem _ hi)
        rw [List.filter_cons, List.filter_cons]
        by_cases hx : (x == (m : Int)) = true <;> simp [hx] <;> omega
    have h2 := ih (a.filter fun x => !(x == (m : Int))) fun i hi => by
      rw [List.mem_filter] at hi
      have := h i hi.1
      have h3 : i ≠ (m : Int) := by simpa using hi.2
      omega
    have h3 : cnt a m = cnt (a.filter fun x => !(x == (m : Int))) m := by
      rw [cnt, cnt]
      refine List.map_congr_left fun i hi => ?_
      rw [List.mem_range] at hi
      rw [List.count_filter (by simp; omega)]
    have h4 : cnt a (m + 1) = cnt a m ++ [((a.count (m : Int) : Nat) : Int)] := by
      rw [cnt, List.range_succ, List.map_append]
      rfl
    rw [h4, List.sum_append, h3, h2, List.count_eq_length_filter]
    simp
    omega
theorem cnt_len (a : List Int) (n : Nat) : (cnt a n).length = n := by simp [cnt]
theorem cnt_get (a : List Int) (n v : Nat) (h : v < n) : (cnt a n).getD v 0 = ((a.count (v : Int) : Nat) : Int) := by simp [cnt, h]
theorem cntGood (a : List Int) (n : Nat) (h1 : 1 ≤ n) (h5 : n ≤ 5) (hl : a.length ≤ 20) (h : ∀ i ∈ a, 0 ≤ i ∧ i < n) : Good (cnt a n) := by
  have hs := cntSum a n h
  refine ⟨by rw [cnt_len]; exact h1, by rw [cnt_len]; exact h5, fun i hi => ?_, by omega⟩
  rw [cnt, List.mem_map] at hi
  obtain ⟨v, hv, rfl⟩ := hi
  have := List.count_le_length (a := (v : Int)) (l := a)
  omega
theorem trf_le_chu (a b : List Int) (n : Nat) (h : a.length = b.length) (ha : ∀ i ∈ a, 0 ≤ i ∧ i < n) : trf (cnt a n) (cnt b n) ≤ chu a b := by
  rw [chu_lev n a b h ha, trf_lev a b n h]
  exact (sum_eq_iff (fun v : Nat => lev v a b) (fun v : Nat => if lev v a b - lev v b a > 0 then lev v a b - lev v b a else 0) n fun v _ => pos_le _ _ (lev_nonneg v a b) (lev_nonneg v b a)).2
theorem sum_upd (f g : Nat → Int) (k : Nat) : ∀ n, k < n → (∀ v, v < n → v ≠ k → f v = g v) → ((List.range n).map f).sum = ((List.range n).map g).sum + (f k - g k)
  | 0, h, _ => absurd h (by omega)
  | n + 1, h, e => by
    simp only [List.range_succ, List.map_append, List.sum_append, List.map_cons, List.map_nil, List.sum_cons, List.sum_nil]
    by_cases hk : k = n
    · subst hk
      have : (List.range k).map f = (List.range k).map g := List.map_congr_left fun v hv => e v (by rw [List.mem_range] at hv; omega) (by rw [List.mem_range] at hv; omega)
      rw [this]
      omega
    · have ih := sum_upd f g k n (by omega) fun v hv hvk => e v (by omega) hvk
      have := e n (by omega) (by omega)
      omega
theorem sum_same (f g : Nat → Int) (n : Nat) (e : ∀ v, v < n → f v = g v) : ((List.range n).map f).sum = ((List.range n).map g).sum :=
  congrArg _ (List.map_congr_left fun v hv => e v (List.mem_range.1 hv))
def pos (x : Int) : Int := if x > 0 then x else 0
def tsf (n : Nat) (xs : List Int) (c : Nat → Int) : Int := ((List.range n).map fun v : Nat => pos ((xs.count (v : Int) : Int) - c v)).sum
/-- the head goes to w, the rest goes on -/
def headOk (c : Nat → Int) (x : Int) (xs : List Int) (w : Nat) : Prop := ((w : Int) = x ∧ 0 < c w) ∨ ((w : Int) ≠ x ∧ c x.toNat < ((x :: xs).count x : Int) ∧ ((x :: xs).count (w : Int) : Int) < c w)
def less (c : Nat → Int) (w : Nat) : Nat → Int := fun v => if v = w then c v - 1 else c v
def IsLeast (n : Nat) (xs : List Int) (c : Nat → Int) (b : List Int) : Prop := b.length = xs.length ∧ (∀ i ∈ b, 0 ≤ i ∧ i < n) ∧ (∀ v, v < n → (b.count (v : Int) : Int) = c v) ∧ chu xs b = tsf n xs c
theorem head_step (n : Nat) (c : Nat → Int) (x : Int) (xs b : List Int) (w : Nat) (hw : w < n) (hx : 0 ≤ x ∧ x < n) (ok : headOk c x xs w) (h : IsLeast n xs (less c w) b) : IsLeast n (x :: xs) c ((w : Int) :: b) := by
  obtain ⟨h1, h2, h3, h4⟩ := h
  refine ⟨by simp [h1], fun i hi => ?_, fun v hv => ?_, ?_⟩
  · rcases List.mem_cons.1 hi with e | hi
    · omega
    · exact h2 i hi
  · have := h3 v hv
    rw [List.count_cons]
    unfold less at this
    by_cases e : v = w
    · subst e
      rw [if_pos rfl] at this
      simp
      omega
    · rw [if_neg e] at this
      have e' : ((w : Int) == (v : Int)) = false := by simp; omega
      rw [e']
      simp
      omega
  · rw [chu, h4]
    have ex : ((x.toNat : Nat) : Int) = x := Int.toNat_of_nonneg hx.1
    rcases ok with ⟨e, hc⟩ | ⟨e, hc, hd⟩
    · rw [if_pos e.symm, Int.zero_add]
      refine sum_same _ _ n fun v hv => ?_
      unfold less
      by_cases q : v = w
      · subst q
        rw [if_pos rfl, List.count_cons, ← e]
        simp
        congr 1
        omega
      · rw [if_neg q, List.count_cons]
        have e' : (x == (v : Int)) = false := by simp; omega
        rw [e']
        simp
    · rw [if_neg fun z => e z.symm]
      have key := sum_upd (fun v : Nat => pos (((x :: xs).count (v : Int) : Int) - c v)) (fun v : Nat => pos ((xs.count (v : Int) : Int) - less c w v)) x.toNat n (by omega) (fun v hv hvx => by
        have e' : (x == (v : Int)) = false := by simp; omega
        have c1 : (x :: xs).count (v : Int) = xs.count (v : Int) := by rw [List.count_cons, e']; simp
        unfold less
        by_cases q : v = w
        · subst q
          rw [if_pos rfl]
          show pos _ = pos _
          rw [c1] at hd ⊢
          unfold pos
          rw [if_neg (by omega), if_neg (by omega)]
        · rw [if_neg q]
          show pos _ = pos _
          rw [c1])
      have q : less c w x.toNat = c x.toNat := if_neg (by omega)
      have c2 : (x :: xs).count x = xs.count x + 1 := by rw [List.count_cons]; simp
      simp only [ex, q, c2] at key
      rw [c2] at hc
      have p1 : pos (((xs.count x + 1 : Nat) : Int) - c x.toNat) = (xs.count x : Int) + 1 - c x.toNat := by
        unfold pos
        rw [if_pos (by omega)]
        omega
      have p2 : pos (((xs.count x : Nat) : Int) - c x.toNat) = (xs.count x : Int) - c x.toNat := by
        unfold pos
        split <;> omega
      rw [p1, p2] at key
      show 1 + tsf n xs (less c w) = tsf n (x :: xs) c
      unfold tsf
      omega
theorem ex_least (n : Nat) : ∀ (xs : List Int) (c : Nat → Int), (∀ i ∈ xs, 0 ≤ i ∧ i < n) → (∀ v, v < n → 0 ≤ c v) → ((List.range n).map c).sum = xs.length → ∃ b, IsLeast n xs c b
  | [], c, _, hc, hs => by
    have z := (sum_eq_iff c (fun _ => 0) n hc).1
    have zs : ((List.range n).map fun _ => (0 : Int)).sum = 0 := by
      have : ∀ l : List Nat, (l.map fun _ => (0 : Int)).sum = 0 := fun l => by
        induction l with
        | nil => rfl
        | cons a l ih => rw [List.map_cons, List.sum_cons, ih]; rfl
      exact this _
    have h0 := z.1 (by rw [zs, hs]; rfl)
    refine ⟨[], rfl, by simp, fun v hv => by rw [h0 v hv]; rfl, ?_⟩
    show 0 = _
    rw [tsf, sum_same _ (fun _ => 0) n fun v hv => by rw [h0 v hv]; rfl, zs]
  | x :: xs, c, hx, hc, hs => by
    have bx := hx x List.mem_cons_self
    have ex : ((x.toNat : Nat) : Int) = x := Int.toNat_of_nonneg bx.1
    have hw : ∃ w : Nat, w < n ∧ headOk c x xs w ∧ 0 < c w := by
      by_cases h0 : 0 < c x.toNat
      · exact ⟨x.toNat, by omega, .inl ⟨ex, h0⟩, h0⟩
      · refine Classical.byContradiction fun hn => ?_
        have c2 : (x :: xs).count x = xs.count x + 1 := by rw [List.count_cons]; simp
        have all : ∀ v, v < n → c v ≤ ((x :: xs).count (v : Int) : Int) := fun v hv => by
          refine Int.not_lt.1 fun hlt => hn ⟨v, hv, .inr ⟨fun e => ?_, by rw [c2]; omega, hlt⟩, by omega⟩
          have : v = x.toNat := by omega
          subst this
          rw [ex] at hlt
          rw [c2] at hlt
          omega
        have q := (sum_eq_iff (fun v : Nat => (((x :: xs).count (v : Int) : Nat) : Int)) c n all).1.1 (by
          rw [hs]
          exact cntSum (x :: xs) n hx) x.toNat (by omega)
        rw [ex, c2] at q
        omega
    obtain ⟨w, w1, w2, w3⟩ := hw
    have hl : ((List.range n).map (less c w)).sum = xs.length := by
      have := sum_upd (less c w) c w n w1 fun v _ hv => if_neg hv
      have e : less c w w = c w - 1 := if_pos rfl
      rw [e, hs] at this
      rw [this, List.length_cons]
      omega
    obtain ⟨b, hb⟩ := ex_least n xs (less c w) (fun i hi => hx i (List.mem_cons_of_mem _ hi)) (fun v hv => by
      unfold less
      split
      · rename_i e; subst e; omega
      · exact hc v hv) hl
    exact ⟨_, head_step n c x xs b w w1 bx w2 hb⟩
theorem tsf_trf (n : Nat) (xs cl : List Int) (h : cl.length = n) : tsf n xs (fun v => cl.getD v 0) = trf (cnt xs n) cl := by
  rw [trf_range _ _ (by rw [cnt_len, h]), cnt_len]
  refine sum_same _ _ n fun v hv => ?_
  rw [cnt_get xs n v hv]
  rfl
theorem sumGet (a : List Int) : a.sum = ((List.range a.length).map fun v : Nat => a.getD v 0).sum := by
  congr 1
  refine List.ext_getElem (by simp) fun v h3 h4 => ?_
  simp [h3]
theorem cnt_eq {b cl : List Int} {n : Nat} (h : cl.length = n) (hc : ∀ v, v < n → (b.count (v : Int) : Int) = cl.getD v 0) : cnt b n = cl := by
  refine List.ext_getElem (by rw [cnt_len, h]) fun v h1 h2 => ?_
  have := hc v (by omega)
  simp [cnt]
  simpa [h2] using this
end DCom


namespace DCor
open PySem DL DCom
/-! rules: draws -/
abbrev tp (r : List Int) : PyData := .tuple (r.map .int)
abbrev ls (r : List Int) : PyData := .list (r.map .int)
theorem appL (xs : List PyData) (y : PyData) (h : xs.length < 16777216) : mApp xs [y] = some (.none, xs ++ [y]) := if_pos h
theorem addT (xs ys : List PyData) (h : xs.length + ys.length ≤ 16777216) : dAdd (.tuple xs) (.tuple ys) = some (.tuple (xs ++ ys)) := if_pos h
theorem cut_take (xs : List PyData) (k : Int) (h : 0 ≤ k) : cutD xs none (some k) = xs.take k.toNat := by
  have : ¬ k < 0 := by omega
  simp only [cutD, HT.sIx, if_neg this, List.drop_zero, Nat.sub_zero]
  rw [List.take_eq_take_iff]
  simp
theorem at_row (r : List Int) (j : Nat) (h : j < r.length) : L2.atI (r.map PyData.int) (j : Int) = some (.int (r.getD j 0)) := by simp [atI_nat, h]
/-! shuffled -/
theorem shuffled_ex (s : Strm) (n : Int) (hn : 0 ≤ n) (hn2 : n ≤ 1000) : ∃ (al : List Int) (s' : Strm), f__law_shuffled [s.m, .d (.int n)] = .rt (.d (ls al)) [some s'.m, none] ∧ IsO al n.toNat := by
  have hr : (n ≤ 16777216 ∧ -(2 ^ 62) ≤ n) = True := by simp; omega
  have e0 : rangeD 0 n.toNat = ((List.range n.toNat).map fun i : Nat => (i : Int)).map .int := by
    rw [rangeD_eq, List.map_map]; rfl
  obtain ⟨e', h1, al, left, s', o4, rfl, h3, h4, h5⟩ := forGo_rel (g := gN 4) (body := sDrop (mD (eMt 3 mApp (aCons (eMt 2 mPopAt (aCons (eFrz (eCall 2 f__law_next (avS 0 (avD (eBO 2 bLen) (avNil))))) (aNil))) (aNil)))))
    (fun xs e => ∃ (al left : List Int) (s : Strm) (o4 : Option M), e = [some s.m, some (.d (.int n)), some (.l (left.map .int)), some (.l (al.map .int)), o4] ∧ left.length = xs.length ∧ (al.length + xs.length : Int) = n ∧ (al ++ left).Perm ((List.range n.toNat).map fun i : Nat => (i : Int))) (by
      rintro x xs e ⟨al, left, s, o4, rfl, h1, h2, h3⟩
      rw [List.length_cons] at h1 h2
      obtain ⟨d, s', e1, h4, h5⟩ := next_ex s left.length (by omega) (by omega)
      have hd : d.toNat < left.length := by omega
      refine ⟨[some s.m, some (.d (.int n)), some (.l (left.map .int)), some (.l (al.map .int)), some (.d x)], [some s'.m, some (.d (.int n)), some (.l ((left.eraseIdx d.toNat).map .int)), some (.l ((al ++ [left[d.toNat]]).map .int)), some (.d x)], ?_, .inl ?_, al ++ [left[d.toNat]], left.eraseIdx d.toNat, s', _, rfl, ?_, ?_, ?_⟩
      · simp only [dlall]
      · have hi := ixN_int left.length d h4 (by omega)
        have ha := appL (al.map .int) (.int left[d.toNat]) (by simp; omega)
        have hm : (al ++ [left[d.toNat]]).map PyData.int = al.map .int ++ [.int left[d.toNat]] := by simp
        simp only [dlall, List.length_map, e1, mPopAt, List.getElem?_map, List.getElem?_eq_getElem hd, hi, er_map, ha, hm]
      · rw [List.length_eraseIdx_of_lt hd]
        omega
      · rw [List.length_append, List.length_singleton]; omega
      · refine List.Perm.trans ?_ h3
        rw [List.append_assoc]
        refine List.Perm.append_left al ?_
        show ([left[d.toNat]] ++ left.eraseIdx d.toNat).Perm left
        exact (er_perm left _ hd)) (rangeD 0 n.toNat) [some s.m, some (.d (.int n)), some (.l (((List.range n.toNat).map fun i : Nat => (i : Int)).map .int)), some (.l (([] : List Int).map .int)), none] ⟨[], _, s, none, rfl, by simp [rangeD_len], by simp [rangeD_len]; omega, by simp⟩
  have hl : left = [] := List.eq_nil_of_length_eq_zero h3
  subst hl
  rw [List.append_nil] at h5
  refine ⟨al, s', ?_, by rw [h5.length_eq]; simp, h5⟩
  rw [e0, List.map_nil] at h1
  simp only [dlall, f__law_shuffled, b__law_shuffled, hr, e0, h1]
/-- lists of buckets, one for each variant but the control -/
def Lsts (Ls : List (List Int)) (v n : Nat) : Prop := Ls.length + 1 = v ∧ ∀ l ∈ Ls, IsO l n
/-! all allocations -/
def extA (n : Nat) (r : List Int) : List (List Int) := (List.range ((n : Int) - r.sum + 1).toNat).map fun i : Nat => r ++ [(i : Int)]
def preA (n : Nat) : Nat → List (List Int)
  | 0 => [[]]
  | k + 1 => (preA n k).flatMap (extA n)
def alcs (v n : Nat) : List (List Int) := (preA n (v - 1)).map fun r => r ++ [(n : Int) - r.sum]
theorem mem_preA (n : Nat) : ∀ (k : Nat) (r : List Int), r ∈ preA n k → r.length = k ∧ (∀ i ∈ r, 0 ≤ i) ∧ r.sum ≤ n
  | 0, r, h => by
    simp only [preA, List.mem_singleton] at h
    subst h
    exact ⟨rfl, (fun i hi => nomatch hi), by simp⟩
  | k + 1, r, h => by
    obtain ⟨y, hy, hr⟩ := List.mem_flatMap.1 h
    obtain ⟨i, hi, rfl⟩ := List.mem_map.1 hr
    have hi := List.mem_range.1 hi
    obtain ⟨h1, h2, h3⟩ := mem_preA n k y hy
    refine ⟨by simp [h1], fun j hj => ?_, by rw [List.sum_append, List.sum_cons, List.sum_nil]; omega⟩
    rcases List.mem_append.1 hj with hj | hj
    · exact h2 j hj
    · simp only [List.mem_singleton] at hj
      omega
theorem sum_nn : ∀ {r : List Int}, (∀ i ∈ r, 0 ≤ i) → 0 ≤ r.sum
  | [], _ => by simp
  | x :: r, h => by
    have := sum_nn fun i hi => h i (List.mem_cons_of_mem _ hi)
    have := h x List.mem_cons_self
    rw [List.sum_cons]; omega
theorem extA_len (n : Nat) (r : List Int) (h : ∀ i ∈ r, 0 ≤ i) : (extA n r).length ≤ n + 1 := by
  have := sum_nn h
  unfold extA
  rw [List.length_map, List.length_range]
  omega
theorem fm_len {α β : Type} (f : α → List β) (m : Nat) : ∀ l : List α, (∀ x ∈ l, (f x).length ≤ m) → (l.flatMap f).length ≤ m * l.length
  | [], _ => by simp
  | x :: l, h => by
    have h1 := fm_len f m l fun y hy => h y (List.mem_cons_of_mem _ hy)
    have h2 := h x List.mem_cons_self
    rw [List.flatMap_cons, List.length_append, List.length_cons, Nat.mul_succ]
    omega
theorem preA_len (n : Nat) : ∀ k, (preA n k).length ≤ (n + 1) ^ k
  | 0 => by simp [preA]
  | k + 1 => by
    have h1 := preA_len n k
    have h2 := fm_len (extA n) (n + 1) (preA n k) fun r hr => extA_len n r (mem_preA n k r hr).2.1
    rw [preA, Nat.pow_succ, Nat.mul_comm]
    exact Nat.le_trans h2 (Nat.mul_le_mul_left _ h1)
theorem preA_nodup (n : Nat) : ∀ k, (preA n k).Nodup
  | 0 => by simp [preA]
  | k + 1 => by
    unfold List.Nodup
    rw [preA, List.pairwise_flatMap]
    refine ⟨fun r _ => ?_, ?_⟩
    · unfold extA
      rw [List.pairwise_map]
      refine List.Pairwise.imp (fun {a b} hab e => ?_) (List.nodup_range (n := ((n : Int) - r.sum + 1).toNat))
      have := List.append_cancel_left e
      simp only [List.cons.injEq, and_true] at this
      exact hab (by omega)
    · refine List.Pairwise.imp (fun {a b} hab x hx y hy e => ?_) (preA_nodup n k)
      obtain ⟨i, _, rfl⟩ := List.mem_map.1 hx
      obtain ⟨j, _, rfl⟩ := List.mem_map.1 hy
      exact hab (List.append_inj' e rfl).1
theorem alcs_nodup (v n : Nat) : (alcs v n).Nodup := by
  unfold alcs List.Nodup
  rw [List.pairwise_map]
  exact List.Pairwise.imp (fun {a b} hab e => hab (List.append_inj' e rfl).1) (preA_nodup n (v - 1))
structure Alc (a : List Int) (v n : Nat) : Prop where
  len : a.length = v
  nn : ∀ i ∈ a, 0 ≤ i
  sum : a.sum = n
theorem mem_alcs {v n : Nat} (hv : 1 ≤ v) {a : List Int} (h : a ∈ alcs v n) : Alc a v n := by
  obtain ⟨r, hr, rfl⟩ := List.mem_map.1 h
  obtain ⟨h1, h2, h3⟩ := mem_preA n _ r hr
  refine ⟨by rw [List.length_append, List.length_singleton]; omega, fun i hi => ?_, by rw [List.sum_append, List.sum_cons, List.sum_nil]; omega⟩
  rcases List.mem_append.1 hi with hi | hi
  · exact h2 i hi
  · simp only [List.mem_singleton] at hi
    omega
theorem preA_pos (n : Nat) : ∀ k, 0 < (preA n k).length
  | 0 => by simp [preA]
  | k + 1 => by
    have h := preA_pos n k
    cases hp : preA n k with
    | nil => rw [hp] at h; simp at h
    | cons r t =>
      have hm := (mem_preA n k r (by rw [hp]; simp)).2.2
      rw [preA, hp, List.flatMap_cons, List.length_append]
      have : 0 < (extA n r).length := by unfold extA; rw [List.length_map, List.length_range]; omega
      omega
theorem alcs_len (v n : Nat) (hv : v ≤ 4) (hn : n ≤ 4) : 0 < (alcs v n).length ∧ (alcs v n).length ≤ 625 := by
  unfold alcs
  rw [List.length_map]
  refine ⟨preA_pos n _, Nat.le_trans (preA_len n _) ?_⟩
  have h1 : (n + 1) ^ (v - 1) ≤ 5 ^ (v - 1) := Nat.pow_le_pow_left (by omega) _
  have h2 : 5 ^ (v - 1) ≤ 5 ^ 4 := Nat.pow_le_pow_right (by omega) (by omega)
  omega
theorem sum_t (r : List Int) : bSum [.tuple (r.map .int)] = some (.int r.sum) := by simp
abbrev acB0 : DL.Env → Out := sDrop (mD (eMt 4 mApp (aCons (e2 dAdd (eVar 5) (eTup (aCons (eVar 6) (aNil)))) (aNil))))
abbrev acB1 : DL.Env → Out := sFor (itB bRange1 (aCons (e2 dAdd (e2 dSub (eVar 1) (eB bSum (aCons (eVar 5) (aNil)))) (eC (.int 1))) (aNil))) (gN 6) acB0
theorem ac_in (n : Nat) (hn : n ≤ 4) (r : List Int) (h1 : r.length ≤ 10) (h2 : ∀ i ∈ r, 0 ≤ i) (h3 : r.sum ≤ n) (A : List (List Int)) (hA : A.length ≤ 100000) (o0 o2 o3 o6 : Option M) : ∃ o6' : Option M,
    acB1 [o0, some (.d (.int n)), o2, o3, some (.l (A.map tp)), some (.d (tp r)), o6] = .nx [o0, some (.d (.int n)), o2, o3, some (.l ((A ++ extA n r).map tp)), some (.d (tp r)), o6'] := by
  have hs := sum_nn h2
  have kr : ((n : Int) - r.sum + 1 ≤ 16777216 ∧ -(2 ^ 62) ≤ (n : Int) - r.sum + 1) = True := by simp; omega
  let f : Nat → List Int := fun i => r ++ [(i : Int)]
  obtain ⟨e', q, o6', rfl⟩ := forGo_range (g := gN 6) (body := acB0) ((n : Int) - r.sum + 1).toNat (fun k e => ∃ o6 : Option M, e = [o0, some (.d (.int n)), o2, o3, some (.l ((A ++ (List.range k).map f).map tp)), some (.d (tp r)), o6]) (by
    rintro k e hk ⟨o6, rfl⟩
    have q := addT (r.map .int) [.int (k : Int)] (by simp; omega)
    have m : tp (f k) = .tuple (r.map .int ++ [.int (k : Int)]) := by simp [tp, f]
    have ap := appL ((A ++ (List.range k).map f).map tp) (tp (f k)) (by
      rw [List.length_map, List.length_append, List.length_map, List.length_range]; omega)
    have m2 : (A ++ (List.range (k + 1)).map f).map tp = (A ++ (List.range k).map f).map tp ++ [tp (f k)] := by
      rw [List.range_succ]; simp
    rw [m] at ap m2
    refine ⟨_, [o0, some (.d (.int n)), o2, o3, some (.l ((A ++ (List.range (k + 1)).map f).map tp)), some (.d (tp r)), some (.d (.int k))], rfl, .inl ?_, _, rfl⟩
    simp only [dlall, acB0, q, ap, m2]) [o0, some (.d (.int n)), o2, o3, some (.l (A.map tp)), some (.d (tp r)), o6] ⟨o6, by simp⟩
  refine ⟨o6', ?_⟩
  have e1 : (List.range ((n : Int) - r.sum + 1).toNat).map f = extA n r := rfl
  rw [e1] at q
  simp only [dlall, acB1, sum_t, kr, q]
theorem ac_rows (n : Nat) (hn : n ≤ 4) (o0 o2 o3 : Option M) : ∀ (R A : List (List Int)) (o5 o6 : Option M), (∀ r ∈ R, r.length ≤ 10 ∧ (∀ i ∈ r, 0 ≤ i) ∧ r.sum ≤ n) → A.length + 5 * R.length ≤ 90000 → ∃ o5' o6' : Option M,
    forGo (gN 5) acB1 (R.map tp) [o0, some (.d (.int n)), o2, o3, some (.l (A.map tp)), o5, o6] = .nx [o0, some (.d (.int n)), o2, o3, some (.l ((A ++ R.flatMap (extA n)).map tp)), o5', o6']
  | [], A, o5, o6, _, _ => ⟨o5, o6, by simp⟩
  | r :: R, A, o5, o6, h, hl => by
    rw [List.length_cons] at hl
    obtain ⟨h1, h2, h3⟩ := h r List.mem_cons_self
    obtain ⟨o6', q⟩ := ac_in n hn r h1 h2 h3 A (by omega) o0 o2 o3 o6
    have hx := extA_len n r h2
    obtain ⟨a, b, ih⟩ := ac_rows n hn o0 o2 o3 R (A ++ extA n r) (some (.d (tp r))) o6' (fun y hy => h y (List.mem_cons_of_mem _ hy)) (by rw [List.length_append]; omega)
    refine ⟨a, b, ?_⟩
    rw [List.map_cons, forGo_cons, gN_eq, optOut_s]
    show (acB1 [o0, some (.d (.int n)), o2, o3, some (.l (A.map tp)), some (.d (tp r)), o6]).lp (forGo (gN 5) acB1 (R.map tp)) = _
    rw [q, lp_nx, ih, List.flatMap_cons, List.append_assoc]
theorem allocations_e (v n : Nat) (hv1 : 1 ≤ v) (hv : v ≤ 4) (hn : n ≤ 4) : f__law_allocations [.d (.int v), .d (.int n)] = .rt (.d (.list ((alcs v n).map tp))) [none, none] := by
  have kv : ((v : Int) - 1 ≤ 16777216 ∧ -(2 ^ 62) ≤ (v : Int) - 1) = True := by simp; omega
  have tv : ((v : Int) - 1).toNat = v - 1 := by omega
  obtain ⟨e', h1, o3, o4, o5, o6, rfl⟩ := forGo_range (g := gN 3) (body := sThen (sSet 4 (mLst (aNil)))
    (sThen (sFor (itSeq (eVar 2)) (gN 5) acB1)
    (sSet 2 (mD (eVarF 4))))) (v - 1) (fun k e => ∃ o3 o4 o5 o6 : Option M, e = [some (.d (.int v)), some (.d (.int n)), some (.d (.list ((preA n k).map tp))), o3, o4, o5, o6]) (by
    rintro k e hk ⟨o3, o4, o5, o6, rfl⟩
    have hle : (preA n k).length ≤ 625 := by
      refine Nat.le_trans (preA_len n k) ?_
      have h1 : (n + 1) ^ k ≤ 5 ^ k := Nat.pow_le_pow_left (by omega) _
      have h2 : 5 ^ k ≤ 5 ^ 4 := Nat.pow_le_pow_right (by omega) (by omega)
      omega
    obtain ⟨o5', o6', q⟩ := ac_rows n hn (some (.d (.int v))) (some (.d (.list ((preA n k).map tp)))) (some (.d (.int k))) (preA n k) [] o5 o6 (fun r hr => by
      obtain ⟨a, b, c⟩ := mem_preA n k r hr
      exact ⟨by omega, b, c⟩) (by simp; omega)
    rw [List.nil_append, List.map_nil] at q
    refine ⟨_, [some (.d (.int v)), some (.d (.int n)), some (.d (.list ((preA n (k + 1)).map tp))), some (.d (.int k)), some (.d (.list ((preA n (k + 1)).map tp))), o5', o6'], rfl, .inl ?_, _, _, _, _, rfl⟩
    simp only [dlall]
    rw [q]
    simp only [dlall]
    rfl) [some (.d (.int v)), some (.d (.int n)), some (.d (.list [.tuple []])), none, none, none, none] ⟨none, none, none, none, rfl⟩
  have hc := compGo_map (g := gN 5) (tt := tYesD) (te := e2 dAdd (eVar 5) (eTup (aCons (e2 dSub (eVar 1) (eB bSum (aCons (eVar 5) (aNil)))) (aNil)))) (vs := [5]) (emb := tp) (e := [some (.d (.int v)), some (.d (.int n)), some (.d (.list ((preA n (v - 1)).map tp))), o3, o4, none, o6]) (fun _ => true) (fun r => tp (r ++ [(n : Int) - r.sum])) (preA n (v - 1)) [] (fun r hr => by
    obtain ⟨a, b, c⟩ := mem_preA n _ r hr
    have q := addT (r.map .int) [.int ((n : Int) - r.sum)] (by simp; omega)
    refine ⟨[some (.d (.int v)), some (.d (.int n)), some (.d (.list ((preA n (v - 1)).map tp))), o3, o4, some (.d (tp r)), o6], ?_, rfl, fun _ => ?_, ?_⟩
    · simp only [dlall]
    · simp only [dlall, sum_t, q, tp, List.map_append]
    · simp only [dlall])
  rw [List.filter_eq_self.2 (by simp), List.nil_append] at hc
  have m : (preA n (v - 1)).map (fun r => tp (r ++ [(n : Int) - r.sum])) = (alcs v n).map tp := by unfold alcs; rw [List.map_map]; rfl
  rw [m] at hc
  simp only [dlall, f__law_allocations, b__law_allocations, kv, tv, h1, hc]
/-! by lists -/
def lat (L : List (List Int)) (j : Nat) : List Int := L.getD j []
theorem at_lat (L : List (List Int)) (j : Nat) (h : j < L.length) : L2.atI (L.map ls) (j : Int) = some (ls (lat L j)) := by
  rw [atI_nat, List.getElem?_map, List.getElem?_eq_getElem h]
  unfold lat
  rw [List.getD_eq_getElem?_getD, List.getElem?_eq_getElem h]
  rfl
theorem lat_mem {L : List (List Int)} {j : Nat} (h : j < L.length) : lat L j ∈ L := by
  unfold lat
  rw [List.getD_eq_getElem?_getD, List.getElem?_eq_getElem h]
  exact List.getElem_mem h
/-- the buckets that a share takes from its list -/
def tk (Ls : List (List Int)) (a : List Int) (w : Nat) : List Int := (lat Ls w).take (a.getD (w + 1) 0).toNat
/-- what is so behind the steps P: pairs of a list and a bucket -/
structure Stp (n : Nat) (P : List (Nat × Int)) (g : List Int) : Prop where
  len : g.length = n
  own : ∀ b, b < n → ∀ w : Nat, g.getD b 0 = (w : Int) + 1 ↔ (w, (b : Int)) ∈ P
  nn : ∀ b, b < n → g.getD b 0 = 0 ∨ ∃ w : Nat, g.getD b 0 = (w : Int) + 1
  cw : ∀ w : Nat, (g.count ((w : Int) + 1)) = P.countP fun p => p.1 == w
  c0 : g.count 0 + P.length = n
theorem count_set (l : List Int) (x u : Int) : ∀ (k : Nat), k < l.length → (l.set k x).count u + (if l.getD k 0 = u then 1 else 0) = l.count u + (if x = u then 1 else 0) := by
  induction l with
  | nil => intro k h; simp at h
  | cons y l ih =>
    intro k h
    cases k with
    | zero =>
      show (x :: l).count u + (if y = u then 1 else 0) = (y :: l).count u + (if x = u then 1 else 0)
      rw [List.count_cons, List.count_cons]
      simp only [beq_iff_eq]
      omega
    | succ k =>
      have := ih k (by simpa using h)
      show (y :: l.set k x).count u + (if l.getD k 0 = u then 1 else 0) = (y :: l).count u + (if x = u then 1 else 0)
      rw [List.count_cons, List.count_cons]
      omega
theorem getD_set (l : List Int) (x : Int) (k j : Nat) (h : k < l.length) : (l.set k x).getD j 0 = if j = k then x else l.getD j 0 := by
  rw [List.getD_eq_getElem?_getD, List.getD_eq_getElem?_getD, List.getElem?_set]
  by_cases e : k = j
  · subst e
    rw [if_pos rfl, if_pos h, if_pos rfl]; rfl
  · rw [if_neg e, if_neg (fun z => e z.symm)]
theorem Stp.next {n : Nat} {P : List (Nat × Int)} {g : List Int} (S : Stp n P g) {b : Nat} (hb : b < n) (w : Nat) (h0 : g.getD b 0 = 0) : Stp n (P ++ [(w, (b : Int))]) (g.set b ((w : Int) + 1)) := by
  have hbl : b < g.length := by rw [S.len]; exact hb
  refine ⟨by rw [List.length_set]; exact S.len, fun c hc u => ?_, fun c hc => ?_, fun u => ?_, ?_⟩
  · rw [getD_set _ _ _ _ hbl, List.mem_append]
    by_cases e : c = b
    · subst e
      rw [if_pos rfl]
      constructor
      · intro h
        have : w = u := by omega
        subst this
        exact .inr (by simp)
      · rintro (h | h)
        · have := (S.own c hc u).2 h
          omega
        · simp only [List.mem_singleton, Prod.mk.injEq] at h
          omega
    · rw [if_neg e, S.own c hc u]
      constructor
      · exact .inl
      · rintro (h | h)
        · exact h
        · simp only [List.mem_singleton, Prod.mk.injEq] at h
          omega
  · rw [getD_set _ _ _ _ hbl]
    by_cases e : c = b
    · rw [if_pos e]; exact .inr ⟨w, rfl⟩
    · rw [if_neg e]; exact S.nn c hc
  · have := count_set g ((w : Int) + 1) ((u : Int) + 1) b hbl
    rw [h0, if_neg (by omega)] at this
    rw [List.countP_append, ← S.cw u, List.countP_cons, List.countP_nil]
    by_cases e : w = u
    · subst e
      rw [if_pos rfl] at this
      simp only [beq_self_eq_true, if_true]
      omega
    · rw [if_neg (by omega)] at this
      have e2 : ((w, (b : Int)).1 == u) = false := by simpa using e
      rw [if_neg (by rw [e2]; decide)]
      omega
  · have := count_set g ((w : Int) + 1) 0 b hbl
    rw [h0, if_pos rfl, if_neg (by omega)] at this
    have := S.c0
    rw [List.length_append, List.length_singleton]
    omega
theorem stp_nil (n : Nat) : Stp n [] (List.replicate n 0) := by
  have hg : ∀ b, (List.replicate n (0 : Int)).getD b 0 = 0 := fun b => by
    rw [List.getD_eq_getElem?_getD, List.getElem?_replicate]
    split <;> rfl
  refine ⟨by simp, fun b _ w => ?_, fun b _ => .inl (hg b), fun w => ?_, by simp⟩
  · rw [hg]
    simp
    omega
  · rw [List.countP_nil, List.count_eq_zero]
    intro h
    have := List.eq_of_mem_replicate h
    omega
def optT : Option (List Int) → PyData
  | none => .none
  | some s => tp s
def stps (Ls : List (List Int)) (a : List Int) (k : Nat) : List (Nat × Int) := (List.range k).flatMap fun w => (tk Ls a w).map fun b => (w, b)
structure ByL (Ls : List (List Int)) (a : List Int) (v n : Nat) (s : List Int) : Prop where
  len : s.length = n
  own : ∀ b, b < n → ∀ w, w + 1 < v → (s.getD b 0 = (w : Int) + 1 ↔ (b : Int) ∈ tk Ls a w)
  bnd : ∀ i ∈ s, 0 ≤ i ∧ i < v
  cnt : DCom.cnt s v = a
theorem len_fm {α β : Type} (f : Nat → List β) (g : Nat → Nat) : ∀ n : Nat, (∀ w, w < n → (f w).length = g w) → ((List.range n).flatMap f).length = ((List.range n).map g).sum
  | 0, _ => rfl
  | n + 1, h => by
    rw [List.range_succ, List.flatMap_append, List.length_append, List.map_append, List.sum_append, len_fm (α := α) f g n fun w hw => h w (by omega)]
    simp [h n (by omega)]
theorem cp_fm (Ls : List (List Int)) (a : List Int) (u : Nat) : ∀ k : Nat, (stps Ls a k).countP (fun p => p.1 == u) = if u < k then (tk Ls a u).length else 0
  | 0 => by simp [stps]
  | k + 1 => by
    unfold stps
    rw [List.range_succ, List.flatMap_append, List.countP_append]
    have ih := cp_fm Ls a u k
    unfold stps at ih
    rw [ih, List.flatMap_cons, List.flatMap_nil, List.append_nil, List.countP_map]
    by_cases e : u = k
    · subst e
      rw [if_neg (by omega), if_pos (by omega)]
      have : ((fun p : Nat × Int => p.1 == u) ∘ fun b => (u, b)) = fun _ => true := by funext b; simp
      rw [this, List.countP_true]
      omega
    · have : ((fun p : Nat × Int => p.1 == u) ∘ fun b => (k, b)) = fun _ => false := by
        funext b
        simp only [Function.comp, beq_eq_false_iff_ne, ne_eq]
        exact fun z => e z.symm
      rw [this, List.countP_false]
      by_cases h : u < k
      · rw [if_pos h, if_pos (by omega)]
        rfl
      · rw [if_neg h, if_neg (by omega)]
        rfl
theorem tk_len {Ls : List (List Int)} {a : List Int} {v n : Nat} (hL : Lsts Ls v n) (ha : Alc a v n) {w : Nat} (hw : w + 1 < v) : ((tk Ls a w).length : Int) = a.getD (w + 1) 0 := by
  have hm := hL.2 _ (lat_mem (L := Ls) (j := w) (by have := hL.1; omega))
  have h0 : 0 ≤ a.getD (w + 1) 0 := by
    have hi : w + 1 < a.length := by rw [ha.len]; exact hw
    have := ha.nn a[w + 1] (List.getElem_mem hi)
    simpa [hi] using this
  have hle : a.getD (w + 1) 0 ≤ n := by
    have hi : w + 1 < a.length := by rw [ha.len]; exact hw
    have key : ∀ (l : List Int) (k : Nat), (∀ i ∈ l, 0 ≤ i) → l.getD k 0 ≤ l.sum := by
      intro l
      induction l with
      | nil => intro k _; simp
      | cons x l ih =>
        intro k h
        have hx := h x List.mem_cons_self
        have hs := sum_nn fun i hi => h i (List.mem_cons_of_mem _ hi)
        cases k with
        | zero => show x ≤ _; rw [List.sum_cons]; omega
        | succ k =>
          have := ih k fun i hi => h i (List.mem_cons_of_mem _ hi)
          show l.getD k 0 ≤ _
          rw [List.sum_cons]; omega
    have := key a (w + 1) ha.nn
    rw [ha.sum] at this
    exact this
  have h3 := hm.1
  unfold tk
  rw [List.length_take, h3]
  omega
theorem byL_of {Ls : List (List Int)} {a : List Int} {v n : Nat} (hv : 1 ≤ v) (hL : Lsts Ls v n) (ha : Alc a v n) {s : List Int} (S : Stp n (stps Ls a (v - 1)) s) : ByL Ls a v n s := by
  have mem : ∀ (w : Nat) (b : Int), (w, b) ∈ stps Ls a (v - 1) ↔ w + 1 < v ∧ b ∈ tk Ls a w := by
    intro w b
    unfold stps
    rw [List.mem_flatMap]
    constructor
    · rintro ⟨u, hu, h⟩
      obtain ⟨c, hc, e⟩ := List.mem_map.1 h
      cases e
      have := List.mem_range.1 hu
      exact ⟨by omega, hc⟩
    · rintro ⟨h1, h2⟩
      exact ⟨w, List.mem_range.2 (by omega), List.mem_map.2 ⟨b, h2, rfl⟩⟩
  refine ⟨S.len, fun b hb w hw => ?_, fun i hi => ?_, ?_⟩
  · rw [S.own b hb w, mem]
    exact ⟨fun h => h.2, fun h => ⟨hw, h⟩⟩
  · obtain ⟨b, hb, rfl⟩ := List.mem_iff_getElem.1 hi
    have hbn : b < n := by rw [← S.len]; exact hb
    have e : s.getD b 0 = s[b] := by simp [hb]
    rcases S.nn b hbn with h | ⟨w, h⟩
    · rw [e] at h; omega
    · have := ((mem w b).1 ((S.own b hbn w).1 h)).1
      rw [e] at h; omega
  · refine cnt_eq ha.len fun u hu => ?_
    cases u with
    | succ w =>
      have := S.cw w
      rw [cp_fm, if_pos (by omega)] at this
      have h2 := tk_len hL ha hu
      rw [show ((w + 1 : Nat) : Int) = (w : Int) + 1 from rfl, this, h2]
    | zero =>
      have h1 := S.c0
      have h2 : (stps Ls a (v - 1)).length = ((List.range (v - 1)).map fun w => (a.getD (w + 1) 0).toNat).sum := by
        unfold stps
        refine len_fm (α := Nat) _ _ (v - 1) fun w hw => ?_
        have := tk_len hL ha (w := w) (by omega)
        rw [List.length_map]
        omega
      have h3 : a.sum = a.getD 0 0 + (((List.range (v - 1)).map fun w => (a.getD (w + 1) 0).toNat).sum : Nat) := by
        have hlen := ha.len
        cases ha' : a with
        | nil => rw [ha'] at hlen; simp at hlen; omega
        | cons x r =>
          rw [ha'] at hlen
          have hr : r.length = v - 1 := by simp at hlen; omega
          rw [List.sum_cons, ← hr]
          show x + r.sum = x + _
          congr 1
          have hnn : ∀ i ∈ r, 0 ≤ i := fun i hi => ha.nn i (by rw [ha']; exact List.mem_cons_of_mem _ hi)
          clear ha' hlen h1 h2 ha S hL hr
          induction r with
          | nil => rfl
          | cons y r ih =>
            have hy := hnn y List.mem_cons_self
            rw [List.sum_cons, ih fun i hi => hnn i (List.mem_cons_of_mem _ hi), List.length_cons, List.range_succ_eq_map, List.map_cons, List.sum_cons, List.map_map]
            show y + _ = ((y.toNat + _ : Nat) : Int)
            rw [Int.natCast_add, Int.toNat_of_nonneg hy]
            rfl
      rw [ha.sum] at h3
      show ((s.count 0 : Nat) : Int) = _
      omega
abbrev blB0 : DL.Env → Out := sThen (sIf (tb1 (e2 dNe (eIxO 3 (eVar 5)) (eC (.int 0)))) (sRet (mD (eC (.none)))) (sNx))
      (sSetItem 3 (e2 dAdd (eVar 4) (eC (.int 1))) (eVar 5))
theorem bl_in (n : Nat) (w : Nat) (o0 o1 o2 : Option M) : ∀ (bs : List Int) (P : List (Nat × Int)) (g : List Int) (o5 : Option M), Stp n P g → (∀ b ∈ bs, 0 ≤ b ∧ b < n) →
    (∃ eE, forGo (gN 5) blB0 (bs.map .int) [o0, o1, o2, some (.l (g.map .int)), some (.d (.int w)), o5] = .rt (.d .none) eE ∧ Sh 3 eE) ∨
    ∃ g' o5', forGo (gN 5) blB0 (bs.map .int) [o0, o1, o2, some (.l (g.map .int)), some (.d (.int w)), o5] = .nx [o0, o1, o2, some (.l (g'.map .int)), some (.d (.int w)), o5'] ∧ Stp n (P ++ bs.map fun b => (w, b)) g'
  | [], P, g, o5, S, _ => .inr ⟨g, o5, by simp, by simpa using S⟩
  | b :: bs, P, g, o5, S, h => by
    obtain ⟨h0, h1⟩ := h b List.mem_cons_self
    obtain ⟨k, rfl⟩ := Int.eq_ofNat_of_zero_le h0
    have hk : k < n := by omega
    have hkl : k < g.length := by rw [S.len]; exact hk
    have a1 := at_row g k hkl
    rw [List.map_cons, forGo_cons, gN_eq, optOut_s]
    by_cases c : g.getD k 0 = 0
    · have c1 : (!(g.getD k 0 == 0)) = false := by rw [c]; rfl
      have xi := ixN_int g.length (k : Int) h0 (by omega)
      have q : blB0 ([o0, o1, o2, some (.l (g.map .int)), some (.d (.int w)), o5].set 5 (some (.d (.int (k : Int))))) = .nx [o0, o1, o2, some (.l ((g.set k ((w : Int) + 1)).map .int)), some (.d (.int w)), some (.d (.int (k : Int)))] := by
        simp only [dlall, blB0, a1, c1, List.length_map, xi, List.map_set, Int.toNat_natCast]
      rw [q, lp_nx]
      rcases bl_in n w o0 o1 o2 bs (P ++ [(w, (k : Int))]) (g.set k ((w : Int) + 1)) (some (.d (.int (k : Int)))) (S.next hk w c) fun y hy => h y (List.mem_cons_of_mem _ hy) with ⟨eE, e, sh⟩ | ⟨g', o5', e, S'⟩
      · exact .inl ⟨eE, e, sh⟩
      · exact .inr ⟨g', o5', e, by rw [List.append_assoc] at S'; exact S'⟩
    · have c1 : (!(g.getD k 0 == 0)) = true := by
        rw [Bool.not_eq_true', beq_eq_false_iff_ne]; exact c
      refine .inl ⟨[o0, o1, o2, some (.l (g.map .int)), some (.d (.int w)), some (.d (.int (k : Int)))], ?_, by simp [Sh]⟩
      generalize hx : g.getD k 0 = x at a1 c1
      have q : blB0 ([o0, o1, o2, some (.l (g.map .int)), some (.d (.int w)), o5].set 5 (some (.d (.int (k : Int))))) = .rt (.d .none) [o0, o1, o2, some (.l (g.map .int)), some (.d (.int w)), some (.d (.int (k : Int)))] := by
        simp only [dlall, blB0, a1, c1]
      rw [q, lp_rt]
abbrev blB1 : DL.Env → Out := sFor (itSeq (eSlice (e2 dIx (eVar 0) (eVar 4)) (pNo) (pSome (e2 dIx (eVar 1) (e2 dAdd (eVar 4) (eC (.int 1))))))) (gN 5) blB0
theorem bl_out {Ls : List (List Int)} {a : List Int} {v n : Nat} (hL : Lsts Ls v n) (ha : Alc a v n) : ∀ (ws : List Nat) (P : List (Nat × Int)) (g : List Int) (o4 o5 : Option M), Stp n P g → (∀ w ∈ ws, w + 1 < v) →
    (∃ eE, forGo (gN 4) blB1 (ws.map fun w : Nat => .int w) [some (.d (.list (Ls.map ls))), some (.d (tp a)), some (.d (.int n)), some (.l (g.map .int)), o4, o5] = .rt (.d .none) eE ∧ Sh 3 eE) ∨
    ∃ g' o4' o5', forGo (gN 4) blB1 (ws.map fun w : Nat => .int w) [some (.d (.list (Ls.map ls))), some (.d (tp a)), some (.d (.int n)), some (.l (g.map .int)), o4, o5] = .nx [some (.d (.list (Ls.map ls))), some (.d (tp a)), some (.d (.int n)), some (.l (g'.map .int)), o4', o5'] ∧ Stp n (P ++ ws.flatMap fun w => (tk Ls a w).map fun b => (w, b)) g'
  | [], P, g, o4, o5, S, _ => .inr ⟨g, o4, o5, by simp, by simpa using S⟩
  | w :: ws, P, g, o4, o5, S, h => by
    have hw := h w List.mem_cons_self
    have hwl : w < Ls.length := by have := hL.1; omega
    have hm := hL.2 _ (lat_mem hwl)
    have a1 := at_lat Ls w hwl
    have hal : w + 1 < a.length := by rw [ha.len]; exact hw
    have a2 := at_row a (w + 1) hal
    have hnn : 0 ≤ a.getD (w + 1) 0 := by
      have := ha.nn a[w + 1] (List.getElem_mem hal)
      simpa [hal] using this
    have s1 : cutD ((lat Ls w).map .int) none (some (a.getD (w + 1) 0)) = (tk Ls a w).map .int := by
      rw [cut_take _ _ hnn, ← List.map_take]; rfl
    have hb : ∀ b ∈ tk Ls a w, 0 ≤ b ∧ b < n := fun b hb => hm.bnd b (List.mem_of_mem_take hb)
    have e0 : ((w : Int) + 1) = ((w + 1 : Nat) : Int) := rfl
    rw [List.map_cons, forGo_cons, gN_eq, optOut_s]
    have q : blB1 ([some (.d (.list (Ls.map ls))), some (.d (tp a)), some (.d (.int n)), some (.l (g.map .int)), o4, o5].set 4 (some (.d (.int w)))) = forGo (gN 5) blB0 ((tk Ls a w).map .int) [some (.d (.list (Ls.map ls))), some (.d (tp a)), some (.d (.int n)), some (.l (g.map .int)), some (.d (.int w)), o5] := by
      rw [← s1]
      generalize a.getD (w + 1) 0 = x at a2
      simp only [dlall, blB1, a1, e0, a2]
    rw [q]
    rcases bl_in n w (some (.d (.list (Ls.map ls)))) (some (.d (tp a))) (some (.d (.int n))) (tk Ls a w) P g o5 S hb with ⟨eE, e, sh⟩ | ⟨g', o5', e, S'⟩
    · rw [e, lp_rt]
      exact .inl ⟨eE, rfl, sh⟩
    · rw [e, lp_nx]
      rcases bl_out hL ha ws _ g' (some (.d (.int w))) o5' S' fun y hy => h y (List.mem_cons_of_mem _ hy) with ⟨eE, e, sh⟩ | ⟨g2, o4', o5'', e, S2⟩
      · exact .inl ⟨eE, e, sh⟩
      · exact .inr ⟨g2, o4', o5'', e, by rw [List.append_assoc] at S2; exact S2⟩
theorem mulL (x : PyData) (k : Int) (h : k ≤ 1000) (h0 : 0 ≤ k) : dMul (.list [x]) (.int k) = some (.list (List.replicate k.toNat x)) := by
  show (if _ then _ else _) = _
  rw [if_pos ⟨by omega, by omega, by simp; omega⟩, List.flatten_replicate_singleton]
theorem by_lists_ex {Ls : List (List Int)} {a : List Int} {v n : Nat} (hv : 1 ≤ v) (hv4 : v ≤ 10) (hn : n ≤ 1000) (hL : Lsts Ls v n) (ha : Alc a v n) : ∃ o : Option (List Int), f__law_by_lists [.d (.list (Ls.map ls)), .d (tp a), .d (.int n)] = .rt (.d (optT o)) [none, none, none] ∧ ∀ s, o = some s → ByL Ls a v n s := by
  have hl := hL.1
  have kl : ((Ls.length : Int) ≤ 16777216 ∧ -(2 ^ 62) ≤ (Ls.length : Int)) = True := by simp; omega
  have hb := bl_out hL ha (List.range Ls.length) [] (List.replicate n 0) none none (stp_nil n) (fun w hw => by have := List.mem_range.1 hw; omega)
  obtain ⟨N, hN⟩ : ∃ N : Int, N = (n : Int) := ⟨_, rfl⟩
  have z : dMul (.list [.int 0]) (.int N) = some (.list ((List.replicate n (0 : Int)).map .int)) := by rw [mulL _ _ (by omega) (by omega), hN, Int.toNat_natCast, List.map_replicate]
  rw [← hN] at hb ⊢
  rcases hb with ⟨eE, e, sh⟩ | ⟨g', o4', o5', e, S⟩
  · refine ⟨none, ?_, fun s h => by cases h⟩
    rw [← rangeD_eq] at e
    simp only [dlall, f__law_by_lists, b__law_by_lists, mOp_eq, asL_l, z, List.length_map, kl, Int.toNat_natCast]
    rw [e]
    simp only [dlall, outs_3 sh, optT]
  · refine ⟨some g', ?_, fun s h => by
      cases h
      rw [List.nil_append] at S
      refine byL_of hv hL ha ?_
      unfold stps
      rw [show v - 1 = Ls.length by omega]
      exact S⟩
    rw [← rangeD_eq] at e
    simp only [dlall, f__law_by_lists, b__law_by_lists, mOp_eq, asL_l, z, List.length_map, kl, Int.toNat_natCast]
    rw [e]
    simp only [dlall, optT]
/-! drawn assignments -/
theorem sum_set (l : List Int) (k : Nat) (x : Int) (h : k < l.length) : (l.set k x).sum = l.sum - l.getD k 0 + x := by
  induction l generalizing k with
  | nil => simp at h
  | cons y l ih =>
    cases k with
    | zero =>
      show (x :: l).sum = (y :: l).sum - y + x
      rw [List.sum_cons, List.sum_cons]; omega
    | succ k =>
      show (y :: l.set k x).sum = (y :: l).sum - l.getD k 0 + x
      rw [List.sum_cons, List.sum_cons, ih k (by simpa using h)]; omega
theorem pos_ex : ∀ l : List Int, 0 < l.sum → ∃ k, k < l.length ∧ 0 < l.getD k 0
  | [], h => by simp at h
  | x :: l, h => by
    by_cases hx : 0 < x
    · exact ⟨0, by simp, hx⟩
    · rw [List.sum_cons] at h
      obtain ⟨k, h1, h2⟩ := pos_ex l (by omega)
      exact ⟨k + 1, by simpa using h1, h2⟩
theorem zero_all : ∀ {l : List Int}, (∀ i ∈ l, 0 ≤ i) → l.sum = 0 → ∀ k, l.getD k 0 = 0
  | [], _, _, k => by simp
  | x :: l, h, hs, k => by
    have hx := h x List.mem_cons_self
    have hl := sum_nn fun i hi => h i (List.mem_cons_of_mem _ hi)
    rw [List.sum_cons] at hs
    cases k with
    | zero => show x = 0; omega
    | succ k => exact zero_all (fun i hi => h i (List.mem_cons_of_mem _ hi)) (by omega) k
abbrev opn (l : List Int) : List Nat := (List.range l.length).filter fun u => decide (l.getD u 0 > 0)
theorem drawn_ex (s : Strm) {a : List Int} {v n : Nat} (hv : v ≤ 10) (hn : n ≤ 1000) (ha : Alc a v n) : ∃ (b : List Int) (s' : Strm), f__law_drawn_assignment [s.m, .d (tp a), .d (.int n)] = .rt (.d (tp b)) [some s'.m, none, none] ∧ b.length = n ∧ (∀ i ∈ b, 0 ≤ i ∧ i < v) ∧ cnt b v = a := by
  have kn : ((n : Int) ≤ 16777216 ∧ -(2 ^ 62) ≤ (n : Int)) = True := by simp; omega
  obtain ⟨e', h1, left, b, s', o5, o6, o7, g1, g2, g3, g4, g5, g6, rfl⟩ := forGo_range (g := gN 5) (body := sThen (sSet 6 (mD (eComp (itB bRange1 (aCons (eBO 3 bLen) (aNil))) (gN 7) (tb1 (e2 dGt (eIxO 3 (eVar 7)) (eC (.int 0)))) (eVar 7) [7])))
    (sThen (sSet 7 (mD (e2 dIx (eVar 6) (eFrz (eCall 2 f__law_next (avS 0 (avD (eB bLen (aCons (eVar 6) (aNil))) (avNil))))))))
    (sThen (sSetItem 3 (e2 dSub (eIxO 3 (eVar 7)) (eC (.int 1))) (eVar 7))
    (sDrop (mD (eMt 4 mApp (aCons (eVar 7) (aNil)))))))) n (fun k e => ∃ (left b : List Int) (s' : Strm) (o5 o6 o7 : Option M), left.length = v ∧ (∀ i ∈ left, 0 ≤ i) ∧ left.sum = (n : Int) - k ∧ b.length = k ∧ (∀ i ∈ b, 0 ≤ i ∧ i < v) ∧ (∀ u : Nat, u < v → left.getD u 0 + ((b.count (u : Int) : Nat) : Int) = a.getD u 0) ∧
      e = [some s'.m, some (.d (tp a)), some (.d (.int n)), some (.l (left.map .int)), some (.l (b.map .int)), o5, o6, o7]) (by
    rintro k e hk ⟨left, b, s1, o5, o6, o7, g1, g2, g3, g4, g5, g6, rfl⟩
    have kl : ((left.length : Int) ≤ 16777216 ∧ -(2 ^ 62) ≤ (left.length : Int)) = True := by simp; omega
    have hc := compGo_map (g := gN 7) (tt := tb1 (e2 dGt (eIxO 3 (eVar 7)) (eC (.int 0)))) (te := eVar 7) (vs := [7]) (emb := fun i : Nat => PyData.int i) (e := [some s1.m, some (.d (tp a)), some (.d (.int n)), some (.l (left.map .int)), some (.l (b.map .int)), some (.d (.int k)), o6, none]) (fun u => decide (left.getD u 0 > 0)) (fun u => .int u) (List.range left.length) [] (fun u hu => by
      have a1 := at_row left u (List.mem_range.1 hu)
      refine ⟨[some s1.m, some (.d (tp a)), some (.d (.int n)), some (.l (left.map .int)), some (.l (b.map .int)), some (.d (.int k)), o6, some (.d (.int u))], ?_, ?_, fun _ => ?_, ?_⟩
      · simp only [dlall]
      · simp only [dlall, a1]
      · simp only [dlall]
      · simp only [dlall])
    rw [← rangeD_eq, List.nil_append] at hc
    have hpos : 0 < (opn left).length := by
      obtain ⟨u, h1, h2⟩ := pos_ex left (by omega)
      exact List.length_pos_of_mem (List.mem_filter.2 ⟨List.mem_range.2 h1, decide_eq_true h2⟩)
    have hle : (opn left).length ≤ v := by
      have := List.length_filter_le (fun u => decide (left.getD u 0 > 0)) (List.range left.length)
      rw [List.length_range] at this
      show (List.filter (fun u => decide (left.getD u 0 > 0)) (List.range left.length)).length ≤ v
      omega
    obtain ⟨d, s2, x1, x2, x3⟩ := next_ex s1 ((opn left).length : Int) (by omega) (by omega)
    obtain ⟨j, rfl⟩ := Int.eq_ofNat_of_zero_le x2
    have hj : j < (opn left).length := by omega
    generalize hu : (opn left)[j] = u at *
    have hum : u ∈ opn left := by rw [← hu]; exact List.getElem_mem hj
    obtain ⟨u1, u2⟩ := List.mem_filter.1 hum
    have u1 := List.mem_range.1 u1
    have u2 : left.getD u 0 > 0 := of_decide_eq_true u2
    have a2 : L2.atI ((opn left).map fun u : Nat => PyData.int u) (j : Int) = some (.int u) := by
      rw [atI_nat, List.getElem?_map, List.getElem?_eq_getElem hj, hu]; rfl
    have a3 := at_row left u u1
    have xi := ixN_int left.length (u : Int) (by omega) (by omega)
    have ap := appL (b.map .int) (.int u) (by simp; omega)
    have m : (b ++ [(u : Int)]).map PyData.int = b.map .int ++ [.int (u : Int)] := by simp
    refine ⟨_, [some s2.m, some (.d (tp a)), some (.d (.int n)), some (.l ((left.set u (left.getD u 0 - 1)).map .int)), some (.l ((b ++ [(u : Int)]).map .int)), some (.d (.int k)), some (.d (.list ((opn left).map fun u : Nat => PyData.int u))), some (.d (.int u))], rfl, .inl ?_, left.set u (left.getD u 0 - 1), b ++ [(u : Int)], s2, _, _, _, by rw [List.length_set]; exact g1, ?_, ?_, by simp [g4], ?_, ?_, rfl⟩
    · rw [m, List.map_set]
      generalize left.getD u 0 = x at a3
      simp only [dlall, List.length_map, kl, Int.toNat_natCast, hc, x1, a2, a3, xi, ap]
    · intro i hi
      rcases List.mem_or_eq_of_mem_set hi with h | h
      · exact g2 i h
      · omega
    · rw [sum_set _ _ _ u1]; omega
    · intro i hi
      rcases List.mem_append.1 hi with h | h
      · exact g5 i h
      · simp only [List.mem_singleton] at h
        omega
    · intro w hw
      have := g6 w hw
      rw [getD_set _ _ _ _ u1, List.count_append, List.count_singleton]
      by_cases e : w = u
      · subst e
        simp only [beq_self_eq_true, if_true]
        omega
      · have e2 : ((u : Int) == (w : Int)) = false := by simpa using fun z => e (by omega)
        rw [if_neg e, e2]
        simp only [Bool.false_eq_true, if_false]
        omega) [some s.m, some (.d (tp a)), some (.d (.int n)), some (.l (a.map .int)), some (.l []), none, none, none] ⟨a, [], s, none, none, none, ha.len, ha.nn, by rw [ha.sum]; simp, rfl, (fun i hi => nomatch hi), (fun u _ => by simp), rfl⟩
  refine ⟨b, s', ?_, g4, g5, cnt_eq ha.len fun u hu => ?_⟩
  · simp only [dlall, f__law_drawn_assignment, b__law_drawn_assignment, kn, Int.toNat_natCast, h1]
  · have h0 := zero_all g2 (by omega) u
    have := g6 u hu
    omega
end DCor


namespace DCor
open PySem DL DCom
/-! rules -/
abbrev PR := List Int × List Int
abbrev prR (p : PR) : PyData := .tuple [tp p.1, tp p.2]
theorem embR : Emb prR 2 := Emb.pair Emb.row Emb.row
structure Pai (p : PR) (v n : Nat) : Prop where
  alc : Alc p.1 v n
  len : p.2.length = n
  bnd : ∀ i ∈ p.2, 0 ≤ i ∧ i < v
  cnt : DCom.cnt p.2 v = p.1
structure Rul (R : List PR) (v n : Nat) : Prop where
  v1 : 1 ≤ v
  v5 : v ≤ 5
  n20 : n ≤ 20
  sz : R.length ≤ 20
  pai : ∀ p ∈ R, Pai p v n
  nd : (R.map Prod.fst).Nodup
/-- pairs, perhaps with an allocation twice -/
structure Prs (R : List PR) (v n : Nat) : Prop where
  n20 : n ≤ 20
  sz : R.length ≤ 100
  pai : ∀ p ∈ R, Pai p v n
variable {v n : Nat} {R : List PR}
theorem Rul.prs (h : Rul R v n) : Prs R v n := ⟨h.n20, by have := h.sz; omega, h.pai⟩
theorem check_sizes_e (v n : Nat) (h1 : 1 ≤ v) (h5 : v ≤ 5) (hn : n ≤ 20) : f_check_sizes [.d (.int v), .d (.int n)] = .rt (.d .none) [none, none] := by
  have k1 : btw 1 5 (.int (v : Int)) = true := by simp [btw]; omega
  have k2 : btw 0 20 (.int (n : Int)) = true := by simp [btw]; omega
  simp only [dlall, f_check_sizes, b_check_sizes, is_between_e, k1, k2]
open Classical in
theorem is_pair_e {p : PR} (h1 : 1 ≤ v) (h5 : v ≤ 5) (hn : n ≤ 20) (h : Pai p v n) : f_is_pair [.d (prR p), .d (.int v), .d (.int n)] = .rt (.d (.bool true)) [none, none, none] := by
  have q1 : decide (IsAll (tp p.1) v n) = true := decide_eq_true ⟨p.1, rfl, by rw [h.alc.len], h.alc.nn, h.alc.sum⟩
  have q2 : decide (IsAsg (tp p.2) v n) = true := decide_eq_true ⟨p.2, rfl, by rw [h.len], h.bnd⟩
  have q3 := allocation_of_e p.2 v ⟨by rw [h.len]; exact hn, h.bnd⟩ (by omega) (by omega)
  rw [Int.toNat_natCast, h.cnt] at q3
  have q4 : dEq (tp p.1) (tp p.1) = some (.bool true) := by rw [dEq_tt]; simp
  have k2 : (!(((2 : Nat) : Int) == 2)) = false := rfl
  simp only [dlall, f_is_pair, b_is_pair, prR, is_allocation_e, is_assignment_e, q1, q2, q3, q4, k2]
theorem are_pairs_e (h : Rul R v n) : f_are_pairs [.d (.tuple (R.map prR)), .d (.int v), .d (.int n)] = .rt (.d (.bool true)) [none, none, none] := by
  have hc := compGo_map (g := gN 3) (tt := tYesD) (te := eFrz (eCall 3 f_is_pair (avD (eVar 3) (avD (eVar 1) (avD (eVar 2) (avNil)))))) (vs := [3]) (emb := prR) (e := [some (.d (.tuple (R.map prR))), some (.d (.int v)), some (.d (.int n)), none]) (fun _ => true) (fun _ => .bool true) R [] (fun p hp => by
    have q := is_pair_e h.v1 h.v5 h.n20 (h.pai p hp)
    refine ⟨[some (.d (.tuple (R.map prR))), some (.d (.int v)), some (.d (.int n)), some (.d (prR p))], ?_, rfl, fun _ => ?_, ?_⟩
    · simp only [dlall]
    · simp only [dlall, q]
    · simp only [dlall])
  rw [List.filter_eq_self.2 (by simp), List.nil_append] at hc
  have ha := all_true R
  have hk := compGo_map (g := gN 3) (tt := tYesD) (te := eKey kT (e2 dIx (eVar 3) (eC (.int 0))) (eC (.bool true))) (vs := [3]) (emb := prR) (e := [some (.d (.tuple (R.map prR))), some (.d (.int v)), some (.d (.int n)), none]) (fun _ => true) (fun p => tp p.1) R [] (fun p hp => by
    have kt := kT_ints p.1
    refine ⟨[some (.d (.tuple (R.map prR))), some (.d (.int v)), some (.d (.int n)), some (.d (prR p))], ?_, rfl, fun _ => ?_, ?_⟩
    · simp only [dlall]
    · simp only [dlall, prR, kt]
    · simp only [dlall])
  rw [List.filter_eq_self.2 (by simp), List.nil_append] at hk
  have hd := dcK_nodup (kf := kT) (emb := fun p : PR => tp p.1) (key := Prod.fst) R (fun p _ => kT_ints p.1) h.nd
  have d1 : decide ((20 : Int) < (R.length : Int)) = false := decide_eq_false (by have := h.sz; omega)
  simp only [dlall, f_are_pairs, b_are_pairs, List.length_map, d1, hc, ha, hk, hd]
theorem check_rule_e (h : Rul R v n) : f_check_rule [.d (.int v), .d (.int n), .d (.tuple (R.map prR))] = .rt (.d .none) [none, none, none] := by
  have q1 := check_sizes_e v n h.v1 h.v5 h.n20
  have q2 := are_pairs_e h
  simp only [dlall, f_check_rule, b_check_rule, q1, q2]
/-! needless leaves -/
def goes (p q : PR) (b : Nat) : Bool := decide (0 < p.2.getD b 0) && (!(q.2.getD b 0 == p.2.getD b 0) && decide (p.1.getD (p.2.getD b 0).toNat 0 ≤ q.1.getD (p.2.getD b 0).toNat 0))
theorem row_bnd {p : PR} (hp : Pai p v n) {b : Nat} (hb : b < n) : 0 ≤ p.2.getD b 0 ∧ p.2.getD b 0 < v := by
  have hb1 : b < p.2.length := by rw [hp.len]; exact hb
  have := hp.bnd p.2[b] (List.getElem_mem hb1)
  simpa [hb1] using this
theorem goes_needlessly_e {p q : PR} (hp : Pai p v n) (hq : Pai q v n) (b : Nat) (hb : b < n) : f_goes_needlessly [.d (prR p), .d (prR q), .d (.int b)] = .rt (.d (.bool (goes p q b))) [none, none, none] := by
  have a1 := at_row p.2 b (by rw [hp.len]; exact hb)
  have a2 := at_row q.2 b (by rw [hq.len]; exact hb)
  have hw := row_bnd hp hb
  unfold goes
  obtain ⟨k, hk⟩ := Int.eq_ofNat_of_zero_le hw.1
  rw [hk] at a1 hw ⊢
  have a3 := at_row p.1 k (by rw [hp.alc.len]; omega)
  have a4 := at_row q.1 k (by rw [hq.alc.len]; omega)
  rw [Int.toNat_natCast]
  generalize p.1.getD k 0 = x at *
  generalize q.1.getD k 0 = y at *
  generalize q.2.getD b 0 = z at *
  generalize (k : Int) = w at *
  by_cases c : w = 0
  · subst c
    simp only [dlall, f_goes_needlessly, b_goes_needlessly, prR, a1, Int.lt_irrefl, Bool.false_and]
  · have c1 : (!(w == 0)) = true := by simpa using c
    have c2 : decide (0 < w) = true := decide_eq_true (by omega)
    by_cases c3 : z = w
    · have c4 : (!(z == w)) = false := by simp [c3]
      simp only [dlall, f_goes_needlessly, b_goes_needlessly, prR, a1, a2, c1, c2, c4, Bool.true_and, Bool.false_and]
    · have c4 : (!(z == w)) = true := by simpa using c3
      simp only [dlall, f_goes_needlessly, b_goes_needlessly, prR, a1, a2, a3, a4, c1, c2, c4, Bool.true_and]
theorem law_goes_e {p q : PR} (hp : Pai p v n) (hq : Pai q v n) (b : Nat) (hb : b < n) : f__law_goes [.d (prR p), .d (prR q), .d (.int b)] = .rt (.d (.bool (goes p q b))) [none, none, none] := by
  have a1 := at_row p.2 b (by rw [hp.len]; exact hb)
  have a2 := at_row q.2 b (by rw [hq.len]; exact hb)
  have hw := row_bnd hp hb
  unfold goes
  obtain ⟨k, hk⟩ := Int.eq_ofNat_of_zero_le hw.1
  rw [hk] at a1 hw ⊢
  have a3 := at_row p.1 k (by rw [hp.alc.len]; omega)
  have a4 := at_row q.1 k (by rw [hq.alc.len]; omega)
  rw [Int.toNat_natCast]
  generalize p.1.getD k 0 = x at *
  generalize q.1.getD k 0 = y at *
  generalize q.2.getD b 0 = z at *
  generalize (k : Int) = w at *
  by_cases c : w = 0
  · subst c
    simp only [dlall, f__law_goes, b__law_goes, prR, a1, Int.lt_irrefl, Bool.false_and]
  · have c2 : decide (0 < w) = true := decide_eq_true (by omega)
    by_cases c3 : z = w
    · have c4 : (!(z == w)) = false := by simp [c3]
      simp only [dlall, f__law_goes, b__law_goes, prR, a1, a2, c2, c4, Bool.true_and, Bool.false_and]
    · have c4 : (!(z == w)) = true := by simpa using c3
      simp only [dlall, f__law_goes, b__law_goes, prR, a1, a2, a3, a4, c2, c4, Bool.true_and]
def rat (R : List PR) (j : Nat) : PR := R.getD j ([], [])
theorem at_rat (R : List PR) (j : Nat) (h : j < R.length) : L2.atI (R.map prR) (j : Int) = some (prR (rat R j)) := by
  rw [atI_nat, List.getElem?_map, List.getElem?_eq_getElem h]
  unfold rat
  rw [List.getD_eq_getElem?_getD, List.getElem?_eq_getElem h]
  rfl
theorem rat_mem {R : List PR} {j : Nat} (h : j < R.length) : rat R j ∈ R := by
  unfold rat
  rw [List.getD_eq_getElem?_getD, List.getElem?_eq_getElem h]
  exact List.getElem_mem h
def gv (R : List PR) (i j b : Nat) : Option PyData := if goes (rat R i) (rat R j) b = true then some (.tuple [.int i, .int j, .int b]) else none
def gv2 (R : List PR) (n i j : Nat) : Option PyData := (List.range n).findSome? (gv R i j)
def gv1 (R : List PR) (n i : Nat) : Option PyData := (List.range R.length).findSome? (gv2 R n i)
def ffN (R : List PR) (n : Nat) : Option PyData := (List.range R.length).findSome? (gv1 R n)
theorem ffN_shape (R : List PR) (n : Nat) : ffN R n = none ∨ ∃ i j b : Int, ffN R n = some (.tuple [.int i, .int j, .int b]) := by
  cases h : ffN R n with
  | none => exact .inl rfl
  | some y =>
    obtain ⟨i, _, h⟩ := List.exists_of_findSome?_eq_some h
    obtain ⟨j, _, h⟩ := List.exists_of_findSome?_eq_some h
    obtain ⟨b, _, h⟩ := List.exists_of_findSome?_eq_some h
    unfold gv at h
    split at h
    · cases h; exact .inr ⟨i, j, b, rfl⟩
    · cases h
theorem ffN_none (R : List PR) (n : Nat) : ffN R n = none ↔ ∀ i j b, i < R.length → j < R.length → b < n → goes (rat R i) (rat R j) b = false := by
  unfold ffN
  rw [List.findSome?_eq_none_iff]
  constructor
  · intro h i j b hi hj hb
    have := h i (List.mem_range.2 hi)
    unfold gv1 at this
    rw [List.findSome?_eq_none_iff] at this
    have := this j (List.mem_range.2 hj)
    unfold gv2 at this
    rw [List.findSome?_eq_none_iff] at this
    have := this b (List.mem_range.2 hb)
    unfold gv at this
    cases hg : goes (rat R i) (rat R j) b with
    | false => rfl
    | true => rw [hg, if_pos rfl] at this; cases this
  · intro h i hi
    unfold gv1
    rw [List.findSome?_eq_none_iff]
    intro j hj
    unfold gv2
    rw [List.findSome?_eq_none_iff]
    intro b hb
    unfold gv
    rw [h i j b (List.mem_range.1 hi) (List.mem_range.1 hj) (List.mem_range.1 hb)]
    rfl
theorem ffN_mem (R : List PR) (n : Nat) : ffN R n = none ↔ ∀ p ∈ R, ∀ q ∈ R, ∀ b, b < n → goes p q b = false := by
  rw [ffN_none]
  constructor
  · intro h p hp q hq b hb
    obtain ⟨i, hi, rfl⟩ := List.mem_iff_getElem.1 hp
    obtain ⟨j, hj, rfl⟩ := List.mem_iff_getElem.1 hq
    have := h i j b hi hj hb
    unfold rat at this
    rw [List.getD_eq_getElem?_getD, List.getD_eq_getElem?_getD, List.getElem?_eq_getElem hi, List.getElem?_eq_getElem hj] at this
    exact this
  · intro h i j b hi hj hb
    exact h _ (rat_mem hi) _ (rat_mem hj) b hb
theorem outOf_ret (o : Option PyData) (e : DL.Env) (y : PyData) : (outOf o e).thn (sRet (mD (eC y))) = .rt (.d (o.getD y)) e := by
  cases o with
  | none => simp only [dlall, outOf_n, Option.getD_none]
  | some x => simp only [dlall, outOf_s, Option.getD_some]
/-! the law's loops -/
abbrev flB : DL.Env → Out := sIf (tt1 (eFrz (eCall 3 f__law_goes (avD (e2 dIx (eVar 0) (eVar 2)) (avD (e2 dIx (eVar 0) (eVar 3)) (avD (eVar 4) (avNil))))))) (sRet (mD (eTup (aCons (eVar 2) (aCons (eVar 3) (aCons (eVar 4) (aNil))))))) (sNx)
theorem fl_in (h : Prs R v n) (i j : Nat) (hi : i < R.length) (hj : j < R.length) (o4 : Option M) :
    ∃ e2, forGo (gN 4) flB (rangeD 0 n) [some (.d (.tuple (R.map prR))), some (.d (.int n)), some (.d (.int i)), some (.d (.int j)), o4] = outOf (gv2 R n i j) e2 ∧ Sh 2 e2 ∧
      (gv2 R n i j = none → ∃ o4', e2 = [some (.d (.tuple (R.map prR))), some (.d (.int n)), some (.d (.int i)), some (.d (.int j)), o4']) := by
  rw [rangeD_eq]
  refine forGo_fnd (emb := fun b : Nat => PyData.int b) (List.range n) (gv R i j) 2 (fun e => ∃ o4', e = [some (.d (.tuple (R.map prR))), some (.d (.int n)), some (.d (.int i)), some (.d (.int j)), o4']) (by intro e h; first | (obtain ⟨_, rfl⟩ := h; simp [DL.Sh]) | (obtain ⟨_, _, rfl⟩ := h; simp [DL.Sh]) | (obtain ⟨_, _, _, rfl⟩ := h; simp [DL.Sh]) | (obtain ⟨_, _, _, _, rfl⟩ := h; simp [DL.Sh]) | (obtain ⟨_, _, _, _, _, rfl⟩ := h; simp [DL.Sh]) | (obtain ⟨_, _, _, _, _, _, rfl⟩ := h; simp [DL.Sh]) | (obtain ⟨_, _, _, _, _, _, _, rfl⟩ := h; simp [DL.Sh]) | (obtain ⟨_, _, _, _, _, _, _, _, rfl⟩ := h; simp [DL.Sh])) ?_ _ ⟨o4, rfl⟩
  rintro b hb e ⟨o4', rfl⟩
  have hb := List.mem_range.1 hb
  have a1 := at_rat R i hi
  have a2 := at_rat R j hj
  have q := law_goes_e (h.pai _ (rat_mem hi)) (h.pai _ (rat_mem hj)) b hb
  refine ⟨_, [some (.d (.tuple (R.map prR))), some (.d (.int n)), some (.d (.int i)), some (.d (.int j)), some (.d (.int b))], rfl, ?_, by simp [Sh], fun _ => ⟨_, rfl⟩⟩
  unfold gv
  cases hg : goes (rat R i) (rat R j) b with
  | true =>
    rw [hg] at q
    rw [if_pos rfl]
    simp only [dlall, flB, a1, a2, q, outOf_s]
  | false =>
    rw [hg] at q
    rw [if_neg (by decide)]
    simp only [dlall, flB, a1, a2, q, outOf_n]
theorem fl_mid (h : Prs R v n) (i : Nat) (hi : i < R.length) (o3 o4 : Option M) :
    ∃ e2, forGo (gN 3) (sFor (itB bRange1 (aCons (eVar 1) (aNil))) (gN 4) flB) (rangeD 0 R.length) [some (.d (.tuple (R.map prR))), some (.d (.int n)), some (.d (.int i)), o3, o4] = outOf (gv1 R n i) e2 ∧ Sh 2 e2 ∧
      (gv1 R n i = none → ∃ o3' o4', e2 = [some (.d (.tuple (R.map prR))), some (.d (.int n)), some (.d (.int i)), o3', o4']) := by
  rw [rangeD_eq]
  have hn := h.n20
  have kn : ((n : Int) ≤ 16777216 ∧ -(2 ^ 62) ≤ (n : Int)) = True := by simp; omega
  refine forGo_fnd (emb := fun b : Nat => PyData.int b) (List.range R.length) (gv2 R n i) 2 (fun e => ∃ o3' o4', e = [some (.d (.tuple (R.map prR))), some (.d (.int n)), some (.d (.int i)), o3', o4']) (by intro e h; first | (obtain ⟨_, rfl⟩ := h; simp [DL.Sh]) | (obtain ⟨_, _, rfl⟩ := h; simp [DL.Sh]) | (obtain ⟨_, _, _, rfl⟩ := h; simp [DL.Sh]) | (obtain ⟨_, _, _, _, rfl⟩ := h; simp [DL.Sh]) | (obtain ⟨_, _, _, _, _, rfl⟩ := h; simp [DL.Sh]) | (obtain ⟨_, _, _, _, _, _, rfl⟩ := h; simp [DL.Sh]) | (obtain ⟨_, _, _, _, _, _, _, rfl⟩ := h; simp [DL.Sh]) | (obtain ⟨_, _, _, _, _, _, _, _, rfl⟩ := h; simp [DL.Sh])) ?_ _ ⟨o3, o4, rfl⟩
  rintro j hj e ⟨o3', o4', rfl⟩
  obtain ⟨e2, q, qs, q2⟩ := fl_in h i j hi (List.mem_range.1 hj) o4'
  refine ⟨_, e2, rfl, ?_, qs, fun z => ?_⟩
  · simp only [dlall, kn, Int.toNat_natCast] at q ⊢
    exact q
  · obtain ⟨a, rfl⟩ := q2 z
    exact ⟨_, _, rfl⟩
theorem law_first_leave_e (h : Prs R v n) : f__law_first_leave [.d (.tuple (R.map prR)), .d (.int n)] = .rt (.d ((ffN R n).getD .none)) [none, none] := by
  have hr := h.sz
  have kn : ((R.length : Int) ≤ 16777216 ∧ -(2 ^ 62) ≤ (R.length : Int)) = True := by simp; omega
  have key := forGo_fnd (g := gN 2) (body := sFor (itB bRange1 (aCons (eB bLen (aCons (eVar 0) (aNil))) (aNil))) (gN 3) (sFor (itB bRange1 (aCons (eVar 1) (aNil))) (gN 4) flB)) (emb := fun b : Nat => PyData.int b) (List.range R.length) (gv1 R n) 2 (fun e => ∃ o2' o3' o4', e = [some (.d (.tuple (R.map prR))), some (.d (.int n)), o2', o3', o4']) (by intro e h; first | (obtain ⟨_, rfl⟩ := h; simp [DL.Sh]) | (obtain ⟨_, _, rfl⟩ := h; simp [DL.Sh]) | (obtain ⟨_, _, _, rfl⟩ := h; simp [DL.Sh]) | (obtain ⟨_, _, _, _, rfl⟩ := h; simp [DL.Sh]) | (obtain ⟨_, _, _, _, _, rfl⟩ := h; simp [DL.Sh]) | (obtain ⟨_, _, _, _, _, _, rfl⟩ := h; simp [DL.Sh]) | (obtain ⟨_, _, _, _, _, _, _, rfl⟩ := h; simp [DL.Sh]) | (obtain ⟨_, _, _, _, _, _, _, _, rfl⟩ := h; simp [DL.Sh])) (by
    rintro i hi e ⟨o2', o3', o4', rfl⟩
    obtain ⟨e2, q, qs, q2⟩ := fl_mid h i (List.mem_range.1 hi) o3' o4'
    refine ⟨_, e2, rfl, ?_, qs, fun z => ?_⟩
    · simp only [dlall, List.length_map, kn, Int.toNat_natCast] at q ⊢
      exact q
    · obtain ⟨a, b, rfl⟩ := q2 z
      exact ⟨_, _, _, rfl⟩) [some (.d (.tuple (R.map prR))), some (.d (.int n)), none, none, none] ⟨_, _, _, rfl⟩
  rw [← rangeD_eq] at key
  obtain ⟨e2, q, qs, _⟩ := key
  simp only [dlall, f__law_first_leave, b__law_first_leave, List.length_map, kn, Int.toNat_natCast]
  rw [q]
  have z : ffN R n = (List.range R.length).findSome? (gv1 R n) := rfl
  rw [← z, outOf_ret]
  simp only [dlall, outs_2 qs]
/-! the program's loops -/
theorem enum_prs (R : List PR) : ∀ n : Nat, enumD n (R.map prR) = (List.range R.length).map fun j : Nat => PyData.tuple [.int ((n + j : Nat) : Int), prR (rat R j)] := by
  induction R with
  | nil => intro n; rfl
  | cons x l ih =>
    intro n
    rw [List.map_cons, enumD, ih (n + 1), List.length_cons, List.range_succ_eq_map, List.map_cons, List.map_map]
    congr 1
    refine List.map_congr_left fun j _ => ?_
    show _ = PyData.tuple [.int ((n + (j + 1) : Nat) : Int), prR (rat l j)]
    rw [Nat.add_assoc, Nat.add_comm 1 j]
theorem enum_prs0 (R : List PR) : enumD 0 (R.map prR) = (List.range R.length).map fun j : Nat => PyData.tuple [.int (j : Int), prR (rat R j)] := by
  rw [enum_prs R 0]
  refine List.map_congr_left fun j _ => ?_
  rw [Nat.zero_add]
abbrev fnB : DL.Env → Out := sIf (tt1 (eFrz (eCall 3 f_goes_needlessly (avD (eVar 3) (avD (eVar 5) (avD (eVar 6) (avNil))))))) (sRet (mD (eTup (aCons (eVar 2) (aCons (eVar 4) (aCons (eVar 6) (aNil))))))) (sNx)
theorem fn_in (h : Prs R v n) (i j : Nat) (hi : i < R.length) (hj : j < R.length) (o6 : Option M) :
    ∃ e2, forGo (gN 6) fnB (rangeD 0 n) [some (.d (.int n)), some (.d (.tuple (R.map prR))), some (.d (.int i)), some (.d (prR (rat R i))), some (.d (.int j)), some (.d (prR (rat R j))), o6] = outOf (gv2 R n i j) e2 ∧ Sh 2 e2 ∧
      (gv2 R n i j = none → ∃ o6', e2 = [some (.d (.int n)), some (.d (.tuple (R.map prR))), some (.d (.int i)), some (.d (prR (rat R i))), some (.d (.int j)), some (.d (prR (rat R j))), o6']) := by
  rw [rangeD_eq]
  refine forGo_fnd (emb := fun b : Nat => PyData.int b) (List.range n) (gv R i j) 2 (fun e => ∃ o6', e = [some (.d (.int n)), some (.d (.tuple (R.map prR))), some (.d (.int i)), some (.d (prR (rat R i))), some (.d (.int j)), some (.d (prR (rat R j))), o6']) (by intro e h; first | (obtain ⟨_, rfl⟩ := h; simp [DL.Sh]) | (obtain ⟨_, _, rfl⟩ := h; simp [DL.Sh]) | (obtain ⟨_, _, _, rfl⟩ := h; simp [DL.Sh]) | (obtain ⟨_, _, _, _, rfl⟩ := h; simp [DL.Sh]) | (obtain ⟨_, _, _, _, _, rfl⟩ := h; simp [DL.Sh]) | (obtain ⟨_, _, _, _, _, _, rfl⟩ := h; simp [DL.Sh]) | (obtain ⟨_, _, _, _, _, _, _, rfl⟩ := h; simp [DL.Sh]) | (obtain ⟨_, _, _, _, _, _, _, _, rfl⟩ := h; simp [DL.Sh])) ?_ _ ⟨o6, rfl⟩
  rintro b hb e ⟨o6', rfl⟩
  have hb := List.mem_range.1 hb
  have q := goes_needlessly_e (h.pai _ (rat_mem hi)) (h.pai _ (rat_mem hj)) b hb
  refine ⟨_, [some (.d (.int n)), some (.d (.tuple (R.map prR))), some (.d (.int i)), some (.d (prR (rat R i))), some (.d (.int j)), some (.d (prR (rat R j))), some (.d (.int b))], rfl, ?_, by simp [Sh], fun _ => ⟨_, rfl⟩⟩
  unfold gv
  cases hg : goes (rat R i) (rat R j) b with
  | true =>
    rw [hg] at q
    rw [if_pos rfl]
    simp only [dlall, fnB, q, outOf_s]
  | false =>
    rw [hg] at q
    rw [if_neg (by decide)]
    simp only [dlall, fnB, q, outOf_n]
theorem fn_mid (h : Prs R v n) (i : Nat) (hi : i < R.length) (o4 o5 o6 : Option M) :
    ∃ e2, forGo (gT 2 (gsC (gN 4) (gsC (gN 5) (gsN)))) (sFor (itB bRange1 (aCons (eVar 0) (aNil))) (gN 6) fnB) (enumD 0 (R.map prR)) [some (.d (.int n)), some (.d (.tuple (R.map prR))), some (.d (.int i)), some (.d (prR (rat R i))), o4, o5, o6] = outOf (gv1 R n i) e2 ∧ Sh 2 e2 ∧
      (gv1 R n i = none → ∃ o4' o5' o6', e2 = [some (.d (.int n)), some (.d (.tuple (R.map prR))), some (.d (.int i)), some (.d (prR (rat R i))), o4', o5', o6']) := by
  rw [enum_prs0]
  have hn := h.n20
  have kn : ((n : Int) ≤ 16777216 ∧ -(2 ^ 62) ≤ (n : Int)) = True := by simp; omega
  refine forGo_fnd (emb := fun j : Nat => PyData.tuple [.int (j : Int), prR (rat R j)]) (List.range R.length) (gv2 R n i) 2 (fun e => ∃ o4' o5' o6', e = [some (.d (.int n)), some (.d (.tuple (R.map prR))), some (.d (.int i)), some (.d (prR (rat R i))), o4', o5', o6']) (by intro e h; first | (obtain ⟨_, rfl⟩ := h; simp [DL.Sh]) | (obtain ⟨_, _, rfl⟩ := h; simp [DL.Sh]) | (obtain ⟨_, _, _, rfl⟩ := h; simp [DL.Sh]) | (obtain ⟨_, _, _, _, rfl⟩ := h; simp [DL.Sh]) | (obtain ⟨_, _, _, _, _, rfl⟩ := h; simp [DL.Sh]) | (obtain ⟨_, _, _, _, _, _, rfl⟩ := h; simp [DL.Sh]) | (obtain ⟨_, _, _, _, _, _, _, rfl⟩ := h; simp [DL.Sh]) | (obtain ⟨_, _, _, _, _, _, _, _, rfl⟩ := h; simp [DL.Sh])) ?_ _ ⟨o4, o5, o6, rfl⟩
  rintro j hj e ⟨o4', o5', o6', rfl⟩
  obtain ⟨e2, q, qs, q2⟩ := fn_in h i j hi (List.mem_range.1 hj) o6'
  refine ⟨[some (.d (.int n)), some (.d (.tuple (R.map prR))), some (.d (.int i)), some (.d (prR (rat R i))), some (.d (.int j)), some (.d (prR (rat R j))), o6'], e2, ?_, ?_, qs, fun z => ?_⟩
  · simp only [dlall]
  · simp only [dlall, kn, Int.toNat_natCast] at q ⊢
    exact q
  · obtain ⟨a, rfl⟩ := q2 z
    exact ⟨_, _, _, rfl⟩
theorem first_needless_e (h : Prs R v n) : f_first_needless [.d (.int n), .d (.tuple (R.map prR))] = .rt (.d ((ffN R n).getD .none)) [none, none] := by
  have key := forGo_fnd (g := gT 2 (gsC (gN 2) (gsC (gN 3) (gsN)))) (body := sFor (itB bEnum (aCons (eVar 1) (aNil))) (gT 2 (gsC (gN 4) (gsC (gN 5) (gsN)))) (sFor (itB bRange1 (aCons (eVar 0) (aNil))) (gN 6) fnB)) (emb := fun j : Nat => PyData.tuple [.int (j : Int), prR (rat R j)]) (List.range R.length) (gv1 R n) 2 (fun e => ∃ o2' o3' o4' o5' o6', e = [some (.d (.int n)), some (.d (.tuple (R.map prR))), o2', o3', o4', o5', o6']) (by intro e h; first | (obtain ⟨_, rfl⟩ := h; simp [DL.Sh]) | (obtain ⟨_, _, rfl⟩ := h; simp [DL.Sh]) | (obtain ⟨_, _, _, rfl⟩ := h; simp [DL.Sh]) | (obtain ⟨_, _, _, _, rfl⟩ := h; simp [DL.Sh]) | (obtain ⟨_, _, _, _, _, rfl⟩ := h; simp [DL.Sh]) | (obtain ⟨_, _, _, _, _, _, rfl⟩ := h; simp [DL.Sh]) | (obtain ⟨_, _, _, _, _, _, _, rfl⟩ := h; simp [DL.Sh]) | (obtain ⟨_, _, _, _, _, _, _, _, rfl⟩ := h; simp [DL.Sh])) (by
    rintro i hi e ⟨o2', o3', o4', o5', o6', rfl⟩
    obtain ⟨e2, q, qs, q2⟩ := fn_mid h i (List.mem_range.1 hi) o4' o5' o6'
    refine ⟨[some (.d (.int n)), some (.d (.tuple (R.map prR))), some (.d (.int i)), some (.d (prR (rat R i))), o4', o5', o6'], e2, ?_, ?_, qs, fun z => ?_⟩
    · simp only [dlall]
    · simp only [dlall] at q ⊢
      exact q
    · obtain ⟨a, b, c, rfl⟩ := q2 z
      exact ⟨_, _, _, _, _, rfl⟩) [some (.d (.int n)), some (.d (.tuple (R.map prR))), none, none, none, none, none] ⟨_, _, _, _, _, rfl⟩
  rw [← enum_prs0] at key
  obtain ⟨e2, q, qs, _⟩ := key
  simp only [dlall, f_first_needless, b_first_needless]
  rw [q]
  have z : ffN R n = (List.range R.length).findSome? (gv1 R n) := rfl
  rw [← z, outOf_ret]
  simp only [dlall, outs_2 qs]
theorem needless_leave_e (h : Rul R v n) : f_needless_leave [.d (.int v), .d (.int n), .d (.tuple (R.map prR))] = .rt (.d ((ffN R n).getD .none)) [none, none, none] := by
  have q1 := check_rule_e h
  have q2 := first_needless_e h.prs
  simp only [dlall, f_needless_leave, b_needless_leave, q1, q2]
/-! drawn lists -/
theorem lists_ex {g : PyData → DL.Env → Option DL.Env} {te : DL.Env → Rs PyData} {vs : List Nat} (n N : Nat) (hn : n ≤ 1000) (mk : Strm → DL.Env)
    (step : ∀ (s : Strm) (k : Nat), ∃ e1, g (.int k) (mk s) = some e1 ∧ ∀ (al : List Int) (s' : Strm), f__law_shuffled [s.m, .d (.int n)] = .rt (.d (ls al)) [some s'.m, none] → ∃ e2, te e1 = .ok (ls al) e2 ∧ wipeE e2 vs = mk s') (s : Strm) :
    ∃ (Ls : List (List Int)) (s' : Strm), compGo g tYesD te vs (rangeD 0 N) [] (mk s) = .ok (Ls.map ls) (mk s') ∧ Ls.length = N ∧ ∀ l ∈ Ls, IsO l n := by
  obtain ⟨ys, e', h1, Ls, s', rfl, h2, h3, rfl⟩ := compGo_range (g := g) (tt := tYesD) (te := te) (vs := vs) N (fun k acc e => ∃ (Ls : List (List Int)) (s' : Strm), acc = Ls.map ls ∧ Ls.length = k ∧ (∀ l ∈ Ls, IsO l n) ∧ e = mk s') (by
    rintro k acc e hk ⟨Ls, s1, rfl, h2, h3, rfl⟩
    obtain ⟨e1, g1, g2⟩ := step s1 k
    obtain ⟨al, s2, q, io⟩ := shuffled_ex s1 (n : Int) (by omega) (by omega)
    rw [Int.toNat_natCast] at io
    obtain ⟨e2, t1, t2⟩ := g2 al s2 q
    refine ⟨e1, ls al, e2, g1, rfl, t1, Ls ++ [al], s2, by rw [List.map_append]; rfl, by simp [h2], fun l hl => ?_, t2⟩
    rcases List.mem_append.1 hl with hl | hl
    · exact h3 l hl
    · rw [List.mem_singleton] at hl
      rw [hl]; exact io) (mk s) ⟨[], s, rfl, rfl, (fun l hl => nomatch hl), rfl⟩
  exact ⟨Ls, s', h1, h2, h3⟩
/-! drawn rules -/
theorem isNon_optT (o : Option (List Int)) : isNon (optT o) = o.isNone := by cases o <;> rfl
theorem pai_drawn {a b : List Int} (ha : Alc a v n) (h1 : b.length = n) (h2 : ∀ i ∈ b, 0 ≤ i ∧ i < v) (h3 : cnt b v = a) : Pai (a, b) v n := ⟨ha, h1, h2, h3⟩
theorem pai_byL {Ls : List (List Int)} {a b : List Int} (ha : Alc a v n) (h : ByL Ls a v n b) : Pai (a, b) v n := ⟨ha, h.len, h.bnd, h.cnt⟩
abbrev rlB0 : DL.Env → Out := sIf (tAndD (tt1 (eVar 6)) (tOrD (tb1 (e2 dIs (eVar 11) (eC (.none)))) (tb1 (e2 dEq (eFrz (eCall 2 f__law_next (avS 0 (avD (eC (.int 2)) (avNil))))) (eC (.int 1)))))) (sSet 11 (mD (eFrz (eCall 3 f__law_drawn_assignment (avS 0 (avD (eVar 10) (avD (eVar 2) (avNil)))))))) (sNx)
theorem rl_0 (s : Strm) (v n : Nat) (hv : v ≤ 10) (hn : n ≤ 1000) (w : Bool) {a : List Int} (ha : Alc a v n) (o : Option (List Int)) (ho : ∀ b, o = some b → Pai (a, b) v n) (o1 o3 o4 o5 o7 o8 o9 : Option M) : ∃ (s' : Strm) (o' : Option (List Int)), (∀ b, o' = some b → Pai (a, b) v n) ∧
    rlB0 [some s.m, o1, some (.d (.int n)), o3, o4, o5, some (.d (.bool w)), o7, o8, o9, some (.d (tp a)), some (.d (optT o))] = .nx [some s'.m, o1, some (.d (.int n)), o3, o4, o5, some (.d (.bool w)), o7, o8, o9, some (.d (tp a)), some (.d (optT o'))] := by
  have hi := isNon_optT o
  cases w with
  | false => exact ⟨s, o, ho, by simp only [dlall, rlB0]⟩
  | true =>
    cases o with
    | none =>
      obtain ⟨b, s', q, b1, b2, b3⟩ := drawn_ex s hv hn ha
      refine ⟨s', some b, fun c hc => ?_, ?_⟩
      · cases hc; exact pai_drawn ha b1 b2 b3
      · simp only [Option.isNone_none] at hi
        simp only [dlall, rlB0, hi, q, optT]
    | some x =>
      obtain ⟨d, s1, q1, _, _⟩ := next_ex s 2 (by omega) (by omega)
      simp only [Option.isNone_some] at hi
      by_cases c : d = 1
      · obtain ⟨b, s', q, b1, b2, b3⟩ := drawn_ex s1 hv hn ha
        refine ⟨s', some b, fun c hc => ?_, ?_⟩
        · cases hc; exact pai_drawn ha b1 b2 b3
        · have c1 : (d == 1) = true := by simpa using c
          simp only [dlall, rlB0, hi, q1, c1, q, optT]
      · refine ⟨s1, some x, ho, ?_⟩
        have c1 : (d == 1) = false := by simpa using c
        simp only [dlall, rlB0, hi, q1, c1]
abbrev rlB1 : DL.Env → Out := sIf (tAndD (tb1 (e2R dNotIn (eVar 10) 8)) (tb1 (e2 dIsNot (eVar 11) (eC (.none))))) (sThen (sDrop (mD (eMt 8 mApp (aCons (eVar 10) (aNil)))))
      (sDrop (mD (eMt 7 mApp (aCons (eTup (aCons (eVar 10) (aCons (eVar 11) (aNil)))) (aNil)))))) (sNx)
theorem rl_1 (R : List PR) (hR : R.length ≤ 1000) (a : List Int) (o : Option (List Int)) (o0 o1 o2 o3 o4 o5 o6 o9 : Option M) : ∃ R' : List PR, (R' = R ∨ ∃ b, o = some b ∧ a ∉ R.map Prod.fst ∧ R' = R ++ [(a, b)]) ∧
    rlB1 [o0, o1, o2, o3, o4, o5, o6, some (.l (R.map prR)), some (.l ((R.map Prod.fst).map tp)), o9, some (.d (tp a)), some (.d (optT o))] = .nx [o0, o1, o2, o3, o4, o5, o6, some (.l (R'.map prR)), some (.l ((R'.map Prod.fst).map tp)), o9, some (.d (tp a)), some (.d (optT o))] := by
  have q : dNotIn (tp a) (.list ((R.map Prod.fst).map tp)) = some (.bool (!(R.map Prod.fst).any (· == a))) := Emb.row.notIn_l (by decide) a (R.map Prod.fst)
  have hi := isNon_optT o
  by_cases c : a ∈ R.map Prod.fst
  · have c1 : (!(R.map Prod.fst).any (· == a)) = false := by
      rw [Bool.not_eq_false', List.any_eq_true]
      exact ⟨a, c, by simp⟩
    exact ⟨R, .inl rfl, by simp only [dlall, rlB1, q, c1]⟩
  · have c1 : (!(R.map Prod.fst).any (· == a)) = true := by
      rw [Bool.not_eq_true', List.any_eq_false]
      intro x hx
      simp only [beq_iff_eq]
      rintro rfl
      exact c hx
    cases o with
    | none =>
      simp only [Option.isNone_none] at hi
      exact ⟨R, .inl rfl, by simp only [dlall, rlB1, q, c1, hi]⟩
    | some b =>
      simp only [Option.isNone_some] at hi
      refine ⟨R ++ [(a, b)], .inr ⟨b, rfl, c, rfl⟩, ?_⟩
      have x1 := appL ((R.map Prod.fst).map tp) (tp a) (by rw [List.length_map, List.length_map]; omega)
      have x2 := appL (R.map prR) (.tuple [tp a, optT (some b)]) (by rw [List.length_map]; omega)
      have m1 : (R ++ [(a, b)]).map prR = R.map prR ++ [.tuple [tp a, optT (some b)]] := by rw [List.map_append]; rfl
      have m2 : ((R ++ [(a, b)]).map Prod.fst).map tp = (R.map Prod.fst).map tp ++ [tp a] := by rw [List.map_append, List.map_append]; rfl
      rw [m1, m2]
      simp only [dlall, rlB1, q, c1, hi, x1, x2]
theorem nodup_snoc {α : Type} {l : List α} {a : α} (h : l.Nodup) (ha : a ∉ l) : (l ++ [a]).Nodup := by
  rw [List.nodup_append]
  refine ⟨h, by simp, fun x hx y hy => ?_⟩
  rw [List.mem_singleton] at hy
  rw [hy]
  rintro rfl
  exact ha hx
abbrev rlB : DL.Env → Out := sThen (sSet 10 (mD (e2 dIx (eVar 5) (eFrz (eCall 2 f__law_next (avS 0 (avD (eB bLen (aCons (eVar 5) (aNil))) (avNil))))))))
    (sThen (sSet 11 (mD (eFrz (eCall 3 f__law_by_lists (avD (eVar 4) (avD (eVar 10) (avD (eVar 2) (avNil))))))))
    (sThen rlB0 rlB1))
theorem thn4 (t u w x : DL.Env → Out) (e e1 e2 e3 e4 : DL.Env) (h1 : t e = .nx e1) (h2 : u e1 = .nx e2) (h3 : w e2 = .nx e3) (h4 : x e3 = .nx e4) : sThen t (sThen u (sThen w x)) e = .nx e4 := by
  simp only [sThen_eq, h1, h2, h3, h4, thn_nx]
theorem rl_b (o0 o1 o3 o5 o6 o7 o8 o9 o11 : Option M) (L a N y : PyData) (h : f__law_by_lists [.d L, .d a, .d N] = .rt (.d y) [none, none, none]) : sSet 11 (mD (eFrz (eCall 3 f__law_by_lists (avD (eVar 4) (avD (eVar 10) (avD (eVar 2) (avNil))))))) [o0, o1, some (.d N), o3, some (.d L), o5, o6, o7, o8, o9, some (.d a), o11] = .nx [o0, o1, some (.d N), o3, some (.d L), o5, o6, o7, o8, o9, some (.d a), some (.d y)] := by
  simp only [dlall, h]
theorem rl_step {Ls : List (List Int)} (hv1 : 1 ≤ v) (hv : v ≤ 4) (hn : n ≤ 4) (hL : Lsts Ls v n) (w : Bool) (o3 : Option M) (s : Strm) (R : List PR) (hR : R.length ≤ 100) (k : Nat) (o10 o11 : Option M) : ∃ (s' : Strm) (R' : List PR) (o10' o11' : Option M), (R' = R ∨ ∃ a b, Pai (a, b) v n ∧ a ∉ R.map Prod.fst ∧ R' = R ++ [(a, b)]) ∧
    rlB [some s.m, some (.d (.int v)), some (.d (.int n)), o3, some (.d (.list (Ls.map ls))), some (.d (.list ((alcs v n).map tp))), some (.d (.bool w)), some (.l (R.map prR)), some (.l ((R.map Prod.fst).map tp)), some (.d (.int k)), o10, o11] =
    .nx [some s'.m, some (.d (.int v)), some (.d (.int n)), o3, some (.d (.list (Ls.map ls))), some (.d (.list ((alcs v n).map tp))), some (.d (.bool w)), some (.l (R'.map prR)), some (.l ((R'.map Prod.fst).map tp)), some (.d (.int k)), o10', o11'] := by
  have hal := alcs_len v n hv hn
  obtain ⟨d, s5, x1, x2, x3⟩ := next_ex s ((alcs v n).length : Int) (by omega) (by omega)
  obtain ⟨j, rfl⟩ := Int.eq_ofNat_of_zero_le x2
  have hj : j < (alcs v n).length := by omega
  have ha := mem_alcs hv1 (List.getElem_mem hj)
  generalize hx : (alcs v n)[j] = a at ha
  have a1 : L2.atI ((alcs v n).map tp) (j : Int) = some (tp a) := by rw [atI_nat, List.getElem?_map, List.getElem?_eq_getElem hj, hx]; rfl
  obtain ⟨o, x4, x5⟩ := by_lists_ex hv1 (by omega) (by omega) hL ha
  obtain ⟨s6, o', x6, x7⟩ := rl_0 s5 v n (by omega) (by omega) w ha o (fun b hb => pai_byL ha (x5 b hb)) (some (.d (.int v))) o3 (some (.d (.list (Ls.map ls)))) (some (.d (.list ((alcs v n).map tp)))) (some (.l (R.map prR))) (some (.l ((R.map Prod.fst).map tp))) (some (.d (.int k)))
  obtain ⟨R', x8, x9⟩ := rl_1 R (by omega) a o' (some s6.m) (some (.d (.int v))) (some (.d (.int n))) o3 (some (.d (.list (Ls.map ls)))) (some (.d (.list ((alcs v n).map tp)))) (some (.d (.bool w))) (some (.d (.int k)))
  generalize hA : alcs v n = A at *
  refine ⟨s6, R', _, _, ?_, thn4 _ _ _ _ _ [some s5.m, some (.d (.int v)), some (.d (.int n)), o3, some (.d (.list (Ls.map ls))), some (.d (.list (A.map tp))), some (.d (.bool w)), some (.l (R.map prR)), some (.l ((R.map Prod.fst).map tp)), some (.d (.int k)), some (.d (tp a)), o11] _ _ _ ?_ ?_ x7 x9⟩
  · rcases x8 with rfl | ⟨b, hb, hm, rfl⟩
    · exact .inl rfl
    · exact .inr ⟨a, b, x6 b hb, hm, rfl⟩
  · simp only [dlall, List.length_map, x1, a1]
  · exact rl_b _ _ _ _ _ _ _ _ _ _ _ _ _ x4
theorem rule_ex (s : Strm) (v n m : Nat) (hv1 : 1 ≤ v) (hv : v ≤ 4) (hn : n ≤ 4) (hm : m ≤ 19) : ∃ (R : List PR) (s' : Strm), f__law_rule [s.m, .d (.int v), .d (.int n), .d (.int m)] = .rt (.d (.tuple (R.map prR))) [some s'.m, none, none, none] ∧ Rul R v n := by
  have kv : ((v : Int) - 1 ≤ 16777216 ∧ -(2 ^ 62) ≤ (v : Int) - 1) = True := by simp; omega
  have tv : ((v : Int) - 1).toNat = v - 1 := by omega
  obtain ⟨Ls, s1, q1, l1, l2⟩ := lists_ex (g := gN 9) (te := eFrz (eCall 2 f__law_shuffled (avS 0 (avD (eVar 2) (avNil))))) (vs := [9]) n (v - 1) (by omega) (fun s => [some s.m, some (.d (.int v)), some (.d (.int n)), some (.d (.int m)), none, none, none, none, none, none, none, none]) (by
    intro s k
    refine ⟨[some s.m, some (.d (.int v)), some (.d (.int n)), some (.d (.int m)), none, none, none, none, none, some (.d (.int k)), none, none], ?_, fun al s' q => ⟨[some s'.m, some (.d (.int v)), some (.d (.int n)), some (.d (.int m)), none, none, none, none, none, some (.d (.int k)), none, none], ?_, ?_⟩⟩
    · simp only [dlall]
    · simp only [dlall, q]
    · simp only [dlall]) s
  have hL : Lsts Ls v n := ⟨by omega, l2⟩
  have q2 := allocations_e v n hv1 hv hn
  obtain ⟨d3, s2, q3, _, _⟩ := next_ex s1 3 (by omega) (by omega)
  obtain ⟨d4, s3, q4, d4a, d4b⟩ := next_ex s2 ((m : Int) + 1) (by omega) (by omega)
  have kd : (d4 ≤ 16777216 ∧ -(2 ^ 62) ≤ d4) = True := by simp; omega
  obtain ⟨e', q5, s4, R, o9, o10, o11, h1, h2, h3, rfl⟩ := forGo_range (g := gN 9) (body := rlB) d4.toNat (fun k e => ∃ (s : Strm) (R : List PR) (o9 o10 o11 : Option M), R.length ≤ k ∧ (∀ p ∈ R, Pai p v n) ∧ (R.map Prod.fst).Nodup ∧
      e = [some s.m, some (.d (.int v)), some (.d (.int n)), some (.d (.int m)), some (.d (.list (Ls.map ls))), some (.d (.list ((alcs v n).map tp))), some (.d (.bool (d3 == 1))), some (.l (R.map prR)), some (.l ((R.map Prod.fst).map tp)), o9, o10, o11]) (by
    rintro k e hk ⟨s, R, o9, o10, o11, h1, h2, h3, rfl⟩
    obtain ⟨s6, R', o10', o11', x8, x9⟩ := rl_step hv1 hv hn hL (d3 == 1) (some (.d (.int m))) s R (by omega) k o10 o11
    refine ⟨_, _, rfl, .inl x9, s6, R', _, _, _, ?_, ?_, ?_, rfl⟩
    · rcases x8 with rfl | ⟨a, b, _, _, rfl⟩
      · omega
      · simp; omega
    · rcases x8 with rfl | ⟨a, b, hb, _, rfl⟩
      · exact h2
      · intro p hp
        rcases List.mem_append.1 hp with hp | hp
        · exact h2 p hp
        · rw [List.mem_singleton] at hp
          rw [hp]; exact hb
    · rcases x8 with rfl | ⟨a, b, _, hb, rfl⟩
      · exact h3
      · rw [List.map_append]
        exact nodup_snoc h3 hb) [some s3.m, some (.d (.int v)), some (.d (.int n)), some (.d (.int m)), some (.d (.list (Ls.map ls))), some (.d (.list ((alcs v n).map tp))), some (.d (.bool (d3 == 1))), some (.l (([] : List PR).map prR)), some (.l ((([] : List PR).map Prod.fst).map tp)), none, none, none] ⟨s3, [], none, none, none, Nat.zero_le _, (fun p hp => nomatch hp), by simp, rfl⟩
  refine ⟨R, s4, ?_, hv1, by omega, by omega, by omega, h2, h3⟩
  simp only [List.map_nil] at q5
  simp only [dlall, f__law_rule, b__law_rule, kv, tv, q1, q2, q3, q4, kd]
  rw [q5]
  simp only [dlall]
/-! rules by lists alone are steady -/
theorem byL_goes {Ls : List (List Int)} {p q : PR} (hp : ByL Ls p.1 v n p.2) (hq : ByL Ls q.1 v n q.2) (b : Nat) (hb : b < n) : goes p q b = false := by
  unfold goes
  have hb1 : b < p.2.length := by rw [hp.len]; exact hb
  have h0 := hp.bnd p.2[b] (List.getElem_mem hb1)
  have hg : p.2.getD b 0 = p.2[b] := by simp [hb1]
  rw [← hg] at h0
  obtain ⟨k, hk⟩ := Int.eq_ofNat_of_zero_le h0.1
  rw [hk] at h0 ⊢
  rw [Int.toNat_natCast]
  cases k with
  | zero => simp
  | succ w =>
    have hw : w + 1 < v := by omega
    by_cases c : p.1.getD (w + 1) 0 ≤ q.1.getD (w + 1) 0
    · have m := (hp.own b hb w hw).1 (by rw [hk]; rfl)
      have m2 : (b : Int) ∈ tk Ls q.1 w := by
        unfold tk at m ⊢
        exact List.take_subset_take_left _ (by omega) m
      have e := (hq.own b hb w hw).2 m2
      rw [e]
      simp
    · have c1 : decide (p.1.getD (w + 1) 0 ≤ q.1.getD (w + 1) 0) = false := decide_eq_false c
      rw [c1, Bool.and_false, Bool.and_false]
end DCor


namespace Lk53
open PySem DL DCor
open DCom hiding tp addT fm_len
variable {v n : Nat} {R : List PR}
theorem rule6_ex (s : Strm) (v n m : Nat) (hv1 : 1 ≤ v) (hv : v ≤ 4) (hn : n ≤ 4) (hm : m ≤ 19) : ∃ (R : List PR) (s' : Strm), f__law_rule [s.m, .d (.int v), .d (.int n), .d (.int m)] = .rt (.d (.tuple (R.map prR))) [some s'.m, none, none, none] ∧ Rul R v n ∧ R.length ≤ m := by
  have kv : ((v : Int) - 1 ≤ 16777216 ∧ -(2 ^ 62) ≤ (v : Int) - 1) = True := by simp; omega
  have tv : ((v : Int) - 1).toNat = v - 1 := by omega
  obtain ⟨Ls, s1, q1, l1, l2⟩ := lists_ex (g := gN 9) (te := eFrz (eCall 2 f__law_shuffled (avS 0 (avD (eVar 2) (avNil))))) (vs := [9]) n (v - 1) (by omega) (fun s => [some s.m, some (.d (.int v)), some (.d (.int n)), some (.d (.int m)), none, none, none, none, none, none, none, none]) (by
    intro s k
    refine ⟨[some s.m, some (.d (.int v)), some (.d (.int n)), some (.d (.int m)), none, none, none, none, none, some (.d (.int k)), none, none], ?_, fun al s' q => ⟨[some s'.m, some (.d (.int v)), some (.d (.int n)), some (.d (.int m)), none, none, none, none, none, some (.d (.int k)), none, none], ?_, ?_⟩⟩
    · simp only [dlall]
    · simp only [dlall, q]
    · simp only [dlall]) s
  have hL : Lsts Ls v n := ⟨by omega, l2⟩
  have q2 := allocations_e v n hv1 hv hn
  obtain ⟨d3, s2, q3, _, _⟩ := next_ex s1 3 (by omega) (by omega)
  obtain ⟨d4, s3, q4, d4a, d4b⟩ := next_ex s2 ((m : Int) + 1) (by omega) (by omega)
  have kd : (d4 ≤ 16777216 ∧ -(2 ^ 62) ≤ d4) = True := by simp; omega
  obtain ⟨e', q5, s4, R, o9, o10, o11, h1, h2, h3, rfl⟩ := forGo_range (g := gN 9) (body := rlB) d4.toNat (fun k e => ∃ (s : Strm) (R : List PR) (o9 o10 o11 : Option M), R.length ≤ k ∧ (∀ p ∈ R, Pai p v n) ∧ (R.map Prod.fst).Nodup ∧
      e = [some s.m, some (.d (.int v)), some (.d (.int n)), some (.d (.int m)), some (.d (.list (Ls.map ls))), some (.d (.list ((alcs v n).map tp))), some (.d (.bool (d3 == 1))), some (.l (R.map prR)), some (.l ((R.map Prod.fst).map tp)), o9, o10, o11]) (by
    rintro k e hk ⟨s, R, o9, o10, o11, h1, h2, h3, rfl⟩
    obtain ⟨s6, R', o10', o11', x8, x9⟩ := rl_step hv1 hv hn hL (d3 == 1) (some (.d (.int m))) s R (by omega) k o10 o11
    refine ⟨_, _, rfl, .inl x9, s6, R', _, _, _, ?_, ?_, ?_, rfl⟩
    · rcases x8 with rfl | ⟨a, b, _, _, rfl⟩
      · omega
      · simp; omega
    · rcases x8 with rfl | ⟨a, b, hb, _, rfl⟩
      · exact h2
      · intro p hp
        rcases List.mem_append.1 hp with hp | hp
        · exact h2 p hp
        · rw [List.mem_singleton] at hp
          rw [hp]; exact hb
    · rcases x8 with rfl | ⟨a, b, _, hb, rfl⟩
      · exact h3
      · rw [List.map_append]
        exact nodup_snoc h3 hb) [some s3.m, some (.d (.int v)), some (.d (.int n)), some (.d (.int m)), some (.d (.list (Ls.map ls))), some (.d (.list ((alcs v n).map tp))), some (.d (.bool (d3 == 1))), some (.l (([] : List PR).map prR)), some (.l ((([] : List PR).map Prod.fst).map tp)), none, none, none] ⟨s3, [], none, none, none, Nat.zero_le _, (fun p hp => nomatch hp), by simp, rfl⟩
  refine ⟨R, s4, ?_, ⟨hv1, by omega, by omega, by omega, h2, h3⟩, by omega⟩
  simp only [List.map_nil] at q5
  simp only [dlall, f__law_rule, DCor.f__law_rule, DCor.b__law_rule, kv, tv, q1, q2, q3, q4, kd]
  rw [q5]
  simp only [dlall]
/-! are_pairs, is_rule -/
theorem mulT (x : PyData) (k : Int) (h : k ≤ 1000) (h0 : 0 ≤ k) : dMul (.tuple [x]) (.int k) = some (.tuple (List.replicate k.toNat x)) := by
  show (if _ then _ else _) = _
  rw [if_pos ⟨by omega, by omega, by simp⟩, List.flatten_replicate_singleton]
theorem are_pairs_n (P : List PR) (h1 : 1 ≤ v) (h5 : v ≤ 5) (hn : n ≤ 20) (hP : ∀ p ∈ P, Pai p v n) (hl : P.length ≤ 20) : f_are_pairs [.d (.tuple (P.map prR)), .d (.int v), .d (.int n)] = .rt (.d (.bool (((dedK (P.map Prod.fst)).length : Int) == (P.length : Int)))) [none, none, none] := by
  have hc := compGo_map (g := gN 3) (tt := tYesD) (te := eFrz (eCall 3 f_is_pair (avD (eVar 3) (avD (eVar 1) (avD (eVar 2) (avNil)))))) (vs := [3]) (emb := prR) (e := [some (.d (.tuple (P.map prR))), some (.d (.int v)), some (.d (.int n)), none]) (fun _ => true) (fun _ => .bool true) P [] (fun p hp => by
    have q := is_pair_e h1 h5 hn (hP p hp)
    refine ⟨[some (.d (.tuple (P.map prR))), some (.d (.int v)), some (.d (.int n)), some (.d (prR p))], ?_, rfl, fun _ => ?_, ?_⟩
    · simp only [dlall]
    · simp only [dlall, q]
    · simp only [dlall])
  rw [List.filter_eq_self.2 (by simp), List.nil_append] at hc
  have ha := all_true P
  have hk := compGo_map (g := gN 3) (tt := tYesD) (te := eKey kT (e2 dIx (eVar 3) (eC (.int 0))) (eC (.bool true))) (vs := [3]) (emb := prR) (e := [some (.d (.tuple (P.map prR))), some (.d (.int v)), some (.d (.int n)), none]) (fun _ => true) (fun p => tp p.1) P [] (fun p hp => by
    have kt := kT_ints p.1
    refine ⟨[some (.d (.tuple (P.map prR))), some (.d (.int v)), some (.d (.int n)), some (.d (prR p))], ?_, rfl, fun _ => ?_, ?_⟩
    · simp only [dlall]
    · simp only [dlall, prR, kt]
    · simp only [dlall])
  rw [List.filter_eq_self.2 (by simp), List.nil_append] at hk
  have hd := dcK_map (kf := kT) (emb := fun p : PR => tp p.1) (key := Prod.fst) P (fun p _ => kT_ints p.1)
  have d1 : decide ((20 : Int) < (P.length : Int)) = false := decide_eq_false (by omega)
  simp only [dlall, f_are_pairs, DCor.f_are_pairs, DCor.b_are_pairs, List.length_map, d1, hc, ha, hk, hd]
theorem are_pairs_1 (y : PyData) (h : f_is_pair [.d y, .d (.int v), .d (.int n)] = .rt (.d (.bool false)) [none, none, none]) : f_are_pairs [.d (.tuple [y]), .d (.int v), .d (.int n)] = .rt (.d (.bool false)) [none, none, none] := by
  have hc : compGo (gN 3) tYesD (eFrz (eCall 3 f_is_pair (avD (eVar 3) (avD (eVar 1) (avD (eVar 2) (avNil)))))) [3] [y] [] [some (.d (.tuple [y])), some (.d (.int v)), some (.d (.int n)), none] = .ok [.bool false] [some (.d (.tuple [y])), some (.d (.int v)), some (.d (.int n)), none] := by
    rw [compGo_cons]
    simp only [dlall, h, compGo_nil]
  have ha : bAll [.list [.bool false]] = some (.bool false) := by first | rfl | decide
  have d1 : decide ((20 : Int) < (((0 + 1 : Nat)) : Int)) = false := by decide
  simp only [dlall, f_are_pairs, DCor.f_are_pairs, DCor.b_are_pairs, List.length_cons, List.length_nil, d1, hc, ha]
theorem is_pair_asg (a b : List Int) (h : b.length ≠ n) (x : List Int) : f_is_pair [.d (.tuple [tp a, tp b]), .d (.int v), .d (.int n)] = .rt (.d (.bool false)) [none, none, none] := by
  have q2 : ¬ IsAsg (tp b) v n := fun ⟨ns, e, l, _⟩ => by
    have e : b.map PyData.int = ns.map PyData.int := by injection e
    have := map_int_inj e
    subst this
    omega
  have q2 := @decide_eq_false _ (Classical.propDecidable _) q2
  have k2 : (!(((2 : Nat) : Int) == 2)) = false := rfl
  cases q1 : @decide (IsAll (tp a) v n) (Classical.propDecidable _) with
  | true => simp only [dlall, f_is_pair, DCor.f_is_pair, DCor.b_is_pair, is_allocation_e, is_assignment_e, q1, q2, k2]
  | false => simp only [dlall, f_is_pair, DCor.f_is_pair, DCor.b_is_pair, is_allocation_e, is_assignment_e, q1, k2]
theorem is_pair_all (a : List Int) (y : PyData) (h : a.length ≠ v) : f_is_pair [.d (.tuple [tp a, y]), .d (.int v), .d (.int n)] = .rt (.d (.bool false)) [none, none, none] := by
  have q1 : ¬ IsAll (tp a) v n := fun ⟨ns, e, l, _⟩ => by
    have e : a.map PyData.int = ns.map PyData.int := by injection e
    have := map_int_inj e
    subst this
    omega
  have q1 := @decide_eq_false _ (Classical.propDecidable _) q1
  have k2 : (!(((2 : Nat) : Int) == 2)) = false := rfl
  simp only [dlall, f_is_pair, DCor.f_is_pair, DCor.b_is_pair, is_allocation_e, q1, k2]
theorem is_pair_l (y : List PyData) : f_is_pair [.d (.list y), .d (.int v), .d (.int n)] = .rt (.d (.bool false)) [none, none, none] := by
  simp only [dlall, f_is_pair, DCor.f_is_pair, DCor.b_is_pair]
theorem is_pair_1 (y : PyData) : f_is_pair [.d (.tuple [y]), .d (.int v), .d (.int n)] = .rt (.d (.bool false)) [none, none, none] := by
  have k2 : (!((((0 + 1 : Nat)) : Int) == 2)) = true := by decide
  simp only [dlall, f_is_pair, DCor.f_is_pair, DCor.b_is_pair, List.length_cons, List.length_nil, k2]
theorem are_pairs_l (y : List PyData) : f_are_pairs [.d (.list y), .d (.int v), .d (.int n)] = .rt (.d (.bool false)) [none, none, none] := by
  simp only [dlall, f_are_pairs, DCor.f_are_pairs, DCor.b_are_pairs]
theorem are_pairs_no : f_are_pairs [.d .none, .d (.int v), .d (.int n)] = .rt (.d (.bool false)) [none, none, none] := by
  simp only [dlall, f_are_pairs, DCor.f_are_pairs, DCor.b_are_pairs]
theorem are_pairs_21 (y : List PyData) (h : 20 < y.length) : f_are_pairs [.d (.tuple y), .d (.int v), .d (.int n)] = .rt (.d (.bool false)) [none, none, none] := by
  have d1 : decide ((20 : Int) < (y.length : Int)) = true := decide_eq_true (by omega)
  simp only [dlall, f_are_pairs, DCor.f_are_pairs, DCor.b_are_pairs, d1]
theorem is_rule_e (x : PyData) (b : Bool) (h1 : 1 ≤ v) (h5 : v ≤ 5) (hn : n ≤ 20) (h : f_are_pairs [.d x, .d (.int v), .d (.int n)] = .rt (.d (.bool b)) [none, none, none]) : f_is_rule [.d x, .d (.int v), .d (.int n)] = .rt (.d (.bool b)) [none, none, none] := by
  have q1 := check_sizes_e v n h1 h5 hn
  simp only [dlall, f_is_rule, b_is_rule, q1, h]
/-! a pair twice -/
theorem ded_le {κ : Type} [DecidableEq κ] : ∀ (l a : List κ), (l.foldl addK a).length ≤ a.length + l.length
  | [], a => by simp
  | x :: l, a => by
    have h1 := ded_le l (addK a x)
    have h2 := addK_le a x
    rw [List.foldl_cons, List.length_cons]
    omega
theorem addK_mem {κ : Type} [DecidableEq κ] (l : List κ) (a : κ) : (addK l a).any (fun x => decide (x = a)) = true := by
  unfold addK
  split
  · assumption
  · simp
theorem ded_twice {κ : Type} [DecidableEq κ] (l : List κ) (a : κ) : (dedK (l ++ [a, a])).length < (l ++ [a, a]).length := by
  unfold dedK
  rw [List.foldl_append, List.foldl_cons, List.foldl_cons, List.foldl_nil]
  have h1 := ded_le l []
  have h2 := addK_le (l.foldl addK []) a
  have h3 := addK_mem (l.foldl addK []) a
  have h4 : addK (addK (l.foldl addK []) a) a = addK (l.foldl addK []) a := if_pos h3
  rw [h4, List.length_append]
  simp at h1 ⊢
  omega
/-! spoilt rules -/
def shs (v n : Nat) : List Int := (n : Int) :: List.replicate (v - 1) 0
def home (v n : Nat) : PR := (shs v n, List.replicate n 0)
theorem sum_rep (k : Nat) : (List.replicate k (0 : Int)).sum = 0 := by
  induction k with
  | zero => rfl
  | succ k ih => rw [List.replicate_succ, List.sum_cons, ih]; rfl
theorem home_pai (h1 : 1 ≤ v) : Pai (home v n) v n := by
  refine ⟨⟨?_, ?_, ?_⟩, by simp [home], ?_, ?_⟩
  · show (shs v n).length = v
    rw [shs, List.length_cons, List.length_replicate]; omega
  · intro i hi
    have hi : i ∈ shs v n := hi
    rw [shs, List.mem_cons, List.mem_replicate] at hi
    omega
  · show (shs v n).sum = n
    rw [shs, List.sum_cons, sum_rep]; omega
  · intro i hi
    have hi : i ∈ List.replicate n (0 : Int) := hi
    rw [List.mem_replicate] at hi
    omega
  · show cnt (List.replicate n 0) v = shs v n
    obtain ⟨u, rfl⟩ : ∃ u, v = u + 1 := ⟨v - 1, by omega⟩
    unfold cnt shs
    rw [List.range_succ_eq_map, List.map_cons, List.map_map]
    congr 1
    · simp
    · rw [Nat.add_sub_cancel, List.eq_replicate_iff]
      refine ⟨by simp, fun b hb => ?_⟩
      obtain ⟨i, _, rfl⟩ := List.mem_map.1 hb
      show ((((List.replicate n (0 : Int)).count ((i + 1 : Nat) : Int) : Nat)) : Int) = 0
      rw [List.count_replicate]
      have : ((0 : Int) == ((i + 1 : Nat) : Int)) = false := beq_false_of_ne (by omega)
      rw [this]; rfl
def spl (R : List PR) (v n : Nat) : List PyData := [.tuple ((R ++ [home v n, home v n]).map prR), .tuple (List.replicate 21 (prR (home v n))), .list (R.map prR), .tuple [.tuple [tp (shs v n), tp (List.replicate (n + 1) 0)]], .tuple [.tuple [tp (shs v n ++ [0]), tp (List.replicate n 0)]],
  .tuple [.tuple [tp (shs v n), tp ((v : Int) :: List.replicate n 0)]], .tuple [.list [tp (shs v n), tp (List.replicate n 0)]], .tuple [.tuple [tp (shs v n)]], .none]
theorem spl_no (h : Rul R v n) (hr : R.length ≤ 18) : ∀ y ∈ spl R v n, f_is_rule [.d y, .d (.int v), .d (.int n)] = .rt (.d (.bool false)) [none, none, none] := by
  intro y hy
  refine is_rule_e y false h.v1 h.v5 h.n20 ?_
  have hp := home_pai (n := n) h.v1
  unfold spl at hy
  rcases List.mem_cons.1 hy with rfl | hy
  · rw [are_pairs_n _ h.v1 h.v5 h.n20 (fun p hp' => by
      rcases List.mem_append.1 hp' with z | z
      · exact h.pai p z
      · simp only [List.mem_cons, List.not_mem_nil, or_false, or_self] at z
        rw [z]; exact hp) (by simp; omega)]
    have := ded_twice (R.map Prod.fst) (home v n).1
    rw [List.map_append]
    have e : ([home v n, home v n]).map Prod.fst = [(home v n).1, (home v n).1] := rfl
    rw [e]
    have z : (((dedK (R.map Prod.fst ++ [(home v n).1, (home v n).1])).length : Int) == ((R ++ [home v n, home v n]).length : Int)) = false := by
      refine beq_false_of_ne ?_
      simp at this ⊢
      omega
    rw [z]
  rcases List.mem_cons.1 hy with rfl | hy
  · exact are_pairs_21 _ (by simp)
  rcases List.mem_cons.1 hy with rfl | hy
  · exact are_pairs_l _
  rcases List.mem_cons.1 hy with rfl | hy
  · exact are_pairs_1 _ (is_pair_asg _ _ (by simp) [])
  rcases List.mem_cons.1 hy with rfl | hy
  · exact are_pairs_1 _ (is_pair_all _ _ (by have := h.v1; simp [shs]; omega))
  rcases List.mem_cons.1 hy with rfl | hy
  · exact are_pairs_1 _ (is_pair_asg _ _ (by simp) [])
  rcases List.mem_cons.1 hy with rfl | hy
  · exact are_pairs_1 _ (is_pair_l _)
  rcases List.mem_cons.1 hy with rfl | hy
  · exact are_pairs_1 _ (is_pair_1 _)
  rcases List.mem_cons.1 hy with rfl | hy
  · exact are_pairs_no
  · cases hy
theorem spoilt_ex (s : Strm) (h : Rul R v n) (hr : R.length ≤ 18) : ∃ (y : PyData) (s' : Strm), f__law_spoilt [s.m, .d (.tuple (R.map prR)), .d (.int v), .d (.int n)] = .rt (.d y) [some s'.m, none, none, none] ∧ y ∈ spl R v n := by
  have hv := h.v1
  have hv5 := h.v5
  have hn := h.n20
  obtain ⟨d, s', q, d0, d9⟩ := next_ex s 9 (by omega) (by omega)
  obtain ⟨j, rfl⟩ := Int.eq_ofNat_of_zero_le d0
  have hj : j < 9 := by omega
  have m1 := mulT (.int 0) ((v : Int) - 1) (by omega) (by omega)
  have t1 : ((v : Int) - 1).toNat = v - 1 := by omega
  rw [t1] at m1
  have m2 := mulT (.int 0) (n : Int) (by omega) (by omega)
  rw [Int.toNat_natCast] at m2
  have m3 := mulT (.int 0) ((n : Int) + 1) (by omega) (by omega)
  have t3 : ((n : Int) + 1).toNat = n + 1 := by omega
  rw [t3] at m3
  have hs : tp (shs v n) = .tuple (.int n :: List.replicate (v - 1) (.int 0)) := by simp [tp, shs]
  have hz : tp (List.replicate n 0) = .tuple (List.replicate n (.int 0)) := by simp [tp]
  have hz1 : tp (List.replicate (n + 1) 0) = .tuple (List.replicate (n + 1) (.int 0)) := by simp [tp]
  have hv0 : tp ((v : Int) :: List.replicate n 0) = .tuple (.int v :: List.replicate n (.int 0)) := by simp [tp]
  have hs0 : tp (shs v n ++ [0]) = .tuple (.int n :: List.replicate (v - 1) (.int 0) ++ [.int 0]) := by simp [tp, shs]
  have hh : prR (home v n) = .tuple [.tuple (.int n :: List.replicate (v - 1) (.int 0)), .tuple (List.replicate n (.int 0))] := by
    show PyData.tuple [tp (shs v n), tp (List.replicate n 0)] = _
    rw [hs, hz]
  have a1 := addT [.int n] (List.replicate (v - 1) (.int 0)) (by simp; omega)
  have a2 := addT [.int v] (List.replicate n (.int 0)) (by simp; omega)
  have a3 := addT (.int n :: List.replicate (v - 1) (.int 0)) [.int 0] (by simp; omega)
  have m4 := mulT (prR (home v n)) 21 (by omega) (by omega)
  have c1 : cutD (R.map prR) none (some 19) = R.map prR := by
    rw [cut_take _ _ (by omega)]
    exact List.take_of_length_le (by simp; omega)
  have a4 := addT (R.map prR) [prR (home v n), prR (home v n)] (by simp; omega)
  have l1 : decide ((R.length : Int) < 19) = true := decide_eq_true (by omega)
  have hl : (spl R v n).length = 9 := rfl
  have q' : f__law_next [s.m, .d (.int ((0 + 1 + 1 + 1 + 1 + 1 + 1 + 1 + 1 + 1 : Nat) : Int))] = .rt (.d (.int (j : Int))) [some s'.m, none] := q
  refine ⟨(spl R v n)[j], s', ?_, List.getElem_mem (by rw [hl]; exact hj)⟩
  have g : L2.atI (spl R v n) (j : Int) = some (spl R v n)[j] := dIx_at (by rw [hl]; exact hj)
  generalize (spl R v n)[j] = y at g
  unfold spl at g
  have t21 : (21 : Int).toNat = 21 := rfl
  rw [t21] at m4
  rw [List.map_append, List.map_cons, List.map_cons, List.map_nil, hs, hz, hz1, hv0, hs0, hh] at g
  rw [hh] at m4 a4
  rw [List.cons_append] at g
  simp only [List.singleton_append] at a1 a2
  simp only [dlall, f__law_spoilt, b__law_spoilt, m1, m2, m3, m4, a1, a2, a3, a4, c1, l1, List.length_map, List.length_cons, List.length_nil, q', g]
end Lk53


namespace Lk53
open PySem DL DCor
open DCom hiding tp addT fm_len
variable {v n : Nat} {R : List PR}
@[simp] theorem slotFk_0 (x : List (List Int)) (r : DL.Env) : slotFk (some (.fk x) :: r) 0 = some x := id rfl
@[simp] theorem slotFk_s (o : Option M) (r : DL.Env) (i : Nat) : slotFk (o :: r) (i + 1) = slotFk r i := id rfl
theorem eInFk_eq (m : Bool) (i t) (env : DL.Env) : eInFk m i t env = (t env).bind fun x e => optRs (slotFk e i) fun ks => optRs (kT x) fun k => .ok (.bool (xor m (ks.any fun y => decide (y = k)))) e := by
  unfold eInFk
  cases t env with
  | ok x e => 
    simp only [Rs.bind_ok]
    cases slotFk e i <;> cases kT x <;> rfl
  | _ => rfl
theorem mDcT_eq (it g tt tk tv vs) (env : DL.Env) : mDcT it g tt tk tv vs env = (it env).bind fun ds e => (compR vs e (compGo g tt (eKey kT tk tv) vs ds [] (wipeE e vs))).bind fun r e => .ok (.fk (dcK kT r)) e := by
  unfold mDcT eComp0
  cases it env <;> rfl
theorem rng1 (h : 1 ≤ v) : rangeD 1 ((v : Int) - 1).toNat = (List.range (v - 1)).map fun k : Nat => .int ((k + 1 : Nat) : Int) := by
  unfold rangeD
  rw [show ((v : Int) - 1).toNat = v - 1 by omega]
  refine List.map_congr_left fun k _ => ?_
  rw [Int.natCast_add, Int.add_comm]
  rfl
/-! one bucket given back -/
def gb : List Int → Nat → List Int
  | [], _ => []
  | x :: r, k => (x + 1) :: r.set k (r.getD k 0 - 1)
theorem given_back_e (a : List Int) (k : Nat) (h : k + 1 < a.length) : f_given_back [.d (tp a), .d (.int ((k + 1 : Nat) : Int))] = .rt (.d (tp (gb a k))) [none, none] := by
  cases a with
  | nil => simp at h
  | cons x r =>
    have h : k < r.length := by simpa using h
    have x0 := ixN_nat (r.length + 1) 0 (by omega)
    have x1 := ixN_nat (r.length + 1) (k + 1) (by omega)
    have a1 : L2.atI (.int (x + 1) :: r.map PyData.int) ((k + 1 : Nat) : Int) = some (.int (r.getD k 0)) := by
      rw [atI_nat, List.getElem?_cons_succ, List.getElem?_map, List.getElem?_eq_getElem h, List.getD_eq_getElem?_getD, List.getElem?_eq_getElem h]
      rfl
    have t1 : tp (gb (x :: r) k) = .tuple (.int (x + 1) :: (r.map PyData.int).set k (.int (r.getD k 0 - 1))) := by
      show PyData.tuple ((gb (x :: r) k).map .int) = _
      rw [gb, List.map_cons, List.map_set]
    rw [t1]
    have t0 : tp (x :: r) = .tuple (.int x :: r.map .int) := rfl
    rw [t0]
    have x0 : L2.ixN (r.length + 1) 0 = some 0 := x0
    generalize ((k + 1 : Nat) : Int) = j at *
    simp only [dlall, f_given_back, b_given_back, List.length_map, x0, x1, a1]
def gm (R : List PR) (i k : Nat) : Option PyData := if (decide (0 < (rat R i).1.getD (k + 1) 0) && !((R.map Prod.fst).any (· == gb (rat R i).1 k))) = true then some (.tuple [.int (i : Int), .int ((k + 1 : Nat) : Int), tp (gb (rat R i).1 k)]) else none
def gm1 (R : List PR) (v i : Nat) : Option PyData := (List.range (v - 1)).findSome? (gm R i)
def mis (R : List PR) (v : Nat) : Option PyData := (List.range R.length).findSome? (gm1 R v)
theorem there_comp (R : List PR) (o0 o1 o2 o3 o4 o5 : Option M) : compGo (gT 2 (gsC (gN 6) (gsC (gN 7) (gsN)))) tYesD (eVar 6) [6, 7] (R.map prR) [] [o0, o1, o2, o3, o4, o5, none, none] = .ok ((R.map Prod.fst).map tp) [o0, o1, o2, o3, o4, o5, none, none] := by
  have hc := compGo_map (g := gT 2 (gsC (gN 6) (gsC (gN 7) (gsN)))) (tt := tYesD) (te := eVar 6) (vs := [6, 7]) (emb := prR) (e := [o0, o1, o2, o3, o4, o5, none, none]) (fun _ => true) (fun p => tp p.1) R [] (fun p hp => by
    refine ⟨[o0, o1, o2, o3, o4, o5, some (.d (tp p.1)), some (.d (tp p.2))], ?_, rfl, fun _ => ?_, ?_⟩
    · simp only [dlall, prR]
    · simp only [dlall]
    · simp only [dlall])
  rw [List.filter_eq_self.2 (by simp), List.nil_append] at hc
  rw [hc, List.map_map]
  rfl
theorem at_fst (R : List PR) (i : Nat) (h : i < R.length) : L2.atI ((R.map Prod.fst).map tp) (i : Int) = some (tp (rat R i).1) := by
  rw [atI_nat, List.getElem?_map, List.getElem?_map, List.getElem?_eq_getElem h]
  unfold rat
  rw [List.getD_eq_getElem?_getD, List.getElem?_eq_getElem h]
  rfl
/-! the law's loop -/
abbrev fmB : DL.Env → Out := sThen (sSet 5 (mList (aCons (e2 dIx (eVar 2) (eVar 3)) (aNil))))
      (sThen (sSetItem 5 (e2 dAdd (eIxO 5 (eC (.int 0))) (eC (.int 1))) (eC (.int 0)))
      (sThen (sSetItem 5 (e2 dSub (eIxO 5 (eVar 4)) (eC (.int 1))) (eVar 4))
      (sIf (tAndD (tb1 (e2 dGe (eIxO 5 (eVar 4)) (eC (.int 0)))) (tb1 (e2 dNotIn (eTupO 5) (eVar 2)))) (sRet (mD (eTup (aCons (eVar 3) (aCons (eVar 4) (aCons (eTupO 5) (aNil))))))) (sNx))))
theorem fm_body (h : Prs R v n) (i k : Nat) (hi : i < R.length) (hk : k + 1 < v) (o0 o1 o5 o6 o7 : Option M) :
    fmB [o0, o1, some (.d (.list ((R.map Prod.fst).map tp))), some (.d (.int i)), some (.d (.int ((k + 1 : Nat) : Int))), o5, o6, o7] = outOf (gm R i k) [o0, o1, some (.d (.list ((R.map Prod.fst).map tp))), some (.d (.int i)), some (.d (.int ((k + 1 : Nat) : Int))), some (.l ((gb (rat R i).1 k).map .int)), o6, o7] := by
  have a0 := at_fst R i hi
  have hl := (h.pai _ (rat_mem hi)).alc.len
  have q : dNotIn (tp (gb (rat R i).1 k)) (.list ((R.map Prod.fst).map tp)) = some (.bool (!(R.map Prod.fst).any (· == gb (rat R i).1 k))) := Emb.row.notIn_l (by decide) (gb (rat R i).1 k) (R.map Prod.fst)
  unfold gm
  generalize (rat R i).1 = a at *
  cases a with
  | nil => simp at hl; omega
  | cons x r =>
    have h : k < r.length := by simp at hl; omega
    have x0 : L2.ixN (r.length + 1) 0 = some 0 := ixN_nat (r.length + 1) 0 (by omega)
    have x1 := ixN_nat (r.length + 1) (k + 1) (by omega)
    have a1 : L2.atI (.int (x + 1) :: r.map PyData.int) ((k + 1 : Nat) : Int) = some (.int (r.getD k 0)) := by
      rw [atI_nat, List.getElem?_cons_succ, List.getElem?_map, List.getElem?_eq_getElem h, List.getD_eq_getElem?_getD, List.getElem?_eq_getElem h]
      rfl
    have a2 : L2.atI (.int (x + 1) :: (r.map PyData.int).set k (.int (r.getD k 0 - 1))) ((k + 1 : Nat) : Int) = some (.int (r.getD k 0 - 1)) := by
      rw [atI_nat, List.getElem?_cons_succ, List.getElem?_set_self (by simpa using h)]
    have t1 : tp (gb (x :: r) k) = .tuple (.int (x + 1) :: (r.map PyData.int).set k (.int (r.getD k 0 - 1))) := by
      show PyData.tuple ((gb (x :: r) k).map .int) = _
      rw [gb, List.map_cons, List.map_set]
    have t2 : (gb (x :: r) k).map PyData.int = .int (x + 1) :: (r.map PyData.int).set k (.int (r.getD k 0 - 1)) := by
      rw [gb, List.map_cons, List.map_set]
    have t0 : tp (x :: r) = .tuple (.int x :: r.map .int) := rfl
    rw [t1] at q
    rw [t1, t2]
    rw [t0] at a0
    have g1 : (x :: r).getD (k + 1) 0 = r.getD k 0 := rfl
    rw [g1]
    have c0 : decide (0 ≤ r.getD k 0 - 1) = decide (0 < r.getD k 0) := decide_eq_decide.2 (by omega)
    generalize ((k + 1 : Nat) : Int) = j at *
    generalize r.getD k 0 = w at *
    generalize hA : (R.map Prod.fst).map tp = A at *
    generalize (R.map Prod.fst).any (· == gb (x :: r) k) = b at *
    cases c1 : decide (0 < w) <;> cases b <;>
      simp only [dlall, fmB, List.length_map, List.length_set, a0, x0, x1, a1, a2, q, c0, c1, Bool.true_and, Bool.false_and, outOf_s, outOf_n]
theorem first_missing_e (h : Prs R v n) (hv1 : 1 ≤ v) (hv : v ≤ 1000) : f__law_first_missing [.d (.tuple (R.map prR)), .d (.int v)] = .rt (.d ((mis R v).getD .none)) [none, none] := by
  have hr := h.sz
  have kn : ((R.length : Int) ≤ 16777216 ∧ -(2 ^ 62) ≤ (R.length : Int)) = True := by simp; omega
  have kr : bRange2 [.int 1, .int (v : Int)] = some (rangeD 1 ((v : Int) - 1).toNat) := if_pos (by omega)
  have tc := there_comp R (some (.d (.tuple (R.map prR)))) (some (.d (.int v))) none none none none
  have key := forGo_fnd (g := gN 3) (body := sFor (itB bRange2 (aCons (eC (.int 1)) (aCons (eVar 1) (aNil)))) (gN 4) fmB) (emb := fun b : Nat => PyData.int b) (List.range R.length) (gm1 R v) 2 (fun e => ∃ o3 o4 o5 : Option M, e = [some (.d (.tuple (R.map prR))), some (.d (.int v)), some (.d (.list ((R.map Prod.fst).map tp))), o3, o4, o5, none, none]) (by intro e h; first | (obtain ⟨_, rfl⟩ := h; simp [DL.Sh]) | (obtain ⟨_, _, rfl⟩ := h; simp [DL.Sh]) | (obtain ⟨_, _, _, rfl⟩ := h; simp [DL.Sh]) | (obtain ⟨_, _, _, _, rfl⟩ := h; simp [DL.Sh]) | (obtain ⟨_, _, _, _, _, rfl⟩ := h; simp [DL.Sh]) | (obtain ⟨_, _, _, _, _, _, rfl⟩ := h; simp [DL.Sh]) | (obtain ⟨_, _, _, _, _, _, _, rfl⟩ := h; simp [DL.Sh]) | (obtain ⟨_, _, _, _, _, _, _, _, rfl⟩ := h; simp [DL.Sh])) (by
    rintro i hi e ⟨o3, o4, o5, rfl⟩
    have hi := List.mem_range.1 hi
    have k2 := forGo_fnd (g := gN 4) (body := fmB) (emb := fun k : Nat => PyData.int ((k + 1 : Nat) : Int)) (List.range (v - 1)) (gm R i) 2 (fun e => ∃ o4 o5 : Option M, e = [some (.d (.tuple (R.map prR))), some (.d (.int v)), some (.d (.list ((R.map Prod.fst).map tp))), some (.d (.int i)), o4, o5, none, none]) (by intro e h; first | (obtain ⟨_, rfl⟩ := h; simp [DL.Sh]) | (obtain ⟨_, _, rfl⟩ := h; simp [DL.Sh]) | (obtain ⟨_, _, _, rfl⟩ := h; simp [DL.Sh]) | (obtain ⟨_, _, _, _, rfl⟩ := h; simp [DL.Sh]) | (obtain ⟨_, _, _, _, _, rfl⟩ := h; simp [DL.Sh]) | (obtain ⟨_, _, _, _, _, _, rfl⟩ := h; simp [DL.Sh]) | (obtain ⟨_, _, _, _, _, _, _, rfl⟩ := h; simp [DL.Sh]) | (obtain ⟨_, _, _, _, _, _, _, _, rfl⟩ := h; simp [DL.Sh])) (by
      rintro k hk e ⟨o4, o5, rfl⟩
      have hk := List.mem_range.1 hk
      exact ⟨_, _, rfl, fm_body h i k hi (by omega) _ _ _ _ _, by simp [Sh], fun _ => ⟨_, _, rfl⟩⟩) [some (.d (.tuple (R.map prR))), some (.d (.int v)), some (.d (.list ((R.map Prod.fst).map tp))), some (.d (.int i)), o4, o5, none, none] ⟨_, _, rfl⟩
    rw [← rng1 hv1] at k2
    obtain ⟨e2, q, qs, q2⟩ := k2
    refine ⟨_, e2, rfl, ?_, qs, fun z => ?_⟩
    · simp only [dlall, kr] at q ⊢
      exact q
    · obtain ⟨a, b, rfl⟩ := q2 z
      exact ⟨_, _, _, rfl⟩) [some (.d (.tuple (R.map prR))), some (.d (.int v)), some (.d (.list ((R.map Prod.fst).map tp))), none, none, none, none, none] ⟨_, _, _, rfl⟩
  rw [← rangeD_eq] at key
  obtain ⟨e2, q, qs, _⟩ := key
  simp only [dlall, f__law_first_missing, b__law_first_missing, tc, List.length_map, kn, Int.toNat_natCast]
  rw [q]
  have z : mis R v = (List.range R.length).findSome? (gm1 R v) := rfl
  rw [← z, outOf_ret]
  simp only [dlall, outs_2 qs]
/-! the program's -/
abbrev miB : DL.Env → Out := sIf (tAndD (tb1 (e2 dGt (e2 dIx (eVar 6) (eVar 5)) (eC (.int 0)))) (tb1 (eInFk true 3 (eFrz (eCall 2 f_given_back (avD (eVar 6) (avD (eVar 5) (avNil)))))))) (sRet (mD (eTup (aCons (eVar 4) (aCons (eVar 5) (aCons (eFrz (eCall 2 f_given_back (avD (eVar 6) (avD (eVar 5) (avNil))))) (aNil))))))) (sNx)
theorem mi_body (h : Prs R v n) (i k : Nat) (hi : i < R.length) (hk : k + 1 < v) (o0 o1 o2 o7 : Option M) :
    miB [o0, o1, o2, some (.fk (R.map Prod.fst)), some (.d (.int i)), some (.d (.int ((k + 1 : Nat) : Int))), some (.d (tp (rat R i).1)), o7] = outOf (gm R i k) [o0, o1, o2, some (.fk (R.map Prod.fst)), some (.d (.int i)), some (.d (.int ((k + 1 : Nat) : Int))), some (.d (tp (rat R i).1)), o7] := by
  have hl := (h.pai _ (rat_mem hi)).alc.len
  have q := given_back_e (rat R i).1 k (by omega)
  have a1 : L2.atI ((rat R i).1.map PyData.int) ((k + 1 : Nat) : Int) = some (.int ((rat R i).1.getD (k + 1) 0)) := at_row _ _ (by omega)
  have kt := kT_ints (gb (rat R i).1 k)
  have ea : ((R.map Prod.fst).any fun y => decide (y = gb (rat R i).1 k)) = (R.map Prod.fst).any (· == gb (rat R i).1 k) := by
    refine congrArg (List.any _) (funext fun y => ?_)
    rw [Bool.eq_iff_iff, decide_eq_true_eq, beq_iff_eq]
  unfold gm
  generalize hg : gb (rat R i).1 k = g at *
  generalize (rat R i).1.getD (k + 1) 0 = w at *
  generalize ((k + 1 : Nat) : Int) = j at *
  generalize (R.map Prod.fst).any (· == g) = b at *
  generalize R.map Prod.fst = A at *
  cases c1 : decide (0 < w) <;> cases b <;>
    simp only [dlall, miB, a1, q, eInFk_eq, slotFk_0, slotFk_s, kt, ea, c1, Bool.true_xor, Bool.true_and, Bool.false_and, outOf_s, outOf_n]
theorem missing_e (h : Rul R v n) : f_missing [.d (.int v), .d (.int n), .d (.tuple (R.map prR))] = .rt (.d ((mis R v).getD .none)) [none, none, none] := by
  have hv1 := h.v1
  have hv5 := h.v5
  have ck := check_rule_e h
  have kr : bRange2 [.int 1, .int (v : Int)] = some (rangeD 1 ((v : Int) - 1).toNat) := if_pos (by omega)
  have hk := compGo_map (g := gT 2 (gsC (gN 6) (gsC (gN 7) (gsN)))) (tt := tYesD) (te := eKey kT (eVar 6) (eC (.bool true))) (vs := [6, 7]) (emb := prR) (e := [some (.d (.int v)), some (.d (.int n)), some (.d (.tuple (R.map prR))), none, none, none, none, none]) (fun _ => true) (fun p => tp p.1) R [] (fun p hp => by
    have kt := kT_ints p.1
    refine ⟨[some (.d (.int v)), some (.d (.int n)), some (.d (.tuple (R.map prR))), none, none, none, some (.d (tp p.1)), some (.d (tp p.2))], ?_, rfl, fun _ => ?_, ?_⟩
    · simp only [dlall, prR]
    · simp only [dlall, kt]
    · simp only [dlall])
  rw [List.filter_eq_self.2 (by simp), List.nil_append] at hk
  have hd : dcK kT (R.map fun p => tp p.1) = R.map Prod.fst := by
    rw [dcK_map (kf := kT) (emb := fun p : PR => tp p.1) (key := Prod.fst) R (fun p _ => kT_ints p.1)]
    exact dedK_nodup h.nd
  have key := forGo_fnd (g := gT 2 (gsC (gN 4) (gsC (gT 2 (gsC (gN 6) (gsC (gN 7) (gsN)))) (gsN)))) (body := sFor (itB bRange2 (aCons (eC (.int 1)) (aCons (eVar 0) (aNil)))) (gN 5) miB) (emb := fun j : Nat => PyData.tuple [.int (j : Int), prR (rat R j)]) (List.range R.length) (gm1 R v) 3 (fun e => ∃ o4 o5 o6 o7 : Option M, e = [some (.d (.int v)), some (.d (.int n)), some (.d (.tuple (R.map prR))), some (.fk (R.map Prod.fst)), o4, o5, o6, o7]) (by intro e h; first | (obtain ⟨_, rfl⟩ := h; simp [DL.Sh]) | (obtain ⟨_, _, rfl⟩ := h; simp [DL.Sh]) | (obtain ⟨_, _, _, rfl⟩ := h; simp [DL.Sh]) | (obtain ⟨_, _, _, _, rfl⟩ := h; simp [DL.Sh]) | (obtain ⟨_, _, _, _, _, rfl⟩ := h; simp [DL.Sh]) | (obtain ⟨_, _, _, _, _, _, rfl⟩ := h; simp [DL.Sh]) | (obtain ⟨_, _, _, _, _, _, _, rfl⟩ := h; simp [DL.Sh]) | (obtain ⟨_, _, _, _, _, _, _, _, rfl⟩ := h; simp [DL.Sh])) (by
    rintro i hi e ⟨o4, o5, o6, o7, rfl⟩
    have hi := List.mem_range.1 hi
    have k2 := forGo_fnd (g := gN 5) (body := miB) (emb := fun k : Nat => PyData.int ((k + 1 : Nat) : Int)) (List.range (v - 1)) (gm R i) 3 (fun e => ∃ o5 : Option M, e = [some (.d (.int v)), some (.d (.int n)), some (.d (.tuple (R.map prR))), some (.fk (R.map Prod.fst)), some (.d (.int i)), o5, some (.d (tp (rat R i).1)), some (.d (tp (rat R i).2))]) (by intro e h; first | (obtain ⟨_, rfl⟩ := h; simp [DL.Sh]) | (obtain ⟨_, _, rfl⟩ := h; simp [DL.Sh]) | (obtain ⟨_, _, _, rfl⟩ := h; simp [DL.Sh]) | (obtain ⟨_, _, _, _, rfl⟩ := h; simp [DL.Sh]) | (obtain ⟨_, _, _, _, _, rfl⟩ := h; simp [DL.Sh]) | (obtain ⟨_, _, _, _, _, _, rfl⟩ := h; simp [DL.Sh]) | (obtain ⟨_, _, _, _, _, _, _, rfl⟩ := h; simp [DL.Sh]) | (obtain ⟨_, _, _, _, _, _, _, _, rfl⟩ := h; simp [DL.Sh])) (by
      rintro k hk e ⟨o5, rfl⟩
      have hk := List.mem_range.1 hk
      exact ⟨_, _, rfl, mi_body h.prs i k hi (by omega) _ _ _ _, by simp [Sh], fun _ => ⟨_, rfl⟩⟩) [some (.d (.int v)), some (.d (.int n)), some (.d (.tuple (R.map prR))), some (.fk (R.map Prod.fst)), some (.d (.int i)), o5, some (.d (tp (rat R i).1)), some (.d (tp (rat R i).2))] ⟨_, rfl⟩
    rw [← rng1 hv1] at k2
    obtain ⟨e2, q, qs, q2⟩ := k2
    refine ⟨[some (.d (.int v)), some (.d (.int n)), some (.d (.tuple (R.map prR))), some (.fk (R.map Prod.fst)), some (.d (.int i)), o5, some (.d (tp (rat R i).1)), some (.d (tp (rat R i).2))], e2, ?_, ?_, qs, fun z => ?_⟩
    · simp only [dlall, prR]
    · simp only [dlall, kr] at q ⊢
      exact q
    · obtain ⟨a, rfl⟩ := q2 z
      exact ⟨_, _, _, _, rfl⟩) [some (.d (.int v)), some (.d (.int n)), some (.d (.tuple (R.map prR))), some (.fk (R.map Prod.fst)), none, none, none, none] ⟨_, _, _, _, rfl⟩
  rw [← enum_prs0] at key
  obtain ⟨e2, q, qs, _⟩ := key
  simp only [dlall, f_missing, b_missing, ck, mDcT_eq, hk, hd]
  rw [q]
  have z : mis R v = (List.range R.length).findSome? (gm1 R v) := rfl
  rw [← z, outOf_ret]
  simp only [dlall, outs_3 qs]
end Lk53


namespace Lk53
open PySem DL DCor
open DCom hiding tp addT fm_len
variable {v n : Nat} {R : List PR}
/-! all allocations are found -/
theorem preA_mem (n : Nat) : ∀ (k : Nat) (r : List Int), r.length = k → (∀ i ∈ r, 0 ≤ i) → r.sum ≤ n → r ∈ preA n k
  | 0, r, h, _, _ => by
    rw [List.eq_nil_of_length_eq_zero h]
    simp [preA]
  | k + 1, r, h, h1, h2 => by
    rcases List.eq_nil_or_concat r with rfl | ⟨r', i, rfl⟩
    · simp at h
    · simp only [List.concat_eq_append] at h h1 h2 ⊢
      rw [List.length_append, List.length_singleton] at h
      have hi := h1 i (by simp)
      rw [List.sum_append, List.sum_cons, List.sum_nil] at h2
      refine List.mem_flatMap.2 ⟨r', preA_mem n k r' (by omega) (fun j hj => h1 j (List.mem_append_left _ hj)) (by omega), ?_⟩
      refine List.mem_map.2 ⟨i.toNat, List.mem_range.2 (by omega), ?_⟩
      rw [Int.toNat_of_nonneg hi]
theorem alcs_mem {a : List Int} (hv : 1 ≤ v) (h : Alc a v n) : a ∈ alcs v n := by
  have hl := h.len
  have hs := h.sum
  have hn := h.nn
  rcases List.eq_nil_or_concat a with rfl | ⟨r, i, rfl⟩
  · simp at hl; omega
  · simp only [List.concat_eq_append] at hl hs hn ⊢
    rw [List.length_append, List.length_singleton] at hl
    have hi := hn i (by simp)
    rw [List.sum_append, List.sum_cons, List.sum_nil] at hs
    refine List.mem_map.2 ⟨r, preA_mem n (v - 1) r (by omega) (fun j hj => hn j (List.mem_append_left _ hj)) (by omega), ?_⟩
    rw [show (n : Int) - r.sum = i by omega]
/-! below -/
theorem le_ex : ∀ s r : List Int, s.length = r.length → (∀ k, s.getD k 0 ≤ r.getD k 0) → s = r ∨ (s.sum < r.sum ∧ ∃ k, k < r.length ∧ s.getD k 0 < r.getD k 0)
  | [], [], _, _ => .inl rfl
  | [], _ :: _, h, _ => by simp at h
  | _ :: _, [], h, _ => by simp at h
  | x :: s, y :: r, h, hk => by
    have h0 : x ≤ y := hk 0
    rw [List.sum_cons, List.sum_cons]
    rcases le_ex s r (by simpa using h) (fun k => hk (k + 1)) with rfl | ⟨h1, k, k1, k2⟩
    · by_cases e : x = y
      · exact .inl (by rw [e])
      · exact .inr ⟨by omega, 0, by simp, by show x < y; omega⟩
    · exact .inr ⟨by omega, k + 1, by simpa using k1, k2⟩
theorem down (K : List (List Int)) (w : Nat) (hK : ∀ a ∈ K, a.length = w + 1) (h : ∀ a ∈ K, ∀ k, k < w → 0 < a.getD (k + 1) 0 → gb a k ∈ K) {N : Int} (hN : ∀ a ∈ K, a.sum = N) (y : Int) (s : List Int) (hs : ∀ i ∈ s, 0 ≤ i) (hl : s.length = w) (hy : y + s.sum = N) :
    ∀ (m : Nat) (x : Int) (r : List Int), (x :: r) ∈ K → (∀ k, s.getD k 0 ≤ r.getD k 0) → (r.sum - s.sum).toNat ≤ m → (y :: s) ∈ K
  | m, x, r, hm, hk, hd => by
    have lr : r.length = w := by simpa using hK _ hm
    have sr := hN _ hm
    rw [List.sum_cons] at sr
    rcases le_ex s r (by omega) hk with rfl | ⟨h1, k, k1, k2⟩
    · rw [show y = x by omega]; exact hm
    · cases m with
      | zero => omega
      | succ m =>
        have s0 : 0 ≤ s.getD k 0 := by
          rw [List.getD_eq_getElem?_getD]
          cases e : s[k]? with
          | none => simp
          | some z => exact hs z (List.mem_of_getElem? e)
        have g := h _ hm k (by omega) (by show 0 < r.getD k 0; omega)
        have su := sum_set r k (r.getD k 0 - 1) k1
        refine down K w hK h hN y s hs hl hy m (x + 1) (r.set k (r.getD k 0 - 1)) g (fun j => ?_) (by rw [su]; omega)
        rw [getD_set _ _ _ _ k1]
        split
        · rename_i e
          rw [e]; omega
        · exact hk j
/-! closed -/
def bel (v : Nat) (o a : List Int) : Bool := (List.range (v - 1)).all fun k => decide (o.getD (k + 1) 0 ≤ a.getD (k + 1) 0)
def clb (K : List (List Int)) (v : Nat) (a o : List Int) : Bool := !(K.any (· == o)) && bel v o a
def clo (R : List PR) (v n : Nat) : Bool := (R.map Prod.fst).any fun a => (alcs v n).any (clb (R.map Prod.fst) v a)
theorem mis_none (R : List PR) (v : Nat) : mis R v = none ↔ ∀ a ∈ R.map Prod.fst, ∀ k, k < v - 1 → 0 < a.getD (k + 1) 0 → gb a k ∈ R.map Prod.fst := by
  unfold mis
  rw [List.findSome?_eq_none_iff]
  constructor
  · intro h a ha k hk h0
    obtain ⟨p, hp, rfl⟩ := List.mem_map.1 ha
    obtain ⟨i, hi, rfl⟩ := List.mem_iff_getElem.1 hp
    have h := h i (List.mem_range.2 hi)
    unfold gm1 at h
    rw [List.findSome?_eq_none_iff] at h
    have h := h k (List.mem_range.2 hk)
    unfold gm at h
    have e : rat R i = R[i] := by
      unfold rat
      rw [List.getD_eq_getElem?_getD, List.getElem?_eq_getElem hi]; rfl
    rw [e, decide_eq_true h0, Bool.true_and] at h
    refine Classical.byContradiction fun z => ?_
    have c : ((R.map Prod.fst).any (· == gb R[i].1 k)) = false := by
      rw [Bool.eq_false_iff]
      intro q
      obtain ⟨x, hx, q⟩ := List.any_eq_true.1 q
      rw [beq_iff_eq] at q
      exact z (q ▸ hx)
    rw [c] at h
    cases h
  · intro h i hi
    have hi := List.mem_range.1 hi
    unfold gm1
    rw [List.findSome?_eq_none_iff]
    intro k hk
    have hk := List.mem_range.1 hk
    unfold gm
    by_cases h0 : 0 < (rat R i).1.getD (k + 1) 0
    · have g := h (rat R i).1 (List.mem_map.2 ⟨_, rat_mem hi, rfl⟩) k hk h0
      have c : ((R.map Prod.fst).any (· == gb (rat R i).1 k)) = true := List.any_eq_true.2 ⟨_, g, by simp⟩
      rw [c]; simp
    · rw [decide_eq_false h0]; rfl
theorem clo_false (R : List PR) (v n : Nat) : clo R v n = false ↔ ∀ a ∈ R.map Prod.fst, ∀ o ∈ alcs v n, (∀ k, k < v - 1 → o.getD (k + 1) 0 ≤ a.getD (k + 1) 0) → o ∈ R.map Prod.fst := by
  unfold clo
  rw [List.any_eq_false]
  constructor
  · intro h a ha o ho hk
    have h := h a ha
    rw [Bool.not_eq_true, List.any_eq_false] at h
    have h := h o ho
    have b : bel v o a = true := List.all_eq_true.2 fun k hk' => decide_eq_true (hk k (List.mem_range.1 hk'))
    unfold clb at h
    rw [b, Bool.and_true, Bool.not_eq_true', Bool.not_eq_false] at h
    obtain ⟨x, hx, q⟩ := List.any_eq_true.1 h
    rw [beq_iff_eq] at q
    exact q ▸ hx
  · intro h a ha
    rw [Bool.not_eq_true, List.any_eq_false]
    intro o ho z
    unfold clb at z
    rw [Bool.and_eq_true, Bool.not_eq_true'] at z
    obtain ⟨z1, z2⟩ := z
    have m := h a ha o ho fun k hk => of_decide_eq_true (List.all_eq_true.1 z2 k (List.mem_range.2 hk))
    have : ((R.map Prod.fst).any (· == o)) = true := List.any_eq_true.2 ⟨o, m, by simp⟩
    rw [this] at z1
    cases z1
theorem mis_clo (h : Rul R v n) : mis R v = none ↔ clo R v n = false := by
  have hv1 := h.v1
  have hA : ∀ a ∈ R.map Prod.fst, Alc a v n := fun a ha => by
    obtain ⟨p, hp, rfl⟩ := List.mem_map.1 ha
    exact (h.pai p hp).alc
  rw [mis_none, clo_false]
  constructor
  · intro q a ha o ho hk
    have Aa := hA a ha
    have Ao := mem_alcs hv1 ho
    cases a with
    | nil => have := Aa.len; simp at this; omega
    | cons x r =>
      cases o with
      | nil => have := Ao.len; simp at this; omega
      | cons y s =>
        have l1 := Aa.len
        have l2 := Ao.len
        rw [List.length_cons] at l1 l2
        have su := Ao.sum
        rw [List.sum_cons] at su
        refine down (R.map Prod.fst) (v - 1) (fun a ha => by rw [(hA a ha).len]; omega) q (N := n) (fun a ha => (hA a ha).sum) y s (fun i hi => Ao.nn i (List.mem_cons_of_mem _ hi)) (by omega) su _ x r ha (fun k => ?_) (Nat.le_refl _)
        by_cases c : k < v - 1
        · exact hk k c
        · rw [List.getD_eq_getElem?_getD, List.getD_eq_getElem?_getD, List.getElem?_eq_none (by omega), List.getElem?_eq_none (by omega)]
          exact Int.le_refl _
  · intro q a ha k hk h0
    have Aa := hA a ha
    cases a with
    | nil => have := Aa.len; simp at this; omega
    | cons x r =>
      have l1 := Aa.len
      have su := Aa.sum
      have nn := Aa.nn
      rw [List.length_cons] at l1
      rw [List.sum_cons] at su
      have h0 : 0 < r.getD k 0 := h0
      have hkr : k < r.length := by omega
      refine q _ ha (gb (x :: r) k) (alcs_mem hv1 ⟨?_, fun i hi => ?_, ?_⟩) fun j hj => ?_
      · rw [gb, List.length_cons, List.length_set]; exact l1
      · rw [gb, List.mem_cons] at hi
        rcases hi with rfl | hi
        · have := nn x List.mem_cons_self; omega
        · rcases List.mem_or_eq_of_mem_set hi with hi | rfl
          · exact nn i (List.mem_cons_of_mem _ hi)
          · omega
      · rw [gb, List.sum_cons, sum_set _ _ _ hkr]; omega
      · show (r.set k (r.getD k 0 - 1)).getD j 0 ≤ r.getD j 0
        rw [getD_set _ _ _ _ hkr]
        split
        · rename_i e
          rw [e]; omega
        · exact Int.le_refl _
theorem find_ite' {α : Type} (y : PyData) (c : α → Bool) : ∀ l : List α, (l.findSome? fun j => if c j = true then some y else none) = if l.any c = true then some y else none
  | [] => rfl
  | x :: l => by
    rw [List.findSome?_cons, find_ite' y c l, List.any_cons]
    cases c x <;> rfl
/-! the law's loops -/
abbrev clB : DL.Env → Out := sIf (tAndD (tb1 (e2 dNotIn (eVar 5) (eVar 3))) (tt1 (eB bAll (aCons (eComp (itB bRange2 (aCons (eC (.int 1)) (aCons (eVar 1) (aNil)))) (gN 7) (tYesD) (e2 dLe (e2 dIx (eVar 5) (eVar 7)) (e2 dIx (eVar 4) (eVar 7))) [7]) (aNil))))) (sRet (mD (eC (.bool false)))) (sNx)
theorem cl_body (hv1 : 1 ≤ v) (hv : v ≤ 1000) (K : List (List Int)) (a o : List Int) (ha : a.length = v) (ho : o.length = v) (o0 o2 o6 : Option M) :
    clB [o0, some (.d (.int v)), o2, some (.d (.list (K.map tp))), some (.d (tp a)), some (.d (tp o)), o6, none] = outOf (if clb K v a o = true then some (.bool false) else none) [o0, some (.d (.int v)), o2, some (.d (.list (K.map tp))), some (.d (tp a)), some (.d (tp o)), o6, none] := by
  have q : dNotIn (tp o) (.list (K.map tp)) = some (.bool (!K.any (· == o))) := Emb.row.notIn_l (by decide) o K
  have kr : bRange2 [.int 1, .int (v : Int)] = some (rangeD 1 ((v : Int) - 1).toNat) := if_pos (by omega)
  have hc := compGo_map (g := gN 7) (tt := tYesD) (te := e2 dLe (e2 dIx (eVar 5) (eVar 7)) (e2 dIx (eVar 4) (eVar 7))) (vs := [7]) (emb := fun k : Nat => PyData.int ((k + 1 : Nat) : Int)) (e := [o0, some (.d (.int v)), o2, some (.d (.list (K.map tp))), some (.d (tp a)), some (.d (tp o)), o6, none]) (fun _ => true) (fun k : Nat => .bool (decide (o.getD (k + 1) 0 ≤ a.getD (k + 1) 0))) (List.range (v - 1)) [] (fun k hk => by
    have hk := List.mem_range.1 hk
    have a1 := at_row o (k + 1) (by omega)
    have a2 := at_row a (k + 1) (by omega)
    refine ⟨[o0, some (.d (.int v)), o2, some (.d (.list (K.map tp))), some (.d (tp a)), some (.d (tp o)), o6, some (.d (.int ((k + 1 : Nat) : Int)))], ?_, rfl, fun _ => ?_, ?_⟩
    · simp only [dlall]
    · generalize ((k + 1 : Nat) : Int) = j at *
      simp only [dlall, a1, a2]
    · simp only [dlall])
  rw [List.filter_eq_self.2 (by simp), List.nil_append, ← rng1 hv1] at hc
  have e : ((List.range (v - 1)).map fun k : Nat => PyData.bool (decide (o.getD (k + 1) 0 ≤ a.getD (k + 1) 0))) = (((List.range (v - 1)).map fun k : Nat => decide (o.getD (k + 1) 0 ≤ a.getD (k + 1) 0)).map PyData.bool) := by
    rw [List.map_map]; rfl
  rw [e] at hc
  have hb : (((List.range (v - 1)).map fun k : Nat => decide (o.getD (k + 1) 0 ≤ a.getD (k + 1) 0)).all id) = bel v o a := by
    rw [List.all_map]; rfl
  unfold clb
  cases c1 : (!K.any (· == o)) <;> cases c2 : bel v o a <;> rw [c1] at q <;> rw [c2] at hb <;>
    simp only [dlall, clB, q, kr, hc, hb, Bool.true_and, Bool.false_and, Bool.and_true, outOf_s, outOf_n]
theorem is_closed_e (h : Rul R v n) (hv4 : v ≤ 4) (hn4 : n ≤ 4) : f__law_is_closed [.d (.tuple (R.map prR)), .d (.int v), .d (.int n)] = .rt (.d (.bool (!clo R v n))) [none, none, none] := by
  have hv1 := h.v1
  have qa := allocations_e v n hv1 hv4 hn4
  have tc := compGo_map (g := gT 2 (gsC (gN 4) (gsC (gN 6) (gsN)))) (tt := tYesD) (te := eVar 4) (vs := [4, 6]) (emb := prR) (e := [some (.d (.tuple (R.map prR))), some (.d (.int v)), some (.d (.int n)), none, none, none, none, none]) (fun _ => true) (fun p => tp p.1) R [] (fun p hp => by
    refine ⟨[some (.d (.tuple (R.map prR))), some (.d (.int v)), some (.d (.int n)), none, some (.d (tp p.1)), none, some (.d (tp p.2)), none], ?_, rfl, fun _ => ?_, ?_⟩
    · simp only [dlall, prR]
    · simp only [dlall]
    · simp only [dlall])
  rw [List.filter_eq_self.2 (by simp), List.nil_append] at tc
  have e : (R.map fun p => tp p.1) = (R.map Prod.fst).map tp := by rw [List.map_map]; rfl
  rw [e] at tc
  have hA : ∀ a ∈ R.map Prod.fst, Alc a v n := fun a ha => by
    obtain ⟨p, hp, rfl⟩ := List.mem_map.1 ha
    exact (h.pai p hp).alc
  have key := forGo_fnd (g := gN 4) (body := sFor (itSeq (eFrz (eCall 2 f__law_allocations (avD (eVar 1) (avD (eVar 2) (avNil)))))) (gN 5) clB) (emb := tp) (R.map Prod.fst) (fun a => if (alcs v n).any (clb (R.map Prod.fst) v a) = true then some (PyData.bool false) else none) 3 (fun e => ∃ o4 o5 : Option M, e = [some (.d (.tuple (R.map prR))), some (.d (.int v)), some (.d (.int n)), some (.d (.list ((R.map Prod.fst).map tp))), o4, o5, none, none]) (by intro e h; first | (obtain ⟨_, rfl⟩ := h; simp [DL.Sh]) | (obtain ⟨_, _, rfl⟩ := h; simp [DL.Sh]) | (obtain ⟨_, _, _, rfl⟩ := h; simp [DL.Sh]) | (obtain ⟨_, _, _, _, rfl⟩ := h; simp [DL.Sh]) | (obtain ⟨_, _, _, _, _, rfl⟩ := h; simp [DL.Sh]) | (obtain ⟨_, _, _, _, _, _, rfl⟩ := h; simp [DL.Sh]) | (obtain ⟨_, _, _, _, _, _, _, rfl⟩ := h; simp [DL.Sh]) | (obtain ⟨_, _, _, _, _, _, _, _, rfl⟩ := h; simp [DL.Sh])) (by
    rintro a ha e ⟨o4, o5, rfl⟩
    have k2 := forGo_fnd (g := gN 5) (body := clB) (emb := tp) (alcs v n) (fun o => if clb (R.map Prod.fst) v a o = true then some (PyData.bool false) else none) 3 (fun e => ∃ o5 : Option M, e = [some (.d (.tuple (R.map prR))), some (.d (.int v)), some (.d (.int n)), some (.d (.list ((R.map Prod.fst).map tp))), some (.d (tp a)), o5, none, none]) (by intro e h; first | (obtain ⟨_, rfl⟩ := h; simp [DL.Sh]) | (obtain ⟨_, _, rfl⟩ := h; simp [DL.Sh]) | (obtain ⟨_, _, _, rfl⟩ := h; simp [DL.Sh]) | (obtain ⟨_, _, _, _, rfl⟩ := h; simp [DL.Sh]) | (obtain ⟨_, _, _, _, _, rfl⟩ := h; simp [DL.Sh]) | (obtain ⟨_, _, _, _, _, _, rfl⟩ := h; simp [DL.Sh]) | (obtain ⟨_, _, _, _, _, _, _, rfl⟩ := h; simp [DL.Sh]) | (obtain ⟨_, _, _, _, _, _, _, _, rfl⟩ := h; simp [DL.Sh])) (by
      rintro o ho e ⟨o5, rfl⟩
      exact ⟨_, _, rfl, cl_body hv1 (by omega) (R.map Prod.fst) a o (hA a ha).len (mem_alcs hv1 ho).len _ _ _, by simp [Sh], fun _ => ⟨_, rfl⟩⟩) [some (.d (.tuple (R.map prR))), some (.d (.int v)), some (.d (.int n)), some (.d (.list ((R.map Prod.fst).map tp))), some (.d (tp a)), o5, none, none] ⟨_, rfl⟩
    rw [find_ite'] at k2
    obtain ⟨e2, q, qs, q2⟩ := k2
    refine ⟨_, e2, rfl, ?_, qs, fun z => ?_⟩
    · simp only [dlall, qa] at q ⊢
      exact q
    · obtain ⟨b, rfl⟩ := q2 z
      exact ⟨_, _, rfl⟩) [some (.d (.tuple (R.map prR))), some (.d (.int v)), some (.d (.int n)), some (.d (.list ((R.map Prod.fst).map tp))), none, none, none, none] ⟨_, _, rfl⟩
  rw [find_ite'] at key
  obtain ⟨e2, q, qs, _⟩ := key
  simp only [dlall, f__law_is_closed, b__law_is_closed, tc]
  rw [q, outOf_ret]
  have z : clo R v n = (R.map Prod.fst).any fun a => (alcs v n).any (clb (R.map Prod.fst) v a) := rfl
  rw [← z]
  cases clo R v n <;> simp only [dlall, Option.getD_some, Option.getD_none, outs_3 qs]
end Lk53


namespace Lk53
open PySem DL DCor
open DCom hiding tp addT fm_len
theorem dEq_due (i j : Int) (g : List Int) : dEq (.tuple [.int i, .int j, tp g]) (.tuple [.int i, .int j, tp g]) = some (.bool true) := by
  have hs : SeqAt.shaped (.tuple [.int i, .int j, tp g]) = true := by
    refine shp_tup ?_ ?_
    · rw [PyData.canLayAll0, PyData.canLayAll0, PyData.canLayAll0, PyData.canLayAll0, PyData.canLay0, PyData.canLay0, PyData.canLay0, (lay_ints g).1]; rfl
    · rw [PyData.depthAll, PyData.depthAll, PyData.depthAll, PyData.depthAll, PyData.depth, PyData.depth, PyData.depth, (lay_ints g).2]; decide
  unfold dEq
  rw [if_pos ⟨hs, hs⟩, eqv_tt, PyData.eqvAll, PyData.eqvAll, PyData.eqvAll, PyData.eqvAll, eqv_i, eqv_i, eqv_tt, eqvAll_ints]
  simp
theorem mis_shape (R : List PR) (v : Nat) : mis R v = none ∨ ∃ (i j : Int) (g : List Int), mis R v = some (.tuple [.int i, .int j, tp g]) := by
  cases h : mis R v with
  | none => exact .inl rfl
  | some y =>
    obtain ⟨i, _, h⟩ := List.exists_of_findSome?_eq_some h
    obtain ⟨k, _, h⟩ := List.exists_of_findSome?_eq_some h
    unfold gm at h
    split at h
    · cases h; exact .inr ⟨_, _, _, rfl⟩
    · cases h
theorem law_true (ns : List Int) (h : ns.length ≤ 63) : ∃ os, f_law [.scr ns] = .rt (.d (.bool true)) os := by
  have q0 := stream_e ns
  obtain ⟨d1, s1, q1, d1a, d1b⟩ := next_ex ⟨ns, 0, 0⟩ 4 (by omega) (by omega)
  obtain ⟨d2, s2, q2, d2a, d2b⟩ := next_ex s1 5 (by omega) (by omega)
  obtain ⟨n, rfl⟩ := Int.eq_ofNat_of_zero_le d2a
  obtain ⟨w, rfl⟩ := Int.eq_ofNat_of_zero_le d1a
  have ev : (1 : Int) + (w : Int) = ((1 + w : Nat) : Int) := by omega
  have hv1 : 1 ≤ 1 + w := by omega
  have hv4 : 1 + w ≤ 4 := by omega
  generalize 1 + w = v at ev hv1 hv4
  have hn4 : n ≤ 4 := by omega
  obtain ⟨R, s3, q3, hR, hr6⟩ := rule6_ex s2 v n 6 hv1 hv4 hn4 (by omega)
  have q3 : f__law_rule [s2.m, .d (.int v), .d (.int n), .d (.int 6)] = .rt (.d (.tuple (R.map prR))) [some s3.m, none, none, none] := q3
  have q4 := is_rule_e (v := v) (n := n) _ true hR.v1 hR.v5 hR.n20 (are_pairs_e hR)
  obtain ⟨y, s4, q5, hy⟩ := spoilt_ex s3 hR (by omega)
  have q6 := spl_no hR (by omega) y hy
  have q7 := first_missing_e hR.prs hv1 (by omega)
  have q8 := is_closed_e hR hv4 hn4
  have q9 := missing_e hR
  have i1 : dIsNot (.bool true) (.bool true) = some (.bool false) := rfl
  have i2 : dIsNot (.bool false) (.bool false) = some (.bool false) := rfl
  have mc := mis_clo hR
  rcases mis_shape R v with e | ⟨i, j, g, e⟩
  · rw [mc.1 e] at q8
    rw [e, Option.getD_none] at q7 q9
    have e1 : dEq (.none) (.none) = some (.bool true) := rfl
    have e2 : dNe (.bool true) (.bool true) = some (.bool false) := rfl
    simp only [Bool.not_false] at q8
    simp only [dlall, f_law, b_law, q0, q1, q2, ev, q3, q4, q5, q6, q7, q8, q9, i1, i2, e1, e2]
    exact ⟨_, rfl⟩
  · have c : clo R v n = true := by
      cases hc : clo R v n with
      | true => rfl
      | false => rw [mc.2 hc] at e; cases e
    rw [c] at q8
    rw [e, Option.getD_some] at q7 q9
    have e1 := dEq_due i j g
    have e2 : dNe (.bool false) (.bool false) = some (.bool false) := rfl
    simp only [Bool.not_true] at q8
    simp only [dlall, f_law, b_law, q0, q1, q2, ev, q3, q4, q5, q6, q7, q8, q9, i1, i2, e1, e2]
    exact ⟨_, rfl⟩
end Lk53


namespace Lk53
open PySem PySem.Spec PyProof.Rows L2 DL

def topS (i : Nat) : Stmt := PySem.Challenge.pw_leastmoved_k53_rules_and_closed_rules.main.body.getD i (.Pass ⟨0, 0, 0, 0⟩)
abbrev s_is_whole : Stmt := topS 6
abbrev N_is_whole : List Str := ["value"]
theorem sc_is_whole : FnScope N_is_whole ["value"] (defScope s_is_whole) := ⟨rfl, rfl, rfl, by decide +kernel, rfl, by decide +kernel, by decide +kernel⟩
abbrev s_counts_of : Stmt := topS 13
abbrev N_counts_of : List Str := ["assignment", "variants", "variant"]
theorem sc_counts_of : FnScope N_counts_of ["assignment", "variants"] (defScope s_counts_of) := ⟨rfl, rfl, rfl, by decide +kernel, rfl, by decide +kernel, by decide +kernel⟩
abbrev s_given_back : Stmt := topS 24
abbrev N_given_back : List Str := ["allocation", "variant", "shares"]
theorem sc_given_back : FnScope N_given_back ["allocation", "variant"] (defScope s_given_back) := ⟨rfl, rfl, rfl, by decide +kernel, rfl, by decide +kernel, by decide +kernel⟩
abbrev s__law_stream : Stmt := topS 27
abbrev N__law_stream : List Str := ["_law_script"]
theorem sc__law_stream : FnScope N__law_stream ["_law_script"] (defScope s__law_stream) := ⟨rfl, rfl, rfl, by decide +kernel, rfl, by decide +kernel, by decide +kernel⟩
abbrev s__law_next : Stmt := topS 28
abbrev N__law_next : List Str := ["_law_stream_here", "_law_many", "_law_digit", "_law_k", "_law_cell"]
theorem sc__law_next : FnScope N__law_next ["_law_stream_here", "_law_many"] (defScope s__law_next) := ⟨rfl, rfl, rfl, by decide +kernel, rfl, by decide +kernel, by decide +kernel⟩
abbrev s__law_allocations : Stmt := topS 29
abbrev N__law_allocations : List Str := ["_law_variants", "_law_buckets", "_law_found", "_law_place", "_law_longer", "_law_row", "_law_share"]
theorem sc__law_allocations : FnScope N__law_allocations ["_law_variants", "_law_buckets"] (defScope s__law_allocations) := ⟨rfl, rfl, rfl, by decide +kernel, rfl, by decide +kernel, by decide +kernel⟩
abbrev s__law_by_lists : Stmt := topS 35
abbrev N__law_by_lists : List Str := ["_law_lists", "_law_allocation", "_law_buckets", "_law_assignment", "_law_v", "_law_bucket"]
theorem sc__law_by_lists : FnScope N__law_by_lists ["_law_lists", "_law_allocation", "_law_buckets"] (defScope s__law_by_lists) := ⟨rfl, rfl, rfl, by decide +kernel, rfl, by decide +kernel, by decide +kernel⟩
abbrev s__law_first_missing : Stmt := topS 41
abbrev N__law_first_missing : List Str := ["_law_rule_here", "_law_variants", "_law_there", "_law_index", "_law_v", "_law_shares_here", "_law_allocation", "_law_assignment"]
theorem sc__law_first_missing : FnScope N__law_first_missing ["_law_rule_here", "_law_variants"] (defScope s__law_first_missing) := ⟨rfl, rfl, rfl, by decide +kernel, rfl, by decide +kernel, by decide +kernel⟩
abbrev s_is_between : Stmt := topS 7
abbrev N_is_between : List Str := ["value", "low", "high"]
theorem sc_is_between : FnScope N_is_between ["value", "low", "high"] (defScope s_is_between) := ⟨rfl, rfl, rfl, by decide +kernel, rfl, by decide +kernel, by decide +kernel⟩
abbrev s_is_allocation : Stmt := topS 8
abbrev N_is_allocation : List Str := ["value", "variants", "buckets", "share"]
theorem sc_is_allocation : FnScope N_is_allocation ["value", "variants", "buckets"] (defScope s_is_allocation) := ⟨rfl, rfl, rfl, by decide +kernel, rfl, by decide +kernel, by decide +kernel⟩
abbrev s__law_shuffled : Stmt := topS 34
abbrev N__law_shuffled : List Str := ["_law_stream_here", "_law_many", "_law_left", "_law_found", "_law_k"]
theorem sc__law_shuffled : FnScope N__law_shuffled ["_law_stream_here", "_law_many"] (defScope s__law_shuffled) := ⟨rfl, rfl, rfl, by decide +kernel, rfl, by decide +kernel, by decide +kernel⟩
abbrev s__law_drawn_assignment : Stmt := topS 36
abbrev N__law_drawn_assignment : List Str := ["_law_stream_here", "_law_allocation", "_law_buckets", "_law_left", "_law_found", "_law_bucket", "_law_open_ones", "_law_variant"]
theorem sc__law_drawn_assignment : FnScope N__law_drawn_assignment ["_law_stream_here", "_law_allocation", "_law_buckets"] (defScope s__law_drawn_assignment) := ⟨rfl, rfl, rfl, by decide +kernel, rfl, by decide +kernel, by decide +kernel⟩
abbrev s__law_is_closed : Stmt := topS 40
abbrev N__law_is_closed : List Str := ["_law_rule_here", "_law_variants", "_law_buckets", "_law_there", "_law_allocation", "_law_other", "_law_assignment", "_law_v"]
theorem sc__law_is_closed : FnScope N__law_is_closed ["_law_rule_here", "_law_variants", "_law_buckets"] (defScope s__law_is_closed) := ⟨rfl, rfl, rfl, by decide +kernel, rfl, by decide +kernel, by decide +kernel⟩
abbrev s__law_spoilt : Stmt := topS 42
abbrev N__law_spoilt : List Str := ["_law_stream_here", "_law_rule_here", "_law_variants", "_law_buckets", "_law_shares_here", "_law_home", "_law_rows"]
theorem sc__law_spoilt : FnScope N__law_spoilt ["_law_stream_here", "_law_rule_here", "_law_variants", "_law_buckets"] (defScope s__law_spoilt) := ⟨rfl, rfl, rfl, by decide +kernel, rfl, by decide +kernel, by decide +kernel⟩
abbrev s_is_assignment : Stmt := topS 10
abbrev N_is_assignment : List Str := ["value", "variants", "buckets", "variant"]
theorem sc_is_assignment : FnScope N_is_assignment ["value", "variants", "buckets"] (defScope s_is_assignment) := ⟨rfl, rfl, rfl, by decide +kernel, rfl, by decide +kernel, by decide +kernel⟩
abbrev s_check_sizes : Stmt := topS 20
abbrev N_check_sizes : List Str := ["variants", "buckets"]
theorem sc_check_sizes : FnScope N_check_sizes ["variants", "buckets"] (defScope s_check_sizes) := ⟨rfl, rfl, rfl, by decide +kernel, rfl, by decide +kernel, by decide +kernel⟩
abbrev s__law_rule : Stmt := topS 37
abbrev N__law_rule : List Str := ["_law_stream_here", "_law_variants", "_law_buckets", "_law_most", "_law_lists", "_law_every", "_law_wild", "_law_pairs", "_law_there", "_law_k", "_law_allocation", "_law_assignment"]
theorem sc__law_rule : FnScope N__law_rule ["_law_stream_here", "_law_variants", "_law_buckets", "_law_most"] (defScope s__law_rule) := ⟨rfl, rfl, rfl, by decide +kernel, rfl, by decide +kernel, by decide +kernel⟩
abbrev s_check_assignment : Stmt := topS 11
abbrev N_check_assignment : List Str := ["value", "variants", "name"]
theorem sc_check_assignment : FnScope N_check_assignment ["value", "variants", "name"] (defScope s_check_assignment) := ⟨rfl, rfl, rfl, by decide +kernel, rfl, by decide +kernel, by decide +kernel⟩
abbrev s_check_variants : Stmt := topS 12
abbrev N_check_variants : List Str := ["variants", "assignments", "assignment"]
theorem sc_check_variants : FnScope N_check_variants ["variants", "assignments"] (defScope s_check_variants) := ⟨rfl, rfl, rfl, by decide +kernel, rfl, by decide +kernel, by decide +kernel⟩
abbrev s_allocation_of : Stmt := topS 14
abbrev N_allocation_of : List Str := ["assignment", "variants"]
theorem sc_allocation_of : FnScope N_allocation_of ["assignment", "variants"] (defScope s_allocation_of) := ⟨rfl, rfl, rfl, by decide +kernel, rfl, by decide +kernel, by decide +kernel⟩
abbrev s_is_pair : Stmt := topS 19
abbrev N_is_pair : List Str := ["value", "variants", "buckets"]
theorem sc_is_pair : FnScope N_is_pair ["value", "variants", "buckets"] (defScope s_is_pair) := ⟨rfl, rfl, rfl, by decide +kernel, rfl, by decide +kernel, by decide +kernel⟩
abbrev s_are_pairs : Stmt := topS 21
abbrev N_are_pairs : List Str := ["value", "variants", "buckets", "pair"]
theorem sc_are_pairs : FnScope N_are_pairs ["value", "variants", "buckets"] (defScope s_are_pairs) := ⟨rfl, rfl, rfl, by decide +kernel, rfl, by decide +kernel, by decide +kernel⟩
abbrev s_is_rule : Stmt := topS 22
abbrev N_is_rule : List Str := ["value", "variants", "buckets"]
theorem sc_is_rule : FnScope N_is_rule ["value", "variants", "buckets"] (defScope s_is_rule) := ⟨rfl, rfl, rfl, by decide +kernel, rfl, by decide +kernel, by decide +kernel⟩
abbrev s_check_rule : Stmt := topS 23
abbrev N_check_rule : List Str := ["variants", "buckets", "rule"]
theorem sc_check_rule : FnScope N_check_rule ["variants", "buckets", "rule"] (defScope s_check_rule) := ⟨rfl, rfl, rfl, by decide +kernel, rfl, by decide +kernel, by decide +kernel⟩
abbrev s_missing : Stmt := topS 25
abbrev N_missing : List Str := ["variants", "buckets", "rule", "there", "index", "variant", "allocation", "_"]
theorem sc_missing : FnScope N_missing ["variants", "buckets", "rule"] (defScope s_missing) := ⟨rfl, rfl, rfl, by decide +kernel, rfl, by decide +kernel, by decide +kernel⟩
abbrev s_law : Stmt := topS 43
abbrev N_law : List Str := ["_law_script", "_law_stream_here", "_law_variants", "_law_buckets", "_law_rule_here", "_law_due"]
theorem sc_law : FnScope N_law ["_law_script"] (defScope s_law) := ⟨rfl, rfl, rfl, by decide +kernel, rfl, by decide +kernel, by decide +kernel⟩
structure Txt (K : PySem.W.Frag) (mg : Str → Option Value) where
  z_abs : mg "abs" = none
  z_all : mg "all" = none
  z_bool : mg "bool" = none
  z_enumerate : mg "enumerate" = none
  z_int : mg "int" = none
  z_isinstance : mg "isinstance" = none
  z_len : mg "len" = none
  z_list : mg "list" = none
  z_range : mg "range" = none
  z_sum : mg "sum" = none
  z_tuple : mg "tuple" = none
  k_MOST_BUCKETS_allocations : Kon mg "MOST_BUCKETS_allocations" (.int 20)
  k_MOST_BUCKETS_rules : Kon mg "MOST_BUCKETS_rules" (.int 20)
  k_MOST_PAIRS : Kon mg "MOST_PAIRS" (.int 20)
  k_MOST_VARIANTS_allocations : Kon mg "MOST_VARIANTS_allocations" (.int 5)
  k_MOST_VARIANTS_rules : Kon mg "MOST_VARIANTS_rules" (.int 5)
  a_is_whole : Addr
  d_is_whole : FuncData
  F_is_whole : Fun K "is_whole" "is_whole" s_is_whole a_is_whole d_is_whole
  g_is_whole : mg "is_whole" = some (.ref a_is_whole)
  b_is_whole : Binds K d_is_whole ["value"] []
  a_counts_of : Addr
  d_counts_of : FuncData
  F_counts_of : Fun K "counts_of" "counts_of" s_counts_of a_counts_of d_counts_of
  g_counts_of : mg "counts_of" = some (.ref a_counts_of)
  b_counts_of : Binds K d_counts_of ["assignment", "variants"] []
  a_given_back : Addr
  d_given_back : FuncData
  F_given_back : Fun K "given_back" "given_back" s_given_back a_given_back d_given_back
  g_given_back : mg "given_back" = some (.ref a_given_back)
  b_given_back : Binds K d_given_back ["allocation", "variant"] []
  a__law_stream : Addr
  d__law_stream : FuncData
  F__law_stream : Fun K "_law_stream" "_law_stream" s__law_stream a__law_stream d__law_stream
  g__law_stream : mg "_law_stream" = some (.ref a__law_stream)
  b__law_stream : Binds K d__law_stream ["_law_script"] []
  a__law_next : Addr
  d__law_next : FuncData
  F__law_next : Fun K "_law_next" "_law_next" s__law_next a__law_next d__law_next
  g__law_next : mg "_law_next" = some (.ref a__law_next)
  b__law_next : Binds K d__law_next ["_law_stream_here", "_law_many"] []
  a__law_allocations : Addr
  d__law_allocations : FuncData
  F__law_allocations : Fun K "_law_allocations" "_law_allocations" s__law_allocations a__law_allocations d__law_allocations
  g__law_allocations : mg "_law_allocations" = some (.ref a__law_allocations)
  b__law_allocations : Binds K d__law_allocations ["_law_variants", "_law_buckets"] []
  a__law_by_lists : Addr
  d__law_by_lists : FuncData
  F__law_by_lists : Fun K "_law_by_lists" "_law_by_lists" s__law_by_lists a__law_by_lists d__law_by_lists
  g__law_by_lists : mg "_law_by_lists" = some (.ref a__law_by_lists)
  b__law_by_lists : Binds K d__law_by_lists ["_law_lists", "_law_allocation", "_law_buckets"] []
  a__law_first_missing : Addr
  d__law_first_missing : FuncData
  F__law_first_missing : Fun K "_law_first_missing" "_law_first_missing" s__law_first_missing a__law_first_missing d__law_first_missing
  g__law_first_missing : mg "_law_first_missing" = some (.ref a__law_first_missing)
  b__law_first_missing : Binds K d__law_first_missing ["_law_rule_here", "_law_variants"] []
  a_is_between : Addr
  d_is_between : FuncData
  F_is_between : Fun K "is_between" "is_between" s_is_between a_is_between d_is_between
  g_is_between : mg "is_between" = some (.ref a_is_between)
  b_is_between : Binds K d_is_between ["value", "low", "high"] []
  a_is_allocation : Addr
  d_is_allocation : FuncData
  F_is_allocation : Fun K "is_allocation" "is_allocation" s_is_allocation a_is_allocation d_is_allocation
  g_is_allocation : mg "is_allocation" = some (.ref a_is_allocation)
  b_is_allocation : Binds K d_is_allocation ["value", "variants", "buckets"] []
  a__law_shuffled : Addr
  d__law_shuffled : FuncData
  F__law_shuffled : Fun K "_law_shuffled" "_law_shuffled" s__law_shuffled a__law_shuffled d__law_shuffled
  g__law_shuffled : mg "_law_shuffled" = some (.ref a__law_shuffled)
  b__law_shuffled : Binds K d__law_shuffled ["_law_stream_here", "_law_many"] []
  a__law_drawn_assignment : Addr
  d__law_drawn_assignment : FuncData
  F__law_drawn_assignment : Fun K "_law_drawn_assignment" "_law_drawn_assignment" s__law_drawn_assignment a__law_drawn_assignment d__law_drawn_assignment
  g__law_drawn_assignment : mg "_law_drawn_assignment" = some (.ref a__law_drawn_assignment)
  b__law_drawn_assignment : Binds K d__law_drawn_assignment ["_law_stream_here", "_law_allocation", "_law_buckets"] []
  a__law_is_closed : Addr
  d__law_is_closed : FuncData
  F__law_is_closed : Fun K "_law_is_closed" "_law_is_closed" s__law_is_closed a__law_is_closed d__law_is_closed
  g__law_is_closed : mg "_law_is_closed" = some (.ref a__law_is_closed)
  b__law_is_closed : Binds K d__law_is_closed ["_law_rule_here", "_law_variants", "_law_buckets"] []
  a__law_spoilt : Addr
  d__law_spoilt : FuncData
  F__law_spoilt : Fun K "_law_spoilt" "_law_spoilt" s__law_spoilt a__law_spoilt d__law_spoilt
  g__law_spoilt : mg "_law_spoilt" = some (.ref a__law_spoilt)
  b__law_spoilt : Binds K d__law_spoilt ["_law_stream_here", "_law_rule_here", "_law_variants", "_law_buckets"] []
  a_is_assignment : Addr
  d_is_assignment : FuncData
  F_is_assignment : Fun K "is_assignment" "is_assignment" s_is_assignment a_is_assignment d_is_assignment
  g_is_assignment : mg "is_assignment" = some (.ref a_is_assignment)
  b_is_assignment : Binds K d_is_assignment ["value", "variants", "buckets"] []
  a_check_sizes : Addr
  d_check_sizes : FuncData
  F_check_sizes : Fun K "check_sizes" "check_sizes" s_check_sizes a_check_sizes d_check_sizes
  g_check_sizes : mg "check_sizes" = some (.ref a_check_sizes)
  b_check_sizes : Binds K d_check_sizes ["variants", "buckets"] []
  a__law_rule : Addr
  d__law_rule : FuncData
  F__law_rule : Fun K "_law_rule" "_law_rule" s__law_rule a__law_rule d__law_rule
  g__law_rule : mg "_law_rule" = some (.ref a__law_rule)
  b__law_rule : Binds K d__law_rule ["_law_stream_here", "_law_variants", "_law_buckets", "_law_most"] []
  a_check_assignment : Addr
  d_check_assignment : FuncData
  F_check_assignment : Fun K "check_assignment" "check_assignment" s_check_assignment a_check_assignment d_check_assignment
  g_check_assignment : mg "check_assignment" = some (.ref a_check_assignment)
  b_check_assignment : Binds K d_check_assignment ["value", "variants", "name"] []
  a_check_variants : Addr
  d_check_variants : FuncData
  F_check_variants : Fun K "check_variants" "check_variants" s_check_variants a_check_variants d_check_variants
  g_check_variants : mg "check_variants" = some (.ref a_check_variants)
  b_check_variants : Binds K d_check_variants ["variants", "assignments"] []
  a_allocation_of : Addr
  d_allocation_of : FuncData
  F_allocation_of : Fun K "allocation_of" "allocation_of" s_allocation_of a_allocation_of d_allocation_of
  g_allocation_of : mg "allocation_of" = some (.ref a_allocation_of)
  b_allocation_of : Binds K d_allocation_of ["assignment", "variants"] []
  a_is_pair : Addr
  d_is_pair : FuncData
  F_is_pair : Fun K "is_pair" "is_pair" s_is_pair a_is_pair d_is_pair
  g_is_pair : mg "is_pair" = some (.ref a_is_pair)
  b_is_pair : Binds K d_is_pair ["value", "variants", "buckets"] []
  a_are_pairs : Addr
  d_are_pairs : FuncData
  F_are_pairs : Fun K "are_pairs" "are_pairs" s_are_pairs a_are_pairs d_are_pairs
  g_are_pairs : mg "are_pairs" = some (.ref a_are_pairs)
  b_are_pairs : Binds K d_are_pairs ["value", "variants", "buckets"] []
  a_is_rule : Addr
  d_is_rule : FuncData
  F_is_rule : Fun K "is_rule" "is_rule" s_is_rule a_is_rule d_is_rule
  g_is_rule : mg "is_rule" = some (.ref a_is_rule)
  b_is_rule : Binds K d_is_rule ["value", "variants", "buckets"] []
  a_check_rule : Addr
  d_check_rule : FuncData
  F_check_rule : Fun K "check_rule" "check_rule" s_check_rule a_check_rule d_check_rule
  g_check_rule : mg "check_rule" = some (.ref a_check_rule)
  b_check_rule : Binds K d_check_rule ["variants", "buckets", "rule"] []
  a_missing : Addr
  d_missing : FuncData
  F_missing : Fun K "missing" "missing" s_missing a_missing d_missing
  g_missing : mg "missing" = some (.ref a_missing)
  b_missing : Binds K d_missing ["variants", "buckets", "rule"] []
  a_law : Addr
  d_law : FuncData
  F_law : Fun K "law" "law" s_law a_law d_law
  g_law : mg "law" = some (.ref a_law)
  b_law : Binds K d_law ["_law_script"] []
abbrev cl0 : Str → Option Addr := fun _ => none
section
variable {P : Program} {w : World} {K : PySem.W.Frag} {mg : Str → Option Value} {base : Heap}
set_option maxHeartbeats 4000000 in
theorem ok_is_whole (T : Txt K mg) : FnOk P w K mg base CX0 1 T.a_is_whole T.d_is_whole ["value"] (spD K cl0 1 1 f_is_whole) := by
  have h : FnOk P w K mg base CX0 1 T.a_is_whole T.d_is_whole ["value"] (spD K cl0 N_is_whole.length (["value"] : List Str).length (runDef [false] N_is_whole.length b_is_whole)) := by
    refine fn_d (ios := [false]) (body := b_is_whole) T.F_is_whole sc_is_whole (by decide) (by decide) fun cdv A outer s H vs E hr => ?_
    show DSs _ _ (_ :: _) _
    exact (dss_one (ds_ret (dm_d (de_and (de_isi .int (by rfl) T.z_isinstance bt_isinstance (de_var 0) (by rfl) T.z_int bt_int) (de_one (de_not (de_isi .bool (by rfl) T.z_isinstance bt_isinstance (de_var 0) (by rfl) T.z_bool bt_bool)))))))
  exact h
set_option maxHeartbeats 4000000 in
theorem ok_counts_of (T : Txt K mg) : FnOk P w K mg base CX0 1 T.a_counts_of T.d_counts_of ["assignment", "variants"] (spD K cl0 3 2 f_counts_of) := by
  have h : FnOk P w K mg base CX0 1 T.a_counts_of T.d_counts_of ["assignment", "variants"] (spD K cl0 N_counts_of.length (["assignment", "variants"] : List Str).length (runDef [false, false] N_counts_of.length b_counts_of)) := by
    refine fn_d (ios := [false, false]) (body := b_counts_of) T.F_counts_of sc_counts_of (by decide) (by decide) fun cdv A outer s H vs E hr => ?_
    show DSs _ _ (_ :: _) _
    exact (dss_one (ds_ret (dm_d (de_Ty DLT.call_tupZ ob_tup (by rfl) T.z_tuple bt_tuple (da_cons (de_comp rfl sc_counts_of.nd (di_range1 (by rfl) T.z_range (da_cons (de_var 1) da_nil)) (blkOk_by (own := [("variant", 2)]) (N := N_counts_of) (sc := defScope s_counts_of) (by decide +kernel)) (fun _ _ _ _ _ => (dg_name 2 sc_counts_of.nd rfl (by first | exact Or.inl rfl | exact Or.inr rfl) rfl)) (fun _ _ _ _ _ => dts_nil) (fun _ _ _ _ _ => (de_sm sm_cnt PySem.F.slot_list_count PySem.F.type_list_count mt_lcount PySem.F.slot_tuple_count PySem.F.type_tuple_count mt_tcount (de_var 0) (da_cons (de_var 2) da_nil))) (by decide) (ioAll rfl)) da_nil)))))
  exact h
set_option maxHeartbeats 4000000 in
theorem ok_given_back (T : Txt K mg) : FnOk P w K mg base CX0 1 T.a_given_back T.d_given_back ["allocation", "variant"] (spD K cl0 3 2 f_given_back) := by
  have h : FnOk P w K mg base CX0 1 T.a_given_back T.d_given_back ["allocation", "variant"] (spD K cl0 N_given_back.length (["allocation", "variant"] : List Str).length (runDef [false, false] N_given_back.length b_given_back)) := by
    refine fn_d (ios := [false, false]) (body := b_given_back) T.F_given_back sc_given_back (by decide) (by decide) fun cdv A outer s H vs E hr => ?_
    show DSs _ _ (_ :: _) _
    exact (dss_cons (ds_set (dm_list (by rfl) T.z_list bt_list (da_cons (de_var 0) da_nil)) sc_given_back.nd rfl (Or.inl rfl) rfl)
  (dss_cons (ds_setItem (de_op op_addAll o2_add (de_ixO (pv 2) de_int (fun _ _ => rfl)) de_int) (pv 2) de_int)
  (dss_cons (ds_setItem (de_op op_sub o2_sub (de_ixO (pv 2) (de_var 1) (fun _ _ => rfl)) de_int) (pv 2) (de_var 1))
  (dss_one (ds_ret (dm_d (de_tupO (by rfl) T.z_tuple bt_tuple (pv 2))))))))
  exact h
set_option maxHeartbeats 4000000 in
theorem ok__law_stream (T : Txt K mg) : FnOk P w K mg base CX0 1 T.a__law_stream T.d__law_stream ["_law_script"] (spD K cl0 1 1 f__law_stream) := by
  have h : FnOk P w K mg base CX0 1 T.a__law_stream T.d__law_stream ["_law_script"] (spD K cl0 N__law_stream.length (["_law_script"] : List Str).length (runDef [true] N__law_stream.length b__law_stream)) := by
    refine fn_d (ios := [true]) (body := b__law_stream) T.F__law_stream sc__law_stream (by decide) (by decide) fun cdv A outer s H vs E hr => ?_
    show DSs _ _ (_ :: _) _
    exact (dss_one (ds_ret (dm_lst (da_cons (de_listScr 0 (by rfl) T.z_list bt_list (pa_cons (pv 0) pa_nil)) (da_cons de_int (da_cons de_int da_nil))))))
  exact h
set_option maxHeartbeats 4000000 in
theorem ok__law_next (T : Txt K mg) : FnOk P w K mg base CX0 1 T.a__law_next T.d__law_next ["_law_stream_here", "_law_many"] (spD K cl0 5 2 f__law_next) := by
  have h : FnOk P w K mg base CX0 1 T.a__law_next T.d__law_next ["_law_stream_here", "_law_many"] (spD K cl0 N__law_next.length (["_law_stream_here", "_law_many"] : List Str).length (runDef [true, false] N__law_next.length b__law_next)) := by
    refine fn_d (ios := [true, false]) (body := b__law_next) T.F__law_next sc__law_next (by decide) (by decide) fun cdv A outer s H vs E hr => ?_
    show DSs _ _ (_ :: _) _
    exact (dss_cons (ds_if (dt_cmp (op_eqD hr.units) o2_eq (de_ixO (pv 0) de_int (fun _ _ => rfl)) de_int (nomark _)) (dss_cons (ds_set (dm_d (de_ixO (pv 0) de_int (fun _ _ => rfl))) sc__law_next.nd rfl (Or.inl rfl) rfl)
    (dss_cons (ds_set (dm_d (de_op op_addAll o2_add de_int (de_var 3))) sc__law_next.nd rfl (Or.inl rfl) rfl)
    (dss_cons (ds_if (dt_cmp (op_ltA (hu65 hr)) o2_lt (de_var 3) (de_B call_len ob_len (by rfl) T.z_len bt_len (da_cons (de_ixO (pv 0) de_int (fun _ _ => rfl)) da_nil)) (nomark _)) (dss_one (ds_set (dm_d (de_B call_abs ob_abs (by rfl) T.z_abs bt_abs (da_cons (de_ix (de_ixO (pv 0) de_int (fun _ _ => rfl)) (de_var 3) (fun _ _ => rfl)) da_nil))) sc__law_next.nd rfl (Or.inl rfl) rfl)) dss_nil)
    (dss_cons (ds_if (dt_cmp (op_ltA (hu65 hr)) o2_lt (de_var 4) (de_op op_pow o2_pow de_int de_int) (nomark _)) (dss_cons (ds_set (dm_d (de_op op_mod o2_mod (de_Ty call_int1 ob_int (by rfl) T.z_int bt_int (da_cons (de_op op_addAll o2_add (de_op op_addAll o2_add (de_op op_mulAll o2_mul (de_var 4) de_int) (de_op op_mulAll o2_mul (de_var 3) de_int)) de_int) da_nil)) de_int)) sc__law_next.nd rfl (Or.inl rfl) rfl)
      (dss_one (ds_set (dm_d (de_op op_addAll o2_add (de_op op_mulAll o2_mul (de_op op_mod o2_mod (de_Ty call_int1 ob_int (by rfl) T.z_int bt_int (da_cons (de_op op_addAll o2_add (de_op op_mulAll o2_mul (de_var 4) de_int) de_int) da_nil)) de_int) de_int) (de_var 4))) sc__law_next.nd rfl (Or.inl rfl) rfl))) dss_nil)
    (dss_cons (ds_setItem (de_var 4) (pv 0) de_int)
    (dss_one (ds_setItem (de_op op_addAll o2_add (de_var 3) de_int) (pv 0) de_int))))))) dss_nil)
  (dss_cons (ds_set (dm_d (de_op op_mod o2_mod (de_Ty call_int1 ob_int (by rfl) T.z_int bt_int (da_cons (de_ixO (pv 0) de_int (fun _ _ => rfl)) da_nil)) (de_var 1))) sc__law_next.nd rfl (Or.inl rfl) rfl)
  (dss_cons (ds_setItem (de_op op_fdiv o2_div (de_ixO (pv 0) de_int (fun _ _ => rfl)) (de_var 1)) (pv 0) de_int)
  (dss_one (ds_ret (dm_d (de_var 2)))))))
  exact h
set_option maxHeartbeats 4000000 in
theorem ok__law_allocations (T : Txt K mg) : FnOk P w K mg base CX0 1 T.a__law_allocations T.d__law_allocations ["_law_variants", "_law_buckets"] (spD K cl0 7 2 f__law_allocations) := by
  have h : FnOk P w K mg base CX0 1 T.a__law_allocations T.d__law_allocations ["_law_variants", "_law_buckets"] (spD K cl0 N__law_allocations.length (["_law_variants", "_law_buckets"] : List Str).length (runDef [false, false] N__law_allocations.length b__law_allocations)) := by
    refine fn_d (ios := [false, false]) (body := b__law_allocations) T.F__law_allocations sc__law_allocations (by decide) (by decide) fun cdv A outer s H vs E hr => ?_
    show DSs _ _ (_ :: _) _
    exact (dss_cons (ds_set (dm_d (de_lst (da_cons (de_tup da_nil) da_nil))) sc__law_allocations.nd rfl (Or.inl rfl) rfl)
  (dss_cons (ds_for PassesOwn.never rfl (di_range1 (by rfl) T.z_range (da_cons (de_op op_sub o2_sub (de_var 0) de_int) da_nil)) (dg_name 3 sc__law_allocations.nd rfl (by first | exact Or.inl rfl | exact Or.inr rfl) rfl) (dss_cons (ds_set (dm_lst da_nil) sc__law_allocations.nd rfl (Or.inl rfl) rfl)
    (dss_cons (ds_for PassesOwn.never rfl (di_seq (de_var 2)) (dg_name 5 sc__law_allocations.nd rfl (by first | exact Or.inl rfl | exact Or.inr rfl) rfl) (dss_one (ds_for PassesOwn.never rfl (di_range1 (by rfl) T.z_range (da_cons (de_op op_addAll o2_add (de_op op_sub o2_sub (de_var 1) (de_B (cr_sumAll rfl) ob_sum (by rfl) T.z_sum bt_sum (da_cons (de_var 5) da_nil))) de_int) da_nil)) (dg_name 6 sc__law_allocations.nd rfl (by first | exact Or.inl rfl | exact Or.inr rfl) rfl) (dss_one (ds_expr (dm_d (de_mt md_app PySem.F.slot_list_append PySem.F.type_list_append mt_append (pv 4) (da_cons (de_op op_addAll o2_add (de_var 5) (de_tup (da_cons (de_var 6) da_nil))) da_nil))))))))
    (dss_one (ds_set (dm_d (de_varF 4)) sc__law_allocations.nd rfl (Or.inl rfl) rfl)))))
  (dss_one (ds_ret (dm_d (de_comp rfl sc__law_allocations.nd (di_seq (de_var 2)) (blkOk_by (own := [("_law_row", 5)]) (N := N__law_allocations) (sc := defScope s__law_allocations) (by decide +kernel)) (fun _ _ _ _ _ => (dg_name 5 sc__law_allocations.nd rfl (by first | exact Or.inl rfl | exact Or.inr rfl) rfl)) (fun _ _ _ _ _ => dts_nil) (fun _ _ _ _ _ => (de_op op_addAll o2_add (de_var 5) (de_tup (da_cons (de_op op_sub o2_sub (de_var 1) (de_B (cr_sumAll rfl) ob_sum (by rfl) T.z_sum bt_sum (da_cons (de_var 5) da_nil))) da_nil)))) (by decide) (ioAll rfl)))))))
  exact h
set_option maxHeartbeats 4000000 in
theorem ok__law_by_lists (T : Txt K mg) : FnOk P w K mg base CX0 1 T.a__law_by_lists T.d__law_by_lists ["_law_lists", "_law_allocation", "_law_buckets"] (spD K cl0 6 3 f__law_by_lists) := by
  have h : FnOk P w K mg base CX0 1 T.a__law_by_lists T.d__law_by_lists ["_law_lists", "_law_allocation", "_law_buckets"] (spD K cl0 N__law_by_lists.length (["_law_lists", "_law_allocation", "_law_buckets"] : List Str).length (runDef [false, false, false] N__law_by_lists.length b__law_by_lists)) := by
    refine fn_d (ios := [false, false, false]) (body := b__law_by_lists) T.F__law_by_lists sc__law_by_lists (by decide) (by decide) fun cdv A outer s H vs E hr => ?_
    show DSs _ _ (_ :: _) _
    exact (dss_cons (ds_set (dm_op op_mulAll om_mul (de_lst (da_cons de_int da_nil)) (de_var 2)) sc__law_by_lists.nd rfl (Or.inl rfl) rfl)
  (dss_cons (ds_for PassesOwn.never rfl (di_range1 (by rfl) T.z_range (da_cons (de_B call_len ob_len (by rfl) T.z_len bt_len (da_cons (de_var 0) da_nil)) da_nil)) (dg_name 4 sc__law_by_lists.nd rfl (by first | exact Or.inl rfl | exact Or.inr rfl) rfl) (dss_one (ds_for PassesOwn.never rfl (di_seq (de_slice (de_ix (de_var 0) (de_var 4) (fun _ _ => rfl)) dp_no (dp_some (de_ix (de_var 1) (de_op op_addAll o2_add (de_var 4) de_int) (fun _ _ => rfl))))) (dg_name 5 sc__law_by_lists.nd rfl (by first | exact Or.inl rfl | exact Or.inr rfl) rfl) (dss_cons (ds_if (dt_cmp (op_neD hr.units) o2_ne (de_ixO (pv 3) (de_var 5) (fun _ _ => rfl)) de_int (nomark _)) (dss_one (ds_ret (dm_d de_non))) dss_nil)
      (dss_one (ds_setItem (de_op op_addAll o2_add (de_var 4) de_int) (pv 3) (de_var 5)))))))
  (dss_one (ds_ret (dm_d (de_tupO (by rfl) T.z_tuple bt_tuple (pv 3)))))))
  exact h
set_option maxHeartbeats 4000000 in
theorem ok__law_first_missing (T : Txt K mg) : FnOk P w K mg base CX0 1 T.a__law_first_missing T.d__law_first_missing ["_law_rule_here", "_law_variants"] (spD K cl0 8 2 f__law_first_missing) := by
  have h : FnOk P w K mg base CX0 1 T.a__law_first_missing T.d__law_first_missing ["_law_rule_here", "_law_variants"] (spD K cl0 N__law_first_missing.length (["_law_rule_here", "_law_variants"] : List Str).length (runDef [false, false] N__law_first_missing.length b__law_first_missing)) := by
    refine fn_d (ios := [false, false]) (body := b__law_first_missing) T.F__law_first_missing sc__law_first_missing (by decide) (by decide) fun cdv A outer s H vs E hr => ?_
    show DSs _ _ (_ :: _) _
    exact (dss_cons (ds_setLcD rfl sc__law_first_missing.nd rfl rfl (sw_true rfl rfl rfl (by decide +kernel)) (di_seq (de_var 0)) (blkOk_by (own := [("_law_allocation", 6), ("_law_assignment", 7)]) (N := N__law_first_missing) (sc := defScope s__law_first_missing) (by decide +kernel)) (fun _ _ _ _ _ => (dg_tup rfl (dgs_cons (dg_name 6 sc__law_first_missing.nd rfl (by first | exact Or.inl rfl | exact Or.inr rfl) rfl) (dgs_cons (dg_name 7 sc__law_first_missing.nd rfl (by first | exact Or.inl rfl | exact Or.inr rfl) rfl) dgs_nil)))) (fun _ _ _ _ _ => dts_nil) (fun _ _ _ _ _ => (de_var 6)) (by decide) (ioAll rfl) rfl)
  (dss_cons (ds_for PassesOwn.never rfl (di_range1 (by rfl) T.z_range (da_cons (de_B call_len ob_len (by rfl) T.z_len bt_len (da_cons (de_var 2) da_nil)) da_nil)) (dg_name 3 sc__law_first_missing.nd rfl (by first | exact Or.inl rfl | exact Or.inr rfl) rfl) (dss_one (ds_for PassesOwn.never rfl (di_range2 (by rfl) T.z_range (da_cons de_int (da_cons (de_var 1) da_nil))) (dg_name 4 sc__law_first_missing.nd rfl (by first | exact Or.inl rfl | exact Or.inr rfl) rfl) (dss_cons (ds_set (dm_list (by rfl) T.z_list bt_list (da_cons (de_ix (de_var 2) (de_var 3) (fun _ _ => rfl)) da_nil)) sc__law_first_missing.nd rfl (Or.inl rfl) rfl)
      (dss_cons (ds_setItem (de_op op_addAll o2_add (de_ixO (pv 5) de_int (fun _ _ => rfl)) de_int) (pv 5) de_int)
      (dss_cons (ds_setItem (de_op op_sub o2_sub (de_ixO (pv 5) (de_var 4) (fun _ _ => rfl)) de_int) (pv 5) (de_var 4))
      (dss_one (ds_if (dt_w (dw_and (dt_cmp op_ge o2_ge (de_ixO (pv 5) (de_var 4) (fun _ _ => rfl)) de_int (nomark _)) (dw_and1 (dt_cmp (op_notInAll (hu65 hr)) o2_notIn (de_tupO (by rfl) T.z_tuple bt_tuple (pv 5)) (de_var 2) rfl)))) (dss_one (ds_ret (dm_d (de_tup (da_cons (de_var 3) (da_cons (de_var 4) (da_cons (de_tupO (by rfl) T.z_tuple bt_tuple (pv 5)) da_nil))))))) dss_nil))))))))
  (dss_one (ds_ret (dm_d de_non)))))
  exact h
set_option maxHeartbeats 4000000 in
theorem ok_is_between (T : Txt K mg) : FnOk P w K mg base CX0 2 T.a_is_between T.d_is_between ["value", "low", "high"] (spD K cl0 3 3 f_is_between) := by
  have h : FnOk P w K mg base CX0 2 T.a_is_between T.d_is_between ["value", "low", "high"] (spD K cl0 N_is_between.length (["value", "low", "high"] : List Str).length (runDef [false, false, false] N_is_between.length b_is_between)) := by
    refine fn_d (ios := [false, false, false]) (body := b_is_between) T.F_is_between sc_is_between (by decide) (by decide) fun cdv A outer s H vs E hr => ?_
    show DSs _ _ (_ :: _) _
    exact (dss_one (ds_ret (dm_d (de_and (de_frz (dm_call (ok_is_whole T) (hr.mono (by decide)) (by rfl) T.g_is_whole T.F_is_whole.kp T.b_is_whole (dav_d (de_var 0) dav_nil))) (de_one (de_chain op_le o2_le op_le o2_le (de_var 1) (de_var 0) (de_var 2)))))))
  exact h
set_option maxHeartbeats 4000000 in
theorem ok_is_allocation (T : Txt K mg) : FnOk P w K mg base CX0 2 T.a_is_allocation T.d_is_allocation ["value", "variants", "buckets"] (spD K cl0 4 3 f_is_allocation) := by
  have h : FnOk P w K mg base CX0 2 T.a_is_allocation T.d_is_allocation ["value", "variants", "buckets"] (spD K cl0 N_is_allocation.length (["value", "variants", "buckets"] : List Str).length (runDef [false, false, false] N_is_allocation.length b_is_allocation)) := by
    refine fn_d (ios := [false, false, false]) (body := b_is_allocation) T.F_is_allocation sc_is_allocation (by decide) (by decide) fun cdv A outer s H vs E hr => ?_
    show DSs _ _ (_ :: _) _
    exact (dss_cons (ds_if (dt_w (dw_or (dt_not (dt_truth (de_isi .tup (by rfl) T.z_isinstance bt_isinstance (de_var 0) (by rfl) T.z_tuple bt_tuple))) (dw_or1 (dt_cmp (op_neD hr.units) o2_ne (de_B call_len ob_len (by rfl) T.z_len bt_len (da_cons (de_var 0) da_nil)) (de_var 1) (nomark _))))) (dss_one (ds_ret (dm_d de_bl))) dss_nil)
  (dss_one (ds_ret (dm_d (de_and (de_B (cr_all rfl) ob_all (by rfl) T.z_all bt_all (da_cons (de_comp rfl sc_is_allocation.nd (di_seq (de_var 0)) (blkOk_by (own := [("share", 3)]) (N := N_is_allocation) (sc := defScope s_is_allocation) (by decide +kernel)) (fun _ _ _ _ _ => (dg_name 3 sc_is_allocation.nd rfl (by first | exact Or.inl rfl | exact Or.inr rfl) rfl)) (fun _ _ _ _ _ => dts_nil) (fun _ _ _ _ _ => (de_and (de_frz (dm_call (ok_is_whole T) (hr.mono (by decide)) (by rfl) T.g_is_whole T.F_is_whole.kp T.b_is_whole (dav_d (de_var 3) dav_nil))) (de_one (de_cmp op_ge o2_ge (de_var 3) de_int (nomark _))))) (by decide) (ioAll rfl)) da_nil)) (de_one (de_cmp (op_eqD hr.units) o2_eq (de_B (cr_sumAll rfl) ob_sum (by rfl) T.z_sum bt_sum (da_cons (de_var 0) da_nil)) (de_var 2) (nomark _))))))))
  exact h
set_option maxHeartbeats 4000000 in
theorem ok__law_shuffled (T : Txt K mg) : FnOk P w K mg base CX0 2 T.a__law_shuffled T.d__law_shuffled ["_law_stream_here", "_law_many"] (spD K cl0 5 2 f__law_shuffled) := by
  have h : FnOk P w K mg base CX0 2 T.a__law_shuffled T.d__law_shuffled ["_law_stream_here", "_law_many"] (spD K cl0 N__law_shuffled.length (["_law_stream_here", "_law_many"] : List Str).length (runDef [true, false] N__law_shuffled.length b__law_shuffled)) := by
    refine fn_d (ios := [true, false]) (body := b__law_shuffled) T.F__law_shuffled sc__law_shuffled (by decide) (by decide) fun cdv A outer s H vs E hr => ?_
    show DSs _ _ (_ :: _) _
    exact (dss_cons (ds_set (dm_listRg rfl (by rfl) T.z_list (by rfl) T.z_range (de_var 1)) sc__law_shuffled.nd rfl (Or.inl rfl) rfl)
  (dss_cons (ds_set (dm_lst da_nil) sc__law_shuffled.nd rfl (Or.inl rfl) rfl)
  (dss_cons (ds_for PassesOwn.never rfl (di_range1 (by rfl) T.z_range (da_cons (de_var 1) da_nil)) (dg_name 4 sc__law_shuffled.nd rfl (by first | exact Or.inl rfl | exact Or.inr rfl) rfl) (dss_one (ds_expr (dm_d (de_mt md_app PySem.F.slot_list_append PySem.F.type_list_append mt_append (pv 3) (da_cons (de_mt md_popAt PySem.F.slot_list_pop PySem.F.type_list_pop mt_popAt (pv 2) (da_cons (de_frz (dm_call (ok__law_next T) (hr.mono (by decide)) (by rfl) T.g__law_next T.F__law_next.kp T.b__law_next (dav_s (pv 0) (dav_d (de_BO call_len ob_len (by rfl) T.z_len bt_len (pv 2)) dav_nil)))) da_nil)) da_nil))))))
  (dss_one (ds_ret (dm_d (de_varF 3)))))))
  exact h
set_option maxHeartbeats 4000000 in
theorem ok__law_drawn_assignment (T : Txt K mg) : FnOk P w K mg base CX0 2 T.a__law_drawn_assignment T.d__law_drawn_assignment ["_law_stream_here", "_law_allocation", "_law_buckets"] (spD K cl0 8 3 f__law_drawn_assignment) := by
  have h : FnOk P w K mg base CX0 2 T.a__law_drawn_assignment T.d__law_drawn_assignment ["_law_stream_here", "_law_allocation", "_law_buckets"] (spD K cl0 N__law_drawn_assignment.length (["_law_stream_here", "_law_allocation", "_law_buckets"] : List Str).length (runDef [true, false, false] N__law_drawn_assignment.length b__law_drawn_assignment)) := by
    refine fn_d (ios := [true, false, false]) (body := b__law_drawn_assignment) T.F__law_drawn_assignment sc__law_drawn_assignment (by decide) (by decide) fun cdv A outer s H vs E hr => ?_
    show DSs _ _ (_ :: _) _
    exact (dss_cons (ds_set (dm_list (by rfl) T.z_list bt_list (da_cons (de_var 1) da_nil)) sc__law_drawn_assignment.nd rfl (Or.inr rfl) rfl)
  (dss_cons (ds_set (dm_lst da_nil) sc__law_drawn_assignment.nd rfl (Or.inl rfl) rfl)
  (dss_cons (ds_for PassesOwn.never rfl (di_range1 (by rfl) T.z_range (da_cons (de_var 2) da_nil)) (dg_name 5 sc__law_drawn_assignment.nd rfl (by first | exact Or.inl rfl | exact Or.inr rfl) rfl) (dss_cons (ds_setLcD rfl sc__law_drawn_assignment.nd rfl rfl (sw_true rfl rfl rfl (by decide +kernel)) (di_range1 (by rfl) T.z_range (da_cons (de_BO call_len ob_len (by rfl) T.z_len bt_len (pv 3)) da_nil)) (blkOk_by (own := [("_law_variant", 7)]) (N := N__law_drawn_assignment) (sc := defScope s__law_drawn_assignment) (by decide +kernel)) (fun _ _ _ _ _ => (dg_name 7 sc__law_drawn_assignment.nd rfl (by first | exact Or.inl rfl | exact Or.inr rfl) rfl)) (fun _ _ _ _ _ => (dts_one (dt_cmp op_gt o2_gt (de_ixO (pv 3) (de_var 7) (fun _ _ => rfl)) de_int (nomark _)))) (fun _ _ _ _ _ => (de_var 7)) (by decide) (ioAll rfl) rfl)
    (dss_cons (ds_set (dm_d (de_ix (de_var 6) (de_frz (dm_call (ok__law_next T) (hr.mono (by decide)) (by rfl) T.g__law_next T.F__law_next.kp T.b__law_next (dav_s (pv 0) (dav_d (de_B call_len ob_len (by rfl) T.z_len bt_len (da_cons (de_var 6) da_nil)) dav_nil)))) (fun _ _ => rfl))) sc__law_drawn_assignment.nd rfl (Or.inl rfl) rfl)
    (dss_cons (ds_setItem (de_op op_sub o2_sub (de_ixO (pv 3) (de_var 7) (fun _ _ => rfl)) de_int) (pv 3) (de_var 7))
    (dss_one (ds_expr (dm_d (de_mt md_app PySem.F.slot_list_append PySem.F.type_list_append mt_append (pv 4) (da_cons (de_var 7) da_nil)))))))))
  (dss_one (ds_ret (dm_d (de_tupO (by rfl) T.z_tuple bt_tuple (pv 4))))))))
  exact h
set_option maxHeartbeats 4000000 in
theorem ok__law_is_closed (T : Txt K mg) : FnOk P w K mg base CX0 2 T.a__law_is_closed T.d__law_is_closed ["_law_rule_here", "_law_variants", "_law_buckets"] (spD K cl0 8 3 f__law_is_closed) := by
  have h : FnOk P w K mg base CX0 2 T.a__law_is_closed T.d__law_is_closed ["_law_rule_here", "_law_variants", "_law_buckets"] (spD K cl0 N__law_is_closed.length (["_law_rule_here", "_law_variants", "_law_buckets"] : List Str).length (runDef [false, false, false] N__law_is_closed.length b__law_is_closed)) := by
    refine fn_d (ios := [false, false, false]) (body := b__law_is_closed) T.F__law_is_closed sc__law_is_closed (by decide) (by decide) fun cdv A outer s H vs E hr => ?_
    show DSs _ _ (_ :: _) _
    exact (dss_cons (ds_setLcD rfl sc__law_is_closed.nd rfl rfl (sw_true rfl rfl rfl (by decide +kernel)) (di_seq (de_var 0)) (blkOk_by (own := [("_law_allocation", 4), ("_law_assignment", 6)]) (N := N__law_is_closed) (sc := defScope s__law_is_closed) (by decide +kernel)) (fun _ _ _ _ _ => (dg_tup rfl (dgs_cons (dg_name 4 sc__law_is_closed.nd rfl (by first | exact Or.inl rfl | exact Or.inr rfl) rfl) (dgs_cons (dg_name 6 sc__law_is_closed.nd rfl (by first | exact Or.inl rfl | exact Or.inr rfl) rfl) dgs_nil)))) (fun _ _ _ _ _ => dts_nil) (fun _ _ _ _ _ => (de_var 4)) (by decide) (ioAll rfl) rfl)
  (dss_cons (ds_for PassesOwn.never rfl (di_seq (de_var 3)) (dg_name 4 sc__law_is_closed.nd rfl (by first | exact Or.inl rfl | exact Or.inr rfl) rfl) (dss_one (ds_for PassesOwn.never rfl (di_seq (de_frz (dm_call (ok__law_allocations T) (hr.mono (by decide)) (by rfl) T.g__law_allocations T.F__law_allocations.kp T.b__law_allocations (dav_d (de_var 1) (dav_d (de_var 2) dav_nil))))) (dg_name 5 sc__law_is_closed.nd rfl (by first | exact Or.inl rfl | exact Or.inr rfl) rfl) (dss_one (ds_if (dt_w (dw_and (dt_cmp (op_notInAll (hu65 hr)) o2_notIn (de_var 5) (de_var 3) rfl) (dw_and1 (dt_truth (de_B (cr_all rfl) ob_all (by rfl) T.z_all bt_all (da_cons (de_comp rfl sc__law_is_closed.nd (di_range2 (by rfl) T.z_range (da_cons de_int (da_cons (de_var 1) da_nil))) (blkOk_by (own := [("_law_v", 7)]) (N := N__law_is_closed) (sc := defScope s__law_is_closed) (by decide +kernel)) (fun _ _ _ _ _ => (dg_name 7 sc__law_is_closed.nd rfl (by first | exact Or.inl rfl | exact Or.inr rfl) rfl)) (fun _ _ _ _ _ => dts_nil) (fun _ _ _ _ _ => (de_cmp op_le o2_le (de_ix (de_var 5) (de_var 7) (fun _ _ => rfl)) (de_ix (de_var 4) (de_var 7) (fun _ _ => rfl)) (nomark _))) (by decide) (ioAll rfl)) da_nil)))))) (dss_one (ds_ret (dm_d de_bl))) dss_nil)))))
  (dss_one (ds_ret (dm_d de_bl)))))
  exact h
set_option maxHeartbeats 4000000 in
theorem ok__law_spoilt (T : Txt K mg) : FnOk P w K mg base CX0 2 T.a__law_spoilt T.d__law_spoilt ["_law_stream_here", "_law_rule_here", "_law_variants", "_law_buckets"] (spD K cl0 7 4 f__law_spoilt) := by
  have h : FnOk P w K mg base CX0 2 T.a__law_spoilt T.d__law_spoilt ["_law_stream_here", "_law_rule_here", "_law_variants", "_law_buckets"] (spD K cl0 N__law_spoilt.length (["_law_stream_here", "_law_rule_here", "_law_variants", "_law_buckets"] : List Str).length (runDef [true, false, false, false] N__law_spoilt.length b__law_spoilt)) := by
    refine fn_d (ios := [true, false, false, false]) (body := b__law_spoilt) T.F__law_spoilt sc__law_spoilt (by decide) (by decide) fun cdv A outer s H vs E hr => ?_
    show DSs _ _ (_ :: _) _
    exact (dss_cons (ds_set (dm_d (de_op op_addAll o2_add (de_tup (da_cons (de_var 3) da_nil)) (de_op op_mulAll o2_mul (de_tup (da_cons de_int da_nil)) (de_op op_sub o2_sub (de_var 2) de_int)))) sc__law_spoilt.nd rfl (Or.inl rfl) rfl)
  (dss_cons (ds_set (dm_d (de_tup (da_cons (de_var 4) (da_cons (de_op op_mulAll o2_mul (de_tup (da_cons de_int da_nil)) (de_var 3)) da_nil)))) sc__law_spoilt.nd rfl (Or.inl rfl) rfl)
  (dss_cons (ds_set (dm_d (de_lst (da_cons (de_if (dt_cmp (op_ltA (hu65 hr)) o2_lt (de_B call_len ob_len (by rfl) T.z_len bt_len (da_cons (de_var 1) da_nil)) de_int (nomark _)) (de_op op_addAll o2_add (de_slice (de_var 1) dp_no (dp_some de_int)) (de_tup (da_cons (de_var 5) (da_cons (de_var 5) da_nil)))) (de_var 1)) (da_cons (de_op op_mulAll o2_mul (de_tup (da_cons (de_var 5) da_nil)) de_int) (da_cons (de_Ty call_list_of ob_list (by rfl) T.z_list bt_list (da_cons (de_var 1) da_nil)) (da_cons (de_tup (da_cons (de_tup (da_cons (de_var 4) (da_cons (de_op op_mulAll o2_mul (de_tup (da_cons de_int da_nil)) (de_op op_addAll o2_add (de_var 3) de_int)) da_nil))) da_nil)) (da_cons (de_tup (da_cons (de_tup (da_cons (de_op op_addAll o2_add (de_var 4) (de_tup (da_cons de_int da_nil))) (da_cons (de_op op_mulAll o2_mul (de_tup (da_cons de_int da_nil)) (de_var 3)) da_nil))) da_nil)) (da_cons (de_tup (da_cons (de_tup (da_cons (de_var 4) (da_cons (de_op op_addAll o2_add (de_tup (da_cons (de_var 2) da_nil)) (de_op op_mulAll o2_mul (de_tup (da_cons de_int da_nil)) (de_var 3))) da_nil))) da_nil)) (da_cons (de_tup (da_cons (de_lst (da_cons (de_var 4) (da_cons (de_op op_mulAll o2_mul (de_tup (da_cons de_int da_nil)) (de_var 3)) da_nil))) da_nil)) (da_cons (de_tup (da_cons (de_tup (da_cons (de_var 4) da_nil)) da_nil)) (da_cons de_non da_nil))))))))))) sc__law_spoilt.nd rfl (Or.inl rfl) rfl)
  (dss_one (ds_ret (dm_d (de_ix (de_var 6) (de_frz (dm_call (ok__law_next T) (hr.mono (by decide)) (by rfl) T.g__law_next T.F__law_next.kp T.b__law_next (dav_s (pv 0) (dav_d (de_B call_len ob_len (by rfl) T.z_len bt_len (da_cons (de_var 6) da_nil)) dav_nil)))) (fun _ _ => rfl))))))))
  exact h
set_option maxHeartbeats 4000000 in
theorem ok_is_assignment (T : Txt K mg) : FnOk P w K mg base CX0 3 T.a_is_assignment T.d_is_assignment ["value", "variants", "buckets"] (spD K cl0 4 3 f_is_assignment) := by
  have h : FnOk P w K mg base CX0 3 T.a_is_assignment T.d_is_assignment ["value", "variants", "buckets"] (spD K cl0 N_is_assignment.length (["value", "variants", "buckets"] : List Str).length (runDef [false, false, false] N_is_assignment.length b_is_assignment)) := by
    refine fn_d (ios := [false, false, false]) (body := b_is_assignment) T.F_is_assignment sc_is_assignment (by decide) (by decide) fun cdv A outer s H vs E hr => ?_
    show DSs _ _ (_ :: _) _
    exact (dss_cons (ds_if (dt_w (dw_or (dt_not (dt_truth (de_isi .tup (by rfl) T.z_isinstance bt_isinstance (de_var 0) (by rfl) T.z_tuple bt_tuple))) (dw_or1 (dt_cmp (op_neD hr.units) o2_ne (de_B call_len ob_len (by rfl) T.z_len bt_len (da_cons (de_var 0) da_nil)) (de_var 2) (nomark _))))) (dss_one (ds_ret (dm_d de_bl))) dss_nil)
  (dss_one (ds_ret (dm_d (de_B (cr_all rfl) ob_all (by rfl) T.z_all bt_all (da_cons (de_comp rfl sc_is_assignment.nd (di_seq (de_var 0)) (blkOk_by (own := [("variant", 3)]) (N := N_is_assignment) (sc := defScope s_is_assignment) (by decide +kernel)) (fun _ _ _ _ _ => (dg_name 3 sc_is_assignment.nd rfl (by first | exact Or.inl rfl | exact Or.inr rfl) rfl)) (fun _ _ _ _ _ => dts_nil) (fun _ _ _ _ _ => (de_frz (dm_call (ok_is_between T) (hr.mono (by decide)) (by rfl) T.g_is_between T.F_is_between.kp T.b_is_between (dav_d (de_var 3) (dav_d de_int (dav_d (de_op op_sub o2_sub (de_var 1) de_int) dav_nil)))))) (by decide) (ioAll rfl)) da_nil))))))
  exact h
set_option maxHeartbeats 4000000 in
theorem ok_check_sizes (T : Txt K mg) : FnOk P w K mg base CX0 3 T.a_check_sizes T.d_check_sizes ["variants", "buckets"] (spD K cl0 2 2 f_check_sizes) := by
  have h : FnOk P w K mg base CX0 3 T.a_check_sizes T.d_check_sizes ["variants", "buckets"] (spD K cl0 N_check_sizes.length (["variants", "buckets"] : List Str).length (runDef [false, false] N_check_sizes.length b_check_sizes)) := by
    refine fn_d (ios := [false, false]) (body := b_check_sizes) T.F_check_sizes sc_check_sizes (by decide) (by decide) fun cdv A outer s H vs E hr => ?_
    show DSs _ _ (_ :: _) _
    exact (dss_cons (ds_if (dt_not (dt_truth (de_frz (dm_call (ok_is_between T) (hr.mono (by decide)) (by rfl) T.g_is_between T.F_is_between.kp T.b_is_between (dav_d (de_var 0) (dav_d de_int (dav_d (T.k_MOST_VARIANTS_rules.de (by rfl)) dav_nil))))))) (dss_one ds_never) dss_nil)
  (dss_one (ds_if (dt_not (dt_truth (de_frz (dm_call (ok_is_between T) (hr.mono (by decide)) (by rfl) T.g_is_between T.F_is_between.kp T.b_is_between (dav_d (de_var 1) (dav_d de_int (dav_d (T.k_MOST_BUCKETS_rules.de (by rfl)) dav_nil))))))) (dss_one ds_never) dss_nil)))
  exact h
set_option maxHeartbeats 4000000 in
theorem ok__law_rule (T : Txt K mg) : FnOk P w K mg base CX0 3 T.a__law_rule T.d__law_rule ["_law_stream_here", "_law_variants", "_law_buckets", "_law_most"] (spD K cl0 12 4 f__law_rule) := by
  have h : FnOk P w K mg base CX0 3 T.a__law_rule T.d__law_rule ["_law_stream_here", "_law_variants", "_law_buckets", "_law_most"] (spD K cl0 N__law_rule.length (["_law_stream_here", "_law_variants", "_law_buckets", "_law_most"] : List Str).length (runDef [true, false, false, false] N__law_rule.length b__law_rule)) := by
    refine fn_d (ios := [true, false, false, false]) (body := b__law_rule) T.F__law_rule sc__law_rule (by decide) (by decide) fun cdv A outer s H vs E hr => ?_
    show DSs _ _ (_ :: _) _
    exact (dss_cons (ds_setLcD rfl sc__law_rule.nd rfl rfl (sw_true rfl rfl rfl (by decide +kernel)) (di_range1 (by rfl) T.z_range (da_cons (de_op op_sub o2_sub (de_var 1) de_int) da_nil)) (blkOk_by (own := [("_law_k", 9)]) (N := N__law_rule) (sc := defScope s__law_rule) (by decide +kernel)) (fun _ _ _ _ _ => (dg_name 9 sc__law_rule.nd rfl (by first | exact Or.inl rfl | exact Or.inr rfl) rfl)) (fun _ _ _ _ _ => dts_nil) (fun _ _ _ _ _ => (de_frz (dm_call (ok__law_shuffled T) (hr.mono (by decide)) (by rfl) T.g__law_shuffled T.F__law_shuffled.kp T.b__law_shuffled (dav_s (pv 0) (dav_d (de_var 2) dav_nil))))) (by decide) (ioAll rfl) rfl)
  (dss_cons (ds_set (dm_d (de_frz (dm_call (ok__law_allocations T) (hr.mono (by decide)) (by rfl) T.g__law_allocations T.F__law_allocations.kp T.b__law_allocations (dav_d (de_var 1) (dav_d (de_var 2) dav_nil))))) sc__law_rule.nd rfl (Or.inl rfl) rfl)
  (dss_cons (ds_set (dm_d (de_cmp (op_eqD hr.units) o2_eq (de_frz (dm_call (ok__law_next T) (hr.mono (by decide)) (by rfl) T.g__law_next T.F__law_next.kp T.b__law_next (dav_s (pv 0) (dav_d de_int dav_nil)))) de_int (nomark _))) sc__law_rule.nd rfl (Or.inl rfl) rfl)
  (dss_cons (ds_set (dm_lst da_nil) sc__law_rule.nd rfl (Or.inl rfl) rfl)
  (dss_cons (ds_set (dm_lst da_nil) sc__law_rule.nd rfl (Or.inl rfl) rfl)
  (dss_cons (ds_for PassesOwn.never rfl (di_range1 (by rfl) T.z_range (da_cons (de_frz (dm_call (ok__law_next T) (hr.mono (by decide)) (by rfl) T.g__law_next T.F__law_next.kp T.b__law_next (dav_s (pv 0) (dav_d (de_op op_addAll o2_add (de_var 3) de_int) dav_nil)))) da_nil)) (dg_name 9 sc__law_rule.nd rfl (by first | exact Or.inl rfl | exact Or.inr rfl) rfl) (dss_cons (ds_set (dm_d (de_ix (de_var 5) (de_frz (dm_call (ok__law_next T) (hr.mono (by decide)) (by rfl) T.g__law_next T.F__law_next.kp T.b__law_next (dav_s (pv 0) (dav_d (de_B call_len ob_len (by rfl) T.z_len bt_len (da_cons (de_var 5) da_nil)) dav_nil)))) (fun _ _ => rfl))) sc__law_rule.nd rfl (Or.inl rfl) rfl)
    (dss_cons (ds_set (dm_d (de_frz (dm_call (ok__law_by_lists T) (hr.mono (by decide)) (by rfl) T.g__law_by_lists T.F__law_by_lists.kp T.b__law_by_lists (dav_d (de_var 4) (dav_d (de_var 10) (dav_d (de_var 2) dav_nil)))))) sc__law_rule.nd rfl (Or.inl rfl) rfl)
    (dss_cons (ds_if (dt_w (dw_and (dt_truth (de_var 6)) (dw_and1 (dt_w (dw_or (dt_cmp op_isAll o2_is (de_var 11) de_non (nomark _)) (dw_or1 (dt_cmp (op_eqD hr.units) o2_eq (de_frz (dm_call (ok__law_next T) (hr.mono (by decide)) (by rfl) T.g__law_next T.F__law_next.kp T.b__law_next (dav_s (pv 0) (dav_d de_int dav_nil)))) de_int (nomark _)))))))) (dss_one (ds_set (dm_d (de_frz (dm_call (ok__law_drawn_assignment T) (hr.mono (by decide)) (by rfl) T.g__law_drawn_assignment T.F__law_drawn_assignment.kp T.b__law_drawn_assignment (dav_s (pv 0) (dav_d (de_var 10) (dav_d (de_var 2) dav_nil)))))) sc__law_rule.nd rfl (Or.inl rfl) rfl)) dss_nil)
    (dss_one (ds_if (dt_w (dw_and (dt_cmpR (op_notInAll (hu65 hr)) o2_notIn (de_var 10) (pv 8) rfl) (dw_and1 (dt_cmp op_isNotAll o2_isNot (de_var 11) de_non (nomark _))))) (dss_cons (ds_expr (dm_d (de_mt md_app PySem.F.slot_list_append PySem.F.type_list_append mt_append (pv 8) (da_cons (de_var 10) da_nil))))
      (dss_one (ds_expr (dm_d (de_mt md_app PySem.F.slot_list_append PySem.F.type_list_append mt_append (pv 7) (da_cons (de_tup (da_cons (de_var 10) (da_cons (de_var 11) da_nil))) da_nil)))))) dss_nil))))))
  (dss_one (ds_ret (dm_d (de_tupO (by rfl) T.z_tuple bt_tuple (pv 7)))))))))))
  exact h
set_option maxHeartbeats 4000000 in
theorem ok_check_assignment (T : Txt K mg) : FnOk P w K mg base CX0 4 T.a_check_assignment T.d_check_assignment ["value", "variants", "name"] (spD K cl0 3 3 f_check_assignment) := by
  have h : FnOk P w K mg base CX0 4 T.a_check_assignment T.d_check_assignment ["value", "variants", "name"] (spD K cl0 N_check_assignment.length (["value", "variants", "name"] : List Str).length (runDef [false, false, false] N_check_assignment.length b_check_assignment)) := by
    refine fn_d (ios := [false, false, false]) (body := b_check_assignment) T.F_check_assignment sc_check_assignment (by decide) (by decide) fun cdv A outer s H vs E hr => ?_
    show DSs _ _ (_ :: _) _
    exact (dss_cons (ds_if (dt_w (dw_or (dt_not (dt_truth (de_isi .tup (by rfl) T.z_isinstance bt_isinstance (de_var 0) (by rfl) T.z_tuple bt_tuple))) (dw_or1 (dt_cmp op_gt o2_gt (de_B call_len ob_len (by rfl) T.z_len bt_len (da_cons (de_var 0) da_nil)) (T.k_MOST_BUCKETS_allocations.de (by rfl)) (nomark _))))) (dss_one ds_never) dss_nil)
  (dss_one (ds_if (dt_not (dt_truth (de_frz (dm_call (ok_is_assignment T) (hr.mono (by decide)) (by rfl) T.g_is_assignment T.F_is_assignment.kp T.b_is_assignment (dav_d (de_var 0) (dav_d (de_var 1) (dav_d (de_B call_len ob_len (by rfl) T.z_len bt_len (da_cons (de_var 0) da_nil)) dav_nil))))))) (dss_one ds_never) dss_nil)))
  exact h
set_option maxHeartbeats 4000000 in
theorem ok_check_variants (T : Txt K mg) : FnOk P w K mg base CX0 4 T.a_check_variants T.d_check_variants ["variants", "assignments"] (spD K cl0 3 2 f_check_variants) := by
  have h : FnOk P w K mg base CX0 4 T.a_check_variants T.d_check_variants ["variants", "assignments"] (spD K cl0 N_check_variants.length (["variants", "assignments"] : List Str).length (runDef [false, false] N_check_variants.length b_check_variants)) := by
    refine fn_d (ios := [false, false]) (body := b_check_variants) T.F_check_variants sc_check_variants (by decide) (by decide) fun cdv A outer s H vs E hr => ?_
    show DSs _ _ (_ :: _) _
    exact (dss_cons (ds_if (dt_not (dt_truth (de_frz (dm_call (ok_is_between T) (hr.mono (by decide)) (by rfl) T.g_is_between T.F_is_between.kp T.b_is_between (dav_d (de_var 0) (dav_d de_int (dav_d (T.k_MOST_VARIANTS_allocations.de (by rfl)) dav_nil))))))) (dss_one ds_never) dss_nil)
  (dss_one (ds_if (dt_not (dt_truth (de_B (cr_all rfl) ob_all (by rfl) T.z_all bt_all (da_cons (de_comp rfl sc_check_variants.nd (di_seq (de_var 1)) (blkOk_by (own := [("assignment", 2)]) (N := N_check_variants) (sc := defScope s_check_variants) (by decide +kernel)) (fun _ _ _ _ _ => (dg_name 2 sc_check_variants.nd rfl (by first | exact Or.inl rfl | exact Or.inr rfl) rfl)) (fun _ _ _ _ _ => dts_nil) (fun _ _ _ _ _ => (de_frz (dm_call (ok_is_assignment T) (hr.mono (by decide)) (by rfl) T.g_is_assignment T.F_is_assignment.kp T.b_is_assignment (dav_d (de_var 2) (dav_d (de_var 0) (dav_d (de_B call_len ob_len (by rfl) T.z_len bt_len (da_cons (de_var 2) da_nil)) dav_nil)))))) (by decide) (ioAll rfl)) da_nil)))) (dss_one ds_never) dss_nil)))
  exact h
set_option maxHeartbeats 4000000 in
theorem ok_allocation_of (T : Txt K mg) : FnOk P w K mg base CX0 5 T.a_allocation_of T.d_allocation_of ["assignment", "variants"] (spD K cl0 2 2 f_allocation_of) := by
  have h : FnOk P w K mg base CX0 5 T.a_allocation_of T.d_allocation_of ["assignment", "variants"] (spD K cl0 N_allocation_of.length (["assignment", "variants"] : List Str).length (runDef [false, false] N_allocation_of.length b_allocation_of)) := by
    refine fn_d (ios := [false, false]) (body := b_allocation_of) T.F_allocation_of sc_allocation_of (by decide) (by decide) fun cdv A outer s H vs E hr => ?_
    show DSs _ _ (_ :: _) _
    exact (dss_cons (ds_expr (dm_call (ok_check_assignment T) (hr.mono (by decide)) (by rfl) T.g_check_assignment T.F_check_assignment.kp T.b_check_assignment (dav_d (de_var 0) (dav_d (T.k_MOST_VARIANTS_allocations.de (by rfl)) (dav_d de_str dav_nil)))))
  (dss_cons (ds_expr (dm_call (ok_check_variants T) (hr.mono (by decide)) (by rfl) T.g_check_variants T.F_check_variants.kp T.b_check_variants (dav_d (de_var 1) (dav_d (de_lst (da_cons (de_var 0) da_nil)) dav_nil))))
  (dss_one (ds_ret (dm_d (de_frz (dm_call (ok_counts_of T) (hr.mono (by decide)) (by rfl) T.g_counts_of T.F_counts_of.kp T.b_counts_of (dav_d (de_var 0) (dav_d (de_var 1) dav_nil)))))))))
  exact h
set_option maxHeartbeats 4000000 in
theorem ok_is_pair (T : Txt K mg) : FnOk P w K mg base CX0 6 T.a_is_pair T.d_is_pair ["value", "variants", "buckets"] (spD K cl0 3 3 f_is_pair) := by
  have h : FnOk P w K mg base CX0 6 T.a_is_pair T.d_is_pair ["value", "variants", "buckets"] (spD K cl0 N_is_pair.length (["value", "variants", "buckets"] : List Str).length (runDef [false, false, false] N_is_pair.length b_is_pair)) := by
    refine fn_d (ios := [false, false, false]) (body := b_is_pair) T.F_is_pair sc_is_pair (by decide) (by decide) fun cdv A outer s H vs E hr => ?_
    show DSs _ _ (_ :: _) _
    exact (dss_cons (ds_if (dt_w (dw_or (dt_not (dt_truth (de_isi .tup (by rfl) T.z_isinstance bt_isinstance (de_var 0) (by rfl) T.z_tuple bt_tuple))) (dw_or1 (dt_cmp (op_neD hr.units) o2_ne (de_B call_len ob_len (by rfl) T.z_len bt_len (da_cons (de_var 0) da_nil)) de_int (nomark _))))) (dss_one (ds_ret (dm_d de_bl))) dss_nil)
  (dss_cons (ds_if (dt_w (dw_or (dt_not (dt_truth (de_frz (dm_call (ok_is_allocation T) (hr.mono (by decide)) (by rfl) T.g_is_allocation T.F_is_allocation.kp T.b_is_allocation (dav_d (de_ix (de_var 0) de_int (fun _ _ => rfl)) (dav_d (de_var 1) (dav_d (de_var 2) dav_nil))))))) (dw_or1 (dt_not (dt_truth (de_frz (dm_call (ok_is_assignment T) (hr.mono (by decide)) (by rfl) T.g_is_assignment T.F_is_assignment.kp T.b_is_assignment (dav_d (de_ix (de_var 0) de_int (fun _ _ => rfl)) (dav_d (de_var 1) (dav_d (de_var 2) dav_nil)))))))))) (dss_one (ds_ret (dm_d de_bl))) dss_nil)
  (dss_one (ds_ret (dm_d (de_cmp (op_eqD hr.units) o2_eq (de_frz (dm_call (ok_allocation_of T) (hr.mono (by decide)) (by rfl) T.g_allocation_of T.F_allocation_of.kp T.b_allocation_of (dav_d (de_ix (de_var 0) de_int (fun _ _ => rfl)) (dav_d (de_var 1) dav_nil)))) (de_ix (de_var 0) de_int (fun _ _ => rfl)) (nomark _)))))))
  exact h
set_option maxHeartbeats 4000000 in
theorem ok_are_pairs (T : Txt K mg) : FnOk P w K mg base CX0 7 T.a_are_pairs T.d_are_pairs ["value", "variants", "buckets"] (spD K cl0 4 3 f_are_pairs) := by
  have h : FnOk P w K mg base CX0 7 T.a_are_pairs T.d_are_pairs ["value", "variants", "buckets"] (spD K cl0 N_are_pairs.length (["value", "variants", "buckets"] : List Str).length (runDef [false, false, false] N_are_pairs.length b_are_pairs)) := by
    refine fn_d (ios := [false, false, false]) (body := b_are_pairs) T.F_are_pairs sc_are_pairs (by decide) (by decide) fun cdv A outer s H vs E hr => ?_
    show DSs _ _ (_ :: _) _
    exact (dss_cons (ds_if (dt_w (dw_or (dt_not (dt_truth (de_isi .tup (by rfl) T.z_isinstance bt_isinstance (de_var 0) (by rfl) T.z_tuple bt_tuple))) (dw_or1 (dt_cmp op_gt o2_gt (de_B call_len ob_len (by rfl) T.z_len bt_len (da_cons (de_var 0) da_nil)) (T.k_MOST_PAIRS.de (by rfl)) (nomark _))))) (dss_one (ds_ret (dm_d de_bl))) dss_nil)
  (dss_cons (ds_if (dt_not (dt_truth (de_B (cr_all rfl) ob_all (by rfl) T.z_all bt_all (da_cons (de_comp rfl sc_are_pairs.nd (di_seq (de_var 0)) (blkOk_by (own := [("pair", 3)]) (N := N_are_pairs) (sc := defScope s_are_pairs) (by decide +kernel)) (fun _ _ _ _ _ => (dg_name 3 sc_are_pairs.nd rfl (by first | exact Or.inl rfl | exact Or.inr rfl) rfl)) (fun _ _ _ _ _ => dts_nil) (fun _ _ _ _ _ => (de_frz (dm_call (ok_is_pair T) (hr.mono (by decide)) (by rfl) T.g_is_pair T.F_is_pair.kp T.b_is_pair (dav_d (de_var 3) (dav_d (de_var 1) (dav_d (de_var 2) dav_nil)))))) (by decide) (ioAll rfl)) da_nil)))) (dss_one (ds_ret (dm_d de_bl))) dss_nil)
  (dss_one (ds_ret (dm_d (de_cmp (op_eqD hr.units) o2_eq (de_lenT (hu65 hr) rfl sc_are_pairs.nd (by rfl) T.z_len (di_seq (de_var 0)) (blkOk_by (own := [("pair", 3)]) (N := N_are_pairs) (sc := defScope s_are_pairs) (by decide +kernel)) (fun _ _ _ _ _ => (dg_name 3 sc_are_pairs.nd rfl (by first | exact Or.inl rfl | exact Or.inr rfl) rfl)) (fun _ _ _ _ _ => dts_nil) (fun _ _ _ _ _ => (de_ix (de_var 3) de_int (fun _ _ => rfl))) (fun _ _ _ _ _ => de_bl) (by decide) (ioAll rfl)) (de_B call_len ob_len (by rfl) T.z_len bt_len (da_cons (de_var 0) da_nil)) (nomark _)))))))
  exact h
set_option maxHeartbeats 4000000 in
theorem ok_is_rule (T : Txt K mg) : FnOk P w K mg base CX0 8 T.a_is_rule T.d_is_rule ["value", "variants", "buckets"] (spD K cl0 3 3 f_is_rule) := by
  have h : FnOk P w K mg base CX0 8 T.a_is_rule T.d_is_rule ["value", "variants", "buckets"] (spD K cl0 N_is_rule.length (["value", "variants", "buckets"] : List Str).length (runDef [false, false, false] N_is_rule.length b_is_rule)) := by
    refine fn_d (ios := [false, false, false]) (body := b_is_rule) T.F_is_rule sc_is_rule (by decide) (by decide) fun cdv A outer s H vs E hr => ?_
    show DSs _ _ (_ :: _) _
    exact (dss_cons (ds_expr (dm_call (ok_check_sizes T) (hr.mono (by decide)) (by rfl) T.g_check_sizes T.F_check_sizes.kp T.b_check_sizes (dav_d (de_var 1) (dav_d (de_var 2) dav_nil))))
  (dss_one (ds_ret (dm_d (de_frz (dm_call (ok_are_pairs T) (hr.mono (by decide)) (by rfl) T.g_are_pairs T.F_are_pairs.kp T.b_are_pairs (dav_d (de_var 0) (dav_d (de_var 1) (dav_d (de_var 2) dav_nil)))))))))
  exact h
set_option maxHeartbeats 4000000 in
theorem ok_check_rule (T : Txt K mg) : FnOk P w K mg base CX0 8 T.a_check_rule T.d_check_rule ["variants", "buckets", "rule"] (spD K cl0 3 3 f_check_rule) := by
  have h : FnOk P w K mg base CX0 8 T.a_check_rule T.d_check_rule ["variants", "buckets", "rule"] (spD K cl0 N_check_rule.length (["variants", "buckets", "rule"] : List Str).length (runDef [false, false, false] N_check_rule.length b_check_rule)) := by
    refine fn_d (ios := [false, false, false]) (body := b_check_rule) T.F_check_rule sc_check_rule (by decide) (by decide) fun cdv A outer s H vs E hr => ?_
    show DSs _ _ (_ :: _) _
    exact (dss_cons (ds_expr (dm_call (ok_check_sizes T) (hr.mono (by decide)) (by rfl) T.g_check_sizes T.F_check_sizes.kp T.b_check_sizes (dav_d (de_var 0) (dav_d (de_var 1) dav_nil))))
  (dss_one (ds_if (dt_not (dt_truth (de_frz (dm_call (ok_are_pairs T) (hr.mono (by decide)) (by rfl) T.g_are_pairs T.F_are_pairs.kp T.b_are_pairs (dav_d (de_var 2) (dav_d (de_var 0) (dav_d (de_var 1) dav_nil))))))) (dss_one ds_never) dss_nil)))
  exact h
set_option maxHeartbeats 4000000 in
theorem ok_missing (T : Txt K mg) : FnOk P w K mg base CX0 9 T.a_missing T.d_missing ["variants", "buckets", "rule"] (spD K cl0 8 3 f_missing) := by
  have h : FnOk P w K mg base CX0 9 T.a_missing T.d_missing ["variants", "buckets", "rule"] (spD K cl0 N_missing.length (["variants", "buckets", "rule"] : List Str).length (runDef [false, false, false] N_missing.length b_missing)) := by
    refine fn_d (ios := [false, false, false]) (body := b_missing) T.F_missing sc_missing (by decide) (by decide) fun cdv A outer s H vs E hr => ?_
    show DSs _ _ (_ :: _) _
    exact (dss_cons (ds_expr (dm_call (ok_check_rule T) (hr.mono (by decide)) (by rfl) T.g_check_rule T.F_check_rule.kp T.b_check_rule (dav_d (de_var 0) (dav_d (de_var 1) (dav_d (de_var 2) dav_nil)))))
  (dss_cons (ds_setDcT (hu65 hr) rfl sc_missing.nd rfl rfl (sw_trueD rfl rfl rfl (by decide +kernel)) (di_seq (de_var 2)) (blkOk_by (own := [("allocation", 6), ("_", 7)]) (N := N_missing) (sc := defScope s_missing) (by decide +kernel)) (fun _ _ _ _ _ => (dg_tup rfl (dgs_cons (dg_name 6 sc_missing.nd rfl (by first | exact Or.inl rfl | exact Or.inr rfl) rfl) (dgs_cons (dg_name 7 sc_missing.nd rfl (by first | exact Or.inl rfl | exact Or.inr rfl) rfl) dgs_nil)))) (fun _ _ _ _ _ => dts_nil) (fun _ _ _ _ _ => (de_var 6)) (fun _ _ _ _ _ => de_bl) (by decide) (ioAll rfl) rfl)
  (dss_cons (ds_for PassesOwn.never rfl (di_enum (by rfl) T.z_enumerate (da_cons (de_var 2) da_nil)) (dg_tup rfl (dgs_cons (dg_name 4 sc_missing.nd rfl (by first | exact Or.inl rfl | exact Or.inr rfl) rfl) (dgs_cons (dg_tup rfl (dgs_cons (dg_name 6 sc_missing.nd rfl (by first | exact Or.inl rfl | exact Or.inr rfl) rfl) (dgs_cons (dg_name 7 sc_missing.nd rfl (by first | exact Or.inl rfl | exact Or.inr rfl) rfl) dgs_nil))) dgs_nil))) (dss_one (ds_for PassesOwn.never rfl (di_range2 (by rfl) T.z_range (da_cons de_int (da_cons (de_var 0) da_nil))) (dg_name 5 sc_missing.nd rfl (by first | exact Or.inl rfl | exact Or.inr rfl) rfl) (dss_one (ds_if (dt_w (dw_and (dt_cmp op_gt o2_gt (de_ix (de_var 6) (de_var 5) (fun _ _ => rfl)) de_int (nomark _)) (dw_and1 (dt_notInFk (hu65 hr) (de_frz (dm_call (ok_given_back T) (hr.mono (by decide)) (by rfl) T.g_given_back T.F_given_back.kp T.b_given_back (dav_d (de_var 6) (dav_d (de_var 5) dav_nil)))) (pv 3))))) (dss_one (ds_ret (dm_d (de_tup (da_cons (de_var 4) (da_cons (de_var 5) (da_cons (de_frz (dm_call (ok_given_back T) (hr.mono (by decide)) (by rfl) T.g_given_back T.F_given_back.kp T.b_given_back (dav_d (de_var 6) (dav_d (de_var 5) dav_nil)))) da_nil))))))) dss_nil)))))
  (dss_one (ds_ret (dm_d de_non))))))
  exact h
set_option maxHeartbeats 4000000 in
theorem ok_law (T : Txt K mg) : FnOk P w K mg base CX0 10 T.a_law T.d_law ["_law_script"] (spD K cl0 6 1 f_law) := by
  have h : FnOk P w K mg base CX0 10 T.a_law T.d_law ["_law_script"] (spD K cl0 N_law.length (["_law_script"] : List Str).length (runDef [true] N_law.length b_law)) := by
    refine fn_d (ios := [true]) (body := b_law) T.F_law sc_law (by decide) (by decide) fun cdv A outer s H vs E hr => ?_
    show DSs _ _ (_ :: _) _
    exact (dss_cons (ds_set (dm_call (ok__law_stream T) (hr.mono (by decide)) (by rfl) T.g__law_stream T.F__law_stream.kp T.b__law_stream (dav_s (pv 0) dav_nil)) sc_law.nd rfl (Or.inl rfl) rfl)
  (dss_cons (ds_set (dm_d (de_op op_addAll o2_add de_int (de_frz (dm_call (ok__law_next T) (hr.mono (by decide)) (by rfl) T.g__law_next T.F__law_next.kp T.b__law_next (dav_s (pv 1) (dav_d de_int dav_nil)))))) sc_law.nd rfl (Or.inl rfl) rfl)
  (dss_cons (ds_set (dm_d (de_frz (dm_call (ok__law_next T) (hr.mono (by decide)) (by rfl) T.g__law_next T.F__law_next.kp T.b__law_next (dav_s (pv 1) (dav_d de_int dav_nil))))) sc_law.nd rfl (Or.inl rfl) rfl)
  (dss_cons (ds_set (dm_d (de_frz (dm_call (ok__law_rule T) (hr.mono (by decide)) (by rfl) T.g__law_rule T.F__law_rule.kp T.b__law_rule (dav_s (pv 1) (dav_d (de_var 2) (dav_d (de_var 3) (dav_d de_int dav_nil))))))) sc_law.nd rfl (Or.inl rfl) rfl)
  (dss_cons (ds_if (dt_cmp op_isNotAll o2_isNot (de_frz (dm_call (ok_is_rule T) (hr.mono (by decide)) (by rfl) T.g_is_rule T.F_is_rule.kp T.b_is_rule (dav_d (de_var 4) (dav_d (de_var 2) (dav_d (de_var 3) dav_nil))))) de_bl (nomark _)) (dss_one (ds_ret (dm_d de_bl))) dss_nil)
  (dss_cons (ds_if (dt_cmp op_isNotAll o2_isNot (de_frz (dm_call (ok_is_rule T) (hr.mono (by decide)) (by rfl) T.g_is_rule T.F_is_rule.kp T.b_is_rule (dav_d (de_frz (dm_call (ok__law_spoilt T) (hr.mono (by decide)) (by rfl) T.g__law_spoilt T.F__law_spoilt.kp T.b__law_spoilt (dav_s (pv 1) (dav_d (de_var 4) (dav_d (de_var 2) (dav_d (de_var 3) dav_nil)))))) (dav_d (de_var 2) (dav_d (de_var 3) dav_nil))))) de_bl (nomark _)) (dss_one (ds_ret (dm_d de_bl))) dss_nil)
  (dss_cons (ds_set (dm_d (de_frz (dm_call (ok__law_first_missing T) (hr.mono (by decide)) (by rfl) T.g__law_first_missing T.F__law_first_missing.kp T.b__law_first_missing (dav_d (de_var 4) (dav_d (de_var 2) dav_nil))))) sc_law.nd rfl (Or.inl rfl) rfl)
  (dss_cons (ds_if (dt_cmp (op_neD hr.units) o2_ne (de_cmp op_isAll o2_is (de_var 5) de_non (nomark _)) (de_frz (dm_call (ok__law_is_closed T) (hr.mono (by decide)) (by rfl) T.g__law_is_closed T.F__law_is_closed.kp T.b__law_is_closed (dav_d (de_var 4) (dav_d (de_var 2) (dav_d (de_var 3) dav_nil))))) (nomark _)) (dss_one (ds_ret (dm_d de_bl))) dss_nil)
  (dss_one (ds_ret (dm_d (de_cmp (op_eqD hr.units) o2_eq (de_frz (dm_call (ok_missing T) (hr.mono (by decide)) (by rfl) T.g_missing T.F_missing.kp T.b_missing (dav_d (de_var 2) (dav_d (de_var 3) (dav_d (de_var 4) dav_nil))))) (de_var 5) (nomark _)))))))))))))
  exact h
end
set_option maxHeartbeats 4000000 in
theorem all_mk {l : PySem.W.OpenLaw} {w : World} {K : PySem.W.Frag} {h : Heap} {mg : Str → Option Value} {fa : Addr} (X : K.In h) (G : h.Ns mainGlobals mg) (hfa : mg "law" = some (.ref fa))
    {f0 : Addr} {od0 an0 : Option Addr} {sl0 : Array (Option Value)} {oc0 kV0 dc0 pm0 cd0 ct0 : Value}
    {f1 : Addr} {od1 an1 : Option Addr} {sl1 : Array (Option Value)} {oc1 kV1 dc1 pm1 cd1 ct1 : Value}
    {f2 : Addr} {od2 an2 : Option Addr} {sl2 : Array (Option Value)} {oc2 kV2 dc2 pm2 cd2 ct2 : Value}
    {f3 : Addr} {od3 an3 : Option Addr} {sl3 : Array (Option Value)} {oc3 kV3 dc3 pm3 cd3 ct3 : Value}
    {f4 : Addr} {od4 an4 : Option Addr} {sl4 : Array (Option Value)} {oc4 kV4 dc4 pm4 cd4 ct4 : Value}
    {f5 : Addr} {od5 an5 : Option Addr} {sl5 : Array (Option Value)} {oc5 kV5 dc5 pm5 cd5 ct5 : Value}
    {f6 : Addr} {od6 an6 : Option Addr} {sl6 : Array (Option Value)} {oc6 kV6 dc6 pm6 cd6 ct6 : Value}
    {f7 : Addr} {od7 an7 : Option Addr} {sl7 : Array (Option Value)} {oc7 kV7 dc7 pm7 cd7 ct7 : Value}
    {f8 : Addr} {od8 an8 : Option Addr} {sl8 : Array (Option Value)} {oc8 kV8 dc8 pm8 cd8 ct8 : Value}
    {f9 : Addr} {od9 an9 : Option Addr} {sl9 : Array (Option Value)} {oc9 kV9 dc9 pm9 cd9 ct9 : Value}
    {f10 : Addr} {od10 an10 : Option Addr} {sl10 : Array (Option Value)} {oc10 kV10 dc10 pm10 cd10 ct10 : Value}
    {f11 : Addr} {od11 an11 : Option Addr} {sl11 : Array (Option Value)} {oc11 kV11 dc11 pm11 cd11 ct11 : Value}
    {f12 : Addr} {od12 an12 : Option Addr} {sl12 : Array (Option Value)} {oc12 kV12 dc12 pm12 cd12 ct12 : Value}
    {f13 : Addr} {od13 an13 : Option Addr} {sl13 : Array (Option Value)} {oc13 kV13 dc13 pm13 cd13 ct13 : Value}
    {f14 : Addr} {od14 an14 : Option Addr} {sl14 : Array (Option Value)} {oc14 kV14 dc14 pm14 cd14 ct14 : Value}
    {f15 : Addr} {od15 an15 : Option Addr} {sl15 : Array (Option Value)} {oc15 kV15 dc15 pm15 cd15 ct15 : Value}
    {f16 : Addr} {od16 an16 : Option Addr} {sl16 : Array (Option Value)} {oc16 kV16 dc16 pm16 cd16 ct16 : Value}
    {f17 : Addr} {od17 an17 : Option Addr} {sl17 : Array (Option Value)} {oc17 kV17 dc17 pm17 cd17 ct17 : Value}
    {f18 : Addr} {od18 an18 : Option Addr} {sl18 : Array (Option Value)} {oc18 kV18 dc18 pm18 cd18 ct18 : Value}
    {f19 : Addr} {od19 an19 : Option Addr} {sl19 : Array (Option Value)} {oc19 kV19 dc19 pm19 cd19 ct19 : Value}
    {f20 : Addr} {od20 an20 : Option Addr} {sl20 : Array (Option Value)} {oc20 kV20 dc20 pm20 cd20 ct20 : Value}
    {f21 : Addr} {od21 an21 : Option Addr} {sl21 : Array (Option Value)} {oc21 kV21 dc21 pm21 cd21 ct21 : Value}
    {f22 : Addr} {od22 an22 : Option Addr} {sl22 : Array (Option Value)} {oc22 kV22 dc22 pm22 cd22 ct22 : Value}
    {f23 : Addr} {od23 an23 : Option Addr} {sl23 : Array (Option Value)} {oc23 kV23 dc23 pm23 cd23 ct23 : Value}
    {f24 : Addr} {od24 an24 : Option Addr} {sl24 : Array (Option Value)} {oc24 kV24 dc24 pm24 cd24 ct24 : Value}
    {f25 : Addr} {od25 an25 : Option Addr} {sl25 : Array (Option Value)} {oc25 kV25 dc25 pm25 cd25 ct25 : Value}
    {kt_MOST_BUCKETS_allocations : Tok}
    {kt_MOST_BUCKETS_rules : Tok}
    {kt_MOST_PAIRS : Tok}
    {kt_MOST_VARIANTS_allocations : Tok}
    {kt_MOST_VARIANTS_rules : Tok}
    (a0 : PySem.W.nsIn K mainGlobals "is_whole" = some (some (.ref f0))) (l0 : K.lookup f0 = some ⟨oc0, od0, .func (PySem.W.fnOf "is_whole" "is_whole" (defArgs s_is_whole) (defBody s_is_whole) (defScope s_is_whole) .none kV0 dc0 pm0 an0 cd0 ct0), sl0⟩) (c0 : PySem.W.codeIn K cd0 "is_whole" = true) (k0 : PySem.W.keepIn K (.ref f0) = true)
    (a1 : PySem.W.nsIn K mainGlobals "counts_of" = some (some (.ref f1))) (l1 : K.lookup f1 = some ⟨oc1, od1, .func (PySem.W.fnOf "counts_of" "counts_of" (defArgs s_counts_of) (defBody s_counts_of) (defScope s_counts_of) .none kV1 dc1 pm1 an1 cd1 ct1), sl1⟩) (c1 : PySem.W.codeIn K cd1 "counts_of" = true) (k1 : PySem.W.keepIn K (.ref f1) = true)
    (a2 : PySem.W.nsIn K mainGlobals "given_back" = some (some (.ref f2))) (l2 : K.lookup f2 = some ⟨oc2, od2, .func (PySem.W.fnOf "given_back" "given_back" (defArgs s_given_back) (defBody s_given_back) (defScope s_given_back) .none kV2 dc2 pm2 an2 cd2 ct2), sl2⟩) (c2 : PySem.W.codeIn K cd2 "given_back" = true) (k2 : PySem.W.keepIn K (.ref f2) = true)
    (a3 : PySem.W.nsIn K mainGlobals "_law_stream" = some (some (.ref f3))) (l3 : K.lookup f3 = some ⟨oc3, od3, .func (PySem.W.fnOf "_law_stream" "_law_stream" (defArgs s__law_stream) (defBody s__law_stream) (defScope s__law_stream) .none kV3 dc3 pm3 an3 cd3 ct3), sl3⟩) (c3 : PySem.W.codeIn K cd3 "_law_stream" = true) (k3 : PySem.W.keepIn K (.ref f3) = true)
    (a4 : PySem.W.nsIn K mainGlobals "_law_next" = some (some (.ref f4))) (l4 : K.lookup f4 = some ⟨oc4, od4, .func (PySem.W.fnOf "_law_next" "_law_next" (defArgs s__law_next) (defBody s__law_next) (defScope s__law_next) .none kV4 dc4 pm4 an4 cd4 ct4), sl4⟩) (c4 : PySem.W.codeIn K cd4 "_law_next" = true) (k4 : PySem.W.keepIn K (.ref f4) = true)
    (a5 : PySem.W.nsIn K mainGlobals "_law_allocations" = some (some (.ref f5))) (l5 : K.lookup f5 = some ⟨oc5, od5, .func (PySem.W.fnOf "_law_allocations" "_law_allocations" (defArgs s__law_allocations) (defBody s__law_allocations) (defScope s__law_allocations) .none kV5 dc5 pm5 an5 cd5 ct5), sl5⟩) (c5 : PySem.W.codeIn K cd5 "_law_allocations" = true) (k5 : PySem.W.keepIn K (.ref f5) = true)
    (a6 : PySem.W.nsIn K mainGlobals "_law_by_lists" = some (some (.ref f6))) (l6 : K.lookup f6 = some ⟨oc6, od6, .func (PySem.W.fnOf "_law_by_lists" "_law_by_lists" (defArgs s__law_by_lists) (defBody s__law_by_lists) (defScope s__law_by_lists) .none kV6 dc6 pm6 an6 cd6 ct6), sl6⟩) (c6 : PySem.W.codeIn K cd6 "_law_by_lists" = true) (k6 : PySem.W.keepIn K (.ref f6) = true)
    (a7 : PySem.W.nsIn K mainGlobals "_law_first_missing" = some (some (.ref f7))) (l7 : K.lookup f7 = some ⟨oc7, od7, .func (PySem.W.fnOf "_law_first_missing" "_law_first_missing" (defArgs s__law_first_missing) (defBody s__law_first_missing) (defScope s__law_first_missing) .none kV7 dc7 pm7 an7 cd7 ct7), sl7⟩) (c7 : PySem.W.codeIn K cd7 "_law_first_missing" = true) (k7 : PySem.W.keepIn K (.ref f7) = true)
    (a8 : PySem.W.nsIn K mainGlobals "is_between" = some (some (.ref f8))) (l8 : K.lookup f8 = some ⟨oc8, od8, .func (PySem.W.fnOf "is_between" "is_between" (defArgs s_is_between) (defBody s_is_between) (defScope s_is_between) .none kV8 dc8 pm8 an8 cd8 ct8), sl8⟩) (c8 : PySem.W.codeIn K cd8 "is_between" = true) (k8 : PySem.W.keepIn K (.ref f8) = true)
    (a9 : PySem.W.nsIn K mainGlobals "is_allocation" = some (some (.ref f9))) (l9 : K.lookup f9 = some ⟨oc9, od9, .func (PySem.W.fnOf "is_allocation" "is_allocation" (defArgs s_is_allocation) (defBody s_is_allocation) (defScope s_is_allocation) .none kV9 dc9 pm9 an9 cd9 ct9), sl9⟩) (c9 : PySem.W.codeIn K cd9 "is_allocation" = true) (k9 : PySem.W.keepIn K (.ref f9) = true)
    (a10 : PySem.W.nsIn K mainGlobals "_law_shuffled" = some (some (.ref f10))) (l10 : K.lookup f10 = some ⟨oc10, od10, .func (PySem.W.fnOf "_law_shuffled" "_law_shuffled" (defArgs s__law_shuffled) (defBody s__law_shuffled) (defScope s__law_shuffled) .none kV10 dc10 pm10 an10 cd10 ct10), sl10⟩) (c10 : PySem.W.codeIn K cd10 "_law_shuffled" = true) (k10 : PySem.W.keepIn K (.ref f10) = true)
    (a11 : PySem.W.nsIn K mainGlobals "_law_drawn_assignment" = some (some (.ref f11))) (l11 : K.lookup f11 = some ⟨oc11, od11, .func (PySem.W.fnOf "_law_drawn_assignment" "_law_drawn_assignment" (defArgs s__law_drawn_assignment) (defBody s__law_drawn_assignment) (defScope s__law_drawn_assignment) .none kV11 dc11 pm11 an11 cd11 ct11), sl11⟩) (c11 : PySem.W.codeIn K cd11 "_law_drawn_assignment" = true) (k11 : PySem.W.keepIn K (.ref f11) = true)
    (a12 : PySem.W.nsIn K mainGlobals "_law_is_closed" = some (some (.ref f12))) (l12 : K.lookup f12 = some ⟨oc12, od12, .func (PySem.W.fnOf "_law_is_closed" "_law_is_closed" (defArgs s__law_is_closed) (defBody s__law_is_closed) (defScope s__law_is_closed) .none kV12 dc12 pm12 an12 cd12 ct12), sl12⟩) (c12 : PySem.W.codeIn K cd12 "_law_is_closed" = true) (k12 : PySem.W.keepIn K (.ref f12) = true)
    (a13 : PySem.W.nsIn K mainGlobals "_law_spoilt" = some (some (.ref f13))) (l13 : K.lookup f13 = some ⟨oc13, od13, .func (PySem.W.fnOf "_law_spoilt" "_law_spoilt" (defArgs s__law_spoilt) (defBody s__law_spoilt) (defScope s__law_spoilt) .none kV13 dc13 pm13 an13 cd13 ct13), sl13⟩) (c13 : PySem.W.codeIn K cd13 "_law_spoilt" = true) (k13 : PySem.W.keepIn K (.ref f13) = true)
    (a14 : PySem.W.nsIn K mainGlobals "is_assignment" = some (some (.ref f14))) (l14 : K.lookup f14 = some ⟨oc14, od14, .func (PySem.W.fnOf "is_assignment" "is_assignment" (defArgs s_is_assignment) (defBody s_is_assignment) (defScope s_is_assignment) .none kV14 dc14 pm14 an14 cd14 ct14), sl14⟩) (c14 : PySem.W.codeIn K cd14 "is_assignment" = true) (k14 : PySem.W.keepIn K (.ref f14) = true)
    (a15 : PySem.W.nsIn K mainGlobals "check_sizes" = some (some (.ref f15))) (l15 : K.lookup f15 = some ⟨oc15, od15, .func (PySem.W.fnOf "check_sizes" "check_sizes" (defArgs s_check_sizes) (defBody s_check_sizes) (defScope s_check_sizes) .none kV15 dc15 pm15 an15 cd15 ct15), sl15⟩) (c15 : PySem.W.codeIn K cd15 "check_sizes" = true) (k15 : PySem.W.keepIn K (.ref f15) = true)
    (a16 : PySem.W.nsIn K mainGlobals "_law_rule" = some (some (.ref f16))) (l16 : K.lookup f16 = some ⟨oc16, od16, .func (PySem.W.fnOf "_law_rule" "_law_rule" (defArgs s__law_rule) (defBody s__law_rule) (defScope s__law_rule) .none kV16 dc16 pm16 an16 cd16 ct16), sl16⟩) (c16 : PySem.W.codeIn K cd16 "_law_rule" = true) (k16 : PySem.W.keepIn K (.ref f16) = true)
    (a17 : PySem.W.nsIn K mainGlobals "check_assignment" = some (some (.ref f17))) (l17 : K.lookup f17 = some ⟨oc17, od17, .func (PySem.W.fnOf "check_assignment" "check_assignment" (defArgs s_check_assignment) (defBody s_check_assignment) (defScope s_check_assignment) .none kV17 dc17 pm17 an17 cd17 ct17), sl17⟩) (c17 : PySem.W.codeIn K cd17 "check_assignment" = true) (k17 : PySem.W.keepIn K (.ref f17) = true)
    (a18 : PySem.W.nsIn K mainGlobals "check_variants" = some (some (.ref f18))) (l18 : K.lookup f18 = some ⟨oc18, od18, .func (PySem.W.fnOf "check_variants" "check_variants" (defArgs s_check_variants) (defBody s_check_variants) (defScope s_check_variants) .none kV18 dc18 pm18 an18 cd18 ct18), sl18⟩) (c18 : PySem.W.codeIn K cd18 "check_variants" = true) (k18 : PySem.W.keepIn K (.ref f18) = true)
    (a19 : PySem.W.nsIn K mainGlobals "allocation_of" = some (some (.ref f19))) (l19 : K.lookup f19 = some ⟨oc19, od19, .func (PySem.W.fnOf "allocation_of" "allocation_of" (defArgs s_allocation_of) (defBody s_allocation_of) (defScope s_allocation_of) .none kV19 dc19 pm19 an19 cd19 ct19), sl19⟩) (c19 : PySem.W.codeIn K cd19 "allocation_of" = true) (k19 : PySem.W.keepIn K (.ref f19) = true)
    (a20 : PySem.W.nsIn K mainGlobals "is_pair" = some (some (.ref f20))) (l20 : K.lookup f20 = some ⟨oc20, od20, .func (PySem.W.fnOf "is_pair" "is_pair" (defArgs s_is_pair) (defBody s_is_pair) (defScope s_is_pair) .none kV20 dc20 pm20 an20 cd20 ct20), sl20⟩) (c20 : PySem.W.codeIn K cd20 "is_pair" = true) (k20 : PySem.W.keepIn K (.ref f20) = true)
    (a21 : PySem.W.nsIn K mainGlobals "are_pairs" = some (some (.ref f21))) (l21 : K.lookup f21 = some ⟨oc21, od21, .func (PySem.W.fnOf "are_pairs" "are_pairs" (defArgs s_are_pairs) (defBody s_are_pairs) (defScope s_are_pairs) .none kV21 dc21 pm21 an21 cd21 ct21), sl21⟩) (c21 : PySem.W.codeIn K cd21 "are_pairs" = true) (k21 : PySem.W.keepIn K (.ref f21) = true)
    (a22 : PySem.W.nsIn K mainGlobals "is_rule" = some (some (.ref f22))) (l22 : K.lookup f22 = some ⟨oc22, od22, .func (PySem.W.fnOf "is_rule" "is_rule" (defArgs s_is_rule) (defBody s_is_rule) (defScope s_is_rule) .none kV22 dc22 pm22 an22 cd22 ct22), sl22⟩) (c22 : PySem.W.codeIn K cd22 "is_rule" = true) (k22 : PySem.W.keepIn K (.ref f22) = true)
    (a23 : PySem.W.nsIn K mainGlobals "check_rule" = some (some (.ref f23))) (l23 : K.lookup f23 = some ⟨oc23, od23, .func (PySem.W.fnOf "check_rule" "check_rule" (defArgs s_check_rule) (defBody s_check_rule) (defScope s_check_rule) .none kV23 dc23 pm23 an23 cd23 ct23), sl23⟩) (c23 : PySem.W.codeIn K cd23 "check_rule" = true) (k23 : PySem.W.keepIn K (.ref f23) = true)
    (a24 : PySem.W.nsIn K mainGlobals "missing" = some (some (.ref f24))) (l24 : K.lookup f24 = some ⟨oc24, od24, .func (PySem.W.fnOf "missing" "missing" (defArgs s_missing) (defBody s_missing) (defScope s_missing) .none kV24 dc24 pm24 an24 cd24 ct24), sl24⟩) (c24 : PySem.W.codeIn K cd24 "missing" = true) (k24 : PySem.W.keepIn K (.ref f24) = true)
    (a25 : PySem.W.nsIn K mainGlobals "law" = some (some (.ref f25))) (l25 : K.lookup f25 = some ⟨oc25, od25, .func (PySem.W.fnOf "law" "law" (defArgs s_law) (defBody s_law) (defScope s_law) .none kV25 dc25 pm25 an25 cd25 ct25), sl25⟩) (c25 : PySem.W.codeIn K cd25 "law" = true) (k25 : PySem.W.keepIn K (.ref f25) = true)
    (z_abs : PySem.W.nsIn K mainGlobals "abs" = some none)
    (z_all : PySem.W.nsIn K mainGlobals "all" = some none)
    (z_bool : PySem.W.nsIn K mainGlobals "bool" = some none)
    (z_enumerate : PySem.W.nsIn K mainGlobals "enumerate" = some none)
    (z_int : PySem.W.nsIn K mainGlobals "int" = some none)
    (z_isinstance : PySem.W.nsIn K mainGlobals "isinstance" = some none)
    (z_len : PySem.W.nsIn K mainGlobals "len" = some none)
    (z_list : PySem.W.nsIn K mainGlobals "list" = some none)
    (z_range : PySem.W.nsIn K mainGlobals "range" = some none)
    (z_sum : PySem.W.nsIn K mainGlobals "sum" = some none)
    (z_tuple : PySem.W.nsIn K mainGlobals "tuple" = some none)
    (q_MOST_BUCKETS_allocations : PySem.W.nsIn K mainGlobals "MOST_BUCKETS_allocations" = some (some (.int 20 kt_MOST_BUCKETS_allocations)))
    (q_MOST_BUCKETS_rules : PySem.W.nsIn K mainGlobals "MOST_BUCKETS_rules" = some (some (.int 20 kt_MOST_BUCKETS_rules)))
    (q_MOST_PAIRS : PySem.W.nsIn K mainGlobals "MOST_PAIRS" = some (some (.int 20 kt_MOST_PAIRS)))
    (q_MOST_VARIANTS_allocations : PySem.W.nsIn K mainGlobals "MOST_VARIANTS_allocations" = some (some (.int 5 kt_MOST_VARIANTS_allocations)))
    (q_MOST_VARIANTS_rules : PySem.W.nsIn K mainGlobals "MOST_VARIANTS_rules" = some (some (.int 5 kt_MOST_VARIANTS_rules))) :
    ∃ fd : FuncData, (∀ (s : Shared) (v : Value), BindsTo s fd ⟨[v], []⟩ [("_law_script", v)]) ∧ ∀ base : Heap, K.In base → base.Ns mainGlobals mg → FnOk l.prog w K mg base CX0 10 fa fd ["_law_script"] (spD K cl0 6 1 f_law) := by
  have e := hfa.symm.trans (PySem.W.mg_of X G a25)
  cases e
  let T : Txt K mg := ⟨PySem.W.mg_none_of X G z_abs,
    PySem.W.mg_none_of X G z_all,
    PySem.W.mg_none_of X G z_bool,
    PySem.W.mg_none_of X G z_enumerate,
    PySem.W.mg_none_of X G z_int,
    PySem.W.mg_none_of X G z_isinstance,
    PySem.W.mg_none_of X G z_len,
    PySem.W.mg_none_of X G z_list,
    PySem.W.mg_none_of X G z_range,
    PySem.W.mg_none_of X G z_sum,
    PySem.W.mg_none_of X G z_tuple,
    .int (PySem.W.mg_of X G q_MOST_BUCKETS_allocations),
    .int (PySem.W.mg_of X G q_MOST_BUCKETS_rules),
    .int (PySem.W.mg_of X G q_MOST_PAIRS),
    .int (PySem.W.mg_of X G q_MOST_VARIANTS_allocations),
    .int (PySem.W.mg_of X G q_MOST_VARIANTS_rules),
    f0, _, fun_mk (st := s_is_whole) l0 c0 k0, PySem.W.mg_of X G a0, (fun_mk (st := s_is_whole) l0 c0 k0).binds fun _ _ _ _ _ _ us hl => match us, hl with | [_], _ => rfl,
    f1, _, fun_mk (st := s_counts_of) l1 c1 k1, PySem.W.mg_of X G a1, (fun_mk (st := s_counts_of) l1 c1 k1).binds fun _ _ _ _ _ _ us hl => match us, hl with | [_, _], _ => rfl,
    f2, _, fun_mk (st := s_given_back) l2 c2 k2, PySem.W.mg_of X G a2, (fun_mk (st := s_given_back) l2 c2 k2).binds fun _ _ _ _ _ _ us hl => match us, hl with | [_, _], _ => rfl,
    f3, _, fun_mk (st := s__law_stream) l3 c3 k3, PySem.W.mg_of X G a3, (fun_mk (st := s__law_stream) l3 c3 k3).binds fun _ _ _ _ _ _ us hl => match us, hl with | [_], _ => rfl,
    f4, _, fun_mk (st := s__law_next) l4 c4 k4, PySem.W.mg_of X G a4, (fun_mk (st := s__law_next) l4 c4 k4).binds fun _ _ _ _ _ _ us hl => match us, hl with | [_, _], _ => rfl,
    f5, _, fun_mk (st := s__law_allocations) l5 c5 k5, PySem.W.mg_of X G a5, (fun_mk (st := s__law_allocations) l5 c5 k5).binds fun _ _ _ _ _ _ us hl => match us, hl with | [_, _], _ => rfl,
    f6, _, fun_mk (st := s__law_by_lists) l6 c6 k6, PySem.W.mg_of X G a6, (fun_mk (st := s__law_by_lists) l6 c6 k6).binds fun _ _ _ _ _ _ us hl => match us, hl with | [_, _, _], _ => rfl,
    f7, _, fun_mk (st := s__law_first_missing) l7 c7 k7, PySem.W.mg_of X G a7, (fun_mk (st := s__law_first_missing) l7 c7 k7).binds fun _ _ _ _ _ _ us hl => match us, hl with | [_, _], _ => rfl,
    f8, _, fun_mk (st := s_is_between) l8 c8 k8, PySem.W.mg_of X G a8, (fun_mk (st := s_is_between) l8 c8 k8).binds fun _ _ _ _ _ _ us hl => match us, hl with | [_, _, _], _ => rfl,
    f9, _, fun_mk (st := s_is_allocation) l9 c9 k9, PySem.W.mg_of X G a9, (fun_mk (st := s_is_allocation) l9 c9 k9).binds fun _ _ _ _ _ _ us hl => match us, hl with | [_, _, _], _ => rfl,
    f10, _, fun_mk (st := s__law_shuffled) l10 c10 k10, PySem.W.mg_of X G a10, (fun_mk (st := s__law_shuffled) l10 c10 k10).binds fun _ _ _ _ _ _ us hl => match us, hl with | [_, _], _ => rfl,
    f11, _, fun_mk (st := s__law_drawn_assignment) l11 c11 k11, PySem.W.mg_of X G a11, (fun_mk (st := s__law_drawn_assignment) l11 c11 k11).binds fun _ _ _ _ _ _ us hl => match us, hl with | [_, _, _], _ => rfl,
    f12, _, fun_mk (st := s__law_is_closed) l12 c12 k12, PySem.W.mg_of X G a12, (fun_mk (st := s__law_is_closed) l12 c12 k12).binds fun _ _ _ _ _ _ us hl => match us, hl with | [_, _, _], _ => rfl,
    f13, _, fun_mk (st := s__law_spoilt) l13 c13 k13, PySem.W.mg_of X G a13, (fun_mk (st := s__law_spoilt) l13 c13 k13).binds fun _ _ _ _ _ _ us hl => match us, hl with | [_, _, _, _], _ => rfl,
    f14, _, fun_mk (st := s_is_assignment) l14 c14 k14, PySem.W.mg_of X G a14, (fun_mk (st := s_is_assignment) l14 c14 k14).binds fun _ _ _ _ _ _ us hl => match us, hl with | [_, _, _], _ => rfl,
    f15, _, fun_mk (st := s_check_sizes) l15 c15 k15, PySem.W.mg_of X G a15, (fun_mk (st := s_check_sizes) l15 c15 k15).binds fun _ _ _ _ _ _ us hl => match us, hl with | [_, _], _ => rfl,
    f16, _, fun_mk (st := s__law_rule) l16 c16 k16, PySem.W.mg_of X G a16, (fun_mk (st := s__law_rule) l16 c16 k16).binds fun _ _ _ _ _ _ us hl => match us, hl with | [_, _, _, _], _ => rfl,
    f17, _, fun_mk (st := s_check_assignment) l17 c17 k17, PySem.W.mg_of X G a17, (fun_mk (st := s_check_assignment) l17 c17 k17).binds fun _ _ _ _ _ _ us hl => match us, hl with | [_, _, _], _ => rfl,
    f18, _, fun_mk (st := s_check_variants) l18 c18 k18, PySem.W.mg_of X G a18, (fun_mk (st := s_check_variants) l18 c18 k18).binds fun _ _ _ _ _ _ us hl => match us, hl with | [_, _], _ => rfl,
    f19, _, fun_mk (st := s_allocation_of) l19 c19 k19, PySem.W.mg_of X G a19, (fun_mk (st := s_allocation_of) l19 c19 k19).binds fun _ _ _ _ _ _ us hl => match us, hl with | [_, _], _ => rfl,
    f20, _, fun_mk (st := s_is_pair) l20 c20 k20, PySem.W.mg_of X G a20, (fun_mk (st := s_is_pair) l20 c20 k20).binds fun _ _ _ _ _ _ us hl => match us, hl with | [_, _, _], _ => rfl,
    f21, _, fun_mk (st := s_are_pairs) l21 c21 k21, PySem.W.mg_of X G a21, (fun_mk (st := s_are_pairs) l21 c21 k21).binds fun _ _ _ _ _ _ us hl => match us, hl with | [_, _, _], _ => rfl,
    f22, _, fun_mk (st := s_is_rule) l22 c22 k22, PySem.W.mg_of X G a22, (fun_mk (st := s_is_rule) l22 c22 k22).binds fun _ _ _ _ _ _ us hl => match us, hl with | [_, _, _], _ => rfl,
    f23, _, fun_mk (st := s_check_rule) l23 c23 k23, PySem.W.mg_of X G a23, (fun_mk (st := s_check_rule) l23 c23 k23).binds fun _ _ _ _ _ _ us hl => match us, hl with | [_, _, _], _ => rfl,
    f24, _, fun_mk (st := s_missing) l24 c24 k24, PySem.W.mg_of X G a24, (fun_mk (st := s_missing) l24 c24 k24).binds fun _ _ _ _ _ _ us hl => match us, hl with | [_, _, _], _ => rfl,
    fa, _, fun_mk (st := s_law) l25 c25 k25, PySem.W.mg_of X G a25, (fun_mk (st := s_law) l25 c25 k25).binds fun _ _ _ _ _ _ us hl => match us, hl with | [_], _ => rfl⟩
  exact ⟨T.d_law, fun s v => .of_eq rfl, fun base _ _ => ok_law T⟩
end Lk53
open PySem PySem.W PyProof.Rows
set_option maxHeartbeats 0 in
theorem PySem.Challenge.cw_leastmoved_k53_rules_and_closed_rules_holds : PySem.Challenge.rw_leastmoved_k53_rules_and_closed_rules.Holds := by
  w_on; o_law; k_head; (case hw => w_witness2)
  k_fill
  refine L2.walk_ofK (l := PySem.Challenge.rw_leastmoved_k53_rules_and_closed_rules) (n := 63) (k := 10) (x := "_law_script") (CX := L2.CX0) (sp := fun K => DL.spD K Lk53.cl0 6 1 Lk53.f_law) rfl (by decide) rfl ⟨rfl, by decide, by decide⟩ (fun w h Y => PySem.W.kIn_of Y) ?F (fun K H a ns hl _ hS => DL.law_sp (fun ns h => Lk53.law_true ns h) hl hS) (fun _ _ _ _ h => h)
  case F =>
    intro w mg fa h KX G hmg
    refine' Lk53.all_mk KX G hmg ?a0 ?l0 ?c0 ?k0 ?a1 ?l1 ?c1 ?k1 ?a2 ?l2 ?c2 ?k2 ?a3 ?l3 ?c3 ?k3 ?a4 ?l4 ?c4 ?k4 ?a5 ?l5 ?c5 ?k5 ?a6 ?l6 ?c6 ?k6 ?a7 ?l7 ?c7 ?k7 ?a8 ?l8 ?c8 ?k8 ?a9 ?l9 ?c9 ?k9 ?a10 ?l10 ?c10 ?k10 ?a11 ?l11 ?c11 ?k11 ?a12 ?l12 ?c12 ?k12 ?a13 ?l13 ?c13 ?k13 ?a14 ?l14 ?c14 ?k14 ?a15 ?l15 ?c15 ?k15 ?a16 ?l16 ?c16 ?k16 ?a17 ?l17 ?c17 ?k17 ?a18 ?l18 ?c18 ?k18 ?a19 ?l19 ?c19 ?k19 ?a20 ?l20 ?c20 ?k20 ?a21 ?l21 ?c21 ?k21 ?a22 ?l22 ?c22 ?k22 ?a23 ?l23 ?c23 ?k23 ?a24 ?l24 ?c24 ?k24 ?a25 ?l25 ?c25 ?k25 ?z_abs ?z_all ?z_bool ?z_enumerate ?z_int ?z_isinstance ?z_len ?z_list ?z_range ?z_sum ?z_tuple ?q_MOST_BUCKETS_allocations ?q_MOST_BUCKETS_rules ?q_MOST_PAIRS ?q_MOST_VARIANTS_allocations ?q_MOST_VARIANTS_rules
    (case a0 => k_is)
    (case l0 => k_is)
    (case c0 => k_is)
    (case k0 => k_is)
    (case a1 => k_is)
    (case l1 => k_is)
    (case c1 => k_is)
    (case k1 => k_is)
    (case a2 => k_is)
    (case l2 => k_is)
    (case c2 => k_is)
    (case k2 => k_is)
    (case a3 => k_is)
    (case l3 => k_is)
    (case c3 => k_is)
    (case k3 => k_is)
    (case a4 => k_is)
    (case l4 => k_is)
    (case c4 => k_is)
    (case k4 => k_is)
    (case a5 => k_is)
    (case l5 => k_is)
    (case c5 => k_is)
    (case k5 => k_is)
    (case a6 => k_is)
    (case l6 => k_is)
    (case c6 => k_is)
    (case k6 => k_is)
    (case a7 => k_is)
    (case l7 => k_is)
    (case c7 => k_is)
    (case k7 => k_is)
    (case a8 => k_is)
    (case l8 => k_is)
    (case c8 => k_is)
    (case k8 => k_is)
    (case a9 => k_is)
    (case l9 => k_is)
    (case c9 => k_is)
    (case k9 => k_is)
    (case a10 => k_is)
    (case l10 => k_is)
    (case c10 => k_is)
    (case k10 => k_is)
    (case a11 => k_is)
    (case l11 => k_is)
    (case c11 => k_is)
    (case k11 => k_is)
    (case a12 => k_is)
    (case l12 => k_is)
    (case c12 => k_is)
    (case k12 => k_is)
    (case a13 => k_is)
    (case l13 => k_is)
    (case c13 => k_is)
    (case k13 => k_is)
    (case a14 => k_is)
    (case l14 => k_is)
    (case c14 => k_is)
    (case k14 => k_is)
    (case a15 => k_is)
    (case l15 => k_is)
    (case c15 => k_is)
    (case k15 => k_is)
    (case a16 => k_is)
    (case l16 => k_is)
    (case c16 => k_is)
    (case k16 => k_is)
    (case a17 => k_is)
    (case l17 => k_is)
    (case c17 => k_is)
    (case k17 => k_is)
    (case a18 => k_is)
    (case l18 => k_is)
    (case c18 => k_is)
    (case k18 => k_is)
    (case a19 => k_is)
    (case l19 => k_is)
    (case c19 => k_is)
    (case k19 => k_is)
    (case a20 => k_is)
    (case l20 => k_is)
    (case c20 => k_is)
    (case k20 => k_is)
    (case a21 => k_is)
    (case l21 => k_is)
    (case c21 => k_is)
    (case k21 => k_is)
    (case a22 => k_is)
    (case l22 => k_is)
    (case c22 => k_is)
    (case k22 => k_is)
    (case a23 => k_is)
    (case l23 => k_is)
    (case c23 => k_is)
    (case k23 => k_is)
    (case a24 => k_is)
    (case l24 => k_is)
    (case c24 => k_is)
    (case k24 => k_is)
    (case a25 => k_is)
    (case l25 => k_is)
    (case c25 => k_is)
    (case k25 => k_is)
    (case z_abs => k_is)
    (case z_all => k_is)
    (case z_bool => k_is)
    (case z_enumerate => k_is)
    (case z_int => k_is)
    (case z_isinstance => k_is)
    (case z_len => k_is)
    (case z_list => k_is)
    (case z_range => k_is)
    (case z_sum => k_is)
    (case z_tuple => k_is)
    (case q_MOST_BUCKETS_allocations => k_is)
    (case q_MOST_BUCKETS_rules => k_is)
    (case q_MOST_PAIRS => k_is)
    (case q_MOST_VARIANTS_allocations => k_is)
    (case q_MOST_VARIANTS_rules => k_is)


