import PyProof.Rows.All
import Wide.All
import OpenK.AllK
import Wide.FinOn
import HandS.ForMost
import HandS.Walk
import HandS.TupAny
import HandS.TupMul
import HandS.IsInst
import HandS.SortInts
import HandS.Deep
import HandS.Zip
import HandS.Conv
import HandS.SetFor
import HandS.Flow
import HandS.Exc
import HandS.WordsExc
import HandS.EndBits
import HandS.TryOnly
import KE.KDictKeyed
import HandS.Style
import HandS.TupSets
import HandS.Strs
import KE.GoesMore
import KE.KDictZip
import HandS.Star
import HandS.TupLen
import HandS.DictComp
import HandS.Dict
import HandS.WordsDict
import HandS.Iter
import PyProof.ZipIter
import HandS.ListItems
import KE.SortUse
import HandS.SortKw
import HandS.Gcd
import KE.KMathG
import KE.KMathGC
import HandS.Wide
import KE.DatumOrd
import PyProof.EqKinds
import HandS.SortRule
import PySem.Challenge.RW_leastmoved_k48_whole_calm_histories
set_option Elab.async false
set_option linter.all false
set_option maxRecDepth 100000
namespace DLT
open PySem PySem.Spec PyProof.Rows L2 RZ
section
variable {X : Cx}
/-- a new tuple's object -/
def tob (us : Array Value) : Obj := { cls := .type "tuple", data := .seq us }
theorem tob_ok {P : Program} {w : World} {H : Hp} {h : Heap} {xs : List V} {us : List Value} (hz : xs.length ≤ sizeLine) (r : Vals xs us) : ObjOk P w H (h.push (tob us.toArray)) h.objs.size (.frz (tob us.toArray) (.tup xs)) :=
  ⟨Heap.get?_push_size _ rfl, hz, us, r, IsTup.new _ _⟩
/-- a written tuple -/
def zTup (t : TA) : TE := fun σ H Q => t σ H fun xs H1 => xs.length ≤ sizeLine ∧ ∀ zo p, zo.dict = none → H1 p = none → Q (.ref p) (upd H1 p (.frz zo (.tup xs)))
theorem pe_tupZ {es : List Expr} {t : TA} {x1} {pos : Pos} (h : PA X es t) : PE X (.Tuple es x1 pos) (zTup t) := by
  refine ⟨fun pps sh σ H Q I hq => ?_⟩
  refine wpAny_Tuple_spliced (thn (h.run pos pps sh σ H _ I hq) fun us s1 ⟨xs, H1, J, r, z, y⟩ => ⟨by rw [← r.length]; exact z, ?_⟩)
  exact ⟨.ref s1.heap.objs.size, _, J.laid (t' := s1.toks) (o := .frz (tob us.toArray) (.tup xs)) (fun b u e => Heap.get?_push_of_some _ e) (Nat.le_refl _) (tob_ok z r), rfl, y _ _ rfl (J.hok.fresh (Nat.le_refl _))⟩
/-- tuple(x) of a list, of a tuple -/
def zTupOf (K : PySem.W.Frag) : List V → Hp → VK → Prop := fun xs H Q => ∃ p ys, xs = [.ref p] ∧ ((SqL K H p ys ∧ ∀ zo l, zo.dict = none → H l = none → Q (.ref l) (upd H l (.frz zo (.tup ys)))) ∨ (SqT K H p ys ∧ Q (.ref p) H))
theorem call_tupZ : CallR X (.type "tuple") (zTupOf X.K) := by
  intro pps sh σ H xs us Q I r h
  obtain ⟨p, ys, rfl, h⟩ := h
  obtain ⟨u, rfl, rx⟩ := vals1 r
  cases rx
  rcases h with ⟨lq, y⟩ | ⟨lq, y⟩
  · obtain ⟨jts, r', pl, gz⟩ := I.list lq
    have lz := r'.length
    refine call_tuple_list pl.isList (fun h' kp => ?_) (by simp only [List.size_toArray] <;> omega)
    have J : Inv X pps σ H { sh with heap := h' } := I.kept (t' := sh.toks) kp
    have J2 : Inv X pps σ (upd H h'.objs.size (.frz (tob jts.toArray) (.tup ys))) { sh with heap := h'.push (tob jts.toArray) } :=
      J.laid (t' := sh.toks) (fun b o e => Heap.get?_push_of_some _ e) (Nat.le_refl _) (tob_ok gz r')
    exact ⟨.ref h'.objs.size, _, J2, rfl, y _ _ rfl (J.hok.fresh (Nat.le_refl _))⟩
  · obtain ⟨jts, r', pl, gz⟩ := I.tuple lq
    exact call_tuple_same pl ⟨.ref p, H, I, rfl, y⟩
/-- t + u -/
def zCat (K : PySem.W.Frag) : R2 := fun x y H Q => ∃ a b xs ys, x = .ref a ∧ y = .ref b ∧ SqT K H a xs ∧ SqT K H b ys ∧ xs.length + ys.length ≤ sizeLine ∧
  (xs = [] → Q (.ref b) H) ∧ (xs ≠ [] → ys = [] → Q (.ref a) H) ∧ (xs ≠ [] → ys ≠ [] → ∀ zo p, zo.dict = none → H p = none → Q (.ref p) (upd H p (.frz zo (.tup (xs ++ ys)))))
theorem op_catZ : OpR X (binaryOp .Add) (zCat X.K) := by
  intro pps sh σ H x y v u Q I rx ry h
  obtain ⟨a, b, xs, ys, rfl, rfl, la, lb, gz, q0, q1, q2⟩ := h
  cases rx
  cases ry
  obtain ⟨jts, r1, p1, _⟩ := I.tuple la
  obtain ⟨jts2, r2, p2, _⟩ := I.tuple lb
  by_cases gx : xs = []
  · subst gx
    cases r1
    exact cat_tup0 p1 p2 ⟨.ref b, H, I, rfl, q0 rfl⟩
  · refine HT.cat_tup p1 p2 (fun z => gx (r1.nil_iff.mp z)) (fun z => ⟨.ref a, H, I, rfl, q1 gx (r2.nil_iff.mp z)⟩) (fun z => ?_) (by rw [← r1.length, ← r2.length]; exact gz)
    exact ⟨.ref sh.heap.objs.size, _, I.laid (t' := sh.toks) (o := .frz (tob _) (.tup (xs ++ ys))) (fun b ob y => Heap.get?_push_of_some _ y) (Nat.le_refl _) (tob_ok (by rw [List.length_append]; exact gz) (r1.append r2)), rfl,
      q2 gx (fun w => z (r2.nil_iff.mpr w)) _ _ rfl (I.hok.fresh (Nat.le_refl _))⟩
/-- t[lo:hi] -/
def zSl (K : PySem.W.Frag) : V → Option Int → Option Int → Hp → VK → Prop := fun x lo hi H Q => ∃ a xs, x = .ref a ∧ SqT K H a xs ∧
  (HT.sIx xs.length 0 lo = 0 ∧ HT.sIx xs.length xs.length hi = xs.length → Q (.ref a) H) ∧ (¬ (HT.sIx xs.length 0 lo = 0 ∧ HT.sIx xs.length xs.length hi = xs.length) → ∀ zo p, zo.dict = none → H p = none → Q (.ref p) (upd H p (.frz zo (.tup (cutV xs lo hi)))))
theorem sl_tupZ : SlR X (zSl X.K) := by
  intro pps sh σ H x v vl vu lo hi sl Q I rx ns pl pu h
  obtain ⟨a, xs, rfl, lx, q1, q2⟩ := h
  cases rx
  obtain ⟨jts, r, ht, gz⟩ := I.tuple lx
  have lz : jts.toArray.size = xs.length := by rw [List.size_toArray]; exact r.length.symm
  refine ⟨"tuple", _, PyProof.Rows.slot_tuple_getitem.lookup, ht.typeIs, ?_⟩
  by_cases hw : HT.sIx xs.length 0 lo = 0 ∧ HT.sIx xs.length xs.length hi = xs.length
  · exact getItem_tuple_whole ht ns pl pu (by rw [lz]; exact hw) ⟨.ref a, H, I, rfl, q1 hw⟩
  · refine HT.getItem_tuple_cut ht ns pl pu (by rw [lz]; exact hw) ?_ (by rw [lz]; exact gz)
    rw [lz]
    exact ⟨.ref sh.heap.objs.size, _, I.laid (t' := sh.toks) (o := .frz (tob _) (.tup (cutV xs lo hi))) (fun b ob y => Heap.get?_push_of_some _ y) (Nat.le_refl _) (tob_ok (Nat.le_trans (cutV_length xs lo hi) gz) ((r.drop (HT.sIx xs.length 0 lo)).take (HT.sIx xs.length xs.length hi - HT.sIx xs.length 0 lo))), rfl,
      q2 hw _ _ rfl (I.hok.fresh (Nat.le_refl _))⟩
end
def IteZ (K : PySem.W.Frag) (a : Addr) : It :=
  ⟨fun ix H => ∃ (xs : List V) (x : V), SqL K H a xs ∧ xs[ix]? = some x, fun ix H v H' => ∃ T x zo, v = .ref T ∧ H T = none ∧ H' = upd H T (.frz zo (.tup [.int (ix : Nat), x])) ∧ zo.dict = none ∧ ∀ xs, SqL K H a xs → xs[ix]? = some x, fun ix H => ∃ xs : List V, SqL K H a xs ∧ xs.length ≤ ix⟩
theorem turn_enumZ {P : Program} {w : World} {K : PySem.W.Frag} {elts : List Expr} {kk : Nat} {tpos : Pos} (a e it : Addr) :
    Turn P w K (.Tuple elts kk tpos) (IteZ K a) [e, it] e (fun ix h => (∃ old, IsEnum h e it ((ix : Nat) : Int) old) ∧ h.IsListIter it a ix ∧ e ≠ it) where
  mem := by simp
  obj := fun ix h sta b nb => by
    obtain ⟨⟨old, he⟩, ⟨o, ho, cc, hd⟩, _⟩ := sta
    have ee : b = e ∨ b = it := by simpa using nb
    rcases ee with z | z
    · rw [z]; exact ⟨_, he, fun v qq => nomatch qq⟩
    · rw [z]; exact ⟨o, ho, fun v qq => by rw [hd] at qq; cases qq⟩
  keep := fun ix h h' sta k => let ⟨⟨old, he⟩, hi, hne⟩ := sta; ⟨⟨old, k e (by simp) _ he⟩, hi.at fun o qq => k it (by simp) o qq, hne⟩
  item := by
    intro X hP hw hK cc ix pps sh σ H EE I fo sta yg
    subst hP hw hK
    obtain ⟨⟨old, he⟩, hit, hne⟩ := sta
    obtain ⟨xs, x, lq, gx⟩ := yg
    obtain ⟨jts, sv, pl1, gz⟩ := I.list lq
    obtain ⟨u, hu, ru⟩ := sv.get gx
    have lel : e < sh.heap.objs.size := Heap.lt_size he
    have lil : it < sh.heap.objs.size := by obtain ⟨_, qq, _⟩ := hit; exact Heap.lt_size qq
    refine wpAny_pyNext_enum_item he hit pl1.isList (x := u) (by simpa using hu) hne fun h' ho hit' hT hsz hk => ?_
    refine ⟨_, rfl, wpAny_letOwnedTupleGo_enum (s := { sh with heap := h', toks := sh.toks + 1 }) ho fun h'' he' sb => ?_⟩
    have tT2 : h''.get? sh.heap.objs.size = some { cls := .type "tuple", data := .seq #[.int ix sh.toks, u] } := (sb.2 _ (Nat.ne_of_gt lel)).trans hT
    have neu : ObjOk X.prog X.w (upd H sh.heap.objs.size (.frz { cls := .type "tuple", data := .seq #[.int ix sh.toks, u] } (.tup [.int (ix : Nat), x]))) h'' sh.heap.objs.size (.frz { cls := .type "tuple", data := .seq #[.int ix sh.toks, u] } (.tup [.int (ix : Nat), x])) :=
      ⟨tT2, by show 2 ≤ sizeLine; decide, [.int ix sh.toks, u], .cons ⟨_, rfl⟩ (.cons ru .nil), ⟨_, tT2, rfl, _, rfl⟩⟩
    have I1 : Inv X pps σ (upd H sh.heap.objs.size (.frz { cls := .type "tuple", data := .seq #[.int ix sh.toks, u] } (.tup [.int (ix : Nat), x]))) { sh with heap := h'', toks := sh.toks + 1 } :=
      I.turnedNew (ch := [e, it]) (fun b ob nb qq => (sb.2 b (fun z => nb (by simp [z]))).trans (hk b ob (fun z => nb (by simp [z])) (fun z => nb (by simp [z])) qq)) fo (Nat.le_refl _) neu
    refine ⟨.ref sh.heap.objs.size, _, I1, rfl, ⟨_, x, _, rfl, I.hok.fresh (Nat.le_refl _), rfl, rfl, fun ys hy => by rw [I.list_inj hy lq]; exact gx⟩, ⟨⟨u, ?_⟩, hit'.at fun o qq => (sb.2 it (Ne.symm hne)).trans qq, hne⟩, fun b nb => ?_⟩
    · have e1 : ((ix + 1 : Nat) : Int) = (ix : Int) + 1 := by omega
      rw [e1]; exact he'
    · have hb' : b < sh.heap.objs.size := by
        have ee : b = e ∨ b = it := by simpa using nb
        rcases ee with z | z
        · rw [z]; exact lel
        · rw [z]; exact lil
      rw [upd_ne (Nat.ne_of_lt hb')]
      exact (fo b nb).1
  done := by
    intro X hP hw hK cc ix pps sh σ H EE I fo sta yg
    subst hP hw hK
    obtain ⟨⟨old, he⟩, hit, hne⟩ := sta
    obtain ⟨xs, lq, gx⟩ := yg
    obtain ⟨jts, sv, pl1, gz⟩ := I.list lq
    obtain ⟨f0, f1, f2, f3, f4, f5⟩ := fo it (by simp)
    have hl := sv.length
    exact wpAny_pyNext_enum_end (I.ok.hd cc) he hit pl1.isList (by simp; omega) fun h' eb => ⟨rfl, I.turned (t' := sh.toks) (fun b o nb qq => eb b o nb qq) f0 f1 f3 f4 f5⟩
  self := fun A ix sh Q EE sta h => let ⟨⟨_, he⟩, _⟩ := sta; wpAny_pyIter_enum he h
def ItzZ (K : PySem.W.Frag) (a b : Addr) : It :=
  ⟨fun ix H => ∃ (xs ys : List V) (x y : V), SqL K H a xs ∧ SqL K H b ys ∧ xs[ix]? = some x ∧ ys[ix]? = some y,
    fun ix H v H' => ∃ T x y zo, v = .ref T ∧ H T = none ∧ H' = upd H T (.frz zo (.tup [x, y])) ∧ zo.dict = none ∧ (∀ xs, SqL K H a xs → xs[ix]? = some x) ∧ ∀ ys, SqL K H b ys → ys[ix]? = some y,
    fun ix H => ∃ xs ys : List V, SqL K H a xs ∧ SqL K H b ys ∧ (xs.length ≤ ix ∨ ys.length ≤ ix)⟩
theorem turn_zipZ {P : Program} {w : World} {K : PySem.W.Frag} {elts : List Expr} {kk : Nat} {tpos : Pos} {a b z TI TO i1 i2 : Addr} (D : ZipApart z TI TO i1 i2 a b) :
    Turn P w K (.Tuple elts kk tpos) (ItzZ K a b) [z, TI, TO, i1, i2] z (fun ix h => IsZip h z TI TO .none ∧ IsPair h TI (.ref i1) (.ref i2) ∧ (∃ x y, IsPair h TO x y) ∧ h.IsListIter i1 a ix ∧ h.IsListIter i2 b ix) where
  mem := by simp
  obj := fun ix h sta c cc => by
    obtain ⟨gz, gTI, ⟨x, y, gTO⟩, ⟨o1, e1, _, d1⟩, ⟨o2, e2, _, d2⟩⟩ := sta
    have ee : c = z ∨ c = TI ∨ c = TO ∨ c = i1 ∨ c = i2 := by simpa using cc
    rcases ee with qq | qq | qq | qq | qq
    · rw [qq]; exact ⟨_, gz, fun v qq => nomatch qq⟩
    · rw [qq]; exact ⟨_, gTI, fun v qq => nomatch qq⟩
    · rw [qq]; exact ⟨_, gTO, fun v qq => nomatch qq⟩
    · rw [qq]; exact ⟨o1, e1, fun v qq => by rw [d1] at qq; cases qq⟩
    · rw [qq]; exact ⟨o2, e2, fun v qq => by rw [d2] at qq; cases qq⟩
  keep := fun ix h h' sta k => by
    obtain ⟨gz, gTI, ⟨x, y, gTO⟩, g1, g2⟩ := sta
    exact ⟨k z (by simp) _ gz, k TI (by simp) _ gTI, ⟨x, y, k TO (by simp) _ gTO⟩, g1.at fun o qq => k i1 (by simp) o qq, g2.at fun o qq => k i2 (by simp) o qq⟩
  item := by
    intro X hP hw hK cc ix pps sh σ H EE I fo sta yg
    subst hP hw hK
    obtain ⟨gz, gTI, ⟨x0, y0, gTO⟩, g1, g2⟩ := sta
    obtain ⟨xs, ys, x, y, lqx, lqy, gx, hy⟩ := yg
    obtain ⟨jts, sv, pl1, _⟩ := I.list lqx
    obtain ⟨jts2, sv2, p2, _⟩ := I.list lqy
    obtain ⟨u, hu, ru⟩ := sv.get gx
    obtain ⟨u2, hu2, ru2⟩ := sv2.get hy
    have hzl : z < sh.heap.objs.size := Heap.lt_size gz
    refine wpAny_pyNext_zip_item D gz gTI gTO g1 g2 pl1.isList p2.isList (x := u) (y := u2) (by simpa using hu) (by simpa using hu2) fun h' z' TO' h1' h2' hT hsz hk => ?_
    refine ⟨_, rfl, wpAny_letOwnedTupleGo_zip (s := { sh with heap := h' }) z' fun h'' z'' sb => ?_⟩
    have tT2 : h''.get? sh.heap.objs.size = some { cls := .type "tuple", data := .seq #[u, u2] } := (sb.2 _ (Nat.ne_of_gt hzl)).trans hT
    have neu : ObjOk X.prog X.w (upd H sh.heap.objs.size (.frz { cls := .type "tuple", data := .seq #[u, u2] } (.tup [x, y]))) h'' sh.heap.objs.size (.frz { cls := .type "tuple", data := .seq #[u, u2] } (.tup [x, y])) :=
      ⟨tT2, by show 2 ≤ sizeLine; decide, [u, u2], .cons ru (.cons ru2 .nil), ⟨_, tT2, rfl, _, rfl⟩⟩
    have I1 : Inv X pps σ (upd H sh.heap.objs.size (.frz { cls := .type "tuple", data := .seq #[u, u2] } (.tup [x, y]))) { sh with heap := h'' } :=
      I.turnedNew (t' := sh.toks) (ch := [z, TI, TO, i1, i2]) (fun c o nb qq => (sb.2 c (fun q' => nb (by simp [q']))).trans (hk c o (fun q' => nb (by simp [q'])) (fun q' => nb (by simp [q'])) (fun q' => nb (by simp [q'])) (fun q' => nb (by simp [q'])) qq)) fo (Nat.le_refl _) neu
    refine ⟨.ref sh.heap.objs.size, _, I1, rfl, ⟨_, x, y, _, rfl, I.hok.fresh (Nat.le_refl _), rfl, rfl, fun l hl => by rw [I.list_inj hl lqx]; exact gx, fun l hl => by rw [I.list_inj hl lqy]; exact hy⟩, ⟨z'', ?_, ⟨u, u2, ?_⟩, ?_, ?_⟩, fun c hcm => ?_⟩
    · exact (sb.2 _ D.TIz).trans (hk _ _ D.TIz D.TITO D.TIi1 D.TIi2 gTI)
    · exact (sb.2 _ D.TOz).trans TO'
    · exact h1'.at fun o qq => (sb.2 _ D.i1z).trans qq
    · exact h2'.at fun o qq => (sb.2 _ D.i2z).trans qq
    · have ltc : c < sh.heap.objs.size := by
        have ee : c = z ∨ c = TI ∨ c = TO ∨ c = i1 ∨ c = i2 := by simpa using hcm
        rcases ee with qq | qq | qq | qq | qq
        · rw [qq]; exact hzl
        · rw [qq]; exact Heap.lt_size gTI
        · rw [qq]; exact Heap.lt_size gTO
        · rw [qq]; obtain ⟨_, e1, _⟩ := g1; exact Heap.lt_size e1
        · rw [qq]; obtain ⟨_, e2, _⟩ := g2; exact Heap.lt_size e2
      rw [upd_ne (Nat.ne_of_lt ltc)]
      exact (fo c hcm).1
  done := by
    intro X hP hw hK cc ix pps sh σ H EE I fo sta yg
    subst hP hw hK
    obtain ⟨gz, gTI, ⟨x0, y0, gTO⟩, g1, g2⟩ := sta
    obtain ⟨xs, ys, lqx, lqy, hend⟩ := yg
    obtain ⟨jts, sv, pl1, _⟩ := I.list lqx
    obtain ⟨jts2, sv2, p2, _⟩ := I.list lqy
    have l1 := sv.length
    have l2 := sv2.length
    have he : jts.toArray[ix]? = none ∨ jts2.toArray[ix]? = none := by
      rcases hend with qq | qq
      · exact .inl (by simp; omega)
      · exact .inr (by simp; omega)
    exact wpAny_pyNext_zip_end (I.ok.hd cc) D gz gTI gTO g1 g2 pl1.isList p2.isList he fun h' hk => ⟨rfl, I.turnedL (t' := sh.toks) (ch := [z, TI, TO, i1, i2]) (fun c o nb qq =>
      hk c o (fun q' => nb (by simp [q'])) (fun q' => nb (by simp [q'])) (fun q' => nb (by simp [q'])) (fun q' => nb (by simp [q'])) qq) fo⟩
  self := fun A ix sh Q EE sta h => wpAny_pyIter_zip sta.1 h
def ItzTZ (K : PySem.W.Frag) (a b : Addr) : It :=
  ⟨fun ix H => ∃ (xs ys : List V) (x y : V), SqT K H a xs ∧ SqT K H b ys ∧ xs[ix]? = some x ∧ ys[ix]? = some y,
    fun ix H v H' => ∃ T x y zo, v = .ref T ∧ H T = none ∧ H' = upd H T (.frz zo (.tup [x, y])) ∧ zo.dict = none ∧ (∀ xs, SqT K H a xs → xs[ix]? = some x) ∧ ∀ ys, SqT K H b ys → ys[ix]? = some y,
    fun ix H => ∃ xs ys : List V, SqT K H a xs ∧ SqT K H b ys ∧ (xs.length ≤ ix ∨ ys.length ≤ ix)⟩
theorem turn_zipTZ {P : Program} {w : World} {K : PySem.W.Frag} {elts : List Expr} {kk : Nat} {tpos : Pos} {a b z TI TO i1 i2 : Addr} (D : ZipApart z TI TO i1 i2 a b) :
    Turn P w K (.Tuple elts kk tpos) (ItzTZ K a b) [z, TI, TO, i1, i2] z (fun ix h => IsZip h z TI TO .none ∧ IsPair h TI (.ref i1) (.ref i2) ∧ (∃ x y, IsPair h TO x y) ∧ h.IsTupleIter i1 a ix ∧ h.IsTupleIter i2 b ix) where
  mem := by simp
  obj := fun ix h sta c cc => by
    obtain ⟨gz, gTI, ⟨x, y, gTO⟩, ⟨o1, e1, _, d1⟩, ⟨o2, e2, _, d2⟩⟩ := sta
    have ee : c = z ∨ c = TI ∨ c = TO ∨ c = i1 ∨ c = i2 := by simpa using cc
    rcases ee with qq | qq | qq | qq | qq
    · rw [qq]; exact ⟨_, gz, fun v qq => nomatch qq⟩
    · rw [qq]; exact ⟨_, gTI, fun v qq => nomatch qq⟩
    · rw [qq]; exact ⟨_, gTO, fun v qq => nomatch qq⟩
    · rw [qq]; exact ⟨o1, e1, fun v qq => by rw [d1] at qq; cases qq⟩
    · rw [qq]; exact ⟨o2, e2, fun v qq => by rw [d2] at qq; cases qq⟩
  keep := fun ix h h' sta k => by
    obtain ⟨gz, gTI, ⟨x, y, gTO⟩, g1, g2⟩ := sta
    exact ⟨k z (by simp) _ gz, k TI (by simp) _ gTI, ⟨x, y, k TO (by simp) _ gTO⟩, g1.at fun o qq => k i1 (by simp) o qq, g2.at fun o qq => k i2 (by simp) o qq⟩
  item := by
    intro X hP hw hK cc ix pps sh σ H EE I fo sta yg
    subst hP hw hK
    obtain ⟨gz, gTI, ⟨x0, y0, gTO⟩, g1, g2⟩ := sta
    obtain ⟨xs, ys, x, y, lqx, lqy, gx, hy⟩ := yg
    obtain ⟨jts, sv, pl1, _⟩ := I.tuple lqx
    obtain ⟨jts2, sv2, p2, _⟩ := I.tuple lqy
    obtain ⟨u, hu, ru⟩ := sv.get gx
    obtain ⟨u2, hu2, ru2⟩ := sv2.get hy
    have hzl : z < sh.heap.objs.size := Heap.lt_size gz
    refine pyNext_zipT_item D gz gTI gTO g1 g2 pl1 p2 (x := u) (y := u2) (by simpa using hu) (by simpa using hu2) fun h' z' TO' h1' h2' hT hsz hk => ?_
    refine ⟨_, rfl, wpAny_letOwnedTupleGo_zip (s := { sh with heap := h' }) z' fun h'' z'' sb => ?_⟩
    have tT2 : h''.get? sh.heap.objs.size = some { cls := .type "tuple", data := .seq #[u, u2] } := (sb.2 _ (Nat.ne_of_gt hzl)).trans hT
    have neu : ObjOk X.prog X.w (upd H sh.heap.objs.size (.frz { cls := .type "tuple", data := .seq #[u, u2] } (.tup [x, y]))) h'' sh.heap.objs.size (.frz { cls := .type "tuple", data := .seq #[u, u2] } (.tup [x, y])) :=
      ⟨tT2, by show 2 ≤ sizeLine; decide, [u, u2], .cons ru (.cons ru2 .nil), ⟨_, tT2, rfl, _, rfl⟩⟩
    have I1 : Inv X pps σ (upd H sh.heap.objs.size (.frz { cls := .type "tuple", data := .seq #[u, u2] } (.tup [x, y]))) { sh with heap := h'' } :=
      I.turnedNew (t' := sh.toks) (ch := [z, TI, TO, i1, i2]) (fun c o nb qq => (sb.2 c (fun q' => nb (by simp [q']))).trans (hk c o (fun q' => nb (by simp [q'])) (fun q' => nb (by simp [q'])) (fun q' => nb (by simp [q'])) (fun q' => nb (by simp [q'])) qq)) fo (Nat.le_refl _) neu
    refine ⟨.ref sh.heap.objs.size, _, I1, rfl, ⟨_, x, y, _, rfl, I.hok.fresh (Nat.le_refl _), rfl, rfl, fun l hl => by rw [I.tuple_inj hl lqx]; exact gx, fun l hl => by rw [I.tuple_inj hl lqy]; exact hy⟩, ⟨z'', ?_, ⟨u, u2, ?_⟩, ?_, ?_⟩, fun c hcm => ?_⟩
    · exact (sb.2 _ D.TIz).trans (hk _ _ D.TIz D.TITO D.TIi1 D.TIi2 gTI)
    · exact (sb.2 _ D.TOz).trans TO'
    · exact h1'.at fun o qq => (sb.2 _ D.i1z).trans qq
    · exact h2'.at fun o qq => (sb.2 _ D.i2z).trans qq
    · have ltc : c < sh.heap.objs.size := by
        have ee : c = z ∨ c = TI ∨ c = TO ∨ c = i1 ∨ c = i2 := by simpa using hcm
        rcases ee with qq | qq | qq | qq | qq
        · rw [qq]; exact hzl
        · rw [qq]; exact Heap.lt_size gTI
        · rw [qq]; exact Heap.lt_size gTO
        · rw [qq]; obtain ⟨_, e1, _⟩ := g1; exact Heap.lt_size e1
        · rw [qq]; obtain ⟨_, e2, _⟩ := g2; exact Heap.lt_size e2
      rw [upd_ne (Nat.ne_of_lt ltc)]
      exact (fo c hcm).1
  done := by
    intro X hP hw hK cc ix pps sh σ H EE I fo sta yg
    subst hP hw hK
    obtain ⟨gz, gTI, ⟨x0, y0, gTO⟩, g1, g2⟩ := sta
    obtain ⟨xs, ys, lqx, lqy, hend⟩ := yg
    obtain ⟨jts, sv, pl1, _⟩ := I.tuple lqx
    obtain ⟨jts2, sv2, p2, _⟩ := I.tuple lqy
    have l1 := sv.length
    have l2 := sv2.length
    have he : jts.toArray[ix]? = none ∨ jts2.toArray[ix]? = none := by
      rcases hend with qq | qq
      · exact .inl (by simp; omega)
      · exact .inr (by simp; omega)
    exact pyNext_zipT_end (I.ok.hd cc) D gz gTI gTO g1 g2 pl1 p2 he fun h' hk => ⟨rfl, I.turnedL (t' := sh.toks) (ch := [z, TI, TO, i1, i2]) (fun c o nb qq =>
      hk c o (fun q' => nb (by simp [q'])) (fun q' => nb (by simp [q'])) (fun q' => nb (by simp [q'])) (fun q' => nb (by simp [q'])) qq) fo⟩
  self := fun A ix sh Q EE sta h => wpAny_pyIter_zip sta.1 h
def iZipZ (K : PySem.W.Frag) (ta : TA) : TI := fun σ H R => ta σ H fun vs H1 => ∃ a b xs ys, vs = [.ref a, .ref b] ∧ ((SqL K H1 a xs ∧ SqL K H1 b ys ∧ R (ItzZ K a b) H1) ∨ (SqT K H1 a xs ∧ SqT K H1 b ys ∧ R (ItzTZ K a b) H1))
theorem pi_zipZ {X : Cx} {e e2 : Expr} {ta : TA} {pl1 pos tpos : Pos} {elts : List Expr} {kk : Nat} (yg : Gl X "zip") (mz : X.mg "zip" = none) (pa1 : PA X [e, e2] ta)
    (ns1 : starEach [e, e2] X.env = (false, eval e X.env) :: starEach [e2] X.env := by rfl) (npl : (backTo pos (starEach [e2] X.env)).any (·.1) = false := by rfl) :
    PI X (.Tuple elts kk tpos) (.Call (.Name "zip" pl1) [e, e2] [] pos) (iZipZ X.K ta) := by
  refine ⟨fun pps sh σ H R I h => ?_⟩
  refine Call_ (ld_blt I yg mz PyProof.Rows.boot_zip (PyProof.Rows.callWith_type1 (thn (pa1.run pos pps sh σ H _ I h) fun uu s1 ⟨vs, H1, I1, r1, q1⟩ => ?_) ns1 npl))
  obtain ⟨a, b, xs, ys, ex, q1⟩ := q1
  subst ex
  cases r1 with
  | cons rr0 rr1 =>
    cases rr1 with
    | cons r' rr1 =>
      cases rr1
      cases rr0
      cases r'
      have fresh5 : ∀ c, c ∈ [s1.heap.objs.size + 4, s1.heap.objs.size + 2, s1.heap.objs.size + 3, s1.heap.objs.size, s1.heap.objs.size + 1] → FpOk X pps H1 c := fun c hcm => by
        have ee : c = s1.heap.objs.size + 4 ∨ c = s1.heap.objs.size + 2 ∨ c = s1.heap.objs.size + 3 ∨ c = s1.heap.objs.size ∨ c = s1.heap.objs.size + 1 := by simpa using hcm
        have lec : s1.heap.objs.size ≤ c := by
          rcases ee with z | z | z | z | z
          · rw [z]; exact Nat.le_add_right _ _
          · rw [z]; exact Nat.le_add_right _ _
          · rw [z]; exact Nat.le_add_right _ _
          · rw [z]; exact Nat.le_refl _
          · rw [z]; exact Nat.le_add_right _ _
        exact I1.fpOk lec (I1.hok.fresh lec)
      rcases q1 with ⟨lqx, lqy, qq⟩ | ⟨lqx, lqy, qq⟩
      · obtain ⟨jts, sv, p1, _⟩ := I1.list lqx
        obtain ⟨jts2, sv2, p2, _⟩ := I1.list lqy
        refine call_zip_2 p1.isList p2.isList fun h' gz gTI gTO g1 g2 hsz hk => wpAny_pyIter_zip gz ?_
        have I2 : Inv X pps σ H1 { s1 with heap := h' } := I1.kept (t' := s1.toks) hk
        exact ⟨s1.heap.objs.size + 4, [s1.heap.objs.size + 4, s1.heap.objs.size + 2, s1.heap.objs.size + 3, s1.heap.objs.size, s1.heap.objs.size + 1], _, _, H1, rfl, I2, turn_zipZ (PySem.W.ktu_apart s1.heap.objs.size a b p1.lt p2.lt), ⟨gz, gTI, ⟨_, _, gTO⟩, g1, g2⟩, fresh5, qq⟩
      · obtain ⟨jts, sv, p1, _⟩ := I1.tuple lqx
        obtain ⟨jts2, sv2, p2, _⟩ := I1.tuple lqy
        obtain ⟨o1, ho1, _⟩ := id p1
        obtain ⟨o2, ho2, _⟩ := id p2
        refine call_zipT (show s1.heap.IsTuple a jts.toArray from p1) (show s1.heap.IsTuple b jts2.toArray from p2) fun h' gz gTI gTO g1 g2 hsz hk => wpAny_pyIter_zip gz ?_
        have I2 : Inv X pps σ H1 { s1 with heap := h' } := I1.kept (t' := s1.toks) hk
        exact ⟨s1.heap.objs.size + 4, [s1.heap.objs.size + 4, s1.heap.objs.size + 2, s1.heap.objs.size + 3, s1.heap.objs.size, s1.heap.objs.size + 1], _, _, H1, rfl, I2, turn_zipTZ (PySem.W.ktu_apart s1.heap.objs.size a b (Heap.lt_size ho1) (Heap.lt_size ho2)), ⟨gz, gTI, ⟨_, _, gTO⟩, g1, g2⟩, fresh5, qq⟩
end DLT
set_option maxHeartbeats 4000000
namespace DLT
open PySem PySem.Spec PyProof.Rows L2
theorem tuple_mulS (l : Addr) (items : Array Value) (n : Nat) (dd : Option Addr) (sl : Array (Option Value)) (x : Int) (u : Tok) (c0 : (decide (x < -(2 ^ 63)) || decide (x ≥ 2 ^ 63)) = false) (c1 : (items.isEmpty || x == 1) = true) :
    Meets (Builtin.«tuple.__mul__» ⟨[.ref l, .int x u], []⟩) (fun _ R s => s.heap.get? l = some { cls := .type "tuple", dict := dd, data := .seq items n, slots := sl } ∧
      R (.ok (.ret (Value.ref l))) { s with heap := s.heap, toks := s.toks }) :=
  .of_wp fun prog w A R s h => by
    obtain ⟨hp, g, d, tk, os⟩ := s
    obtain ⟨hl, h⟩ := h
    have f1 := AutoSeq1.idx_int
    have f2 := AutoSeq1.sub_tuple_tuple
    wp_walk using wpAny_loadPart' hl
    repeat (first
      | (refine wpAny_ite_false (decide_eq_false (by rw [c0]; exact Bool.false_ne_true)) ?_; wp_walk using wpAny_loadPart' hl)
      | (refine wpAny_ite_true (decide_eq_true c1) ?_; wp_walk using wpAny_loadPart' hl))
    exact ⟨_, rfl, h⟩
theorem tuple_mulN (l : Addr) (items : Array Value) (n : Nat) (dd : Option Addr) (sl : Array (Option Value)) (x : Int) (u : Tok) (c0 : (decide (x < -(2 ^ 63)) || decide (x ≥ 2 ^ 63)) = false) (c1 : (items.isEmpty || x == 1) = false) (c2 : (decide (x ≤ 0) || items.isEmpty) = true) :
    Meets (Builtin.«tuple.__mul__» ⟨[.ref l, .int x u], []⟩) (fun _ R s => s.heap.get? l = some { cls := .type "tuple", dict := dd, data := .seq items n, slots := sl } ∧
      R (.ok (.ret (Value.ref s.heap.objs.size))) { s with heap := s.heap.push { cls := Value.type "tuple", data := Data.seq #[] }, toks := s.toks }) :=
  .of_wp fun prog w A R s h => by
    obtain ⟨hp, g, d, tk, os⟩ := s
    obtain ⟨hl, h⟩ := h
    have f1 := AutoSeq1.idx_int
    have hsz : (#[] : Array Value).size ≤ sizeLine := by decide
    wp_walk using wpAny_loadPart' hl
    repeat (first
      | (refine wpAny_ite_false (decide_eq_false (by rw [c0]; exact Bool.false_ne_true)) ?_; wp_walk using wpAny_loadPart' hl)
      | (refine wpAny_ite_false (decide_eq_false (by rw [c1]; exact Bool.false_ne_true)) ?_; wp_walk using wpAny_loadPart' hl)
      | (refine wpAny_ite_true (decide_eq_true c2) ?_; wp_walk using wpAny_loadPart' hl)
      | (refine wpAny_ite_false (decide_eq_false (Nat.not_lt.mpr hsz)) ?_; wp_walk using wpAny_loadPart' hl))
    exact ⟨_, rfl, h⟩
def zRep (K : PySem.W.Frag) : R2 := fun x y H Q => ∃ l k xs, x = .ref l ∧ y = .int k ∧ SqT K H l xs ∧ -(2 ^ 63) ≤ k ∧ k ≤ 1000 ∧ xs.length ≤ 1000 ∧ (xs = [] ∨ k = 1 → Q (.ref l) H) ∧
  (xs ≠ [] → k ≠ 1 → ∀ zo p, zo.dict = none → H p = none → Q (.ref p) (upd H p (.frz zo (.tup (List.replicate k.toNat xs).flatten))))
section
variable {X : Cx}
theorem op_repZ : OpR X (binaryOp .Mult) (zRep X.K) := by
  intro pins s σ H x y v u Q I rx ry h
  obtain ⟨l, k, xs, rfl, rfl, hT, h1, h2, hz, q1, q2⟩ := h
  cases rx
  obtain ⟨t, rfl⟩ := ry
  obtain ⟨its, r, ⟨⟨cls, dd, data, sl⟩, ho, hc, n, hd⟩, hs⟩ := I.tuple hT
  simp only at hc hd
  subst hc hd
  have hle : its.length = xs.length := r.length.symm
  have c0 : (decide (k < -(2 ^ 63)) || decide (k ≥ 2 ^ 63)) = false := by
    rw [decide_eq_false (by omega), decide_eq_false (by omega)] <;> rfl
  have hemp : its.toArray.isEmpty = decide (xs = []) := by
    cases its with
    | nil =>
      have : xs = [] := List.eq_nil_of_length_eq_zero hle.symm
      simp [this]
    | cons a b =>
      have : xs ≠ [] := fun e => by rw [e] at hle; simp at hle
      simp [this]
  by_cases hsame : xs = [] ∨ k = 1
  · have c1 : (its.toArray.isEmpty || k == 1) = true := by
      rw [hemp]
      rcases hsame with e | e <;> simp [e]
    exact wpAny_binaryOp_repeat_ref (T := "tuple") (U := "int") (by decide) ⟨_, ho, rfl⟩ (fun s' => typeIs_int s' k t) noFill_tuple_mul F.fills_int_mul F.slot_int_rmul repeat_tuple F.slot_int_index.lookup
      (call_meets F.slot_int_rmul (typeIs_int s k t) F.entry_int_rmul (F.args_int_rmul_2 _ _) (int_rmul_tuple k t l its.toArray n dd sl)
        ⟨ho, rfl, ⟨_, ho, rfl⟩, call_meets F.slot_tuple_mul ⟨_, ho, rfl⟩ F.entry_tuple_mul (F.args_tuple_mul_2 _ _) (tuple_mulS l its.toArray n dd sl k t c0 c1) ⟨ho, ⟨.ref l, H, I, rfl, q1 hsame⟩⟩⟩)
  · have hne : xs ≠ [] := fun e => hsame (.inl e)
    have hk1 : k ≠ 1 := fun e => hsame (.inr e)
    have c1 : (its.toArray.isEmpty || k == 1) = false := by
      rw [hemp]
      simp [hne, hk1]
    by_cases hk0 : k ≤ 0
    · have c2 : (decide (k ≤ 0) || its.toArray.isEmpty) = true := by simp [hk0]
      have e0 : (List.replicate k.toNat xs).flatten = ([] : List V) := by
        rw [show k.toNat = 0 by omega]
        rfl
      refine wpAny_binaryOp_repeat_ref (T := "tuple") (U := "int") (by decide) ⟨_, ho, rfl⟩ (fun s' => typeIs_int s' k t) noFill_tuple_mul F.fills_int_mul F.slot_int_rmul repeat_tuple F.slot_int_index.lookup
        (call_meets F.slot_int_rmul (typeIs_int s k t) F.entry_int_rmul (F.args_int_rmul_2 _ _) (int_rmul_tuple k t l its.toArray n dd sl)
          ⟨ho, rfl, ⟨_, ho, rfl⟩, call_meets F.slot_tuple_mul ⟨_, ho, rfl⟩ F.entry_tuple_mul (F.args_tuple_mul_2 _ _) (tuple_mulN l its.toArray n dd sl k t c0 c1 c2) ⟨ho, ?_⟩⟩)
      have q := q2 hne hk1
      rw [e0] at q
      exact ⟨.ref s.heap.objs.size, _, I.laid (t' := s.toks) (o := .frz (tob _) (.tup ([] : List V))) (fun b ob y => Heap.get?_push_of_some _ y) (Nat.le_refl _) (tob_ok (us := []) (by simp) .nil), rfl, q _ _ rfl (I.hok.fresh (Nat.le_refl _))⟩
    · have hi : its.toArray.isEmpty = false := by rw [hemp]; simp [hne]
      have hsz0 : its.toArray.size = xs.length := by rw [List.size_toArray, hle]
      have hm : ((its.toArray.size : Nat) : Int) * k ≤ 1000000 := by
        rw [hsz0]
        have a1 : ((xs.length : Nat) : Int) * k ≤ 1000 * k := Int.mul_le_mul_of_nonneg_right (by omega) (by omega)
        omega
      have flen : (List.replicate k.toNat its).flatten.length ≤ sizeLine := by
        rw [PyProof.Rows.lm_len_rep_flat, hle, sizeLine_eq]
        have a1 : k.toNat * xs.length ≤ 1000 * 1000 := Nat.mul_le_mul (by omega) hz
        omega
      have c2 : (decide (k ≤ 0) || its.toArray.isEmpty) = false := by
        rw [hi, Bool.or_false]
        exact decide_eq_false (by omega)
      have c4 : Builtin.Tuple.tupleTooMany (((its.toArray.size : Nat) : Int) * k) = false := by
        unfold Builtin.Tuple.tupleTooMany
        rw [sizeLine_eq]
        exact decide_eq_false (by omega)
      refine wpAny_binaryOp_repeat_ref (T := "tuple") (U := "int") (by decide) ⟨_, ho, rfl⟩ (fun s' => typeIs_int s' k t) noFill_tuple_mul F.fills_int_mul F.slot_int_rmul repeat_tuple F.slot_int_index.lookup
        (call_meets F.slot_int_rmul (typeIs_int s k t) F.entry_int_rmul (F.args_int_rmul_2 _ _) (int_rmul_tuple k t l its.toArray n dd sl)
          ⟨ho, rfl, ⟨_, ho, rfl⟩, call_meets F.slot_tuple_mul ⟨_, ho, rfl⟩ F.entry_tuple_mul (F.args_tuple_mul_2 _ _) (tuple_mulW l its.toArray n dd sl k t c0 c1 c2 (by omega) c4 (by rw [size_rep, List.size_toArray]; exact flen)) ⟨ho, ?_⟩⟩)
      rw [size_rep]
      exact ⟨.ref s.heap.objs.size, _, I.laid (t' := s.toks) (o := .frz (tob _) (.tup (List.replicate k.toNat xs).flatten)) (fun b ob q => Heap.get?_push_of_some _ q) (Nat.le_refl _)
        (tob_ok (by rw [PyProof.Rows.lm_len_rep_flat, sizeLine_eq]; have a1 : k.toNat * xs.length ≤ 1000 * 1000 := Nat.mul_le_mul (by omega) hz; omega) (r.rep k.toNat)), rfl, q2 hne hk1 _ _ rfl (I.hok.fresh (Nat.le_refl _))⟩
end
end DLT
namespace DL
open PySem PySem.Spec PyProof.Rows L2
/-- what a field of an owned object holds -/
inductive Fl where
  | d (x : PyData)
  | l (xs : List PyData)
mutual
inductive Ob where
  | d (x : PyData)
  | l (xs : List PyData)
  | t (ks : List (NestedKey × PyData))
  | m (ks : List (Int × PyData))
  | o (c : Addr) (fs : Obs)
inductive Obs where
  | nil
  | cons (f : Str) (x : Ob) (fs : Obs)
end
/-- what a slot holds: frozen data; an owned list of frozen data; the law's script; a dict; an object -/
inductive M where
  | d (x : PyData)
  | l (xs : List PyData)
  | scr (ns : List Int)
  | m (ks : List (Int × PyData))
  | fm (ks : List (Int × PyData))
  | o (c : Addr) (fs : List (Str × Fl))
  | fo (c : Addr) (fs : List (Str × PyData))
  | ll (xss : List (List PyData))
  | fk (ks : List (List Int))
  | kt (fz : Bool) (ks : List (List Int × PyData))
  | kb (ks : List (Bool × PyData))
  | ob (fz : Bool) (x : Ob)
abbrev Env := List (Option M)
structure Exn where
  cls : Str
  fs : List (Str × PyData)
inductive Rs (α : Type) where
  | ok (a : α) (e : Env)
  | ex (x : Exn) (e : Env)
  | no
def Rs.bind {α β : Type} : Rs α → (α → Env → Rs β) → Rs β
  | .ok a e, f => f a e
  | .ex x e, _ => .ex x e
  | .no, _ => .no
@[simp] theorem Rs.bind_ok {α β : Type} (a : α) (e : Env) (f : α → Env → Rs β) : (Rs.ok a e).bind f = f a e := rfl
@[simp] theorem Rs.bind_ex {α β : Type} (x : Exn) (e : Env) (f : α → Env → Rs β) : (Rs.ex x e : Rs α).bind f = .ex x e := rfl
@[simp] theorem Rs.bind_no {α β : Type} (f : α → Env → Rs β) : (Rs.no : Rs α).bind f = .no := rfl
inductive Out where
  | nx (e : Env)
  | rt (m : M) (e : Env)
  | bk (e : Env)
  | ct (e : Env)
  | ex (x : Exn) (e : Env)
  | no
def lift {α : Type} : Option α → Env → Rs α
  | some a, e => .ok a e
  | none, _ => .no
@[simp] theorem lift_some {α : Type} (a : α) (e : Env) : lift (some a) e = .ok a e := rfl
@[simp] theorem lift_none {α : Type} (e : Env) : lift (none : Option α) e = .no := rfl
abbrev Ow := Addr → Option Nat
def off (ow : Ow) (p : Addr) : Ow := fun a => if a = p then none else ow a
def give (ow : Ow) (p : Addr) (i : Nat) : Ow := fun a => if a = p then some i else ow a
theorem off_same {ow : Ow} {p : Addr} : off ow p p = none := if_pos rfl
theorem off_ne {ow : Ow} {p a : Addr} (h : a ≠ p) : off ow p a = ow a := if_neg h
theorem give_same {ow : Ow} {p : Addr} {i : Nat} : give ow p i p = some i := if_pos rfl
theorem give_ne {ow : Ow} {p a : Addr} {i : Nat} (h : a ≠ p) : give ow p i a = ow a := if_neg h
/-- data in the heap, none of it owned -/
def FT (K : PySem.W.Frag) (H : Hp) (ow : Ow) (a : Addr) (xs : List V) : Prop :=
  (∃ zo : Obj, H a = some (.frz zo (.tup xs)) ∧ zo.dict = none ∧ ow a = none) ∨
    ∃ (o : Obj) (its : Array Value) (n : Nat), (K.lookup a = some o ∧ o.dict = none) ∧ o.cls = .type "tuple" ∧ o.data = .seq its n ∧ its.size ≤ sizeLine ∧ Vals xs its.toList
theorem FT.sq {K : PySem.W.Frag} {H : Hp} {ow : Ow} {a : Addr} {xs : List V} (h : FT K H ow a xs) : SqT K H a xs := by
  rcases h with ⟨zo, h, _⟩ | ⟨o, its, n, h, r⟩
  · exact .inl (.inr ⟨zo, h⟩)
  · exact .inr ⟨o, its, n, h.1, r⟩
theorem FT.new {K : PySem.W.Frag} {H : Hp} {ow : Ow} {a : Addr} {xs : List V} {zo : Obj} (h : zo.dict = none) : FT K (upd H a (.frz zo (.tup xs))) (off ow a) a xs := .inl ⟨zo, upd_same, h, off_same⟩
mutual
inductive DV (K : PySem.W.Frag) (H : Hp) (ow : Ow) : V → PyData → Prop
  | non : DV K H ow .non .none
  | bl (b : Bool) : DV K H ow (.bl b) (.bool b)
  | int (i : Int) : DV K H ow (.int i) (.int i)
  | str (x : Str) : DV K H ow (.str x) (.str x)
  | lst {a : Addr} {xs : List V} {ds : List PyData} : H a = some (.lst xs) → ow a = none → DVs K H ow xs ds → ds.length ≤ 16777216 → DV K H ow (.ref a) (.list ds)
  | tup {a : Addr} {xs : List V} {ds : List PyData} : FT K H ow a xs → DVs K H ow xs ds → ds.length ≤ 16777216 → DV K H ow (.ref a) (.tuple ds)
inductive DVs (K : PySem.W.Frag) (H : Hp) (ow : Ow) : List V → List PyData → Prop
  | nil : DVs K H ow [] []
  | cons {v : V} {vs : List V} {d : PyData} {ds : List PyData} : DV K H ow v d → DVs K H ow vs ds → DVs K H ow (v :: vs) (d :: ds)
end
/-- what stands frozen stays -/
def Stay (H : Hp) (ow : Ow) (H' : Hp) (ow' : Ow) : Prop := ∀ a o, H a = some o → ow a = none → H' a = some o ∧ ow' a = none
section
variable {K : PySem.W.Frag} {H H' H'' : Hp} {ow ow' ow'' : Ow}
theorem Stay.refl : Stay H ow H ow := fun _ _ h h' => ⟨h, h'⟩
theorem Stay.trans (x : Stay H ow H' ow') (y : Stay H' ow' H'' ow'') : Stay H ow H'' ow'' := fun a o h h' => let ⟨p, q⟩ := x a o h h'; y a o p q
theorem FT.stay (st : Stay H ow H' ow') {a : Addr} {xs : List V} (h : FT K H ow a xs) : FT K H' ow' a xs := by
  rcases h with ⟨zo, h, hd, hw⟩ | h
  · exact .inl ⟨zo, (st _ _ h hw).1, hd, (st _ _ h hw).2⟩
  · exact .inr h
mutual
theorem DV.stay (st : Stay H ow H' ow') : ∀ {d : PyData} {v : V}, DV K H ow v d → DV K H' ow' v d
  | .none, _, h => by cases h; exact .non
  | .bool b, _, h => by cases h; exact .bl b
  | .int i, _, h => by cases h; exact .int i
  | .str x, _, h => by cases h; exact .str x
  | .list ds, _, h => by
    cases h with
    | lst h1 h2 h3 hz =>
      obtain ⟨p, q⟩ := st _ _ h1 h2
      exact .lst p q (DVs.stay st h3) hz
  | .tuple ds, _, h => by
    cases h with
    | tup h1 h3 hz => exact .tup (h1.stay st) (DVs.stay st h3) hz
  | .dict _, _, h => by cases h
theorem DVs.stay (st : Stay H ow H' ow') : ∀ {ds : List PyData} {vs : List V}, DVs K H ow vs ds → DVs K H' ow' vs ds
  | [], _, h => by cases h; exact .nil
  | d :: ds, _, h => by
    cases h with
    | cons h1 h2 => exact .cons (DV.stay st h1) (DVs.stay st h2)
end
mutual
theorem DV.dp : ∀ {d : PyData} {v : V}, DV K H ow v d → Dp K H v d
  | .none, _, h => by cases h; exact .non
  | .bool b, _, h => by cases h; exact .bl b
  | .int i, _, h => by cases h; exact .int i
  | .str x, _, h => by cases h; exact .str x
  | .list ds, _, h => by
    cases h with
    | lst h1 h2 h3 hz => exact .lst (.of h1) (DVs.dp h3)
  | .tuple ds, _, h => by
    cases h with
    | tup h1 h3 hz => exact .tup h1.sq (DVs.dp h3)
  | .dict _, _, h => by cases h
theorem DVs.dp : ∀ {ds : List PyData} {vs : List V}, DVs K H ow vs ds → DpAll K H vs ds
  | [], _, h => by cases h; exact .nil
  | d :: ds, _, h => by
    cases h with
    | cons h1 h2 => exact .cons (DV.dp h1) (DVs.dp h2)
end
theorem DVs.length : ∀ {ds : List PyData} {vs : List V}, DVs K H ow vs ds → vs.length = ds.length
  | [], _, h => by cases h; rfl
  | _ :: _, _, h => by
    cases h with
    | cons _ h2 => simp [DVs.length h2]
theorem DVs.get : ∀ {ds : List PyData} {vs : List V} {i : Nat} {d : PyData}, DVs K H ow vs ds → ds[i]? = some d → ∃ v, vs[i]? = some v ∧ DV K H ow v d
  | [], _, _, _, _, e => by simp at e
  | _ :: _, _, 0, _, h, e => by
    cases h with
    | cons h1 h2 => simp at e; subst e; exact ⟨_, rfl, h1⟩
  | _ :: _, _, i + 1, _, h, e => by
    cases h with
    | cons h1 h2 =>
      obtain ⟨v, a, b⟩ := DVs.get (i := i) h2 (by simpa using e)
      exact ⟨v, by simpa using a, b⟩
theorem DVs.append : ∀ {ds es : List PyData} {vs ws : List V}, DVs K H ow vs ds → DVs K H ow ws es → DVs K H ow (vs ++ ws) (ds ++ es)
  | [], _, _, _, h, k => by cases h; exact k
  | _ :: _, _, _, _, h, k => by
    cases h with
    | cons h1 h2 => exact .cons h1 (DVs.append h2 k)
theorem DVs.take : ∀ {ds : List PyData} {vs : List V} (n : Nat), DVs K H ow vs ds → DVs K H ow (vs.take n) (ds.take n)
  | _, _, 0, _ => by simpa using DVs.nil
  | [], _, n + 1, h => by cases h; exact .nil
  | _ :: _, _, n + 1, h => by
    cases h with
    | cons h1 h2 => exact .cons h1 (DVs.take n h2)
theorem DVs.drop : ∀ {ds : List PyData} {vs : List V} (n : Nat), DVs K H ow vs ds → DVs K H ow (vs.drop n) (ds.drop n)
  | _, _, 0, h => by simpa using h
  | [], _, n + 1, h => by cases h; exact .nil
  | _ :: _, _, n + 1, h => by
    cases h with
    | cons h1 h2 => simpa using DVs.drop n h2
theorem DVs.set {w : V} {x : PyData} (r : DV K H ow w x) : ∀ {ds : List PyData} {vs : List V} (n : Nat), DVs K H ow vs ds → DVs K H ow (vs.set n w) (ds.set n x)
  | [], _, n, h => by cases h; exact .nil
  | _ :: _, _, 0, h => by
    cases h with
    | cons h1 h2 => exact .cons r h2
  | _ :: _, _, n + 1, h => by
    cases h with
    | cons h1 h2 => exact .cons h1 (DVs.set r n h2)
theorem DVs.reverse : ∀ {ds : List PyData} {vs : List V}, DVs K H ow vs ds → DVs K H ow vs.reverse ds.reverse
  | [], _, h => by cases h; exact .nil
  | _ :: _, _, h => by
    cases h with
    | cons h1 h2 =>
      rw [List.reverse_cons, List.reverse_cons]
      exact (DVs.reverse h2).append (.cons h1 .nil)
theorem DVs.dropLast {ds : List PyData} {vs : List V} (h : DVs K H ow vs ds) : DVs K H ow vs.dropLast ds.dropLast := by
  rw [List.dropLast_eq_take, List.dropLast_eq_take, h.length]
  exact h.take _
theorem DVs.ints : ∀ {ns : List Int} {vs : List V}, DVs K H ow vs (ns.map PyData.int) → vs = ns.map V.int
  | [], _, h => by cases h; rfl
  | n :: ns, _, h => by
    cases h with
    | cons h1 h2 => cases h1; rw [DVs.ints h2]; rfl
theorem DVs.of_ints : ∀ (ns : List Int), DVs K H ow (ns.map V.int) (ns.map PyData.int)
  | [] => .nil
  | n :: ns => .cons (.int n) (DVs.of_ints ns)
theorem DVs.bls : ∀ {ns : List Bool} {vs : List V}, DVs K H ow vs (ns.map PyData.bool) → vs = ns.map V.bl
  | [], _, h => by cases h; rfl
  | n :: ns, _, h => by
    cases h with
    | cons h1 h2 => cases h1; rw [DVs.bls h2]; rfl
/-- the table of a dict with whole numbers for keys -/
def DKs (K : PySem.W.Frag) (H : Hp) (ow : Ow) (vs : List (Key × V)) (ks : List (Int × PyData)) : Prop := Paired (fun p q => p.1 = Sum.inl q.1 ∧ DV K H ow p.2 q.2) vs ks
theorem DKs.stay (st : Stay H ow H' ow') {vs : List (Key × V)} {ks : List (Int × PyData)} (h : DKs K H ow vs ks) : DKs K H' ow' vs ks := Paired.mapP h fun _ _ z => ⟨z.1, z.2.stay st⟩
/-- the fields of an owned object -/
inductive FLs (K : PySem.W.Frag) (H : Hp) (ow : Ow) : List (Str × V) → List (Str × Fl) → List Addr → Prop
  | nil : FLs K H ow [] [] []
  | d {f : Str} {v : V} {x : PyData} {fv : List (Str × V)} {fs : List (Str × Fl)} {fp : List Addr} : DV K H ow v x → FLs K H ow fv fs fp → FLs K H ow ((f, v) :: fv) ((f, .d x) :: fs) fp
  | l {f : Str} {b : Addr} {vs : List V} {ds : List PyData} {fv : List (Str × V)} {fs : List (Str × Fl)} {fp : List Addr} : H b = some (.lst vs) → DVs K H ow vs ds → ds.length ≤ 16777216 → FLs K H ow fv fs fp → FLs K H ow ((f, .ref b) :: fv) ((f, .l ds) :: fs) (b :: fp)
theorem FLs.stay (st : Stay H ow H' ow') : ∀ {fv : List (Str × V)} {fs : List (Str × Fl)} {fp : List Addr}, FLs K H ow fv fs fp → (∀ p ∈ fp, H' p = H p) → FLs K H' ow' fv fs fp
  | _, _, _, .nil, _ => .nil
  | _, _, _, .d h t, hf => .d (h.stay st) (t.stay st hf)
  | _, _, _, .l h1 h2 hz t, hf => .l ((hf _ List.mem_cons_self).trans h1) (h2.stay st) hz (t.stay st fun p hp => hf p (List.mem_cons_of_mem _ hp))
theorem FLs.there : ∀ {fv : List (Str × V)} {fs : List (Str × Fl)} {fp : List Addr}, FLs K H ow fv fs fp → ∀ p ∈ fp, ∃ vs, H p = some (.lst vs)
  | _, _, _, .nil, p, hp => nomatch hp
  | _, _, _, .d _ t, p, hp => t.there p hp
  | _, _, _, .l h1 _ _ t, p, hp => by
    rcases List.mem_cons.1 hp with rfl | hp
    · exact ⟨_, h1⟩
    · exact t.there p hp
/-- the fields of a frozen object -/
def FDs (K : PySem.W.Frag) (H : Hp) (ow : Ow) (fv : List (Str × V)) (fs : List (Str × PyData)) : Prop := Paired (fun p q => p.1 = q.1 ∧ DV K H ow p.2 q.2) fv fs
theorem FDs.stay (st : Stay H ow H' ow') {fv : List (Str × V)} {fs : List (Str × PyData)} (h : FDs K H ow fv fs) : FDs K H' ow' fv fs := Paired.mapP h fun _ _ z => ⟨z.1, z.2.stay st⟩
/-- lists that one slot owns -/
inductive LLs (K : PySem.W.Frag) (H : Hp) (ow : Ow) : List Addr → List (List PyData) → Prop
  | nil : LLs K H ow [] []
  | cons {p : Addr} {vs : List V} {ds : List PyData} {as : List Addr} {xss : List (List PyData)} : H p = some (.lst vs) → DVs K H ow vs ds → ds.length ≤ 16777216 → LLs K H ow as xss → LLs K H ow (p :: as) (ds :: xss)
theorem LLs.stay (st : Stay H ow H' ow') : ∀ {as : List Addr} {xss : List (List PyData)}, LLs K H ow as xss → (∀ p ∈ as, H' p = H p) → LLs K H' ow' as xss
  | _, _, .nil, _ => .nil
  | _, _, .cons h1 h2 hz t, hf => .cons ((hf _ List.mem_cons_self).trans h1) (h2.stay st) hz (t.stay st fun p hp => hf p (List.mem_cons_of_mem _ hp))
theorem LLs.there : ∀ {as : List Addr} {xss : List (List PyData)}, LLs K H ow as xss → ∀ p ∈ as, ∃ o, H p = some o
  | _, _, .cons h1 _ _ t, p, hp => by
    rcases List.mem_cons.1 hp with rfl | hp
    · exact ⟨_, h1⟩
    · exact t.there p hp
theorem LLs.length : ∀ {as : List Addr} {xss : List (List PyData)}, LLs K H ow as xss → as.length = xss.length
  | _, _, .nil => rfl
  | _, _, .cons _ _ _ t => by rw [List.length_cons, List.length_cons, t.length]
theorem LLs.get : ∀ {as : List Addr} {xss : List (List PyData)}, LLs K H ow as xss → ∀ {k : Nat} {ds : List PyData}, xss[k]? = some ds → ∃ p vs, as[k]? = some p ∧ H p = some (.lst vs) ∧ DVs K H ow vs ds ∧ ds.length ≤ 16777216
  | _, _, .nil, k, ds, e => by simp at e
  | _, _, .cons h1 h2 hz t, 0, ds, e => by simp at e; subst e; exact ⟨_, _, rfl, h1, h2, hz⟩
  | _, _, .cons h1 h2 hz t, k + 1, ds, e => by simp at e; obtain ⟨p, vs, a, b⟩ := t.get e; exact ⟨p, vs, by simpa using a, b⟩
/-- one of them is put anew -/
theorem LLs.put (st : Stay H ow H' ow') : ∀ {as : List Addr} {xss : List (List PyData)}, LLs K H ow as xss → as.Nodup → ∀ {k : Nat} {p : Addr} {us : List V} {zs : List PyData}, as[k]? = some p → H' p = some (.lst us) → (∀ q, q ≠ p → H' q = H q) → DVs K H' ow' us zs → zs.length ≤ 16777216 → LLs K H' ow' as (xss.set k zs)
  | _, _, .nil, _, k, p, us, zs, e, _, _, _, _ => by simp at e
  | _, _, .cons h1 h2 hz t, nd, 0, p, us, zs, e, hp, hq, du, hl => by
    simp at e; subst e
    exact .cons hp du hl (t.stay st fun q hm => hq q fun z => (List.nodup_cons.mp nd).1 (z ▸ hm))
  | _, _, .cons h1 h2 hz t, nd, k + 1, p, us, zs, e, hp, hq, du, hl => by
    simp at e
    have hm := List.mem_of_getElem? e
    exact .cons ((hq _ fun z => (List.nodup_cons.mp nd).1 (by rw [z]; exact hm)).trans h1) (h2.stay st) hz (t.put st (List.nodup_cons.mp nd).2 e hp hq du hl)
/-- a table by tuples, what its one object is -/
def DicT0 (P : Program) (w : World) (Dk : Addr) (ks : List (List Key × Addr)) (h : Heap) : Prop :=
  (Dk == sysModules) = false ∧ ∃ (xs : List (List Key × Addr × Value)) (o : Obj) (es : Array DictEntry) (ep : Nat), xs.map (fun x => (x.1, x.2.1)) = ks ∧ h.get? Dk = some o ∧ o.ExactDict ∧ o.data = .dict es ep ∧ es.toList = xs.map (entryOfKey (tupleKind (mixKind P w))) ∧ (xs.map (·.1)).Nodup
/-- the same with what stands behind the keys -/
def DicV (P : Program) (w : World) (Dk : Addr) (ks : List (List Key × Addr × V)) (h : Heap) : Prop :=
  (Dk == sysModules) = false ∧ ∃ (xs : List (List Key × Addr × Value)) (o : Obj) (es : Array DictEntry) (ep : Nat), Paired (fun p x => p.1 = x.1 ∧ p.2.1 = x.2.1 ∧ RelV p.2.2 x.2.2) ks xs ∧ h.get? Dk = some o ∧ o.ExactDict ∧ o.data = .dict es ep ∧ es.toList = xs.map (entryOfKey (tupleKind (mixKind P w))) ∧ (xs.map (·.1)).Nodup
def TVs (K : PySem.W.Frag) (H : Hp) (ow : Ow) (as : List (List Key × Addr × V)) (ks : List (List Int × PyData)) : Prop :=
  Paired (fun p q => p.1 = q.1.map Sum.inl ∧ FT K H ow p.2.1 (p.1.map kV) ∧ DV K H ow p.2.2 q.2 ∧ q.1.length ≤ 16777216) as ks
theorem TVs.stay (st : Stay H ow H' ow') {as : List (List Key × Addr × V)} {ks : List (List Int × PyData)} (h : TVs K H ow as ks) : TVs K H' ow' as ks := by
  unfold TVs at h ⊢
  induction h with
  | nil => exact .nil
  | cons hq t ih => exact .cons ⟨hq.1, hq.2.1.stay st, hq.2.2.1.stay st, hq.2.2.2⟩ ih
/-- a table by bools -/
def DicB (Dk : Addr) (ks : List (Bool × V)) (h : Heap) : Prop :=
  (Dk == sysModules) = false ∧ ∃ (xs : List (Bool × Value)) (o : Obj) (es : Array DictEntry) (ep : Nat), Paired (fun p x => p.1 = x.1 ∧ RelV p.2 x.2) ks xs ∧ h.get? Dk = some o ∧ o.ExactDict ∧ o.data = .dict es ep ∧ es.toList = xs.map (fun x => ⟨hashInt (if x.1 then 1 else 0), .bool x.1, x.2⟩) ∧ (xs.map (·.1)).Nodup
def BVs (K : PySem.W.Frag) (H : Hp) (ow : Ow) (as : List (Bool × V)) (ks : List (Bool × PyData)) : Prop :=
  Paired (fun p q => p.1 = q.1 ∧ DV K H ow p.2 q.2) as ks
theorem BVs.stay (st : Stay H ow H' ow') {as : List (Bool × V)} {ks : List (Bool × PyData)} (h : BVs K H ow as ks) : BVs K H' ow' as ks := by
  unfold BVs at h ⊢
  induction h with
  | nil => exact .nil
  | cons hq t ih => exact .cons ⟨hq.1, hq.2.stay st⟩ ih
mutual
def pureK : NestedKey → Bool
  | .none => true
  | .num _ => true
  | .text _ => false
  | .tup ks => pureKs ks
def pureKs : List NestedKey → Bool
  | [] => true
  | k :: ks => pureK k && pureKs ks
end
def okK (k : NestedKey) : Bool := pureK k && decide (k.depth ≤ 8)
def DicN (P : Program) (w : World) (Dk : Addr) (ks : List (NestedKey × Addr × V)) (h : Heap) : Prop :=
  (Dk == sysModules) = false ∧ ∃ (xs : List (NestedKey × Addr × Value)) (o : Obj) (es : Array DictEntry) (ep : Nat), Paired (fun p x => p.1 = x.1 ∧ p.2.1 = x.2.1 ∧ RelV p.2.2 x.2.2) ks xs ∧ h.get? Dk = some o ∧ o.ExactDict ∧ o.data = .dict es ep ∧ es.toList = xs.map (entryOfKey (nestedKind P w)) ∧ (xs.map (·.1)).Nodup
def NVs (K : PySem.W.Frag) (H : Hp) (ow : Ow) (as : List (NestedKey × Addr × V)) (ks : List (NestedKey × PyData)) : Prop :=
  Paired (fun p q => p.1 = q.1 ∧ DV K H ow (.ref p.2.1) q.1.data ∧ DV K H ow p.2.2 q.2 ∧ okK q.1 = true) as ks
theorem NVs.stay (st : Stay H ow H' ow') {as : List (NestedKey × Addr × V)} {ks : List (NestedKey × PyData)} (h : NVs K H ow as ks) : NVs K H' ow' as ks := by
  unfold NVs at h ⊢
  induction h with
  | nil => exact .nil
  | cons hq t ih => exact .cons ⟨hq.1, hq.2.1.stay st, hq.2.2.1.stay st, hq.2.2.2⟩ ih
mutual
inductive OT (K : PySem.W.Frag) (H : Hp) (ow : Ow) : V → Ob → List Addr → Prop
  | d {v : V} {x : PyData} : DV K H ow v x → OT K H ow v (.d x) []
  | l {a : Addr} {vs : List V} {ds : List PyData} : H a = some (.lst vs) → DVs K H ow vs ds → ds.length ≤ 16777216 → OT K H ow (.ref a) (.l ds) [a]
  | t {a : Addr} {as : List (NestedKey × Addr × V)} {ks : List (NestedKey × PyData)} {φ : Heap → Prop} : H a = some (.ext φ) → (∀ h, φ h → ∀ P w, DicN P w a as h) → NVs K H ow as ks → ks.length ≤ 16777216 → OT K H ow (.ref a) (.t ks) [a]
  | m {a : Addr} {vs : List (Key × V)} {ks : List (Int × PyData)} : H a = some (.dK vs) → DKs K H ow vs ks → ks.length ≤ 16777216 → OT K H ow (.ref a) (.m ks) [a]
  | o {a c dx : Addr} {fv : List (Str × V)} {fs : Obs} {fp : List Addr} : H a = some (.ins c dx fv) → OTs K H ow fv fs fp → OT K H ow (.ref a) (.o c fs) (a :: fp)
inductive OTs (K : PySem.W.Frag) (H : Hp) (ow : Ow) : List (Str × V) → Obs → List Addr → Prop
  | nil : OTs K H ow [] .nil []
  | cons {f : Str} {v : V} {x : Ob} {fv : List (Str × V)} {fs : Obs} {fp fq : List Addr} : OT K H ow v x fp → OTs K H ow fv fs fq → OTs K H ow ((f, v) :: fv) (.cons f x fs) (fp ++ fq)
end
mutual
theorem OT.stay (st : Stay H ow H' ow') : ∀ {x : Ob} {v : V} {fp : List Addr}, OT K H ow v x fp → (∀ p ∈ fp, H' p = H p) → OT K H' ow' v x fp
  | .d _, _, _, h, hf => by cases h with | d h => exact .d (h.stay st)
  | .l _, _, _, h, hf => by cases h with | l h1 h2 hz => exact .l ((hf _ (by simp)).trans h1) (h2.stay st) hz
  | .t _, _, _, h, hf => by cases h with | t h1 h2 h3 hz => exact .t ((hf _ (by simp)).trans h1) h2 (h3.stay st) hz
  | .m _, _, _, h, hf => by cases h with | m h1 h2 hz => exact .m ((hf _ (by simp)).trans h1) (h2.stay st) hz
  | .o _ fs, _, _, h, hf => by cases h with | o h1 h2 => exact .o ((hf _ List.mem_cons_self).trans h1) (OTs.stay st h2 fun p hp => hf p (List.mem_cons_of_mem _ hp))
theorem OTs.stay (st : Stay H ow H' ow') : ∀ {fs : Obs} {fv : List (Str × V)} {fp : List Addr}, OTs K H ow fv fs fp → (∀ p ∈ fp, H' p = H p) → OTs K H' ow' fv fs fp
  | .nil, _, _, h, hf => by cases h; exact .nil
  | .cons f x fs, _, _, h, hf => by
    cases h with
    | cons h1 h2 => exact .cons (OT.stay st h1 fun p hp => hf p (List.mem_append_left _ hp)) (OTs.stay st h2 fun p hp => hf p (List.mem_append_right _ hp))
end
mutual
theorem OT.there : ∀ {x : Ob} {v : V} {fp : List Addr}, OT K H ow v x fp → ∀ p ∈ fp, ∃ o, H p = some o
  | .d _, _, _, h, p, hp => by cases h; cases hp
  | .l _, _, _, h, p, hp => by cases h with | l h1 h2 hz => simp at hp; subst hp; exact ⟨_, h1⟩
  | .t _, _, _, h, p, hp => by cases h with | t h1 h2 h3 hz => simp at hp; subst hp; exact ⟨_, h1⟩
  | .m _, _, _, h, p, hp => by cases h with | m h1 h2 hz => simp at hp; subst hp; exact ⟨_, h1⟩
  | .o _ fs, _, _, h, p, hp => by
    cases h with
    | o h1 h2 =>
      rcases List.mem_cons.1 hp with rfl | hp
      · exact ⟨_, h1⟩
      · exact OTs.there h2 p hp
theorem OTs.there : ∀ {fs : Obs} {fv : List (Str × V)} {fp : List Addr}, OTs K H ow fv fs fp → ∀ p ∈ fp, ∃ o, H p = some o
  | .nil, _, _, h, p, hp => by cases h; cases hp
  | .cons f x fs, _, _, h, p, hp => by
    cases h with
    | cons h1 h2 =>
      rcases List.mem_append.1 hp with hp | hp
      · exact OT.there h1 p hp
      · exact OTs.there h2 p hp
end
inductive VM (K : PySem.W.Frag) (H : Hp) (ow : Ow) : V → M → List Addr → Prop
  | d {v : V} {x : PyData} : DV K H ow v x → VM K H ow v (.d x) []
  | l {a : Addr} {vs : List V} {ds : List PyData} : H a = some (.lst vs) → DVs K H ow vs ds → ds.length ≤ 16777216 → VM K H ow (.ref a) (.l ds) [a]
  | scr {a : Addr} {ns : List Int} : ns.length ≤ 16777216 → (∃ o, H a = some (.frz o (.lst (ns.map V.int))) ∧ ow a = none) ∨ (H a = some (.lst (ns.map V.int)) ∧ ow a = none) ∨ (∀ H', SqL K H' a (ns.map V.int)) → VM K H ow (.ref a) (.scr ns) []
  | m {a : Addr} {vs : List (Key × V)} {ks : List (Int × PyData)} : H a = some (.dK vs) → DKs K H ow vs ks → ks.length ≤ 16777216 → VM K H ow (.ref a) (.m ks) [a]
  | fm {a : Addr} {vs : List (Key × V)} {ks : List (Int × PyData)} : (∃ o, H a = some (.frz o (.dK vs))) → ow a = none → DKs K H ow vs ks → ks.length ≤ 16777216 → VM K H ow (.ref a) (.fm ks) []
  | o {a c dx : Addr} {fv : List (Str × V)} {fs : List (Str × Fl)} {fp : List Addr} : H a = some (.ins c dx fv) → FLs K H ow fv fs fp → VM K H ow (.ref a) (.o c fs) (a :: fp)
  | fo {a c dx : Addr} {fv : List (Str × V)} {fs : List (Str × PyData)} : H a = some (.ins c dx fv) → ow a = none → FDs K H ow fv fs → VM K H ow (.ref a) (.fo c fs) []
  | ll {a : Addr} {as : List Addr} {xss : List (List PyData)} : H a = some (.lst (as.map V.ref)) → LLs K H ow as xss → xss.length ≤ 16777216 → VM K H ow (.ref a) (.ll xss) (a :: as)
  | fk {a : Addr} {as : List (List Key × Addr)} {ks : List (List Int)} {φ : Heap → Prop} : H a = some (.ext φ) → ow a = none → (∀ h, φ h → ∀ P w, DicT0 P w a as h) → as.map (·.1) = ks.map (fun ns => ns.map Sum.inl) → (∀ x ∈ as, FT K H ow x.2 (x.1.map kV)) → ks.length ≤ 16777216 → VM K H ow (.ref a) (.fk ks) []
  | kt {a : Addr} {as : List (List Key × Addr × V)} {ks : List (List Int × PyData)} {φ : Heap → Prop} : H a = some (.ext φ) → (∀ h, φ h → ∀ P w, DicV P w a as h) → TVs K H ow as ks → ks.length ≤ 16777216 → VM K H ow (.ref a) (.kt false ks) [a]
  | kf {a : Addr} {as : List (List Key × Addr × V)} {ks : List (List Int × PyData)} {φ : Heap → Prop} : H a = some (.ext φ) → ow a = none → (∀ h, φ h → ∀ P w, DicV P w a as h) → (∃ o, ∀ h, φ h → h.get? a = some o) → TVs K H ow as ks → ks.length ≤ 16777216 → VM K H ow (.ref a) (.kt true ks) []
  | kb {a : Addr} {as : List (Bool × V)} {ks : List (Bool × PyData)} {φ : Heap → Prop} : H a = some (.ext φ) → (∀ h, φ h → DicB a as h) → BVs K H ow as ks → ks.length ≤ 16777216 → VM K H ow (.ref a) (.kb ks) [a]
  | ob {v : V} {x : Ob} {fp : List Addr} : OT K H ow v x fp → VM K H ow v (.ob false x) fp
  | fb {v : V} {x : Ob} {fp : List Addr} : OT K H ow v x fp → (∀ p ∈ fp, ow p = none) → VM K H ow v (.ob true x) []
theorem VM.stay (st : Stay H ow H' ow') {v : V} {m : M} {fp : List Addr} (h : VM K H ow v m fp) (hf : ∀ p ∈ fp, H' p = H p) : VM K H' ow' v m fp := by
  cases h with
  | d h => exact .d (h.stay st)
  | l h1 h2 hz => exact .l ((hf _ (by simp)).trans h1) (h2.stay st) hz
  | scr hz h =>
    rcases h with ⟨o, h, h'⟩ | ⟨h, h'⟩ | h
    · exact .scr hz (.inl ⟨o, st _ _ h h'⟩)
    · exact .scr hz (.inr (.inl (st _ _ h h')))
    · exact .scr hz (.inr (.inr h))
  | m h1 h2 hz => exact .m ((hf _ (by simp)).trans h1) (h2.stay st) hz
  | fm h1 h0 h2 hz => obtain ⟨o, h1⟩ := h1; exact .fm ⟨o, (st _ _ h1 h0).1⟩ (st _ _ h1 h0).2 (h2.stay st) hz
  | o h1 h2 => exact .o ((hf _ List.mem_cons_self).trans h1) (h2.stay st fun p hp => hf p (List.mem_cons_of_mem _ hp))
  | fo h1 h0 h2 => exact .fo (st _ _ h1 h0).1 (st _ _ h1 h0).2 (h2.stay st)
  | ll h1 h2 hz => exact .ll ((hf _ List.mem_cons_self).trans h1) (h2.stay st fun p hp => hf p (List.mem_cons_of_mem _ hp)) hz
  | fk h1 h0 h3 h4 h5 hz => exact .fk (st _ _ h1 h0).1 (st _ _ h1 h0).2 h3 h4 (fun x hx => (h5 x hx).stay st) hz
  | kt h1 h3 h4 hz => exact .kt ((hf _ (by simp)).trans h1) h3 (h4.stay st) hz
  | kf h1 h0 h3 hx h4 hz => exact .kf (st _ _ h1 h0).1 (st _ _ h1 h0).2 h3 hx (h4.stay st) hz
  | kb h1 h3 h4 hz => exact .kb ((hf _ (by simp)).trans h1) h3 (h4.stay st) hz
  | ob h => exact .ob (h.stay st hf)
  | fb h h0 =>
    have hh : ∀ p, p ∈ _ → H' p = H p ∧ ow' p = none := fun p hp => by
      obtain ⟨o, ho⟩ := h.there p hp
      exact ⟨(st p o ho (h0 p hp)).1.trans ho.symm, (st p o ho (h0 p hp)).2⟩
    exact .fb (h.stay st fun p hp => (hh p hp).1) fun p hp => (hh p hp).2
theorem VM.there {v : V} {m : M} {fp : List Addr} (h : VM K H ow v m fp) : ∀ p ∈ fp, ∃ o, H p = some o := by
  cases h with
  | d h => intro p hp; cases hp
  | l h1 h2 hz => intro p hp; simp at hp; subst hp; exact ⟨_, h1⟩
  | scr hz h => intro p hp; cases hp
  | m h1 h2 hz => intro p hp; simp at hp; subst hp; exact ⟨_, h1⟩
  | fm h1 h0 h2 hz => intro p hp; cases hp
  | o h1 h2 =>
    intro p hp
    rcases List.mem_cons.1 hp with rfl | hp
    · exact ⟨_, h1⟩
    · obtain ⟨vs, h⟩ := h2.there p hp
      exact ⟨_, h⟩
  | fo h1 h0 h2 => intro p hp; cases hp
  | fk h1 h0 h3 h4 h5 hz => intro p hp; cases hp
  | kt h1 h3 h4 hz => intro p hp; simp at hp; subst hp; exact ⟨_, h1⟩
  | kf h1 h0 h3 hx h4 hz => intro p hp; cases hp
  | kb h1 h3 h4 hz => intro p hp; simp at hp; subst hp; exact ⟨_, h1⟩
  | ob h => exact h.there
  | fb h h0 => intro p hp; cases hp
  | ll h1 h2 hz =>
    intro p hp
    rcases List.mem_cons.1 hp with rfl | hp
    · exact ⟨_, h1⟩
    · exact h2.there p hp
end
structure Cc where
  N : Nat
  io : Nat → Option V
  cl : Str → Option Addr
  W : WX
/-- the slots -/
structure RpE (K : PySem.W.Frag) (C : Cc) (H : Hp) (ow : Ow) (σ : L2.St) (env : Env) : Prop where
  sl : ∀ (i : Nat) (m : M), env[i]? = some (some m) → ∃ v fp, σ[i]? = some (some v) ∧ VM K H ow v m fp ∧ fp.Nodup ∧ ∀ p ∈ fp, ow p = some i
  io : ∀ (i : Nat) (v : V), C.io i = some v → σ[i]? = some (some v)
  len : env.length = C.N
  lenS : σ.length = C.N
/-- behind a piece: what is not ours stands -/
def Ext (N : Nat) (H : Hp) (ow : Ow) (H' : Hp) (ow' : Ow) : Prop := ∀ a o, H a = some o → (∀ i, ow a = some i → N < i) → H' a = some o ∧ ow' a = ow a
section
variable {K : PySem.W.Frag} {H H' H'' : Hp} {ow ow' ow'' : Ow} {N : Nat} {C : Cc} {σ : L2.St} {env : Env}
theorem Ext.refl : Ext N H ow H ow := fun _ _ h _ => ⟨h, rfl⟩
theorem Ext.trans (x : Ext N H ow H' ow') (y : Ext N H' ow' H'' ow'') : Ext N H ow H'' ow'' := fun a o h h' => by
  obtain ⟨p, q⟩ := x a o h h'
  obtain ⟨r, t⟩ := y a o p fun i e => h' i (by rw [← q]; exact e)
  exact ⟨r, t.trans q⟩
theorem Ext.stay (x : Ext N H ow H' ow') : Stay H ow H' ow' := fun a o h h' => by
  obtain ⟨p, q⟩ := x a o h fun i e => by rw [h'] at e; cases e
  exact ⟨p, q.trans h'⟩
/-- all that stood stands, owned as it was -/
def Gr (H : Hp) (ow : Ow) (H' : Hp) (ow' : Ow) : Prop := ∀ a o, H a = some o → H' a = some o ∧ ow' a = ow a
theorem Gr.refl : Gr H ow H ow := fun _ _ h => ⟨h, rfl⟩
theorem Gr.trans (x : Gr H ow H' ow') (y : Gr H' ow' H'' ow'') : Gr H ow H'' ow'' := fun a o h => by
  obtain ⟨p, q⟩ := x a o h
  obtain ⟨r, t⟩ := y a o p
  exact ⟨r, t.trans q⟩
theorem Gr.ext (x : Gr H ow H' ow') : Ext N H ow H' ow' := fun a o h _ => x a o h
theorem Gr.stay (x : Gr H ow H' ow') : Stay H ow H' ow' := fun a o h h' => let ⟨p, q⟩ := x a o h; ⟨p, q.trans h'⟩
theorem Gr.new {p : Addr} {o : HO} (h : H p = none) : Gr H ow (upd H p o) (off ow p) := fun a u e =>
  ⟨by rw [upd_ne (ne_of_none e h)]; exact e, off_ne (ne_of_none e h)⟩
theorem Gr.newG {p : Addr} {o : HO} {i : Nat} (h : H p = none) : Gr H ow (upd H p o) (give ow p i) := fun a u e =>
  ⟨by rw [upd_ne (ne_of_none e h)]; exact e, give_ne (ne_of_none e h)⟩
theorem RpE.gr (x : Gr H ow H' ow') (R : RpE K C H ow σ env) : RpE K C H' ow' σ env :=
  ⟨fun i m e => by
    obtain ⟨v, fp, h1, h2, h3, h4⟩ := R.sl i m e
    have hk : ∀ p ∈ fp, H' p = H p ∧ ow' p = ow p := fun p hp => by
      obtain ⟨o, ho⟩ := h2.there p hp
      obtain ⟨a, b⟩ := x p o ho
      exact ⟨a.trans ho.symm, b⟩
    exact ⟨v, fp, h1, h2.stay x.stay fun p hp => (hk p hp).1, h3, fun p hp => (hk p hp).2.trans (h4 p hp)⟩, R.io, R.len, R.lenS⟩
/-- an exception at d -/
def XR (K : PySem.W.Frag) (C : Cc) (H : Hp) (ow : Ow) (x : Exn) (c : Value) (dx : Option Addr) : Prop :=
  ∃ a, C.cl x.cls = some a ∧ c = .ref a ∧ ∃ d fs, dx = some d ∧ H d = some (.xd fs) ∧ ow d = none ∧ fs.map (·.1) = x.fs.map (·.1) ∧ DVs K H ow (fs.map (·.2)) (x.fs.map (·.2))
def rdAt {α β : Type} (K : PySem.W.Frag) (C : Cc) (R : Hp → Ow → β → α → Prop) (σ : L2.St) (H : Hp) (ow : Ow) (Q : β → Hp → Prop) : Rs α → Prop
  | .ok a env' => ∀ v H' ow', Ext C.N H ow H' ow' → R H' ow' v a → RpE K C H' ow' σ env' → Q v H'
  | .ex x env' => ∀ c dx H' ow', Ext C.N H ow H' ow' → XR K C H' ow' x c dx → RpE K C H' ow' σ env' → C.W c dx σ H'
  | .no => False
def rd {α β : Type} (K : PySem.W.Frag) (C : Cc) (R : Hp → Ow → β → α → Prop) (t : Env → Rs α) (σ : L2.St) (H : Hp) (Q : β → Hp → Prop) : Prop :=
  ∃ env ow, RpE K C H ow σ env ∧ rdAt K C R σ H ow Q (t env)
abbrev RE (K : PySem.W.Frag) : Hp → Ow → V → PyData → Prop := fun H ow v d => DV K H ow v d
abbrev RT : Hp → Ow → Bool → Bool → Prop := fun _ _ b c => b = c
abbrev RA (K : PySem.W.Frag) : Hp → Ow → List V → List PyData → Prop := fun H ow v d => DVs K H ow v d
abbrev RM (K : PySem.W.Frag) (N : Nat) : Hp → Ow → V → M → Prop := fun H ow v m => ∃ fp, VM K H ow v m fp ∧ fp.Nodup ∧ ∀ p ∈ fp, ow p = some N
variable {α β γ δ : Type} {R : Hp → Ow → β → α → Prop} {R1 : Hp → Ow → δ → γ → Prop} {Q : β → Hp → Prop} {r : Rs α}
theorem rdAt_from (x : Ext C.N H ow H' ow') (h : rdAt K C R σ H ow Q r) : rdAt K C R σ H' ow' Q r := by
  cases r with
  | ok a e => exact fun v H2 ow2 y => h v H2 ow2 (x.trans y)
  | ex a e => exact fun c dx H2 ow2 y => h c dx H2 ow2 (x.trans y)
  | no => exact h
theorem rdAt_mono {Q' : β → Hp → Prop} (h : rdAt K C R σ H ow Q r) (q : ∀ v H', Q v H' → Q' v H') : rdAt K C R σ H ow Q' r := by
  cases r with
  | ok a e => exact fun v H2 ow2 x y z => q _ _ (h v H2 ow2 x y z)
  | ex a e => exact h
  | no => exact h
/-- first r, then u -/
theorem rdAt_bind {r : Rs γ} {u : γ → Env → Rs α} (h : rdAt K C R σ H ow Q (r.bind u)) :
    rdAt K C R1 σ H ow (fun v H1 => ∃ a env1 ow1, Ext C.N H ow H1 ow1 ∧ R1 H1 ow1 v a ∧ RpE K C H1 ow1 σ env1 ∧ rdAt K C R σ H1 ow1 Q (u a env1)) r := by
  cases r with
  | ok a e => exact fun v H2 ow2 x y z => ⟨a, e, ow2, x, y, z, rdAt_from x h⟩
  | ex a e => exact h
  | no => exact h
/-- the last step: the value is there -/
theorem rdAt_fin {v : β} {a : α} (h : rdAt K C R σ H ow Q (.ok a env)) (x : Gr H ow H' ow') (y : R H' ow' v a) (z : RpE K C H ow σ env) : Q v H' := h v H' ow' x.ext y (z.gr x)
theorem rdAt_lift {v : β} {o : Option α} (h : rdAt K C R σ H ow Q (lift o env)) : ∃ a, o = some a ∧ rdAt K C R σ H ow Q (.ok a env) := by
  cases o with
  | none => exact h.elim
  | some a => exact ⟨a, rfl, h⟩
end
def DE (X : Cx) (C : Cc) (e : Expr) (t : Env → Rs PyData) : Prop := PE X e (rd X.K C (RE X.K) t)
def DM (X : Cx) (C : Cc) (e : Expr) (t : Env → Rs M) : Prop := PE X e (rd X.K C (RM X.K C.N) t)
def DT (X : Cx) (C : Cc) (e : Expr) (t : Env → Rs Bool) : Prop := PT X e (rd X.K C RT t)
def DW (X : Cx) (C : Cc) (e : Expr) (t : Env → Rs Bool) : Prop := PW X e (rd X.K C RT t)
def DA (X : Cx) (C : Cc) (es : List Expr) (t : Env → Rs (List PyData)) : Prop := PA X es (rd X.K C (RA X.K) t)
theorem PEweak {X : Cx} {e : Expr} {t t' : TE} (h : PE X e t) (w : ∀ σ H Q, t' σ H Q → t σ H Q) : PE X e t' := ⟨fun pins s σ H Q I q => h.run pins s σ H Q I (w σ H Q q)⟩
theorem PTweak {X : Cx} {e : Expr} {t t' : TT} (h : PT X e t) (w : ∀ σ H Q, t' σ H Q → t σ H Q) : PT X e t' := ⟨fun pins s σ H Q I q => h.run pins s σ H Q I (w σ H Q q)⟩
theorem PWweak {X : Cx} {e : Expr} {t t' : TT} (h : PW X e t) (w : ∀ σ H Q, t' σ H Q → t σ H Q) : PW X e t' := ⟨fun wh pins s σ H Q I q => h.run wh pins s σ H Q I (w σ H Q q)⟩
theorem PAweak {X : Cx} {e : List Expr} {t t' : TA} (h : PA X e t) (w : ∀ σ H Q, t' σ H Q → t σ H Q) : PA X e t' := ⟨fun pos pins s σ H Q I q => h.run pos pins s σ H Q I (w σ H Q q)⟩
theorem PSweak {X : Cx} {e : Stmt} {t t' : TS} (h : PS X e t) (w : ∀ D σ H, t' D σ H → t D σ H) : PS X e t' := ⟨fun pins s σ H D I q => h.run pins s σ H D I (w D σ H q)⟩
theorem PSsweak {X : Cx} {e : List Stmt} {t t' : TS} (h : PSs X e t) (w : ∀ D σ H, t' D σ H → t D σ H) : PSs X e t' := ⟨fun pins s σ H D I q => h.run pins s σ H D I (w D σ H q)⟩
/-- two in a row -/
theorem rd_two {K : PySem.W.Frag} {C : Cc} {α β γ δ α1 β1 : Type} {R : Hp → Ow → β → α → Prop} {R1 : Hp → Ow → δ → γ → Prop} {R2 : Hp → Ow → β1 → α1 → Prop} {σ : L2.St} {H : Hp} {Q : β → Hp → Prop}
    {ta : Env → Rs γ} {tb : Env → Rs α1} {f : γ → α1 → Env → Rs α} {k : δ → β1 → Hp → Prop}
    (h : rd K C R (fun env => (ta env).bind fun x e1 => (tb e1).bind fun y e2 => f x y e2) σ H Q)
    (st : ∀ (H H' : Hp) (ow ow' : Ow) v d, Stay H ow H' ow' → R1 H ow v d → R1 H' ow' v d)
    (hk : ∀ v w x y H ow env, R1 H ow v x → R2 H ow w y → RpE K C H ow σ env → rdAt K C R σ H ow Q (f x y env) → k v w H) :
    rd K C R1 ta σ H fun v H1 => rd K C R2 tb σ H1 fun w H2 => k v w H2 := by
  obtain ⟨env, ow, P, h⟩ := h
  refine ⟨env, ow, P, rdAt_mono (rdAt_bind h) fun v H1 ⟨x, e1, ow1, X1, V1, P1, h1⟩ => ⟨e1, ow1, P1, rdAt_mono (rdAt_bind h1) fun w H2 ⟨y, e2, ow2, X2, V2, P2, h2⟩ => ?_⟩⟩
  exact hk v w x y H2 ow2 e2 (st _ _ _ _ _ _ X2.stay V1) V2 P2 h2
theorem rd_one {K : PySem.W.Frag} {C : Cc} {α β γ δ : Type} {R : Hp → Ow → β → α → Prop} {R1 : Hp → Ow → δ → γ → Prop} {σ : L2.St} {H : Hp} {Q : β → Hp → Prop}
    {ta : Env → Rs γ} {f : γ → Env → Rs α} {k : δ → Hp → Prop}
    (h : rd K C R (fun env => (ta env).bind f) σ H Q)
    (hk : ∀ v x H ow env, R1 H ow v x → RpE K C H ow σ env → rdAt K C R σ H ow Q (f x env) → k v H) :
    rd K C R1 ta σ H k := by
  obtain ⟨env, ow, P, h⟩ := h
  exact ⟨env, ow, P, rdAt_mono (rdAt_bind h) fun v H1 ⟨x, e1, ow1, X1, V1, P1, h1⟩ => hk v x H1 ow1 e1 V1 P1 h1⟩
end DL
namespace DL
open PySem PySem.Spec PyProof.Rows L2
def Op2 (K : PySem.W.Frag) (r : R2) (f : PyData → PyData → Option PyData) : Prop :=
  ∀ v w x y o H ow (Q : VK), DV K H ow v x → DV K H ow w y → f x y = some o → (∀ v' H' ow', Gr H ow H' ow' → DV K H' ow' v' o → Q v' H') → r v w H Q
def e2 (f : PyData → PyData → Option PyData) (ta tb : Env → Rs PyData) : Env → Rs PyData := fun env => (ta env).bind fun x e1 => (tb e1).bind fun y e2 => lift (f x y) e2
def e1 (f : PyData → Option PyData) (ta : Env → Rs PyData) : Env → Rs PyData := fun env => (ta env).bind fun x e1 => lift (f x) e1
section
variable {X : Cx} {C : Cc} {a b : Expr} {ta tb : Env → Rs PyData} {pos : Pos} {f : PyData → PyData → Option PyData} {r : R2}
theorem rd_op {K : PySem.W.Frag} (hop : Op2 K r f) {σ : L2.St} {H : Hp} {Q : VK} (h : rd K C (RE K) (e2 f ta tb) σ H Q) : tOp r (rd K C (RE K) ta) (rd K C (RE K) tb) σ H Q := by
  refine rd_two (R1 := RE K) (R2 := RE K) h (fun H H' ow ow' v d st x => DV.stay st x) fun v w x y H ow env hv hw P h => ?_
  obtain ⟨o, e, h⟩ := rdAt_lift (v := V.non) h
  exact hop v w x y o H ow Q hv hw e fun v' H' ow' g d => h v' H' ow' g.ext d (P.gr g)
theorem de_op {op : Operator} (ho : OpR X (binaryOp op) r) (hop : Op2 X.K r f) (ha : DE X C a ta) (hb : DE X C b tb) : DE X C (.BinOp a op b pos) (e2 f ta tb) :=
  PEweak (pe_op ho ha hb) fun σ H Q h => rd_op hop h
theorem de_cmp {op : CmpOp} (ho : OpR X (compareOp op) r) (hop : Op2 X.K r f) (ha : DE X C a ta) (hb : DE X C b tb) (hm : behindInMarks op b = false) : DE X C (.Compare a [op] [b] pos) (e2 f ta tb) :=
  PEweak (pe_cmpR ho ha hb hm) fun σ H Q h => rd_op hop h
/-- a bool's data as a test -/
def tb1 (t : Env → Rs PyData) : Env → Rs Bool := fun env => (t env).bind fun d e => match d with | .bool b => .ok b e | _ => .no
theorem rd_tb {K : PySem.W.Frag} {t : Env → Rs PyData} {σ : L2.St} {H : Hp} {Q : Bool → Hp → Prop} (h : rd K C RT (tb1 t) σ H Q) : rd K C (RE K) t σ H fun x H1 => ∃ c, x = .bl c ∧ Q c H1 := by
  refine rd_one (R1 := RE K) h fun v x H ow env hv P h => ?_
  cases x with
  | bool b => cases hv; exact ⟨b, rfl, h b H ow Ext.refl rfl P⟩
  | _ => exact h.elim
/-- the comparison of the readings, for tests: op's reading under a weaker end -/
theorem dt_cmp {op : CmpOp} (ho : OpR X (compareOp op) r) (hop : Op2 X.K r f) (ha : DE X C a ta) (hb : DE X C b tb) (hm : behindInMarks op b = false) : DT X C (.Compare a [op] [b] pos) (tb1 (e2 f ta tb)) :=
  PTweak (pt_cmpR ho ha hb hm) fun σ H Q h => rd_op hop (rd_tb h)
/-- truth -/
def tru : PyData → Option Bool
  | .none => some false
  | .bool b => some b
  | .int i => some (i != 0)
  | .str y => if y.length ≤ 16777216 then some ((y.length : Int) != 0) else none
  | .list xs => some (!xs.isEmpty)
  | .tuple xs => some (!xs.isEmpty)
  | .dict _ => none
def tt1 (t : Env → Rs PyData) : Env → Rs Bool := fun env => (t env).bind fun d e => lift (tru d) e
theorem DVs.isEmpty {K : PySem.W.Frag} {H : Hp} {ow : Ow} : ∀ {ds : List PyData} {vs : List V}, DVs K H ow vs ds → vs.isEmpty = ds.isEmpty
  | [], _, h => by cases h; rfl
  | _ :: _, _, h => by
    cases h with
    | cons _ _ => rfl
theorem tru_V {K : PySem.W.Frag} {H : Hp} {ow : Ow} {v : V} {x : PyData} {k : Bool} (h : DV K H ow v x) (e : tru x = some k) : TruV K v H k := by
  cases h with
  | non => cases e; rfl
  | bl b => cases e; rfl
  | int i => cases e; rfl
  | str y =>
    have e : (if y.length ≤ 16777216 then some ((y.length : Int) != 0) else none) = some k := e
    by_cases hl : y.length ≤ 16777216
    · rw [if_pos hl] at e
      cases e
      exact ⟨by rw [sizeLine_eq]; exact hl, rfl⟩
    · rw [if_neg hl] at e; cases e
  | lst h1 h2 h3 hz =>
    cases e
    exact .inl ⟨_, .of h1, by rw [h3.isEmpty]⟩
  | tup h1 h3 hz =>
    cases e
    exact .inr (.inl ⟨_, h1.sq, by rw [h3.isEmpty]⟩)
theorem dt_truth {e : Expr} {t : Env → Rs PyData} (h : DE X C e t) (he : ∀ whole, isTrue e X.env whole = (do let v ← whole; standAt e.pos; holding [v] (truthy v)) := by intro _; rfl) : DT X C e (tt1 t) :=
  PTweak (pt_truth h he) fun σ H Q h => rd_one (R1 := RE X.K) h fun v x H ow env hv P h => by
    obtain ⟨k, e, h⟩ := rdAt_lift (v := true) h
    exact ⟨k, tru_V hv e, h k H ow Ext.refl rfl P⟩
def tNotD (t : Env → Rs Bool) : Env → Rs Bool := fun env => (t env).bind fun b e => .ok (!b) e
def tAndD (t u : Env → Rs Bool) : Env → Rs Bool := fun env => (t env).bind fun b e => if b = true then u e else .ok false e
def tOrD (t u : Env → Rs Bool) : Env → Rs Bool := fun env => (t env).bind fun b e => if b = true then .ok true e else u e
variable {t u : Env → Rs Bool} {rest : List Expr}
theorem dt_not (h : DT X C a t) : DT X C (.UnaryOp .Not a pos) (tNotD t) :=
  PTweak (pt_not h) fun σ H Q h => rd_one (R1 := RT) h fun v x H ow env hv P h => by subst hv; exact h _ H ow Ext.refl rfl P
theorem dw_and1 (h : DT X C a t) : DW X C (.BoolOp .And [a] pos) t := pw_and1 h
theorem dw_or1 (h : DT X C a t) : DW X C (.BoolOp .Or [a] pos) t := pw_or1 h
theorem dw_and (ha : DT X C a t) (hb : DW X C (.BoolOp .And (b :: rest) pos) u) : DW X C (.BoolOp .And (a :: b :: rest) pos) (tAndD t u) :=
  PWweak (pw_and ha hb) fun σ H Q ⟨env, ow, P, h⟩ => ⟨env, ow, P, rdAt_mono (rdAt_bind (R1 := RT) h) fun v H1 ⟨x, e1, ow1, X1, V1, P1, h1⟩ => by
    cases V1
    cases v with
    | true => exact iteT ⟨e1, ow1, P1, h1⟩
    | false => exact iteF (h1 false H1 ow1 Ext.refl rfl P1)⟩
theorem dw_or (ha : DT X C a t) (hb : DW X C (.BoolOp .Or (b :: rest) pos) u) : DW X C (.BoolOp .Or (a :: b :: rest) pos) (tOrD t u) :=
  PWweak (pw_or ha hb) fun σ H Q ⟨env, ow, P, h⟩ => ⟨env, ow, P, rdAt_mono (rdAt_bind (R1 := RT) h) fun v H1 ⟨x, e1, ow1, X1, V1, P1, h1⟩ => by
    cases V1
    cases v with
    | true => exact iteT (h1 true H1 ow1 Ext.refl rfl P1)
    | false => exact iteF ⟨e1, ow1, P1, h1⟩⟩
theorem dt_w {e : Expr} (h : DW X C e t) : DT X C e t := PW.pt h
/-- as values: a not, an and, an or of bools -/
def eNot (t : Env → Rs PyData) : Env → Rs PyData := fun env => (tb1 t env).bind fun b e => .ok (.bool (!b)) e
def eAnd (t u : Env → Rs PyData) : Env → Rs PyData := fun env => (tb1 t env).bind fun b e => if b = true then u e else .ok (.bool false) e
def eOr (t u : Env → Rs PyData) : Env → Rs PyData := fun env => (tb1 t env).bind fun b e => if b = true then .ok (.bool true) e else u e
theorem de_not (h : DE X C a ta) : DE X C (.UnaryOp .Not a pos) (eNot ta) :=
  PEweak (pe_not h) fun σ H Q ⟨env, ow, P, h⟩ => rd_tb ⟨env, ow, P, rdAt_mono (rdAt_bind (R1 := RT) h) fun v H1 ⟨x, e1, ow1, X1, V1, P1, h1⟩ => by
    cases V1; exact h1 _ H1 ow1 Ext.refl (.bl _) P1⟩
theorem de_one {op : BoolOp} (h : DE X C a ta) : DE X C (.BoolOp op [a] pos) ta := pe_one h
theorem de_and (ha : DE X C a ta) (hb : DE X C (.BoolOp .And (b :: rest) pos) tb) : DE X C (.BoolOp .And (a :: b :: rest) pos) (eAnd ta tb) :=
  PEweak (pe_and ha hb) fun σ H Q ⟨env, ow, P, h⟩ => rd_tb ⟨env, ow, P, rdAt_mono (rdAt_bind (R1 := RT) h) fun v H1 ⟨x, e1, ow1, X1, V1, P1, h1⟩ => by
    cases V1
    cases v with
    | true => exact iteT ⟨e1, ow1, P1, h1⟩
    | false => exact iteF (h1 _ H1 ow1 Ext.refl (.bl _) P1)⟩
def eIf {α : Type} (c : Env → Rs Bool) (t u : Env → Rs α) : Env → Rs α := fun env => (c env).bind fun b e => if b = true then t e else u e
theorem de_if {c : Expr} {tc : Env → Rs Bool} (hc : DT X C c tc) (ha : DE X C a ta) (hb : DE X C b tb) : DE X C (.IfExp c a b pos) (eIf tc ta tb) :=
  PEweak (pe_ifExp hc ha hb) fun σ H Q ⟨env, ow, P, h⟩ => ⟨env, ow, P, rdAt_mono (rdAt_bind (R1 := RT) h) fun v H1 ⟨x, e1, ow1, X1, V1, P1, h1⟩ => by
    cases V1
    cases v with
    | true => exact iteT ⟨e1, ow1, P1, h1⟩
    | false => exact iteF ⟨e1, ow1, P1, h1⟩⟩
/-- a op b op' c -/
def eChain (f g : PyData → PyData → Option PyData) (ta tb tc : Env → Rs PyData) : Env → Rs PyData := fun env =>
  (ta env).bind fun x e1 => (tb e1).bind fun y e2 => match f x y with
    | some (.bool true) => (tc e2).bind fun z e3 => lift (g y z) e3
    | some (.bool false) => .ok (.bool false) e2
    | _ => .no
variable {c : Expr} {tc : Env → Rs PyData} {g : PyData → PyData → Option PyData} {r' : R2}
theorem rd_chain {K : PySem.W.Frag} (h1 : Op2 K r f) (h2 : Op2 K r' g) {σ : L2.St} {H : Hp} {Q : VK} (h : rd K C (RE K) (eChain f g ta tb tc) σ H Q) : tChain r r' (rd K C (RE K) ta) (rd K C (RE K) tb) (rd K C (RE K) tc) σ H Q := by
  refine rd_two (R1 := RE K) (R2 := RE K) h (fun H H' ow ow' v d st x => DV.stay st x) fun v w x y H ow env hv hw P h => ?_
  cases e : f x y with
  | none => rw [e] at h; exact h.elim
  | some o =>
    rw [e] at h
    refine h1 v w x y o H ow _ hv hw e fun v' H' ow' G d => ?_
    cases o with
    | bool k =>
      cases d
      refine ⟨k, rfl, ?_⟩
      cases k with
      | false => exact iteF (h _ H' ow' G.ext (.bl _) (P.gr G))
      | true =>
        refine iteT ⟨env, ow', P.gr G, rdAt_mono (rdAt_bind (R1 := RE K) (rdAt_from G.ext h)) fun z H2 ⟨q, e2, ow2, X2, V2, P2, h3⟩ => ?_⟩
        obtain ⟨o, e3, h3⟩ := rdAt_lift (v := V.non) h3
        exact h2 w z y q o H2 ow2 Q ((hw.stay G.stay).stay X2.stay) V2 e3 fun v' H' ow' g d => h3 v' H' ow' g.ext d (P2.gr g)
    | _ => exact h.elim
theorem de_chain {op op' : CmpOp} (ho : OpR X (compareOp op) r) (h1 : Op2 X.K r f) (ho' : OpR X (compareOp op') r') (h2 : Op2 X.K r' g) (ha : DE X C a ta) (hb : DE X C b tb) (hc : DE X C c tc)
    (hm : lastMarks [op, op'] [b, c] = false := by with_unfolding_all rfl) : DE X C (.Compare a [op, op'] [b, c] pos) (eChain f g ta tb tc) := PEweak (pe_chain ho ho' ha hb hc hm) fun σ H Q h => rd_chain h1 h2 h
theorem dt_chain {op op' : CmpOp} (ho : OpR X (compareOp op) r) (h1 : Op2 X.K r f) (ho' : OpR X (compareOp op') r') (h2 : Op2 X.K r' g) (ha : DE X C a ta) (hb : DE X C b tb) (hc : DE X C c tc)
    (hm : lastMarks [op, op'] [b, c] = false := by with_unfolding_all rfl) : DT X C (.Compare a [op, op'] [b, c] pos) (tb1 (eChain f g ta tb tc)) := PTweak (pt_chain ho ho' ha hb hc hm) fun σ H Q h => rd_chain h1 h2 (rd_tb h)
end
def slotD (env : Env) (i : Nat) : Option PyData := match env[i]? with
  | some (some (.d x)) => some x
  | _ => none
def eVar (i : Nat) : Env → Rs PyData := fun env => lift (slotD env i) env
def eC (x : PyData) : Env → Rs PyData := fun env => .ok x env
section
variable {X : Cx} {C : Cc} {pos : Pos}
theorem slot_d {K : PySem.W.Frag} {H : Hp} {ow : Ow} {σ : L2.St} {env : Env} {i : Nat} {x : PyData} (P : RpE K C H ow σ env) (e : slotD env i = some x) : ∃ v, σ[i]? = some (some v) ∧ DV K H ow v x := by
  unfold slotD at e
  split at e
  · rename_i y h
    cases e
    obtain ⟨v, fp, h1, h2, _⟩ := P.sl i _ h
    cases h2 with
    | d h => exact ⟨v, h1, h⟩
  · cases e
theorem de_var (i : Nat) {x : Str} (hN : X.N[i]? = some x := by rfl) (hv : Vis X.env.scope x := by first | exact Or.inl rfl | exact Or.inr (Or.inl rfl) | exact Or.inr (Or.inr rfl)) (hd : (x == ("__debug__" : Str)) = false := by decide)
    (hcd : (x == ("__classdict__" : Str)) = false := by decide) : DE X C (.Name x pos) (eVar i) :=
  PEweak (pe_var hN hv hd hcd) fun σ H Q ⟨env, ow, P, h⟩ => by
    obtain ⟨x, e, h⟩ := rdAt_lift (v := V.non) h
    obtain ⟨v, h1, h2⟩ := slot_d P e
    exact ⟨v, h1, h v H ow Ext.refl h2 P⟩
theorem de_c {e : Expr} {v : V} {x : PyData} (h : PE X e (tC v)) (d : ∀ H ow, DV X.K H ow v x) : DE X C e (eC x) :=
  PEweak h fun σ H Q ⟨env, ow, P, h⟩ => h v H ow Ext.refl (d H ow) P
theorem de_int {i : Int} {j} : DE X C (.Constant (.int i) j pos) (eC (.int i)) := de_c pe_int fun _ _ => .int i
theorem de_bl {b : Bool} {j} : DE X C (.Constant (.bool b) j pos) (eC (.bool b)) := de_c pe_bl fun _ _ => .bl b
theorem de_non {j} : DE X C (.Constant .none j pos) (eC .none) := de_c pe_non fun _ _ => .non
/-- a module's constant -/
theorem de_glob {x : Str} {v : V} {u : Value} {d : PyData} (hg : Gl X x) (hm : X.mg x = some u) (r : RelV v u) (dv : ∀ H ow, DV X.K H ow v d) (hd : (x == ("__debug__" : Str)) = false := by decide) : DE X C (.Name x pos) (eC d) := de_c (pe_glob hg hm r hd) dv
def aNil : Env → Rs (List PyData) := fun env => .ok [] env
def aCons (t : Env → Rs PyData) (u : Env → Rs (List PyData)) : Env → Rs (List PyData) := fun env => (t env).bind fun x e1 => (u e1).bind fun xs e2 => .ok (x :: xs) e2
theorem da_nil : DA X C [] aNil := PAweak pa_nil fun σ H Q ⟨env, ow, P, h⟩ => h [] H ow Ext.refl .nil P
theorem da_cons {e : Expr} {es : List Expr} {t : Env → Rs PyData} {u : Env → Rs (List PyData)} (h : DE X C e t) (k : DA X C es u) (hs : starEach (e :: es) X.env = (false, eval e X.env) :: starEach es X.env := by rfl) : DA X C (e :: es) (aCons t u) :=
  PAweak (pa_cons h k hs) fun σ H Q h => rd_two (R1 := RE X.K) (R2 := RA X.K) h (fun H H' ow ow' v d st x => DV.stay st x) fun v w x y H ow env hv hw P h => h _ H ow Ext.refl (.cons hv hw) P
def eTup (t : Env → Rs (List PyData)) : Env → Rs PyData := fun env => (t env).bind fun xs e => if xs.length ≤ 16777216 then .ok (.tuple xs) e else .no
def eLst (t : Env → Rs (List PyData)) : Env → Rs PyData := fun env => (t env).bind fun xs e => if xs.length ≤ 16777216 then .ok (.list xs) e else .no
theorem de_tup {es : List Expr} {j} {t : Env → Rs (List PyData)} (h : DA X C es t) : DE X C (.Tuple es j pos) (eTup t) :=
  PEweak (DLT.pe_tupZ h) fun σ H Q h => rd_one (R1 := RA X.K) h fun v x H ow env hv P h => by
    by_cases hl : x.length ≤ 16777216
    · rw [if_pos hl] at h
      refine ⟨by rw [hv.length, sizeLine_eq]; exact hl, fun zo p hd hp => ?_⟩
      exact rdAt_fin h (Gr.new hp) (.tup (.new hd) (hv.stay (Gr.new hp).stay) hl) P
    · rw [if_neg hl] at h; exact h.elim
theorem de_lst {es : List Expr} {t : Env → Rs (List PyData)} (h : DA X C es t) : DE X C (.List es pos) (eLst t) :=
  PEweak (pe_lst h) fun σ H Q h => rd_one (R1 := RA X.K) h fun v x H ow env hv P h => by
    by_cases hl : x.length ≤ 16777216
    · rw [if_pos hl] at h
      refine ⟨by rw [hv.length, sizeLine_eq]; exact hl, fun p hp => ?_⟩
      exact rdAt_fin h (Gr.new hp) (.lst upd_same off_same (hv.stay (Gr.new hp).stay) hl) P
    · rw [if_neg hl] at h; exact h.elim
/-- an owned list -/
def mLst (t : Env → Rs (List PyData)) : Env → Rs M := fun env => (t env).bind fun xs e => if xs.length ≤ 16777216 then .ok (.l xs) e else .no
theorem dm_lst {es : List Expr} {t : Env → Rs (List PyData)} (h : DA X C es t) : DM X C (.List es pos) (mLst t) :=
  PEweak (pe_lst h) fun σ H Q h => rd_one (R1 := RA X.K) h fun v x H ow env hv P h => by
    by_cases hl : x.length ≤ 16777216
    · rw [if_pos hl] at h
      refine ⟨by rw [hv.length, sizeLine_eq]; exact hl, fun p hp => ?_⟩
      exact rdAt_fin h (Gr.newG (i := C.N) hp) ⟨[p], .l upd_same (hv.stay (Gr.newG hp).stay) hl, by simp, fun q hq => by simp at hq; subst hq; exact give_same⟩ P
    · rw [if_neg hl] at h; exact h.elim
/-- data as an end -/
def mD (t : Env → Rs PyData) : Env → Rs M := fun env => (t env).bind fun x e => .ok (.d x) e
theorem dm_d {e : Expr} {t : Env → Rs PyData} (h : DE X C e t) : DM X C e (mD t) :=
  PEweak h fun σ H Q h => rd_one (R1 := RE X.K) h fun v x H ow env hv P h => h _ H ow Ext.refl ⟨[], .d hv, by simp, fun p hp => by cases hp⟩ P
/-- an owned list is let go: it is data from now on -/
def frzM : M → Option PyData
  | .d x => some x
  | .l xs => some (.list xs)
  | .scr _ => none
  | .m _ => none
  | .fm _ => none
  | .o _ _ => none
  | .fo _ _ => none
  | .ll _ => none
  | .fk _ => none
  | .kt _ _ => none
  | .kb _ => none
  | .ob _ _ => none
def eFrz (t : Env → Rs M) : Env → Rs PyData := fun env => (t env).bind fun m e => lift (frzM m) e
theorem de_frz {e : Expr} {t : Env → Rs M} (h : DM X C e t) : DE X C e (eFrz t) :=
  PEweak h fun σ H Q ⟨env, ow, P, h⟩ => ⟨env, ow, P, rdAt_mono (rdAt_bind (R1 := RM X.K C.N) h) fun v H1 ⟨m, e1, ow1, X1, ⟨fp, V1, V2, V3⟩, P1, h1⟩ => by
    obtain ⟨x, e, h1⟩ := rdAt_lift (v := V.non) h1
    cases V1 with
    | d hd => cases e; exact h1 v H1 ow1 Ext.refl hd P1
    | @l p vs ds hp hds hz =>
      cases e
      have hq : ow1 p = some C.N := V3 p (by simp)
      have st : Stay H1 ow1 H1 (off ow1 p) := fun a o h h' => ⟨h, by
        by_cases ha : a = p
        · rw [ha]; exact off_same
        · rw [off_ne ha]; exact h'⟩
      refine h1 _ H1 (off ow1 p) (fun a o ha hf => ⟨ha, ?_⟩) (.lst hp off_same (hds.stay st) hz) ⟨fun i m hm => ?_, P1.io, P1.len, P1.lenS⟩
      · by_cases hap : a = p
        · subst hap
          exact absurd (hf _ hq) (Nat.lt_irrefl _)
        · exact off_ne hap
      · obtain ⟨w, fp, a1, a2, a3, a4⟩ := P1.sl i m hm
        refine ⟨w, fp, a1, a2.stay st fun _ _ => rfl, a3, fun q hq' => ?_⟩
        have hne : q ≠ p := fun z => by
          have z1 := a4 q hq'
          rw [z, hq] at z1
          have z2 : C.N = i := Option.some.inj z1
          have hi := (List.getElem?_eq_some_iff.mp hm).1
          have := P1.len
          omega
        rw [off_ne hne]; exact a4 q hq'
    | scr => cases e
    | m => cases e
    | fm => cases e
    | o => cases e
    | fo => cases e
    | ll => cases e
    | fk => cases e
    | kt => cases e
    | kf => cases e
    | kb => cases e
    | ob => cases e
    | fb => cases e⟩
end
end DL
namespace DL
open PySem PySem.Spec PyProof.Rows L2
def okM (i j : Int) : Bool := (decide (-(2 ^ 64) < i) && decide (i < 2 ^ 64)) || (decide (-(2 ^ 64) < j) && decide (j < 2 ^ 64))
def dAdd : PyData → PyData → Option PyData
  | .int i, .int j => some (.int (i + j))
  | .str a, .str b => if a.length + b.length ≤ 16777216 then some (.str (a ++ b)) else none
  | .tuple xs, .tuple ys => if xs.length + ys.length ≤ 16777216 then some (.tuple (xs ++ ys)) else none
  | .list xs, .list ys => if xs.length + ys.length ≤ 16777216 then some (.list (xs ++ ys)) else none
  | _, _ => none
def dSub : PyData → PyData → Option PyData
  | .int i, .int j => some (.int (i - j))
  | _, _ => none
def dMul : PyData → PyData → Option PyData
  | .int i, .int j => if okM i j = true then some (.int (i * j)) else none
  | .list xs, .int k => if k < 2 ^ 63 ∧ -(2 ^ 63) ≤ k ∧ xs.length * k.toNat ≤ 16777216 then some (.list (List.replicate k.toNat xs).flatten) else none
  | .tuple xs, .int k => if k ≤ 1000 ∧ -(2 ^ 63) ≤ k ∧ xs.length ≤ 1000 then some (.tuple (List.replicate k.toNat xs).flatten) else none
  | _, _ => none
def dDiv : PyData → PyData → Option PyData
  | .int i, .int j => if 0 < j ∧ j < 1073741824 then some (.int (i / j)) else none
  | _, _ => none
def dMod : PyData → PyData → Option PyData
  | .int i, .int j => if 0 < j then some (.int (i % j)) else none
  | _, _ => none
def dPow : PyData → PyData → Option PyData
  | .int i, .int j => if 0 ≤ j ∧ j ≤ 1000000 ∧ i.natAbs < 2 ^ 64 then some (.int (i ^ j.toNat)) else none
  | _, _ => none
/-- ints of data -/
def intsOf : List PyData → Option (List Int)
  | [] => some []
  | .int i :: r => (intsOf r).map (i :: ·)
  | _ => none
theorem intsOf_eq : ∀ {ds : List PyData} {ns : List Int}, intsOf ds = some ns → ds = ns.map PyData.int
  | [], ns, e => by cases e; rfl
  | d :: ds, ns, e => by
    cases d with
    | int i =>
      cases h : intsOf ds with
      | none => simp [intsOf, h] at e
      | some ms =>
        simp [intsOf, h] at e
        subst e
        rw [intsOf_eq h]
        rfl
    | _ => cases e
@[simp] theorem intsOf_map : ∀ (ns : List Int), intsOf (ns.map PyData.int) = some ns
  | [] => rfl
  | n :: ns => by simp [intsOf, intsOf_map ns]
def dCmpI (p : Int → Int → Bool) : PyData → PyData → Option PyData
  | .int i, .int j => some (.bool (p i j))
  | _, _ => none
def dLt : PyData → PyData → Option PyData
  | .int i, .int j => some (.bool (decide (i < j)))
  | .tuple xs, .tuple ys => (intsOf xs).bind fun ns => (intsOf ys).map fun ms => .bool (HT.lexLt ns ms)
  | _, _ => none
def dLe := dCmpI fun i j => decide (i ≤ j)
def dGt := dCmpI fun i j => decide (j < i)
def dGe := dCmpI fun i j => decide (j ≤ i)
def dEq (x y : PyData) : Option PyData := if SeqAt.shaped x = true ∧ SeqAt.shaped y = true then some (.bool (PyData.eqv x y)) else none
def dNe (x y : PyData) : Option PyData := if SeqAt.shaped x = true ∧ SeqAt.shaped y = true then some (.bool (!PyData.eqv x y)) else none
def isNon : PyData → Bool
  | .none => true
  | _ => false
def dIs : PyData → PyData → Option PyData
  | x, .none => some (.bool (isNon x))
  | .bool a, .bool b => some (.bool (decide (a = b)))
  | _, _ => none
def dIsNot : PyData → PyData → Option PyData
  | x, .none => some (.bool (!isNon x))
  | .bool a, .bool b => some (.bool (!decide (a = b)))
  | _, _ => none
def dNeg : PyData → Option PyData
  | .int i => some (.int (-i))
  | _ => none
section
variable {X : Cx} {K : PySem.W.Frag}
def rAddAll (K : PySem.W.Frag) : R2 := fun x y H Q => rI0 (fun i j => .int (i + j)) x y H Q ∨ (∃ i j, x = .str i ∧ y = .str j ∧ i.length + j.length ≤ sizeLine ∧ Q (.str (i ++ j)) H) ∨ DLT.zCat K x y H Q ∨ rCat x y H Q
theorem op_addAll : OpR X (binaryOp .Add) (rAddAll X.K) := op_add.or (op_add_str.or (DLT.op_catZ.or op_cat))
theorem if_some {α : Type} {p : Prop} [Decidable p] {a o : α} (h : (if p then some a else none) = some o) : p ∧ a = o := by
  by_cases hp : p
  · rw [if_pos hp] at h; exact ⟨hp, Option.some.inj h⟩
  · rw [if_neg hp] at h; cases h
theorem o2_add : Op2 K (rAddAll K) dAdd := by
  intro v w x y o H ow Q hv hw e q
  cases hv with
  | int i => cases hw with
    | int j => cases e; exact .inl ⟨i, j, rfl, rfl, q _ _ _ .refl (.int _)⟩
    | _ => cases e
  | str a => cases hw with
    | str b =>
      obtain ⟨h, rfl⟩ := if_some e
      exact .inr (.inl ⟨a, b, rfl, rfl, by rw [sizeLine_eq]; exact h, q _ _ _ .refl (.str _)⟩)
    | _ => cases e
  | @lst a xs ds h1 h2 h3 hz => cases hw with
    | @lst b ys es k1 k2 k3 hz' =>
      obtain ⟨h, rfl⟩ := if_some e
      exact .inr (.inr (.inr ⟨a, b, xs, ys, rfl, rfl, h1, k1, by rw [sizeLine_eq, h3.length, k3.length]; exact h, fun p hp => q _ _ _ (.new hp) (.lst upd_same off_same ((h3.append k3).stay (Gr.new hp).stay) (by rw [List.length_append]; exact h))⟩))
    | _ => cases e
  | @tup a xs ds h1 h3 hz => cases hw with
    | @tup b ys es k1 k3 hz' =>
      obtain ⟨h, rfl⟩ := if_some e
      refine .inr (.inr (.inl ⟨a, b, xs, ys, rfl, rfl, h1.sq, k1.sq, by rw [sizeLine_eq, h3.length, k3.length]; exact h, fun hx => ?_, fun _ hy => ?_, fun _ _ zo p hd hp => q _ _ _ (.new hp) (.tup (.new hd) ((h3.append k3).stay (Gr.new hp).stay) (by rw [List.length_append]; exact h))⟩))
      · subst hx; cases h3; exact q _ _ _ .refl (.tup k1 k3 hz')
      · subst hy; cases k3; rw [List.append_nil] at q; exact q _ _ _ .refl (.tup h1 h3 hz)
    | _ => cases e
  | _ => cases e
theorem o2_sub : Op2 K (rI0 fun i j => .int (i - j)) dSub := by
  intro v w x y o H ow Q hv hw e q
  cases hv with
  | int i => cases hw with
    | int j => cases e; exact ⟨i, j, rfl, rfl, q _ _ _ .refl (.int _)⟩
    | _ => cases e
  | _ => cases e
def rMulAll (K : PySem.W.Frag) : R2 := fun x y H Q => rI CMul (fun i j => .int (i * j)) x y H Q ∨ rRep x y H Q ∨ DLT.zRep K x y H Q
theorem op_mulAll : OpR X (binaryOp .Mult) (rMulAll X.K) := op_mul.or (op_rep.or DLT.op_repZ)
theorem DVs.flat {H : Hp} {ow : Ow} {ds : List PyData} {vs : List V} (h : DVs K H ow vs ds) : ∀ n, DVs K H ow (List.replicate n vs).flatten (List.replicate n ds).flatten
  | 0 => .nil
  | n + 1 => by
    rw [List.replicate_succ, List.replicate_succ, List.flatten_cons, List.flatten_cons]
    exact h.append (h.flat n)
theorem o2_mul : Op2 K (rMulAll K) dMul := by
  intro v w x y o H ow Q hv hw e q
  cases hv with
  | int i => cases hw with
    | int j =>
      obtain ⟨h, rfl⟩ := if_some e
      refine .inl ⟨i, j, rfl, rfl, ?_, q _ _ _ .refl (.int _)⟩
      unfold okM at h
      simpa [CMul] using h
    | _ => cases e
  | @lst a xs ds h1 h2 h3 hz => cases hw with
    | int k =>
      obtain ⟨h, rfl⟩ := if_some e
      exact .inr <| .inl ⟨a, k, xs, rfl, rfl, h1, h.2.1, h.1, by rw [sizeLine_eq, h3.length]; exact h.2.2, fun p hp => q _ _ _ (.new hp) (.lst upd_same off_same ((h3.flat _).stay (Gr.new hp).stay) (by rw [List.length_flatten, List.map_replicate, List.sum_replicate_nat, Nat.mul_comm]; exact h.2.2))⟩
    | _ => cases e
  | @tup a xs ds h1 h3 hz => cases hw with
    | int k =>
      obtain ⟨h, rfl⟩ := if_some e
      refine .inr <| .inr ⟨a, k, xs, rfl, rfl, h1.sq, h.2.1, h.1, by rw [h3.length]; exact h.2.2, fun hs => ?_, fun _ _ zo p hd hp => q _ _ _ (.new hp) (.tup (.new hd) ((h3.flat _).stay (Gr.new hp).stay) (by
        rw [List.length_flatten, List.map_replicate, List.sum_replicate_nat]
        have a1 : k.toNat * ds.length ≤ 1000 * 1000 := Nat.mul_le_mul (by omega) h.2.2
        omega))⟩
      rcases hs with rfl | rfl
      · cases h3
        have e0 : (List.replicate k.toNat ([] : List PyData)).flatten = [] := by simp
        rw [e0] at q
        exact q _ _ _ .refl (.tup h1 .nil hz)
      · have e0 : (List.replicate (1 : Int).toNat ds).flatten = ds := by
          show ([ds] : List (List PyData)).flatten = ds
          simp
        rw [e0] at q
        exact q _ _ _ .refl (.tup h1 h3 hz)
    | _ => cases e
  | _ => cases e
theorem o2_rI {Cn : Int → Int → Prop} {g : Int → Int → Int} {f : PyData → PyData → Option PyData} (hf : ∀ i j o, f (.int i) (.int j) = some o → Cn i j ∧ o = .int (g i j))
    (hn : ∀ x y o, f x y = some o → ∃ i j, x = .int i ∧ y = .int j) : Op2 K (rI Cn fun i j => .int (g i j)) f := by
  intro v w x y o H ow Q hv hw e q
  obtain ⟨i, j, rfl, rfl⟩ := hn x y o e
  cases hv
  cases hw
  obtain ⟨h, rfl⟩ := hf i j o e
  exact ⟨i, j, rfl, rfl, h, q _ _ _ .refl (.int _)⟩
theorem o2_rB0 {g : Int → Int → Bool} {f : PyData → PyData → Option PyData} (hf : ∀ i j o, f (.int i) (.int j) = some o → o = .bool (g i j))
    (hn : ∀ x y o, f x y = some o → ∃ i j, x = .int i ∧ y = .int j) : Op2 K (rI0 fun i j => .bl (g i j)) f := by
  intro v w x y o H ow Q hv hw e q
  obtain ⟨i, j, rfl, rfl⟩ := hn x y o e
  cases hv
  cases hw
  obtain rfl := hf i j o e
  exact ⟨i, j, rfl, rfl, q _ _ _ .refl (.bl _)⟩
theorem o2_div : Op2 K (rI CDiv fun i j => .int (i / j)) dDiv := o2_rI (fun i j o h => ⟨(if_some h).1, (if_some h).2.symm⟩) fun x y o h => by
  cases x <;> cases y <;> first | exact ⟨_, _, rfl, rfl⟩ | cases h
theorem o2_mod : Op2 K (rI (fun _ j => 0 < j) fun i j => .int (i % j)) dMod := o2_rI (fun i j o h => ⟨(if_some h).1, (if_some h).2.symm⟩) fun x y o h => by
  cases x <;> cases y <;> first | exact ⟨_, _, rfl, rfl⟩ | cases h
theorem o2_pow : Op2 K (rI CPow fun i j => .int (i ^ j.toNat)) dPow := o2_rI (fun i j o h => ⟨(if_some h).1, (if_some h).2.symm⟩) fun x y o h => by
  cases x <;> cases y <;> first | exact ⟨_, _, rfl, rfl⟩ | cases h
theorem o2_cmp (p : Int → Int → Bool) : Op2 K (rI0 fun i j => .bl (p i j)) (dCmpI p) := o2_rB0 (fun i j o h => by cases h; rfl) fun x y o h => by
  cases x <;> cases y <;> first | exact ⟨_, _, rfl, rfl⟩ | cases h
def rLtA (K : PySem.W.Frag) : R2 := fun x y H Q => rI0 (fun i j => .bl (decide (i < j))) x y H Q ∨ rLtT K x y H Q
theorem op_ltA (hu : X.A.units + 65 < cLine) : OpR X (compareOp .Lt) (rLtA X.K) := op_lt.or (op_ltT (by omega))
theorem o2_lt : Op2 K (rLtA K) dLt := by
  intro v w x y o H ow Q hv hw e q
  cases hv with
  | int i => cases hw with
    | int j => cases e; exact .inl ⟨i, j, rfl, rfl, q _ _ _ .refl (.bl _)⟩
    | _ => cases e
  | @tup a xs ds h1 h3 hz => cases hw with
    | @tup b ys es k1 k3 hz' =>
      cases hn : intsOf ds with
      | none => simp [dLt, hn] at e
      | some ns =>
        cases hm : intsOf es with
        | none => simp [dLt, hn, hm] at e
        | some ms =>
          simp only [dLt, hn, hm, Option.bind_some, Option.map_some] at e
          cases e
          have e1 := intsOf_eq hn
          have e2 := intsOf_eq hm
          subst e1
          subst e2
          have f1 := h3.ints
          have f2 := k3.ints
          subst f1
          subst f2
          exact .inr ⟨a, b, ns, ms, rfl, rfl, h1.sq, k1.sq, q _ _ _ .refl (.bl _)⟩
    | _ => cases e
  | _ => cases e
theorem o2_le : Op2 K (rI0 fun i j => .bl (decide (i ≤ j))) dLe := o2_cmp _
theorem o2_gt : Op2 K (rI0 fun i j => .bl (decide (j < i))) dGt := o2_cmp _
theorem o2_ge : Op2 K (rI0 fun i j => .bl (decide (j ≤ i))) dGe := o2_cmp _
theorem o2_eq : Op2 K (rEqD K) dEq := by
  intro v w x y o H ow Q hv hw e q
  obtain ⟨h, rfl⟩ := if_some e
  exact ⟨x, y, hv.dp, hw.dp, h.1, h.2, q _ _ _ .refl (.bl _)⟩
theorem o2_ne : Op2 K (rNeD K) dNe := by
  intro v w x y o H ow Q hv hw e q
  obtain ⟨h, rfl⟩ := if_some e
  exact ⟨x, y, hv.dp, hw.dp, h.1, h.2, q _ _ _ .refl (.bl _)⟩
def rIsAll : R2 := fun x y H Q => (y = .non ∧ Q (.bl (decide (x = .non))) H) ∨ ∃ a b : Bool, x = .bl a ∧ y = .bl b ∧ Q (.bl (decide (a = b))) H
def rIsNotAll : R2 := fun x y H Q => (y = .non ∧ Q (.bl (!decide (x = .non))) H) ∨ ∃ a b : Bool, x = .bl a ∧ y = .bl b ∧ Q (.bl (!decide (a = b))) H
theorem op_isAll : OpR X (compareOp .Is) rIsAll := op_isN.or op_isBl
theorem op_isNotAll : OpR X (compareOp .IsNot) rIsNotAll := op_notN.or op_notBl
theorem isNon_V {H : Hp} {ow : Ow} {v : V} {x : PyData} (h : DV K H ow v x) : decide (v = .non) = isNon x := by
  cases h <;> rfl
theorem o2_is : Op2 K rIsAll dIs := by
  intro v w x y o H ow Q hv hw e q
  cases hw with
  | non =>
    have e' : o = .bool (isNon x) := by cases x <;> (cases e; rfl)
    subst e'
    exact .inl ⟨rfl, by rw [isNon_V hv]; exact q _ _ _ .refl (.bl _)⟩
  | bl b => cases hv with
    | bl a => cases e; exact .inr ⟨a, b, rfl, rfl, q _ _ _ .refl (.bl _)⟩
    | _ => cases e
  | _ => cases x <;> cases e
theorem o2_isNot : Op2 K rIsNotAll dIsNot := by
  intro v w x y o H ow Q hv hw e q
  cases hw with
  | non =>
    have e' : o = .bool (!isNon x) := by cases x <;> (cases e; rfl)
    subst e'
    exact .inl ⟨rfl, by rw [isNon_V hv]; exact q _ _ _ .refl (.bl _)⟩
  | bl b => cases hv with
    | bl a => cases e; exact .inr ⟨a, b, rfl, rfl, q _ _ _ .refl (.bl _)⟩
    | _ => cases e
  | _ => cases x <;> cases e
variable {C : Cc} {a b : Expr} {pos : Pos} {ta tb : Env → Rs PyData}
theorem de_neg (ha : DE X C a ta) : DE X C (.UnaryOp .USub a pos) (e1 dNeg ta) :=
  PEweak (pe_un un_neg ha) fun σ H Q h => rd_one (R1 := RE X.K) h fun v x H ow env hv P h => by
    obtain ⟨o, e, h⟩ := rdAt_lift (v := V.non) h
    cases x with
    | int i => cases hv; cases e; exact ⟨i, rfl, h _ _ _ Ext.refl (.int _) P⟩
    | _ => cases e
theorem CallR.or {f : Value} {r r' : List V → Hp → VK → Prop} (h : CallR X f r) (h' : CallR X f r') : CallR X f (fun xs H Q => r xs H Q ∨ r' xs H Q) := by
  intro pins s σ H xs us Q I rv q
  rcases q with q | q
  · exact h pins s σ H xs us Q I rv q
  · exact h' pins s σ H xs us Q I rv q
def OpB (K : PySem.W.Frag) (r : List V → Hp → VK → Prop) (f : List PyData → Option PyData) : Prop :=
  ∀ vs xs o H ow (Q : VK), DVs K H ow vs xs → f xs = some o → (∀ v' H' ow', Gr H ow H' ow' → DV K H' ow' v' o → Q v' H') → r vs H Q
def eB (f : List PyData → Option PyData) (t : Env → Rs (List PyData)) : Env → Rs PyData := fun env => (t env).bind fun xs e => lift (f xs) e
theorem rd_B {r : List V → Hp → VK → Prop} {f : List PyData → Option PyData} (hf : OpB K r f) {t : Env → Rs (List PyData)} {σ : L2.St} {H : Hp} {Q : VK} (h : rd K C (RE K) (eB f t) σ H Q) : tCB r (rd K C (RA K) t) σ H Q :=
  rd_one (R1 := RA K) h fun v x H ow env hv P h => by
    obtain ⟨o, e, h⟩ := rdAt_lift (v := V.non) h
    exact hf v x o H ow Q hv e fun v' H' ow' g d => h v' H' ow' g.ext d (P.gr g)
theorem de_B {x : Str} {id : String} {e : Expr} {es : List Expr} {p : Pos} {r : List V → Hp → VK → Prop} {f : List PyData → Option PyData} {t : Env → Rs (List PyData)} (hc : CallR X (.builtin id) r) (hf : OpB X.K r f) (hg : Gl X x) (hm : X.mg x = none) (hv : bootBuiltins x = some (.builtin id)) (ha : DA X C (e :: es) t)
    (hn : x ≠ "__name__" := by decide) (hdb : (x == ("__debug__" : Str)) = false := by decide)
    (he : starEach (e :: es) X.env = (false, eval e X.env) :: starEach es X.env := by rfl) (hpl : (backTo pos (starEach es X.env)).any (·.1) = false := by rfl) : DE X C (.Call (.Name x p) (e :: es) [] pos) (eB f t) :=
  PEweak (pe_callB hc hg hm hv ha hn hdb he hpl) fun σ H Q h => rd_B hf h
theorem de_Ty {x : Str} {T : String} {e : Expr} {es : List Expr} {p : Pos} {r : List V → Hp → VK → Prop} {f : List PyData → Option PyData} {t : Env → Rs (List PyData)} (hc : CallR X (.type T) r) (hf : OpB X.K r f) (hg : Gl X x) (hm : X.mg x = none) (hv : bootBuiltins x = some (.type T)) (ha : DA X C (e :: es) t)
    (hn : x ≠ "__name__" := by decide) (hdb : (x == ("__debug__" : Str)) = false := by decide)
    (he : starEach (e :: es) X.env = (false, eval e X.env) :: starEach es X.env := by rfl) (hpl : (backTo pos (starEach es X.env)).any (·.1) = false := by rfl) : DE X C (.Call (.Name x p) (e :: es) [] pos) (eB f t) :=
  PEweak (pe_callTy hc hg hm hv ha hn hdb he hpl) fun σ H Q h => rd_B hf h
def bLen : List PyData → Option PyData
  | [.list xs] => some (.int xs.length)
  | [.tuple xs] => some (.int xs.length)
  | [.str x] => if x.length ≤ 16777216 then some (.int x.length) else none
  | _ => none
theorem DVs.one {H : Hp} {ow : Ow} {x : PyData} {vs : List V} (h : DVs K H ow vs [x]) : ∃ v, vs = [v] ∧ DV K H ow v x := by
  cases h with
  | cons a b => cases b; exact ⟨_, rfl, a⟩
theorem DVs.two {H : Hp} {ow : Ow} {x y : PyData} {vs : List V} (h : DVs K H ow vs [x, y]) : ∃ v w, vs = [v, w] ∧ DV K H ow v x ∧ DV K H ow w y := by
  cases h with
  | cons a b => obtain ⟨w, rfl, c⟩ := b.one; exact ⟨_, _, rfl, a, c⟩
theorem ob_len : OpB K (fun xs H Q => ∃ x n, xs = [x] ∧ LenV K x H n ∧ Q (.int n) H) bLen := by
  intro vs xs o H ow Q h e q
  unfold bLen at e
  split at e
  · obtain ⟨v, rfl, d⟩ := h.one
    cases d with
    | lst h1 h2 h3 hz => cases e; exact ⟨_, _, rfl, .inl ⟨_, .of h1, rfl⟩, by rw [h3.length]; exact q _ _ _ .refl (.int _)⟩
  · obtain ⟨v, rfl, d⟩ := h.one
    cases d with
    | tup h1 h3 hz => cases e; exact ⟨_, _, rfl, .inr ⟨_, h1.sq, rfl⟩, by rw [h3.length]; exact q _ _ _ .refl (.int _)⟩
  · obtain ⟨v, rfl, d⟩ := h.one
    obtain ⟨hl, rfl⟩ := if_some e
    cases d with
    | str x => exact ⟨_, _, rfl, ⟨by rw [sizeLine_eq]; exact hl, rfl⟩, q _ _ _ .refl (.int _)⟩
  · cases e
def bAbs : List PyData → Option PyData
  | [.int i] => some (.int (if i < 0 then -i else i))
  | _ => none
theorem ob_abs : OpB K (fun xs H Q => ∃ i, xs = [.int i] ∧ Q (.int (if i < 0 then -i else i)) H) bAbs := by
  intro vs xs o H ow Q h e q
  unfold bAbs at e
  split at e
  · obtain ⟨v, rfl, d⟩ := h.one
    cases d; cases e; exact ⟨_, rfl, q _ _ _ .refl (.int _)⟩
  · cases e
def bInt : List PyData → Option PyData
  | [.int i] => some (.int i)
  | [.bool k] => some (.int (if k then 1 else 0))
  | _ => none
theorem ob_int : OpB K (fun xs H Q => (∃ i, xs = [.int i] ∧ Q (.int i) H) ∨ ∃ k, xs = [.bl k] ∧ Q (.int (if k then 1 else 0)) H) bInt := by
  intro vs xs o H ow Q h e q
  unfold bInt at e
  split at e
  · obtain ⟨v, rfl, d⟩ := h.one
    cases d; cases e; exact .inl ⟨_, rfl, q _ _ _ .refl (.int _)⟩
  · obtain ⟨v, rfl, d⟩ := h.one
    cases d; cases e; exact .inr ⟨_, rfl, q _ _ _ .refl (.int _)⟩
  · cases e
def boolsOf : List PyData → Option (List Bool)
  | [] => some []
  | .bool i :: r => (boolsOf r).map (i :: ·)
  | _ => none
theorem boolsOf_eq : ∀ {ds : List PyData} {ns : List Bool}, boolsOf ds = some ns → ds = ns.map PyData.bool
  | [], ns, e => by cases e; rfl
  | d :: ds, ns, e => by
    cases d with
    | bool i =>
      cases h : boolsOf ds with
      | none => simp [boolsOf, h] at e
      | some ms =>
        simp [boolsOf, h] at e
        subst e
        rw [boolsOf_eq h]
        rfl
    | _ => cases e
@[simp] theorem boolsOf_map : ∀ (ns : List Bool), boolsOf (ns.map PyData.bool) = some ns
  | [] => rfl
  | n :: ns => by simp [boolsOf, boolsOf_map ns]
/-- items of a list or a tuple -/
def seqOf : PyData → Option (List PyData)
  | .list xs => some xs
  | .tuple xs => some xs
  | _ => none
def rSumT (K : PySem.W.Frag) : List V → Hp → VK → Prop := fun vs H Q => ∃ (a : Addr) (ns : List Int), vs = [V.ref a] ∧ SqT K H a (ns.map V.int) ∧ Q (.int ns.sum) H
theorem cr_sumT (hc : X.calm = true) : CallR X (.builtin "sum") (rSumT X.K) := by
  intro pins s σ H vs us Q I r h
  obtain ⟨a, ns, rfl, hs, q⟩ := h
  obtain ⟨its, rv, hl, _⟩ := I.tuple hs
  rw [Vals.ref1 r]
  have hi := rv.ints
  obtain ⟨xs, e⟩ := hi.allInts.items
  have hn : numsOf (intItems xs).toList = ns := by rw [← e]; exact hi.numsOf
  rw [nums_intItems] at hn
  rw [e] at hl
  have hlt : a < s.heap.objs.size := hl.lt
  refine call_sum_walkG (iter_tuple hl ?_)
  refine ⟨_, _, _, _, _, _, numAt xs, rfl, Walks.tuple (A := X.A.in1) (I.ok.hd hc) _ a (Nat.ne_of_lt hlt) (intItems xs), ⟨⟨_, Heap.get?_push_size _ rfl, rfl, rfl⟩, ?_⟩, fun b hb => ?_, (fun _ _ => intItems_at), fun h' tk t' hk => ?_⟩
  · obtain ⟨o, ho, hcl, hd⟩ := hl
    exact ⟨o, Heap.get?_push_of_some _ ho, hcl, hd⟩
  · show b < (s.heap.push _).objs.size
    rw [Heap.size_push]
    have hb' : b = s.heap.objs.size ∨ b = a := by simpa using hb
    rcases hb' with z | z
    · rw [z]; exact Nat.lt_succ_self _
    · rw [z]; exact Nat.lt_succ_of_lt hlt
  · refine ⟨.int _, H, I.kept fun b o eo => hk b o (fun hmem => ?_) (Heap.get?_push_of_some _ eo), ⟨_, rfl⟩, ?_⟩
    · have z : b = s.heap.objs.size := by simpa using hmem
      exact absurd (z ▸ Heap.lt_size eo) (Nat.lt_irrefl _)
    · have e2 : preSum (numAt xs) (intItems xs).size = ns.sum := by
        rw [show (intItems xs).size = xs.size by simp [intItems], preSum_eq, List.take_of_length_le (by simp), hn]
      rw [e2]; exact q
def bSum : List PyData → Option PyData
  | [x] => (seqOf x).bind fun ds => (intsOf ds).map fun ns => .int ns.sum
  | _ => none
theorem ob_sum : OpB K (fun vs H Q => rSum K vs H Q ∨ rSumT K vs H Q) bSum := by
  intro vs xs o H ow Q h e q
  match xs, h, e with
  | [x], h, e =>
    obtain ⟨v, rfl, d⟩ := h.one
    cases d with
    | @lst a vs ds h1 h2 h3 hz =>
      cases hn : intsOf ds with
      | none => simp [bSum, seqOf, hn] at e
      | some ns =>
        simp [bSum, seqOf, hn] at e
        subst e
        have := intsOf_eq hn
        subst this
        have := h3.ints
        subst this
        exact .inl ⟨a, ns, rfl, .of h1, q _ _ _ .refl (.int _)⟩
    | @tup a vs ds h1 h3 hz =>
      cases hn : intsOf ds with
      | none => simp [bSum, seqOf, hn] at e
      | some ns =>
        simp [bSum, seqOf, hn] at e
        subst e
        have := intsOf_eq hn
        subst this
        have := h3.ints
        subst this
        exact .inr ⟨a, ns, rfl, h1.sq, q _ _ _ .refl (.int _)⟩
    | _ => cases e
def bAll : List PyData → Option PyData
  | [.list ds] => (boolsOf ds).map fun ns => .bool (ns.all id)
  | _ => none
def bAny : List PyData → Option PyData
  | [.list ds] => (boolsOf ds).map fun ns => .bool (ns.any id)
  | _ => none
theorem ob_all : OpB K (rAll K) bAll := by
  intro vs xs o H ow Q h e q
  unfold bAll at e
  split at e
  · rename_i ds
    obtain ⟨v, rfl, d⟩ := h.one
    cases hn : boolsOf ds with
    | none => simp [hn] at e
    | some ns =>
      simp only [hn, Option.map_some] at e
      cases e
      have := boolsOf_eq hn
      subst this
      cases d with
      | lst h1 h2 h3 hz =>
        have := h3.bls
        subst this
        exact ⟨_, ns, rfl, .of h1, q _ _ _ .refl (.bl _)⟩
  · cases e
/-- tuple(x), list(x) of lists and tuples -/
def bTup : List PyData → Option PyData
  | [.list ds] => some (.tuple ds)
  | [.tuple ds] => some (.tuple ds)
  | _ => none
theorem ob_tup : OpB K (DLT.zTupOf K) bTup := by
  intro vs xs o H ow Q h e q
  unfold bTup at e
  split at e
  · obtain ⟨v, rfl, d⟩ := h.one
    cases e
    cases d with
    | lst h1 h2 h3 hz => exact ⟨_, _, rfl, .inl ⟨.of h1, fun zo l hd hl => q _ _ _ (.new hl) (.tup (.new hd) (h3.stay (Gr.new hl).stay) hz)⟩⟩
  · obtain ⟨v, rfl, d⟩ := h.one
    cases e
    cases d with
    | tup h1 h3 hz => exact ⟨_, _, rfl, .inr ⟨h1.sq, q _ _ _ .refl (.tup h1 h3 hz)⟩⟩
  · cases e
def bList : List PyData → Option PyData
  | [.list ds] => some (.list ds)
  | [.tuple ds] => some (.list ds)
  | _ => none
/-- an owned list from list(x), or from any built-in that hands back a new list -/
def mList (t : Env → Rs (List PyData)) : Env → Rs M := fun env => (t env).bind fun xs e => match xs with
  | [.list ds] => .ok (.l ds) e
  | [.tuple ds] => .ok (.l ds) e
  | _ => .no
theorem dm_list {e : Expr} {es : List Expr} {p : Pos} {t : Env → Rs (List PyData)} (hg : Gl X "list") (hm : X.mg "list" = none) (hv : bootBuiltins "list" = some (.type "list")) (ha : DA X C (e :: es) t)
    (he : starEach (e :: es) X.env = (false, eval e X.env) :: starEach es X.env := by rfl) (hpl : (backTo pos (starEach es X.env)).any (·.1) = false := by rfl) : DM X C (.Call (.Name "list" p) (e :: es) [] pos) (mList t) :=
  PEweak (pe_callTy call_list_of hg hm hv ha (by decide) (by decide) he hpl) fun σ H Q h => rd_one (R1 := RA X.K) h fun v x H ow env hv P h => by
    match x, h with
    | [.list ds], h =>
      obtain ⟨w, rfl, d⟩ := hv.one
      cases d with
      | lst h1 h2 h3 hz =>
        exact ⟨_, _, rfl, .inl (.of h1), fun l hl => rdAt_fin h (Gr.newG (i := C.N) hl) ⟨[l], .l upd_same (h3.stay (Gr.newG hl).stay) hz, by simp, fun q hq => by simp at hq; subst hq; exact give_same⟩ P⟩
    | [.tuple ds], h =>
      obtain ⟨w, rfl, d⟩ := hv.one
      cases d with
      | tup h1 h3 hz =>
        exact ⟨_, _, rfl, .inr h1.sq, fun l hl => rdAt_fin h (Gr.newG (i := C.N) hl) ⟨[l], .l upd_same (h3.stay (Gr.newG hl).stay) hz, by simp, fun q hq => by simp at hq; subst hq; exact give_same⟩ P⟩
    | [], h => exact h.elim
    | [.none], h => exact h.elim
    | [.bool _], h => exact h.elim
    | [.int _], h => exact h.elim
    | [.str _], h => exact h.elim
    | [.dict _], h => exact h.elim
    | x :: y :: r, h => cases x <;> exact False.elim h
/-- list(script) -/
def slotScr (env : Env) (i : Nat) : Option (List Int) := match env[i]? with
  | some (some (.scr ns)) => some ns
  | _ => none
def eListScr (i : Nat) : Env → Rs PyData := fun env => lift ((slotScr env i).map fun ns => .list (ns.map .int)) env
theorem slot_scr {H : Hp} {ow : Ow} {σ : L2.St} {env : Env} {i : Nat} {ns : List Int} (P : RpE K C H ow σ env) (e : slotScr env i = some ns) : ∃ a, σ[i]? = some (some (.ref a)) ∧ SqL K H a (ns.map V.int) ∧ ns.length ≤ 16777216 := by
  unfold slotScr at e
  split at e
  · rename_i y h
    cases e
    obtain ⟨v, fp, h1, h2, _⟩ := P.sl i _ h
    cases h2 with
    | scr hz h =>
      refine ⟨_, h1, ?_, hz⟩
      rcases h with ⟨o, h, _⟩ | ⟨h, _⟩ | h
      · exact .inl (.inr ⟨o, h⟩)
      · exact .of h
      · exact h H
  · cases e
theorem de_listScr (i : Nat) {x : Str} {p p2 : Pos} (hg : Gl X "list") (hm : X.mg "list" = none) (hv : bootBuiltins "list" = some (.type "list")) (ha : PA X [.Name x p2] (tCons (tVar i) tNil))
    (he : starEach [.Name x p2] X.env = (false, eval (.Name x p2) X.env) :: starEach [] X.env := by rfl) (hpl : (backTo pos (starEach [] X.env)).any (·.1) = false := by rfl) : DE X C (.Call (.Name "list" p) [.Name x p2] [] pos) (eListScr i) :=
  PEweak (pe_callTy call_list_of hg hm hv ha (by decide) (by decide) he hpl) fun σ H Q ⟨env, ow, P, h⟩ => by
    obtain ⟨d, e, h⟩ := rdAt_lift (v := V.non) h
    cases hn : slotScr env i with
    | none => rw [hn] at e; cases e
    | some ns =>
      rw [hn] at e
      cases e
      obtain ⟨a, h1, h2, hz⟩ := slot_scr P hn
      refine ⟨_, h1, a, _, rfl, .inl h2, fun l hl => rdAt_fin h (Gr.new hl) (.lst upd_same off_same (DVs.of_ints ns) (by rw [List.length_map]; exact hz)) P⟩
end
end DL
namespace DL
open PySem PySem.Spec PyProof.Rows L2
section
variable {K : PySem.W.Frag} {C : Cc} {H H' : Hp} {ow ow' : Ow} {σ : L2.St} {env : Env}
def IoFree (C : Cc) (i : Nat) : Prop := C.io i = none
theorem RpE.set (P : RpE K C H ow σ env) {i : Nat} {v : V} {m : M} {fp : List Addr} (h : VM K H ow v m fp) (nd : fp.Nodup) (hf : ∀ p ∈ fp, ow p = some i) (hio : IoFree C i) : RpE K C H ow (σ.set i (some v)) (env.set i (some m)) :=
  ⟨fun j m' e => by
    by_cases hj : i = j
    · subst hj
      by_cases hi : i < env.length
      · rw [List.getElem?_set_self hi] at e
        cases e
        exact ⟨v, fp, by rw [List.getElem?_set_self (by rw [P.lenS, ← P.len]; exact hi)], h, nd, hf⟩
      · rw [List.getElem?_eq_none (by simpa using hi)] at e; cases e
    · rw [List.getElem?_set_ne hj] at e ⊢
      exact P.sl j m' e,
  fun j v' e => by
    have hj : i ≠ j := fun z => by
      subst z
      rw [show C.io i = none from hio] at e
      cases e
    rw [List.getElem?_set_ne hj]
    exact P.io j v' e, by rw [List.length_set]; exact P.len, by rw [List.length_set]; exact P.lenS⟩
theorem RpE.setD (P : RpE K C H ow σ env) {i : Nat} {v : V} {d : PyData} (h : DV K H ow v d) (hio : IoFree C i) : RpE K C H ow (σ.set i (some v)) (env.set i (some (.d d))) :=
  P.set (.d h) List.nodup_nil (fun p hp => by cases hp) hio
/-- a slot forgotten -/
theorem RpE.drop (P : RpE K C H ow σ env) (i : Nat) : RpE K C H ow σ (env.set i none) :=
  ⟨fun j m' e => by
    by_cases hj : i = j
    · subst hj
      by_cases hi : i < env.length
      · rw [List.getElem?_set_self hi] at e; cases e
      · rw [List.getElem?_eq_none (by simpa using hi)] at e; cases e
    · rw [List.getElem?_set_ne hj] at e
      exact P.sl j m' e, P.io, by rw [List.length_set]; exact P.len, P.lenS⟩
def reown (ow : Ow) (a b : Nat) : Ow := fun x => if ow x = some a then some b else ow x
theorem reown_none {a b : Nat} {x : Addr} (h : ow x = none) : reown ow a b x = none := by
  unfold reown; rw [h]; rfl
theorem reown_ne {a b : Nat} {x : Addr} (h : ow x ≠ some a) : reown ow a b x = ow x := if_neg h
theorem reown_eq {a b : Nat} {x : Addr} (h : ow x = some a) : reown ow a b x = some b := if_pos h
theorem reown_stay {a b : Nat} : Stay H ow H (reown ow a b) := fun x o h h' => ⟨h, reown_none h'⟩
theorem RpE.reown (P : RpE K C H ow σ env) (b : Nat) : RpE K C H (reown ow C.N b) σ env :=
  ⟨fun j m e => by
    obtain ⟨v, fp, h1, h2, h3, h4⟩ := P.sl j m e
    refine ⟨v, fp, h1, h2.stay reown_stay fun _ _ => rfl, h3, fun p hp => ?_⟩
    have hj := (List.getElem?_eq_some_iff.mp e).1
    have := P.len
    rw [reown_ne]
    · exact h4 p hp
    · rw [h4 p hp]
      intro z
      have := Option.some.inj z
      omega, P.io, P.len, P.lenS⟩
theorem Ext.reown {N b : Nat} {H0 : Hp} {ow0 : Ow} (x : Ext N H0 ow0 H ow) : Ext N H0 ow0 H (reown ow N b) := fun a o h h' => by
  obtain ⟨p, q⟩ := x a o h h'
  refine ⟨p, (reown_ne fun z => ?_).trans q⟩
  rw [q] at z
  exact absurd (h' N z) (Nat.lt_irrefl _)
/-- a value at the end of an expression, put into a slot -/
theorem RpE.setM (P : RpE K C H ow σ env) {i : Nat} {v : V} {m : M} (h : RM K C.N H ow v m) (hio : IoFree C i) : RpE K C H (DL.reown ow C.N i) (σ.set i (some v)) (env.set i (some m)) := by
  obtain ⟨fp, h1, h2, h3⟩ := h
  exact (P.reown i).set (h1.stay reown_stay fun _ _ => rfl) h2 (fun p hp => reown_eq (h3 p hp)) hio
/-- the object of an owned list at slot i is changed -/
theorem RpE.upd (P : RpE K C H ow σ env) {i : Nat} {a : Addr} {vs' : List V} {ds' : List PyData} (hi : σ[i]? = some (some (.ref a))) (ha : ow a = some i) (hl : i < C.N) (h : DVs K H ow vs' ds') (hz : ds'.length ≤ 16777216) :
    RpE K C (upd H a (.lst vs')) ow σ (env.set i (some (.l ds'))) ∧ Ext C.N H ow (upd H a (.lst vs')) ow ∧ Stay H ow (upd H a (.lst vs')) ow := by
  have st : Stay H ow (L2.upd H a (.lst vs')) ow := fun b o hb hb' => ⟨by
    rw [upd_ne (fun z => by rw [z, ha] at hb'; cases hb')]; exact hb, hb'⟩
  refine ⟨⟨fun j m e => ?_, P.io, by rw [List.length_set]; exact P.len, P.lenS⟩, fun b o hb hb' => ⟨?_, rfl⟩, st⟩
  · by_cases hj : i = j
    · subst hj
      rw [List.getElem?_set_self (by rw [P.len]; exact hl)] at e
      cases e
      exact ⟨.ref a, [a], hi, .l upd_same (h.stay st) hz, by simp, fun p hp => by simp at hp; subst hp; exact ha⟩
    · rw [List.getElem?_set_ne hj] at e
      obtain ⟨v, fp, h1, h2, h3, h4⟩ := P.sl j m e
      refine ⟨v, fp, h1, h2.stay st fun p hp => upd_ne fun z => ?_, h3, h4⟩
      have := h4 p hp
      rw [z, ha] at this
      exact hj (Option.some.inj this)
  · refine (upd_ne fun z => ?_).trans hb
    have := hb' i (by rw [z]; exact ha)
    omega
end
def rdG (K : PySem.W.Frag) (C : Cc) (ts : List Nat) (g : PyData → Env → Option Env) : TG := fun v σ H Q => ∃ env ow d, RpE K C H ow σ env ∧ DV K H ow v d ∧
  match g d env with
  | some env' => ∀ σ', (∀ i, i ∉ ts → σ'[i]? = σ[i]?) → RpE K C H ow σ' env' → Q σ' H
  | none => False
def rdGs (K : PySem.W.Frag) (C : Cc) (ts : List Nat) (g : List PyData → Env → Option Env) : TGs := fun vs σ H Q => ∃ env ow ds, RpE K C H ow σ env ∧ DVs K H ow vs ds ∧
  match g ds env with
  | some env' => ∀ σ', (∀ i, i ∉ ts → σ'[i]? = σ[i]?) → RpE K C H ow σ' env' → Q σ' H
  | none => False
def DG (X : Cx) (C : Cc) (e : Expr) (ts : List Nat) (g : PyData → Env → Option Env) : Prop := PG X e (rdG X.K C ts g)
def DGs (X : Cx) (C : Cc) (es : List Expr) (ts : List Nat) (g : List PyData → Env → Option Env) : Prop := PGs X es (rdGs X.K C ts g)
theorem PGweak {X : Cx} {e : Expr} {t t' : TG} (h : PG X e t) (w : ∀ v σ H Q, t' v σ H Q → t v σ H Q) : PG X e t' := ⟨fun pins s σ H v u Q I r q => h.run pins s σ H v u Q I r (w v σ H Q q)⟩
theorem PGsweak {X : Cx} {e : List Expr} {t t' : TGs} (h : PGs X e t) (w : ∀ v σ H Q, t' v σ H Q → t v σ H Q) : PGs X e t' := ⟨fun pins s σ H v u Q I r q => h.run pins s σ H v u Q I r (w v σ H Q q)⟩
def gN (i : Nat) : PyData → Env → Option Env := fun d env => some (env.set i (some (.d d)))
def gsN : List PyData → Env → Option Env := fun ds env => match ds with | [] => some env | _ => none
def gsC (g : PyData → Env → Option Env) (gs : List PyData → Env → Option Env) : List PyData → Env → Option Env := fun ds env => match ds with | d :: r => (g d env).bind (gs r) | [] => none
def gT (n : Nat) (gs : List PyData → Env → Option Env) : PyData → Env → Option Env := fun d env => match d with | .tuple ds => if ds.length = n then gs ds env else none | _ => none
section
variable {X : Cx} {C : Cc} {pos : Pos}
theorem dg_name (i : Nat) {x : Str} (hN : X.N.Nodup) (hi : X.N[i]? = some x) (hx : Loc X.env.scope x) (hio : IoFree C i) (hf : X.fn x = true ∨ X.env.scope.names.lookup x = some .local := by first | exact .inl rfl | exact .inr rfl | assumption) : DG X C (.Name x pos) [i] (gN i) :=
  PGweak (pg_name hN hi hx hf) fun v σ H Q ⟨env, ow, d, P, hd, h⟩ => h _ (fun j hj => List.getElem?_set_ne (fun z => hj (by simp [z]))) (P.setD hd hio)
theorem dgs_nil : DGs X C [] [] gsN :=
  PGsweak pgs_nil fun vs σ H Q ⟨env, ow, ds, P, hd, h⟩ => by
    cases hd with
    | nil => exact ⟨rfl, h σ (fun _ _ => rfl) P⟩
    | cons => exact h.elim
theorem dgs_cons {e : Expr} {es : List Expr} {ts us : List Nat} {g : PyData → Env → Option Env} {gs : List PyData → Env → Option Env} (h1 : DG X C e ts g) (h2 : DGs X C es us gs)
    (hs : (assignEach (e :: es) X.env).map (·.2) = assign e X.env :: (assignEach es X.env).map (·.2) := by rfl) : DGs X C (e :: es) (ts ++ us) (gsC g gs) :=
  PGsweak (pgs_cons h1 h2 hs) fun vs σ H Q ⟨env, ow, ds, P, hd, h⟩ => by
    cases hd with
    | nil => exact h.elim
    | @cons v vs d ds hd hds =>
      refine ⟨v, vs, rfl, env, ow, d, P, hd, ?_⟩
      cases e1 : g d env with
      | none => simp only [gsC, e1, Option.bind_none] at h
      | some env1 =>
        simp only [gsC, e1, Option.bind_some] at h
        intro σ1 hσ1 P1
        refine ⟨env1, ow, ds, P1, hds, ?_⟩
        cases e2 : gs ds env1 with
        | none => rw [e2] at h; exact h
        | some env2 =>
          rw [e2] at h
          intro σ2 hσ2 P2
          exact h σ2 (fun i hi => (hσ2 i fun z => hi (by simp [z])).trans (hσ1 i fun z => hi (by simp [z]))) P2
theorem dg_tup {es : List Expr} {k n : Nat} {ts : List Nat} {gs : List PyData → Env → Option Env} (hc : X.calm = true) (h : DGs X C es ts gs)
    (hn : (assignEach es X.env).length = n := by rfl) (hst : (assignEach es X.env).findIdx? (·.1) = none := by rfl) : DG X C (.Tuple es k pos) ts (gT n gs) :=
  PGweak (pg_tup hc h hn hst) fun v σ H Q ⟨env, ow, d, P, hd, h⟩ => by
    cases hd with
    | @tup a xs ds h1 h3 hz =>
      by_cases hl : ds.length = n
      · simp only [gT, if_pos hl] at h
        exact ⟨a, xs, rfl, h1.sq, h3.length.trans hl, env, ow, ds, P, h3, h⟩
      · simp only [gT, if_neg hl] at h
    | _ => exact h.elim
end
structure Wk (K : PySem.W.Frag) (J : It) (ds : List PyData) (G : Hp → Ow → Prop) : Prop where
  st : ∀ H ow H' ow', G H ow → Stay H ow H' ow' → G H' ow'
  goes : ∀ i H ow, i < ds.length → G H ow → J.go i H
  stops : ∀ H ow, G H ow → J.stop ds.length H
  yields : ∀ i H ow x H', i < ds.length → G H ow → J.yld i H x H' → ∃ ow' d, ds[i]? = some d ∧ Gr H ow H' ow' ∧ DV K H' ow' x d
  len : ds.length ≤ 16777216
abbrev RI (K : PySem.W.Frag) : Hp → Ow → It → List PyData → Prop := fun H ow J ds => ∃ G, Wk K J ds G ∧ G H ow
def DI (X : Cx) (C : Cc) (tg e : Expr) (t : Env → Rs (List PyData)) : Prop := PI X tg e (rd X.K C (RI X.K) t)
theorem PIweak {X : Cx} {tg e : Expr} {t t' : TI} (h : PI X tg e t) (w : ∀ σ H Q, t' σ H Q → t σ H Q) : PI X tg e t' := ⟨fun pins s σ H Q I q => h.run pins s σ H Q I (w σ H Q q)⟩
def itSeq (t : Env → Rs PyData) : Env → Rs (List PyData) := fun env => (t env).bind fun d e => lift (seqOf d) e
section
variable {X : Cx} {C : Cc} {tg e : Expr} {K : PySem.W.Frag}
theorem wk_list {a : Addr} {xs : List V} {ds : List PyData} (hz : ds.length ≤ 16777216) (h : xs.length = ds.length) : Wk K (Itl K a) ds fun H ow => H a = some (.lst xs) ∧ ow a = none ∧ DVs K H ow xs ds where
  st := fun H ow H' ow' ⟨a, b, c⟩ st => let ⟨p, q⟩ := st _ _ a b; ⟨p, q, c.stay st⟩
  goes := fun i H ow hi ⟨a, b, c⟩ => ⟨xs, xs[i]'(by omega), .of a, by simp [h, hi]⟩
  stops := fun H ow ⟨a, b, c⟩ => ⟨xs, .of a, by omega⟩
  yields := fun i H ow x H' hi ⟨a, b, c⟩ ⟨e, y⟩ => by
    subst e
    obtain ⟨v, h1, h2⟩ := c.get (i := i) (d := ds[i]) (by simp)
    have := y xs (.of a)
    rw [h1] at this
    cases this
    exact ⟨ow, ds[i], by simp, .refl, h2⟩
  len := by omega
theorem wk_tup {a : Addr} {xs : List V} {ds : List PyData} (hz : ds.length ≤ 16777216) (h : xs.length = ds.length) : Wk K (Itt K a) ds fun H ow => FT K H ow a xs ∧ DVs K H ow xs ds where
  st := fun H ow H' ow' ⟨a, c⟩ st => ⟨a.stay st, c.stay st⟩
  goes := fun i H ow hi ⟨a, c⟩ => ⟨xs, xs[i]'(by omega), a.sq, by simp [h, hi]⟩
  stops := fun H ow ⟨a, c⟩ => ⟨xs, a.sq, by omega⟩
  yields := fun i H ow x H' hi ⟨a, c⟩ ⟨e, y⟩ => by
    subst e
    obtain ⟨v, h1, h2⟩ := c.get (i := i) (d := ds[i]) (by simp)
    have := y xs a.sq
    rw [h1] at this
    cases this
    exact ⟨ow, ds[i], by simp, .refl, h2⟩
  len := by omega
theorem di_seq {t : Env → Rs PyData} (h : DE X C e t) : DI X C tg e (itSeq t) := by
  refine ⟨fun pins s σ H R I ⟨env, ow, P, hw⟩ => ?_⟩
  refine thn (PE.run h pins s σ H _ I ⟨env, ow, P, rdAt_bind (R1 := RE X.K) hw⟩) fun v s1 ⟨x, H1, I1, r1, d, e1, ow1, X1, V1, P1, h1⟩ => ?_
  obtain ⟨ds, e2, h1⟩ := rdAt_lift (v := Itr 0 0) h1
  cases V1 with
  | @lst a xs ds h2 h3 h4 hl =>
    cases e2
    cases r1
    obtain ⟨its, rv, p, hz⟩ := I1.list (.of h2)
    refine wpAny_pyIter_list p.isList ?_
    refine ⟨s1.heap.objs.size, [s1.heap.objs.size], _, _, H1, rfl, I1.kept (t' := s1.toks) fun b o e => Heap.get?_push_of_some _ e, turn_list a _, ⟨_, Heap.get?_push_size _ rfl, rfl, rfl⟩, fun b hb => ?_, h1 _ H1 ow1 Ext.refl ⟨_, wk_list hl h4.length, h2, h3, h4⟩ P1⟩
    have e : b = s1.heap.objs.size := by simpa using hb
    subst e
    exact I1.fpOk (Nat.le_refl _) (I1.hok.fresh (Nat.le_refl _))
  | @tup a xs ds h2 h4 hl =>
    cases e2
    cases r1
    obtain ⟨its, rv, p, hz⟩ := I1.tuple h2.sq
    refine wpAny_pyIter_tuple (show s1.heap.IsTuple a its.toArray from p) ?_
    refine ⟨s1.heap.objs.size, [s1.heap.objs.size], _, _, H1, rfl, I1.kept (t' := s1.toks) fun b o e => Heap.get?_push_of_some _ e, turn_tuple a _, ⟨_, Heap.get?_push_size _ rfl, rfl, rfl⟩, fun b hb => ?_, h1 _ H1 ow1 Ext.refl ⟨_, wk_tup hl h4.length, h2, h4⟩ P1⟩
    have e : b = s1.heap.objs.size := by simpa using hb
    subst e
    exact I1.fpOk (Nat.le_refl _) (I1.hok.fresh (Nat.le_refl _))
  | _ => cases e2
def rangeD (lo : Int) (n : Nat) : List PyData := (List.range n).map fun (k : Nat) => .int (lo + k)
def bRange1 : List PyData → Option (List PyData)
  | [.int j] => if j ≤ 16777216 ∧ -(2 ^ 62) ≤ j then some (rangeD 0 j.toNat) else none
  | _ => none
def itB (f : List PyData → Option (List PyData)) (t : Env → Rs (List PyData)) : Env → Rs (List PyData) := fun env => (t env).bind fun d e => lift (f d) e
theorem wk_range {lo : Int} {n : Nat} (hn : n ≤ 16777216) : Wk K (Itr lo n) (rangeD lo n) fun _ _ => True where
  st := fun _ _ _ _ _ _ => trivial
  goes := fun i H ow hi _ => by
    show i < n
    simpa [rangeD] using hi
  stops := fun H ow _ => by show n ≤ _; simp [rangeD]
  yields := fun i H ow x H' hi _ ⟨e, y⟩ => by
    subst e; subst y
    refine ⟨ow, .int (lo + i), ?_, .refl, .int _⟩
    have : i < n := by simpa [rangeD] using hi
    simp [rangeD, this]
  len := by simpa [rangeD] using hn
theorem di_range1 {a : Expr} {t : Env → Rs (List PyData)} {p pos : Pos} (hg : Gl X "range") (hm : X.mg "range" = none) (ha : DA X C [a] t) (hs : starEach [a] X.env = [(false, eval a X.env)] := by rfl) : DI X C tg (.Call (.Name "range" p) [a] [] pos) (itB bRange1 t) :=
  PIweak (pi_range1 hg hm ha hs) fun σ H Q h => rd_one (R1 := RA X.K) h fun v x H ow env hv P h => by
    obtain ⟨o, e, h⟩ := rdAt_lift (v := Itr 0 0) h
    unfold bRange1 at e
    split at e
    · obtain ⟨w, rfl, d⟩ := hv.one
      cases d
      obtain ⟨hj, rfl⟩ := if_some e
      exact ⟨_, rfl, by omega, by omega, h _ H ow Ext.refl ⟨_, wk_range (by omega), trivial⟩ P⟩
    · cases e
/-- zip of two lists, of two tuples -/
def zip2 (xs ys : List PyData) : List PyData := List.zipWith (fun x y => .tuple [x, y]) xs ys
def bZip : List PyData → Option (List PyData)
  | [.list xs, .list ys] => some (zip2 xs ys)
  | [.tuple xs, .tuple ys] => some (zip2 xs ys)
  | _ => none
theorem wk_zipL {a b : Addr} {xs ys : List V} {ds es : List PyData} (hz : ds.length ≤ 16777216) (h : xs.length = ds.length) (h' : ys.length = es.length) :
    Wk K (DLT.ItzZ K a b) (zip2 ds es) fun H ow => (H a = some (.lst xs) ∧ ow a = none ∧ DVs K H ow xs ds) ∧ (H b = some (.lst ys) ∧ ow b = none ∧ DVs K H ow ys es) where
  st := fun H ow H' ow' ⟨⟨a, b, c⟩, ⟨a', b', c'⟩⟩ st => ⟨let ⟨p, q⟩ := st _ _ a b; ⟨p, q, c.stay st⟩, let ⟨p, q⟩ := st _ _ a' b'; ⟨p, q, c'.stay st⟩⟩
  goes := fun i H ow hi ⟨⟨a, b, c⟩, ⟨a', b', c'⟩⟩ => by
    have hi' : i < min ds.length es.length := by simpa [zip2] using hi
    exact ⟨xs, ys, xs[i]'(by omega), ys[i]'(by omega), .of a, .of a', by simp, by simp⟩
  stops := fun H ow ⟨⟨a, b, c⟩, ⟨a', b', c'⟩⟩ => ⟨xs, ys, .of a, .of a', by
    simp only [zip2, List.length_zipWith]
    omega⟩
  yields := fun i H ow x H' hi ⟨⟨a, b, c⟩, ⟨a', b', c'⟩⟩ ⟨T, u, w, zo, e1, e2, e3, hd, e4, e5⟩ => by
    have hi' : i < min ds.length es.length := by simpa [zip2] using hi
    subst e1; subst e3
    obtain ⟨v1, h1, h2⟩ := c.get (i := i) (d := ds[i]'(by omega)) (by simp)
    obtain ⟨v2, k1, k2⟩ := c'.get (i := i) (d := es[i]'(by omega)) (by simp)
    have t1 := e4 xs (.of a)
    have t2 := e5 ys (.of a')
    rw [h1] at t1
    rw [k1] at t2
    cases t1; cases t2
    refine ⟨off ow T, .tuple [ds[i]'(by omega), es[i]'(by omega)], ?_, Gr.new e2, .tup (.new hd) (.cons (h2.stay (Gr.new e2).stay) (.cons (k2.stay (Gr.new e2).stay) .nil)) (by simp)⟩
    simp [zip2, List.getElem?_zipWith, show i < ds.length by omega, show i < es.length by omega]
  len := by
    simp only [zip2, List.length_zipWith]
    omega
theorem wk_zipT {a b : Addr} {xs ys : List V} {ds es : List PyData} (hz : ds.length ≤ 16777216) (h : xs.length = ds.length) (h' : ys.length = es.length) :
    Wk K (DLT.ItzTZ K a b) (zip2 ds es) fun H ow => (FT K H ow a xs ∧ DVs K H ow xs ds) ∧ (FT K H ow b ys ∧ DVs K H ow ys es) where
  st := fun H ow H' ow' ⟨⟨a, c⟩, ⟨a', c'⟩⟩ st => ⟨⟨a.stay st, c.stay st⟩, ⟨a'.stay st, c'.stay st⟩⟩
  goes := fun i H ow hi ⟨⟨a, c⟩, ⟨a', c'⟩⟩ => by
    have hi' : i < min ds.length es.length := by simpa [zip2] using hi
    exact ⟨xs, ys, xs[i]'(by omega), ys[i]'(by omega), a.sq, a'.sq, by simp, by simp⟩
  stops := fun H ow ⟨⟨a, c⟩, ⟨a', c'⟩⟩ => ⟨xs, ys, a.sq, a'.sq, by
    simp only [zip2, List.length_zipWith]
    omega⟩
  yields := fun i H ow x H' hi ⟨⟨a, c⟩, ⟨a', c'⟩⟩ ⟨T, u, w, zo, e1, e2, e3, hd, e4, e5⟩ => by
    have hi' : i < min ds.length es.length := by simpa [zip2] using hi
    subst e1; subst e3
    obtain ⟨v1, h1, h2⟩ := c.get (i := i) (d := ds[i]'(by omega)) (by simp)
    obtain ⟨v2, k1, k2⟩ := c'.get (i := i) (d := es[i]'(by omega)) (by simp)
    have t1 := e4 xs a.sq
    have t2 := e5 ys a'.sq
    rw [h1] at t1
    rw [k1] at t2
    cases t1; cases t2
    refine ⟨off ow T, .tuple [ds[i]'(by omega), es[i]'(by omega)], ?_, Gr.new e2, .tup (.new hd) (.cons (h2.stay (Gr.new e2).stay) (.cons (k2.stay (Gr.new e2).stay) .nil)) (by simp)⟩
    simp [zip2, List.getElem?_zipWith, show i < ds.length by omega, show i < es.length by omega]
  len := by
    simp only [zip2, List.length_zipWith]
    omega
theorem di_zip {a b : Expr} {elts : List Expr} {kk : Nat} {tpos : Pos} {t : Env → Rs (List PyData)} {p pos : Pos} (hg : Gl X "zip") (hm : X.mg "zip" = none) (ha : DA X C [a, b] t)
    (hs : starEach [a, b] X.env = (false, eval a X.env) :: starEach [b] X.env := by rfl) (hpl : (backTo pos (starEach [b] X.env)).any (·.1) = false := by rfl) : DI X C (.Tuple elts kk tpos) (.Call (.Name "zip" p) [a, b] [] pos) (itB bZip t) :=
  PIweak (DLT.pi_zipZ hg hm ha hs hpl) fun σ H Q h => rd_one (R1 := RA X.K) h fun v x H ow env hv P h => by
    obtain ⟨o, e, h⟩ := rdAt_lift (v := Itr 0 0) h
    unfold bZip at e
    split at e
    · obtain ⟨w, w', rfl, d, d'⟩ := hv.two
      cases d with
      | @lst a xs ds h1 h2 h3 hz =>
        cases d' with
        | @lst b ys es k1 k2 k3 hz' =>
          cases e
          exact ⟨a, b, xs, ys, rfl, .inl ⟨.of h1, .of k1, h _ H ow Ext.refl ⟨_, wk_zipL hz h3.length k3.length, ⟨h1, h2, h3⟩, ⟨k1, k2, k3⟩⟩ P⟩⟩
    · obtain ⟨w, w', rfl, d, d'⟩ := hv.two
      cases d with
      | @tup a xs ds h1 h3 hz =>
        cases d' with
        | @tup b ys es k1 k3 hz' =>
          cases e
          exact ⟨a, b, xs, ys, rfl, .inr ⟨h1.sq, k1.sq, h _ H ow Ext.refl ⟨_, wk_zipT hz h3.length k3.length, ⟨h1, h3⟩, ⟨k1, k3⟩⟩ P⟩⟩
    · cases e
/-- enumerate of a list -/
def enumD (n : Nat) : List PyData → List PyData
  | [] => []
  | x :: r => .tuple [.int n, x] :: enumD (n + 1) r
theorem enumD_length : ∀ (ds : List PyData) (n : Nat), (enumD n ds).length = ds.length
  | [], _ => rfl
  | _ :: r, n => by simp [enumD, enumD_length r]
theorem enumD_get : ∀ (ds : List PyData) (n i : Nat), (enumD n ds)[i]? = ds[i]?.map fun x => .tuple [.int ((n + i : Nat) : Int), x]
  | [], _, _ => by simp [enumD]
  | x :: r, n, 0 => by simp [enumD]
  | x :: r, n, i + 1 => by
    simp only [enumD, List.getElem?_cons_succ]
    rw [enumD_get r (n + 1) i]
    rw [show n + 1 + i = n + (i + 1) by omega]
theorem wk_enumL {a : Addr} {xs : List V} {ds : List PyData} (hz : ds.length ≤ 16777216) (h : xs.length = ds.length) : Wk K (DLT.IteZ K a) (enumD 0 ds) fun H ow => H a = some (.lst xs) ∧ ow a = none ∧ DVs K H ow xs ds where
  st := fun H ow H' ow' ⟨a, b, c⟩ st => let ⟨p, q⟩ := st _ _ a b; ⟨p, q, c.stay st⟩
  goes := fun i H ow hi ⟨a, b, c⟩ => by
    rw [enumD_length] at hi
    exact ⟨xs, xs[i]'(by omega), .of a, by simp [h, hi]⟩
  stops := fun H ow ⟨a, b, c⟩ => ⟨xs, .of a, by rw [enumD_length]; omega⟩
  yields := fun i H ow x H' hi ⟨a, b, c⟩ ⟨T, u, zo, e1, e2, e3, hd, e4⟩ => by
    rw [enumD_length] at hi
    subst e1; subst e3
    obtain ⟨v, h1, h2⟩ := c.get (i := i) (d := ds[i]) (by simp)
    have := e4 xs (.of a)
    rw [h1] at this
    cases this
    refine ⟨off ow T, .tuple [.int i, ds[i]], ?_, Gr.new e2, .tup (.new hd) (.cons (.int _) (.cons (h2.stay (Gr.new e2).stay) .nil)) (by simp)⟩
    rw [enumD_get]
    simp [hi]
  len := by rw [enumD_length]; exact hz
end
end DL
namespace DL
open PySem PySem.Spec PyProof.Rows L2
def wipeE (e : Env) : List Nat → Env
  | [] => e
  | v :: vs => (wipeE e vs).set v none
def keepD : Option (Option M) → Option M
  | some (some (.d x)) => some (.d x)
  | _ => none
def restE (e0 : Env) : List Nat → Env → Env
  | [], e => e
  | v :: vs, e => restE e0 vs (e.set v (keepD e0[v]?))
def compGo (g : PyData → Env → Option Env) (tt : Env → Rs Bool) (te : Env → Rs PyData) (vs : List Nat) : List PyData → List PyData → Env → Rs (List PyData)
  | [], acc, e => .ok acc e
  | x :: xs, acc, e => match g x e with
    | none => .no
    | some e1 => (tt e1).bind fun b e2 => if b = true then (te e2).bind fun y e3 => compGo g tt te vs xs (acc ++ [y]) (wipeE e3 vs) else compGo g tt te vs xs acc (wipeE e2 vs)
def compR (vs : List Nat) (e0 : Env) : Rs (List PyData) → Rs (List PyData)
  | .ok r e => .ok r (restE e0 vs e)
  | _ => .no
def eComp0 (it : Env → Rs (List PyData)) (g : PyData → Env → Option Env) (tt : Env → Rs Bool) (te : Env → Rs PyData) (vs : List Nat) : Env → Rs (List PyData) := fun env =>
  (it env).bind fun ds e => compR vs e (compGo g tt te vs ds [] (wipeE e vs))
def eComp (it : Env → Rs (List PyData)) (g : PyData → Env → Option Env) (tt : Env → Rs Bool) (te : Env → Rs PyData) (vs : List Nat) : Env → Rs PyData := fun env => (eComp0 it g tt te vs env).bind fun r e => .ok (.list r) e
def mComp (it : Env → Rs (List PyData)) (g : PyData → Env → Option Env) (tt : Env → Rs Bool) (te : Env → Rs PyData) (vs : List Nat) : Env → Rs M := fun env => (eComp0 it g tt te vs env).bind fun r e => .ok (.l r) e
def tYesD : Env → Rs Bool := fun e => .ok true e
theorem wipeE_length (e : Env) : ∀ vs, (wipeE e vs).length = e.length
  | [] => rfl
  | v :: vs => by unfold wipeE; rw [List.length_set, wipeE_length e vs]
theorem wipeE_some {e : Env} {i : Nat} {m : M} : ∀ {vs : List Nat}, (wipeE e vs)[i]? = some (some m) → e[i]? = some (some m) ∧ i ∉ vs
  | [], h => ⟨h, by simp⟩
  | v :: vs, h => by
    unfold wipeE at h
    by_cases hi : v = i
    · subst hi
      by_cases hv : v < (wipeE e vs).length
      · rw [List.getElem?_set_self hv] at h; cases h
      · rw [List.getElem?_eq_none (by simpa using hv)] at h; cases h
    · rw [List.getElem?_set_ne hi] at h
      obtain ⟨h1, h2⟩ := wipeE_some h
      exact ⟨h1, by simp only [List.mem_cons, not_or]; exact ⟨fun e => hi e.symm, h2⟩⟩
theorem wipe_in {σ : L2.St} {i : Nat} : ∀ {vs : List Nat}, i ∈ vs → i < σ.length → (wipe σ vs)[i]? = some none
  | v :: vs, h, hl => by
    unfold wipe
    by_cases hi : v = i
    · subst hi; rw [List.getElem?_set_self (by rw [wipe_length]; exact hl)]
    · rw [List.getElem?_set_ne hi]
      exact wipe_in ((List.mem_cons.mp h).resolve_left fun z => hi z.symm) hl
theorem wipe_eq {σ σ2 : L2.St} {vs : List Nat} (hl : σ2.length = σ.length) (h : ∀ i, i ∉ vs → σ2[i]? = σ[i]?) : wipe σ2 vs = wipe σ vs := by
  apply List.ext_getElem?
  intro i
  by_cases hi : i ∈ vs
  · by_cases hb : i < σ.length
    · rw [wipe_in hi hb, wipe_in hi (by rw [hl]; exact hb)]
    · rw [List.getElem?_eq_none (by rw [wipe_length]; omega), List.getElem?_eq_none (by rw [wipe_length]; omega)]
  · rw [wipe_out hi, wipe_out hi]
    exact h i hi
section
variable {K : PySem.W.Frag} {C : Cc} {H H' : Hp} {ow ow' : Ow} {σ : L2.St} {env : Env}
def IoFreeAll (C : Cc) (vs : List Nat) : Prop := ∀ i ∈ vs, IoFree C i
theorem RpE.wipe (P : RpE K C H ow σ env) {vs : List Nat} (hio : IoFreeAll C vs) : RpE K C H ow (L2.wipe σ vs) (wipeE env vs) :=
  ⟨fun i m e => by
    obtain ⟨h1, h2⟩ := wipeE_some e
    obtain ⟨v, fp, a, b, c, d⟩ := P.sl i m h1
    exact ⟨v, fp, by rw [wipe_out h2]; exact a, b, c, d⟩, fun i v e => by
    have hi : i ∉ vs := fun z => by
      rw [show C.io i = none from hio i z] at e
      cases e
    rw [wipe_out hi]; exact P.io i v e, by rw [wipeE_length]; exact P.len, by rw [wipe_length]; exact P.lenS⟩
theorem restE_length (e0 : Env) : ∀ (vs : List Nat) (e : Env), (restE e0 vs e).length = e.length
  | [], _ => rfl
  | v :: vs, e => by unfold restE; rw [restE_length e0 vs, List.length_set]
/-- behind the block: its own names are as before it -/
theorem restE_get {e0 : Env} {i : Nat} {m : M} : ∀ {vs : List Nat} {e : Env}, (restE e0 vs e)[i]? = some (some m) → (i ∈ vs ∧ ∃ x, m = .d x ∧ e0[i]? = some (some (.d x))) ∨ (i ∉ vs ∧ e[i]? = some (some m))
  | [], e, h => .inr ⟨by simp, h⟩
  | v :: vs, e, h => by
    unfold restE at h
    rcases restE_get h with ⟨a, b⟩ | ⟨a, b⟩
    · exact .inl ⟨List.mem_cons_of_mem _ a, b⟩
    · by_cases hv : v = i
      · subst hv
        by_cases hl : v < e.length
        · rw [List.getElem?_set_self hl] at b
          have b' : keepD e0[v]? = some m := Option.some.inj b
          unfold keepD at b'
          split at b'
          · rename_i x hx
            cases b'
            exact .inl ⟨List.mem_cons_self, x, rfl, hx⟩
          · cases b'
        · rw [List.getElem?_eq_none (by simpa using hl)] at b; cases b
      · rw [List.getElem?_set_ne hv] at b
        exact .inr ⟨fun z => (List.mem_cons.mp z).elim (fun q => hv q.symm) a, b⟩
theorem RpE.rest {e0 : Env} {vs : List Nat} {H0 : Hp} {ow0 : Ow} (P0 : RpE K C H0 ow0 σ e0) (st : Stay H0 ow0 H ow) (P : RpE K C H ow (L2.wipe σ vs) env) : RpE K C H ow σ (restE e0 vs env) :=
  ⟨fun i m e => by
    rcases restE_get e with ⟨a, x, rfl, hx⟩ | ⟨a, b⟩
    · obtain ⟨v, fp, h1, h2, h3, h4⟩ := P0.sl i _ hx
      cases h2 with
      | d h2 => exact ⟨v, [], h1, .d (h2.stay st), List.nodup_nil, fun p hp => by cases hp⟩
    · obtain ⟨v, fp, h1, h2, h3, h4⟩ := P.sl i m b
      exact ⟨v, fp, by rw [wipe_out a] at h1; exact h1, h2, h3, h4⟩, P0.io, by rw [restE_length]; exact P.len, P0.lenS⟩
end
theorem RpE.other {K : PySem.W.Frag} {C : Cc} {H H' : Hp} {ow ow' : Ow} {σ : L2.St} {env : Env} (h : ∀ a o, H a = some o → (∀ i, ow a = some i → i < C.N) → H' a = some o ∧ ow' a = ow a) (P : RpE K C H ow σ env) : RpE K C H' ow' σ env :=
  ⟨fun i m e => by
    obtain ⟨v, fp, h1, h2, h3, h4⟩ := P.sl i m e
    have hi := (List.getElem?_eq_some_iff.mp e).1
    have hN := P.len
    have hk : ∀ p ∈ fp, H' p = H p ∧ ow' p = ow p := fun p hp => by
      obtain ⟨o, ho⟩ := h2.there p hp
      obtain ⟨a, b⟩ := h p o ho fun j z => by
        rw [h4 p hp] at z
        have := Option.some.inj z
        omega
      exact ⟨a.trans ho.symm, b⟩
    refine ⟨v, fp, h1, h2.stay (fun a o ha ha' => ?_) fun p hp => (hk p hp).1, h3, fun p hp => (hk p hp).2.trans (h4 p hp)⟩
    obtain ⟨p, q⟩ := h a o ha fun j z => by rw [ha'] at z; cases z
    exact ⟨p, q.trans ha'⟩, P.io, P.len, P.lenS⟩
def Cc.blk (C : Cc) : Cc := { C with W := fun _ _ _ _ => False }
theorem RpE.blk {K : PySem.W.Frag} {C : Cc} {H : Hp} {ow : Ow} {σ : L2.St} {env : Env} (P : RpE K C H ow σ env) : RpE K C.blk H ow σ env := ⟨P.sl, P.io, P.len, P.lenS⟩
theorem RpE.unblk {K : PySem.W.Frag} {C : Cc} {H : Hp} {ow : Ow} {σ : L2.St} {env : Env} (P : RpE K C.blk H ow σ env) : RpE K C H ow σ env := ⟨P.sl, P.io, P.len, P.lenS⟩
def Ex0 {α : Type} : Rs α → Prop
  | .ok _ _ => True
  | _ => False
section
variable {X : Cx} {C : Cc} {K : PySem.W.Frag} {it : Env → Rs (List PyData)} {g : PyData → Env → Option Env} {tt : Env → Rs Bool} {te : Env → Rs PyData} {vs ts : List Nat}
/-- the reading of a comprehension, R the representation of its end (N1: the new list's owner on the way) -/
theorem rd_comp {α : Type} {R : Hp → Ow → V → α → Prop} {k : List PyData → α} (hts : ∀ i ∈ ts, i ∈ vs) (hio : IoFreeAll C vs)
    (hk : ∀ (H : Hp) (ow : Ow) (D : Addr) (xs : List V) (ds : List PyData), H D = some (.lst xs) → ow D = some (C.N + 1) → DVs K H ow xs ds → ds.length ≤ 16777216 → ∃ o : Option Nat, (o = none ∨ o = some C.N) ∧ R H (fun a => if a = D then o else ow a) (.ref D) (k ds))
    {σ : L2.St} {H : Hp} {Q : VK} (h : rd K C R (fun env => (eComp0 it g tt te vs env).bind fun r e => .ok (k r) e) σ H Q) :
    tLc (rd K C (RI K) it) (rdG K C.blk ts g) (rd K C.blk RT tt) (rd K C.blk (RE K) te) vs σ H Q := by
  obtain ⟨env, ow, P, h⟩ := h
  have h : rdAt K C R σ H ow Q ((it env).bind fun ds e => (compR vs e (compGo g tt te vs ds [] (wipeE e vs))).bind fun r e => .ok (k r) e) := by
    have e : (eComp0 it g tt te vs env).bind (fun r e => Rs.ok (k r) e) = ((it env).bind fun ds e => (compR vs e (compGo g tt te vs ds [] (wipeE e vs))).bind fun r e => .ok (k r) e) := by
      unfold eComp0
      cases it env <;> rfl
    rw [← e]; exact h
  refine ⟨env, ow, P, rdAt_mono (rdAt_bind (R1 := RI K) h) fun J H1 ⟨ds, e1, ow1, X1, ⟨G, W, hG⟩, P1, h1⟩ => fun D hD => ?_⟩
  have grD : Gr H1 ow1 (upd H1 D (.lst [])) (give ow1 D (C.N + 1)) := Gr.newG hD
  have start : compGo g tt te vs (ds.drop 0) [] (wipeE e1 vs) = compGo g tt te vs ds [] (wipeE e1 vs) := by rw [List.drop_zero]
  generalize compGo g tt te vs ds [] (wipeE e1 vs) = rr at h1 start
  have okc : Ex0 rr := by
    cases rr with
    | ok _ _ => trivial
    | ex _ _ => exact h1.elim
    | no => exact h1.elim
  let Pv : Nat → Hp → Prop := fun i H2 => ∃ acc xs env2 ow2, H2 D = some (.lst xs) ∧ ow2 D = some (C.N + 1) ∧ DVs K H2 ow2 xs acc ∧ acc.length ≤ i ∧ G H2 ow2 ∧ Ext C.N H1 ow1 H2 ow2 ∧ RpE K C.blk H2 ow2 (wipe σ vs) env2 ∧
    compGo g tt te vs (ds.drop i) acc env2 = rr
  refine lc_it (n := ds.length) (G := fun H => ∃ ow, G H ow) (Y := fun i H x H' => ∀ ow, G H ow → ∃ ow' d, ds[i]? = some d ∧ Gr H ow H' ow' ∧ DV K H' ow' x d)
    ⟨fun i H hi ⟨ow, q⟩ => W.goes i H ow hi q, fun H ⟨ow, q⟩ => W.stops H ow q, fun i H x H' hi ⟨ow, q⟩ y ow' q' => W.yields i H ow' x H' hi q' y⟩ Pv ?_ ?_ ?_ ?_
  · exact ⟨[], [], wipeE e1 vs, _, upd_same, give_same, .nil, Nat.zero_le _, W.st _ _ _ _ hG grD.stay, grD.ext, ((P1.gr grD).wipe hio).blk, start⟩
  · rintro i H2 _ ⟨acc, xs, env2, ow2, _, _, _, _, q, _⟩
    exact ⟨ow2, q⟩
  · rintro i x H2 H3 hi ⟨acc, xs, env2, ow2, a1, a2, a3, a4, a5, a6, a7, a8⟩ y
    obtain ⟨ow3, d, e2, g3, d3⟩ := y ow2 a5
    have hd : ds.drop i = d :: ds.drop (i + 1) := by
      have hl : i < ds.length := hi
      rw [List.drop_eq_getElem_cons hl]
      rw [List.getElem?_eq_getElem hl] at e2
      cases e2; rfl
    rw [hd, compGo] at a8
    have P3 := a7.gr g3
    refine ⟨env2, ow3, d, P3, d3, ?_⟩
    cases e3 : g d env2 with
    | none => rw [e3] at a8; rw [← a8] at okc; exact okc.elim
    | some env3 =>
      rw [e3] at a8
      replace a8 : ((tt env3).bind fun b e2 => if b = true then (te e2).bind fun y e3 => compGo g tt te vs (ds.drop (i + 1)) (acc ++ [y]) (wipeE e3 vs) else compGo g tt te vs (ds.drop (i + 1)) acc (wipeE e2 vs)) = rr := a8
      intro σ2 hσ P4
      have hw : wipe σ2 vs = wipe σ vs := by
        rw [wipe_eq (σ := wipe σ vs) (σ2 := σ2) (P4.lenS.trans P3.lenS.symm) fun j hj => hσ j fun z => hj (hts j z)]
        exact wipe_eq (wipe_length _ _) fun j hj => wipe_out hj
      refine ⟨hw, env3, ow3, P4, ?_⟩
      have bD3 := g3 D _ a1
      have X3 : Ext C.N H1 ow1 H3 ow3 := a6.trans g3.ext
      cases e4 : tt env3 with
      | no => rw [e4] at a8; rw [← a8] at okc; exact okc.elim
      | ex x e => rw [e4] at a8; rw [← a8] at okc; exact okc.elim
      | ok b env4 =>
        rw [e4] at a8
        intro b' H5 ow5 X5 eb P5
        subst eb
        have bD5 := X5 D _ bD3.1 (fun j z => by rw [bD3.2, a2] at z; have := Option.some.inj z; show C.N < j; omega)
        have c5 : DVs K H5 ow5 xs acc := (a3.stay g3.stay).stay X5.stay
        have G5 : G H5 ow5 := W.st _ _ _ _ (W.st _ _ _ _ a5 g3.stay) X5.stay
        cases b' with
        | false =>
          refine iteF ⟨acc, xs, wipeE env4 vs, ow5, bD5.1, bD5.2.trans (bD3.2.trans a2), c5, by omega, G5, X3.trans X5, ?_, ?_⟩
          · have := P5.wipe (vs := vs) (fun j hj => hio j hj)
            rw [hw] at this
            exact this
          · exact a8
        | true =>
          refine iteT ⟨env4, ow5, P5, ?_⟩
          cases e5 : te env4 with
          | no => simp only [Rs.bind_ok, if_true, e5, Rs.bind_no] at a8; rw [← a8] at okc; exact okc.elim
          | ex x e => simp only [Rs.bind_ok, if_true, e5, Rs.bind_ex] at a8; rw [← a8] at okc; exact okc.elim
          | ok yd env5 =>
            simp only [Rs.bind_ok, if_true, e5] at a8
            intro yv H6 ow6 X6 dy P6
            have bD6 := X6 D _ bD5.1 (fun j z => by rw [bD5.2, bD3.2, a2] at z; have := Option.some.inj z; show C.N < j; omega)
            have o6 : ow6 D = some (C.N + 1) := bD6.2.trans (bD5.2.trans (bD3.2.trans a2))
            have lenA := W.len
            have st6 : Stay H6 ow6 (upd H6 D (.lst (xs ++ [yv]))) ow6 := fun a o h h' => ⟨by rw [upd_ne (fun z => by rw [z, o6] at h'; cases h')]; exact h, h'⟩
            refine ⟨xs, bD6.1, ?_, acc ++ [yd], xs ++ [yv], wipeE env5 vs, ow6, upd_same, o6, ?_, ?_, ?_, ?_, ?_, a8⟩
            · rw [sizeLine_eq, (c5.stay X6.stay).length]; omega
            · exact ((c5.stay X6.stay).append (.cons dy .nil)).stay st6
            · rw [List.length_append, List.length_singleton]; omega
            · exact W.st _ _ _ _ (W.st _ _ _ _ G5 X6.stay) st6
            · intro a o h h'
              obtain ⟨p, q⟩ := ((X3.trans X5).trans X6) a o h h'
              exact ⟨by rw [upd_ne (ne_of_none h hD)]; exact p, q⟩
            · have := P6.wipe (vs := vs) (fun j hj => hio j hj)
              rw [hw] at this
              refine this.other fun a o h h' => ⟨?_, rfl⟩
              rw [upd_ne fun z => ?_]
              · exact h
              · have := h' _ (by rw [z]; exact o6)
                change C.N + 1 < C.N at this
                omega
  · rintro H2 ⟨acc, xs, env2, ow2, a1, a2, a3, a4, a5, a6, a7, a8⟩
    rw [List.drop_length, compGo] at a8
    subst a8
    obtain ⟨o, ho, hR⟩ := hk H2 ow2 D xs acc a1 a2 a3 (by have := W.len; omega)
    have X2 : Ext C.N H1 ow1 H2 (fun a => if a = D then o else ow2 a) := fun a u h h' => by
      obtain ⟨p, q⟩ := a6 a u h h'
      exact ⟨p, (if_neg (ne_of_none h hD)).trans q⟩
    refine h1 _ H2 _ X2 hR (RpE.rest P1 X2.stay ?_)
    refine a7.unblk.other fun a u h h' => ⟨h, if_neg fun z => ?_⟩
    have := h' _ (by rw [z]; exact a2)
    omega
theorem hk_data {K : PySem.W.Frag} {C : Cc} (H : Hp) (ow : Ow) (D : Addr) (xs : List V) (ds : List PyData) (h : H D = some (.lst xs)) (ho : ow D = some (C.N + 1)) (hd : DVs K H ow xs ds) (hz : ds.length ≤ 16777216) :
    ∃ o : Option Nat, (o = none ∨ o = some C.N) ∧ RE K H (fun a => if a = D then o else ow a) (.ref D) (.list ds) :=
  ⟨none, .inl rfl, .lst h (if_pos rfl) (hd.stay fun a o h h' => ⟨h, by show (if a = D then none else ow a) = none; split; rfl; exact h'⟩) hz⟩
theorem hk_own {K : PySem.W.Frag} {C : Cc} (H : Hp) (ow : Ow) (D : Addr) (xs : List V) (ds : List PyData) (h : H D = some (.lst xs)) (ho : ow D = some (C.N + 1)) (hd : DVs K H ow xs ds) (hz : ds.length ≤ 16777216) :
    ∃ o : Option Nat, (o = none ∨ o = some C.N) ∧ RM K C.N H (fun a => if a = D then o else ow a) (.ref D) (.l ds) :=
  ⟨some C.N, .inr rfl, [D], .l h (hd.stay fun a o h h' => ⟨h, by
    show (if a = D then some C.N else ow a) = none
    rw [if_neg fun z => by rw [z, ho] at h'; cases h']; exact h'⟩) hz, by simp, fun p hp => by simp at hp; subst hp; exact if_pos rfl⟩
variable {elt tg iter : Expr} {ifs : List Expr} {scope : Scope} {own : List (Str × Nat)} {pos : Pos}
def DTs (X : Cx) (C : Cc) (ifs : List Expr) (t : Env → Rs Bool) : Prop := PTs X ifs (rd X.K C RT t)
theorem PTsweak {X : Cx} {e : List Expr} {t t' : TT} (h : PTs X e t) (w : ∀ σ H Q, t' σ H Q → t σ H Q) : PTs X e t' := ⟨fun pins s σ H Q I q => h.run pins s σ H Q I (w σ H Q q)⟩
theorem dts_nil : DTs X C [] tYesD := PTsweak pts_nil fun σ H Q ⟨env, ow, P, h⟩ => h true H ow Ext.refl rfl P
theorem dts_one {c : Expr} {t : Env → Rs Bool} (h : DT X C c t) : DTs X C [c] t := pts_one h
/-- a block's parts, wherever the block starts -/
abbrev Blk (X : Cx) (s : Shared) (H : Hp) (scope : Scope) (Cc : Addr) (cl : List (Str × Addr)) (fp : List Addr) : Cx := X.blk s H scope (compEnvC scope cl Cc X.env) fp
theorem de_comp (hc : X.calm = true) (hN : X.N.Nodup) (hi : DI X C tg iter it) (ok : BlkOk X.N X.env.scope scope own)
    (hg : ∀ (s : Shared) (H : Hp) (D : Addr) (cl : List (Str × Addr)) (fp : List Addr), DG (Blk X s H scope D cl fp) C.blk tg ts g) (ht : ∀ (s : Shared) (H : Hp) (D : Addr) (cl : List (Str × Addr)) (fp : List Addr), DTs (Blk X s H scope D cl fp) C.blk ifs tt)
    (he : ∀ (s : Shared) (H : Hp) (D : Addr) (cl : List (Str × Addr)) (fp : List Addr), DE (Blk X s H scope D cl fp) C.blk elt te) (hts : ∀ i ∈ ts, i ∈ vs) (hio : IoFreeAll C vs) (hs : ∀ x, foldedSetIterable iter X.env x = pure x := by intro _; rfl) (hvs : own.map (·.2) = vs := by rfl) :
    DE X C (.ListComp elt [⟨tg, iter, ifs, 0⟩] scope pos) (eComp it g tt te vs) := by
  subst hvs
  exact PEweak (pe_lc (g := rdG X.K C.blk ts g) (tt := rd X.K C.blk RT tt) (te := rd X.K C.blk (RE X.K) te) hc hN hi ok hg ht he hs) fun σ H Q h => rd_comp (k := PyData.list) hts hio hk_data h
theorem dm_comp (hc : X.calm = true) (hN : X.N.Nodup) (hi : DI X C tg iter it) (ok : BlkOk X.N X.env.scope scope own)
    (hg : ∀ (s : Shared) (H : Hp) (D : Addr) (cl : List (Str × Addr)) (fp : List Addr), DG (Blk X s H scope D cl fp) C.blk tg ts g) (ht : ∀ (s : Shared) (H : Hp) (D : Addr) (cl : List (Str × Addr)) (fp : List Addr), DTs (Blk X s H scope D cl fp) C.blk ifs tt)
    (he : ∀ (s : Shared) (H : Hp) (D : Addr) (cl : List (Str × Addr)) (fp : List Addr), DE (Blk X s H scope D cl fp) C.blk elt te) (hts : ∀ i ∈ ts, i ∈ vs) (hio : IoFreeAll C vs) (hs : ∀ x, foldedSetIterable iter X.env x = pure x := by intro _; rfl) (hvs : own.map (·.2) = vs := by rfl) :
    DM X C (.ListComp elt [⟨tg, iter, ifs, 0⟩] scope pos) (mComp it g tt te vs) := by
  subst hvs
  exact PEweak (pe_lc (g := rdG X.K C.blk ts g) (tt := rd X.K C.blk RT tt) (te := rd X.K C.blk (RE X.K) te) hc hN hi ok hg ht he hs) fun σ H Q h => rd_comp (k := M.l) hts hio hk_own h
end
end DL
namespace DL
open PySem PySem.Spec PyProof.Rows L2
def outAt (K : PySem.W.Frag) (C : Cc) (D : Ends) (H : Hp) (ow : Ow) : Out → Prop
  | .nx env' => ∀ σ' H' ow', Ext C.N H ow H' ow' → RpE K C H' ow' σ' env' → D.nx σ' H'
  | .rt m env' => ∀ v σ' H' ow', Ext C.N H ow H' ow' → RM K C.N H' ow' v m → RpE K C H' ow' σ' env' → D.rt v H'
  | .bk env' => ∀ σ' H' ow', Ext C.N H ow H' ow' → RpE K C H' ow' σ' env' → D.bk σ' H'
  | .ct env' => ∀ σ' H' ow', Ext C.N H ow H' ow' → RpE K C H' ow' σ' env' → D.ct σ' H'
  | .ex x env' => ∀ c dx σ' H' ow', Ext C.N H ow H' ow' → XR K C H' ow' x c dx → RpE K C H' ow' σ' env' → C.W c dx σ' H'
  | .no => False
def rdS (K : PySem.W.Frag) (C : Cc) (t : Env → Out) : TS := fun D σ H => ∃ env ow, RpE K C H ow σ env ∧ outAt K C D H ow (t env)
def DS (X : Cx) (C : Cc) (st : Stmt) (t : Env → Out) : Prop := PS X st (rdS X.K C t)
def DSs (X : Cx) (C : Cc) (st : List Stmt) (t : Env → Out) : Prop := PSs X st (rdS X.K C t)
section
variable {K : PySem.W.Frag} {C : Cc} {D : Ends} {H H' : Hp} {ow ow' : Ow} {σ : L2.St} {env : Env} {o : Out}
theorem outAt_from (x : Ext C.N H ow H' ow') (h : outAt K C D H ow o) : outAt K C D H' ow' o := by
  cases o with
  | nx e => exact fun a b c y => h a b c (x.trans y)
  | rt m e => exact fun v a b c y => h v a b c (x.trans y)
  | bk e => exact fun a b c y => h a b c (x.trans y)
  | ct e => exact fun a b c y => h a b c (x.trans y)
  | ex a e => exact fun u v a b c y => h u v a b c (x.trans y)
  | no => exact h
def sThen (t u : Env → Out) : Env → Out := fun env => match t env with
  | .nx e => u e
  | .rt m e => .rt m e
  | .bk e => .bk e
  | .ct e => .ct e
  | .ex x e => .ex x e
  | .no => .no
def sNx : Env → Out := fun env => .nx env
theorem out_then {t u : Env → Out} (h : outAt K C D H ow (sThen t u env)) : outAt K C { D with nx := fun σ1 H1 => rdS K C u D σ1 H1 } H ow (t env) := by
  unfold sThen at h
  cases e : t env with
  | nx e1 => rw [e] at h; exact fun σ1 H1 ow1 x P => ⟨e1, ow1, P, outAt_from x h⟩
  | rt m e1 => rw [e] at h; exact h
  | bk e1 => rw [e] at h; exact h
  | ct e1 => rw [e] at h; exact h
  | ex x e1 => rw [e] at h; exact h
  | no => rw [e] at h; exact h
/-- an expression in a statement -/
def sE {α : Type} (t : Env → Rs α) (k : α → Env → Out) : Env → Out := fun env => match t env with
  | .ok a e => k a e
  | .ex x e => .ex x e
  | .no => .no
theorem out_E {α β : Type} {R : Hp → Ow → β → α → Prop} {t : Env → Rs α} {k : α → Env → Out} (P : RpE K C H ow σ env) (h : outAt K C D H ow (sE t k env)) {Q : β → Hp → Prop}
    (q : ∀ v H1 a e1 ow1, R H1 ow1 v a → RpE K C H1 ow1 σ e1 → outAt K C D H1 ow1 (k a e1) → Q v H1) : rd K C R t σ H Q := by
  refine ⟨env, ow, P, ?_⟩
  unfold sE at h
  cases e : t env with
  | ok a e1 => rw [e] at h; exact fun v H1 ow1 x y z => q v H1 a e1 ow1 y z (outAt_from x h)
  | ex x e1 => rw [e] at h; exact fun c dx H1 ow1 y z w => h c dx σ H1 ow1 y z w
  | no => rw [e] at h; exact h.elim
theorem out_EX {α β : Type} {R : Hp → Ow → β → α → Prop} {t : Env → Rs α} {k : α → Env → Out} (P : RpE K C H ow σ env) (h : outAt K C D H ow (sE t k env)) {Q : β → Hp → Prop}
    (q : ∀ v H1 a e1 ow1, Ext C.N H ow H1 ow1 → R H1 ow1 v a → RpE K C H1 ow1 σ e1 → outAt K C D H1 ow1 (k a e1) → Q v H1) : rd K C R t σ H Q := by
  refine ⟨env, ow, P, ?_⟩
  unfold sE at h
  cases e : t env with
  | ok a e1 => rw [e] at h; exact fun v H1 ow1 x y z => q v H1 a e1 ow1 x y z (outAt_from x h)
  | ex x e1 => rw [e] at h; exact fun c dx H1 ow1 y z w => h c dx σ H1 ow1 y z w
  | no => rw [e] at h; exact h.elim
end
section
variable {X : Cx} {C : Cc} {st : Stmt} {sts : List Stmt} {e : Expr} {pos : Pos} {t u : Env → Out}
theorem dss_nil : DSs X C [] sNx := PSsweak pss_nil fun D σ H ⟨env, ow, P, h⟩ => h σ H ow Ext.refl P
theorem dss_cons (h1 : DS X C st t) (h2 : DSs X C sts u) : DSs X C (st :: sts) (sThen t u) :=
  PSsweak (pss_cons h1 h2) fun D σ H ⟨env, ow, P, h⟩ => ⟨env, ow, P, out_then h⟩
theorem dss_one (h : DS X C st t) : DSs X C [st] t := pss_one h
def sBk : Env → Out := fun env => .bk env
def sCt : Env → Out := fun env => .ct env
def sNo : Env → Out := fun _ => .no
/-- a statement that is never reached -/
theorem ds_never : DS X C st sNo := PSweak ps_never fun D σ H ⟨env, ow, P, h⟩ => h.elim
def sRet (t : Env → Rs M) : Env → Out := sE t fun m e => .rt m e
theorem ds_ret {t : Env → Rs M} (h : DM X C e t) : DS X C (.Return (some e) pos) (sRet t) :=
  PSweak (ps_ret h) fun D σ H ⟨env, ow, P, h⟩ => out_E P h fun v H1 a e1 ow1 y z q => q v σ H1 ow1 Ext.refl y z
def sRetN : Env → Out := fun env => .rt (.d .none) env
def sDrop (t : Env → Rs M) : Env → Out := sE t fun _ e => .nx e
theorem ds_expr {t : Env → Rs M} (h : DM X C e t) (hs : swapsWith e none pos.line X.env = pure false := by rfl) : DS X C (.Expr e pos) (sDrop t) :=
  PSweak (ps_expr h hs) fun D σ H ⟨env, ow, P, h⟩ => out_E P h fun v H1 a e1 ow1 y z q => q σ H1 ow1 Ext.refl z
def sIf (c : Env → Rs Bool) (t u : Env → Out) : Env → Out := sE c fun b e => if b = true then t e else u e
theorem ds_if {c : Expr} {a b : List Stmt} {tc : Env → Rs Bool} (hc : DT X C c tc) (ha : DSs X C a t) (hb : DSs X C b u) : DS X C (.If c a b pos) (sIf tc t u) :=
  PSweak (ps_if hc ha hb) fun D σ H ⟨env, ow, P, h⟩ => out_E (R := RT) P h fun v H1 a e1 ow1 y z q => by
    cases y
    cases v with
    | true => exact iteT ⟨e1, ow1, z, q⟩
    | false => exact iteF ⟨e1, ow1, z, q⟩
def sSet (i : Nat) (t : Env → Rs M) : Env → Out := sE t fun m e => .nx (e.set i (some m))
theorem ds_set {i : Nat} {x : Str} {t : Env → Rs M} {pos' : Pos} (h : DM X C e t) (hN : X.N.Nodup) (hi : X.N[i]? = some x) (hx : Loc X.env.scope x) (hio : IoFree C i) (hs : swapsWith e (some (.Name x pos')) pos.line X.env = pure false := by rfl) (hf : X.fn x = true ∨ X.env.scope.names.lookup x = some .local := by first | exact .inl rfl | exact .inr rfl | assumption) :
    DS X C (.Assign [.Name x pos'] e pos) (sSet i t) :=
  PSweak (ps_set hN hi hx h hs hf) fun D σ H ⟨env, ow, P, h⟩ => out_E P h fun v H1 a e1 ow1 y z q => q _ H1 _ (Ext.reown Ext.refl) (z.setM y hio)
/-- name = [.. for ..] -/
theorem ds_setLc {i : Nat} {y : Str} {py : Pos} {elt tg iter : Expr} {ifs : List Expr} {scope : Scope} {own : List (Str × Nat)} {spos : Pos} {ts vs : List Nat} {it : Env → Rs (List PyData)} {g : PyData → Env → Option Env} {tt : Env → Rs Bool} {te : Env → Rs PyData}
    (hc : X.calm = true) (hN : X.N.Nodup) (hy : X.N[i]? = some y) (hyl : X.env.scope.names.lookup y = some .local) (hsw : swapsWith (.ListComp elt [⟨tg, iter, ifs, 0⟩] scope pos) (some (.Name y py)) spos.line X.env = pure true)
    (hi : DI X C tg iter it) (ok : BlkOk X.N X.env.scope scope own)
    (hg : ∀ (s : Shared) (H : Hp) (D : Addr) (cl : List (Str × Addr)) (fp : List Addr), DG (Blk X s H scope D cl fp) C.blk tg ts g) (ht : ∀ (s : Shared) (H : Hp) (D : Addr) (cl : List (Str × Addr)) (fp : List Addr), DTs (Blk X s H scope D cl fp) C.blk ifs tt)
    (he : ∀ (s : Shared) (H : Hp) (D : Addr) (cl : List (Str × Addr)) (fp : List Addr), DE (Blk X s H scope D cl fp) C.blk elt te) (hts : ∀ i ∈ ts, i ∈ vs) (hio : IoFreeAll C vs) (hioi : IoFree C i) (hs : ∀ x, foldedSetIterable iter X.env x = pure x := by intro _; rfl) (hvs : own.map (·.2) = vs := by rfl) :
    DS X C (.Assign [.Name y py] (.ListComp elt [⟨tg, iter, ifs, 0⟩] scope pos) spos) (sSet i (mComp it g tt te vs)) := by
  subst hvs
  exact PSweak (ps_setLc (g := rdG X.K C.blk ts g) (tt := rd X.K C.blk RT tt) (te := rd X.K C.blk (RE X.K) te) hc hN hy hyl hsw hi ok hg ht he hs) fun D σ H ⟨env, ow, P, h⟩ =>
    rd_comp (k := M.l) hts hio hk_own (out_E (R := RM X.K C.N) P h fun v H1 a e1 ow1 y z q => q _ H1 _ (Ext.reown Ext.refl) (z.setM y hioi))
/-- a, b = e -/
def sAsg (t : Env → Rs PyData) (g : PyData → Env → Option Env) : Env → Out := sE t fun d e => match g d e with | some e' => .nx e' | none => .no
theorem ds_asg {tg : Expr} {t : Env → Rs PyData} {ts : List Nat} {g : PyData → Env → Option Env} (h : DE X C e t) (hg : DG X C tg ts g) (hs : swapsWithSole [tg] e pos.line X.env = pure false := by rfl) (hw : swappedStores [tg] e X.env = pure none := by rfl)
    (h1 : (assignEach [tg] X.env).map (·.2) = [assign tg X.env] := by rfl) : DS X C (.Assign [tg] e pos) (sAsg t g) :=
  PSweak (ps_asg h hg hs hw h1) fun D σ H ⟨env, ow, P, h⟩ => out_E (R := RE X.K) P h fun v H1 a e1 ow1 y z q => by
    refine ⟨e1, ow1, a, z, y, ?_⟩
    cases eg : g a e1 with
    | none => rw [eg] at q; exact q
    | some e2 => rw [eg] at q; exact fun σ' _ P' => q σ' H1 ow1 Ext.refl P'
/-- x op= e -/
def sAug (i : Nat) (f : PyData → PyData → Option PyData) (t : Env → Rs PyData) : Env → Out := fun env => match slotD env i with
  | none => .no
  | some x => sE t (fun y e => match f x y with | some z => .nx (e.set i (some (.d z))) | none => .no) env
def slotL (env : Env) (i : Nat) : Option (List PyData) := match env[i]? with
  | some (some (.l x)) => some x
  | _ => none
theorem slot_l {K : PySem.W.Frag} {H : Hp} {ow : Ow} {σ : L2.St} {env : Env} {i : Nat} {x : List PyData} (P : RpE K C H ow σ env) (e : slotL env i = some x) :
    ∃ a vs, σ[i]? = some (some (.ref a)) ∧ H a = some (.lst vs) ∧ DVs K H ow vs x ∧ ow a = some i ∧ x.length ≤ 16777216 ∧ i < C.N := by
  unfold slotL at e
  split at e
  · rename_i y h
    cases e
    obtain ⟨v, fp, h1, h2, _, h4⟩ := P.sl i _ h
    cases h2 with
    | l h hd hz => exact ⟨_, _, h1, h, hd, h4 _ (by simp), hz, by rw [← P.len]; exact (List.getElem?_eq_some_iff.mp (by assumption)).1⟩
  · cases e
/-- the table of an owned dict -/
def slotM (env : Env) (i : Nat) : Option (List (Int × PyData)) := match env[i]? with
  | some (some (.m x)) => some x
  | _ => none
/-- the table of a dict that stands as it is -/
def slotF (env : Env) (i : Nat) : Option (List (Int × PyData)) := match env[i]? with
  | some (some (.fm x)) => some x
  | _ => none
/-- a name whose owned list is let go -/
def eVarF (i : Nat) : Env → Rs PyData := fun env => match env[i]? with
  | some (some (.d x)) => .ok x env
  | some (some (.l ds)) => .ok (.list ds) (env.set i (some (.d (.list ds))))
  | _ => .no
theorem freeze {K : PySem.W.Frag} {H : Hp} {ow : Ow} {σ : L2.St} {env : Env} {i : Nat} {ds : List PyData} {a : Addr} {vs : List V} (P : RpE K C H ow σ env) (h1 : σ[i]? = some (some (.ref a))) (h2 : H a = some (.lst vs)) (h3 : DVs K H ow vs ds) (h4 : ow a = some i) (hz : ds.length ≤ 16777216) (hi : i < C.N) :
    RpE K C H (off ow a) σ (env.set i (some (.d (.list ds)))) ∧ Ext C.N H ow H (off ow a) ∧ DV K H (off ow a) (.ref a) (.list ds) := by
  have st : Stay H ow H (off ow a) := fun b o hb hb' => ⟨hb, by
    by_cases z : b = a
    · rw [z]; exact off_same
    · rw [off_ne z]; exact hb'⟩
  have dv : DV K H (off ow a) (.ref a) (.list ds) := .lst h2 off_same (h3.stay st) hz
  refine ⟨⟨fun j m e => ?_, P.io, by rw [List.length_set]; exact P.len, P.lenS⟩, fun b o hb hb' => ⟨hb, off_ne fun z => ?_⟩, dv⟩
  · by_cases hj : i = j
    · subst hj
      rw [List.getElem?_set_self (by rw [P.len]; exact hi)] at e
      cases e
      exact ⟨.ref a, [], h1, .d dv, List.nodup_nil, fun p hp => by cases hp⟩
    · rw [List.getElem?_set_ne hj] at e
      obtain ⟨v, fp, a1, a2, a3, a4⟩ := P.sl j m e
      refine ⟨v, fp, a1, a2.stay st fun _ _ => rfl, a3, fun p hp => ?_⟩
      rw [off_ne fun z => ?_]
      · exact a4 p hp
      · have := a4 p hp
        rw [z, h4] at this
        exact hj (Option.some.inj this)
  · have := hb' i (by rw [z]; exact h4)
    omega
theorem de_varF (i : Nat) {x : Str} (hN : X.N[i]? = some x := by rfl) (hv : Vis X.env.scope x := by first | exact Or.inl rfl | exact Or.inr (Or.inl rfl) | exact Or.inr (Or.inr rfl)) (hd : (x == ("__debug__" : Str)) = false := by decide)
    (hcd : (x == ("__classdict__" : Str)) = false := by decide) : DE X C (.Name x pos) (eVarF i) :=
  PEweak (pe_var hN hv hd hcd) fun σ H Q ⟨env, ow, P, h⟩ => by
    unfold eVarF at h
    cases he : env[i]? with
    | none => rw [he] at h; exact h.elim
    | some o =>
      rw [he] at h
      cases o with
      | none => exact h.elim
      | some m =>
        cases m with
        | d x =>
          obtain ⟨v, h1, h2⟩ := slot_d P (show slotD env i = some x by unfold slotD; rw [he])
          exact ⟨v, h1, h v H ow Ext.refl h2 P⟩
        | l ds =>
          obtain ⟨a, vs, h1, h2, h3, h4, hz, hi⟩ := slot_l P (show slotL env i = some ds by unfold slotL; rw [he])
          obtain ⟨P', x, d⟩ := freeze P h1 h2 h3 h4 hz hi
          exact ⟨_, h1, h _ H _ x d P'⟩
        | scr ns => exact h.elim
        | m ks => exact h.elim
        | fm ks => exact h.elim
        | o _ _ => exact h.elim
        | fo _ _ => exact h.elim
        | ll _ => exact h.elim
        | fk _ => exact h.elim
        | kt _ _ => exact h.elim
        | kb _ => exact h.elim
        | ob _ _ => exact h.elim
theorem ty_list {K : PySem.W.Frag} {a : Addr} {vs : List V} {H : Hp} (h : H a = some (.lst vs)) : tyV K "list" (.ref a) H := .inl ⟨rfl, _, .of h⟩
/-- what a method does to an owned list: xs and an argument list to the answer and the new xs -/
def MtD (K : PySem.W.Frag) (r : V → List V → Hp → VK → Prop) (f : List PyData → List PyData → Option (PyData × List PyData)) : Prop :=
  ∀ (a : Addr) vs ws xs ys o zs H ow (Q : VK), H a = some (.lst vs) → DVs K H ow vs xs → xs.length ≤ 16777216 → DVs K H ow ws ys → f xs ys = some (o, zs) →
    (∀ v us, DVs K H ow us zs → DV K H ow v o → zs.length ≤ 16777216 → Q v (upd H a (.lst us))) → r (.ref a) ws H Q
def eMt (i : Nat) (f : List PyData → List PyData → Option (PyData × List PyData)) (t : Env → Rs (List PyData)) : Env → Rs PyData := fun env => match slotL env i with
  | none => .no
  | some _ => (t env).bind fun ys e => match slotL e i with
    | some xs => match f xs ys with
      | some (o, zs) => .ok o (e.set i (some (.l zs)))
      | none => .no
    | none => .no
theorem rd_mt {K : PySem.W.Frag} {i : Nat} {r : V → List V → Hp → VK → Prop} {f : List PyData → List PyData → Option (PyData × List PyData)} {t : Env → Rs (List PyData)} (hf : MtD K r f) {σ : L2.St} {H : Hp} {Q : VK} (h : rd K C (RE K) (eMt i f t) σ H Q) :
    tVar i σ H fun x H1 => tyV K "list" x H1 ∧ rd K C (RA K) t σ H1 fun xs H2 => r x xs H2 Q := by
  obtain ⟨env, ow, P, h⟩ := h
  unfold eMt at h
  cases hs : slotL env i with
  | none => rw [hs] at h; exact h.elim
  | some xs0 =>
    rw [hs] at h
    obtain ⟨a, vs, h1, h2, h3, h4, hz, hi⟩ := slot_l P hs
    refine ⟨.ref a, h1, ty_list h2, env, ow, P, rdAt_mono (rdAt_bind (R1 := RA K) h) fun ws H1 ⟨ys, e1, ow1, X1, V1, P1, h5⟩ => ?_⟩
    cases hs1 : slotL e1 i with
    | none => rw [hs1] at h5; exact h5.elim
    | some xs =>
      rw [hs1] at h5
      obtain ⟨a', vs', k1, k2, k3, k4, kz, ki⟩ := slot_l P1 hs1
      rw [h1] at k1
      cases k1
      have h5 : rdAt K C (RE K) σ H1 ow1 Q (match f xs ys with | some (o, zs) => .ok o (e1.set i (some (.l zs))) | none => .no) := h5
      cases hf1 : f xs ys with
      | none => rw [hf1] at h5; exact h5.elim
      | some oz =>
        obtain ⟨o, zs⟩ := oz
        rw [hf1] at h5
        refine hf a vs' ws xs ys o zs H1 ow1 Q k2 k3 kz V1 hf1 fun v us du dv hzz => ?_
        obtain ⟨P2, x, st⟩ := P1.upd h1 k4 ki du hzz
        exact h5 v _ ow1 x (dv.stay st) P2
variable {o e0 : Expr} {es : List Expr} {name : Str} {apos cpos : Pos} {id : String} {r : V → List V → Hp → VK → Prop} {f : List PyData → List PyData → Option (PyData × List PyData)}
theorem de_mt {i : Nat} {t : Env → Rs (List PyData)} (hf : MtD X.K r f) (slot : Slot "list" name id) (hty : typeOf (.builtin id) = pure (.type "method_descriptor")) (hm : MtR X id r) (ho : PE X o (tVar i)) (ha : DA X C (e0 :: es) t)
    (hbase : attributeBase o name X.env (eval o X.env) = eval o X.env := by rfl)
    (hfew : ((backTo cpos (starEach (e0 :: es) X.env)).all (fun x => !x.1) && (backToKw cpos (keywordEach [] X.env)).all (fun x => x.1.isSome)
      && decide ((e0 :: es).length + ([] : List Keyword).length + (if ([] : List Keyword).isEmpty then 0 else 1) < 30)) = true := by rfl)
    (hline : (apos.endLine == cpos.line) = true := by rfl) (hs : starEach (e0 :: es) X.env = (false, eval e0 X.env) :: starEach es X.env := by rfl) (hplain : (backTo cpos (starEach es X.env)).any (·.1) = false := by rfl) :
    DE X C (.Call (.Attribute o name apos) (e0 :: es) [] cpos) (eMt i f t) :=
  PEweak (pe_bm F.plainAttrs_list slot hty hm ho ha hbase hfew hline hs hplain) fun σ H Q h => rd_mt hf h
def mApp : List PyData → List PyData → Option (PyData × List PyData)
  | xs, [y] => if xs.length < 16777216 then some (.none, xs ++ [y]) else none
  | _, _ => none
variable {K : PySem.W.Frag}
theorem md_app : MtD K rAppend mApp := by
  intro a vs ws xs ys o zs H ow Q h1 h2 hz h3 e q
  unfold mApp at e
  split at e
  · obtain ⟨hl, e⟩ := if_some e
    cases e
    obtain ⟨w, rfl, d⟩ := h3.one
    exact ⟨a, vs, w, rfl, rfl, h1, by rw [sizeLine_eq, h2.length]; exact hl, q _ _ (h2.append (.cons d .nil)) .non (by rw [List.length_append, List.length_singleton]; omega)⟩
  · cases e
/-- xs[k] = e -/
def setIt (i : Nat) (d k : PyData) (e : Env) : Out := match slotL e i with
  | some xs => match k with
    | .int j => match ixN xs.length j with
      | some n => .nx (e.set i (some (.l (xs.set n d))))
      | none => .no
    | _ => .no
  | none => .no
def sSetItem (i : Nat) (t tk : Env → Rs PyData) : Env → Out := sE t fun d e => match slotL e i with
  | none => .no
  | some _ => sE tk (setIt i d) e
end
end DL
namespace DL
open PySem PySem.Spec PyProof.Rows L2
section
variable {X : Cx} {C : Cc} {K : PySem.W.Frag} {e k : Expr} {pos tpos : Pos} {t tk : Env → Rs PyData}
theorem ds_setItem {i : Nat} {o : Expr} (h : DE X C e t) (ho : PE X o (tVar i)) (hk : DE X C k tk)
    (ha : ∀ v, assign (.Subscript o k tpos) X.env v = (do
      let ov ← holding [v] (eval o X.env)
      let iv ← holding [v, ov] (eval k X.env)
      standAt tpos
      holding [v, ov, iv] (setItem ov iv v)
      release [v, ov, iv] []) := by intro _; rfl)
    (hs : swapsWithSole [.Subscript o k tpos] e pos.line X.env = pure false := by rfl) (hw : swappedStores [.Subscript o k tpos] e X.env = pure none := by rfl)
    (h1 : (assignEach [.Subscript o k tpos] X.env).map (·.2) = [assign (.Subscript o k tpos) X.env] := by rfl) : DS X C (.Assign [.Subscript o k tpos] e pos) (sSetItem i t tk) :=
  PSweak (ps_asg h (pg_sub ho hk set_list ha) hs hw h1) fun D σ H ⟨env, ow, P, h⟩ => out_E (R := RE X.K) P h fun v H1 d e1 ow1 dv P1 q => by
    cases hs1 : slotL e1 i with
    | none => rw [hs1] at q; exact q.elim
    | some xs0 =>
      rw [hs1] at q
      obtain ⟨a, vs0, k1, k2, k3, k4, kz, ki⟩ := slot_l P1 hs1
      refine ⟨.ref a, k1, ?_⟩
      have q : outAt X.K C D H1 ow1 (sE tk (setIt i d) e1) := q
      refine out_EX (R := RE X.K) P1 q fun kv H2 kd e2 ow2 X2 dk P2 q => ?_
      have dv2 : DV X.K H2 ow2 v d := dv.stay X2.stay
      unfold setIt at q
      cases hs2 : slotL e2 i with
      | none => rw [hs2] at q; exact q.elim
      | some xs =>
        rw [hs2] at q
        obtain ⟨a', vs, l1, l2, l3, l4, lz, li⟩ := slot_l P2 hs2
        rw [k1] at l1
        cases l1
        cases dk with
        | int j =>
          have q : outAt X.K C D H2 ow2 (match ixN xs.length j with | some n => .nx (e2.set i (some (.l (xs.set n d)))) | none => .no) := q
          cases hn : ixN xs.length j with
          | none => rw [hn] at q; exact q.elim
          | some n =>
            rw [hn] at q
            obtain ⟨P3, x3, st3⟩ := P2.upd k1 l4 li (l3.set dv2 n) (by rw [List.length_set]; exact lz)
            exact ⟨a, vs, j, n, rfl, rfl, l2, by rw [l3.length]; exact hn, q σ _ ow2 x3 P3⟩
        | _ => exact q.elim
def dIx : PyData → PyData → Option PyData
  | .list xs, .int i => atI xs i
  | .tuple xs, .int i => atI xs i
  | .str z, .int i => if z.length ≤ 16777216 then (atI z.cps.toList i).map fun c => .str ⟨#[c]⟩ else none
  | _, _ => none
theorem atI_dv {H : Hp} {ow : Ow} {vs : List V} {ds : List PyData} (h : DVs K H ow vs ds) {i : Int} {d : PyData} (e : atI ds i = some d) : ∃ v, atI vs i = some v ∧ DV K H ow v d := by
  unfold atI at e ⊢
  rw [h.length]
  cases hn : ixN ds.length i with
  | none => rw [hn] at e; cases e
  | some n =>
    rw [hn] at e
    exact h.get e
theorem o2_ix : Op2 K (rIx K) dIx := by
  intro v w x y o H ow Q hv hw e q
  cases hw with
  | int i =>
    cases hv with
    | @lst a xs ds h1 h2 h3 hz =>
      obtain ⟨u, k1, k2⟩ := atI_dv h3 e
      exact .inl ⟨a, xs, i, u, rfl, rfl, .of h1, k1, q _ _ _ .refl k2⟩
    | @tup a xs ds h1 h3 hz =>
      obtain ⟨u, k1, k2⟩ := atI_dv h3 e
      exact .inr (.inl ⟨a, xs, i, u, rfl, rfl, h1.sq, k1, q _ _ _ .refl k2⟩)
    | str z =>
      have e : (if z.length ≤ 16777216 then (atI z.cps.toList i).map fun c => PyData.str ⟨#[c]⟩ else none) = some o := e
      by_cases hl : z.length ≤ 16777216
      · rw [if_pos hl] at e
        cases hc : atI z.cps.toList i with
        | none => rw [hc] at e; cases e
        | some c => rw [hc] at e; cases e; exact .inr (.inr ⟨z, i, c, rfl, rfl, by rw [sizeLine_eq]; exact hl, hc, q _ _ _ .refl (.str _)⟩)
      · rw [if_neg hl] at e; cases e
    | _ => cases e
  | _ => cases x <;> cases e
theorem de_ix {a b : Expr} {ta tb : Env → Rs PyData} (ha : DE X C a ta) (hb : DE X C b tb) (hs : PlainIx b) : DE X C (.Subscript a b pos) (e2 dIx ta tb) :=
  PEweak (pe_ix ix_seq ha hb hs) fun σ H Q h => rd_op o2_ix h
/-- an item of an owned list -/
def eIxO (i : Nat) (tb : Env → Rs PyData) : Env → Rs PyData := fun env => match slotL env i with
  | none => .no
  | some _ => (tb env).bind fun k e => match slotL e i, k with
    | some xs, .int j => lift (atI xs j) e
    | _, _ => .no
theorem de_ixO {i : Nat} {a b : Expr} {tb : Env → Rs PyData} (ha : PE X a (tVar i)) (hb : DE X C b tb) (hs : PlainIx b) : DE X C (.Subscript a b pos) (eIxO i tb) :=
  PEweak (pe_ix ix_list ha hb hs) fun σ H Q ⟨env, ow, P, h⟩ => by
    unfold eIxO at h
    cases hs : slotL env i with
    | none => rw [hs] at h; exact h.elim
    | some xs0 =>
      rw [hs] at h
      obtain ⟨a, vs0, k1, k2, k3, k4, kz, ki⟩ := slot_l P hs
      refine ⟨.ref a, k1, env, ow, P, rdAt_mono (rdAt_bind (R1 := RE X.K) h) fun kv H1 ⟨kd, e1, ow1, X1, V1, P1, h1⟩ => ?_⟩
      cases hs1 : slotL e1 i with
      | none => rw [hs1] at h1; exact h1.elim
      | some xs =>
        rw [hs1] at h1
        obtain ⟨a', vs, l1, l2, l3, l4, lz, li⟩ := slot_l P1 hs1
        rw [k1] at l1
        cases l1
        cases V1 with
        | int j =>
          obtain ⟨d, e, h1⟩ := rdAt_lift (v := V.non) h1
          obtain ⟨u, m1, m2⟩ := atI_dv l3 e
          exact ⟨a, vs, j, u, rfl, rfl, .of l2, m1, h1 _ _ _ Ext.refl m2 P1⟩
        | _ => exact h1.elim
/-- slices -/
def cutD (xs : List PyData) (lo hi : Option Int) : List PyData := (xs.drop (HT.sIx xs.length 0 lo)).take (HT.sIx xs.length xs.length hi - HT.sIx xs.length 0 lo)
theorem cut_dv {H : Hp} {ow : Ow} {vs : List V} {ds : List PyData} (h : DVs K H ow vs ds) (lo hi : Option Int) : DVs K H ow (cutV vs lo hi) (cutD ds lo hi) := by
  unfold cutV cutD
  rw [h.length]
  exact (h.drop _).take _
theorem cutD_length (xs : List PyData) (lo hi : Option Int) : (cutD xs lo hi).length ≤ xs.length := by
  unfold cutD
  rw [List.length_take, List.length_drop]
  omega
def oInt : PyData → Option (Option Int)
  | .int i => some (some i)
  | _ => none
def pNo : Env → Rs (Option Int) := fun e => .ok none e
def pSome (t : Env → Rs PyData) : Env → Rs (Option Int) := fun env => (t env).bind fun d e => lift (oInt d) e
def DP (X : Cx) (C : Cc) (e : Option Expr) (t : Env → Rs (Option Int)) : Prop := PO X e (rd X.K C (fun _ _ (a b : Option Int) => a = b) t)
theorem POweak {X : Cx} {e : Option Expr} {t t' : TO} (h : PO X e t) (w : ∀ σ H Q, t' σ H Q → t σ H Q) : PO X e t' := ⟨fun pins s σ H Q I q => h.run pins s σ H Q I (w σ H Q q)⟩
theorem dp_no : DP X C none pNo := POweak po_none fun σ H Q ⟨env, ow, P, h⟩ => h none H ow Ext.refl rfl P
theorem dp_some {e : Expr} {t : Env → Rs PyData} (h : DE X C e t) : DP X C (some e) (pSome t) :=
  POweak (po_some h) fun σ H Q h => rd_one (R1 := RE X.K) h fun v x H ow env hv P h => by
    obtain ⟨o, e, h⟩ := rdAt_lift (v := (none : Option Int)) h
    cases hv with
    | int i => cases e; exact ⟨i, rfl, h _ H ow Ext.refl rfl P⟩
    | _ => cases e
def dSlice : PyData → Option Int → Option Int → Option PyData
  | .list xs, lo, hi => some (.list (cutD xs lo hi))
  | .tuple xs, lo, hi => some (.tuple (cutD xs lo hi))
  | _, _, _ => none
def eSlice (t : Env → Rs PyData) (lo hi : Env → Rs (Option Int)) : Env → Rs PyData := fun env => (t env).bind fun x e1 => (lo e1).bind fun l e2 => (hi e2).bind fun u e3 => lift (dSlice x l u) e3
theorem de_slice {lo hi : Option Expr} {tl th : Env → Rs (Option Int)} {p2 : Pos} (h : DE X C e t) (hl : DP X C lo tl) (hh : DP X C hi th) : DE X C (.Subscript e (.Slice lo hi none p2) pos) (eSlice t tl th) :=
  PEweak (pe_slice (sl_list.or DLT.sl_tupZ) h hl hh) fun σ H Q ⟨env, ow, P, h⟩ => ⟨env, ow, P, rdAt_mono (rdAt_bind (R1 := RE X.K) h) fun v H1 ⟨x, e1, ow1, X1, V1, P1, h1⟩ =>
    ⟨e1, ow1, P1, rdAt_mono (rdAt_bind (R1 := fun _ _ (a b : Option Int) => a = b) h1) fun l H2 ⟨l', e2, ow2, X2, V2, P2, h2⟩ =>
      ⟨e2, ow2, P2, rdAt_mono (rdAt_bind (R1 := fun _ _ (a b : Option Int) => a = b) h2) fun u H3 ⟨u', e3, ow3, X3, V3, P3, h3⟩ => by
        cases V2
        cases V3
        obtain ⟨o, e, h3⟩ := rdAt_lift (v := V.non) h3
        have V := (V1.stay X2.stay).stay X3.stay
        cases V with
        | @lst a xs ds k1 k2 k3 kz =>
          cases e
          exact .inl ⟨a, xs, rfl, .of k1, fun p hp => rdAt_fin h3 (Gr.new hp) (.lst upd_same off_same ((cut_dv k3 l u).stay (Gr.new hp).stay) (Nat.le_trans (cutD_length ..) kz)) P3⟩
        | @tup a xs ds k1 k3 kz =>
          cases e
          refine .inr ⟨a, xs, rfl, k1.sq, fun hw => ?_, fun hw zo p hd hp => rdAt_fin h3 (Gr.new hp) (.tup (.new hd) ((cut_dv k3 l u).stay (Gr.new hp).stay) (Nat.le_trans (cutD_length ..) kz)) P3⟩
          have e : cutD ds l u = ds := by
            unfold cutD
            rw [k3.length] at hw
            rw [hw.1, hw.2, List.drop_zero, Nat.sub_zero, List.take_length]
          rw [e] at h3
          exact h3 _ H3 ow3 Ext.refl (.tup k1 k3 kz) P3
        | _ => cases e⟩⟩⟩
def scal0 : PyData → Bool
  | .none | .bool _ | .int _ | .str _ => true
  | _ => false
theorem DV.scal {H H' : Hp} {ow ow' : Ow} {v : V} {d : PyData} (h : DV K H ow v d) (s : scal0 d = true) : DV K H' ow' v d := by
  cases h with
  | non => exact .non
  | bl b => exact .bl b
  | int b => exact .int b
  | str b => exact .str b
  | lst => cases s
  | tup => cases s
theorem Gr.back {H H' : Hp} {ow ow' : Ow} {a : Addr} {i : Nat} (g : Gr H (off ow a) H' ow') (h : ow a = some i) : Gr H ow H' (give ow' a i) := fun b o hb => by
  obtain ⟨p, q⟩ := g b o hb
  by_cases z : b = a
  · subst z; exact ⟨p, give_same.trans h.symm⟩
  · exact ⟨p, by rw [give_ne z, q, off_ne z]⟩
def chkS : Option PyData → Option PyData
  | some d => if scal0 d = true then some d else none
  | none => none
theorem chkS_some {o : Option PyData} {d : PyData} (h : chkS o = some d) : o = some d ∧ scal0 d = true := by
  cases o with
  | none => cases h
  | some x => obtain ⟨a, rfl⟩ := if_some h; exact ⟨rfl, a⟩
/-- len(xs), sum(xs), .. of an owned list -/
def eBO (i : Nat) (f : List PyData → Option PyData) : Env → Rs PyData := fun env => lift ((slotL env i).bind fun ds => chkS (f [.list ds])) env
theorem rd_BO {r : List V → Hp → VK → Prop} {f : List PyData → Option PyData} {i : Nat} (hf : OpB K r f) {σ : L2.St} {H : Hp} {Q : VK} (h : rd K C (RE K) (eBO i f) σ H Q) : tCB r (tCons (tVar i) tNil) σ H Q := by
  obtain ⟨env, ow, P, h⟩ := h
  obtain ⟨d, e, h⟩ := rdAt_lift (v := V.non) h
  cases hs : slotL env i with
  | none => rw [hs] at e; cases e
  | some ds =>
    rw [hs] at e
    obtain ⟨e, sc⟩ := chkS_some e
    obtain ⟨a, vs, h1, h2, h3, h4, hz, hi⟩ := slot_l P hs
    obtain ⟨P', x, dv⟩ := freeze P h1 h2 h3 h4 hz hi
    exact ⟨_, h1, hf _ _ d H (off ow a) Q (.cons dv .nil) e fun v' H' ow' g d => h v' H' _ (g.back h4).ext (d.scal sc) (P.gr (g.back h4))⟩
theorem de_BO {i : Nat} {x : Str} {id : String} {e : Expr} {p : Pos} {r : List V → Hp → VK → Prop} {f : List PyData → Option PyData} (hc : CallR X (.builtin id) r) (hf : OpB X.K r f) (hg : Gl X x) (hm : X.mg x = none) (hv : bootBuiltins x = some (.builtin id)) (ha : PE X e (tVar i))
    (hn : x ≠ "__name__" := by decide) (hdb : (x == ("__debug__" : Str)) = false := by decide)
    (he : starEach [e] X.env = (false, eval e X.env) :: starEach [] X.env := by rfl) (hpl : (backTo pos (starEach [] X.env)).any (·.1) = false := by rfl) : DE X C (.Call (.Name x p) [e] [] pos) (eBO i f) :=
  PEweak (pe_callB hc hg hm hv (pa_cons ha pa_nil he) hn hdb he hpl) fun σ H Q h => rd_BO hf h
/-- t op xs, xs an owned list -/
def e2R (f : PyData → PyData → Option PyData) (t : Env → Rs PyData) (i : Nat) : Env → Rs PyData := fun env => (t env).bind fun x e => lift ((slotL e i).bind fun ds => chkS (f x (.list ds))) e
/-- truth of an owned list -/
def ttO (i : Nat) : Env → Rs Bool := fun env => lift ((slotL env i).map fun ds => !ds.isEmpty) env
/-- tuple(xs), list(xs) of an owned list: a copy -/
def eTupO (i : Nat) : Env → Rs PyData := fun env => lift ((slotL env i).map fun ds => .tuple ds) env
theorem de_tupO {i : Nat} {e : Expr} {p : Pos} (hg : Gl X "tuple") (hm : X.mg "tuple" = none) (hv : bootBuiltins "tuple" = some (.type "tuple")) (ha : PE X e (tVar i))
    (he : starEach [e] X.env = (false, eval e X.env) :: starEach [] X.env := by rfl) (hpl : (backTo pos (starEach [] X.env)).any (·.1) = false := by rfl) : DE X C (.Call (.Name "tuple" p) [e] [] pos) (eTupO i) :=
  PEweak (pe_callTy DLT.call_tupZ hg hm hv (pa_cons ha pa_nil he) (by decide) (by decide) he hpl) fun σ H Q ⟨env, ow, P, h⟩ => by
    obtain ⟨d, e, h⟩ := rdAt_lift (v := V.non) h
    cases hs : slotL env i with
    | none => rw [hs] at e; cases e
    | some ds =>
      rw [hs] at e
      cases e
      obtain ⟨a, vs, h1, h2, h3, h4, hz, hi⟩ := slot_l P hs
      exact ⟨_, h1, a, vs, rfl, .inl ⟨.of h2, fun zo l hd hl => rdAt_fin h (Gr.new hl) (.tup (.new hd) (h3.stay (Gr.new hl).stay) hz) P⟩⟩
def eListO (i : Nat) : Env → Rs PyData := fun env => lift ((slotL env i).map fun ds => .list ds) env
end
end DL
namespace DL
open PySem PySem.Spec PyProof.Rows L2
section
variable {X : Cx} {C : Cc} {K : PySem.W.Frag} {pos : Pos}
def forGo (g : PyData → Env → Option Env) (body : Env → Out) : List PyData → Env → Out
  | [], e => .nx e
  | x :: xs, e => match g x e with
    | none => .no
    | some e1 => match body e1 with
      | .nx e2 => forGo g body xs e2
      | .ct e2 => forGo g body xs e2
      | .bk e2 => .nx e2
      | .rt m e2 => .rt m e2
      | .ex x e2 => .ex x e2
      | .no => .no
def sFor (it : Env → Rs (List PyData)) (g : PyData → Env → Option Env) (body : Env → Out) : Env → Out := sE it (forGo g body)
theorem rd_for {it : Env → Rs (List PyData)} {g : PyData → Env → Option Env} {ts : List Nat} {body : Env → Out} {D : Ends} {σ : L2.St} {H : Hp} (h : rdS K C (sFor it g body) D σ H) :
    tFor (rd K C (RI K) it) (rdG K C ts g) (rdS K C body) D σ H := by
  obtain ⟨env, ow, P, h⟩ := h
  refine out_EX (R := RI K) P h fun J H1 ds e1 ow1 X1 ⟨G, W, hG⟩ P1 h1 => ?_
  refine for_it (n := ds.length) (G := fun H => ∃ ow, G H ow) (Y := fun i H x H' => ∀ ow, G H ow → ∃ ow' d, ds[i]? = some d ∧ Gr H ow H' ow' ∧ DV K H' ow' x d)
    ⟨fun i H hi ⟨ow, q⟩ => W.goes i H ow hi q, fun H ⟨ow, q⟩ => W.stops H ow q, fun i H x H' hi ⟨ow, q⟩ y ow' q' => W.yields i H ow' x H' hi q' y⟩
    (fun i σ2 H2 => ∃ env2 ow2, G H2 ow2 ∧ RpE K C H2 ow2 σ2 env2 ∧ outAt K C D H2 ow2 (forGo g body (ds.drop i) env2)) ?_ ?_ ?_ ?_
  · exact ⟨e1, ow1, hG, P1, by rw [List.drop_zero]; exact h1⟩
  · rintro i σ2 H2 _ ⟨env2, ow2, q, _⟩
    exact ⟨ow2, q⟩
  · rintro i x σ2 H2 H3 hi ⟨env2, ow2, a5, a7, a8⟩ y
    obtain ⟨ow3, d, e2, g3, d3⟩ := y ow2 a5
    have hd : ds.drop i = d :: ds.drop (i + 1) := by
      have hl : i < ds.length := hi
      rw [List.drop_eq_getElem_cons hl]
      rw [List.getElem?_eq_getElem hl] at e2
      cases e2; rfl
    rw [hd, forGo] at a8
    replace a8 := outAt_from (Gr.ext g3) a8
    refine ⟨env2, ow3, d, a7.gr g3, d3, ?_⟩
    cases e3 : g d env2 with
    | none => rw [e3] at a8; exact a8.elim
    | some env3 =>
      rw [e3] at a8
      intro σ3 hσ P3
      refine ⟨env3, ow3, P3, ?_⟩
      have a8 : outAt K C D H3 ow3 (match body env3 with
        | .nx e2 => forGo g body (ds.drop (i + 1)) e2
        | .ct e2 => forGo g body (ds.drop (i + 1)) e2
        | .bk e2 => .nx e2
        | .rt m e2 => .rt m e2
        | .ex x e2 => .ex x e2
        | .no => .no) := a8
      have G3 : G H3 ow3 := W.st _ _ _ _ a5 g3.stay
      cases e4 : body env3 with
      | nx e => rw [e4] at a8; exact fun σ4 H4 ow4 X4 P4 => ⟨e, ow4, W.st _ _ _ _ G3 X4.stay, P4, outAt_from X4 a8⟩
      | ct e => rw [e4] at a8; exact fun σ4 H4 ow4 X4 P4 => ⟨e, ow4, W.st _ _ _ _ G3 X4.stay, P4, outAt_from X4 a8⟩
      | bk e => rw [e4] at a8; exact a8
      | rt m e => rw [e4] at a8; exact a8
      | ex x e => rw [e4] at a8; exact a8
      | no => rw [e4] at a8; exact a8
  · rintro σ2 H2 ⟨env2, ow2, a5, a7, a8⟩
    rw [List.drop_length] at a8
    exact a8 σ2 H2 ow2 Ext.refl a7
theorem ds_for {tg iter : Expr} {sts : List Stmt} {it : Env → Rs (List PyData)} {g : PyData → Env → Option Env} {ts : List Nat} {body : Env → Out} (hp : PassesOwn (model X.prog X.w) X.A X.env X.xe) (hc : X.calm = true) (hi : DI X C tg iter it) (hg : DG X C tg ts g) (hb : DSs X C sts body)
    (hs : ∀ x, foldedSetIterable iter X.env x = pure x := by intro _; rfl) : DS X C (.For tg iter sts [] pos) (sFor it g body) :=
  PSweak (ps_for hp hc hi hg hb hs) fun D σ H h => rd_for h
inductive FOut where
  | rt (m : M) (os : List (Option M))
  | ex (x : Exn) (os : List (Option M))
  | no
abbrev Fn := List M → FOut
def outs : List Bool → Env → List (Option M)
  | b :: r, m :: e => (if b = true then m else none) :: outs r e
  | _, _ => []
def start0 (n : Nat) (ms : List M) : Env := ms.map some ++ List.replicate (n - ms.length) none
def runDef (ios : List Bool) (n : Nat) (body : Env → Out) : Fn := fun ms => match body (start0 n ms) with
  | .nx e => .rt (.d .none) (outs ios e)
  | .rt m e => .rt m (outs ios e)
  | .ex x e => .ex x (outs ios e)
  | _ => .no
theorem outs_get : ∀ {ios : List Bool} {e : Env} {i : Nat} {m : M}, (outs ios e)[i]? = some (some m) → ios.getD i false = true ∧ e[i]? = some (some m)
  | [], _, _, _, h => by simp [outs] at h
  | _ :: _, [], _, _, h => by simp [outs] at h
  | b :: r, m0 :: e, 0, m, h => by
    simp only [outs, List.getElem?_cons_zero] at h
    cases b with
    | false => cases h
    | true => exact ⟨rfl, h⟩
  | b :: r, m0 :: e, i + 1, m, h => by
    simp only [outs, List.getElem?_cons_succ] at h
    obtain ⟨a, b⟩ := outs_get h
    exact ⟨by simpa using a, by simpa using b⟩
def RpL (K : PySem.W.Frag) (H : Hp) (ow : Ow) (vs : List V) (ms : List M) : Prop := ∀ (i : Nat) (m : M), ms[i]? = some m → ∃ v fp, vs[i]? = some v ∧ VM K H ow v m fp ∧ fp.Nodup ∧ ∀ p ∈ fp, ow p = some i
def RpO (K : PySem.W.Frag) (H : Hp) (ow : Ow) (vs : List V) (os : List (Option M)) : Prop := ∀ (i : Nat) (m : M), os[i]? = some (some m) → ∃ v fp, vs[i]? = some v ∧ VM K H ow v m fp ∧ fp.Nodup ∧ ∀ p ∈ fp, ow p = some i
def foAt (K : PySem.W.Frag) (cl : Str → Option Addr) (n : Nat) (vs : List V) (H : Hp) (ow : Ow) (Q : VK) (E : XK) : FOut → Prop
  | .rt m os => ∀ v H' ow', Ext n H ow H' ow' → RM K n H' ow' v m → RpO K H' ow' vs os → Q v H'
  | .ex x os => ∀ c dx H' ow', Ext n H ow H' ow' → XR K ⟨n, fun _ => none, cl, fun _ _ _ _ => False⟩ H' ow' x c dx → RpO K H' ow' vs os → E c dx H'
  | .no => False
def spD (K : PySem.W.Frag) (cl : Str → Option Addr) (n ar : Nat) (F : Fn) : Sp := fun vs H Q E => vs.length = ar ∧ ∃ ms ow, ms.length = ar ∧ RpL K H ow vs ms ∧ foAt K cl n vs H ow Q E (F ms)
def ioOf (ios : List Bool) (vs : List V) : Nat → Option V := fun i => if ios.getD i false = true then vs[i]? else none
theorem start_get {N : List Str} {vs : List V} {i : Nat} {v : V} (h : vs[i]? = some v) : (L2.start N vs)[i]? = some (some v) := by
  unfold L2.start
  have hi := (List.getElem?_eq_some_iff.mp h).1
  rw [List.getElem?_append_left (by simpa using hi), List.getElem?_map, h]
  rfl
theorem rp_start {N : List Str} {vs : List V} {ms : List M} {H : Hp} {ow : Ow} {ios : List Bool} {cl : Str → Option Addr} {W : WX} (hl : vs.length ≤ N.length) (hm : ms.length = vs.length) (h : RpL K H ow vs ms) : RpE K ⟨N.length, ioOf ios vs, cl, W⟩ H ow (L2.start N vs) (start0 N.length ms) := by
  refine ⟨fun i m e => ?_, fun i v e => ?_, ?_, ?_⟩
  · unfold start0 at e
    by_cases hi : i < ms.length
    · rw [List.getElem?_append_left (by simpa using hi), List.getElem?_map] at e
      cases hms : ms[i]? with
      | none => rw [hms] at e; cases e
      | some m' =>
        rw [hms] at e
        cases e
        obtain ⟨v, fp, a, b⟩ := h i m hms
        exact ⟨v, fp, start_get a, b⟩
    · rw [List.getElem?_append_right (by simpa using hi), List.getElem?_replicate] at e
      split at e
      · cases e
      · cases e
  · have e : (if ios.getD i false = true then vs[i]? else none) = some v := e
    by_cases hb : ios.getD i false = true
    · rw [if_pos hb] at e
      exact start_get e
    · rw [if_neg hb] at e; cases e
  · show (start0 N.length ms).length = N.length
    unfold start0
    rw [List.length_append, List.length_map, List.length_replicate]
    omega
  · show (L2.start N vs).length = N.length
    unfold L2.start
    rw [List.length_append, List.length_map, List.length_replicate]
    omega
/-- a def keeps its promise, by its body -/
theorem fn_d {P : Program} {w : World} {mg : Str → Option Value} {base : Heap} {x qual : Str} {st : Stmt} {f : Addr} {fd : FuncData} {N ps : List Str} {k : Nat} {cl : Str → Option Addr} {ios : List Bool} {body : Env → Out} (F : Fun K x qual st f fd) (S : FnScope N ps (defScope st)) (hps : ps.length ≤ N.length) (hios : ios.length ≤ ps.length)
    (hb : ∀ (cdv : Value) (A : Around) (outer : List PySem.Env) (s : Shared) (H : Hp) (vs : List V) (E : XK), Room k (A.deeper (envOfC qual (defScope st) s.heap.objs.size f cdv)) →
      DSs (cxOf CX0 P w K mg base N qual (defScope st) f cdv A outer s H E).nox ⟨N.length, ioOf ios vs, cl, fun c d σ H => E c d H⟩ (defBody st) body) :
    FnOk P w K mg base CX0 (k + 1) f fd ps (spD K cl N.length ps.length (runDef ios N.length body)) := by
  refine F.ok S (fun vs H Q E h => h.1) fun cdv A outer s H vs Q E hr ⟨hl, ms, ow, hm, hp, hf⟩ => ⟨_, hb cdv A outer s H vs E hr, ?_⟩
  have P0 : RpE K ⟨N.length, ioOf ios vs, cl, fun c d σ H => E c d H⟩ H ow (L2.start N vs) (start0 N.length ms) := rp_start (by omega) (by omega) hp
  refine ⟨_, ow, P0, ?_⟩
  have ro : ∀ {H' : Hp} {ow' : Ow} {σ' : L2.St} {e : Env}, RpE K ⟨N.length, ioOf ios vs, cl, fun c d σ H => E c d H⟩ H' ow' σ' e → RpO K H' ow' vs (outs ios e) := fun {H' ow' σ' e} P' i m hi => by
    obtain ⟨a, b⟩ := outs_get hi
    obtain ⟨v, fp, c1, c2, c3, c4⟩ := P'.sl i m b
    have hv : vs[i]? = some v := by
      have hlt : i < vs.length := by
        have : i < ios.length := Nat.lt_of_not_le fun z => by
          rw [List.getD_eq_getElem?_getD, List.getElem?_eq_none z] at a
          cases a
        omega
      have h2 := P'.io i vs[i] (by show (if ios.getD i false = true then vs[i]? else none) = _; rw [if_pos a]; simp)
      rw [c1] at h2
      cases h2
      simp
    exact ⟨v, fp, hv, c2, c3, c4⟩
  unfold runDef at hf
  cases e : body (start0 N.length ms) with
  | nx env => rw [e] at hf; exact fun σ' H' ow' x P' => hf .non H' ow' x ⟨[], .d .non, by simp, fun p hp => by cases hp⟩ (ro P')
  | rt m env => rw [e] at hf; exact fun v σ' H' ow' x r P' => hf v H' ow' x r (ro P')
  | ex x env => rw [e] at hf; exact fun c dx σ' H' ow' x r P' => hf c dx H' ow' x r (ro P')
  | bk env => rw [e] at hf; exact hf.elim
  | ct env => rw [e] at hf; exact hf.elim
  | no => rw [e] at hf; exact hf.elim
end
end DL
namespace DL
open PySem PySem.Spec PyProof.Rows L2
/-- an argument: data, or a slot that the callee may change -/
inductive AV where
  | d (x : PyData)
  | s (j : Nat)
inductive RVi (K : PySem.W.Frag) (σ : L2.St) (H : Hp) (ow : Ow) : List V → List AV → Prop
  | nil : RVi K σ H ow [] []
  | d {v : V} {x : PyData} {vs : List V} {r : List AV} : DV K H ow v x → RVi K σ H ow vs r → RVi K σ H ow (v :: vs) (.d x :: r)
  | s {v : V} {j : Nat} {vs : List V} {r : List AV} : σ[j]? = some (some v) → RVi K σ H ow vs r → RVi K σ H ow (v :: vs) (.s j :: r)
abbrev RV (K : PySem.W.Frag) (σ : L2.St) : Hp → Ow → List V → List AV → Prop := fun H ow vs r => RVi K σ H ow vs r
theorem RVi.length {K : PySem.W.Frag} {σ : L2.St} {H : Hp} {ow : Ow} : ∀ {vs : List V} {r : List AV}, RVi K σ H ow vs r → vs.length = r.length
  | _, _, .nil => rfl
  | _, _, .d _ t => by simp [t.length]
  | _, _, .s _ t => by simp [t.length]
theorem RVi.getS {K : PySem.W.Frag} {σ : L2.St} {H : Hp} {ow : Ow} {j : Nat} : ∀ {vs : List V} {r : List AV} {i : Nat}, RVi K σ H ow vs r → r[i]? = some (.s j) → ∃ v, vs[i]? = some v ∧ σ[j]? = some (some v)
  | _, _, _, .nil, h => by simp at h
  | _, _, 0, .d _ t, h => by simp at h
  | _, _, 0, .s a t, h => by simp at h; subst h; exact ⟨_, rfl, a⟩
  | _, _, i + 1, .d _ t, h => by simpa using t.getS (i := i) (by simpa using h)
  | _, _, i + 1, .s _ t, h => by simpa using t.getS (i := i) (by simpa using h)
theorem RVi.getD {K : PySem.W.Frag} {σ : L2.St} {H : Hp} {ow : Ow} {x : PyData} : ∀ {vs : List V} {r : List AV} {i : Nat}, RVi K σ H ow vs r → r[i]? = some (.d x) → ∃ v, vs[i]? = some v ∧ DV K H ow v x
  | _, _, _, .nil, h => by simp at h
  | _, _, 0, .d a t, h => by simp at h; subst h; exact ⟨_, rfl, a⟩
  | _, _, 0, .s a t, h => by simp at h
  | _, _, i + 1, .d _ t, h => by simpa using t.getD (i := i) (by simpa using h)
  | _, _, i + 1, .s _ t, h => by simpa using t.getD (i := i) (by simpa using h)
def avNil : Env → Rs (List AV) := fun env => .ok [] env
def avD (t : Env → Rs PyData) (u : Env → Rs (List AV)) : Env → Rs (List AV) := fun env => (t env).bind fun x e1 => (u e1).bind fun r e2 => .ok (.d x :: r) e2
def avS (j : Nat) (u : Env → Rs (List AV)) : Env → Rs (List AV) := fun env => match env[j]? with
  | some (some _) => (u env).bind fun r e2 => .ok (.s j :: r) e2
  | _ => .no
def DAv (X : Cx) (C : Cc) (es : List Expr) (t : Env → Rs (List AV)) : Prop := PA X es fun σ H Q => rd X.K C (RV X.K σ) t σ H Q
section
variable {X : Cx} {C : Cc} {e : Expr} {es : List Expr} {t : Env → Rs PyData} {u : Env → Rs (List AV)}
theorem dav_nil : DAv X C [] avNil := PAweak pa_nil fun σ H Q ⟨env, ow, P, h⟩ => h [] H ow Ext.refl .nil P
theorem dav_d (h : DE X C e t) (k : DAv X C es u) (hs : starEach (e :: es) X.env = (false, eval e X.env) :: starEach es X.env := by rfl) : DAv X C (e :: es) (avD t u) :=
  PAweak (pa_cons h k hs) fun σ H Q h => rd_two (R1 := RE X.K) (R2 := RV X.K σ) h (fun H H' ow ow' v d st x => DV.stay st x) fun v w x y H ow env hv hw P h => h _ H ow Ext.refl (.d hv hw) P
theorem dav_s {j : Nat} (h : PE X e (tVar j)) (k : DAv X C es u) (hs : starEach (e :: es) X.env = (false, eval e X.env) :: starEach es X.env := by rfl) : DAv X C (e :: es) (avS j u) :=
  PAweak (pa_cons h k hs) fun σ H Q ⟨env, ow, P, h⟩ => by
    unfold avS at h
    cases he : env[j]? with
    | none => rw [he] at h; exact h.elim
    | some o =>
      rw [he] at h
      cases o with
      | none => exact h.elim
      | some m =>
        obtain ⟨v, fp, a, b⟩ := P.sl j m he
        exact ⟨v, a, env, ow, P, rdAt_mono (rdAt_bind (R1 := RV X.K σ) h) fun w H1 ⟨y, e1, ow1, X1, V1, P1, h1⟩ => h1 _ H1 ow1 Ext.refl (.s a V1) P1⟩
end
def avM (env : Env) : AV → Option M
  | .d x => some (.d x)
  | .s j => match env[j]? with
    | some (some m) => some m
    | _ => none
theorem avM_s {env : Env} {j : Nat} {m : M} (h : avM env (.s j) = some m) : env[j]? = some (some m) := by
  have h : (match env[j]? with | some (some m) => some m | _ => none) = some m := h
  cases e : env[j]? with
  | none => rw [e] at h; cases h
  | some o =>
    rw [e] at h
    cases o with
    | none => cases h
    | some m' => cases h; rfl
def avMs (env : Env) : List AV → Option (List M)
  | [] => some []
  | a :: r => (avM env a).bind fun m => (avMs env r).map (m :: ·)
def jsOf : List AV → List Nat
  | [] => []
  | .d _ :: r => jsOf r
  | .s j :: r => j :: jsOf r
def putBack : List AV → List (Option M) → Env → Env
  | [], _, e => e
  | .d _ :: r, os, e => putBack r os.tail e
  | .s j :: r, os, e => putBack r os.tail (e.set j (os.head?.join))
def callM (ar : Nat) (F : Fn) (avs : List AV) (env : Env) : Rs M := match avMs env avs with
  | none => .no
  | some ms => if avs.length = ar ∧ (jsOf avs).Nodup then match F ms with
    | .rt m os => .ok m (putBack avs os env)
    | _ => .no
    else .no
def eCall (ar : Nat) (F : Fn) (t : Env → Rs (List AV)) : Env → Rs M := fun env => (t env).bind fun avs e => callM ar F avs e
theorem avMs_get {env : Env} : ∀ {avs : List AV} {ms : List M} {i : Nat} {m : M}, avMs env avs = some ms → ms[i]? = some m → ∃ a, avs[i]? = some a ∧ avM env a = some m
  | [], _, _, _, h, e => by cases h; simp at e
  | a :: r, ms, i, m, h, e => by
    simp only [avMs] at h
    cases ha : avM env a with
    | none => rw [ha] at h; cases h
    | some m0 =>
      rw [ha] at h
      cases hr : avMs env r with
      | none => rw [hr] at h; cases h
      | some ms0 =>
        rw [hr] at h
        cases h
        cases i with
        | zero => simp at e; subst e; exact ⟨a, rfl, ha⟩
        | succ i => simpa using avMs_get (i := i) hr (by simpa using e)
theorem avMs_length {env : Env} : ∀ {avs : List AV} {ms : List M}, avMs env avs = some ms → ms.length = avs.length
  | [], _, h => by cases h; rfl
  | a :: r, ms, h => by
    simp only [avMs] at h
    cases ha : avM env a with
    | none => rw [ha] at h; cases h
    | some m0 =>
      rw [ha] at h
      cases hr : avMs env r with
      | none => rw [hr] at h; cases h
      | some ms0 => rw [hr] at h; cases h; simp [avMs_length hr]
theorem avMs_slot {env : Env} {j : Nat} : ∀ {avs : List AV} {ms : List M}, avMs env avs = some ms → j ∈ jsOf avs → j < env.length
  | [], _, _, h => by simp [jsOf] at h
  | a :: r, ms, h, hj => by
    simp only [avMs] at h
    cases ha : avM env a with
    | none => rw [ha] at h; cases h
    | some m0 =>
      rw [ha] at h
      cases hr : avMs env r with
      | none => rw [hr] at h; cases h
      | some ms0 =>
        cases a with
        | d x => exact avMs_slot hr hj
        | s k =>
          rcases List.mem_cons.mp hj with rfl | hj
          · exact (List.getElem?_eq_some_iff.mp (avM_s ha)).1
          · exact avMs_slot hr hj
theorem mem_js {j : Nat} : ∀ {avs : List AV} {i : Nat}, avs[i]? = some (.s j) → j ∈ jsOf avs
  | [], _, h => by simp at h
  | .d x :: r, 0, h => by simp at h
  | .s k :: r, 0, h => by simp at h; subst h; exact List.mem_cons_self
  | .d x :: r, i + 1, h => by have := mem_js (avs := r) (i := i) (by simpa using h); exact this
  | .s k :: r, i + 1, h => List.mem_cons_of_mem _ (mem_js (avs := r) (i := i) (by simpa using h))
theorem putBack_get {j : Nat} {m : M} : ∀ {avs : List AV} {os : List (Option M)} {e : Env}, (putBack avs os e)[j]? = some (some m) → (∃ i : Nat, avs[i]? = some (.s j) ∧ os[i]? = some (some m)) ∨ (j ∉ jsOf avs ∧ e[j]? = some (some m))
  | [], os, e, h => .inr ⟨by simp [jsOf], h⟩
  | .d x :: r, os, e, h => by
    rcases putBack_get (avs := r) h with ⟨i, a, b⟩ | ⟨a, b⟩
    · refine .inl ⟨i + 1, by simpa using a, ?_⟩
      cases os with
      | nil => simp at b
      | cons o os => simpa using b
    · exact .inr ⟨a, b⟩
  | .s k :: r, os, e, h => by
    rcases putBack_get (avs := r) h with ⟨i, a, b⟩ | ⟨a, b⟩
    · refine .inl ⟨i + 1, by simpa using a, ?_⟩
      cases os with
      | nil => simp at b
      | cons o os => simpa using b
    · by_cases hk : k = j
      · subst hk
        by_cases hl : k < e.length
        · rw [List.getElem?_set_self hl] at b
          cases os with
          | nil => simp at b
          | cons o os => exact .inl ⟨0, rfl, by simpa using b⟩
        · rw [List.getElem?_eq_none (by simpa using hl)] at b; cases b
      · rw [List.getElem?_set_ne hk] at b
        exact .inr ⟨fun z => (List.mem_cons.mp z).elim (fun q => hk q.symm) a, b⟩
theorem putBack_length : ∀ (avs : List AV) (os : List (Option M)) (e : Env), (putBack avs os e).length = e.length
  | [], _, _ => rfl
  | .d _ :: r, os, e => putBack_length r _ _
  | .s j :: r, os, e => by
    show (putBack r os.tail (e.set j _)).length = _
    rw [putBack_length r, List.length_set]
/-- the place of slot j among the arguments -/
def posOf : List AV → Nat → Option Nat
  | [], _ => none
  | .d _ :: r, j => (posOf r j).map (· + 1)
  | .s k :: r, j => if k = j then some 0 else (posOf r j).map (· + 1)
theorem posOf_at : ∀ {avs : List AV} {i j : Nat}, (jsOf avs).Nodup → avs[i]? = some (.s j) → posOf avs j = some i
  | [], _, _, _, h => by simp at h
  | .d x :: r, 0, j, _, h => by simp at h
  | .d x :: r, i + 1, j, nd, h => by simp [posOf, posOf_at (avs := r) (i := i) nd (by simpa using h)]
  | .s k :: r, 0, j, _, h => by simp at h; simp [posOf, h]
  | .s k :: r, i + 1, j, nd, h => by
    have h' : r[i]? = some (.s j) := by simpa using h
    have nd' := List.nodup_cons.mp nd
    have hne : k ≠ j := fun z => nd'.1 (by rw [z]; exact mem_js h')
    simp [posOf, hne, posOf_at nd'.2 h']
theorem posOf_none : ∀ {avs : List AV} {j : Nat}, j ∉ jsOf avs → posOf avs j = none
  | [], _, _ => rfl
  | .d x :: r, j, h => by simp [posOf, posOf_none (avs := r) h]
  | .s k :: r, j, h => by
    have h1 : k ≠ j := fun z => h (by rw [z]; exact List.mem_cons_self)
    have h2 : j ∉ jsOf r := fun z => h (List.mem_cons_of_mem _ z)
    simp [posOf, h1, posOf_none h2]
section
variable {K : PySem.W.Frag} {C : Cc}
def owIn (ow : Ow) (avs : List AV) (n : Nat) : Ow := fun a => (ow a).map fun j => (posOf avs j).getD (n + 1)
def owOut (N : Nat) (ow : Ow) (avs : List AV) (n : Nat) (ow' : Ow) : Ow := fun a => match ow' a with
  | none => none
  | some i => if i = n then some N else match avs[i]? with
    | some (.s j) => some j
    | _ => if n < i then ow a else none
theorem owOut_none {N : Nat} {ow ow' : Ow} {avs : List AV} {n : Nat} {a : Addr} (h : ow' a = none) : owOut N ow avs n ow' a = none := by unfold owOut; rw [h]
theorem owOut_res {N : Nat} {ow ow' : Ow} {avs : List AV} {n : Nat} {a : Addr} (h : ow' a = some n) : owOut N ow avs n ow' a = some N := by unfold owOut; rw [h]; exact if_pos rfl
theorem owOut_arg {N : Nat} {ow ow' : Ow} {avs : List AV} {n i j : Nat} {a : Addr} (h : ow' a = some i) (hi : avs[i]? = some (.s j)) (hl : avs.length ≤ n) : owOut N ow avs n ow' a = some j := by
  unfold owOut
  rw [h]
  have := (List.getElem?_eq_some_iff.mp hi).1
  show (if i = n then some N else _) = _
  rw [if_neg (by omega), hi]
theorem owOut_out {N : Nat} {ow ow' : Ow} {avs : List AV} {n : Nat} {a : Addr} (h : ow' a = some (n + 1)) (hl : avs.length ≤ n) : owOut N ow avs n ow' a = ow a := by
  unfold owOut
  rw [h]
  show (if n + 1 = n then some N else match avs[n + 1]? with | some (.s j) => some j | _ => if n < n + 1 then ow a else none) = _
  rw [if_neg (by omega), List.getElem?_eq_none (by omega)]
  exact if_pos (by omega)
/-- the callee's end, in the caller's eyes -/
theorem call_back {σ : L2.St} {H H' : Hp} {ow ow' : Ow} {env : Env} {avs : List AV} {ms : List M} {vs : List V} {n : Nat} {os : List (Option M)} (P : RpE K C H ow σ env) (hv : RVi K σ H ow vs avs) (hm : avMs env avs = some ms) (nd : (jsOf avs).Nodup) (hl : avs.length ≤ n)
    (x : Ext n H (owIn ow avs n) H' ow') (ro : RpO K H' ow' vs os) :
    Ext C.N H ow H' (owOut C.N ow avs n ow') ∧ RpE K C H' (owOut C.N ow avs n ow') σ (putBack avs os env) := by
  have st2 : Stay H' ow' H' (owOut C.N ow avs n ow') := fun a o h h' => ⟨h, owOut_none h'⟩
  have far : ∀ a o, H a = some o → (ow a = none ∨ ∃ j, ow a = some j ∧ j ∉ jsOf avs) → H' a = some o ∧ owOut C.N ow avs n ow' a = ow a := fun a o h hj => by
    rcases hj with hj | ⟨j, hj, nj⟩
    · have e : owIn ow avs n a = none := by unfold owIn; rw [hj]; rfl
      obtain ⟨p, q⟩ := x a o h fun i z => by rw [e] at z; cases z
      exact ⟨p, by rw [owOut_none (q.trans e), hj]⟩
    · have e : owIn ow avs n a = some (n + 1) := by unfold owIn; rw [hj]; simp [posOf_none nj]
      obtain ⟨p, q⟩ := x a o h fun i z => by rw [e] at z; cases z; omega
      exact ⟨p, owOut_out (q.trans e) hl⟩
  have X : Ext C.N H ow H' (owOut C.N ow avs n ow') := fun a o h h' => by
    refine far a o h ?_
    cases hj : ow a with
    | none => exact .inl rfl
    | some j =>
      refine .inr ⟨j, rfl, fun z => ?_⟩
      have h1 := avMs_slot hm z
      have h2 := h' j hj
      have := P.len
      omega
  refine ⟨X, fun j m e => ?_, P.io, by rw [putBack_length]; exact P.len, P.lenS⟩
  rcases putBack_get e with ⟨i, a, b⟩ | ⟨a, b⟩
  · obtain ⟨v, fp, c1, c2, c3, c4⟩ := ro i m b
    obtain ⟨v', d1, d2⟩ := hv.getS a
    rw [c1] at d1
    cases d1
    exact ⟨v, fp, d2, c2.stay st2 fun _ _ => rfl, c3, fun p hp => owOut_arg (c4 p hp) a hl⟩
  · obtain ⟨v, fp, c1, c2, c3, c4⟩ := P.sl j m b
    have hk : ∀ p ∈ fp, H' p = H p ∧ owOut C.N ow avs n ow' p = ow p := fun p hp => by
      obtain ⟨o, ho⟩ := c2.there p hp
      obtain ⟨q, r⟩ := far p o ho (.inr ⟨j, c4 p hp, a⟩)
      exact ⟨q.trans ho.symm, r⟩
    exact ⟨v, fp, c1, c2.stay X.stay fun p hp => (hk p hp).1, c3, fun p hp => (hk p hp).2.trans (c4 p hp)⟩
theorem call_in {σ : L2.St} {H : Hp} {ow : Ow} {env : Env} {avs : List AV} {ms : List M} {vs : List V} {n : Nat} (P : RpE K C H ow σ env) (hv : RVi K σ H ow vs avs) (hm : avMs env avs = some ms) (nd : (jsOf avs).Nodup) : RpL K H (owIn ow avs n) vs ms := fun i m e => by
  have st : Stay H ow H (owIn ow avs n) := fun a o h h' => ⟨h, by unfold owIn; rw [h']; rfl⟩
  obtain ⟨a, h1, h2⟩ := avMs_get hm e
  cases a with
  | d x =>
    cases h2
    obtain ⟨v, k1, k2⟩ := hv.getD h1
    exact ⟨v, [], k1, .d (k2.stay st), List.nodup_nil, fun p hp => by cases hp⟩
  | s j =>
    obtain ⟨v, fp, c1, c2, c3, c4⟩ := P.sl j m (avM_s h2)
    obtain ⟨v', d1, d2⟩ := hv.getS h1
    rw [c1] at d2
    cases d2
    refine ⟨v, fp, d1, c2.stay st fun _ _ => rfl, c3, fun p hp => ?_⟩
    unfold owIn
    rw [c4 p hp, Option.map_some, posOf_at nd h1]
    rfl
theorem rd_call {cl : Str → Option Addr} {n ar : Nat} {F : Fn} {t : Env → Rs (List AV)} (hn : ar ≤ n) {σ : L2.St} {H : Hp} {Q : VK} (h : rd K C (RM K C.N) (eCall ar F t) σ H Q) :
    tCall (spD K cl n ar F) [] E0 (fun σ H Q => rd K C (RV K σ) t σ H Q) σ H Q := by
  refine rd_one (R1 := RV K σ) h fun vs avs H ow env hv P h => ?_
  unfold callM at h
  cases hm : avMs env avs with
  | none => rw [hm] at h; exact h.elim
  | some ms =>
    rw [hm] at h
    by_cases hc : avs.length = ar ∧ (jsOf avs).Nodup
    · have h : rdAt K C (RM K C.N) σ H ow Q (if avs.length = ar ∧ (jsOf avs).Nodup then match F ms with
        | .rt m os => .ok m (putBack avs os env)
        | _ => .no
        else .no) := h
      rw [if_pos hc] at h
      rw [List.append_nil]
      refine ⟨hv.length.trans hc.1, ms, owIn ow avs n, (avMs_length hm).trans hc.1, call_in P hv hm hc.2, ?_⟩
      cases hF : F ms with
      | no => rw [hF] at h; exact h.elim
      | ex x os => rw [hF] at h; exact h.elim
      | rt m os =>
        rw [hF] at h
        intro v H' ow' x ⟨fp, r1, r2, r3⟩ ro
        obtain ⟨X, P'⟩ := call_back P hv hm hc.2 (by omega) x ro
        exact h v H' _ X ⟨fp, r1.stay (fun a o h h' => ⟨h, owOut_none h'⟩) fun _ _ => rfl, r2, fun p hp => owOut_res (r3 p hp)⟩ P'
    · have h : rdAt K C (RM K C.N) σ H ow Q (if avs.length = ar ∧ (jsOf avs).Nodup then match F ms with
        | .rt m os => .ok m (putBack avs os env)
        | _ => .no
        else .no) := h
      rw [if_neg hc] at h
      exact h.elim
variable {X : Cx}
theorem dm_call {k n ar : Nat} {f : Addr} {fd : FuncData} {ps : List Str} {cl : Str → Option Addr} {F : Fn} {x : Str} {p pos : Pos} {e : Expr} {es : List Expr} {t : Env → Rs (List AV)} (Fo : FnOk X.prog X.w X.K X.mg X.base CX0 k f fd ps (spD X.K cl n ar F)) (hr : Room k X.A) (hg : Gl X x) (hm : X.mg x = some (.ref f)) (hk : PySem.W.keepIn X.K (.ref f) = true) (hb : Binds X.K fd ps [])
    (ha : DAv X C (e :: es) t) (hn : ar ≤ n := by decide) (hdb : (x == ("__debug__" : Str)) = false := by decide) (he : starEach (e :: es) X.env = (false, eval e X.env) :: starEach es X.env := by rfl) (hpl : (backTo pos (starEach es X.env)).any (·.1) = false := by rfl) :
    DM X C (.Call (.Name x p) (e :: es) [] pos) (eCall ar F t) :=
  PEweak (pe_call Fo hr hg hm hk hb .nil pass0 ha hdb he hpl) fun σ H Q h => rd_call hn h
end
theorem fn_no {P : Program} {w : World} {K : PySem.W.Frag} {mg : Str → Option Value} {base : Heap} {k n ar : Nat} {f : Addr} {fd : FuncData} {ps : List Str} {cl : Str → Option Addr} : FnOk P w K mg base CX0 k f fd ps (spD K cl n ar fun _ => .no) :=
  ⟨fun _ _ _ _ h => (by obtain ⟨_, _, _, _, _, h⟩ := h; exact h.elim), fun _ _ _ _ _ _ _ _ _ _ _ _ _ h => (by obtain ⟨_, _, _, _, _, h⟩ := h; exact h.elim)⟩
end DL
namespace DLS
open PySem PyProof.Rows Srt SrtO
section
variable {prog : Program} {w : World} {A : Around} {E : Value → Shared → Prop} {s : Shared}
/-- a tuple's items, collected -/
theorem collect_tup {l : Addr} {vs : List Value} {Q : List Value → Shared → Prop} (hl : IsTup s.heap l vs.toArray)
    (h : Q vs { s with heap := (s.heap.push (seqObj "list" #[] 0)).update s.heap.objs.size (Obj.mapSeq (· ++ vs.toArray)) }) (hsz : vs.length ≤ sizeLine) :
    wpAny (model prog w) A (collect (.ref l)) Q E s := by
  obtain ⟨o, ho, hc, n, hd⟩ := id hl
  unfold collect
  refine wpAny_bind (wpAny_runValue (codeAny_builtin entry_proto_collect' ?_))
  show wpAny _ _ (do again (.builtin "list.__iadd__" ⟨[← newList [], .ref l], []⟩)) _ _ s
  refine wpAny_bind (wpAny_newList (wpAny_pure ⟨Code.quiet_builtin _ (by decide +kernel), codeAny_builtin entry_list_iadd' ?_⟩))
  show wpAny _ _ (Builtin.List.listExtendWith (.ref s.heap.objs.size) (.ref l) (.ref s.heap.objs.size)) _ _ { s with heap := s.heap.push (seqObj "list" #[] 0) }
  unfold Builtin.List.listExtendWith
  have ho' : (s.heap.push (seqObj "list" #[] 0)).get? l = some o := Heap.get?_push_of_some _ ho
  refine wpAny_bind (wpAny_typeOf (T := "tuple") ⟨o, ho', hc⟩ ?_)
  have ht : (Value.type "tuple" == Value.type "tuple") = true := by rfl
  rw [if_pos (by rw [ht]; simp)]
  refine wpAny_bind (listItems_at ho' hd ?_)
  refine wpAny_bind (listItems_at (xs := #[]) (n := 0) (Heap.get?_push_size _ rfl) rfl ?_)
  rw [if_neg (by simp)]
  refine wpAny_bind (listUpdate_at (xs := #[]) (n := 0) (Heap.get?_push_size _ rfl) rfl ?_ (Nat.zero_le _) (by show (#[] ++ vs.toArray).size ≤ sizeLine + 1; simp only [Array.size_append, List.size_toArray, List.length_nil]; omega))
  refine wpAny_pure ?_
  show wpAny (model prog w) A (do
      let o ← load s.heap.objs.size
      match o.data with
      | .seq xs _ => pure xs.toList
      | _ => unsupported "internal:collect") Q E { s with heap := (s.heap.push (seqObj "list" #[] 0)).update s.heap.objs.size (Obj.mapSeq (· ++ vs.toArray)) }
  refine wpAny_bind (wpAny_load (get?_update_seq (Heap.get?_push_size _ rfl) _) ?_)
  show wpAny _ _ (pure ((#[] : Array Value) ++ vs.toArray).toList) Q E _
  rw [show ((#[] : Array Value) ++ vs.toArray).toList = vs by simp]
  exact wpAny_pure h
theorem sorted_tup {l : Addr} {vs : List Value} {ltv : Value → Value → Bool} {Q : Value → Shared → Prop} (O : Swo ltv) (hl : IsTup s.heap l vs.toArray) (hz : vs.length ≤ sizeLine)
    (hS : 2 ≤ vs.length → ∀ (h₁ : Heap) (a : Addr), h₁.get? a = some (seqObj "list" vs.toArray 0) → (∀ b o, s.heap.get? b = some o → b ≠ a ∧ h₁.get? b = some o) → SortableO prog w A.in1.in1 { s with heap := h₁ } a vs ltv)
    (h : ∀ out : List Value, Srtd ltv out → Stb ltv out vs → Q (.ref (s.heap.objs.size + 1)) { s with heap := sortedAll s.heap vs out.toArray }) :
    wpAny (model prog w) A (call (.builtin "sorted") [.ref l]) Q E s := by
  refine Calls.call_function_entry kind_sorted plain_sorted entry_sorted (args_sorted1 _) ?_
  unfold Builtin.«sorted»
  refine wpAny_bind (m := checkCount "sorted" 1 1 _) (wpAny_pure ?_)
  refine wpAny_bind (collect_tup hl ?_ hz)
  refine wpAny_bind (wpAny_newList ?_ hz)
  have hsz : ((s.heap.push (seqObj "list" #[] 0)).update s.heap.objs.size (Obj.mapSeq (· ++ vs.toArray))).objs.size = s.heap.objs.size + 1 := by
    rw [Heap.size_update, size_push']
  have hoL : (((s.heap.push (seqObj "list" #[] 0)).update s.heap.objs.size (Obj.mapSeq (· ++ vs.toArray))).push (seqObj "list" vs.toArray 0)).get? (s.heap.objs.size + 1) = some (seqObj "list" vs.toArray 0) := by
    rw [← hsz]; exact Heap.get?_push_size _ rfl
  have keep : ∀ b o, s.heap.get? b = some o → b ≠ s.heap.objs.size + 1 ∧ (((s.heap.push (seqObj "list" #[] 0)).update s.heap.objs.size (Obj.mapSeq (· ++ vs.toArray))).push (seqObj "list" vs.toArray 0)).get? b = some o := fun b o q => by
    have hlt : b < s.heap.objs.size := Heap.lt_size q
    refine ⟨Nat.ne_of_lt (Nat.lt_succ_of_lt hlt), Heap.get?_push_of_some _ ?_⟩
    rw [Heap.get?_update_ne _ _ _ _ (Nat.ne_of_lt hlt)]
    exact Heap.get?_push_of_some _ q
  show wpAny _ _ _ _ _ { s with heap := ((s.heap.push (seqObj "list" #[] 0)).update s.heap.objs.size (Obj.mapSeq (· ++ vs.toArray))).push (seqObj "list" vs.toArray 0) }
  rw [hsz]
  refine wpAny_bind (wpAny_holding (wpAny_call_entry slot_list_sort ⟨_, hoL, rfl⟩ entry_list_sort (list_sort_ord O hoL hz (fun h2 => hS h2 _ _ hoL keep) fun out hs hb => ⟨_, rfl, ?_⟩) (args_list_sort _)))
  exact wpAny_pure ⟨_, rfl, h out hs hb⟩
end
end DLS
namespace DL
open PySem PySem.Spec PyProof.Rows L2
section
variable {X : Cx} {C : Cc} {K : PySem.W.Frag} {pos : Pos}
def rSortedT (K : PySem.W.Frag) : List V → Hp → VK → Prop := fun vs H Q => ∃ (a : Addr) (ns : List Int), vs = [V.ref a] ∧ SqT K H a (ns.map V.int) ∧
  ∀ (ns' : List Int) (p : Addr), ns'.Perm ns → ns'.Pairwise (· ≤ ·) → H p = none → Q (.ref p) (upd H p (.lst (ns'.map V.int)))
theorem cr_sortedT : CallR X (.builtin "sorted") (rSortedT X.K) := by
  intro pins s σ H vs us Q I r h
  obtain ⟨a, ns, rfl, hs, q⟩ := h
  obtain ⟨its, rv, hl, hz⟩ := I.tuple hs
  rw [Vals.ref1 r]
  have hi := rv.ints
  refine DLS.sorted_tup SrtO.swo_int hl (by rw [← rv.length]; exact hz) (fun h2 h₁ a' _ _ => SrtO.ints_sortable hi h2) fun out h1 h2 => ?_
  obtain ⟨k1, k2, k3⟩ := SrtO.ints_out hi h1 h2
  obtain ⟨ep, he'⟩ := PyProof.Rows.sortedAll_at s.heap its out.toArray
  have hlen : ((out.map SrtO.iv).map V.int).length ≤ sizeLine := by
    rw [List.length_map, k2.length_eq]
    rw [List.length_map] at hz
    exact hz
  exact ⟨.ref _, upd H (s.heap.objs.size + 1) (.lst ((out.map SrtO.iv).map V.int)), I.laid (t' := s.toks) (fun _ _ => PyProof.Rows.sortedAll_old) (Nat.le_succ _) ⟨hlen, out, ep, vals_of_ints k1, he'⟩, rfl, q _ _ k2 k3 (I.hok.fresh (Nat.le_succ _))⟩
/-- ints in order -/
def insI (x : Int) : List Int → List Int
  | [] => [x]
  | y :: r => if x ≤ y then x :: y :: r else y :: insI x r
def sortI : List Int → List Int
  | [] => []
  | x :: r => insI x (sortI r)
theorem insI_perm (x : Int) : ∀ l : List Int, (insI x l).Perm (x :: l)
  | [] => .refl _
  | y :: r => by
    unfold insI
    split
    · exact .refl _
    · exact ((insI_perm x r).cons y).trans (.swap x y r)
theorem sortI_perm : ∀ l : List Int, (sortI l).Perm l
  | [] => .refl _
  | x :: r => (insI_perm x _).trans ((sortI_perm r).cons x)
theorem insI_sorted (x : Int) : ∀ {l : List Int}, l.Pairwise (· ≤ ·) → (insI x l).Pairwise (· ≤ ·)
  | [], _ => by simp [insI]
  | y :: r, h => by
    unfold insI
    split
    · rename_i hxy
      refine .cons (fun z hz => ?_) h
      rcases List.mem_cons.mp hz with rfl | hz
      · exact hxy
      · exact Int.le_trans hxy (List.rel_of_pairwise_cons h hz)
    · rename_i hxy
      refine .cons (fun z hz => ?_) (insI_sorted x h.of_cons)
      rcases List.mem_cons.mp ((insI_perm x r).mem_iff.mp hz) with rfl | hz
      · omega
      · exact List.rel_of_pairwise_cons h hz
theorem sortI_sorted : ∀ l : List Int, (sortI l).Pairwise (· ≤ ·)
  | [] => .nil
  | x :: r => insI_sorted x (sortI_sorted r)
theorem sorted_unique : ∀ {l m : List Int}, l.Perm m → l.Pairwise (· ≤ ·) → m.Pairwise (· ≤ ·) → l = m
  | [], m, p, _, _ => by rw [List.nil_perm.mp p]
  | x :: l, [], p, _, _ => by simp at p
  | x :: l, y :: m, p, h1, h2 => by
    have e : x = y := by
      have a : x ∈ y :: m := p.mem_iff.mp List.mem_cons_self
      have b : y ∈ x :: l := p.mem_iff.mpr List.mem_cons_self
      rcases List.mem_cons.mp a with a | a
      · exact a
      · rcases List.mem_cons.mp b with b | b
        · exact b.symm
        · have := List.rel_of_pairwise_cons h2 a
          have := List.rel_of_pairwise_cons h1 b
          omega
    subst e
    rw [sorted_unique ((List.perm_cons x).mp p) h1.of_cons h2.of_cons]
def pairsOf : List PyData → Option (List (Int × Int))
  | [] => some []
  | .tuple [.int i, .int j] :: r => (pairsOf r).map ((i, j) :: ·)
  | _ => none
def prD (p : Int × Int) : PyData := .tuple [.int p.1, .int p.2]
theorem pairsOf_eq : ∀ {ds : List PyData} {ps : List (Int × Int)}, pairsOf ds = some ps → ds = ps.map prD
  | [], ps, e => by cases e; rfl
  | d :: ds, ps, e => by
    unfold pairsOf at e
    split at e
    · rename_i h; cases h
    · rename_i i j r h
      cases h
      cases h2 : pairsOf ds with
      | none => rw [h2] at e; cases e
      | some qs =>
        rw [h2] at e
        cases e
        rw [pairsOf_eq h2]
        rfl
    · cases e
def cod (p : Int × Int) : Int := p.1 * 64 + p.2
def dec (c : Int) : Int × Int := (c / 64, c % 64)
def inB (p : Int × Int) : Prop := (0 ≤ p.1 ∧ p.1 < 64) ∧ 0 ≤ p.2 ∧ p.2 < 64
instance (p : Int × Int) : Decidable (inB p) := by unfold inB; exact inferInstance
theorem dec_cod (p : Int × Int) (h : inB p) : dec (cod p) = p := by
  obtain ⟨a, b⟩ := p
  obtain ⟨⟨h1, h2⟩, h3, h4⟩ := h
  simp only at h1 h2 h3 h4
  unfold dec cod
  simp only
  rw [show (a * 64 + b) / 64 = a by omega, show (a * 64 + b) % 64 = b by omega]
def sortP (ps : List (Int × Int)) : List (Int × Int) := (sortI (ps.map cod)).map dec
theorem sortP_eq {ps qs : List (Int × Int)} (hb : ∀ p ∈ ps, inB p) (h : qs.Perm ps) (hs : (qs.map cod).Pairwise (· ≤ ·)) : qs = sortP ps := by
  have e : qs.map cod = sortI (ps.map cod) := sorted_unique ((h.map cod).trans (sortI_perm _).symm) hs (sortI_sorted _)
  unfold sortP
  rw [← e, List.map_map]
  conv => lhs; rw [← List.map_id qs]
  exact List.map_congr_left fun p hp => (dec_cod p (hb p (h.mem_iff.1 hp))).symm
theorem DVs.permV {H : Hp} {ow : Ow} {xs ys : List V} (p : ys.Perm xs) : ∀ {ds : List PyData}, DVs K H ow xs ds → ∃ es : List PyData, es.Perm ds ∧ DVs K H ow ys es := by
  induction p with
  | nil => intro ds h; exact ⟨ds, .refl _, h⟩
  | cons x p ih =>
    intro ds h
    cases h with
    | cons h1 h2 =>
      obtain ⟨es, e1, e2⟩ := ih h2
      exact ⟨_ :: es, e1.cons _, .cons h1 e2⟩
  | swap x y l =>
    intro ds h
    cases h with
    | cons h1 h2 => cases h2 with
      | cons h2 h3 => exact ⟨_, .swap _ _ _, .cons h2 (.cons h1 h3)⟩
  | trans p q ihp ihq =>
    intro ds h
    obtain ⟨es, e1, e2⟩ := ihq h
    obtain ⟨fs, f1, f2⟩ := ihp e2
    exact ⟨fs, f1.trans e1, f2⟩
theorem DV.pair {H : Hp} {ow : Ow} {x : V} {p : Int × Int} (h : DV K H ow x (prD p)) : TupI K H x [p.1, p.2] := by
  cases h with
  | @tup a xs ds h1 h3 hz =>
    have e : xs = [p.1, p.2].map V.int := DVs.ints (ns := [p.1, p.2]) h3
    exact ⟨a, rfl, by rw [← e]; exact h1.sq⟩
theorem DVs.mem {H : Hp} {ow : Ow} : ∀ {ds : List PyData} {vs : List V}, DVs K H ow vs ds → ∀ x ∈ vs, ∃ d ∈ ds, DV K H ow x d
  | [], _, h, x, hx => by cases h; cases hx
  | d :: ds, _, h, x, hx => by
    cases h with
    | cons h1 h2 =>
      rcases List.mem_cons.1 hx with rfl | hx
      · exact ⟨d, List.mem_cons_self, h1⟩
      · obtain ⟨e, e1, e2⟩ := DVs.mem h2 x hx
        exact ⟨e, List.mem_cons_of_mem _ e1, e2⟩
theorem DVs.pairwise {H : Hp} {ow : Ow} {R : V → V → Prop} {S : Int × Int → Int × Int → Prop} (h : ∀ x y p q, DV K H ow x (prD p) → DV K H ow y (prD q) → R x y → S p q) : ∀ {ps : List (Int × Int)} {vs : List V}, DVs K H ow vs (ps.map prD) → vs.Pairwise R → ps.Pairwise S
  | [], _, _, _ => .nil
  | p :: ps, _, hd, hp => by
    cases hd with
    | cons h1 h2 =>
      refine .cons (fun q hq => ?_) (DVs.pairwise h h2 hp.of_cons)
      have key : ∀ {qs : List (Int × Int)} {ws : List V}, DVs K H ow ws (qs.map prD) → q ∈ qs → ∃ y ∈ ws, DV K H ow y (prD q) := by
        intro qs
        induction qs with
        | nil => intro ws _ hq; cases hq
        | cons r qs ih =>
          intro ws hw hq
          cases hw with
          | cons k1 k2 =>
            rcases List.mem_cons.1 hq with rfl | hq
            · exact ⟨_, List.mem_cons_self, k1⟩
            · obtain ⟨y, y1, y2⟩ := ih k2 hq
              exact ⟨y, List.mem_cons_of_mem _ y1, y2⟩
      obtain ⟨y, y1, y2⟩ := key h2 hq
      exact h _ _ _ _ h1 y2 (List.rel_of_pairwise_cons hp y1)
def bSorted : List PyData → Option PyData
  | [x] => (seqOf x).bind fun ds => match intsOf ds with
    | some ns => some (.list ((sortI ns).map .int))
    | none => match x, pairsOf ds with
      | .list _, some ps => if ps.length < 64 ∧ ∀ p ∈ ps, inB p then some (.list ((sortP ps).map prD)) else none
      | _, _ => none
  | _ => none
def rSortedAll (K : PySem.W.Frag) : List V → Hp → VK → Prop := fun vs H Q => (rSortedI K vs H Q ∨ rSortedT K vs H Q) ∨ rSortU K 2 64 vs H Q
theorem ob_sorted : OpB K (rSortedAll K) bSorted := by
  intro vs xs o H ow Q h e q
  match xs, h, e with
  | [x], h, e =>
    obtain ⟨v, rfl, d⟩ := h.one
    have fin : ∀ (ns ns' : List Int) (p : Addr), ns.length ≤ 16777216 → ns'.Perm ns → ns'.Pairwise (· ≤ ·) → H p = none → o = .list ((sortI ns).map .int) → Q (.ref p) (upd H p (.lst (ns'.map V.int))) := fun ns ns' p hz h1 h2 hp ho => by
      have e : ns' = sortI ns := sorted_unique (h1.trans (sortI_perm ns).symm) h2 (sortI_sorted ns)
      subst e
      subst ho
      exact q _ _ _ (Gr.new hp) (.lst upd_same off_same (DVs.of_ints _) (by rw [List.length_map, (sortI_perm ns).length_eq]; exact hz))
    cases d with
    | @lst a vs ds h1 h2 h3 hz =>
      cases hn : intsOf ds with
      | none =>
        simp only [bSorted, seqOf, hn, Option.bind_some] at e
        cases hp : pairsOf ds with
        | none => simp [hp] at e
        | some ps =>
          simp only [hp] at e
          obtain ⟨⟨hl, hb⟩, rfl⟩ := if_some e
          have he := pairsOf_eq hp
          subst he
          have hvl : vs.length < 64 := by rw [h3.length, List.length_map]; exact hl
          refine .inr ⟨a, vs, rfl, .of h1, hvl, fun x hx => ?_, fun ys p k1 k2 k3 => ?_⟩
          · obtain ⟨d, d1, d2⟩ := DVs.mem h3 x hx
            obtain ⟨r, r1, rfl⟩ := List.mem_map.1 d1
            have b := hb r r1
            exact ⟨_, d2.pair, rfl, fun m hm => by
              rcases List.mem_cons.1 hm with rfl | hm
              · exact b.1
              · rw [List.mem_singleton.1 hm]; exact b.2⟩
          · obtain ⟨es, e1, e2⟩ := DVs.permV k1 h3
            have : ∃ qs : List (Int × Int), es = qs.map prD := by
              have : ∀ l : List PyData, (∀ d ∈ l, ∃ r : Int × Int, d = prD r) → ∃ qs : List (Int × Int), l = qs.map prD := fun l => by
                induction l with
                | nil => intro _; exact ⟨[], rfl⟩
                | cons d l ih =>
                  intro hl
                  obtain ⟨r, rfl⟩ := hl d List.mem_cons_self
                  obtain ⟨qs, rfl⟩ := ih fun x hx => hl x (List.mem_cons_of_mem _ hx)
                  exact ⟨r :: qs, rfl⟩
              refine this es fun d hd => ?_
              obtain ⟨r, _, rfl⟩ := List.mem_map.1 (e1.mem_iff.1 hd)
              exact ⟨r, rfl⟩
            obtain ⟨qs, rfl⟩ := this
            have hqp : qs.Perm ps := by
              have inj : ∀ p : Int × Int, (pairsOf [prD p]) = some [p] := fun p => rfl
              have dd : ∀ p : Int × Int, (fun d : PyData => match d with | .tuple [.int i, .int j] => (i, j) | _ => (0, 0)) (prD p) = p := fun p => rfl
              have := e1.map (fun d : PyData => match d with | .tuple [.int i, .int j] => (i, j) | _ => ((0 : Int), (0 : Int)))
              rw [List.map_map, List.map_map] at this
              have e0 : ∀ l : List (Int × Int), l.map ((fun d : PyData => match d with | .tuple [.int i, .int j] => (i, j) | _ => ((0 : Int), (0 : Int))) ∘ prD) = l := fun l => by
                conv => rhs; rw [← List.map_id l]
                exact List.map_congr_left fun p _ => rfl
              rwa [e0, e0] at this
            have hs : (qs.map cod).Pairwise (· ≤ ·) := by
              rw [List.pairwise_map]
              refine DVs.pairwise (R := fun x y => ∀ n m, TupI K H x n → TupI K H y m → TS.code 64 n ≤ TS.code 64 m) (fun x y p q hx hy hr => ?_) e2 k2
              have := hr _ _ hx.pair hy.pair
              rw [code_pair, code_pair] at this
              exact this
            have := sortP_eq hb hqp hs
            subst this
            exact q _ _ _ (Gr.new k3) (.lst upd_same off_same (e2.stay (Gr.new k3).stay) (by rw [← e2.length, k1.length_eq]; omega))
      | some ns =>
        simp only [bSorted, seqOf, hn, Option.bind_some] at e
        have := intsOf_eq hn
        subst this
        have := h3.ints
        subst this
        exact .inl <| .inl ⟨a, ns, rfl, .of h1, fun ns' p k1 k2 k3 => fin ns ns' p (by simpa using hz) k1 k2 k3 (Option.some.inj e).symm⟩
    | @tup a vs ds h1 h3 hz =>
      cases hn : intsOf ds with
      | none => simp [bSorted, seqOf, hn] at e
      | some ns =>
        simp only [bSorted, seqOf, hn, Option.bind_some] at e
        have := intsOf_eq hn
        subst this
        have := h3.ints
        subst this
        exact .inl <| .inr ⟨a, ns, rfl, h1.sq, fun ns' p k1 k2 k3 => fin ns ns' p (by simpa using hz) k1 k2 k3 (Option.some.inj e).symm⟩
    | _ => cases e
theorem cr_sortedAll : CallR X (.builtin "sorted") (rSortedAll X.K) := (cr_sortedI.or cr_sortedT).or (cr_sortT (by omega))
theorem cr_sumAll (hc : X.calm = true) : CallR X (.builtin "sum") (fun vs H Q => rSum X.K vs H Q ∨ rSumT X.K vs H Q) := (cr_sum hc).or (cr_sumT hc)
def maxL : Int → List Int → Int
  | m, [] => m
  | m, x :: r => maxL (if x > m then x else m) r
def minL : Int → List Int → Int
  | m, [] => m
  | m, x :: r => minL (if x < m then x else m) r
def bMax : List PyData → Option PyData
  | [.int i, .int j] => some (.int (if j > i then j else i))
  | [.list ds] => (intsOf ds).bind fun ns => match ns with | [] => none | n :: r => some (.int (maxL n r))
  | _ => none
def bMin : List PyData → Option PyData
  | [.int i, .int j] => some (.int (if j < i then j else i))
  | [.list ds] => (intsOf ds).bind fun ns => match ns with | [] => none | n :: r => some (.int (minL n r))
  | _ => none
theorem maxL_ge : ∀ (r : List Int) (m : Int), m ≤ maxL m r ∧ ∀ y ∈ r, y ≤ maxL m r
  | [], m => ⟨Int.le_refl _, by simp⟩
  | x :: r, m => by
    obtain ⟨a, b⟩ := maxL_ge r (if x > m then x else m)
    simp only [maxL]
    refine ⟨?_, fun y hy => ?_⟩
    · split at a <;> (rename_i h; simp only [h, if_true, if_false]; omega)
    · rcases List.mem_cons.mp hy with rfl | hy
      · split at a <;> (rename_i h; simp only [h, if_true, if_false]; omega)
      · exact b y hy
theorem maxL_mem : ∀ (r : List Int) (m : Int), maxL m r ∈ m :: r
  | [], m => by simp [maxL]
  | x :: r, m => by
    have := maxL_mem r (if x > m then x else m)
    simp only [maxL]
    rcases List.mem_cons.mp this with h | h
    · rw [h]; split <;> simp
    · simp [h]
def rMaxAll (K : PySem.W.Frag) : List V → Hp → VK → Prop := fun xs H Q => (∃ i j, xs = [.int i, .int j] ∧ Q (.int (if j > i then j else i)) H) ∨ rMax K xs H Q
theorem cr_maxAll (hc : X.calm = true) : CallR X (.builtin "max") (rMaxAll X.K) := (call_max2 hc).or (cr_max hc)
theorem ob_max : OpB K (rMaxAll K) bMax := by
  intro vs xs o H ow Q h e q
  unfold bMax at e
  split at e
  · obtain ⟨v, w, rfl, d, d'⟩ := h.two
    cases d; cases d'; cases e
    exact .inl ⟨_, _, rfl, q _ _ _ .refl (.int _)⟩
  · obtain ⟨v, rfl, d⟩ := h.one
    rename_i ds
    cases d with
    | @lst a vs ds h1 h2 h3 hz =>
      cases hn : intsOf ds with
      | none => simp [hn] at e
      | some ns =>
        have := intsOf_eq hn
        subst this
        have := h3.ints
        subst this
        simp only [hn, Option.bind_some] at e
        cases ns with
        | nil => cases e
        | cons n r =>
          cases e
          refine .inr ⟨a, n :: r, rfl, .of h1, by simp, fun m hm hle => ?_⟩
          have hm' : m = maxL n r := by
            have a1 := hle _ (maxL_mem r n)
            obtain ⟨b1, b2⟩ := maxL_ge r n
            rcases List.mem_cons.mp hm with rfl | hm
            · omega
            · have := b2 m hm; omega
          subst hm'
          exact q _ _ _ .refl (.int _)
  · cases e
def eListRg (f : List PyData → Option (List PyData)) (t : Env → Rs (List PyData)) : Env → Rs PyData := fun env => (t env).bind fun xs e => lift ((f xs).map .list) e
def mListRg (f : List PyData → Option (List PyData)) (t : Env → Rs (List PyData)) : Env → Rs M := fun env => (t env).bind fun xs e => lift ((f xs).map .l) e
def aOne (t : Env → Rs PyData) : Env → Rs (List PyData) := aCons t aNil
inductive Ty where
  | int | bool | str | tup | lst
def Ty.nm : Ty → String
  | .int => "int" | .bool => "bool" | .str => "str" | .tup => "tuple" | .lst => "list"
def isI : Ty → PyData → Bool
  | .int, .int _ => true
  | .int, .bool _ => true
  | .bool, .bool _ => true
  | .str, .str _ => true
  | .tup, .tuple _ => true
  | .lst, .list _ => true
  | _, _ => false
def tyN : PyData → String
  | .none => "NoneType" | .bool _ => "bool" | .int _ => "int" | .str _ => "str" | .list _ => "list" | .tuple _ => "tuple" | .dict _ => "dict"
theorem kit_isI (T : Ty) (d : PyData) (h : ∀ kvs, d ≠ .dict kvs) : PySem.W.kitOne K (.type (tyN d)) (.type T.nm) = some (isI T d) := by
  refine kit_ty ?_
  cases d with
  | dict kvs => exact absurd rfl (h kvs)
  | _ => cases T <;> (dsimp only [tyN, Ty.nm, isI]; decide +kernel)
theorem tyx_dv {H : Hp} {ow : Ow} {v : V} {d : PyData} (h : DV K H ow v d) : TyX K H v (.type (tyN d)) ∧ ∀ kvs, d ≠ .dict kvs := by
  cases h with
  | non => exact ⟨.base .non, fun _ z => nomatch z⟩
  | bl b => exact ⟨.base (.bl b), fun _ z => nomatch z⟩
  | int i => exact ⟨.base (.int i), fun _ z => nomatch z⟩
  | str x => exact ⟨.base (.str x), fun _ z => nomatch z⟩
  | lst h1 h2 h3 hz => exact ⟨.base (.lst h1), fun _ z => nomatch z⟩
  | tup h1 h3 hz =>
    refine ⟨?_, fun _ z => nomatch z⟩
    rcases h1 with ⟨zo, h1, _⟩ | ⟨o, its, n, h1, h2, _⟩
    · exact .fTuple h1
    · exact .kTuple h1.1 h2
def eIsi (T : Ty) (t : Env → Rs PyData) : Env → Rs PyData := fun env => (t env).bind fun d e => .ok (.bool (isI T d)) e
theorem de_isi (T : Ty) {a : Expr} {t : Env → Rs PyData} {p p2 : Pos} {y : Str} (hg : Gl X "isinstance") (hm : X.mg "isinstance" = none) (hv : bootBuiltins "isinstance" = some (.builtin "isinstance")) (ha : DE X C a t) (hg2 : Gl X y) (hm2 : X.mg y = none) (hv2 : bootBuiltins y = some (.type T.nm))
    (hn2 : y ≠ "__name__" := by decide) (hd2 : (y == ("__debug__" : Str)) = false := by decide)
    (h1 : starEach [a, .Name y p2] X.env = (false, eval a X.env) :: starEach [.Name y p2] X.env := by rfl) (h2 : starEach [.Name y p2] X.env = (false, eval (.Name y p2) X.env) :: starEach [] X.env := by rfl) (hpl : (backTo pos (starEach [.Name y p2] X.env)).any (·.1) = false := by rfl) :
    DE X C (.Call (.Name "isinstance" p) [a, .Name y p2] [] pos) (eIsi T t) :=
  PEweak (pe_callB call_isi hg hm hv (pa_cons ha (pa_cons (pe_bltn (v := .ty T.nm) hg2 hm2 hv2 rfl hn2 hd2) pa_nil h2) h1) (by decide) (by decide) h1 hpl) fun σ H Q h => rd_one (R1 := RE X.K) h fun v x H ow env hv P h => by
    obtain ⟨t1, t2⟩ := tyx_dv hv
    exact ⟨v, .ty T.nm, _, _, _, rfl, .ty _, t1, kit_isI T x t2, h _ H ow Ext.refl (.bl _) P⟩
end
theorem law_sp {K : PySem.W.Frag} {cl : Str → Option Addr} {n : Nat} {F : Fn} (hF : ∀ ns : List Int, ns.length ≤ 63 → ∃ os, F [.scr ns] = .rt (.d (.bool true)) os) {H : Hp} {a : Addr} {ns : List Int} (hl : ns.length ≤ 63) (hS : SqL K H a (ns.map V.int)) :
    spD K cl n 1 F [.ref a] H (fun v _ => v = .bl true) (fun _ _ _ => False) := by
  obtain ⟨os, e⟩ := hF ns hl
  refine ⟨rfl, [.scr ns], fun _ => none, rfl, fun i m hi => ?_, ?_⟩
  · cases i with
    | zero =>
      simp at hi
      subst hi
      refine ⟨.ref a, [], rfl, .scr (by omega) ?_, List.nodup_nil, fun p hp => by cases hp⟩
      rcases hS with (h | ⟨o, h⟩) | h
      · exact .inr (.inl ⟨h, rfl⟩)
      · exact .inl ⟨o, h, rfl⟩
      · exact .inr (.inr fun H' => .inr h)
    | succ i => simp at hi
  · rw [e]
    intro v H' ow' x ⟨fp, r1, _⟩ _
    cases r1 with
    | d h => cases h; rfl
end DL
namespace DL
open PySem PySem.Spec PyProof.Rows L2
theorem bt_len : bootBuiltins "len" = some (.builtin "len") := by decide +kernel
theorem bt_abs : bootBuiltins "abs" = some (.builtin "abs") := by decide +kernel
theorem bt_sum : bootBuiltins "sum" = some (.builtin "sum") := by decide +kernel
theorem bt_all : bootBuiltins "all" = some (.builtin "all") := by decide +kernel
theorem bt_max : bootBuiltins "max" = some (.builtin "max") := by decide +kernel
theorem bt_min : bootBuiltins "min" = some (.builtin "min") := by decide +kernel
theorem bt_sorted : bootBuiltins "sorted" = some (.builtin "sorted") := by decide +kernel
theorem bt_isinstance : bootBuiltins "isinstance" = some (.builtin "isinstance") := by decide +kernel
theorem bt_int : bootBuiltins "int" = some (.type "int") := by decide +kernel
theorem bt_bool : bootBuiltins "bool" = some (.type "bool") := by decide +kernel
theorem bt_str : bootBuiltins "str" = some (.type "str") := by decide +kernel
theorem bt_tuple : bootBuiltins "tuple" = some (.type "tuple") := by decide +kernel
theorem bt_list : bootBuiltins "list" = some (.type "list") := by decide +kernel
theorem hu65 {k : Nat} {A : Around} (hr : Room k A) : A.units + 65 < cLine := by have := hr.un; omega
theorem ioAll {C : Cc} {vs : List Nat} (h : (vs.all fun i => (C.io i).isNone) = true) : IoFreeAll C vs := fun i hi => by
  have := List.all_eq_true.mp h i hi
  exact Option.isNone_iff_eq_none.mp this
section
variable {X : Cx} {C : Cc} {K : PySem.W.Frag} {pos : Pos}
/-- a module's constant -/
inductive Kon (mg : Str → Option Value) (x : Str) : PyData → Prop
  | int {i : Int} {t : Tok} (h : mg x = some (.int i t)) : Kon mg x (.int i)
theorem Kon.de {x : Str} {d : PyData} (k : Kon X.mg x d) (hg : Gl X x) (hd : (x == ("__debug__" : Str)) = false := by decide) : DE X C (.Name x pos) (eC d) := by
  cases k with
  | @int i t h => exact de_glob (v := .int i) hg h ⟨_, rfl⟩ (fun _ _ => .int _) hd
def dAddI : PyData → PyData → Option PyData
  | .int i, .int j => some (.int (i + j))
  | _, _ => none
/-- name = [.. for ..], data -/
theorem ds_setLcD {i : Nat} {y : Str} {py : Pos} {elt tg iter : Expr} {ifs : List Expr} {scope : Scope} {own : List (Str × Nat)} {spos : Pos} {ts vs : List Nat} {it : Env → Rs (List PyData)} {g : PyData → Env → Option Env} {tt : Env → Rs Bool} {te : Env → Rs PyData}
    (hc : X.calm = true) (hN : X.N.Nodup) (hy : X.N[i]? = some y) (hyl : X.env.scope.names.lookup y = some .local) (hsw : swapsWith (.ListComp elt [⟨tg, iter, ifs, 0⟩] scope pos) (some (.Name y py)) spos.line X.env = pure true)
    (hi : DI X C tg iter it) (ok : BlkOk X.N X.env.scope scope own)
    (hg : ∀ (s : Shared) (H : Hp) (D : Addr) (cl : List (Str × Addr)) (fp : List Addr), DG (Blk X s H scope D cl fp) C.blk tg ts g) (ht : ∀ (s : Shared) (H : Hp) (D : Addr) (cl : List (Str × Addr)) (fp : List Addr), DTs (Blk X s H scope D cl fp) C.blk ifs tt)
    (he : ∀ (s : Shared) (H : Hp) (D : Addr) (cl : List (Str × Addr)) (fp : List Addr), DE (Blk X s H scope D cl fp) C.blk elt te) (hts : ∀ i ∈ ts, i ∈ vs) (hio : IoFreeAll C vs) (hioi : IoFree C i) (hs : ∀ x, foldedSetIterable iter X.env x = pure x := by intro _; rfl) (hvs : own.map (·.2) = vs := by rfl) :
    DS X C (.Assign [.Name y py] (.ListComp elt [⟨tg, iter, ifs, 0⟩] scope pos) spos) (sSet i (mD (eComp it g tt te vs))) := by
  subst hvs
  exact PSweak (ps_setLc (g := rdG X.K C.blk ts g) (tt := rd X.K C.blk RT tt) (te := rd X.K C.blk (RE X.K) te) hc hN hy hyl hsw hi ok hg ht he hs) fun D σ H ⟨env, ow, P, h⟩ => by
    refine rd_comp (k := PyData.list) hts hio hk_data (out_E (R := RE X.K) (k := fun d e => .nx (e.set i (some (.d d)))) P ?_ fun v H1 a e1 ow1 y z q => q _ H1 _ Ext.refl (z.setD y hioi))
    have e : sSet i (mD (eComp it g tt te (own.map (·.2)))) env = sE (fun env => (eComp0 it g tt te (own.map (·.2)) env).bind fun r e => .ok (.list r) e) (fun d e => .nx (e.set i (some (.d d)))) env := by
      unfold sSet sE mD eComp
      dsimp only
      cases eComp0 it g tt te (own.map (·.2)) env <;> rfl
    rw [← e]; exact h
/-- a name whose owned list goes on -/
def mVar (i : Nat) : Env → Rs M := fun env => match env[i]? with
  | some (some (.l ds)) => .ok (.l ds) (env.set i none)
  | some (some (.d x)) => .ok (.d x) env
  | some (some (.m ks)) => .ok (.m ks) (env.set i none)
  | _ => .no
/-- a tuple of names takes a list -/
def gTL (n : Nat) (gs : List PyData → Env → Option Env) : PyData → Env → Option Env := fun d env => match d with | .list ds => if ds.length = n then gs ds env else none | _ => none
end
end DL
namespace DL
open PySem PySem.Spec PyProof.Rows L2
section
variable {X : Cx} {C : Cc}
/-- x is a list, or a tuple whose object has no names of its own -/
def tyS (K : PySem.W.Frag) (T : String) (x : V) (H : Hp) : Prop := match x with
  | .ref p => (T = "list" ∧ ∃ xs, SqL K H p xs) ∨ (T = "tuple" ∧ ((∃ zo xs, H p = some (.frz zo (.tup xs)) ∧ zo.dict = none) ∨ ∃ o, K.lookup p = some o ∧ o.cls = .type "tuple" ∧ o.dict = none))
  | _ => False
theorem tyS_is {pps : List (Addr × Obj)} {σ : L2.St} {H : Hp} {sh : Shared} {T : String} {x : V} {v : Value} (I : Inv X pps σ H sh) (r : RelV x v) (ty : tyS X.K T x H) :
    sh.TypeIs v T ∧ ∀ a, v = .ref a → ∃ ob, sh.heap.get? a = some ob ∧ ob.dict = none := by
  cases x with
  | ref p =>
    rcases ty with ⟨rfl, xs, lq⟩ | ⟨rfl, ⟨zo, xs, e, d⟩ | ⟨o, e, c, d⟩⟩
    · exact tyV_is I r (T := "list") (.inl ⟨rfl, xs, lq⟩)
    · cases r
      obtain ⟨e1, _, jts, _, o, e2, c, _⟩ := (show ObjOk X.prog X.w H sh.heap p (.frz zo (.tup xs)) from I.hok p _ e)
      refine ⟨⟨o, e2, c⟩, fun a ea => ?_⟩
      cases ea
      exact ⟨zo, e1, d⟩
    · cases r
      exact ⟨⟨o, I.kIn p o e, c⟩, fun a ea => by cases ea; exact ⟨o, I.kIn _ o e, d⟩⟩
  | _ => exact ty.elim
/-- a call of a method of either type -/
def tSM (K : PySem.W.Frag) (r1 r2 : V → List V → Hp → VK → Prop) (to : TE) (t : TA) : TE := fun σ H Q => to σ H fun x H1 => (tyS K "list" x H1 ∧ t σ H1 fun xs H2 => r1 x xs H2 Q) ∨ (tyS K "tuple" x H1 ∧ t σ H1 fun xs H2 => r2 x xs H2 Q)
theorem pe_sm {o e : Expr} {es : List Expr} {to : TE} {t : TA} {name : Str} {apos cpos : Pos} {i1 i2 : String} {r1 r2 : V → List V → Hp → VK → Prop} (slot1 : Slot "list" name i1) (hty1 : typeOf (.builtin i1) = pure (.type "method_descriptor")) (hm1 : MtR X i1 r1)
    (slot2 : Slot "tuple" name i2) (hty2 : typeOf (.builtin i2) = pure (.type "method_descriptor")) (hm2 : MtR X i2 r2) (ho : PE X o to) (ha : PA X (e :: es) t)
    (hbase : attributeBase o name X.env (eval o X.env) = eval o X.env := by rfl)
    (hfew : ((backTo cpos (starEach (e :: es) X.env)).all (fun x => !x.1) && (backToKw cpos (keywordEach [] X.env)).all (fun x => x.1.isSome)
      && decide ((e :: es).length + ([] : List Keyword).length + (if ([] : List Keyword).isEmpty then 0 else 1) < 30)) = true := by rfl)
    (hline : (apos.endLine == cpos.line) = true := by rfl) (nst : starEach (e :: es) X.env = (false, eval e X.env) :: starEach es X.env := by rfl) (npl : (backTo cpos (starEach es X.env)).any (·.1) = false := by rfl) :
    PE X (.Call (.Attribute o name apos) (e :: es) [] cpos) (tSM X.K r1 r2 to t) := by
  refine ⟨fun pps sh σ H Q I h => ?_⟩
  refine wpAny_Call_method_late hbase hfew hline rfl (thn (ho.run pps sh σ H _ I h) fun v s1 ⟨x, H1, J, rv, y⟩ => ?_)
  have fin : ∀ (T id : String) (r : V → List V → Hp → VK → Prop) (pa : PlainAttrs T) (slot : Slot T name id) (hty : typeOf (.builtin id) = pure (.type "method_descriptor")) (hm : MtR X id r), tyS X.K T x H1 → t σ H1 (fun xs H2 => r x xs H2 Q) → MethodOn X.prog X.w X.A name cpos v (backTo cpos (starEach (e :: es) X.env)) (EP X pps σ Q) X.xe s1 := fun T id r pa slot hty hm ty y1 => by
    obtain ⟨z1, z2⟩ := tyS_is J rv ty
    refine ⟨T, id, pa, slot, hty, z1, z2, ?_⟩
    have zA := ha.run cpos pps s1 σ H1 _ J y1
    rw [nst] at zA ⊢
    refine Calls.callWith_builtin (by show (false || (backTo cpos (starEach es X.env)).any (·.1)) = false; rw [npl]; rfl) (Calls.evalArgs_plain ?_)
    exact thn zA fun uu s2 ⟨vs, H2, J2, rw2, y2⟩ => hm pps s2 σ H2 x vs v uu Q J2 rv rw2 y2
  rcases y with ⟨ty, y⟩ | ⟨ty, y⟩
  · exact fin _ _ _ PySem.F.plainAttrs_list slot1 hty1 hm1 ty y
  · exact fin _ _ _ PySem.F.plainAttrs_tuple slot2 hty2 hm2 ty y
/-- t.count(k) of whole numbers -/
def rCntTI (K : PySem.W.Frag) : V → List V → Hp → VK → Prop := fun x xs H Q => ∃ (p : Addr) (ns : List Int) (k : Int), x = .ref p ∧ xs = [.int k] ∧ SqT K H p (ns.map V.int) ∧ Q (.int (ns.count k : Nat)) H
theorem mt_tcount : MtR X "tuple.count" (rCntTI X.K) := by
  intro pps sh σ H x xs v us Q I rx rxs h
  obtain ⟨p, ns, k, rfl, rfl, lq, y⟩ := h
  cases rx
  obtain ⟨u, rfl, ru⟩ := rxs.one
  obtain ⟨t, rfl⟩ := ru
  obtain ⟨jts, sv, ⟨⟨cls, dd, data, sl⟩, ho, cc, n, cd⟩, lz⟩ := I.tuple lq
  simp only at cc cd
  subst cc cd
  have ji := ints_of_vals sv
  refine call_meets PySem.F.slot_tuple_count ⟨_, ho, rfl⟩ PySem.F.entry_tuple_count (PySem.F.args_tuple_count_2 _ _)
    (PySem.SeqAt.tuple_countAt p jts.toArray n dd sl (.int k t) (eqk k)) ⟨ho, fun w hw => (eqk_gives ji w (by simpa using hw)).at _ _, ?_⟩
  have ec : jts.toArray.toList.countP (eqk k) = ns.count k := eqk_count ji
  rw [ec]
  exact ⟨.int (ns.count k : Nat), H, I.tok _, ⟨sh.toks, rfl⟩, y⟩
def isSq : PyData → Bool
  | .list _ | .tuple _ => true
  | _ => false
/-- what such a method answers -/
def eSM (f : PyData → List PyData → Option PyData) (t : Env → Rs PyData) (u : Env → Rs (List PyData)) : Env → Rs PyData := fun env => (t env).bind fun x e1 => if isSq x = true then (u e1).bind fun ys e2 => lift (f x ys) e2 else .no
def SmD (K : PySem.W.Frag) (r1 r2 : V → List V → Hp → VK → Prop) (f : PyData → List PyData → Option PyData) : Prop :=
  ∀ v ws x ys o H ow (Q : VK), DV K H ow v x → DVs K H ow ws ys → f x ys = some o → (∀ w, DV K H ow w o → Q w H) → match x with
    | .list _ => r1 v ws H Q
    | .tuple _ => r2 v ws H Q
    | _ => False
def cntD : PyData → List PyData → Option PyData
  | .list xs, [.int k] => (intsOf xs).map fun ns => .int (ns.count k : Nat)
  | .tuple xs, [.int k] => (intsOf xs).map fun ns => .int (ns.count k : Nat)
  | _, _ => none
theorem sm_cnt {K : PySem.W.Frag} : SmD K (rCntI K) (rCntTI K) cntD := by
  intro v ws x ys o H ow Q hv hw e q
  cases hv with
  | @lst a xs ds h1 h2 h3 hz =>
    unfold cntD at e
    split at e
    · rename_i xs' k e1
      cases e1
      obtain ⟨w, rfl, d⟩ := hw.one
      cases d
      cases hn : intsOf ds with
      | none => rw [hn] at e; cases e
      | some ns =>
        rw [hn] at e
        cases e
        have := intsOf_eq hn
        subst this
        have := h3.ints
        subst this
        exact ⟨a, ns, k, rfl, rfl, .of h1, q _ (.int _)⟩
    · rename_i e1; cases e1
    · cases e
  | @tup a xs ds h1 h3 hz =>
    unfold cntD at e
    split at e
    · rename_i e1; cases e1
    · rename_i xs' k e1
      cases e1
      obtain ⟨w, rfl, d⟩ := hw.one
      cases d
      cases hn : intsOf ds with
      | none => rw [hn] at e; cases e
      | some ns =>
        rw [hn] at e
        cases e
        have := intsOf_eq hn
        subst this
        have := h3.ints
        subst this
        exact ⟨a, ns, k, rfl, rfl, h1.sq, q _ (.int _)⟩
    · cases e
  | _ => cases e
theorem tyS_l {K : PySem.W.Frag} {H : Hp} {ow : Ow} {v : V} {xs : List PyData} (h : DV K H ow v (.list xs)) : tyS K "list" v H := by
  cases h with
  | lst h1 h2 h3 hz => exact .inl ⟨rfl, _, .of h1⟩
theorem tyS_t {K : PySem.W.Frag} {H : Hp} {ow : Ow} {v : V} {xs : List PyData} (h : DV K H ow v (.tuple xs)) : tyS K "tuple" v H := by
  cases h with
  | tup h1 h3 hz =>
    rcases h1 with ⟨zo, h1, h2, _⟩ | ⟨o, its, n, h1, h2, _⟩
    · exact .inr ⟨rfl, .inl ⟨zo, _, h1, h2⟩⟩
    · exact .inr ⟨rfl, .inr ⟨o, h1.1, h2, h1.2⟩⟩
theorem de_sm {o e0 : Expr} {es : List Expr} {name : Str} {apos cpos : Pos} {i1 i2 : String} {r1 r2 : V → List V → Hp → VK → Prop} {f : PyData → List PyData → Option PyData} {t : Env → Rs PyData} {u : Env → Rs (List PyData)} (hf : SmD X.K r1 r2 f)
    (slot1 : Slot "list" name i1) (hty1 : typeOf (.builtin i1) = pure (.type "method_descriptor")) (hm1 : MtR X i1 r1) (slot2 : Slot "tuple" name i2) (hty2 : typeOf (.builtin i2) = pure (.type "method_descriptor")) (hm2 : MtR X i2 r2)
    (ho : DE X C o t) (ha : DA X C (e0 :: es) u)
    (hbase : attributeBase o name X.env (eval o X.env) = eval o X.env := by rfl)
    (hfew : ((backTo cpos (starEach (e0 :: es) X.env)).all (fun x => !x.1) && (backToKw cpos (keywordEach [] X.env)).all (fun x => x.1.isSome)
      && decide ((e0 :: es).length + ([] : List Keyword).length + (if ([] : List Keyword).isEmpty then 0 else 1) < 30)) = true := by rfl)
    (hline : (apos.endLine == cpos.line) = true := by rfl) (nst : starEach (e0 :: es) X.env = (false, eval e0 X.env) :: starEach es X.env := by rfl) (npl : (backTo cpos (starEach es X.env)).any (·.1) = false := by rfl) :
    DE X C (.Call (.Attribute o name apos) (e0 :: es) [] cpos) (eSM f t u) :=
  PEweak (pe_sm slot1 hty1 hm1 slot2 hty2 hm2 ho ha hbase hfew hline nst npl) fun σ H Q ⟨env, ow, P, h⟩ => ⟨env, ow, P, rdAt_mono (rdAt_bind (R1 := RE X.K) h) fun v H1 ⟨x, e1, ow1, X1, V1, P1, h1⟩ => by
    by_cases hx : isSq x = true
    rotate_left
    · rw [if_neg hx] at h1
      exact h1.elim
    rw [if_pos hx] at h1
    have fin : ∀ (r : V → List V → Hp → VK → Prop), (∀ ws ys o H2 ow2, DV X.K H2 ow2 v x → DVs X.K H2 ow2 ws ys → f x ys = some o → (∀ w, DV X.K H2 ow2 w o → Q w H2) → r v ws H2 Q) → rd X.K C (RA X.K) u σ H1 fun xs H2 => r v xs H2 Q := fun r hr => by
      refine ⟨e1, ow1, P1, rdAt_mono (rdAt_bind (R1 := RA X.K) h1) fun ws H2 ⟨ys, e2, ow2, X2, V2, P2, h2⟩ => ?_⟩
      obtain ⟨o, e, h2⟩ := rdAt_lift (v := V.non) h2
      exact hr ws ys o H2 ow2 (V1.stay X2.stay) V2 e fun w dw => h2 _ H2 ow2 Ext.refl dw P2
    cases x with
    | list xs => exact .inl ⟨tyS_l V1, fin r1 fun ws ys o H2 ow2 d1 d2 e q => hf v ws _ ys o H2 ow2 Q d1 d2 e q⟩
    | tuple xs => exact .inr ⟨tyS_t V1, fin r2 fun ws ys o H2 ow2 d1 d2 e q => hf v ws _ ys o H2 ow2 Q d1 d2 e q⟩
    | _ => exact absurd hx (by simp [isSq])⟩
theorem idx_first {ns : List Int} {k : Int} (h : k ∈ ns) : ns[ns.idxOf k]? = some k ∧ ∀ m, m < ns.idxOf k → ns[m]? ≠ some k := by
  induction ns with
  | nil => cases h
  | cons x xs ih =>
    rw [List.idxOf_cons]
    by_cases hx : x = k
    · subst hx
      simp
    · have hk : k ∈ xs := by
        rcases List.mem_cons.mp h with e | e
        · exact absurd e.symm hx
        · exact e
      obtain ⟨z1, z2⟩ := ih hk
      have hx' : (x == k) = false := by simpa using hx
      rw [hx', cond_false]
      refine ⟨by simpa using z1, fun m hm => ?_⟩
      cases m with
      | zero => simpa using hx
      | succ m => simpa using z2 m (by omega)
end
end DL
namespace DLT
open PySem PySem.Spec PyProof.Rows L2 RZ
section
variable {prog : Program} {w : World} {A : Around} {E : Value → Shared → Prop} {s : Shared}
set_option maxHeartbeats 1000000 in
theorem meets_enum_tup (a : Addr) (us : Array Value) :
    Meets (Builtin.«enumerate.__new__» ⟨[.type "enumerate", .ref a], []⟩) (fun _ R s => s.heap.IsTuple a us ∧
      R (.ok (.ret (.ref (s.heap.push { cls := .type "tuple_iterator", data := .fields #[.ref a, .int 0 0] }).objs.size)))
        { s with heap := (s.heap.push { cls := .type "tuple_iterator", data := .fields #[.ref a, .int 0 0] }).push { cls := .type "enumerate", data := .fields #[.none, .bool false, .ref s.heap.objs.size, rawInt 0, .none, .none] } }) :=
  .of_wp fun prog w A R s h => by
    obtain ⟨hp, g, d, tk, os⟩ := s; obtain ⟨ht, h⟩ := h
    have hsub := sub_enumerate
    have kk : Heap.IsTuple (Shared.heap ⟨hp, g, d, tk, os⟩) a us := ht
    wp_walk using wpAny_pyIter_tuple kk
    refine wpAny_stack_any fun st => wpAny_pure ?_
    split
    · rename_i c _ _ _ _ _
      cases (c == Value.type "enumerate")
      · wp_walk using wpAny_pyIter_tuple kk
        exact ⟨_, rfl, h⟩
      · wp_walk using wpAny_pyIter_tuple kk
        exact ⟨_, rfl, h⟩
    · wp_walk using wpAny_pyIter_tuple kk
      exact ⟨_, rfl, h⟩
theorem call_enum_tup {a : Addr} {us : Array Value} {Q : Value → Shared → Prop} (ht : s.heap.IsTuple a us)
    (h : ∀ h', IsEnum h' (s.heap.objs.size + 1) s.heap.objs.size 0 .none → h'.IsTupleIter s.heap.objs.size a 0 → h'.objs.size = s.heap.objs.size + 2 →
      (∀ b o, s.heap.get? b = some o → h'.get? b = some o) → Q (.ref (s.heap.objs.size + 1)) { s with heap := h' }) :
    wpAny (model prog w) A (call (.type "enumerate") [.ref a]) Q E s := by
  refine callType_new F.called_enumerate (by decide) (F.typeCall_enumerate_1 _) (F.newCall_enumerate_1 _) (fun z => F.args_object_init_2 z _) F.entry_enumerate_new (meets_enum_tup a us) ⟨ht, ?_⟩
  have gz : (s.heap.push { cls := .type "tuple_iterator", data := .fields #[.ref a, .int 0 0] }).objs.size = s.heap.objs.size + 1 := Heap.size_push ..
  show _ ∧ _
  rw [gz]
  have te : IsEnum ((s.heap.push { cls := .type "tuple_iterator", data := .fields #[.ref a, .int 0 0] }).push { cls := .type "enumerate", data := .fields #[.none, .bool false, .ref s.heap.objs.size, rawInt 0, .none, .none] }) (s.heap.objs.size + 1) s.heap.objs.size 0 .none := by
    have z := Heap.get?_push_size (s.heap.push { cls := .type "tuple_iterator", data := .fields #[.ref a, .int 0 0] }) (o := { cls := .type "enumerate", data := .fields #[.none, .bool false, .ref s.heap.objs.size, rawInt 0, .none, .none] }) rfl
    rw [gz] at z; exact z
  exact ⟨⟨_, te, rfl⟩, h _ te ⟨_, Heap.get?_push_of_some _ (Heap.get?_push_size _ rfl), rfl, rfl⟩ (by rw [Heap.size_push, gz]) fun b o x => Heap.get?_push_of_some _ (Heap.get?_push_of_some _ x)⟩
theorem enum_endT {e it a : Addr} {i : Nat} {us : Array Value} {old : Value} {Q : Option Value → Shared → Prop} (hh : A.handled = none) (he : IsEnum s.heap e it i old) (hit : s.heap.IsTupleIter it a i) (ht : s.heap.IsTuple a us) (hx : us[i]? = none)
    (hQ : ∀ h', Heap.ExtBut it s.heap h' → Q none { s with heap := h' }) : wpAny (model prog w) A (pyNext (.ref e)) Q E s := by
  have hT : s.TypeIs (.ref e) "enumerate" := ⟨_, he, rfl⟩
  unfold pyNext
  refine wpAny_bind (wpAny_attempt (wpAny_callSpecial?_slot (name := Str.ofString "__next__") hT F.slot_enumerate_next (wpAny_call_entry F.slot_enumerate_next hT F.entry_enumerate_next ?_ (F.args_enumerate_next_1 _))))
  show wpAny _ _ (field (.ref e) 2 >>= _) _ _ _
  refine wpAny_bind (wpAny_field he rfl (x := .ref it) rfl ?_)
  refine wpAny_bind (wpAny_nextOf_tuple_end hh hit ht hx fun h' x z1 z2 => ?_)
  obtain ⟨o, ho, ct⟩ := z2
  exact wpAny_bind (wpAny_isInstance (T := "StopIteration") (b := true) ⟨o, ho, ct⟩ isSubtype_stop (wpAny_pure (hQ _ z1)))
end
/-- the tuple at a as it stands at each turn, each item in a new pair -/
def IteT (K : PySem.W.Frag) (a : Addr) : It :=
  ⟨fun i H => ∃ (xs : List V) (x : V), SqT K H a xs ∧ xs[i]? = some x, fun i H v H' => ∃ T x zo, v = .ref T ∧ H T = none ∧ H' = upd H T (.frz zo (.tup [.int (i : Nat), x])) ∧ zo.dict = none ∧ ∀ xs, SqT K H a xs → xs[i]? = some x, fun i H => ∃ xs : List V, SqT K H a xs ∧ xs.length ≤ i⟩
theorem turn_enumT {P : Program} {w : World} {K : PySem.W.Frag} {elts : List Expr} {kk : Nat} {tpos : Pos} (a e it : Addr) :
    Turn P w K (.Tuple elts kk tpos) (IteT K a) [e, it] e (fun ix h => (∃ old, IsEnum h e it ((ix : Nat) : Int) old) ∧ h.IsTupleIter it a ix ∧ e ≠ it ∧ e ≠ a ∧ a ≠ it) where
  mem := by simp
  obj := fun ix h sta b nb => by
    obtain ⟨⟨old, he⟩, ⟨o, ho, cc, hd⟩, _⟩ := sta
    have ee : b = e ∨ b = it := by simpa using nb
    rcases ee with z | z
    · rw [z]; exact ⟨_, he, fun v qq => nomatch qq⟩
    · rw [z]; exact ⟨o, ho, fun v qq => by rw [hd] at qq; cases qq⟩
  keep := fun ix h h' sta k => let ⟨⟨old, he⟩, hi, hne⟩ := sta; ⟨⟨old, k e (by simp) _ he⟩, hi.at fun o qq => k it (by simp) o qq, hne⟩
  item := by
    intro X hP hw hK cc ix pps sh σ H EE I fo sta yg
    subst hP hw hK
    obtain ⟨⟨old, he⟩, hit, hn3⟩ := sta
    obtain ⟨hne, hea, hat⟩ := hn3
    obtain ⟨xs, x, lq, gx⟩ := yg
    obtain ⟨jts, sv, pl1, gz⟩ := I.tuple lq
    obtain ⟨u, hu, ru⟩ := sv.get gx
    have lel : e < sh.heap.objs.size := Heap.lt_size he
    have lil : it < sh.heap.objs.size := by obtain ⟨_, qq, _⟩ := hit; exact Heap.lt_size qq
    have hlt : ix < jts.toArray.size := by
      have := (List.getElem?_eq_some_iff.mp hu).1
      simpa using this
    refine wpAny_pyNext_enum_itemD (Draws.tuple (show X.A.in1.handled = none from I.ok.hd cc) it a hat jts.toArray) he ⟨hit, pl1⟩ hlt hne (by simp [hne, hea]) fun u' h' tk hPu ho hst' hT hsz hk => ?_
    have eu : u' = u := by
      have q2 : jts.toArray[ix]? = some u := by simpa using hu
      rw [q2] at hPu
      exact (Option.some.inj hPu).symm
    subst eu
    have hit' := hst'.1
    refine ⟨_, rfl, wpAny_letOwnedTupleGo_enum (s := { sh with heap := h', toks := tk + 1 }) ho fun h'' he' sb => ?_⟩
    have tT2 : h''.get? sh.heap.objs.size = some { cls := .type "tuple", data := .seq #[.int ix tk, u'] } := (sb.2 _ (Nat.ne_of_gt lel)).trans hT
    have neu : ObjOk X.prog X.w (upd H sh.heap.objs.size (.frz { cls := .type "tuple", data := .seq #[.int ix tk, u'] } (.tup [.int (ix : Nat), x]))) h'' sh.heap.objs.size (.frz { cls := .type "tuple", data := .seq #[.int ix tk, u'] } (.tup [.int (ix : Nat), x])) :=
      ⟨tT2, by show 2 ≤ sizeLine; decide, [.int ix tk, u'], .cons ⟨_, rfl⟩ (.cons ru .nil), ⟨_, tT2, rfl, _, rfl⟩⟩
    have I1 : Inv X pps σ (upd H sh.heap.objs.size (.frz { cls := .type "tuple", data := .seq #[.int ix tk, u'] } (.tup [.int (ix : Nat), x]))) { sh with heap := h'', toks := tk + 1 } :=
      I.turnedNew (ch := [e, it]) (fun b ob nb qq => (sb.2 b (fun z => nb (by simp [z]))).trans (hk b ob (fun z => nb (by simp [z])) (fun z => nb (by simp [z])) qq)) fo (Nat.le_refl _) neu
    refine ⟨.ref sh.heap.objs.size, _, I1, rfl, ⟨_, x, _, rfl, I.hok.fresh (Nat.le_refl _), rfl, rfl, fun ys hy => by rw [I.tuple_inj hy lq]; exact gx⟩, ⟨⟨u', ?_⟩, hit'.at fun o qq => (sb.2 it (Ne.symm hne)).trans qq, ⟨hne, hea, hat⟩⟩, fun b nb => ?_⟩
    · have e1 : ((ix + 1 : Nat) : Int) = (ix : Int) + 1 := by omega
      rw [e1]; exact he'
    · have hb' : b < sh.heap.objs.size := by
        have ee : b = e ∨ b = it := by simpa using nb
        rcases ee with z | z
        · rw [z]; exact lel
        · rw [z]; exact lil
      rw [upd_ne (Nat.ne_of_lt hb')]
      exact (fo b nb).1
  done := by
    intro X hP hw hK cc ix pps sh σ H EE I fo sta yg
    subst hP hw hK
    obtain ⟨⟨old, he⟩, hit, hne, hea, hat⟩ := sta
    obtain ⟨xs, lq, gx⟩ := yg
    obtain ⟨jts, sv, pl1, gz⟩ := I.tuple lq
    obtain ⟨f0, f1, f2, f3, f4, f5⟩ := fo it (by simp)
    have hl := sv.length
    exact enum_endT (I.ok.hd cc) he hit pl1 (by simp; omega) fun h' eb => ⟨rfl, I.turned (t' := sh.toks) (fun b o nb qq => eb b o nb qq) f0 f1 f3 f4 f5⟩
  self := fun A ix sh Q EE sta h => let ⟨⟨_, he⟩, _⟩ := sta; wpAny_pyIter_enum he h
def iEnumA (K : PySem.W.Frag) (ta : TA) : TI := fun σ H R => ta σ H fun vs H1 => ∃ a xs, vs = [.ref a] ∧ ((SqL K H1 a xs ∧ R (IteZ K a) H1) ∨ (SqT K H1 a xs ∧ R (IteT K a) H1))
theorem pi_enumA {X : Cx} {e : Expr} {ta : TA} {pl1 pos tpos : Pos} {elts : List Expr} {kk : Nat} (yg : Gl X "enumerate") (mz : X.mg "enumerate" = none) (pa1 : PA X [e] ta) (ns1 : starEach [e] X.env = [(false, eval e X.env)] := by rfl) :
    PI X (.Tuple elts kk tpos) (.Call (.Name "enumerate" pl1) [e] [] pos) (iEnumA X.K ta) := by
  refine ⟨fun pps sh σ H R I h => ?_⟩
  refine Call_ (ld_blt I yg mz boot_enumerate (PyProof.Rows.callWith_type1 (thn (pa1.run pos pps sh σ H _ I h) fun uu s1 ⟨vs, H1, J, r1, q1⟩ => ?_) ns1 rfl))
  obtain ⟨a, xs, ex, lqq⟩ := q1
  subst ex
  have far : ∀ b, b ∈ [s1.heap.objs.size + 1, s1.heap.objs.size] → FpOk X pps H1 b := fun b nb => by
    have ee : b = s1.heap.objs.size + 1 ∨ b = s1.heap.objs.size := by simpa using nb
    have lec : s1.heap.objs.size ≤ b := by rcases ee with z | z <;> rw [z] <;> omega
    exact J.fpOk lec (J.hok.fresh lec)
  cases r1 with
  | cons rr0 rr1 =>
    cases rr1
    cases rr0
    rcases lqq with ⟨lq, qq⟩ | ⟨lq, qq⟩
    · obtain ⟨jts, sv, pl, gz⟩ := J.list lq
      refine call_enumerate_list pl.isList fun h' he hit gsz gk => wpAny_pyIter_enum he ?_
      have J2 : Inv X pps σ H1 { s1 with heap := h' } := J.kept (t' := s1.toks) gk
      exact ⟨s1.heap.objs.size + 1, [s1.heap.objs.size + 1, s1.heap.objs.size], _, _, H1, rfl, J2, turn_enumZ a (s1.heap.objs.size + 1) s1.heap.objs.size, ⟨⟨.none, he⟩, hit, Nat.succ_ne_self _⟩, far, qq⟩
    · obtain ⟨jts, sv, pl, gz⟩ := J.tuple lq
      obtain ⟨oa, hoa, _⟩ := id pl
      have la := Heap.lt_size hoa
      refine call_enum_tup (show s1.heap.IsTuple a jts.toArray from pl) fun h' he hit gsz gk => wpAny_pyIter_enum he ?_
      have J2 : Inv X pps σ H1 { s1 with heap := h' } := J.kept (t' := s1.toks) gk
      exact ⟨s1.heap.objs.size + 1, [s1.heap.objs.size + 1, s1.heap.objs.size], _, _, H1, rfl, J2, turn_enumT a (s1.heap.objs.size + 1) s1.heap.objs.size, ⟨⟨.none, he⟩, hit, Nat.succ_ne_self _, Nat.ne_of_gt (Nat.lt_succ_of_lt la), Nat.ne_of_lt la⟩, far, qq⟩
end DLT
namespace DL
open PySem PySem.Spec PyProof.Rows L2
section
variable {X : Cx} {C : Cc} {K : PySem.W.Frag}
def bEnum : List PyData → Option (List PyData)
  | [.list xs] => some (enumD 0 xs)
  | [.tuple xs] => some (enumD 0 xs)
  | _ => none
theorem wk_enumT {a : Addr} {xs : List V} {ds : List PyData} (hz : ds.length ≤ 16777216) (h : xs.length = ds.length) : Wk K (DLT.IteT K a) (enumD 0 ds) fun H ow => FT K H ow a xs ∧ DVs K H ow xs ds where
  st := fun H ow H' ow' ⟨a, c⟩ st => ⟨a.stay st, c.stay st⟩
  goes := fun i H ow hi ⟨a, c⟩ => by
    rw [enumD_length] at hi
    exact ⟨xs, xs[i]'(by omega), a.sq, by simp [h, hi]⟩
  stops := fun H ow ⟨a, c⟩ => ⟨xs, a.sq, by rw [enumD_length]; omega⟩
  yields := fun i H ow x H' hi ⟨a, c⟩ ⟨T, u, zo, e1, e2, e3, hd, e4⟩ => by
    rw [enumD_length] at hi
    subst e1; subst e3
    obtain ⟨v, h1, h2⟩ := c.get (i := i) (d := ds[i]) (by simp)
    have := e4 xs a.sq
    rw [h1] at this
    cases this
    refine ⟨off ow T, .tuple [.int i, ds[i]], ?_, Gr.new e2, .tup (.new hd) (.cons (.int _) (.cons (h2.stay (Gr.new e2).stay) .nil)) (by simp)⟩
    rw [enumD_get]
    simp [hi]
  len := by rw [enumD_length]; exact hz
theorem di_enum {a : Expr} {elts : List Expr} {kk : Nat} {tpos : Pos} {t : Env → Rs (List PyData)} {p pos : Pos} (hg : Gl X "enumerate") (hm : X.mg "enumerate" = none) (ha : DA X C [a] t) (hs : starEach [a] X.env = [(false, eval a X.env)] := by rfl) :
    DI X C (.Tuple elts kk tpos) (.Call (.Name "enumerate" p) [a] [] pos) (itB bEnum t) :=
  PIweak (DLT.pi_enumA hg hm ha hs) fun σ H Q h => rd_one (R1 := RA X.K) h fun v x H ow env hv P h => by
    obtain ⟨o, e, h⟩ := rdAt_lift (v := Itr 0 0) h
    unfold bEnum at e
    split at e
    · obtain ⟨w, rfl, d⟩ := hv.one
      cases d with
      | @lst a xs ds h1 h2 h3 hz =>
        cases e
        exact ⟨a, xs, rfl, .inl ⟨.of h1, h _ H ow Ext.refl ⟨_, wk_enumL hz h3.length, h1, h2, h3⟩ P⟩⟩
    · obtain ⟨w, rfl, d⟩ := hv.one
      cases d with
      | @tup a xs ds h1 h3 hz =>
        cases e
        exact ⟨a, xs, rfl, .inr ⟨h1.sq, h _ H ow Ext.refl ⟨_, wk_enumT hz h3.length, h1, h3⟩ P⟩⟩
    · cases e
end
end DL
namespace DL
open PySem PySem.Spec PyProof.Rows L2
inductive AL where
  | d (x : PyData)
  | l (j : Nat)
inductive RLi (K : PySem.W.Frag) (σ : L2.St) (H : Hp) (ow : Ow) : List V → List AL → Prop
  | nil : RLi K σ H ow [] []
  | d {v : V} {x : PyData} {vs : List V} {r : List AL} : DV K H ow v x → RLi K σ H ow vs r → RLi K σ H ow (v :: vs) (.d x :: r)
  | l {v : V} {j : Nat} {vs : List V} {r : List AL} : σ[j]? = some (some v) → RLi K σ H ow vs r → RLi K σ H ow (v :: vs) (.l j :: r)
def alNil : Env → Rs (List AL) := fun env => .ok [] env
def alD (t : Env → Rs PyData) (u : Env → Rs (List AL)) : Env → Rs (List AL) := fun env => (t env).bind fun x e1 => (u e1).bind fun r e2 => .ok (.d x :: r) e2
def alL (j : Nat) (u : Env → Rs (List AL)) : Env → Rs (List AL) := fun env => match env[j]? with
  | some (some _) => (u env).bind fun r e2 => .ok (.l j :: r) e2
  | _ => .no
def alM (env : Env) : AL → Option M
  | .d x => some (.d x)
  | .l j => (env[j]?.join.bind frzM).map .d
def alMs (env : Env) : List AL → Option (List M)
  | [] => some []
  | a :: r => (alM env a).bind fun m => (alMs env r).map (m :: ·)
/-- what holds no list -/
def scalar : PyData → Bool
  | .tuple xs => xs.all scal0
  | x => scal0 x
def callL (ar : Nat) (F : Fn) (als : List AL) (env : Env) : Rs PyData := match alMs env als with
  | none => .no
  | some ms => if als.length = ar then match F ms with
    | .rt (.d x) _ => if scalar x = true then .ok x env else .no
    | _ => .no
    else .no
def eCallL (ar : Nat) (F : Fn) (t : Env → Rs (List AL)) : Env → Rs PyData := fun env => (t env).bind fun als e => callL ar F als e
section
variable {K : PySem.W.Frag} {C : Cc}
theorem RLi.length {σ : L2.St} {H : Hp} {ow : Ow} : ∀ {vs : List V} {r : List AL}, RLi K σ H ow vs r → vs.length = r.length
  | _, _, .nil => rfl
  | _, _, .d _ t => by simp [t.length]
  | _, _, .l _ t => by simp [t.length]
theorem dvs_scal0 {H : Hp} {ow ow' : Ow} : ∀ {vs : List V} {xs : List PyData}, DVs K H ow vs xs → xs.all scal0 = true → DVs K H ow' vs xs
  | _, _, .nil, _ => .nil
  | _, _, .cons h t, s => by
    rw [List.all_cons, Bool.and_eq_true] at s
    exact .cons (h.scal s.1) (dvs_scal0 t s.2)
theorem dv_scalar {H : Hp} {ow ow' : Ow} {v : V} {x : PyData} (h : DV K H ow v x) (s : scalar x = true) (hf : ∀ a zo xs, H a = some (.frz zo (.tup xs)) → ow a = none → ow' a = none) : DV K H ow' v x := by
  cases h with
  | non => exact .non
  | bl b => exact .bl b
  | int i => exact .int i
  | str x => exact .str x
  | tup h1 h3 hz =>
    refine .tup ?_ (dvs_scal0 h3 s) hz
    rcases h1 with ⟨zo, e, d, o⟩ | h1
    · exact .inl ⟨zo, e, d, hf _ _ _ e o⟩
    · exact .inr h1
  | _ => cases s
variable {X : Cx}
end
end DL
namespace ZN
open PySem PySem.Spec PyProof.Rows L2
abbrev ZA (hh : Heap) (zz ti tt : Addr) (mk : Value) (fl : Bool) : Prop :=
  hh.get? zz = some { cls := .type "zip", dict := none, data := .fields #[mk, .bool fl, .bool false, .ref ti, .ref tt], slots := #[] }
def Mk (mk : Value) : Prop := mk = .none ∨ ∃ T : Addr, mk = rawInt T
section
variable {pr : Program} {ww : World} {AA : Around} {EE : Value → Shared → Prop} {sh : Shared} {zz ti tt j1 j2 j3 : Addr} {q1 q2 q3 : List Addr} {m1 m2 m3 k : Nat} {R1 R2' R3 : Nat → Value → Prop} {U1 U2 U3 : Nat → Heap → Prop} {b1 b2 b3 : Value} {mk : Value} {fl : Bool}
theorem alive_none {a : Addr} {Q : Option Obj → Shared → Prop} (ho : sh.heap.get? a = none) (h : Q none sh) : wpAny (model pr ww) AA (loadIfAlive a) Q EE sh := by
  have h' : Q (sh.heap.get? a) sh := by rw [ho]; exact h
  exact fun _ _ _ => h'
theorem alive_some {a : Addr} {o : Obj} {Q : Option Obj → Shared → Prop} (ho : sh.heap.get? a = some o) (h : Q (some o) sh) : wpAny (model pr ww) AA (loadIfAlive a) Q EE sh := by
  have h' : Q (sh.heap.get? a) sh := by rw [ho]; exact h
  exact fun _ _ _ => h'
theorem isFree {Q : Bool → Shared → Prop} (hz : ZA sh.heap zz ti tt mk fl) (hm : Mk mk) (y : Q true sh) (n : ∀ h', ZA h' zz ti tt mk true → Heap.SameBut zz sh.heap h' → Q false { sh with heap := h' }) :
    wpAny (model pr ww) AA (Builtin.SmallTypes.ownedTupleIsFree (.ref zz)) Q EE sh := by
  unfold Builtin.SmallTypes.ownedTupleIsFree
  rcases hm with rfl | ⟨T, rfl⟩
  · exact wpAny_bind (wpAny_field hz rfl (x := .none) rfl (wpAny_pure y))
  · refine wpAny_bind (wpAny_field hz rfl (x := rawInt T) rfl ?_)
    show wpAny _ _ (loadIfAlive ((T : Int).toNat) >>= _) _ _ _
    rw [Int.toNat_natCast]
    cases e : sh.heap.get? T with
    | none =>
      refine wpAny_bind (alive_none e ?_)
      exact wpAny_pure y
    | some oT =>
      refine wpAny_bind (alive_some e ?_)
      simp only [Option.isNone_some, Bool.false_eq_true, if_false]
      refine wpAny_bind (wpAny_field hz rfl (x := .bool fl) rfl ?_)
      cases fl with
      | true =>
        rw [if_neg (show ¬ ((Value.bool true != Value.bool true) = true) from Bool.false_ne_true)]
        exact wpAny_pure (n _ hz (Heap.SameBut.refl _ _))
      | false =>
        rw [if_pos (show (Value.bool false != Value.bool true) = true from rfl)]
        exact wpAny_bind (wpAny_setField_rec hz (by simp) fun h₁ u₁ v₁ => wpAny_pure (n h₁ u₁ v₁))
theorem next_item {Q : Value → Shared → Prop} (S : ZipSep3 zz ti tt j1 j2 j3 q1 q2 q3) (D1 : Draws pr ww AA j1 q1 m1 R1 U1) (D2 : Draws pr ww AA j2 q2 m2 R2' U2) (D3 : Draws pr ww AA j3 q3 m3 R3 U3)
    (hz : ZA sh.heap zz ti tt mk fl) (hm : Mk mk) (hi : IsTupOf3 sh.heap ti (.ref j1) (.ref j2) (.ref j3)) (ho : IsTupOf3 sh.heap tt b1 b2 b3) (u1 : U1 k sh.heap) (u2 : U2 k sh.heap) (u3 : U3 k sh.heap) (l1 : k < m1) (l2 : k < m2) (l3 : k < m3)
    (hQ : ∀ x1 x2 x3 h' tk mk' fl', R1 k x1 → R2' k x2 → R3 k x3 → ZA h' zz ti tt mk' fl' → Mk mk' → (∃ c1 c2 c3, IsTupOf3 h' tt c1 c2 c3) → U1 (k + 1) h' → U2 (k + 1) h' → U3 (k + 1) h' → IsTupOf3 h' sh.heap.objs.size x1 x2 x3 → h'.objs.size = sh.heap.objs.size + 1 →
      (∀ c o, c ≠ zz → c ≠ tt → c ≠ j1 → c ≠ j2 → c ≠ j3 → sh.heap.get? c = some o → h'.get? c = some o) → Q (.ref sh.heap.objs.size) { sh with heap := h', toks := tk }) :
    wpAny (model pr ww) AA (Builtin.«zip.__next__» ⟨[.ref zz], []⟩) (fun fin s' => ∃ v, fin = .done (.ret v) ∧ Q v s') EE sh := by
  obtain ⟨pa, ge, de, ta, og⟩ := sh
  show wpAny _ _ (field (.ref zz) 2 >>= _) _ _ _
  refine wpAny_bind (wpAny_field hz rfl (x := .bool false) rfl ?_)
  show wpAny _ _ (field (.ref zz) 3 >>= _) _ _ _
  refine wpAny_bind (wpAny_field hz rfl (x := .ref ti) rfl ?_)
  refine wpAny_bind (wpAny_seqItems hi rfl ?_)
  show wpAny _ _ (Builtin.SmallTypes.ownedTupleIsFree (.ref zz) >>= _) _ _ _
  refine wpAny_bind (isFree hz hm ?_ fun g0 z0 v0 => ?_)
  · simp only [if_true]
    refine wpAny_bind (wpAny_rule ?_)
    refine wpAny_bind (wpAny_field hz rfl (x := .ref tt) rfl ?_)
    refine wpAny_bind (wpAny_setField_rec hz (by simp) fun g0 z0 v0 => ?_)
    replace z0 : ZA g0 zz ti tt .ellipsis fl := z0
    replace v0 : Heap.SameBut zz pa g0 := v0
    refine wpAny_bind ?_
    simp only [List.zipIdx_cons, List.zipIdx_nil, List.forIn_cons, List.forIn_nil]
    refine wpAny_bind (wpAny_bind (wpAny_onRaise ?_))
    show wpAny _ _ (Builtin.SmallTypes.nextOf (.ref j1) >>= _) _ _ ⟨g0, ge, de, ta, og⟩
    refine wpAny_bind (D1.item k _ _ _ l1 (D1.over u1 v0 S.zf1) fun x1 p1 t1 y1 w1 r1 => wpAny_pure ?_)
    replace r1 : Heap.SameBut j1 g0 p1 := r1
    have n1 : IsTupOf3 p1 tt b1 b2 b3 := r1.extBut _ _ S.Ti1 (v0.extBut _ _ S.TOz ho)
    refine wpAny_bind (wpAny_seqItems (s := ⟨p1, ge, de, t1, og⟩) n1 rfl ?_)
    refine wpAny_bind (updateSeq_IsTupOf3 (s := ⟨p1, ge, de, t1, og⟩) n1 fun g1 o1 v1 => ?_)
    replace o1 : IsTupOf3 g1 tt x1 b2 b3 := o1
    replace v1 : Heap.SameBut tt p1 g1 := v1
    refine wpAny_bind (wpAny_letGo (wpAny_pure ?_))
    refine wpAny_bind (wpAny_bind (wpAny_onRaise ?_))
    show wpAny _ _ (Builtin.SmallTypes.nextOf (.ref j2) >>= _) _ _ ⟨g1, ge, de, t1, og⟩
    refine wpAny_bind (D2.item k _ _ _ l2 (D2.over (D2.over (D2.over u2 v0 S.zf2) r1 S.sep1_2) v1 S.Tf2) fun x2 p2 t2 y2 w2 r2 => wpAny_pure ?_)
    replace r2 : Heap.SameBut j2 g1 p2 := r2
    have n2 : IsTupOf3 p2 tt x1 b2 b3 := r2.extBut _ _ S.Ti2 o1
    refine wpAny_bind (wpAny_seqItems (s := ⟨p2, ge, de, t2, og⟩) n2 rfl ?_)
    refine wpAny_bind (updateSeq_IsTupOf3 (s := ⟨p2, ge, de, t2, og⟩) n2 fun g2 o2 v2 => ?_)
    replace o2 : IsTupOf3 g2 tt x1 x2 b3 := o2
    replace v2 : Heap.SameBut tt p2 g2 := v2
    refine wpAny_bind (wpAny_letGo (wpAny_pure ?_))
    refine wpAny_bind (wpAny_bind (wpAny_onRaise ?_))
    show wpAny _ _ (Builtin.SmallTypes.nextOf (.ref j3) >>= _) _ _ ⟨g2, ge, de, t2, og⟩
    refine wpAny_bind (D3.item k _ _ _ l3 (D3.over (D3.over (D3.over (D3.over (D3.over u3 v0 S.zf3) r1 S.sep1_3) v1 S.Tf3) r2 S.sep2_3) v2 S.Tf3) fun x3 p3 t3 y3 w3 r3 => wpAny_pure ?_)
    replace r3 : Heap.SameBut j3 g2 p3 := r3
    have n3 : IsTupOf3 p3 tt x1 x2 b3 := r3.extBut _ _ S.Ti3 o2
    refine wpAny_bind (wpAny_seqItems (s := ⟨p3, ge, de, t3, og⟩) n3 rfl ?_)
    refine wpAny_bind (updateSeq_IsTupOf3 (s := ⟨p3, ge, de, t3, og⟩) n3 fun g3 o3 v3 => ?_)
    replace o3 : IsTupOf3 g3 tt x1 x2 x3 := o3
    replace v3 : Heap.SameBut tt p3 g3 := v3
    refine wpAny_bind (wpAny_letGo (wpAny_pure (wpAny_pure ?_)))
    refine wpAny_bind (wpAny_seqItems (s := ⟨g3, ge, de, t3, og⟩) o3 rfl ?_)
    refine wpAny_bind (wpAny_newTuple ?_)
    have sz : g3.objs.size = pa.objs.size := by rw [v3.1, r3.1, v2.1, r2.1, v1.1, r1.1, v0.1]
    have z3 : ZA g3 zz ti tt .ellipsis fl := v3.extBut _ _ S.TOz.symm <| r3.extBut _ _ S.zi3 <| v2.extBut _ _ S.TOz.symm <| r2.extBut _ _ S.zi2 <| v1.extBut _ _ S.TOz.symm <| r1.extBut _ _ S.zi1 z0
    have kk : ∀ c o, c ≠ zz → c ≠ tt → c ≠ j1 → c ≠ j2 → c ≠ j3 → pa.get? c = some o → g3.get? c = some o := fun c o cz cT c1 c2 c3 e =>
      v3.extBut _ _ cT <| r3.extBut _ _ c3 <| v2.extBut _ _ cT <| r2.extBut _ _ c2 <| v1.extBut _ _ cT <| r1.extBut _ _ c1 <| v0.extBut _ _ cz e
    have a1 : U1 (k + 1) g3 := D1.over (D1.over (D1.over (D1.over (D1.over w1 v1 S.Tf1) r2 S.sep2_1) v2 S.Tf1) r3 S.sep3_1) v3 S.Tf1
    have a2 : U2 (k + 1) g3 := D2.over (D2.over (D2.over w2 v2 S.Tf2) r3 S.sep3_2) v3 S.Tf2
    have a3 : U3 (k + 1) g3 := D3.over w3 v3 S.Tf3
    have zl : zz < g3.objs.size := Heap.lt_size z3
    show wpAny _ _ (Builtin.SmallTypes.ownedTupleHandOut (.ref zz) (.ref g3.objs.size) >>= _) _ _ ⟨g3.push { cls := .type "tuple", data := .seq #[x1, x2, x3] }, ge, de, t3, og⟩
    refine wpAny_bind ?_
    unfold Builtin.SmallTypes.ownedTupleHandOut
    have z4 : ZA (g3.push { cls := .type "tuple", data := .seq #[x1, x2, x3] }) zz ti tt .ellipsis fl := Heap.get?_push_of_some _ z3
    refine wpAny_bind (wpAny_setField_rec z4 (by simp) fun g5 z5 v5 => ?_)
    replace z5 : ZA g5 zz ti tt (rawInt g3.objs.size) fl := z5
    refine wpAny_setField_rec z5 (by simp) fun g6 z6 v6 => ?_
    replace z6 : ZA g6 zz ti tt (rawInt g3.objs.size) false := z6
    replace v5 : Heap.SameBut zz (g3.push { cls := .type "tuple", data := .seq #[x1, x2, x3] }) g5 := v5
    replace v6 : Heap.SameBut zz g5 g6 := v6
    have up : ∀ c o, c ≠ zz → g3.get? c = some o → g6.get? c = some o := fun c o c1 e => v6.extBut _ _ c1 (v5.extBut _ _ c1 (Heap.get?_push_of_some _ e))
    have nt : IsTupOf3 g6 g3.objs.size x1 x2 x3 := v6.extBut _ _ (Nat.ne_of_gt zl) (v5.extBut _ _ (Nat.ne_of_gt zl) (Heap.get?_push_size _ rfl))
    have s6 : g6.objs.size = g3.objs.size + 1 := by rw [v6.1, v5.1, Heap.size_push]
    rw [sz] at z6 nt s6
    refine wpAny_pure ⟨_, rfl, ?_⟩
    show Q (.ref g3.objs.size) ⟨g6, ge, de, t3, og⟩
    rw [sz]
    exact hQ x1 x2 x3 g6 t3 _ _ y1 y2 y3 z6 (.inr ⟨_, rfl⟩) ⟨_, _, _, up _ _ S.TOz o3⟩ (D1.frame _ _ _ a1 fun b hb o e => up b o (fun q => S.zf1 (q ▸ hb)) e) (D2.frame _ _ _ a2 fun b hb o e => up b o (fun q => S.zf2 (q ▸ hb)) e) (D3.frame _ _ _ a3 fun b hb o e => up b o (fun q => S.zf3 (q ▸ hb)) e) nt s6
      fun c o cz cT c1 c2 c3 e => up c o cz (kk c o cz cT c1 c2 c3 e)
  · simp only [Bool.false_eq_true, if_false]
    replace v0 : Heap.SameBut zz pa g0 := v0
    refine wpAny_bind ?_
    rw [← Array.forIn_toList]
    simp only [List.forIn_cons, List.forIn_nil]
    refine wpAny_bind (wpAny_bind (wpAny_holding ?_))
    show wpAny _ _ (Builtin.SmallTypes.nextOf (.ref j1) >>= _) _ _ ⟨g0, ge, de, ta, og⟩
    refine wpAny_bind (D1.item k _ _ _ l1 (D1.over u1 v0 S.zf1) fun x1 p1 t1 y1 w1 r1 => wpAny_pure ?_)
    replace r1 : Heap.SameBut j1 g0 p1 := r1
    refine wpAny_pure ?_
    refine wpAny_bind (wpAny_bind (wpAny_holding ?_))
    show wpAny _ _ (Builtin.SmallTypes.nextOf (.ref j2) >>= _) _ _ ⟨p1, ge, de, t1, og⟩
    refine wpAny_bind (D2.item k _ _ _ l2 (D2.over (D2.over u2 v0 S.zf2) r1 S.sep1_2) fun x2 p2 t2 y2 w2 r2 => wpAny_pure ?_)
    replace r2 : Heap.SameBut j2 p1 p2 := r2
    refine wpAny_pure ?_
    refine wpAny_bind (wpAny_bind (wpAny_holding ?_))
    show wpAny _ _ (Builtin.SmallTypes.nextOf (.ref j3) >>= _) _ _ ⟨p2, ge, de, t2, og⟩
    refine wpAny_bind (D3.item k _ _ _ l3 (D3.over (D3.over (D3.over u3 v0 S.zf3) r1 S.sep1_3) r2 S.sep2_3) fun x3 p3 t3 y3 w3 r3 => wpAny_pure ?_)
    replace r3 : Heap.SameBut j3 p2 p3 := r3
    refine wpAny_pure (wpAny_pure ?_)
    show wpAny _ _ (newTuple [x1, x2, x3] >>= _) _ _ _
    refine wpAny_bind (wpAny_newTuple ?_)
    have sz : p3.objs.size = pa.objs.size := by rw [r3.1, r2.1, r1.1, v0.1]
    have z3 : ZA p3 zz ti tt mk true := r3.extBut _ _ S.zi3 <| r2.extBut _ _ S.zi2 <| r1.extBut _ _ S.zi1 z0
    have kk : ∀ c o, c ≠ zz → c ≠ j1 → c ≠ j2 → c ≠ j3 → pa.get? c = some o → p3.get? c = some o := fun c o cz c1 c2 c3 e =>
      r3.extBut _ _ c3 <| r2.extBut _ _ c2 <| r1.extBut _ _ c1 <| v0.extBut _ _ cz e
    have a1 : U1 (k + 1) p3 := D1.over (D1.over w1 r2 S.sep2_1) r3 S.sep3_1
    have a2 : U2 (k + 1) p3 := D2.over w2 r3 S.sep3_2
    have up : ∀ c o, p3.get? c = some o → (p3.push { cls := .type "tuple", data := .seq #[x1, x2, x3] }).get? c = some o := fun c o e => Heap.get?_push_of_some _ e
    refine wpAny_pure ⟨_, rfl, ?_⟩
    show Q (.ref p3.objs.size) _
    have nt : IsTupOf3 (p3.push { cls := .type "tuple", data := .seq #[x1, x2, x3] }) p3.objs.size x1 x2 x3 := Heap.get?_push_size _ rfl
    have s6 : (p3.push { cls := .type "tuple", data := .seq #[x1, x2, x3] }).objs.size = p3.objs.size + 1 := Heap.size_push ..
    rw [sz] at nt s6 ⊢
    exact hQ x1 x2 x3 _ t3 _ _ y1 y2 y3 (up _ _ z3) hm ⟨_, _, _, up _ _ (kk _ _ S.TOz S.Ti1 S.Ti2 S.Ti3 ho)⟩ (D1.frame _ _ _ a1 fun b _ o e => up b o e) (D2.frame _ _ _ a2 fun b _ o e => up b o e) (D3.frame _ _ _ w3 fun b _ o e => up b o e) nt s6
      fun c o cz cT c1 c2 c3 e => up c o (kk c o cz c1 c2 c3 e)
end
end ZN
namespace DL
open PySem PySem.Spec PyProof.Rows L2
section
variable {X : Cx} {C : Cc} {K : PySem.W.Frag}
def zip3 : List PyData → List PyData → List PyData → List PyData
  | x :: xs, y :: ys, z :: zs => .tuple [x, y, z] :: zip3 xs ys zs
  | _, _, _ => []
def bZip3 : List PyData → Option (List PyData)
  | [.tuple xs, .tuple ys, .tuple zs] => some (zip3 xs ys zs)
  | _ => none
end
end DL
namespace DL
open PySem PySem.Spec PyProof.Rows L2
section
variable {X : Cx} {C : Cc} {K : PySem.W.Frag}
def dAvs (d : PyData) : List AV := match seqOf d with | some xs => xs.map .d | none => []
def eCallS (ar : Nat) (F : Fn) (t : Env → Rs PyData) : Env → Rs M := fun env => (t env).bind fun d e => if (seqOf d).isSome = true then callM ar F (dAvs d) e else .no
end
end DL
namespace DLT
open PySem PySem.Spec PyProof.Rows L2 ZN
theorem sep2 (n a b : Nat) (ha : a < n) (hb : b < n) : ZipSep2 (n + 4) (n + 2) (n + 3) n (n + 1) [n, a] [n + 1, b] := by
  have key : ∀ x y : Nat, x ≠ y → ¬ @Eq Addr x y := fun _ _ h => h
  constructor <;> (simp only [List.mem_cons, List.not_mem_nil, or_false, not_or, ne_eq]) <;> first | exact key _ _ (by omega) | exact ⟨key _ _ (by omega), key _ _ (by omega)⟩ | simp
def ItM (K : PySem.W.Frag) (a b : Addr) : It :=
  ⟨fun ix H => ∃ (xs ys : List V) (x y : V), SqT K H a xs ∧ SqL K H b ys ∧ xs[ix]? = some x ∧ ys[ix]? = some y,
    fun ix H v H' => ∃ T x y zo, v = .ref T ∧ H T = none ∧ H' = upd H T (.frz zo (.tup [x, y])) ∧ zo.dict = none ∧ (∀ xs, SqT K H a xs → xs[ix]? = some x) ∧ ∀ ys, SqL K H b ys → ys[ix]? = some y,
    fun ix H => ∃ xs ys : List V, SqT K H a xs ∧ SqL K H b ys ∧ ix ≤ xs.length ∧ ix ≤ ys.length ∧ (ix = xs.length ∨ ix = ys.length)⟩
theorem turn_zipM {P : Program} {w : World} {K : PySem.W.Frag} {elts : List Expr} {kk : Nat} {tpos : Pos} {a b z TI TO i1 i2 : Addr} (S : ZipSep2 z TI TO i1 i2 [i1, a] [i2, b]) (na : a ≠ i1) (nb : b ≠ i2) :
    Turn P w K (.Tuple elts kk tpos) (ItM K a b) [z, TI, TO, i1, i2] z (fun ix h => IsZip h z TI TO .none ∧ IsTupOf2 h TI (.ref i1) (.ref i2) ∧ (∃ x y, IsTupOf2 h TO x y) ∧ h.IsTupleIter i1 a ix ∧ h.IsListIter i2 b ix) where
  mem := by simp
  obj := fun ix h sta b' cc => by
    obtain ⟨gz, gTI, ⟨x, y, gTO⟩, ⟨o1, e1, _, d1⟩, ⟨o2, e2, _, d2⟩⟩ := sta
    have ee : b' = z ∨ b' = TI ∨ b' = TO ∨ b' = i1 ∨ b' = i2 := by simpa using cc
    rcases ee with q | q | q | q | q
    · rw [q]; exact ⟨_, gz, fun v e => nomatch e⟩
    · rw [q]; exact ⟨_, gTI, fun v e => nomatch e⟩
    · rw [q]; exact ⟨_, gTO, fun v e => nomatch e⟩
    · rw [q]; exact ⟨o1, e1, fun v e => by rw [d1] at e; cases e⟩
    · rw [q]; exact ⟨o2, e2, fun v e => by rw [d2] at e; cases e⟩
  keep := fun ix h h' sta k => by
    obtain ⟨gz, gTI, ⟨x, y, gTO⟩, g1, g2⟩ := sta
    exact ⟨k z (by simp) _ gz, k TI (by simp) _ gTI, ⟨x, y, k TO (by simp) _ gTO⟩, g1.at fun o e => k i1 (by simp) o e, g2.at fun o e => k i2 (by simp) o e⟩
  item := by
    intro X hP hw hK cc ix pps sh σ H EE I fo sta yg
    subst hP hw hK
    obtain ⟨gz, gTI, ⟨x0, y0, gTO⟩, g1, g2⟩ := sta
    obtain ⟨xs, ys, x, y, lx, ly, gx, gy⟩ := yg
    obtain ⟨t1, s1, p1, _⟩ := I.tuple lx
    obtain ⟨t2, s2, p2, _⟩ := I.list ly
    obtain ⟨v1, hv1, r1⟩ := s1.get gx
    obtain ⟨v2, hv2, r2⟩ := s2.get gy
    have hzl : z < sh.heap.objs.size := Heap.lt_size gz
    have hTy : sh.TypeIs (.ref z) "zip" := ⟨_, gz, rfl⟩
    have k1 : ix < t1.toArray.size := by have := (List.getElem?_eq_some_iff.mp hv1).1; simpa using this
    have k2 : ix < t2.toArray.size := by have := (List.getElem?_eq_some_iff.mp hv2).1; simpa using this
    have hh : X.A.in1.handled = none := I.ok.hd cc
    unfold pyNext
    refine wpAny_bind (wpAny_attempt (wpAny_callSpecial?_slot (name := Str.ofString "__next__") hTy F.slot_zip_next (wpAny_call_entry F.slot_zip_next hTy F.entry_zip_next
      (zipD2_next_item S (Draws.tuple hh i1 a na t1.toArray) (Draws.list hh i2 b nb t2.toArray) gz gTI gTO ⟨g1, p1⟩ ⟨g2, p2.isList⟩ k1 k2 fun w1 w2 h' tk y1 y2 gz' gTO' n1 n2 hT hsz hk => wpAny_pure ?_) (F.args_zip_next_1 _))))
    have f1 : w1 = v1 := by
      have q : t1.toArray[ix]? = some v1 := by simpa using hv1
      rw [q] at y1; exact (Option.some.inj y1).symm
    have f2 : w2 = v2 := by
      have q : t2.toArray[ix]? = some v2 := by simpa using hv2
      rw [q] at y2; exact (Option.some.inj y2).symm
    subst f1 f2
    refine ⟨_, rfl, wpAny_letOwnedTupleGo_zip (s := { sh with heap := h', toks := tk }) gz' fun h'' gz'' sb => ?_⟩
    have tT : h''.get? sh.heap.objs.size = some { cls := .type "tuple", data := .seq #[w1, w2] } := (sb.2 _ (Nat.ne_of_gt hzl)).trans hT
    have neu : ObjOk X.prog X.w (upd H sh.heap.objs.size (.frz { cls := .type "tuple", data := .seq #[w1, w2] } (.tup [x, y]))) h'' sh.heap.objs.size (.frz { cls := .type "tuple", data := .seq #[w1, w2] } (.tup [x, y])) :=
      ⟨tT, by show 2 ≤ sizeLine; decide, [w1, w2], .cons r1 (.cons r2 .nil), ⟨_, tT, rfl, _, rfl⟩⟩
    have I1 : Inv X pps σ (upd H sh.heap.objs.size (.frz { cls := .type "tuple", data := .seq #[w1, w2] } (.tup [x, y]))) { sh with heap := h'', toks := tk } :=
      I.turnedNew (ch := [z, TI, TO, i1, i2]) (fun d o nb q => (sb.2 d (fun e => nb (by simp [e]))).trans (hk d o (fun e => nb (by simp [e])) (fun e => nb (by simp [e])) (fun e => nb (by simp [e])) (fun e => nb (by simp [e])) q)) fo (Nat.le_refl _) neu
    refine ⟨.ref sh.heap.objs.size, _, I1, rfl, ⟨_, x, y, _, rfl, I.hok.fresh (Nat.le_refl _), rfl, rfl, fun l hl => by rw [I.tuple_inj hl lx]; exact gx, fun l hl => by rw [I.list_inj hl ly]; exact gy⟩,
      ⟨gz'', (sb.2 _ S.TIz).trans (hk _ _ S.TIz S.TITO S.TIi1 S.TIi2 gTI), ⟨w1, w2, (sb.2 _ S.TOz).trans gTO'⟩, n1.1.at fun o q => (sb.2 _ S.zi1.symm).trans q, n2.1.at fun o q => (sb.2 _ S.zi2.symm).trans q⟩, fun d hd => ?_⟩
    have ltc : d < sh.heap.objs.size := by
      have ee : d = z ∨ d = TI ∨ d = TO ∨ d = i1 ∨ d = i2 := by simpa using hd
      rcases ee with q | q | q | q | q
      · rw [q]; exact hzl
      · rw [q]; exact Heap.lt_size gTI
      · rw [q]; exact Heap.lt_size gTO
      · rw [q]; obtain ⟨_, e, _⟩ := g1; exact Heap.lt_size e
      · rw [q]; obtain ⟨_, e, _⟩ := g2; exact Heap.lt_size e
    rw [upd_ne (Nat.ne_of_lt ltc)]
    exact (fo d hd).1
  done := by
    intro X hP hw hK cc ix pps sh σ H EE I fo sta yg
    subst hP hw hK
    obtain ⟨gz, gTI, ⟨x0, y0, gTO⟩, g1, g2⟩ := sta
    obtain ⟨xs, ys, lx, ly, k1, k2, en⟩ := yg
    obtain ⟨t1, s1, p1, _⟩ := I.tuple lx
    obtain ⟨t2, s2, p2, _⟩ := I.list ly
    have l1 := s1.length
    have l2 := s2.length
    have hh : X.A.in1.handled = none := I.ok.hd cc
    have hTy : sh.TypeIs (.ref z) "zip" := ⟨_, gz, rfl⟩
    unfold pyNext
    refine wpAny_bind (wpAny_attempt (wpAny_callSpecial?_slot (name := Str.ofString "__next__") hTy F.slot_zip_next (wpAny_call_entry F.slot_zip_next hTy F.entry_zip_next
      (zipD2_next_end S (Draws.tuple hh i1 a na t1.toArray) (Draws.list hh i2 b nb t2.toArray) gz gTI gTO ⟨g1, p1⟩ ⟨g2, p2.isList⟩ (by simp; omega) (by simp; omega) (by simp; omega) fun h' tk e hk he => ?_) (F.args_zip_next_1 _))))
    obtain ⟨o, ho, hc⟩ := he
    refine wpAny_bind (wpAny_isInstance (T := "StopIteration") (b := true) ⟨o, ho, hc⟩ isSubtype_stop ?_)
    refine wpAny_pure ⟨rfl, I.turnedL (t' := tk) (ch := [z, TI, TO, i1, i2]) (fun d o nb q => hk d o (fun e => nb (by simp [e])) (fun e => nb (by simp [e])) (fun e => nb (by simp [e])) (fun e => nb (by simp [e])) q) fo⟩
  self := fun A ix sh Q EE sta h => wpAny_pyIter_zip sta.1 h
def iZipM (K : PySem.W.Frag) (ta : TA) : TI := fun σ H R => ta σ H fun vs H1 => ∃ a b xs ys, vs = [.ref a, .ref b] ∧ SqT K H1 a xs ∧ SqL K H1 b ys ∧ R (ItM K a b) H1
theorem pi_zipM {X : Cx} {e1 e2 : Expr} {ta : TA} {pl1 pos tpos : Pos} {elts : List Expr} {kk : Nat} (yg : Gl X "zip") (mz : X.mg "zip" = none) (pa1 : PA X [e1, e2] ta)
    (ns1 : starEach [e1, e2] X.env = (false, eval e1 X.env) :: starEach [e2] X.env := by rfl) (npl : (backTo pos (starEach [e2] X.env)).any (·.1) = false := by rfl) :
    PI X (.Tuple elts kk tpos) (.Call (.Name "zip" pl1) [e1, e2] [] pos) (iZipM X.K ta) := by
  refine ⟨fun pps sh σ H R I h => ?_⟩
  refine Call_ (ld_blt I yg mz PyProof.Rows.boot_zip (PyProof.Rows.callWith_type1 (thn (pa1.run pos pps sh σ H _ I h) fun uu s1 ⟨vs, H1, I1, r1, q1⟩ => ?_) ns1 npl))
  obtain ⟨a, b, xs, ys, ex, lx, ly, qq⟩ := q1
  subst ex
  cases r1 with
  | cons k1 r1 =>
    cases r1 with
    | cons k2 r1 =>
      cases r1
      cases k1
      cases k2
      obtain ⟨t1, s1', p1, _⟩ := I1.tuple lx
      obtain ⟨t2, s2', p2, _⟩ := I1.list ly
      obtain ⟨o1, ho1, _⟩ := id p1
      obtain ⟨o2, ho2, _⟩ := id p2.isList
      have l1 := Heap.lt_size ho1
      have l2 := Heap.lt_size ho2
      refine zip_begins2 (begins_tuple a t1.toArray) (begins_list b t2.toArray) p1 p2.isList fun h' gz gTI gTO g1 g2 hsz hk => wpAny_pyIter_zip gz ?_
      have I2 : Inv X pps σ H1 { s1 with heap := h' } := I1.kept (t' := s1.toks) hk
      refine ⟨s1.heap.objs.size + 4, [s1.heap.objs.size + 4, s1.heap.objs.size + 2, s1.heap.objs.size + 3, s1.heap.objs.size, s1.heap.objs.size + 1], _, _, H1, rfl, I2, turn_zipM (sep2 _ a b l1 l2) (Nat.ne_of_lt l1) (Nat.ne_of_lt (Nat.lt_succ_of_lt l2)),
        ⟨gz, gTI, ⟨_, _, gTO⟩, ⟨_, g1, rfl, rfl⟩, ⟨_, g2, rfl, rfl⟩⟩, fun d hd => ?_, qq⟩
      have ee : d = s1.heap.objs.size + 4 ∨ d = s1.heap.objs.size + 2 ∨ d = s1.heap.objs.size + 3 ∨ d = s1.heap.objs.size ∨ d = s1.heap.objs.size + 1 := by simpa using hd
      have le : s1.heap.objs.size ≤ d := by
        rcases ee with q | q | q | q | q <;> rw [q] <;> omega
      exact I1.fpOk le (I1.hok.fresh le)
end DLT
namespace DL
open PySem PySem.Spec PyProof.Rows L2
section
variable {X : Cx} {C : Cc} {K : PySem.W.Frag}
def bZipM : List PyData → Option (List PyData)
  | [.tuple xs, .list ys] => some (zip2 xs ys)
  | _ => none
theorem wk_zipM {a b : Addr} {xs ys : List V} {ds es : List PyData} (hz : ds.length ≤ 16777216) (h : xs.length = ds.length) (h' : ys.length = es.length) :
    Wk K (DLT.ItM K a b) (zip2 ds es) fun H ow => (FT K H ow a xs ∧ DVs K H ow xs ds) ∧ (H b = some (.lst ys) ∧ ow b = none ∧ DVs K H ow ys es) where
  st := fun H ow H' ow' ⟨⟨a, c⟩, ⟨a', b', c'⟩⟩ st => ⟨⟨a.stay st, c.stay st⟩, ⟨(st _ _ a' b').1, (st _ _ a' b').2, c'.stay st⟩⟩
  goes := fun i H ow hi ⟨⟨a, c⟩, ⟨a', b', c'⟩⟩ => by
    have hi' : i < min ds.length es.length := by simpa [zip2] using hi
    exact ⟨xs, ys, xs[i]'(by omega), ys[i]'(by omega), a.sq, .of a', by simp, by simp⟩
  stops := fun H ow ⟨⟨a, c⟩, ⟨a', b', c'⟩⟩ => ⟨xs, ys, a.sq, .of a', by simp only [zip2, List.length_zipWith]; omega, by simp only [zip2, List.length_zipWith]; omega, by simp only [zip2, List.length_zipWith]; omega⟩
  yields := fun i H ow x H' hi ⟨⟨a, c⟩, ⟨a', b', c'⟩⟩ ⟨T, u, w, zo, e1, e2, e3, hd, e4, e5⟩ => by
    have hi' : i < min ds.length es.length := by simpa [zip2] using hi
    subst e1; subst e3
    obtain ⟨v1, h1, h2⟩ := c.get (i := i) (d := ds[i]'(by omega)) (by simp)
    obtain ⟨v2, k1, k2⟩ := c'.get (i := i) (d := es[i]'(by omega)) (by simp)
    have t1 := e4 xs a.sq
    have t2 := e5 ys (.of a')
    rw [h1] at t1
    rw [k1] at t2
    cases t1; cases t2
    refine ⟨off ow T, .tuple [ds[i]'(by omega), es[i]'(by omega)], ?_, Gr.new e2, .tup (.new hd) (.cons (h2.stay (Gr.new e2).stay) (.cons (k2.stay (Gr.new e2).stay) .nil)) (by simp)⟩
    simp [zip2, List.getElem?_zipWith, show i < ds.length by omega, show i < es.length by omega]
  len := by
    simp only [zip2, List.length_zipWith]
    omega
theorem di_zipM {a b : Expr} {elts : List Expr} {kk : Nat} {tpos : Pos} {t : Env → Rs (List PyData)} {p pos : Pos} (hg : Gl X "zip") (hm : X.mg "zip" = none) (ha : DA X C [a, b] t)
    (hs : starEach [a, b] X.env = (false, eval a X.env) :: starEach [b] X.env := by rfl) (hpl : (backTo pos (starEach [b] X.env)).any (·.1) = false := by rfl) : DI X C (.Tuple elts kk tpos) (.Call (.Name "zip" p) [a, b] [] pos) (itB bZipM t) :=
  PIweak (DLT.pi_zipM hg hm ha hs hpl) fun σ H Q h => rd_one (R1 := RA X.K) h fun v x H ow env hv P h => by
    obtain ⟨o, e, h⟩ := rdAt_lift (v := Itr 0 0) h
    unfold bZipM at e
    split at e
    · obtain ⟨w, w', rfl, d, d'⟩ := hv.two
      cases d with
      | @tup a xs ds h1 h3 hz =>
        cases d' with
        | @lst b ys es k1 k2 k3 hz' =>
          cases e
          exact ⟨a, b, xs, ys, rfl, h1.sq, .of k1, h _ H ow Ext.refl ⟨_, wk_zipM hz h3.length k3.length, ⟨h1, h3⟩, ⟨k1, k2, k3⟩⟩ P⟩
    · cases e
end
end DL
set_option pp.maxSteps 200
namespace DL
open PySem PySem.Spec PyProof.Rows L2
abbrev TK (P : Program) (w : World) : HeapKind P w (List Key) := tupleKind (mixKind P w)
/-- the object at Dk is a table, its keys (with the tuples that stand for them) are ks -/
def DicT (P : Program) (w : World) (Dk : Addr) (ks : List (List Key × Addr)) (h : Heap) : Prop :=
  (Dk == sysModules) = false ∧ ∃ (xs : List (List Key × Addr × Value)) (o : Obj) (es : Array DictEntry) (ep : Nat), xs.map (fun x => (x.1, x.2.1)) = ks ∧ h.get? Dk = some o ∧ o.ExactDict ∧ o.data = .dict es ep ∧ es.toList = xs.map (entryOfKey (TK P w)) ∧ (xs.map (·.1)).Nodup
def oT (P : Program) (w : World) (Dk : Addr) : HO := .ext (DicT P w Dk [])
section
variable {κ : Type} [DecidableEq κ]
def addK (ks : List κ) (k : κ) : List κ := if (ks.any fun x => decide (x = k)) = true then ks else ks ++ [k]
/-- the different ones, in the order of their first places -/
def dedK (l : List κ) : List κ := l.foldl addK []
end
def kI : PyData → Option Int | .int n => some n | _ => none
/-- one key of a display -/
def eKey {κ : Type} (kf : PyData → Option κ) (tk tv : Env → Rs PyData) : Env → Rs PyData := fun env => (tk env).bind fun y e => (tv e).bind fun _ e2 => if (kf y).isSome = true then .ok y e2 else .no
def dcK {κ : Type} [DecidableEq κ] (kf : PyData → Option κ) (ys : List PyData) : List κ := dedK (ys.filterMap kf)
def eLenDc {κ : Type} [DecidableEq κ] (kf : PyData → Option κ) (it : Env → Rs (List PyData)) (g : PyData → Env → Option Env) (tt : Env → Rs Bool) (tk tv : Env → Rs PyData) (vs : List Nat) : Env → Rs PyData := fun env =>
  (eComp0 it g tt (eKey kf tk tv) vs env).bind fun r e => .ok (.int (dcK kf r).length) e
end DL
namespace DL
open PySem PySem.Spec PyProof.Rows L2
section
variable {X : Cx} {C : Cc} {e : Expr}
/-- t[::-1] -/
def dRev : PyData → Option PyData
  | .tuple xs => some (.tuple xs.reverse)
  | _ => none
end
end DL
namespace DL
open PySem
def Out.thn (o : Out) (u : Env → Out) : Out := match o with
  | .nx e => u e
  | .rt m e => .rt m e
  | .bk e => .bk e
  | .ct e => .ct e
  | .ex x e => .ex x e
  | .no => .no
@[simp] theorem thn_nx (e u) : (Out.nx e).thn u = u e := id rfl
@[simp] theorem thn_rt (m e u) : (Out.rt m e).thn u = .rt m e := id rfl
@[simp] theorem thn_bk (e u) : (Out.bk e).thn u = .bk e := id rfl
@[simp] theorem thn_ct (e u) : (Out.ct e).thn u = .ct e := id rfl
@[simp] theorem thn_ex (x e u) : (Out.ex x e).thn u = .ex x e := id rfl
@[simp] theorem thn_no (u) : (Out.no).thn u = .no := id rfl
theorem thn_ite (c : Prop) [Decidable c] (a b u) : (if c then a else b : Out).thn u = if c then a.thn u else b.thn u := by split <;> rfl
def Rs.to {α : Type} (r : Rs α) (k : α → Env → Out) : Out := match r with
  | .ok a e => k a e
  | .ex x e => .ex x e
  | .no => .no
@[simp] theorem to_ok {α : Type} (a : α) (e k) : (Rs.ok a e).to k = k a e := id rfl
@[simp] theorem to_ex {α : Type} (x e) (k : α → Env → Out) : (Rs.ex x e).to k = .ex x e := id rfl
@[simp] theorem to_no {α : Type} (k : α → Env → Out) : (Rs.no).to k = .no := id rfl
theorem to_ite {α : Type} (c : Prop) [Decidable c] (a b : Rs α) (k) : (if c then a else b : Rs α).to k = if c then a.to k else b.to k := by split <;> rfl
def Out.fin (ios : List Bool) (o : Out) : FOut := match o with
  | .nx e => .rt (.d .none) (outs ios e)
  | .rt m e => .rt m (outs ios e)
  | .ex x e => .ex x (outs ios e)
  | _ => .no
@[simp] theorem fin_nx (ios e) : (Out.nx e).fin ios = .rt (.d .none) (outs ios e) := id rfl
@[simp] theorem fin_rt (ios m e) : (Out.rt m e).fin ios = .rt m (outs ios e) := id rfl
theorem fin_ite (c : Prop) [Decidable c] (a b ios) : (if c then a else b : Out).fin ios = if c then a.fin ios else b.fin ios := by split <;> rfl
def optOut {α : Type} (o : Option α) (k : α → Out) : Out := match o with | some a => k a | none => .no
@[simp] theorem optOut_s {α : Type} (a : α) (k) : optOut (some a) k = k a := id rfl
@[simp] theorem optOut_n {α : Type} (k : α → Out) : optOut none k = .no := id rfl
def optRs {α β : Type} (o : Option α) (k : α → Rs β) : Rs β := match o with | some a => k a | none => .no
@[simp] theorem optRs_s {α β : Type} (a : α) (k : α → Rs β) : optRs (some a) k = k a := id rfl
@[simp] theorem optRs_n {α β : Type} (k : α → Rs β) : optRs none k = .no := id rfl
def asB : PyData → Env → Rs Bool
  | .bool b, e => .ok b e
  | _, _ => .no
@[simp] theorem asB_b (b e) : asB (.bool b) e = .ok b e := id rfl
def chB {α : Type} (o : Option PyData) (t u : Rs α) : Rs α := match o with
  | some (.bool true) => t
  | some (.bool false) => u
  | _ => .no
@[simp] theorem chB_b {α : Type} (b) (t u : Rs α) : chB (some (.bool b)) t u = if b = true then t else u := by cases b <;> rfl
@[simp] theorem eVar_eq (i : Nat) (env : Env) : eVar i env = lift (slotD env i) env := id rfl
@[simp] theorem slotD_0 (x : PyData) (r : Env) : slotD (some (.d x) :: r) 0 = some x := id rfl
@[simp] theorem slotD_s (o : Option M) (r : Env) (i : Nat) : slotD (o :: r) (i + 1) = slotD r i := id rfl
@[simp] theorem slotL_0 (x : List PyData) (r : Env) : slotL (some (.l x) :: r) 0 = some x := id rfl
@[simp] theorem slotL_s (o : Option M) (r : Env) (i : Nat) : slotL (o :: r) (i + 1) = slotL r i := id rfl
@[simp] theorem slotM_0 (x : List (Int × PyData)) (r : Env) : slotM (some (.m x) :: r) 0 = some x := id rfl
@[simp] theorem slotM_s (o : Option M) (r : Env) (i : Nat) : slotM (o :: r) (i + 1) = slotM r i := id rfl
@[simp] theorem slotF_0 (x : List (Int × PyData)) (r : Env) : slotF (some (.fm x) :: r) 0 = some x := id rfl
@[simp] theorem slotF_s (o : Option M) (r : Env) (i : Nat) : slotF (o :: r) (i + 1) = slotF r i := id rfl
@[simp] theorem slotScr_0 (x : List Int) (r : Env) : slotScr (some (.scr x) :: r) 0 = some x := id rfl
@[simp] theorem slotScr_s (o : Option M) (r : Env) (i : Nat) : slotScr (o :: r) (i + 1) = slotScr r i := id rfl
@[simp] theorem eC_eq (x : PyData) (env : Env) : eC x env = .ok x env := id rfl
@[simp] theorem e2_eq (f) (a b : Env → Rs PyData) (env : Env) : e2 f a b env = (a env).bind fun x e1 => (b e1).bind fun y e2 => lift (f x y) e2 := id rfl
@[simp] theorem e1_eq (f) (a : Env → Rs PyData) (env : Env) : e1 f a env = (a env).bind fun x e1 => lift (f x) e1 := id rfl
@[simp] theorem tb1_eq (t : Env → Rs PyData) (env : Env) : tb1 t env = (t env).bind asB := by
  unfold tb1
  congr
  funext d e
  cases d <;> rfl
@[simp] theorem tt1_eq (t : Env → Rs PyData) (env : Env) : tt1 t env = (t env).bind fun d e => lift (tru d) e := id rfl
@[simp] theorem tNotD_eq (t : Env → Rs Bool) (env : Env) : tNotD t env = (t env).bind fun b e => .ok (!b) e := id rfl
@[simp] theorem tAndD_eq (t u : Env → Rs Bool) (env : Env) : tAndD t u env = (t env).bind fun b e => if b = true then u e else .ok false e := id rfl
@[simp] theorem tOrD_eq (t u : Env → Rs Bool) (env : Env) : tOrD t u env = (t env).bind fun b e => if b = true then .ok true e else u e := id rfl
@[simp] theorem eNot_eq (t : Env → Rs PyData) (env : Env) : eNot t env = (tb1 t env).bind fun b e => .ok (.bool (!b)) e := id rfl
@[simp] theorem eAnd_eq (t u : Env → Rs PyData) (env : Env) : eAnd t u env = (tb1 t env).bind fun b e => if b = true then u e else .ok (.bool false) e := id rfl
@[simp] theorem eOr_eq (t u : Env → Rs PyData) (env : Env) : eOr t u env = (tb1 t env).bind fun b e => if b = true then .ok (.bool true) e else u e := id rfl
@[simp] theorem eIf_eq {α : Type} (c : Env → Rs Bool) (t u : Env → Rs α) (env : Env) : eIf c t u env = (c env).bind fun b e => if b = true then t e else u e := id rfl
@[simp] theorem eChain_eq (f g) (a b c : Env → Rs PyData) (env : Env) : eChain f g a b c env = (a env).bind fun x e1 => (b e1).bind fun y e2 => chB (f x y) ((c e2).bind fun z e3 => lift (g y z) e3) (.ok (.bool false) e2) := by
  unfold eChain
  refine congrArg _ (funext fun x => funext fun e1 => congrArg _ (funext fun y => funext fun e2 => ?_))
  cases f x y with
  | none => rfl
  | some d => cases d with
    | bool b => cases b <;> rfl
    | _ => rfl
@[simp] theorem aNil_eq (env : Env) : aNil env = .ok [] env := id rfl
@[simp] theorem aCons_eq (t : Env → Rs PyData) (u) (env : Env) : aCons t u env = (t env).bind fun x e1 => (u e1).bind fun xs e2 => .ok (x :: xs) e2 := id rfl
@[simp] theorem aOne_eq (t : Env → Rs PyData) (env : Env) : aOne t env = (t env).bind fun x e1 => .ok [x] e1 := id rfl
@[simp] theorem eTup_eq (t) (env : Env) : eTup t env = (t env).bind fun xs e => if xs.length ≤ 16777216 then .ok (.tuple xs) e else .no := id rfl
@[simp] theorem eLst_eq (t) (env : Env) : eLst t env = (t env).bind fun xs e => if xs.length ≤ 16777216 then .ok (.list xs) e else .no := id rfl
@[simp] theorem mLst_eq (t) (env : Env) : mLst t env = (t env).bind fun xs e => if xs.length ≤ 16777216 then .ok (.l xs) e else .no := id rfl
@[simp] theorem mD_eq (t : Env → Rs PyData) (env : Env) : mD t env = (t env).bind fun x e => .ok (.d x) e := id rfl
@[simp] theorem eFrz_eq (t : Env → Rs M) (env : Env) : eFrz t env = (t env).bind fun m e => lift (frzM m) e := id rfl
@[simp] theorem frzM_d (x : PyData) : frzM (.d x) = some x := id rfl
@[simp] theorem frzM_l (x : List PyData) : frzM (.l x) = some (.list x) := id rfl
@[simp] theorem eB_eq (f) (t) (env : Env) : eB f t env = (t env).bind fun xs e => lift (f xs) e := id rfl
@[simp] theorem eListScr_eq (i) (env : Env) : eListScr i env = lift ((slotScr env i).map fun ns => .list (ns.map .int)) env := id rfl
def ixOf : List PyData → PyData → Option PyData
  | xs, .int j => L2.atI xs j
  | _, _ => none
@[simp] theorem ixOf_i (xs j) : ixOf xs (.int j) = L2.atI xs j := id rfl
@[simp] theorem eIxO_eq (i) (tb) (env : Env) : eIxO i tb env = optRs (slotL env i) fun _ => (tb env).bind fun k e => optRs (slotL e i) fun xs => lift (ixOf xs k) e := by
  unfold eIxO
  cases slotL env i with
  | none => rfl
  | some _ =>
    show (tb env).bind _ = (tb env).bind _
    congr
    funext k e
    cases slotL e i with
    | none => rfl
    | some xs => cases k <;> rfl
@[simp] theorem pNo_eq (env : Env) : pNo env = .ok none env := id rfl
@[simp] theorem pSome_eq (t) (env : Env) : pSome t env = (t env).bind fun d e => lift (oInt d) e := id rfl
@[simp] theorem oInt_i (i : Int) : oInt (.int i) = some (some i) := id rfl
@[simp] theorem eSlice_eq (t lo hi) (env : Env) : eSlice t lo hi env = (t env).bind fun x e1 => (lo e1).bind fun l e2 => (hi e2).bind fun u e3 => lift (dSlice x l u) e3 := id rfl
@[simp] theorem eBO_eq (i f) (env : Env) : eBO i f env = lift ((slotL env i).bind fun ds => chkS (f [.list ds])) env := id rfl
@[simp] theorem e2R_eq (f t i) (env : Env) : e2R f t i env = (t env).bind fun x e => lift ((slotL e i).bind fun ds => chkS (f x (.list ds))) e := id rfl
@[simp] theorem ttO_eq (i) (env : Env) : ttO i env = lift ((slotL env i).map fun ds => !ds.isEmpty) env := id rfl
@[simp] theorem eTupO_eq (i) (env : Env) : eTupO i env = lift ((slotL env i).map fun ds => .tuple ds) env := id rfl
@[simp] theorem eListO_eq (i) (env : Env) : eListO i env = lift ((slotL env i).map fun ds => .list ds) env := id rfl
@[simp] theorem eIsi_eq (T t) (env : Env) : eIsi T t env = (t env).bind fun d e => .ok (.bool (isI T d)) e := id rfl
@[simp] theorem eListRg_eq (f t) (env : Env) : eListRg f t env = (t env).bind fun xs e => lift ((f xs).map .list) e := id rfl
@[simp] theorem mListRg_eq (f t) (env : Env) : mListRg f t env = (t env).bind fun xs e => lift ((f xs).map .l) e := id rfl
@[simp] theorem eMt_eq (i f t) (env : Env) : eMt i f t env = optRs (slotL env i) fun _ => (t env).bind fun ys e => optRs (slotL e i) fun xs => optRs (f xs ys) fun p => .ok p.1 (e.set i (some (.l p.2))) := by
  unfold eMt
  cases slotL env i with
  | none => rfl
  | some _ =>
    show (t env).bind _ = (t env).bind _
    congr
    funext ys e
    cases slotL e i with
    | none => rfl
    | some xs =>
      show (match f xs ys with | some (o, zs) => Rs.ok o (e.set i (some (.l zs))) | none => .no) = optRs (f xs ys) _
      cases f xs ys <;> rfl
def seqOne : List PyData → Option (List PyData)
  | [.list ds] => some ds
  | [.tuple ds] => some ds
  | _ => none
@[simp] theorem seqOne_l (ds) : seqOne [.list ds] = some ds := id rfl
@[simp] theorem seqOne_t (ds) : seqOne [.tuple ds] = some ds := id rfl
@[simp] theorem mList_eq (t) (env : Env) : mList t env = (t env).bind fun xs e => (lift (seqOne xs) e).bind fun ds e => .ok (.l ds) e := by
  unfold mList
  refine congrArg _ (funext fun xs => funext fun e => ?_)
  match xs with
  | [] => rfl
  | [.list ds] => rfl
  | [.tuple ds] => rfl
  | [.int _] => rfl
  | [.bool _] => rfl
  | [.none] => rfl
  | [.str _] => rfl
  | [.dict _] => rfl
  | x :: _ :: _ => cases x <;> rfl
@[simp] theorem itSeq_eq (t) (env : Env) : itSeq t env = (t env).bind fun d e => lift (seqOf d) e := id rfl
@[simp] theorem itB_eq (f t) (env : Env) : itB f t env = (t env).bind fun d e => lift (f d) e := id rfl
@[simp] theorem seqOf_l (x) : seqOf (.list x) = some x := id rfl
@[simp] theorem seqOf_t (x) : seqOf (.tuple x) = some x := id rfl
@[simp] theorem avNil_eq (env : Env) : avNil env = .ok [] env := id rfl
@[simp] theorem avD_eq (t u) (env : Env) : avD t u env = (t env).bind fun x e1 => (u e1).bind fun r e2 => .ok (.d x :: r) e2 := id rfl
@[simp] theorem avS_eq (j u) (env : Env) : avS j u env = optRs (env[j]?.join) fun _ => (u env).bind fun r e2 => .ok (.s j :: r) e2 := by
  unfold avS
  cases env[j]? with
  | none => rfl
  | some o => cases o <;> rfl
@[simp] theorem avMs_nil (env : Env) : avMs env [] = some [] := id rfl
@[simp] theorem avMs_cons (env : Env) (a r) : avMs env (a :: r) = (avM env a).bind fun m => (avMs env r).map (m :: ·) := id rfl
@[simp] theorem avM_d (env : Env) (x) : avM env (.d x) = some (.d x) := id rfl
@[simp] theorem avM_sl (env : Env) (j) : avM env (.s j) = env[j]?.join := by
  show (match env[j]? with | some (some m) => some m | _ => none) = _
  cases env[j]? with
  | none => rfl
  | some o => cases o <;> rfl
@[simp] theorem jsOf_nil : jsOf [] = [] := id rfl
@[simp] theorem jsOf_d (x r) : jsOf (.d x :: r) = jsOf r := id rfl
@[simp] theorem jsOf_s (j r) : jsOf (.s j :: r) = j :: jsOf r := id rfl
@[simp] theorem putBack_nil (os e) : putBack [] os e = e := id rfl
@[simp] theorem putBack_d (x r os e) : putBack (.d x :: r) os e = putBack r os.tail e := id rfl
@[simp] theorem putBack_s (j r os e) : putBack (.s j :: r) os e = putBack r os.tail (e.set j (os.head?.join)) := id rfl
def FOut.toRs (f : FOut) (k : List (Option M) → Env) : Rs M := match f with
  | .rt m os => .ok m (k os)
  | _ => .no
@[simp] theorem toRs_rt (m os k) : (FOut.rt m os).toRs k = .ok m (k os) := id rfl
@[simp] theorem callM_eq (ar F avs) (env : Env) : callM ar F avs env = optRs (avMs env avs) fun ms => if avs.length = ar ∧ (jsOf avs).Nodup then (F ms).toRs fun os => putBack avs os env else .no := by
  unfold callM
  cases avMs env avs with
  | none => rfl
  | some ms =>
    show (if _ then _ else _) = (if _ then _ else _)
    congr
@[simp] theorem eCall_eq (ar F t) (env : Env) : eCall ar F t env = (t env).bind fun avs e => callM ar F avs e := id rfl
@[simp] theorem eCallS_eq (ar F t) (env : Env) : eCallS ar F t env = (t env).bind fun d e => if (seqOf d).isSome = true then callM ar F (dAvs d) e else .no := id rfl
@[simp] theorem dAvs_t (xs : List PyData) : dAvs (.tuple xs) = xs.map .d := id rfl
@[simp] theorem dAvs_l (xs : List PyData) : dAvs (.list xs) = xs.map .d := id rfl
@[simp] theorem seqS_t (xs : List PyData) : (seqOf (.tuple xs)).isSome = true := id rfl
@[simp] theorem seqS_l (xs : List PyData) : (seqOf (.list xs)).isSome = true := id rfl
@[simp] theorem sThen_eq (t u) (env : Env) : sThen t u env = (t env).thn u := id rfl
@[simp] theorem sE_eq {α : Type} (t : Env → Rs α) (k) (env : Env) : sE t k env = (t env).to k := id rfl
@[simp] theorem sNx_eq (env : Env) : sNx env = .nx env := id rfl
@[simp] theorem sBk_eq (env : Env) : sBk env = .bk env := id rfl
@[simp] theorem sCt_eq (env : Env) : sCt env = .ct env := id rfl
@[simp] theorem sNo_eq (env : Env) : sNo env = .no := id rfl
@[simp] theorem sRet_eq (t) (env : Env) : sRet t env = sE t (fun m e => .rt m e) env := id rfl
@[simp] theorem sRetN_eq (env : Env) : sRetN env = .rt (.d .none) env := id rfl
@[simp] theorem sDrop_eq (t) (env : Env) : sDrop t env = sE t (fun _ e => .nx e) env := id rfl
@[simp] theorem sIf_eq (c t u) (env : Env) : sIf c t u env = sE c (fun b e => if b = true then t e else u e) env := id rfl
@[simp] theorem sSet_eq (i t) (env : Env) : sSet i t env = sE t (fun m e => .nx (e.set i (some m))) env := id rfl
@[simp] theorem sAsg_eq (t g) (env : Env) : sAsg t g env = sE t (fun d e => optOut (g d e) .nx) env := by
  refine congrFun ?_ env
  unfold sAsg
  congr
  funext d e
  cases g d e <;> rfl
@[simp] theorem sAug_eq (i f t) (env : Env) : sAug i f t env = optOut (slotD env i) fun x => sE t (fun y e => optOut (f x y) fun z => .nx (e.set i (some (.d z)))) env := by
  unfold sAug
  cases slotD env i with
  | none => rfl
  | some x =>
    show sE t _ env = sE t _ env
    congr
    funext y e
    cases f x y <;> rfl
@[simp] theorem sSetItem_eq (i t tk) (env : Env) : sSetItem i t tk env = sE t (fun d e => optOut (slotL e i) fun _ => sE tk (setIt i d) e) env := by
  refine congrFun ?_ env
  unfold sSetItem
  congr
  funext d e
  cases slotL e i <;> rfl
def asI : PyData → Option Int
  | .int i => some i
  | _ => none
@[simp] theorem asI_i (i) : asI (.int i) = some i := id rfl
@[simp] theorem setIt_eq (i d k e) : setIt i d k e = optOut (slotL e i) fun xs => optOut (asI k) fun j => optOut (L2.ixN xs.length j) fun n => .nx (e.set i (some (.l (xs.set n d)))) := by
  unfold setIt
  cases slotL e i with
  | none => rfl
  | some xs =>
    cases k with
    | int j =>
      show (match L2.ixN xs.length j with | some n => Out.nx (e.set i (some (.l (xs.set n d)))) | none => .no) = optOut (L2.ixN xs.length j) _
      cases L2.ixN xs.length j <;> rfl
    | _ => rfl
@[simp] theorem sFor_eq (it g body) (env : Env) : sFor it g body env = sE it (forGo g body) env := id rfl
@[simp] theorem runDef_eq (ios n body) (ms : List M) : runDef ios n body ms = (body (start0 n ms)).fin ios := id rfl
@[simp] theorem start0_eq (n ms) : start0 n ms = ms.map some ++ List.replicate (n - ms.length) none := id rfl
@[simp] theorem outs_nil (e) : outs [] e = [] := by cases e <;> rfl
@[simp] theorem outs_cons (b r m e) : outs (b :: r) (m :: e) = (if b = true then m else none) :: outs r e := id rfl
@[simp] theorem rep_succ (n : Nat) : List.replicate (n + 1) (none : Option M) = none :: List.replicate n none := id rfl
def mvM : M → Env → Nat → Rs M
  | .l ds, env, i => .ok (.l ds) (env.set i none)
  | .d x, env, _ => .ok (.d x) env
  | .scr _, _, _ => .no
  | .m ks, env, i => .ok (.m ks) (env.set i none)
  | .fm _, _, _ => .no
  | .o _ _, _, _ => .no
  | .fo _ _, _, _ => .no
  | .ll _, _, _ => .no
  | .fk _, _, _ => .no
  | .kt _ _, _, _ => .no
  | .kb _, _, _ => .no
  | .ob _ _, _, _ => .no
@[simp] theorem mvM_l (ds env i) : mvM (.l ds) env i = .ok (.l ds) (env.set i none) := id rfl
@[simp] theorem mvM_m (ks env i) : mvM (.m ks) env i = .ok (.m ks) (env.set i none) := id rfl
@[simp] theorem mvM_d (x env i) : mvM (.d x) env i = .ok (.d x) env := id rfl
@[simp] theorem alNil_eq (env : Env) : alNil env = .ok [] env := id rfl
@[simp] theorem alD_eq (t u) (env : Env) : alD t u env = (t env).bind fun x e1 => (u e1).bind fun r e2 => .ok (.d x :: r) e2 := id rfl
@[simp] theorem alL_eq (j u) (env : Env) : alL j u env = optRs (env[j]?.join) fun _ => (u env).bind fun r e2 => .ok (.l j :: r) e2 := by
  unfold alL
  cases env[j]? with
  | none => rfl
  | some o => cases o <;> rfl
@[simp] theorem alMs_nil (env : Env) : alMs env [] = some [] := id rfl
@[simp] theorem alMs_cons (env : Env) (a r) : alMs env (a :: r) = (alM env a).bind fun m => (alMs env r).map (m :: ·) := id rfl
@[simp] theorem alM_d (env : Env) (x) : alM env (.d x) = some (.d x) := id rfl
@[simp] theorem alM_l (env : Env) (j) : alM env (.l j) = (env[j]?.join.bind frzM).map .d := id rfl
def FOut.toSc (f : FOut) (e : Env) : Rs PyData := match f with
  | .rt (.d x) _ => if scalar x = true then .ok x e else .no
  | _ => .no
@[simp] theorem toSc_rt (x os e) : (FOut.rt (.d x) os).toSc e = if scalar x = true then .ok x e else .no := id rfl
@[simp] theorem eCallL_eq (ar F t) (env : Env) : eCallL ar F t env = (t env).bind fun als e => optRs (alMs e als) fun ms => if als.length = ar then (F ms).toSc e else .no := by
  unfold eCallL
  refine congrArg _ (funext fun als => funext fun e => ?_)
  unfold callL
  cases alMs e als with
  | none => rfl
  | some ms =>
    show (if _ then _ else _) = (if _ then _ else _)
    congr
@[simp] theorem bEnum_l (x) : bEnum [.list x] = some (enumD 0 x) := id rfl
@[simp] theorem bEnum_t (x) : bEnum [.tuple x] = some (enumD 0 x) := id rfl
@[simp] theorem eSM_eq (f t u) (env : Env) : eSM f t u env = (t env).bind fun x e1 => if isSq x = true then (u e1).bind fun ys e2 => lift (f x ys) e2 else .no := id rfl
@[simp] theorem isSq_l (x) : isSq (.list x) = true := id rfl
@[simp] theorem isSq_t (x) : isSq (.tuple x) = true := id rfl
@[simp] theorem cntD_l (ns : List Int) (k) : cntD (.list (ns.map .int)) [.int k] = some (.int (ns.count k : Nat)) := by simp [cntD]
@[simp] theorem cntD_t (ns : List Int) (k) : cntD (.tuple (ns.map .int)) [.int k] = some (.int (ns.count k : Nat)) := by simp [cntD]
@[simp] theorem mVar_eq (i) (env : Env) : mVar i env = optRs (env[i]?.join) fun m => mvM m env i := by
  unfold mVar
  cases env[i]? with
  | none => rfl
  | some o => cases o with
    | none => rfl
    | some m => cases m <;> rfl
def mvF : M → Env → Nat → Rs PyData
  | .l ds, env, i => .ok (.list ds) (env.set i (some (.d (.list ds))))
  | .d x, env, _ => .ok x env
  | .scr _, _, _ => .no
  | .m _, _, _ => .no
  | .fm _, _, _ => .no
  | .o _ _, _, _ => .no
  | .fo _ _, _, _ => .no
  | .ll _, _, _ => .no
  | .fk _, _, _ => .no
  | .kt _ _, _, _ => .no
  | .kb _, _, _ => .no
  | .ob _ _, _, _ => .no
@[simp] theorem mvF_l (ds env i) : mvF (.l ds) env i = .ok (.list ds) (env.set i (some (.d (.list ds)))) := id rfl
@[simp] theorem mvF_d (x env i) : mvF (.d x) env i = .ok x env := id rfl
@[simp] theorem eVarF_eq (i) (env : Env) : eVarF i env = optRs (env[i]?.join) fun m => mvF m env i := by
  unfold eVarF
  cases env[i]? with
  | none => rfl
  | some o => cases o with
    | none => rfl
    | some m => cases m <;> rfl
@[simp] theorem dAdd_ii (i j) : dAdd (.int i) (.int j) = some (.int (i + j)) := id rfl
@[simp] theorem dAddI_ii (i j) : dAddI (.int i) (.int j) = some (.int (i + j)) := id rfl
@[simp] theorem dSub_ii (i j) : dSub (.int i) (.int j) = some (.int (i - j)) := id rfl
@[simp] theorem dMul_ii (i j) : dMul (.int i) (.int j) = if okM i j = true then some (.int (i * j)) else none := id rfl
@[simp] theorem dDiv_ii (i j) : dDiv (.int i) (.int j) = if 0 < j ∧ j < 1073741824 then some (.int (i / j)) else none := id rfl
@[simp] theorem dMod_ii (i j) : dMod (.int i) (.int j) = if 0 < j then some (.int (i % j)) else none := id rfl
@[simp] theorem dLt_ii (i j) : dLt (.int i) (.int j) = some (.bool (decide (i < j))) := id rfl
@[simp] theorem dLe_ii (i j) : dLe (.int i) (.int j) = some (.bool (decide (i ≤ j))) := id rfl
@[simp] theorem dGt_ii (i j) : dGt (.int i) (.int j) = some (.bool (decide (j < i))) := id rfl
@[simp] theorem dGe_ii (i j) : dGe (.int i) (.int j) = some (.bool (decide (j ≤ i))) := id rfl
@[simp] theorem dNeg_i (i) : dNeg (.int i) = some (.int (-i)) := id rfl
@[simp] theorem dEq_ii (i j : Int) : dEq (.int i) (.int j) = some (.bool (i == j)) := id rfl
@[simp] theorem dNe_ii (i j : Int) : dNe (.int i) (.int j) = some (.bool (!(i == j))) := id rfl
@[simp] theorem dEq_bb (i j : Bool) : dEq (.bool i) (.bool j) = some (.bool (i == j)) := id rfl
@[simp] theorem dNe_bb (i j : Bool) : dNe (.bool i) (.bool j) = some (.bool (!(i == j))) := id rfl
@[simp] theorem dIs_none (x) : dIs x .none = some (.bool (isNon x)) := by cases x <;> rfl
@[simp] theorem dIsNot_none (x) : dIsNot x .none = some (.bool (!isNon x)) := by cases x <;> rfl
@[simp] theorem isNon_none : isNon .none = true := id rfl
@[simp] theorem isNon_b (b) : isNon (.bool b) = false := id rfl
@[simp] theorem isNon_i (b) : isNon (.int b) = false := id rfl
@[simp] theorem isNon_s (b) : isNon (.str b) = false := id rfl
@[simp] theorem isNon_l (b) : isNon (.list b) = false := id rfl
@[simp] theorem isNon_t (b) : isNon (.tuple b) = false := id rfl
@[simp] theorem tru_b (b) : tru (.bool b) = some b := id rfl
@[simp] theorem tru_i (b) : tru (.int b) = some (b != 0) := id rfl
@[simp] theorem tru_n : tru .none = some false := id rfl
@[simp] theorem tru_l (b) : tru (.list b) = some (!b.isEmpty) := id rfl
@[simp] theorem tru_t (b) : tru (.tuple b) = some (!b.isEmpty) := id rfl
@[simp] theorem bLen_l (x) : bLen [.list x] = some (.int x.length) := id rfl
@[simp] theorem bLen_t (x) : bLen [.tuple x] = some (.int x.length) := id rfl
@[simp] theorem bAbs_i (i) : bAbs [.int i] = some (.int (if i < 0 then -i else i)) := id rfl
@[simp] theorem bInt_i (i) : bInt [.int i] = some (.int i) := id rfl
@[simp] theorem bInt_b (i) : bInt [.bool i] = some (.int (if i then 1 else 0)) := id rfl
@[simp] theorem bSum_l (ns : List Int) : bSum [.list (ns.map .int)] = some (.int ns.sum) := by simp [bSum]
@[simp] theorem bSum_t (ns : List Int) : bSum [.tuple (ns.map .int)] = some (.int ns.sum) := by simp [bSum]
@[simp] theorem bAll_l (ns : List Bool) : bAll [.list (ns.map .bool)] = some (.bool (ns.all id)) := by simp [bAll]
@[simp] theorem bAny_l (ns : List Bool) : bAny [.list (ns.map .bool)] = some (.bool (ns.any id)) := by simp [bAny]
@[simp] theorem bTup_l (x) : bTup [.list x] = some (.tuple x) := id rfl
@[simp] theorem bTup_t (x) : bTup [.tuple x] = some (.tuple x) := id rfl
@[simp] theorem bList_l (x) : bList [.list x] = some (.list x) := id rfl
@[simp] theorem bList_t (x) : bList [.tuple x] = some (.list x) := id rfl
@[simp] theorem bSorted_l (ns : List Int) : bSorted [.list (ns.map .int)] = some (.list ((sortI ns).map .int)) := by simp [bSorted]
@[simp] theorem bSorted_t (ns : List Int) : bSorted [.tuple (ns.map .int)] = some (.list ((sortI ns).map .int)) := by simp [bSorted]
@[simp] theorem bMax_ii (i j) : bMax [.int i, .int j] = some (.int (if j > i then j else i)) := id rfl
@[simp] theorem bMin_ii (i j) : bMin [.int i, .int j] = some (.int (if j < i then j else i)) := id rfl
@[simp] theorem bRange1_i (j) : bRange1 [.int j] = if j ≤ 16777216 ∧ -(2 ^ 62) ≤ j then some (rangeD 0 j.toNat) else none := id rfl
@[simp] theorem bZip_l (x y) : bZip [.list x, .list y] = some (zip2 x y) := id rfl
@[simp] theorem bZip_t (x y) : bZip [.tuple x, .tuple y] = some (zip2 x y) := id rfl
@[simp] theorem bZipM_tl (x y) : bZipM [.tuple x, .list y] = some (zip2 x y) := id rfl
@[simp] theorem bZip3_t (x y z) : bZip3 [.tuple x, .tuple y, .tuple z] = some (zip3 x y z) := id rfl
@[simp] theorem dIx_l (xs i) : dIx (.list xs) (.int i) = L2.atI xs i := id rfl
@[simp] theorem dIx_t (xs i) : dIx (.tuple xs) (.int i) = L2.atI xs i := id rfl
@[simp] theorem dSlice_l (xs lo hi) : dSlice (.list xs) lo hi = some (.list (cutD xs lo hi)) := id rfl
@[simp] theorem dSlice_t (xs lo hi) : dSlice (.tuple xs) lo hi = some (.tuple (cutD xs lo hi)) := id rfl
@[simp] theorem isI_1 (i) : isI .int (.int i) = true := id rfl
@[simp] theorem isI_2 (i) : isI .int (.bool i) = true := id rfl
@[simp] theorem isI_3 (i) : isI .bool (.bool i) = true := id rfl
@[simp] theorem isI_4 (i) : isI .bool (.int i) = false := id rfl
@[simp] theorem isI_5 (i) : isI .tup (.tuple i) = true := id rfl
@[simp] theorem isI_6 (i) : isI .lst (.list i) = true := id rfl
@[simp] theorem isI_7 (i) : isI .tup (.list i) = false := id rfl
@[simp] theorem isI_8 (i) : isI .lst (.tuple i) = false := id rfl
@[simp] theorem isI_9 (i) : isI .int (.tuple i) = false := id rfl
@[simp] theorem isI_10 (i) : isI .int (.list i) = false := id rfl
@[simp] theorem isI_11 (i) : isI .bool (.tuple i) = false := id rfl
@[simp] theorem isI_12 (i) : isI .bool (.list i) = false := id rfl
@[simp] theorem isI_13 (i) : isI .tup (.int i) = false := id rfl
@[simp] theorem isI_14 (i) : isI .tup (.bool i) = false := id rfl
@[simp] theorem isI_15 (T) : isI T .none = false := by cases T <;> rfl
@[simp] theorem isI_16 (i) : isI .str (.str i) = true := id rfl
@[simp] theorem isI_17 (i) : isI .tup (.str i) = false := id rfl
@[simp] theorem isI_18 (i) : isI .int (.str i) = false := id rfl
@[simp] theorem isI_19 (i) : isI .bool (.str i) = false := id rfl
@[simp] theorem isI_20 (i) : isI .lst (.str i) = false := id rfl
@[simp] theorem isI_21 (i) : isI .lst (.int i) = false := id rfl
@[simp] theorem isI_22 (i) : isI .lst (.bool i) = false := id rfl
@[simp] theorem isI_23 (i) : isI .str (.int i) = false := id rfl
@[simp] theorem isI_24 (i) : isI .str (.bool i) = false := id rfl
@[simp] theorem isI_25 (i) : isI .str (.list i) = false := id rfl
@[simp] theorem isI_26 (i) : isI .str (.tuple i) = false := id rfl
@[simp] theorem scalar_1 (i) : scalar (.int i) = true := id rfl
@[simp] theorem scalar_2 (i) : scalar (.bool i) = true := id rfl
@[simp] theorem scalar_3 : scalar .none = true := id rfl
@[simp] theorem scalar_4 (i) : scalar (.str i) = true := id rfl
@[simp] theorem scalar_5 (xs : List PyData) : scalar (.tuple xs) = xs.all scal0 := id rfl
@[simp] theorem chkS_i (i) : chkS (some (.int i)) = some (.int i) := id rfl
@[simp] theorem chkS_b (i) : chkS (some (.bool i)) = some (.bool i) := id rfl
@[simp] theorem gN_eq (i d env) : gN i d env = some (env.set i (some (.d d))) := id rfl
@[simp] theorem gT_eq (n gs ds env) : gT n gs (.tuple ds) env = if ds.length = n then gs ds env else none := id rfl
@[simp] theorem gTL_eq (n gs ds env) : gTL n gs (.list ds) env = if ds.length = n then gs ds env else none := id rfl
@[simp] theorem gsN_nil (env) : gsN [] env = some env := id rfl
@[simp] theorem gsC_cons (g gs d r env) : gsC g gs (d :: r) env = (g d env).bind (gs r) := id rfl
@[simp] theorem wipeE_nil (e) : wipeE e [] = e := id rfl
@[simp] theorem wipeE_cons (e v vs) : wipeE e (v :: vs) = (wipeE e vs).set v none := id rfl
@[simp] theorem restE_nil (e0 e) : restE e0 [] e = e := id rfl
@[simp] theorem restE_cons (e0 v vs e) : restE e0 (v :: vs) e = restE e0 vs (e.set v (keepD e0[v]?)) := id rfl
@[simp] theorem keepD_n : keepD (some none) = none := id rfl
@[simp] theorem keepD_d (x) : keepD (some (some (.d x))) = some (.d x) := id rfl
@[simp] theorem keepD_l (x) : keepD (some (some (.l x))) = none := id rfl
@[simp] theorem keepD_x : keepD none = none := id rfl
@[simp] theorem tYesD_eq (e) : tYesD e = .ok true e := id rfl
@[simp] theorem eComp_eq (it g tt te vs) (env : Env) : eComp it g tt te vs env = (it env).bind fun ds e => (compR vs e (compGo g tt te vs ds [] (wipeE e vs))).bind fun r e => .ok (.list r) e := by
  unfold eComp eComp0
  cases it env <;> rfl
@[simp] theorem mComp_eq (it g tt te vs) (env : Env) : mComp it g tt te vs env = (it env).bind fun ds e => (compR vs e (compGo g tt te vs ds [] (wipeE e vs))).bind fun r e => .ok (.l r) e := by
  unfold mComp eComp0
  cases it env <;> rfl
@[simp] theorem compR_ok (vs e0 r e) : compR vs e0 (.ok r e) = .ok r (restE e0 vs e) := id rfl
@[simp] theorem eLenDc_eq {κ : Type} [DecidableEq κ] (kf : PyData → Option κ) (it g tt tk tv vs) (env : Env) : eLenDc kf it g tt tk tv vs env = (it env).bind fun ds e => (compR vs e (compGo g tt (eKey kf tk tv) vs ds [] (wipeE e vs))).bind fun r e => .ok (.int (dcK kf r).length) e := by
  unfold eLenDc eComp0
  cases it env <;> rfl
@[simp] theorem eKey_eq {κ : Type} (kf : PyData → Option κ) (tk tv) (env : Env) : eKey kf tk tv env = (tk env).bind fun y e => (tv e).bind fun _ e2 => if (kf y).isSome = true then .ok y e2 else .no := id rfl
@[simp] theorem kI_i (n : Int) : kI (.int n) = some n := id rfl
@[simp] theorem dRev_t (xs) : dRev (.tuple xs) = some (.tuple xs.reverse) := id rfl
@[simp] theorem compGo_nil (g tt te vs acc e) : compGo g tt te vs [] acc e = .ok acc e := id rfl
theorem compGo_cons (g tt te vs x xs acc e) : compGo g tt te vs (x :: xs) acc e = optRs (g x e) fun e1 => (tt e1).bind fun b e2 => if b = true then (te e2).bind fun y e3 => compGo g tt te vs xs (acc ++ [y]) (wipeE e3 vs) else compGo g tt te vs xs acc (wipeE e2 vs) := by
  rw [compGo]
  cases g x e <;> rfl
/-- a comprehension whose turns leave the slots as they were -/
theorem compGo_map {g : PyData → Env → Option Env} {tt : Env → Rs Bool} {te : Env → Rs PyData} {vs : List Nat} {α : Type} {emb : α → PyData} {e : Env} (p : α → Bool) (f : α → PyData) : ∀ (xs : List α) (acc : List PyData),
    (∀ x ∈ xs, ∃ e1, g (emb x) e = some e1 ∧ tt e1 = .ok (p x) e1 ∧ (p x = true → te e1 = .ok (f x) e1) ∧ wipeE e1 vs = e) → compGo g tt te vs (xs.map emb) acc e = .ok (acc ++ (xs.filter p).map f) e
  | [], acc, _ => by simp
  | x :: xs, acc, h => by
    obtain ⟨e1, h1, h2, h3, h4⟩ := h x List.mem_cons_self
    have ih := fun acc => compGo_map p f xs acc fun y hy => h y (List.mem_cons_of_mem _ hy)
    rw [List.map_cons, compGo_cons, h1, optRs_s, h2]
    cases hp : p x with
    | true =>
      simp only [Rs.bind_ok, if_true, h3 hp, h4, ih]
      simp [hp]
    | false =>
      simp only [Rs.bind_ok, Bool.false_eq_true, if_false, h4, ih]
      simp [hp]
@[simp] theorem forGo_nil (g body e) : forGo g body [] e = .nx e := id rfl
/-- a turn's end in a loop -/
def Out.lp (o : Out) (k : Env → Out) : Out := match o with
  | .nx e => k e
  | .ct e => k e
  | .bk e => .nx e
  | .rt m e => .rt m e
  | .ex x e => .ex x e
  | .no => .no
@[simp] theorem lp_nx (e k) : (Out.nx e).lp k = k e := id rfl
@[simp] theorem lp_ct (e k) : (Out.ct e).lp k = k e := id rfl
@[simp] theorem lp_bk (e k) : (Out.bk e).lp k = .nx e := id rfl
@[simp] theorem lp_rt (m e k) : (Out.rt m e).lp k = .rt m e := id rfl
theorem forGo_cons (g body x xs e) : forGo g body (x :: xs) e = optOut (g x e) fun e1 => (body e1).lp (forGo g body xs) := by
  rw [forGo]
  cases g x e with
  | none => rfl
  | some e1 =>
    show (match body e1 with | .nx e2 => forGo g body xs e2 | .ct e2 => forGo g body xs e2 | .bk e2 => .nx e2 | .rt m e2 => .rt m e2 | .ex x e2 => .ex x e2 | .no => .no) = (body e1).lp _
    cases body e1 <;> rfl
end DL
namespace DL
open PySem
theorem atI_nat {α : Type} (xs : List α) (n : Nat) : L2.atI xs (n : Int) = xs[n]? := by
  by_cases h : n < xs.length
  · rw [L2.atI_nat (v := xs[n]) (by simp [h])]
    simp [h]
  · unfold L2.atI L2.ixN
    simp [h]
@[simp] theorem atI_2 {α : Type} (xs : List α) : L2.atI xs 2 = xs[2]? := atI_nat xs 2
@[simp] theorem atI_3 {α : Type} (xs : List α) : L2.atI xs 3 = xs[3]? := atI_nat xs 3
@[simp] theorem atI_4 {α : Type} (xs : List α) : L2.atI xs 4 = xs[4]? := atI_nat xs 4
@[simp] theorem atI_5 {α : Type} (xs : List α) : L2.atI xs 5 = xs[5]? := atI_nat xs 5
@[simp] theorem atI_6 {α : Type} (xs : List α) : L2.atI xs 6 = xs[6]? := atI_nat xs 6
@[simp] theorem atI_7 {α : Type} (xs : List α) : L2.atI xs 7 = xs[7]? := atI_nat xs 7
@[simp] theorem atI_zero {α : Type} (xs : List α) : L2.atI xs 0 = xs[0]? := atI_nat xs 0
@[simp] theorem atI_one {α : Type} (xs : List α) : L2.atI xs 1 = xs[1]? := atI_nat xs 1
theorem atI_int {α : Type} (xs : List α) (i : Int) (h : 0 ≤ i) : L2.atI xs i = xs[i.toNat]? := by
  have := atI_nat xs i.toNat
  rw [Int.toNat_of_nonneg h] at this
  exact this
theorem ixN_int (n : Nat) (i : Int) (h : 0 ≤ i) (h2 : i < n) : L2.ixN n i = some i.toNat := by
  unfold L2.ixN
  rw [if_pos h, if_pos h2]
theorem ixN_nat (n i : Nat) (h2 : i < n) : L2.ixN n (i : Int) = some i := by
  rw [ixN_int n i (by omega) (by omega)]
  simp
@[simp] theorem dPow_10_18 : dPow (.int 10) (.int 18) = some (.int 1000000000000000000) := by
  have e : (10 : Int) ^ (18 : Int).toNat = 1000000000000000000 := by decide +kernel
  show (if 0 ≤ (18 : Int) ∧ (18 : Int) ≤ 1000000 ∧ (10 : Int).natAbs < 2 ^ 64 then some (PyData.int ((10 : Int) ^ (18 : Int).toNat)) else none) = _
  rw [e, if_pos (by decide)]
theorem okM_lit (i j : Int) (h1 : -(2 ^ 64) < j) (h2 : j < 2 ^ 64) : okM i j = true := by
  unfold okM
  simp only [Bool.or_eq_true, Bool.and_eq_true, decide_eq_true_eq]
  exact .inr ⟨h1, h2⟩
end DL
namespace DL
open PySem
theorem forGo_rel {g : PyData → Env → Option Env} {body : Env → Out} (Inv : List PyData → Env → Prop)
    (step : ∀ x xs e, Inv (x :: xs) e → ∃ e1 e2, g x e = some e1 ∧ (body e1 = .nx e2 ∨ body e1 = .ct e2) ∧ Inv xs e2) :
    ∀ (xs : List PyData) (e : Env), Inv xs e → ∃ e', forGo g body xs e = .nx e' ∧ Inv [] e'
  | [], e, h => ⟨e, forGo_nil .., h⟩
  | x :: xs, e, h => by
    obtain ⟨e1, e2, h1, h2, h3⟩ := step x xs e h
    obtain ⟨e', h4, h5⟩ := forGo_rel Inv step xs _ h3
    refine ⟨e', ?_, h5⟩
    rw [forGo_cons, h1, optOut_s]
    rcases h2 with h2 | h2 <;> (rw [h2]; exact h4)
/-- a loop over range(N) -/
theorem forGo_range {g : PyData → Env → Option Env} {body : Env → Out} (N : Nat) (Inv : Nat → Env → Prop)
    (step : ∀ k e, k < N → Inv k e → ∃ e1 e2, g (.int k) e = some e1 ∧ (body e1 = .nx e2 ∨ body e1 = .ct e2) ∧ Inv (k + 1) e2) (e : Env) (h0 : Inv 0 e) : ∃ e', forGo g body (rangeD 0 N) e = .nx e' ∧ Inv N e' := by
  obtain ⟨e', h1, k, hk, h2, h3⟩ := forGo_rel (g := g) (body := body) (fun l e => ∃ k : Nat, k ≤ N ∧ l = (List.range' k (N - k)).map (fun i : Nat => PyData.int i) ∧ Inv k e) (by
    rintro x l e ⟨k, hk, h1, h2⟩
    have hk' : k < N := Nat.lt_of_not_le fun z => by
      rw [Nat.sub_eq_zero_of_le z] at h1
      simp at h1
    rw [show N - k = (N - (k + 1)) + 1 by omega, List.range'_succ, List.map_cons] at h1
    cases h1
    obtain ⟨e1, e2, a, b, c⟩ := step k e hk' h2
    exact ⟨e1, e2, a, b, k + 1, hk', rfl, c⟩) (rangeD 0 N) e ⟨0, by omega, by
      have : rangeD 0 N = (List.range N).map fun i : Nat => .int i := by simp [rangeD]
      rw [this, List.range_eq_range']; rfl, h0⟩
  have hN : k = N := by
    have hl := congrArg List.length h2
    simp at hl
    omega
  exact ⟨e', h1, by rw [← hN]; exact h3⟩
/-- a loop over a row, by what is done and what is left -/
theorem forGo_list {α : Type} {emb : α → PyData} {g : PyData → Env → Option Env} {body : Env → Out} (Inv : List α → List α → Env → Prop)
    (step : ∀ d x r e, Inv d (x :: r) e → ∃ e1 e2, g (emb x) e = some e1 ∧ (body e1 = .nx e2 ∨ body e1 = .ct e2) ∧ Inv (d ++ [x]) r e2) : ∀ (r d : List α) (e : Env), Inv d r e → ∃ e', forGo g body (r.map emb) e = .nx e' ∧ Inv (d ++ r) [] e'
  | [], d, e, h => ⟨e, forGo_nil .., by rw [List.append_nil]; exact h⟩
  | x :: r, d, e, h => by
    obtain ⟨e1, e2, h1, h2, h3⟩ := step d x r e h
    obtain ⟨e', h4, h5⟩ := forGo_list Inv step r (d ++ [x]) e2 h3
    refine ⟨e', ?_, by rw [List.append_assoc] at h5; exact h5⟩
    rw [List.map_cons, forGo_cons, h1, optOut_s]
    rcases h2 with h2 | h2 <;> (rw [h2]; exact h4)
/-- a comprehension over data whose turns leave the slots as they were -/
theorem compGo_id {g : PyData → Env → Option Env} {te : Env → Rs PyData} {vs : List Nat} {e : Env} (f : PyData → PyData) (xs acc : List PyData)
    (h : ∀ x ∈ xs, ∃ e1, g x e = some e1 ∧ te e1 = .ok (f x) e1 ∧ wipeE e1 vs = e) : compGo g tYesD te vs xs acc e = .ok (acc ++ xs.map f) e := by
  have := compGo_map (g := g) (tt := tYesD) (te := te) (vs := vs) (emb := id) (e := e) (fun _ => true) f xs acc (fun x hx => by
    obtain ⟨e1, h1, h2, h3⟩ := h x hx
    exact ⟨e1, h1, rfl, fun _ => h2, h3⟩)
  rw [List.map_id, List.filter_eq_self.2 (by simp)] at this
  exact this
theorem rangeD_len (a : Int) (n : Nat) : (rangeD a n).length = n := by simp [rangeD]
theorem rangeD_eq (n : Nat) : rangeD 0 n = (List.range n).map fun i : Nat => .int i := by simp [rangeD]
/-- a whole number -/
def whole : PyData → Bool
  | .int _ => true
  | _ => false
@[simp] theorem whole_i (i) : whole (.int i) = true := rfl
@[simp] theorem whole_b (i) : whole (.bool i) = false := rfl
@[simp] theorem whole_n : whole .none = false := rfl
@[simp] theorem whole_s (i) : whole (.str i) = false := rfl
@[simp] theorem whole_t (i) : whole (.tuple i) = false := rfl
@[simp] theorem whole_l (i) : whole (.list i) = false := rfl
theorem ints_of_whole : ∀ xs : List PyData, (∀ x ∈ xs, whole x = true) → ∃ ns : List Int, xs = ns.map .int
  | [], _ => ⟨[], rfl⟩
  | x :: xs, h => by
    obtain ⟨ns, e⟩ := ints_of_whole xs fun y hy => h y (List.mem_cons_of_mem _ hy)
    have := h x List.mem_cons_self
    cases x with
    | int i => exact ⟨i :: ns, by rw [e]; rfl⟩
    | _ => cases this
def btw (a b : Int) : PyData → Bool
  | .int i => decide (a ≤ i) && decide (i ≤ b)
  | _ => false
theorem map_int_inj {ns ms : List Int} (h : ns.map PyData.int = ms.map PyData.int) : ns = ms :=
  (List.map_inj_right (fun _ _ e => PyData.int.inj e)).1 h
theorem eqv_i (i j : Int) : PyData.eqv (.int i) (.int j) = (i == j) := by simp [PyData.eqv]
theorem eqv_ll (x y : List PyData) : PyData.eqv (.list x) (.list y) = PyData.eqvAll x y := by rw [PyData.eqv]
theorem eqv_tt (x y : List PyData) : PyData.eqv (.tuple x) (.tuple y) = PyData.eqvAll x y := by rw [PyData.eqv]
end DL
namespace DL
open PySem
structure Emb {α : Type} [BEq α] (emb : α → PyData) (d : Nat) : Prop where
  lay : ∀ a, (emb a).canLay0 = true
  dep : ∀ a, (emb a).depth ≤ d
  eqv : ∀ a b, PyData.eqv (emb a) (emb b) = (a == b)
section
variable {α β : Type} [BEq α] [BEq β] {emb : α → PyData} {emb2 : β → PyData} {d d2 : Nat}
theorem Emb.i : Emb PyData.int 0 := ⟨fun a => by simp [PyData.canLay0], fun a => by simp [PyData.depth], eqv_i⟩
theorem Emb.layAll (E : Emb emb d) : ∀ l : List α, PyData.canLayAll0 (l.map emb) = true ∧ PyData.depthAll (l.map emb) ≤ d
  | [] => ⟨rfl, Nat.zero_le _⟩
  | x :: xs => by
    obtain ⟨h1, h2⟩ := E.layAll xs
    rw [List.map_cons, PyData.canLayAll0, PyData.depthAll, h1, E.lay x]
    exact ⟨rfl, Nat.max_le.2 ⟨E.dep x, h2⟩⟩
theorem Emb.eqvAll (E : Emb emb d) : ∀ l r : List α, PyData.eqvAll (l.map emb) (r.map emb) = (l == r)
  | [], [] => by simp [PyData.eqvAll]
  | [], _ :: _ => by simp [PyData.eqvAll]
  | _ :: _, [] => by simp [PyData.eqvAll]
  | x :: xs, y :: ys => by
    rw [List.map_cons, List.map_cons, PyData.eqvAll, E.eqvAll xs ys, E.eqv]
    rfl
theorem Emb.tup (E : Emb emb d) : Emb (fun l : List α => PyData.tuple (l.map emb)) (d + 1) := ⟨fun a => by rw [PyData.canLay0]; exact (E.layAll a).1, fun a => by rw [PyData.depth]; have := (E.layAll a).2; omega, fun a b => by rw [eqv_tt, E.eqvAll]⟩
theorem Emb.lst (E : Emb emb d) : Emb (fun l : List α => PyData.list (l.map emb)) (d + 1) := ⟨fun a => by rw [PyData.canLay0]; exact (E.layAll a).1, fun a => by rw [PyData.depth]; have := (E.layAll a).2; omega, fun a b => by rw [eqv_ll, E.eqvAll]⟩
theorem Emb.pair (E : Emb emb d) (E2 : Emb emb2 d) : Emb (fun p : α × β => PyData.tuple [emb p.1, emb2 p.2]) (d + 1) := ⟨fun a => by
    rw [PyData.canLay0, PyData.canLayAll0, PyData.canLayAll0, PyData.canLayAll0, E.lay, E2.lay]; rfl, fun a => by
    rw [PyData.depth, PyData.depthAll, PyData.depthAll, PyData.depthAll]
    have h1 := E.dep a.1
    have h2 := E2.dep a.2
    omega, fun a b => by
    rw [eqv_tt, PyData.eqvAll, PyData.eqvAll, PyData.eqvAll, E.eqv, E2.eqv, Bool.and_true]
    rfl⟩
theorem Emb.row : Emb (fun r : List Int => PyData.tuple (r.map .int)) 1 := Emb.tup Emb.i
theorem Emb.any (E : Emb emb d) (x : α) (l : List α) : ((l.map emb).any fun z => PyData.eqv z (emb x)) = l.any (· == x) := by
  rw [List.any_map]
  congr 1
  funext z
  exact E.eqv z x
end
end DL
namespace DL
open PySem PySem.Spec PyProof.Rows L2
section
variable {X : Cx} {C : Cc}
def asL : PyData → Env → Rs M
  | .list ds, e => .ok (.l ds) e
  | _, _ => .no
/-- xs * k, an owned list -/
def mOp (f : PyData → PyData → Option PyData) (ta tb : Env → Rs PyData) : Env → Rs M := fun env => (e2 f ta tb env).bind asL
end
theorem mOp_eq (f ta tb) (env : Env) : mOp f ta tb env = (e2 f ta tb env).bind fun d e => asL d e := id rfl
end DL
namespace DL
open PySem PySem.Spec PyProof.Rows L2
section
variable {X : Cx} {C : Cc} {K : PySem.W.Frag}
def stO (i : Nat) (x : PyData) (tk : Env → Rs PyData) (u : Env → Out) : Env → Out := fun e => match slotL e i with
  | none => .no
  | some _ => sE tk (fun k e1 => match setIt i x k e1 with
    | .nx e2 => u e2
    | _ => .no) e
def sSwap (i : Nat) (t ta tb : Env → Rs PyData) : Env → Out := sE t fun d e => match d with
  | .tuple [x, y] => stO i x ta (stO i y tb .nx) e
  | _ => .no
variable {e ka kb : Expr} {pos tp1 tp2 pt : Pos} {kt : Nat} {t ta tb : Env → Rs PyData}
end
end DL
namespace DL
open PySem PySem.Spec PyProof.Rows L2
section
variable {X : Cx} {C : Cc} {K : PySem.W.Frag} {H : Hp} {ow : Ow}
def getM : List (Int × PyData) → Int → Option PyData
  | [], _ => none
  | p :: r, k => if p.1 = k then some p.2 else getM r k
def putM : List (Int × PyData) → Int → PyData → List (Int × PyData)
  | [], k, d => [(k, d)]
  | p :: r, k, d => if p.1 = k then (p.1, d) :: r.map (fun q => if q.1 = k then (q.1, d) else q) else p :: putM r k d
theorem DKs.val {vs : List (Key × V)} {ks : List (Int × PyData)} (h : DKs K H ow vs ks) (k : Int) : match getM ks k with
    | none => valV vs (.inl k) = none
    | some d => ∃ v, valV vs (.inl k) = some v ∧ DV K H ow v d := by
  unfold DKs at h
  induction h with
  | nil => exact rfl
  | @cons p q ps qs hq t ih =>
    obtain ⟨h1, h2⟩ := hq
    unfold getM
    by_cases e : q.1 = k
    · rw [if_pos e]
      exact ⟨p.2, valV_pos (h1.trans (by rw [e])), h2⟩
    · rw [if_neg e, valV_neg (fun z => e (by rw [h1] at z; exact Sum.inl.inj z))]
      exact ih
theorem DKs.some {vs : List (Key × V)} {ks : List (Int × PyData)} (h : DKs K H ow vs ks) {k : Int} : (valV vs (.inl k)).isSome = (getM ks k).isSome := by
  have := h.val k
  cases e : getM ks k with
  | none => rw [e] at this; rw [this]; rfl
  | some d =>
    rw [e] at this
    obtain ⟨v, h1, _⟩ := this
    rw [h1]; rfl
theorem DKs.repl {vs : List (Key × V)} {ks : List (Int × PyData)} (h : DKs K H ow vs ks) (k : Int) {v : V} {d : PyData} (dv : DV K H ow v d) : DKs K H ow (vs.map fun kv => if kv.1 = .inl k then (kv.1, v) else kv) (ks.map fun q => if q.1 = k then (q.1, d) else q) := by
  unfold DKs at h ⊢
  induction h with
  | nil => exact .nil
  | @cons p q ps qs hq t ih =>
    obtain ⟨h1, h2⟩ := hq
    rw [List.map_cons, List.map_cons]
    refine .cons ?_ ih
    by_cases e : q.1 = k
    · rw [if_pos e, if_pos (h1.trans (by rw [e]))]; exact ⟨h1, dv⟩
    · rw [if_neg e, if_neg (fun z => e (by rw [h1] at z; exact Sum.inl.inj z))]; exact ⟨h1, h2⟩
theorem DKs.put {vs : List (Key × V)} {ks : List (Int × PyData)} (h : DKs K H ow vs ks) (k : Int) {v : V} {d : PyData} (dv : DV K H ow v d) : DKs K H ow (putK vs (.inl k) v) (putM ks k d) := by
  have key : putK vs (.inl k) v = if (vs.any fun kv => decide (kv.1 = Sum.inl k)) = true then vs.map (fun kv => if kv.1 = .inl k then (kv.1, v) else kv) else vs ++ [(.inl k, v)] := rfl
  rw [key]
  clear key
  have h0 := h
  unfold DKs at h ⊢
  induction h with
  | nil => exact .cons ⟨rfl, dv⟩ .nil
  | @cons p q ps qs hq t ih =>
    obtain ⟨h1, h2⟩ := hq
    have ih := ih t
    rw [List.any_cons, putM]
    by_cases e : q.1 = k
    · have e2 : p.1 = Sum.inl k := h1.trans (by rw [e])
      rw [if_pos e, decide_eq_true e2, Bool.true_or, if_pos rfl, List.map_cons, if_pos e2]
      exact .cons ⟨h1, dv⟩ (DKs.repl t k dv)
    · have e2 : ¬p.1 = Sum.inl k := fun z => e (by rw [h1] at z; exact Sum.inl.inj z)
      rw [if_neg e, decide_eq_false e2, Bool.false_or]
      by_cases c : (ps.any fun kv => decide (kv.1 = Sum.inl k)) = true
      · rw [if_pos c] at ih ⊢
        rw [List.map_cons, if_neg e2]
        exact .cons ⟨h1, h2⟩ ih
      · rw [if_neg c] at ih ⊢
        rw [List.cons_append]
        exact .cons ⟨h1, h2⟩ ih
theorem DKs.length {vs : List (Key × V)} {ks : List (Int × PyData)} (h : DKs K H ow vs ks) : vs.length = ks.length := Paired.length h
/-- {} -/
def mNewM : Env → Rs M := fun e => .ok (.m []) e
variable {a b e k : Expr} {pos tpos : Pos} {t tk tv : Env → Rs PyData} {i : Nat}
/-- x in d, x not in d -/
def eInM (n : Bool) (i : Nat) (t : Env → Rs PyData) : Env → Rs PyData := fun env => (t env).bind fun x e => match slotM e i, x with
  | some ks, .int k => .ok (.bool (xor n (getM ks k).isSome)) e
  | _, _ => .no
/-- d[x] -/
def eGetM (i : Nat) (t : Env → Rs PyData) : Env → Rs PyData := fun env => match slotM env i with
  | none => .no
  | some _ => (t env).bind fun x e => match slotM e i, x with
    | some ks, .int k => lift (getM ks k) e
    | _, _ => .no
/-- d[k] = v -/
def putIt (i : Nat) (d k : PyData) (e : Env) : Out := match slotM e i with
  | some ks => match k with
    | .int j => if ks.length < 16777216 then .nx (e.set i (some (.m (putM ks j d)))) else .no
    | _ => .no
  | none => .no
def sPutM (i : Nat) (t tk : Env → Rs PyData) : Env → Out := sE t fun d e => match slotM e i with
  | none => .no
  | some _ => sE tk (putIt i d) e
/-- len(d) -/
def eLenM (i : Nat) : Env → Rs PyData := fun env => lift ((slotM env i).map fun ks => .int (ks.length : Nat)) env
end
@[simp] theorem mNewM_eq (env : Env) : mNewM env = .ok (.m []) env := id rfl
@[simp] theorem eInM_eq (n i t) (env : Env) : eInM n i t env = (t env).bind fun x e => optRs (slotM e i) fun ks => optRs (asI x) fun k => .ok (.bool (xor n (getM ks k).isSome)) e := by
  unfold eInM
  congr 1
  funext x e
  cases slotM e i with
  | none => rfl
  | some ks => cases x <;> rfl
@[simp] theorem eGetM_eq (i t) (env : Env) : eGetM i t env = optRs (slotM env i) fun _ => (t env).bind fun x e => optRs (slotM e i) fun ks => optRs (asI x) fun k => lift (getM ks k) e := by
  unfold eGetM
  cases slotM env i with
  | none => rfl
  | some _ =>
    show (t env).bind _ = (t env).bind _
    congr 1
    funext x e
    cases slotM e i with
    | none => rfl
    | some ks => cases x <;> rfl
@[simp] theorem putIt_eq (i d k e) : putIt i d k e = optOut (slotM e i) fun ks => optOut (asI k) fun j => if ks.length < 16777216 then .nx (e.set i (some (.m (putM ks j d)))) else .no := by
  unfold putIt
  cases slotM e i with
  | none => rfl
  | some ks => cases k <;> rfl
@[simp] theorem sPutM_eq (i t tk) (env : Env) : sPutM i t tk env = sE t (fun d e => optOut (slotM e i) fun _ => sE tk (putIt i d) e) env := by
  unfold sPutM
  congr 1
  funext d e
  cases slotM e i <;> rfl
@[simp] theorem eLenM_eq (i) (env : Env) : eLenM i env = lift ((slotM env i).map fun ks => .int (ks.length : Nat)) env := id rfl
end DL
namespace PySem.F
open PySem
end PySem.F
namespace PySem
open Sem (wp)
open PyProof.Rows L2 Builtin Builtin.Itertools
namespace IT
def nextC (n : Nat) (indices : List Nat) : Option (List Nat) :=
  let r := indices.length
  match (List.range r).reverse.find? fun i => indices.getD i 0 != i + n - r with
  | none => none
  | some i => some (indices.take i ++ (List.range (r - i)).map (indices.getD i 0 + 1 + ·))
section
variable {prog : Program} {w : World} {A : Around} {E : Value → Shared → Prop} {s : Shared} {c pl : Addr} {last : Value} {idx : List Nat} {items : Array Value} {r : Int}
theorem nums {o : Obj} {vs : Array Value} {k : Nat} {Q : List Nat → Shared → Prop} (ho : s.heap.get? c = some o) (hd : o.data = .fields vs) (h : Q ((vs.toList.drop k).map fun | .int n _ => n.toNat | _ => 0) s) :
    wpAny (model prog w) A (itNumbersFrom (.ref c) k) Q E s := by
  simp only [itNumbersFrom]
  refine wpAny_bind (wpAny_load ho ?_)
  rw [hd]; exact wpAny_pure h
/-- StopIteration -/
theorem stops {α : Type} {Q : α → Shared → Prop} (hh : A.handled = none)
    (hE : ∀ (h' : Heap) e, (∀ b o, s.heap.get? b = some o → h'.get? b = some o) → (∃ o, h'.get? e = some o ∧ o.cls = .type "StopIteration") → E (.ref e) { s with heap := h' }) :
    wpAny (model prog w) A (itStop : Sem α) Q E s := by
  show wpAny _ _ (newExc (.type "StopIteration") [] >>= _) _ _ _
  refine wpAny_bind ?_
  simp only [newExc, newTuple]
  refine wpAny_bind (wpAny_newObj_type ?_ (by size_fits))
  refine wpAny_bind (m := firstArgMember _ _) (wpAny_of_eq (a := Value.none) (by first | rfl | (simp only [firstArgMember]; rfl)) ?_)
  refine wpAny_newObj_type ?_ (by size_fits)
  simp only [raiseNew]
  refine wpAny_bind (wpAny_handled ?_)
  rw [hh]
  refine wpAny_bind (wpAny_pure (wpAny_throw ?_))
  exact hE _ _ (fun b o e => Heap.get?_push_of_some _ (Heap.get?_push_of_some _ e)) ⟨_, Heap.get?_push_size _ rfl, rfl⟩
end
end IT
end PySem
namespace PySem
open Sem (wp)
open PyProof.Rows L2 Builtin Builtin.Itertools
namespace IT
section
variable {prog : Program} {w : World} {A : Around} {E : Value → Shared → Prop} {s : Shared} {r : Addr} {a b c : Int} {t u v tr : Tok} {n k : Nat}
/-- the first state of permutations -/
def p0 (n k : Nat) : List Nat := List.range n ++ (List.range k).map fun i => n - i
end
end IT
end PySem
namespace PySem
open Sem (wp)
open PyProof.Rows L2 Builtin Builtin.Itertools
namespace IT
/-- the states from x on, the step not more than that often -/
def runS {σ : Type} (f : σ → Option σ) : Nat → σ → Option (List σ)
  | 0, _ => none
  | k + 1, x => match f x with
    | none => some [x]
    | some y => (runS f k y).map (x :: ·)
def ItM (outs : List (List Nat)) : It :=
  ⟨fun i _ => i < outs.length,
    fun i H v H' => ∃ T x zo, v = .ref T ∧ H T = none ∧ H' = upd H T (.frz zo (.tup (x.map fun (i : Nat) => V.int i))) ∧ zo.dict = none ∧ outs[i]? = some x,
    fun i _ => i = outs.length⟩
end IT
end PySem
namespace DL
open PySem PySem.Spec PyProof.Rows L2 IT
def natsD (x : List Nat) : PyData := .tuple (x.map fun (i : Nat) => .int i)
def combL (n k : Nat) : Option (List (List Nat)) := (runS (nextC n) 1000 (List.range k)).bind fun L => if L.all (fun x => x.all (fun i => decide (i < n)) && decide (x.length ≤ 100)) && decide (L.length ≤ 16777216) then some L else none
def itN2 (f : Int → PyData → Option (List PyData)) (ta tb : Env → Rs PyData) : Env → Rs (List PyData) := fun env => (ta env).bind fun x e => match x with
  | .int n => (tb e).bind fun y e2 => lift (f n y) e2
  | _ => .no
def itN1 (f : Int → PyData → Option (List PyData)) (ta : Env → Rs PyData) : Env → Rs (List PyData) := fun env => (ta env).bind fun x e => match x with
  | .int n => lift (f n (.int n)) e
  | _ => .no
end DL
namespace DL
open PySem PySem.Spec PyProof.Rows L2
section
variable {X : Cx} {C : Cc} {K : PySem.W.Frag}
/-- an owned dict is let go: it stands as it is from now on -/
def frzD : M → Option M
  | .m ks => some (.fm ks)
  | _ => none
def mFrzM (t : Env → Rs M) : Env → Rs M := fun env => (t env).bind fun m e => lift (frzD m) e
/-- d.get(k, x) -/
def eGetD (i : Nat) (tk tx : Env → Rs PyData) : Env → Rs PyData := fun env => match slotM env i with
  | none => .no
  | some _ => (tk env).bind fun k e => (tx e).bind fun z e2 => match slotM e2 i, k with
    | some ks, .int j => .ok ((getM ks j).getD z) e2
    | _, _ => .no
/-- d.items() -/
def itItF (i : Nat) : Env → Rs (List PyData) := fun env => lift ((slotF env i).map fun ks => ks.map fun p => .tuple [.int p.1, p.2]) env
end
@[simp] theorem frzD_m (ks) : frzD (.m ks) = some (.fm ks) := id rfl
@[simp] theorem mFrzM_eq (t) (env : Env) : mFrzM t env = (t env).bind fun m e => lift (frzD m) e := id rfl
@[simp] theorem eGetD_eq (i tk tx) (env : Env) : eGetD i tk tx env = optRs (slotM env i) fun _ => (tk env).bind fun k e => (tx e).bind fun z e2 => optRs (slotM e2 i) fun ks => optRs (asI k) fun j => .ok ((getM ks j).getD z) e2 := by
  unfold eGetD
  cases slotM env i with
  | none => rfl
  | some _ =>
    show (tk env).bind _ = (tk env).bind _
    congr 1
    funext k e
    congr 1
    funext z e2
    cases slotM e2 i with
    | none => rfl
    | some ks => cases k <;> rfl
@[simp] theorem itItF_eq (i) (env : Env) : itItF i env = lift ((slotF env i).map fun ks => ks.map fun p => .tuple [.int p.1, p.2]) env := id rfl
@[simp] theorem itN2_eq (f ta tb) (env : Env) : itN2 f ta tb env = (ta env).bind fun x e => optRs (asI x) fun n => (tb e).bind fun y e2 => lift (f n y) e2 := by
  unfold itN2
  congr 1
  funext x e
  cases x <;> rfl
@[simp] theorem itN1_eq (f ta) (env : Env) : itN1 f ta env = (ta env).bind fun x e => optRs (asI x) fun n => lift (f n (.int n)) e := by
  unfold itN1
  congr 1
  funext x e
  cases x <;> rfl
end DL
namespace DL
open PySem PySem.Spec PyProof.Rows L2
section
variable {X : Cx} {C : Cc} {K : PySem.W.Frag}
/-- (.., *x, ..) -/
def aStar (t : Env → Rs PyData) (u : Env → Rs (List PyData)) : Env → Rs (List PyData) := fun env => (t env).bind fun x e => match seqOf x with
  | some xs => (u e).bind fun r e2 => .ok (xs ++ r) e2
  | none => .no
end
@[simp] theorem aStar_eq (t u) (env : Env) : aStar t u env = (t env).bind fun x e => optRs (seqOf x) fun xs => (u e).bind fun r e2 => .ok (xs ++ r) e2 := by
  unfold aStar
  congr 1
  funext x e
  cases seqOf x <;> rfl
end DL
local macro_rules | `(tactic| simp only [dlall, $ts,*] $[$l:location]?) => `(tactic| simp only [DL.Rs.bind_ok, DL.Rs.bind_ex, DL.Rs.bind_no, DL.lift_some, DL.lift_none, DL.thn_nx, DL.thn_rt, DL.thn_bk, DL.thn_ct, DL.thn_ex, DL.thn_no, DL.to_ok, DL.to_ex, DL.to_no, DL.fin_nx, DL.fin_rt, DL.optOut_s, DL.optOut_n, DL.optRs_s, DL.optRs_n, DL.asB_b, DL.chB_b, DL.eVar_eq, DL.slotD_0, DL.slotD_s, DL.slotL_0, DL.slotL_s, DL.slotM_0, DL.slotM_s, DL.slotF_0, DL.slotF_s, DL.slotScr_0, DL.slotScr_s, DL.eC_eq, DL.e2_eq, DL.e1_eq, DL.tb1_eq, DL.tt1_eq, DL.tNotD_eq, DL.tAndD_eq, DL.tOrD_eq, DL.eNot_eq, DL.eAnd_eq, DL.eOr_eq, DL.eIf_eq, DL.eChain_eq, DL.aNil_eq, DL.aCons_eq, DL.aOne_eq, DL.eTup_eq, DL.eLst_eq, DL.mLst_eq, DL.mD_eq, DL.eFrz_eq, DL.frzM_d, DL.frzM_l, DL.eB_eq, DL.eListScr_eq, DL.ixOf_i, DL.eIxO_eq, DL.pNo_eq, DL.pSome_eq, DL.oInt_i, DL.eSlice_eq, DL.eBO_eq, DL.e2R_eq, DL.ttO_eq, DL.eTupO_eq, DL.eListO_eq, DL.eIsi_eq, DL.eListRg_eq, DL.mListRg_eq, DL.eMt_eq, DL.seqOne_l, DL.seqOne_t, DL.mList_eq, DL.itSeq_eq, DL.itB_eq, DL.seqOf_l, DL.seqOf_t, DL.avNil_eq, DL.avD_eq, DL.avS_eq, DL.avMs_nil, DL.avMs_cons, DL.avM_d, DL.avM_sl, DL.jsOf_nil, DL.jsOf_d, DL.jsOf_s, DL.putBack_nil, DL.putBack_d, DL.putBack_s, DL.toRs_rt, DL.callM_eq, DL.eCall_eq, DL.eCallS_eq, DL.dAvs_t, DL.dAvs_l, DL.seqS_t, DL.seqS_l, DL.sThen_eq, DL.sE_eq, DL.sNx_eq, DL.sBk_eq, DL.sCt_eq, DL.sNo_eq, DL.sRet_eq, DL.sRetN_eq, DL.sDrop_eq, DL.sIf_eq, DL.sSet_eq, DL.sAsg_eq, DL.sAug_eq, DL.sSetItem_eq, DL.asI_i, DL.setIt_eq, DL.sFor_eq, DL.runDef_eq, DL.start0_eq, DL.outs_nil, DL.outs_cons, DL.rep_succ, DL.mvM_l, DL.mvM_m, DL.mvM_d, DL.alNil_eq, DL.alD_eq, DL.alL_eq, DL.alMs_nil, DL.alMs_cons, DL.alM_d, DL.alM_l, DL.toSc_rt, DL.eCallL_eq, DL.bEnum_l, DL.bEnum_t, DL.eSM_eq, DL.isSq_l, DL.isSq_t, DL.cntD_l, DL.cntD_t, DL.mVar_eq, DL.mvF_l, DL.mvF_d, DL.eVarF_eq, DL.dAdd_ii, DL.dAddI_ii, DL.dSub_ii, DL.dMul_ii, DL.dDiv_ii, DL.dMod_ii, DL.dLt_ii, DL.dLe_ii, DL.dGt_ii, DL.dGe_ii, DL.dNeg_i, DL.dEq_ii, DL.dNe_ii, DL.dEq_bb, DL.dNe_bb, DL.dIs_none, DL.dIsNot_none, DL.isNon_none, DL.isNon_b, DL.isNon_i, DL.isNon_s, DL.isNon_l, DL.isNon_t, DL.tru_b, DL.tru_i, DL.tru_n, DL.tru_l, DL.tru_t, DL.bLen_l, DL.bLen_t, DL.bAbs_i, DL.bInt_i, DL.bInt_b, DL.bSum_l, DL.bSum_t, DL.bAll_l, DL.bAny_l, DL.bTup_l, DL.bTup_t, DL.bList_l, DL.bList_t, DL.bSorted_l, DL.bSorted_t, DL.bMax_ii, DL.bMin_ii, DL.bRange1_i, DL.bZip_l, DL.bZip_t, DL.bZipM_tl, DL.bZip3_t, DL.dIx_l, DL.dIx_t, DL.dSlice_l, DL.dSlice_t, DL.isI_1, DL.isI_2, DL.isI_3, DL.isI_4, DL.isI_5, DL.isI_6, DL.isI_7, DL.isI_8, DL.isI_9, DL.isI_10, DL.isI_11, DL.isI_12, DL.isI_13, DL.isI_14, DL.isI_15, DL.isI_16, DL.isI_17, DL.isI_18, DL.isI_19, DL.isI_20, DL.isI_21, DL.isI_22, DL.isI_23, DL.isI_24, DL.isI_25, DL.isI_26, DL.scalar_1, DL.scalar_2, DL.scalar_3, DL.scalar_4, DL.scalar_5, DL.chkS_i, DL.chkS_b, DL.gN_eq, DL.gT_eq, DL.gTL_eq, DL.gsN_nil, DL.gsC_cons, DL.wipeE_nil, DL.wipeE_cons, DL.restE_nil, DL.restE_cons, DL.keepD_n, DL.keepD_d, DL.keepD_l, DL.keepD_x, DL.tYesD_eq, DL.eComp_eq, DL.mComp_eq, DL.compR_ok, DL.eLenDc_eq, DL.eKey_eq, DL.kI_i, DL.dRev_t, DL.compGo_nil, DL.forGo_nil, DL.lp_nx, DL.lp_ct, DL.lp_bk, DL.lp_rt, DL.atI_2, DL.atI_3, DL.atI_4, DL.atI_5, DL.atI_6, DL.atI_7, DL.atI_zero, DL.atI_one, DL.dPow_10_18, Option.isSome_some, beq_self_eq_true, List.map_cons, List.map_nil, List.length_cons, List.length_nil, List.cons_append, List.nil_append, List.set_cons_succ, List.set_cons_zero, List.getElem?_cons_succ, List.getElem?_cons_zero, Option.join_some, Option.map_some, Option.bind_some, List.tail_cons, List.head?_cons, if_true, if_false, Bool.false_eq_true, Bool.true_eq_false, and_true, true_and, List.nodup_cons, List.not_mem_nil, not_false_eq_true, List.nodup_nil, Bool.not_true, Bool.not_false, ite_true, ite_false, Nat.reduceAdd, Nat.reduceSub, Nat.zero_add, List.replicate_zero, List.append_nil, List.mem_cons, Nat.reduceEqDiff, or_false, or_self, reduceIte, decide_true, decide_false, Nat.reduceLeDiff, Nat.reduceLT, Nat.le_refl, $ts,*] $[$l]?)
local macro_rules | `(tactic| simp only [dlall] $[$l:location]?) => `(tactic| simp only [DL.Rs.bind_ok, DL.Rs.bind_ex, DL.Rs.bind_no, DL.lift_some, DL.lift_none, DL.thn_nx, DL.thn_rt, DL.thn_bk, DL.thn_ct, DL.thn_ex, DL.thn_no, DL.to_ok, DL.to_ex, DL.to_no, DL.fin_nx, DL.fin_rt, DL.optOut_s, DL.optOut_n, DL.optRs_s, DL.optRs_n, DL.asB_b, DL.chB_b, DL.eVar_eq, DL.slotD_0, DL.slotD_s, DL.slotL_0, DL.slotL_s, DL.slotM_0, DL.slotM_s, DL.slotF_0, DL.slotF_s, DL.slotScr_0, DL.slotScr_s, DL.eC_eq, DL.e2_eq, DL.e1_eq, DL.tb1_eq, DL.tt1_eq, DL.tNotD_eq, DL.tAndD_eq, DL.tOrD_eq, DL.eNot_eq, DL.eAnd_eq, DL.eOr_eq, DL.eIf_eq, DL.eChain_eq, DL.aNil_eq, DL.aCons_eq, DL.aOne_eq, DL.eTup_eq, DL.eLst_eq, DL.mLst_eq, DL.mD_eq, DL.eFrz_eq, DL.frzM_d, DL.frzM_l, DL.eB_eq, DL.eListScr_eq, DL.ixOf_i, DL.eIxO_eq, DL.pNo_eq, DL.pSome_eq, DL.oInt_i, DL.eSlice_eq, DL.eBO_eq, DL.e2R_eq, DL.ttO_eq, DL.eTupO_eq, DL.eListO_eq, DL.eIsi_eq, DL.eListRg_eq, DL.mListRg_eq, DL.eMt_eq, DL.seqOne_l, DL.seqOne_t, DL.mList_eq, DL.itSeq_eq, DL.itB_eq, DL.seqOf_l, DL.seqOf_t, DL.avNil_eq, DL.avD_eq, DL.avS_eq, DL.avMs_nil, DL.avMs_cons, DL.avM_d, DL.avM_sl, DL.jsOf_nil, DL.jsOf_d, DL.jsOf_s, DL.putBack_nil, DL.putBack_d, DL.putBack_s, DL.toRs_rt, DL.callM_eq, DL.eCall_eq, DL.eCallS_eq, DL.dAvs_t, DL.dAvs_l, DL.seqS_t, DL.seqS_l, DL.sThen_eq, DL.sE_eq, DL.sNx_eq, DL.sBk_eq, DL.sCt_eq, DL.sNo_eq, DL.sRet_eq, DL.sRetN_eq, DL.sDrop_eq, DL.sIf_eq, DL.sSet_eq, DL.sAsg_eq, DL.sAug_eq, DL.sSetItem_eq, DL.asI_i, DL.setIt_eq, DL.sFor_eq, DL.runDef_eq, DL.start0_eq, DL.outs_nil, DL.outs_cons, DL.rep_succ, DL.mvM_l, DL.mvM_m, DL.mvM_d, DL.alNil_eq, DL.alD_eq, DL.alL_eq, DL.alMs_nil, DL.alMs_cons, DL.alM_d, DL.alM_l, DL.toSc_rt, DL.eCallL_eq, DL.bEnum_l, DL.bEnum_t, DL.eSM_eq, DL.isSq_l, DL.isSq_t, DL.cntD_l, DL.cntD_t, DL.mVar_eq, DL.mvF_l, DL.mvF_d, DL.eVarF_eq, DL.dAdd_ii, DL.dAddI_ii, DL.dSub_ii, DL.dMul_ii, DL.dDiv_ii, DL.dMod_ii, DL.dLt_ii, DL.dLe_ii, DL.dGt_ii, DL.dGe_ii, DL.dNeg_i, DL.dEq_ii, DL.dNe_ii, DL.dEq_bb, DL.dNe_bb, DL.dIs_none, DL.dIsNot_none, DL.isNon_none, DL.isNon_b, DL.isNon_i, DL.isNon_s, DL.isNon_l, DL.isNon_t, DL.tru_b, DL.tru_i, DL.tru_n, DL.tru_l, DL.tru_t, DL.bLen_l, DL.bLen_t, DL.bAbs_i, DL.bInt_i, DL.bInt_b, DL.bSum_l, DL.bSum_t, DL.bAll_l, DL.bAny_l, DL.bTup_l, DL.bTup_t, DL.bList_l, DL.bList_t, DL.bSorted_l, DL.bSorted_t, DL.bMax_ii, DL.bMin_ii, DL.bRange1_i, DL.bZip_l, DL.bZip_t, DL.bZipM_tl, DL.bZip3_t, DL.dIx_l, DL.dIx_t, DL.dSlice_l, DL.dSlice_t, DL.isI_1, DL.isI_2, DL.isI_3, DL.isI_4, DL.isI_5, DL.isI_6, DL.isI_7, DL.isI_8, DL.isI_9, DL.isI_10, DL.isI_11, DL.isI_12, DL.isI_13, DL.isI_14, DL.isI_15, DL.isI_16, DL.isI_17, DL.isI_18, DL.isI_19, DL.isI_20, DL.isI_21, DL.isI_22, DL.isI_23, DL.isI_24, DL.isI_25, DL.isI_26, DL.scalar_1, DL.scalar_2, DL.scalar_3, DL.scalar_4, DL.scalar_5, DL.chkS_i, DL.chkS_b, DL.gN_eq, DL.gT_eq, DL.gTL_eq, DL.gsN_nil, DL.gsC_cons, DL.wipeE_nil, DL.wipeE_cons, DL.restE_nil, DL.restE_cons, DL.keepD_n, DL.keepD_d, DL.keepD_l, DL.keepD_x, DL.tYesD_eq, DL.eComp_eq, DL.mComp_eq, DL.compR_ok, DL.eLenDc_eq, DL.eKey_eq, DL.kI_i, DL.dRev_t, DL.compGo_nil, DL.forGo_nil, DL.lp_nx, DL.lp_ct, DL.lp_bk, DL.lp_rt, DL.atI_2, DL.atI_3, DL.atI_4, DL.atI_5, DL.atI_6, DL.atI_7, DL.atI_zero, DL.atI_one, DL.dPow_10_18, Option.isSome_some, beq_self_eq_true, List.map_cons, List.map_nil, List.length_cons, List.length_nil, List.cons_append, List.nil_append, List.set_cons_succ, List.set_cons_zero, List.getElem?_cons_succ, List.getElem?_cons_zero, Option.join_some, Option.map_some, Option.bind_some, List.tail_cons, List.head?_cons, if_true, if_false, Bool.false_eq_true, Bool.true_eq_false, and_true, true_and, List.nodup_cons, List.not_mem_nil, not_false_eq_true, List.nodup_nil, Bool.not_true, Bool.not_false, ite_true, ite_false, Nat.reduceAdd, Nat.reduceSub, Nat.zero_add, List.replicate_zero, List.append_nil, List.mem_cons, Nat.reduceEqDiff, or_false, or_self, reduceIte, decide_true, decide_false, Nat.reduceLeDiff, Nat.reduceLT, Nat.le_refl] $[$l]?)
local macro_rules | `(tactic| simp only [dlboth, $ts,*] $[$l:location]?) => `(tactic| simp only [DL.Rs.bind_ok, DL.Rs.bind_ex, DL.Rs.bind_no, DL.lift_some, DL.lift_none, DL.thn_nx, DL.thn_rt, DL.thn_bk, DL.thn_ct, DL.thn_ex, DL.thn_no, DL.to_ok, DL.to_ex, DL.to_no, DL.fin_nx, DL.fin_rt, DL.optOut_s, DL.optOut_n, DL.optRs_s, DL.optRs_n, DL.asB_b, DL.chB_b, DL.eVar_eq, DL.slotD_0, DL.slotD_s, DL.slotL_0, DL.slotL_s, DL.slotM_0, DL.slotM_s, DL.slotF_0, DL.slotF_s, DL.slotScr_0, DL.slotScr_s, DL.eC_eq, DL.e2_eq, DL.e1_eq, DL.tb1_eq, DL.tt1_eq, DL.tNotD_eq, DL.tAndD_eq, DL.tOrD_eq, DL.eNot_eq, DL.eAnd_eq, DL.eOr_eq, DL.eIf_eq, DL.eChain_eq, DL.aNil_eq, DL.aCons_eq, DL.aOne_eq, DL.eTup_eq, DL.eLst_eq, DL.mLst_eq, DL.mD_eq, DL.eFrz_eq, DL.frzM_d, DL.frzM_l, DL.eB_eq, DL.eListScr_eq, DL.ixOf_i, DL.eIxO_eq, DL.pNo_eq, DL.pSome_eq, DL.oInt_i, DL.eSlice_eq, DL.eBO_eq, DL.e2R_eq, DL.ttO_eq, DL.eTupO_eq, DL.eListO_eq, DL.eIsi_eq, DL.eListRg_eq, DL.mListRg_eq, DL.eMt_eq, DL.seqOne_l, DL.seqOne_t, DL.mList_eq, DL.itSeq_eq, DL.itB_eq, DL.seqOf_l, DL.seqOf_t, DL.avNil_eq, DL.avD_eq, DL.avS_eq, DL.avMs_nil, DL.avMs_cons, DL.avM_d, DL.avM_sl, DL.jsOf_nil, DL.jsOf_d, DL.jsOf_s, DL.putBack_nil, DL.putBack_d, DL.putBack_s, DL.toRs_rt, DL.callM_eq, DL.eCall_eq, DL.eCallS_eq, DL.dAvs_t, DL.dAvs_l, DL.seqS_t, DL.seqS_l, DL.sThen_eq, DL.sE_eq, DL.sNx_eq, DL.sBk_eq, DL.sCt_eq, DL.sNo_eq, DL.sRet_eq, DL.sRetN_eq, DL.sDrop_eq, DL.sIf_eq, DL.sSet_eq, DL.sAsg_eq, DL.sAug_eq, DL.sSetItem_eq, DL.asI_i, DL.setIt_eq, DL.sFor_eq, DL.runDef_eq, DL.start0_eq, DL.outs_nil, DL.outs_cons, DL.rep_succ, DL.mvM_l, DL.mvM_m, DL.mvM_d, DL.alNil_eq, DL.alD_eq, DL.alL_eq, DL.alMs_nil, DL.alMs_cons, DL.alM_d, DL.alM_l, DL.toSc_rt, DL.eCallL_eq, DL.bEnum_l, DL.bEnum_t, DL.eSM_eq, DL.isSq_l, DL.isSq_t, DL.cntD_l, DL.cntD_t, DL.mVar_eq, DL.mvF_l, DL.mvF_d, DL.eVarF_eq, DL.dAdd_ii, DL.dAddI_ii, DL.dSub_ii, DL.dMul_ii, DL.dDiv_ii, DL.dMod_ii, DL.dLt_ii, DL.dLe_ii, DL.dGt_ii, DL.dGe_ii, DL.dNeg_i, DL.dEq_ii, DL.dNe_ii, DL.dEq_bb, DL.dNe_bb, DL.dIs_none, DL.dIsNot_none, DL.isNon_none, DL.isNon_b, DL.isNon_i, DL.isNon_s, DL.isNon_l, DL.isNon_t, DL.tru_b, DL.tru_i, DL.tru_n, DL.tru_l, DL.tru_t, DL.bLen_l, DL.bLen_t, DL.bAbs_i, DL.bInt_i, DL.bInt_b, DL.bSum_l, DL.bSum_t, DL.bAll_l, DL.bAny_l, DL.bTup_l, DL.bTup_t, DL.bList_l, DL.bList_t, DL.bSorted_l, DL.bSorted_t, DL.bMax_ii, DL.bMin_ii, DL.bRange1_i, DL.bZip_l, DL.bZip_t, DL.bZipM_tl, DL.bZip3_t, DL.dIx_l, DL.dIx_t, DL.dSlice_l, DL.dSlice_t, DL.isI_1, DL.isI_2, DL.isI_3, DL.isI_4, DL.isI_5, DL.isI_6, DL.isI_7, DL.isI_8, DL.isI_9, DL.isI_10, DL.isI_11, DL.isI_12, DL.isI_13, DL.isI_14, DL.isI_15, DL.isI_16, DL.isI_17, DL.isI_18, DL.isI_19, DL.isI_20, DL.isI_21, DL.isI_22, DL.isI_23, DL.isI_24, DL.isI_25, DL.isI_26, DL.scalar_1, DL.scalar_2, DL.scalar_3, DL.scalar_4, DL.scalar_5, DL.chkS_i, DL.chkS_b, DL.gN_eq, DL.gT_eq, DL.gTL_eq, DL.gsN_nil, DL.gsC_cons, DL.wipeE_nil, DL.wipeE_cons, DL.restE_nil, DL.restE_cons, DL.keepD_n, DL.keepD_d, DL.keepD_l, DL.keepD_x, DL.tYesD_eq, DL.eComp_eq, DL.mComp_eq, DL.compR_ok, DL.eLenDc_eq, DL.eKey_eq, DL.kI_i, DL.dRev_t, DL.compGo_nil, DL.forGo_nil, DL.lp_nx, DL.lp_ct, DL.lp_bk, DL.lp_rt, DL.atI_2, DL.atI_3, DL.atI_4, DL.atI_5, DL.atI_6, DL.atI_7, DL.atI_zero, DL.atI_one, DL.dPow_10_18, Option.isSome_some, beq_self_eq_true, List.map_cons, List.map_nil, List.length_cons, List.length_nil, List.cons_append, List.nil_append, List.set_cons_succ, List.set_cons_zero, List.getElem?_cons_succ, List.getElem?_cons_zero, Option.join_some, Option.map_some, Option.bind_some, List.tail_cons, List.head?_cons, if_true, if_false, Bool.false_eq_true, Bool.true_eq_false, and_true, true_and, List.nodup_cons, List.not_mem_nil, not_false_eq_true, List.nodup_nil, Bool.not_true, Bool.not_false, ite_true, ite_false, Nat.reduceAdd, Nat.reduceSub, Nat.zero_add, List.replicate_zero, List.append_nil, List.mem_cons, Nat.reduceEqDiff, or_false, or_self, reduceIte, decide_true, decide_false, Nat.reduceLeDiff, Nat.reduceLT, Nat.le_refl, DL.mNewM_eq, DL.eInM_eq, DL.eGetM_eq, DL.putIt_eq, DL.sPutM_eq, DL.eLenM_eq, DL.frzD_m, DL.mFrzM_eq, DL.eGetD_eq, DL.itItF_eq, DL.itN2_eq, DL.itN1_eq, DL.aStar_eq, $ts,*] $[$l]?)
local macro_rules | `(tactic| simp only [dlboth] $[$l:location]?) => `(tactic| simp only [DL.Rs.bind_ok, DL.Rs.bind_ex, DL.Rs.bind_no, DL.lift_some, DL.lift_none, DL.thn_nx, DL.thn_rt, DL.thn_bk, DL.thn_ct, DL.thn_ex, DL.thn_no, DL.to_ok, DL.to_ex, DL.to_no, DL.fin_nx, DL.fin_rt, DL.optOut_s, DL.optOut_n, DL.optRs_s, DL.optRs_n, DL.asB_b, DL.chB_b, DL.eVar_eq, DL.slotD_0, DL.slotD_s, DL.slotL_0, DL.slotL_s, DL.slotM_0, DL.slotM_s, DL.slotF_0, DL.slotF_s, DL.slotScr_0, DL.slotScr_s, DL.eC_eq, DL.e2_eq, DL.e1_eq, DL.tb1_eq, DL.tt1_eq, DL.tNotD_eq, DL.tAndD_eq, DL.tOrD_eq, DL.eNot_eq, DL.eAnd_eq, DL.eOr_eq, DL.eIf_eq, DL.eChain_eq, DL.aNil_eq, DL.aCons_eq, DL.aOne_eq, DL.eTup_eq, DL.eLst_eq, DL.mLst_eq, DL.mD_eq, DL.eFrz_eq, DL.frzM_d, DL.frzM_l, DL.eB_eq, DL.eListScr_eq, DL.ixOf_i, DL.eIxO_eq, DL.pNo_eq, DL.pSome_eq, DL.oInt_i, DL.eSlice_eq, DL.eBO_eq, DL.e2R_eq, DL.ttO_eq, DL.eTupO_eq, DL.eListO_eq, DL.eIsi_eq, DL.eListRg_eq, DL.mListRg_eq, DL.eMt_eq, DL.seqOne_l, DL.seqOne_t, DL.mList_eq, DL.itSeq_eq, DL.itB_eq, DL.seqOf_l, DL.seqOf_t, DL.avNil_eq, DL.avD_eq, DL.avS_eq, DL.avMs_nil, DL.avMs_cons, DL.avM_d, DL.avM_sl, DL.jsOf_nil, DL.jsOf_d, DL.jsOf_s, DL.putBack_nil, DL.putBack_d, DL.putBack_s, DL.toRs_rt, DL.callM_eq, DL.eCall_eq, DL.eCallS_eq, DL.dAvs_t, DL.dAvs_l, DL.seqS_t, DL.seqS_l, DL.sThen_eq, DL.sE_eq, DL.sNx_eq, DL.sBk_eq, DL.sCt_eq, DL.sNo_eq, DL.sRet_eq, DL.sRetN_eq, DL.sDrop_eq, DL.sIf_eq, DL.sSet_eq, DL.sAsg_eq, DL.sAug_eq, DL.sSetItem_eq, DL.asI_i, DL.setIt_eq, DL.sFor_eq, DL.runDef_eq, DL.start0_eq, DL.outs_nil, DL.outs_cons, DL.rep_succ, DL.mvM_l, DL.mvM_m, DL.mvM_d, DL.alNil_eq, DL.alD_eq, DL.alL_eq, DL.alMs_nil, DL.alMs_cons, DL.alM_d, DL.alM_l, DL.toSc_rt, DL.eCallL_eq, DL.bEnum_l, DL.bEnum_t, DL.eSM_eq, DL.isSq_l, DL.isSq_t, DL.cntD_l, DL.cntD_t, DL.mVar_eq, DL.mvF_l, DL.mvF_d, DL.eVarF_eq, DL.dAdd_ii, DL.dAddI_ii, DL.dSub_ii, DL.dMul_ii, DL.dDiv_ii, DL.dMod_ii, DL.dLt_ii, DL.dLe_ii, DL.dGt_ii, DL.dGe_ii, DL.dNeg_i, DL.dEq_ii, DL.dNe_ii, DL.dEq_bb, DL.dNe_bb, DL.dIs_none, DL.dIsNot_none, DL.isNon_none, DL.isNon_b, DL.isNon_i, DL.isNon_s, DL.isNon_l, DL.isNon_t, DL.tru_b, DL.tru_i, DL.tru_n, DL.tru_l, DL.tru_t, DL.bLen_l, DL.bLen_t, DL.bAbs_i, DL.bInt_i, DL.bInt_b, DL.bSum_l, DL.bSum_t, DL.bAll_l, DL.bAny_l, DL.bTup_l, DL.bTup_t, DL.bList_l, DL.bList_t, DL.bSorted_l, DL.bSorted_t, DL.bMax_ii, DL.bMin_ii, DL.bRange1_i, DL.bZip_l, DL.bZip_t, DL.bZipM_tl, DL.bZip3_t, DL.dIx_l, DL.dIx_t, DL.dSlice_l, DL.dSlice_t, DL.isI_1, DL.isI_2, DL.isI_3, DL.isI_4, DL.isI_5, DL.isI_6, DL.isI_7, DL.isI_8, DL.isI_9, DL.isI_10, DL.isI_11, DL.isI_12, DL.isI_13, DL.isI_14, DL.isI_15, DL.isI_16, DL.isI_17, DL.isI_18, DL.isI_19, DL.isI_20, DL.isI_21, DL.isI_22, DL.isI_23, DL.isI_24, DL.isI_25, DL.isI_26, DL.scalar_1, DL.scalar_2, DL.scalar_3, DL.scalar_4, DL.scalar_5, DL.chkS_i, DL.chkS_b, DL.gN_eq, DL.gT_eq, DL.gTL_eq, DL.gsN_nil, DL.gsC_cons, DL.wipeE_nil, DL.wipeE_cons, DL.restE_nil, DL.restE_cons, DL.keepD_n, DL.keepD_d, DL.keepD_l, DL.keepD_x, DL.tYesD_eq, DL.eComp_eq, DL.mComp_eq, DL.compR_ok, DL.eLenDc_eq, DL.eKey_eq, DL.kI_i, DL.dRev_t, DL.compGo_nil, DL.forGo_nil, DL.lp_nx, DL.lp_ct, DL.lp_bk, DL.lp_rt, DL.atI_2, DL.atI_3, DL.atI_4, DL.atI_5, DL.atI_6, DL.atI_7, DL.atI_zero, DL.atI_one, DL.dPow_10_18, Option.isSome_some, beq_self_eq_true, List.map_cons, List.map_nil, List.length_cons, List.length_nil, List.cons_append, List.nil_append, List.set_cons_succ, List.set_cons_zero, List.getElem?_cons_succ, List.getElem?_cons_zero, Option.join_some, Option.map_some, Option.bind_some, List.tail_cons, List.head?_cons, if_true, if_false, Bool.false_eq_true, Bool.true_eq_false, and_true, true_and, List.nodup_cons, List.not_mem_nil, not_false_eq_true, List.nodup_nil, Bool.not_true, Bool.not_false, ite_true, ite_false, Nat.reduceAdd, Nat.reduceSub, Nat.zero_add, List.replicate_zero, List.append_nil, List.mem_cons, Nat.reduceEqDiff, or_false, or_self, reduceIte, decide_true, decide_false, Nat.reduceLeDiff, Nat.reduceLT, Nat.le_refl, DL.mNewM_eq, DL.eInM_eq, DL.eGetM_eq, DL.putIt_eq, DL.sPutM_eq, DL.eLenM_eq, DL.frzD_m, DL.mFrzM_eq, DL.eGetD_eq, DL.itItF_eq, DL.itN2_eq, DL.itN1_eq, DL.aStar_eq] $[$l]?)
local macro_rules | `(tactic| simp only [dnall, $ts,*] $[$l:location]?) => `(tactic| simp only [DL.mNewM_eq, DL.eInM_eq, DL.eGetM_eq, DL.putIt_eq, DL.sPutM_eq, DL.eLenM_eq, DL.frzD_m, DL.mFrzM_eq, DL.eGetD_eq, DL.itItF_eq, DL.itN2_eq, DL.itN1_eq, DL.aStar_eq, $ts,*] $[$l]?)
local macro_rules | `(tactic| simp only [dnall] $[$l:location]?) => `(tactic| simp only [DL.mNewM_eq, DL.eInM_eq, DL.eGetM_eq, DL.putIt_eq, DL.sPutM_eq, DL.eLenM_eq, DL.frzD_m, DL.mFrzM_eq, DL.eGetD_eq, DL.itItF_eq, DL.itN2_eq, DL.itN1_eq, DL.aStar_eq] $[$l]?)
namespace DCom
open PySem DL
def b_is_whole : DL.Env → Out :=
  sRet (mD (eAnd (eIsi .int (eVar 0)) (eNot (eIsi .bool (eVar 0)))))
def f_is_whole : Fn := runDef [false] 1 b_is_whole
def b__law_stream : DL.Env → Out :=
  sRet (mLst (aCons (eListScr 0) (aCons (eC (.int 0)) (aCons (eC (.int 0)) (aNil)))))
def f__law_stream : Fn := runDef [true] 1 b__law_stream
def b__law_next : DL.Env → Out :=
  sThen (sIf (tb1 (e2 dEq (eIxO 0 (eC (.int 1))) (eC (.int 0)))) (sThen (sSet 3 (mD (eIxO 0 (eC (.int 2)))))
    (sThen (sSet 4 (mD (e2 dAdd (eC (.int 7)) (eVar 3))))
    (sThen (sIf (tb1 (e2 dLt (eVar 3) (eB bLen (aCons (eIxO 0 (eC (.int 0))) (aNil))))) (sSet 4 (mD (eB bAbs (aCons (e2 dIx (eIxO 0 (eC (.int 0))) (eVar 3)) (aNil))))) (sNx))
    (sThen (sIf (tb1 (e2 dLt (eVar 4) (e2 dPow (eC (.int 10)) (eC (.int 18))))) (sThen (sSet 4 (mD (e2 dMod (eB bInt (aCons (e2 dAdd (e2 dAdd (e2 dMul (eVar 4) (eC (.int 48271))) (e2 dMul (eVar 3) (eC (.int 69621)))) (eC (.int 11))) (aNil))) (eC (.int 2147483647)))))
      (sSet 4 (mD (e2 dAdd (e2 dMul (e2 dMod (eB bInt (aCons (e2 dAdd (e2 dMul (eVar 4) (eC (.int 16807))) (eC (.int 13))) (aNil))) (eC (.int 2147483647))) (eC (.int 65537))) (eVar 4))))) (sNx))
    (sThen (sSetItem 0 (eVar 4) (eC (.int 1)))
    (sSetItem 0 (e2 dAdd (eVar 3) (eC (.int 1))) (eC (.int 2)))))))) (sNx))
  (sThen (sSet 2 (mD (e2 dMod (eB bInt (aCons (eIxO 0 (eC (.int 1))) (aNil))) (eVar 1))))
  (sThen (sSetItem 0 (e2 dDiv (eIxO 0 (eC (.int 1))) (eVar 1)) (eC (.int 1)))
  (sRet (mD (eVar 2)))))
def f__law_next : Fn := runDef [true, false] 5 b__law_next
def b_is_between : DL.Env → Out :=
  sRet (mD (eAnd (eFrz (eCall 1 f_is_whole (avD (eVar 0) (avNil)))) (eChain dLe dLe (eVar 1) (eVar 0) (eVar 2))))
def f_is_between : Fn := runDef [false, false, false] 3 b_is_between
def b_is_allocation : DL.Env → Out :=
  sThen (sIf (tOrD (tNotD (tt1 (eIsi .tup (eVar 0)))) (tb1 (e2 dNe (eB bLen (aCons (eVar 0) (aNil))) (eVar 1)))) (sRet (mD (eC (.bool false)))) (sNx))
  (sRet (mD (eAnd (eB bAll (aCons (eComp (itSeq (eVar 0)) (gN 3) (tYesD) (eAnd (eFrz (eCall 1 f_is_whole (avD (eVar 3) (avNil)))) (e2 dGe (eVar 3) (eC (.int 0)))) [3]) (aNil))) (e2 dEq (eB bSum (aCons (eVar 0) (aNil))) (eVar 2)))))
def f_is_allocation : Fn := runDef [false, false, false] 4 b_is_allocation
def b__law_allocation : DL.Env → Out :=
  sThen (sSet 3 (mComp (itB bRange1 (aCons (eVar 1) (aNil))) (gN 5) (tYesD) (eC (.int 0)) [5]))
  (sThen (sFor (itB bRange1 (aCons (eVar 2) (aNil))) (gN 4) (sThen (sSet 5 (mD (eFrz (eCall 2 f__law_next (avS 0 (avD (eVar 1) (avNil)))))))
    (sSetItem 3 (e2 dAdd (eIxO 3 (eVar 5)) (eC (.int 1))) (eVar 5))))
  (sRet (mD (eTupO 3))))
def f__law_allocation : Fn := runDef [true, false, false] 6 b__law_allocation
def b_is_assignment : DL.Env → Out :=
  sThen (sIf (tOrD (tNotD (tt1 (eIsi .tup (eVar 0)))) (tb1 (e2 dNe (eB bLen (aCons (eVar 0) (aNil))) (eVar 2)))) (sRet (mD (eC (.bool false)))) (sNx))
  (sRet (mD (eB bAll (aCons (eComp (itSeq (eVar 0)) (gN 3) (tYesD) (eFrz (eCall 3 f_is_between (avD (eVar 3) (avD (eC (.int 0)) (avD (e2 dSub (eVar 1) (eC (.int 1))) (avNil)))))) [3]) (aNil)))))
def f_is_assignment : Fn := runDef [false, false, false] 4 b_is_assignment
def b__law_is_integer : DL.Env → Out :=
  sRet (mD (eAnd (eIsi .int (eVar 0)) (eNot (eIsi .bool (eVar 0)))))
def f__law_is_integer : Fn := runDef [false] 1 b__law_is_integer
def b__law_equal (F : Fn) : DL.Env → Out :=
  sThen (sIf (tb1 (e2 dIs (eVar 1) (eC (.none)))) (sRet (mD (e2 dIs (eVar 0) (eC (.none))))) (sNx))
  (sThen (sIf (tt1 (eIsi .bool (eVar 1))) (sRet (mD (eAnd (eIsi .bool (eVar 0)) (e2 dEq (eVar 0) (eVar 1))))) (sNx))
  (sThen (sIf (tt1 (eIsi .int (eVar 1))) (sRet (mD (eAnd (eFrz (eCall 1 f__law_is_integer (avD (eVar 0) (avNil)))) (e2 dEq (eVar 0) (eVar 1))))) (sNx))
  (sThen (sIf (tt1 (eIsi .str (eVar 1))) (sRet (mD (eAnd (eIsi .str (eVar 0)) (e2 dEq (eVar 0) (eVar 1))))) (sNx))
  (sThen (sIf (tAndD (tt1 (eIsi .tup (eVar 1))) (tNotD (tt1 (eIsi .tup (eVar 0))))) (sRet (mD (eC (.bool false)))) (sNx))
  (sThen (sIf (tAndD (tt1 (eIsi .lst (eVar 1))) (tNotD (tt1 (eIsi .lst (eVar 0))))) (sRet (mD (eC (.bool false)))) (sNx))
  (sThen (sIf (tb1 (e2 dNe (eB bLen (aCons (eVar 0) (aNil))) (eB bLen (aCons (eVar 1) (aNil))))) (sRet (mD (eC (.bool false)))) (sNx))
  (sRet (mD (eB bAll (aCons (eComp (itB bRange1 (aCons (eB bLen (aCons (eVar 1) (aNil))) (aNil))) (gN 2) (tYesD) (eFrz (eCall 2 F (avD (e2 dIx (eVar 0) (eVar 2)) (avD (e2 dIx (eVar 1) (eVar 2)) (avNil))))) [2]) (aNil)))))))))))
def r__law_equal : Nat → Fn
  | 0 => fun _ => .no
  | n + 1 => runDef [false, false] 3 (b__law_equal (r__law_equal n))
abbrev f__law_equal : Fn := r__law_equal 8
def b_check_allocation : DL.Env → Out :=
  sThen (sIf (tOrD (tNotD (tt1 (eIsi .tup (eVar 0)))) (tNotD (tb1 (eChain dLe dLe (eC (.int 1)) (eB bLen (aCons (eVar 0) (aNil))) (eC (.int 5)))))) (sNo) (sNx))
  (sIf (tOrD (tNotD (tt1 (eB bAll (aCons (eComp (itSeq (eVar 0)) (gN 2) (tYesD) (eFrz (eCall 3 f_is_between (avD (eVar 2) (avD (eC (.int 0)) (avD (eC (.int 20)) (avNil)))))) [2]) (aNil))))) (tb1 (e2 dGt (eB bSum (aCons (eVar 0) (aNil))) (eC (.int 20))))) (sNo) (sNx))
def f_check_allocation : Fn := runDef [false, false] 3 b_check_allocation
def b_check_assignment : DL.Env → Out :=
  sThen (sIf (tOrD (tNotD (tt1 (eIsi .tup (eVar 0)))) (tb1 (e2 dGt (eB bLen (aCons (eVar 0) (aNil))) (eC (.int 20))))) (sNo) (sNx))
  (sIf (tNotD (tt1 (eFrz (eCall 3 f_is_assignment (avD (eVar 0) (avD (eVar 1) (avD (eB bLen (aCons (eVar 0) (aNil))) (avNil)))))))) (sNo) (sNx))
def f_check_assignment : Fn := runDef [false, false, false] 3 b_check_assignment
def b_check_variants : DL.Env → Out :=
  sThen (sIf (tNotD (tt1 (eFrz (eCall 3 f_is_between (avD (eVar 0) (avD (eC (.int 1)) (avD (eC (.int 5)) (avNil)))))))) (sNo) (sNx))
  (sIf (tNotD (tt1 (eB bAll (aCons (eComp (itSeq (eVar 1)) (gN 2) (tYesD) (eFrz (eCall 3 f_is_assignment (avD (eVar 2) (avD (eVar 0) (avD (eB bLen (aCons (eVar 2) (aNil))) (avNil)))))) [2]) (aNil))))) (sNo) (sNx))
def f_check_variants : Fn := runDef [false, false] 3 b_check_variants
end DCom
namespace DCon
open PySem DL DCom
def b__law_assignments : DL.Env → Out :=
  sThen (sSet 1 (mD (eLst (aCons (eTup (aNil)) (aNil)))))
  (sThen (sFor (itB bRange1 (aCons (eB bSum (aCons (eVar 0) (aNil))) (aNil))) (gN 2) (sThen (sSet 3 (mLst (aNil)))
    (sThen (sFor (itSeq (eVar 1)) (gN 4) (sFor (itB bRange1 (aCons (eB bLen (aCons (eVar 0) (aNil))) (aNil))) (gN 5) (sIf (tb1 (e2 dLt (eSM cntD (eVar 4) (aCons (eVar 5) (aNil))) (e2 dIx (eVar 0) (eVar 5)))) (sDrop (mD (eMt 3 mApp (aCons (e2 dAdd (eVar 4) (eTup (aCons (eVar 5) (aNil)))) (aNil))))) (sNx))))
    (sSet 1 (mD (eVarF 3))))))
  (sRet (mD (eVar 1))))
def f__law_assignments : Fn := runDef [false] 6 b__law_assignments
def b__law_near : DL.Env → Out :=
  sThen (sSet 2 (mList (aCons (eVar 1) (aNil))))
  (sThen (sFor (itB bRange1 (aCons (eFrz (eCall 2 f__law_next (avS 0 (avD (eC (.int 3)) (avNil))))) (aNil))) (gN 3) (sThen (sSet 4 (mD (eFrz (eCall 2 f__law_next (avS 0 (avD (eBO 2 bLen) (avNil)))))))
    (sThen (sSet 5 (mD (eFrz (eCall 2 f__law_next (avS 0 (avD (eBO 2 bLen) (avNil)))))))
    (sIf (tb1 (e2 dGt (eIxO 2 (eVar 4)) (eC (.int 0)))) (sThen (sSetItem 2 (e2 dSub (eIxO 2 (eVar 4)) (eC (.int 1))) (eVar 4))
      (sSetItem 2 (e2 dAdd (eIxO 2 (eVar 5)) (eC (.int 1))) (eVar 5))) (sNx)))))
  (sRet (mD (eTupO 2))))
def f__law_near : Fn := runDef [true, false] 6 b__law_near
def b__law_series : DL.Env → Out :=
  sThen (sSet 4 (mLst (aCons (eFrz (eCall 3 f__law_allocation (avS 0 (avD (eVar 1) (avD (eVar 2) (avNil)))))) (aNil))))
  (sThen (sFor (itB bRange1 (aCons (e2 dSub (eVar 3) (eC (.int 1))) (aNil))) (gN 5) (sIf (tb1 (e2 dEq (eFrz (eCall 2 f__law_next (avS 0 (avD (eC (.int 2)) (avNil))))) (eC (.int 1)))) (sDrop (mD (eMt 4 mApp (aCons (eFrz (eCall 2 f__law_near (avS 0 (avD (eIxO 4 (eFrz (eCall 2 f__law_next (avS 0 (avD (eBO 4 bLen) (avNil)))))) (avNil))))) (aNil))))) (sDrop (mD (eMt 4 mApp (aCons (eFrz (eCall 3 f__law_allocation (avS 0 (avD (eVar 1) (avD (eVar 2) (avNil)))))) (aNil)))))))
  (sRet (mD (eTupO 4))))
def f__law_series : Fn := runDef [true, false, false, false] 6 b__law_series
end DCon
namespace DCoo
open PySem DL DCom
def b_is_integer : DL.Env → Out :=
  sRet (mD (eAnd (eIsi .int (eVar 0)) (eNot (eIsi .bool (eVar 0)))))
def f_is_integer : Fn := runDef [false] 1 b_is_integer
def b__law_transfer : DL.Env → Out :=
  sRet (mD (eB bSum (aCons (eComp (itB bRange1 (aCons (eB bLen (aCons (eVar 0) (aNil))) (aNil))) (gN 2) (tYesD) (eB bMax (aCons (eC (.int 0)) (aCons (e2 dSub (e2 dIx (eVar 0) (eVar 2)) (e2 dIx (eVar 1) (eVar 2))) (aNil)))) [2]) (aNil))))
def f__law_transfer : Fn := runDef [false, false] 3 b__law_transfer
def b__law_churn : DL.Env → Out :=
  sRet (mD (eB bLen (aCons (eComp (itB bRange1 (aCons (eB bLen (aCons (eVar 0) (aNil))) (aNil))) (gN 2) (tb1 (e2 dNe (e2 dIx (eVar 0) (eVar 2)) (e2 dIx (eVar 1) (eVar 2)))) (eVar 2) [2]) (aNil))))
def f__law_churn : Fn := runDef [false, false] 3 b__law_churn
def b_is_some_allocation : DL.Env → Out :=
  sThen (sIf (tOrD (tNotD (tt1 (eIsi .tup (eVar 0)))) (tNotD (tb1 (eChain dLe dLe (eC (.int 1)) (eB bLen (aCons (eVar 0) (aNil))) (eC (.int 5)))))) (sRet (mD (eC (.bool false)))) (sNx))
  (sThen (sIf (tOrD (tNotD (tt1 (eB bAll (aCons (eComp (itSeq (eVar 0)) (gN 1) (tYesD) (eAnd (eFrz (eCall 1 f_is_integer (avD (eVar 1) (avNil)))) (e2 dGe (eVar 1) (eC (.int 0)))) [1]) (aNil))))) (tb1 (e2 dGt (eB bSum (aCons (eVar 0) (aNil))) (eC (.int 20))))) (sRet (mD (eC (.bool false)))) (sNx))
  (sRet (mD (eFrz (eCall 3 f_is_allocation (avD (eVar 0) (avD (eB bLen (aCons (eVar 0) (aNil))) (avD (eB bSum (aCons (eVar 0) (aNil))) (avNil)))))))))
def f_is_some_allocation : Fn := runDef [false] 2 b_is_some_allocation
def b_check_allocation : DL.Env → Out :=
  sIf (tNotD (tt1 (eFrz (eCall 1 f_is_some_allocation (avD (eVar 0) (avNil)))))) (sNo) (sNx)
def f_check_allocation : Fn := runDef [false] 1 b_check_allocation
def b_check_assignment : DL.Env → Out :=
  sIf (tNotD (tt1 (eFrz (eCall 3 f_is_assignment (avD (eVar 1) (avD (eB bLen (aCons (eVar 0) (aNil))) (avD (eB bSum (aCons (eVar 0) (aNil))) (avNil)))))))) (sNo) (sNx)
def f_check_assignment : Fn := runDef [false, false, false] 3 b_check_assignment
def b_check_variants : DL.Env → Out :=
  sIf (tOrD (tNotD (tt1 (eFrz (eCall 1 f_is_integer (avD (eVar 0) (avNil)))))) (tNotD (tb1 (eChain dLe dLe (eC (.int 1)) (eVar 0) (eC (.int 5)))))) (sNo) (sNx)
def f_check_variants : Fn := runDef [false] 1 b_check_variants
end DCoo
namespace DCop
open PySem DL DCom
def b__law_count : DL.Env → Out :=
  sRet (mD (eB bTup (aCons (eComp (itB bRange1 (aCons (eVar 1) (aNil))) (gN 2) (tYesD) (eB bSum (aCons (eComp (itSeq (eVar 0)) (gN 3) (tYesD) (eB bInt (aCons (e2 dEq (eVar 3) (eVar 2)) (aNil))) [3]) (aNil))) [2]) (aNil))))
def f__law_count : Fn := runDef [false, false] 4 b__law_count
def b__law_drawn : DL.Env → Out :=
  sRet (mD (eB bTup (aCons (eComp (itB bRange1 (aCons (eVar 2) (aNil))) (gN 3) (tYesD) (eFrz (eCall 2 f__law_next (avS 0 (avD (eVar 1) (avNil))))) [3]) (aNil))))
def f__law_drawn : Fn := runDef [true, false, false] 4 b__law_drawn
def b__law_allocation : DL.Env → Out :=
  sRet (mD (eFrz (eCall 2 f__law_count (avD (eFrz (eCall 3 f__law_drawn (avS 0 (avD (eVar 1) (avD (eVar 2) (avNil)))))) (avD (eVar 1) (avNil))))))
end DCop
namespace DCor
open PySem DL DCom
def b__law_assignments : DL.Env → Out :=
  sThen (sSet 2 (mD (eLst (aCons (eTup (aNil)) (aNil)))))
  (sThen (sFor (itB bRange1 (aCons (eVar 1) (aNil))) (gN 3) (sThen (sSet 4 (mD (eLst (aNil))))
    (sThen (sFor (itSeq (eVar 2)) (gN 5) (sSet 4 (mD (e2 dAdd (eVar 4) (eComp (itB bRange1 (aCons (eVar 0) (aNil))) (gN 6) (tYesD) (e2 dAdd (eVar 5) (eTup (aCons (eVar 6) (aNil)))) [6])))))
    (sSet 2 (mD (eVar 4))))))
  (sRet (mD (eVar 2))))
def b__law_churn : DL.Env → Out :=
  sRet (mD (eB bSum (aCons (eComp (itB bRange1 (aCons (eB bLen (aCons (eVar 0) (aNil))) (aNil))) (gN 2) (tYesD) (eB bInt (aCons (e2 dNe (e2 dIx (eVar 0) (eVar 2)) (e2 dIx (eVar 1) (eVar 2))) (aNil))) [2]) (aNil))))
end DCor
namespace DCos
open PySem DL DCom
def b_is_series : DL.Env → Out :=
  sThen (sIf (tOrD (tNotD (tt1 (eIsi .tup (eVar 0)))) (tOrD (tNotD (tb1 (eChain dLe dLe (eC (.int 1)) (eB bLen (aCons (eVar 0) (aNil))) (eVar 1)))) (tNotD (tt1 (eIsi .tup (e2 dIx (eVar 0) (eC (.int 0)))))))) (sRet (mD (eC (.bool false)))) (sNx))
  (sThen (sIf (tOrD (tNotD (tb1 (eChain dLe dLe (eC (.int 1)) (eB bLen (aCons (e2 dIx (eVar 0) (eC (.int 0))) (aNil))) (eC (.int 5))))) (tNotD (tt1 (eB bAll (aCons (eComp (itSeq (e2 dIx (eVar 0) (eC (.int 0)))) (gN 3) (tYesD) (eFrz (eCall 3 f_is_between (avD (eVar 3) (avD (eC (.int 0)) (avD (eC (.int 20)) (avNil)))))) [3]) (aNil)))))) (sRet (mD (eC (.bool false)))) (sNx))
  (sThen (sSet 2 (mD (eB bSum (aCons (e2 dIx (eVar 0) (eC (.int 0))) (aNil)))))
  (sRet (mD (eAnd (e2 dLe (eVar 2) (eC (.int 20))) (eB bAll (aCons (eComp (itSeq (eVar 0)) (gN 3) (tYesD) (eFrz (eCall 3 f_is_allocation (avD (eVar 3) (avD (eB bLen (aCons (e2 dIx (eVar 0) (eC (.int 0))) (aNil))) (avD (eVar 2) (avNil)))))) [3]) (aNil))))))))
def f_is_series : Fn := runDef [false, false] 4 b_is_series
def b_check_series : DL.Env → Out :=
  sIf (tNotD (tt1 (eFrz (eCall 2 f_is_series (avD (eVar 0) (avD (eVar 1) (avNil))))))) (sNo) (sNx)
def f_check_series : Fn := runDef [false, false] 2 b_check_series
def b__law_sorted : DL.Env → Out :=
  sThen (sSet 1 (mD (eLst (aNil))))
  (sThen (sFor (itB bRange1 (aCons (eB bLen (aCons (eVar 0) (aNil))) (aNil))) (gN 2) (sSet 1 (mD (e2 dAdd (eVar 1) (eComp (itB bRange1 (aCons (e2 dIx (eVar 0) (eVar 2)) (aNil))) (gN 3) (tYesD) (eVar 2) [3])))))
  (sRet (mD (eB bTup (aCons (eVar 1) (aNil))))))
def f__law_sorted : Fn := runDef [false] 4 b__law_sorted
def b__law_transfer : DL.Env → Out :=
  sRet (mD (eB bSum (aCons (eComp (itB bZip (aCons (eVar 0) (aCons (eVar 1) (aNil)))) (gT 2 (gsC (gN 2) (gsC (gN 3) (gsN)))) (tYesD) (eB bMax (aCons (eC (.int 0)) (aCons (e2 dSub (eVar 2) (eVar 3)) (aNil)))) [2, 3]) (aNil))))
def f__law_transfer : Fn := runDef [false, false] 4 b__law_transfer
def b__law_drawn : DL.Env → Out :=
  sThen (sSet 2 (mList (aCons (eFrz (eCall 1 f__law_sorted (avD (eVar 1) (avNil)))) (aNil))))
  (sThen (sFor (itB bRange1 (aCons (eBO 2 bLen) (aNil))) (gN 3) (sThen (sSet 4 (mD (e2 dAdd (eVar 3) (eFrz (eCall 2 f__law_next (avS 0 (avD (e2 dSub (eBO 2 bLen) (eVar 3)) (avNil))))))))
    (sSwap 2 (eTup (aCons (eIxO 2 (eVar 4)) (aCons (eIxO 2 (eVar 3)) (aNil)))) (eVar 3) (eVar 4))))
  (sRet (mD (eTupO 2))))
def f__law_drawn : Fn := runDef [true, false] 5 b__law_drawn
end DCos
namespace DCot
open PySem DL DCoo
open DCom hiding b_check_allocation f_check_allocation b_check_assignment f_check_assignment b_check_variants f_check_variants
end DCot
namespace DL
open PySem PySem.Spec PyProof.Rows L2
section
variable {X : Cx} {C : Cc} {K : PySem.W.Frag}
theorem inj_inl : ∀ {x y : List Int}, x.map (Sum.inl : Int → Key) = y.map Sum.inl → x = y
  | [], [], _ => rfl
  | [], _ :: _, h => by cases h
  | _ :: _, [], h => by cases h
  | p :: r, q :: t, h => by
    injection h with h1 h2
    cases h1
    rw [inj_inl h2]
variable {a b : Expr} {i : Nat} {t : Env → Rs PyData} {pos : Pos}
end
end DL
set_option pp.maxSteps 3000
namespace ZM
open PySem PySem.Spec PyProof.Rows L2 ZN
abbrev TupA (h : Heap) (T : Addr) (vs : Array Value) : Prop := h.get? T = some { cls := .type "tuple", data := .seq vs }
/-- an iterator, its tuple and the items -/
structure Src where
  it : Addr
  t : Addr
  xs : Array Value
  /-- a list, else a tuple -/
  l : Bool
/-- an iterator of a list or of a tuple -/
def IsIter (l : Bool) (h : Heap) (it t : Addr) (k : Nat) : Prop := if l = true then h.IsListIter it t k else h.IsTupleIter it t k
def IsSeqO (l : Bool) (h : Heap) (t : Addr) (xs : Array Value) : Prop := if l = true then h.IsList t xs else h.IsTuple t xs
theorem IsIter.at {l : Bool} {h h' : Heap} {it t : Addr} {k : Nat} (x : IsIter l h it t k) (q : ∀ o, h.get? it = some o → h'.get? it = some o) : IsIter l h' it t k := by
  cases l with
  | true => exact Heap.IsListIter.at x q
  | false => exact Heap.IsTupleIter.at x q
theorem IsSeqO.at {l : Bool} {h h' : Heap} {t : Addr} {xs : Array Value} (x : IsSeqO l h t xs) (q : ∀ o, h.get? t = some o → h'.get? t = some o) : IsSeqO l h' t xs := by
  cases l with
  | true => exact Heap.IsList.at x q
  | false => exact Heap.IsTuple.at x q
theorem IsIter.obj {l : Bool} {h : Heap} {it t : Addr} {k : Nat} (x : IsIter l h it t k) : ∃ o, h.get? it = some o ∧ ∀ v, o.data ≠ .cell v := by
  cases l with
  | true => obtain ⟨o, e, _, d⟩ := (show h.IsListIter it t k from x); exact ⟨o, e, fun v e' => by rw [d] at e'; cases e'⟩
  | false => obtain ⟨o, e, _, d⟩ := (show h.IsTupleIter it t k from x); exact ⟨o, e, fun v e' => by rw [d] at e'; cases e'⟩
def AtS (k : Nat) (p : Src) (h : Heap) : Prop := IsIter p.l h p.it p.t k ∧ IsSeqO p.l h p.t p.xs
theorem AtS.keep {k : Nat} {p : Src} {h h' : Heap} (a : AtS k p h) (q : ∀ o, h.get? p.it = some o → h'.get? p.it = some o) (r : ∀ o, h.get? p.t = some o → h'.get? p.t = some o) : AtS k p h' := ⟨a.1.at q, a.2.at r⟩
theorem nextS_item {prog : Program} {w : World} {A : Around} {E : Value → Shared → Prop} {s : Shared} {k : Nat} {p : Src} {x : Value} {Q : Value → Shared → Prop} (a : AtS k p s.heap) (hx : p.xs[k]? = some x)
    (hQ : ∀ h', IsIter p.l h' p.it p.t (k + 1) → Heap.SameBut p.it s.heap h' → Q x { s with heap := h' }) : wpAny (model prog w) A (Builtin.SmallTypes.nextOf (.ref p.it)) Q E s := by
  obtain ⟨it, t, xs, l⟩ := p
  cases l with
  | true => exact wpAny_nextOf_list_item (show s.heap.IsListIter it t k from a.1) (show s.heap.IsList t xs from a.2) hx hQ
  | false => exact wpAny_nextOf_tuple_item (show s.heap.IsTupleIter it t k from a.1) (show s.heap.IsTuple t xs from a.2) hx hQ
theorem nextS_end {prog : Program} {w : World} {A : Around} {E : Value → Shared → Prop} {s : Shared} {k : Nat} {p : Src} {Q : Value → Shared → Prop} (hh : A.handled = none) (a : AtS k p s.heap) (hx : p.xs[k]? = none)
    (hE : ∀ h' e, Heap.ExtBut p.it s.heap h' → (∃ o, h'.get? e = some o ∧ o.cls = .type "StopIteration") → E (.ref e) { s with heap := h' }) : wpAny (model prog w) A (Builtin.SmallTypes.nextOf (.ref p.it)) Q E s := by
  obtain ⟨it, t, xs, l⟩ := p
  cases l with
  | true => exact wpAny_nextOf_list_end hh (show s.heap.IsListIter it t k from a.1) (show s.heap.IsList t xs from a.2) hx hE
  | false => exact wpAny_nextOf_tuple_end hh (show s.heap.IsTupleIter it t k from a.1) (show s.heap.IsTuple t xs from a.2) hx hE
structure Sep (zz ti tt : Addr) (ps : List Src) : Prop where
  TIz : ti ≠ zz
  TOz : tt ≠ zz
  TITO : ti ≠ tt
  nd : (ps.map Src.it).Nodup
  iz : ∀ p ∈ ps, p.it ≠ zz ∧ p.it ≠ ti ∧ p.it ≠ tt
  tz : ∀ p ∈ ps, p.t ≠ zz ∧ p.t ≠ tt ∧ ∀ q ∈ ps, p.t ≠ q.it
theorem updateSeq_TupA {prog : Program} {w : World} {A : Around} {E : Value → Shared → Prop} {s : Shared} {T : Addr} {vs : Array Value} {x : Value} {k : Nat} {Q : Unit → Shared → Prop} (hT : TupA s.heap T vs) (hz : vs.size ≤ sizeLine)
    (h : ∀ h', TupA h' T (vs.setIfInBounds k x) → Heap.SameBut T s.heap h' → Q () { s with heap := h' }) :
    wpAny (model prog w) A (updateSeq T (·.setIfInBounds k x)) Q E s := by
  refine wpAny_updateSeq hT rfl (h _ ?_ (Heap.SameBut.update ..)) (hz := hz) (_hz' := by rw [Array.size_setIfInBounds]; omega)
  show (s.heap.update T (Obj.mapSeq fun v => v.setIfInBounds k x)).get? T = _
  rw [Heap.get?_update_self _ hT rfl]
  simp [Obj.mapSeq]
/-- after j of the sources -/
structure St1 (pa : Heap) (zz tt : Addr) (ps : List Src) (k j : Nat) (g : Heap) : Prop where
  at' : ∀ i p, ps[i]? = some p → AtS (if i < j then k + 1 else k) p g
  kp : ∀ c o, c ≠ zz → c ≠ tt → (∀ p ∈ ps, c ≠ p.it) → pa.get? c = some o → g.get? c = some o
  sz : g.objs.size = pa.objs.size
def refs (ps : List Src) : List Value := ps.map fun p => .ref p.it
section
variable {pr : Program} {ww : World} {AA : Around} {EE : Value → Shared → Prop} {sh : Shared} {zz ti tt : Addr} {ps : List Src} {k : Nat} {mk : Value} {fl : Bool}
theorem St1.draw {pa g g' : Heap} {j : Nat} {p : Src} (S : Sep zz ti tt ps) (h : St1 pa zz tt ps k j g) (hp : ps[j]? = some p) (hi : IsIter p.l g' p.it p.t (k + 1)) (hs : Heap.SameBut p.it g g') : St1 pa zz tt ps k (j + 1) g' := by
  have hm := List.mem_of_getElem? hp
  refine ⟨fun i q hq => ?_, fun c o cz cT ci e => hs.extBut _ _ (ci p hm) (h.kp c o cz cT ci e), hs.1.trans h.sz⟩
  have hqm := List.mem_of_getElem? hq
  have a := h.at' i q hq
  have ht : q.t ≠ p.it := (S.tz q hqm).2.2 p hm
  by_cases e : i = j
  · subst e
    rw [hp] at hq
    cases hq
    rw [if_neg (Nat.lt_irrefl _)] at a
    rw [if_pos (Nat.lt_succ_self _)]
    exact ⟨hi, a.2.at fun o z => hs.extBut _ _ ht z⟩
  · have ne : q.it ≠ p.it := fun z => by
      have l1 := (List.getElem?_eq_some_iff.mp hq).1
      have l2 := (List.getElem?_eq_some_iff.mp hp).1
      refine e ((List.getElem_inj (xs := ps.map Src.it) (h₀ := by simpa using l1) (h₁ := by simpa using l2) S.nd).1 ?_)
      rw [List.getElem_map, List.getElem_map, (List.getElem?_eq_some_iff.mp hq).2, (List.getElem?_eq_some_iff.mp hp).2, z]
    have c : (if i < j + 1 then k + 1 else k) = (if i < j then k + 1 else k) := by split <;> split <;> omega
    rw [c]
    exact a.keep (fun o z => hs.extBut _ _ ne z) fun o z => hs.extBut _ _ ht z
theorem St1.wr {pa g g' : Heap} {j : Nat} (S : Sep zz ti tt ps) (h : St1 pa zz tt ps k j g) (hs : Heap.SameBut tt g g') : St1 pa zz tt ps k j g' :=
  ⟨fun i q hq => (h.at' i q hq).keep (fun o z => hs.extBut _ _ (S.iz q (List.mem_of_getElem? hq)).2.2 z) fun o z => hs.extBut _ _ (S.tz q (List.mem_of_getElem? hq)).2.1 z, fun c o cz cT ci e => hs.extBut _ _ cT (h.kp c o cz cT ci e), hs.1.trans h.sz⟩
theorem St1.start {pa g : Heap} (S : Sep zz ti tt ps) (h : ∀ p ∈ ps, AtS k p pa) (hs : Heap.SameBut zz pa g) : St1 pa zz tt ps k 0 g :=
  ⟨fun i q hq => by
    rw [if_neg (Nat.not_lt_zero _)]
    have hm := List.mem_of_getElem? hq
    exact (h q hm).keep (fun o z => hs.extBut _ _ (S.iz q hm).1 z) fun o z => hs.extBut _ _ (S.tz q hm).1 z, fun c o cz _ _ e => hs.extBut _ _ cz e, hs.1⟩
theorem next_item {Q : Value → Shared → Prop} {b : Array Value} {vals : List Value} (S : Sep zz ti tt ps) (hne : ps ≠ []) (hl : vals.length = ps.length) (hv : ∀ (i : Nat) (p : Src), ps[i]? = some p → ∃ v, p.xs[k]? = some v ∧ vals[i]? = some v) (h6 : ps.length ≤ 1000)
    (hz : ZA sh.heap zz ti tt mk fl) (hm : Mk mk) (hi : TupA sh.heap ti (refs ps).toArray) (ho : TupA sh.heap tt b) (hb : b.size = ps.length) (ha : ∀ p ∈ ps, AtS k p sh.heap)
    (hQ : ∀ h' mk' fl', ZA h' zz ti tt mk' fl' → Mk mk' → (∃ c, TupA h' tt c ∧ c.size = ps.length) → (∀ p ∈ ps, AtS (k + 1) p h') → TupA h' sh.heap.objs.size vals.toArray → h'.objs.size = sh.heap.objs.size + 1 →
      (∀ c o, c ≠ zz → c ≠ tt → (∀ p ∈ ps, c ≠ p.it) → sh.heap.get? c = some o → h'.get? c = some o) → Q (.ref sh.heap.objs.size) { sh with heap := h' }) :
    wpAny (model pr ww) AA (Builtin.«zip.__next__» ⟨[.ref zz], []⟩) (fun fin s' => ∃ v, fin = .done (.ret v) ∧ Q v s') EE sh := by
  obtain ⟨pa, ge, de, ta, og⟩ := sh
  show wpAny _ _ (field (.ref zz) 2 >>= _) _ _ _
  refine wpAny_bind (wpAny_field hz rfl (x := .bool false) rfl ?_)
  show wpAny _ _ (field (.ref zz) 3 >>= _) _ _ _
  refine wpAny_bind (wpAny_field hz rfl (x := .ref ti) rfl ?_)
  refine wpAny_bind (wpAny_seqItems hi rfl ?_)
  have he : (refs ps).toArray.isEmpty = false := by
    cases ps with
    | nil => exact absurd rfl hne
    | cons p r => rfl
  simp only [he, Bool.false_eq_true, if_false]
  show wpAny _ _ (Builtin.SmallTypes.ownedTupleIsFree (.ref zz) >>= _) _ _ _
  refine wpAny_bind (isFree hz hm ?_ fun g0 z0 v0 => ?_)
  · simp only [if_true]
    refine wpAny_bind (wpAny_rule ?_)
    refine wpAny_bind (wpAny_field hz rfl (x := .ref tt) rfl ?_)
    refine wpAny_bind (wpAny_setField_rec hz (by simp) fun g0 z0 v0 => ?_)
    replace z0 : ZA g0 zz ti tt .ellipsis fl := z0
    replace v0 : Heap.SameBut zz pa g0 := v0
    refine wpAny_bind ?_
    refine wpAny_forIn_list _ (fun rest bb s => bb = ⟨none, PUnit.unit⟩ ∧ ∃ j g w, s = ⟨g, ge, de, ta, og⟩ ∧ rest = (refs ps).zipIdx.drop j ∧ j ≤ ps.length ∧ St1 pa zz tt ps k j g ∧ ZA g zz ti tt .ellipsis fl ∧ TupA g tt w ∧ w.size = ps.length ∧ ∀ i, i < j → w[i]? = vals[i]?) _ ?_ ?_ _ _ ?_
    · rintro x rest bb s ⟨rfl, j, g, w, rfl, e, hj, st, zg, tw, wl, wv⟩
      have hjl : j < (refs ps).zipIdx.length := by
        refine Nat.lt_of_not_le fun z => ?_
        rw [List.drop_eq_nil_of_le z] at e
        cases e
      rw [List.drop_eq_getElem_cons hjl] at e
      injection e with e1 e2
      have hjp : j < ps.length := by simpa [refs] using hjl
      have ex : x = (Value.ref (ps[j]).it, j) := by rw [e1]; simp [refs]
      subst ex
      have hp : ps[j]? = some ps[j] := List.getElem?_eq_getElem hjp
      generalize ps[j] = p at hp
      obtain ⟨v, hx, hvv⟩ := hv j p hp
      have hpm := List.mem_of_getElem? hp
      have a := st.at' j p hp
      rw [if_neg (Nat.lt_irrefl _)] at a
      refine wpAny_bind (wpAny_onRaise ?_)
      show wpAny _ _ (Builtin.SmallTypes.nextOf (.ref p.it) >>= _) _ _ ⟨g, ge, de, ta, og⟩
      refine wpAny_bind (nextS_item a hx fun g1 i1 s1 => wpAny_pure ?_)
      replace s1 : Heap.SameBut p.it g g1 := s1
      have tw1 : TupA g1 tt w := s1.extBut _ _ (S.iz p hpm).2.2.symm tw
      refine wpAny_bind (wpAny_seqItems (s := ⟨g1, ge, de, ta, og⟩) tw1 rfl ?_)
      refine wpAny_bind (updateSeq_TupA (s := ⟨g1, ge, de, ta, og⟩) tw1 (by rw [wl, sizeLine_eq]; omega) fun g2 tw2 s2 => ?_)
      replace s2 : Heap.SameBut tt g1 g2 := s2
      refine wpAny_bind (wpAny_letGo (wpAny_pure ?_))
      refine ⟨rfl, j + 1, g2, _, rfl, e2, hjp, (st.draw S hp i1 s1).wr S s2, s2.extBut _ _ S.TOz.symm (s1.extBut _ _ (S.iz p hpm).1.symm zg), tw2, by rw [Array.size_setIfInBounds]; exact wl, fun i hi => ?_⟩
      by_cases c : j = i
      · subst c
        rw [Array.getElem?_setIfInBounds_self_of_lt (by omega), hvv]
      · rw [Array.getElem?_setIfInBounds_ne c]
        exact wv i (by omega)
    · rintro bb s ⟨rfl, j, g, w, rfl, e, hj, st, zg, tw, wl, wv⟩
      have hjn : j = ps.length := by
        have := congrArg List.length e
        simp [refs] at this
        omega
      subst hjn
      have ew : w = vals.toArray := by
        refine Array.ext_getElem? fun i => ?_
        by_cases c : i < ps.length
        · rw [wv i c]; simp
        · rw [Array.getElem?_eq_none (by omega)]
          simp; omega
      subst ew
      show wpAny _ _ (seqItems? (.ref tt) >>= _) _ _ ⟨g, ge, de, ta, og⟩
      refine wpAny_bind (wpAny_seqItems (s := ⟨g, ge, de, ta, og⟩) tw rfl ?_)
      refine wpAny_bind (wpAny_newTuple ?_ (by rw [sizeLine_eq]; simp; omega))
      show wpAny _ _ (Builtin.SmallTypes.ownedTupleHandOut (.ref zz) (.ref g.objs.size) >>= _) _ _ ⟨g.push { cls := .type "tuple", data := .seq vals.toArray }, ge, de, ta, og⟩
      refine wpAny_bind ?_
      unfold Builtin.SmallTypes.ownedTupleHandOut
      have zl : zz < g.objs.size := Heap.lt_size zg
      have z4 : ZA (g.push { cls := .type "tuple", data := .seq vals.toArray }) zz ti tt .ellipsis fl := Heap.get?_push_of_some _ zg
      refine wpAny_bind (wpAny_setField_rec z4 (by simp) fun g5 z5 v5 => ?_)
      replace z5 : ZA g5 zz ti tt (rawInt g.objs.size) fl := z5
      refine wpAny_setField_rec z5 (by simp) fun g6 z6 v6 => ?_
      replace z6 : ZA g6 zz ti tt (rawInt g.objs.size) false := z6
      replace v5 : Heap.SameBut zz (g.push { cls := .type "tuple", data := .seq vals.toArray }) g5 := v5
      replace v6 : Heap.SameBut zz g5 g6 := v6
      have up : ∀ c o, c ≠ zz → g.get? c = some o → g6.get? c = some o := fun c o c1 e => v6.extBut _ _ c1 (v5.extBut _ _ c1 (Heap.get?_push_of_some _ e))
      have nt : TupA g6 g.objs.size vals.toArray := v6.extBut _ _ (Nat.ne_of_gt zl) (v5.extBut _ _ (Nat.ne_of_gt zl) (Heap.get?_push_size _ rfl))
      have s6 : g6.objs.size = g.objs.size + 1 := by rw [v6.1, v5.1, Heap.size_push]
      have sz := st.sz
      rw [sz] at z6 nt s6
      refine wpAny_pure ⟨_, rfl, ?_⟩
      show Q (.ref g.objs.size) ⟨g6, ge, de, ta, og⟩
      rw [sz]
      refine hQ g6 _ _ z6 (.inr ⟨_, rfl⟩) ⟨_, up _ _ S.TOz tw, wl⟩ (fun p hp => ?_) nt s6 fun c o cz cT ci e => up c o cz (st.kp c o cz cT ci e)
      obtain ⟨i, hi, rfl⟩ := List.mem_iff_getElem.1 hp
      have a := st.at' i _ (List.getElem?_eq_getElem hi)
      rw [if_pos hi] at a
      exact a.keep (fun o z => up _ o (S.iz _ hp).1 z) fun o z => up _ o (S.tz _ hp).1 z
    · exact ⟨rfl, 0, g0, b, rfl, rfl, Nat.zero_le _, .start S ha v0, z0, v0.extBut _ _ S.TOz ho, hb, fun i hi => absurd hi (Nat.not_lt_zero _)⟩
  · simp only [Bool.false_eq_true, if_false]
    replace v0 : Heap.SameBut zz pa g0 := v0
    refine wpAny_bind ?_
    rw [← Array.forIn_toList]
    refine wpAny_forIn_list _ (fun rest bb s => ∃ j g, bb = ⟨none, (vals.take j).toArray⟩ ∧ s = ⟨g, ge, de, ta, og⟩ ∧ rest = (refs ps).drop j ∧ j ≤ ps.length ∧ St1 pa zz tt ps k j g ∧ ZA g zz ti tt mk true ∧ TupA g tt b) _ ?_ ?_ _ _ ?_
    · rintro x rest bb s ⟨j, g, rfl, rfl, e, hj, st, zg, tw⟩
      have hjl : j < (refs ps).length := by
        refine Nat.lt_of_not_le fun z => ?_
        rw [List.drop_eq_nil_of_le z] at e
        cases e
      rw [List.drop_eq_getElem_cons hjl] at e
      injection e with e1 e2
      have hjp : j < ps.length := by simpa [refs] using hjl
      have ex : x = Value.ref (ps[j]).it := by rw [e1]; simp [refs]
      subst ex
      have hp : ps[j]? = some ps[j] := List.getElem?_eq_getElem hjp
      generalize ps[j] = p at hp
      obtain ⟨v, hx, hvv⟩ := hv j p hp
      have hpm := List.mem_of_getElem? hp
      have a := st.at' j p hp
      rw [if_neg (Nat.lt_irrefl _)] at a
      refine wpAny_bind (wpAny_holding ?_)
      show wpAny _ _ (Builtin.SmallTypes.nextOf (.ref p.it) >>= _) _ _ ⟨g, ge, de, ta, og⟩
      refine wpAny_bind (nextS_item a hx fun g1 i1 s1 => wpAny_pure ?_)
      replace s1 : Heap.SameBut p.it g g1 := s1
      refine wpAny_pure ⟨j + 1, g1, ?_, rfl, e2, hjp, st.draw S hp i1 s1, s1.extBut _ _ (S.iz p hpm).1.symm zg, s1.extBut _ _ (S.iz p hpm).2.2.symm tw⟩
      rw [List.take_succ, hvv]
      simp
    · rintro bb s ⟨j, g, rfl, rfl, e, hj, st, zg, tw⟩
      have hjn : j = ps.length := by
        have := congrArg List.length e
        simp [refs] at this
        omega
      subst hjn
      rw [List.take_of_length_le (by omega)]
      show wpAny _ _ (newTuple vals >>= _) _ _ ⟨g, ge, de, ta, og⟩
      refine wpAny_bind (wpAny_newTuple ?_ (by show vals.length ≤ _; rw [sizeLine_eq]; omega))
      have up : ∀ c o, g.get? c = some o → (g.push { cls := .type "tuple", data := .seq vals.toArray }).get? c = some o := fun c o e => Heap.get?_push_of_some _ e
      refine wpAny_pure ⟨_, rfl, ?_⟩
      show Q (.ref g.objs.size) ⟨g.push { cls := .type "tuple", data := .seq vals.toArray }, ge, de, ta, og⟩
      have nt : TupA (g.push { cls := .type "tuple", data := .seq vals.toArray }) g.objs.size vals.toArray := Heap.get?_push_size _ rfl
      have s6 : (g.push { cls := .type "tuple", data := .seq vals.toArray }).objs.size = g.objs.size + 1 := Heap.size_push ..
      have sz := st.sz
      rw [sz] at nt s6 ⊢
      refine hQ _ _ _ (up _ _ zg) hm ⟨_, up _ _ tw, hb⟩ (fun p hp => ?_) nt s6 fun c o cz cT ci e => up c o (st.kp c o cz cT ci e)
      obtain ⟨i, hi, rfl⟩ := List.mem_iff_getElem.1 hp
      have a := st.at' i _ (List.getElem?_eq_getElem hi)
      rw [if_pos hi] at a
      exact a.keep (fun o z => up _ o z) fun o z => up _ o z
    · exact ⟨0, g0, rfl, rfl, rfl, Nat.zero_le _, .start S ha v0, z0, v0.extBut _ _ S.TOz ho⟩
/-- one of them has come to its end, those ahead of it have not -/
theorem next_endG {Q : Fin → Shared → Prop} {b : Array Value} {j0 : Nat} {p0 : Src} (hh : AA.handled = none) (S : Sep zz ti tt ps) (h6 : ps.length ≤ 1000) (hp0 : ps[j0]? = some p0) (hx0 : p0.xs[k]? = none) (hbe : ∀ (i : Nat) (p : Src), i < j0 → ps[i]? = some p → ∃ v, p.xs[k]? = some v)
    (hz : ZA sh.heap zz ti tt mk fl) (hm : Mk mk) (hi : TupA sh.heap ti (refs ps).toArray) (ho : TupA sh.heap tt b) (hb : b.size = ps.length) (ha : ∀ p ∈ ps, AtS k p sh.heap)
    (hE : ∀ h' e, (∀ c o, c ≠ zz → c ≠ tt → (∀ q ∈ ps, c ≠ q.it) → sh.heap.get? c = some o → h'.get? c = some o) → (∃ o, h'.get? e = some o ∧ o.cls = .type "StopIteration") → EE (.ref e) { sh with heap := h' }) :
    wpAny (model pr ww) AA (Builtin.«zip.__next__» ⟨[.ref zz], []⟩) Q EE sh := by
  obtain ⟨pa, ge, de, ta, og⟩ := sh
  have hj0 := (List.getElem?_eq_some_iff.mp hp0).1
  have hpm0 := List.mem_of_getElem? hp0
  show wpAny _ _ (field (.ref zz) 2 >>= _) _ _ _
  refine wpAny_bind (wpAny_field hz rfl (x := .bool false) rfl ?_)
  show wpAny _ _ (field (.ref zz) 3 >>= _) _ _ _
  refine wpAny_bind (wpAny_field hz rfl (x := .ref ti) rfl ?_)
  refine wpAny_bind (wpAny_seqItems hi rfl ?_)
  have he : (refs ps).toArray.isEmpty = false := by
    cases ps with
    | nil => cases hpm0
    | cons p r => rfl
  simp only [he, Bool.false_eq_true, if_false]
  show wpAny _ _ (Builtin.SmallTypes.ownedTupleIsFree (.ref zz) >>= _) _ _ _
  refine wpAny_bind (isFree hz hm ?_ fun g0 z0 v0 => ?_)
  · simp only [if_true]
    refine wpAny_bind (wpAny_rule ?_)
    refine wpAny_bind (wpAny_field hz rfl (x := .ref tt) rfl ?_)
    refine wpAny_bind (wpAny_setField_rec hz (by simp) fun g0 z0 v0 => ?_)
    replace z0 : ZA g0 zz ti tt .ellipsis fl := z0
    replace v0 : Heap.SameBut zz pa g0 := v0
    refine wpAny_bind ?_
    refine wpAny_forIn_list _ (fun rest bb s => bb = ⟨none, PUnit.unit⟩ ∧ ∃ j g w, s = ⟨g, ge, de, ta, og⟩ ∧ rest = (refs ps).zipIdx.drop j ∧ j ≤ j0 ∧ St1 pa zz tt ps k j g ∧ ZA g zz ti tt .ellipsis fl ∧ TupA g tt w ∧ w.size = ps.length) _ ?_ ?_ _ _ ?_
    · rintro x rest bb s ⟨rfl, j, g, w, rfl, e, hj, st, zg, tw, wl⟩
      have hjl : j < (refs ps).zipIdx.length := by simp [refs]; omega
      rw [List.drop_eq_getElem_cons hjl] at e
      injection e with e1 e2
      have hjp : j < ps.length := by omega
      have ex : x = (Value.ref (ps[j]).it, j) := by rw [e1]; simp [refs]
      subst ex
      have hp : ps[j]? = some ps[j] := List.getElem?_eq_getElem hjp
      generalize ps[j] = p at hp
      have hpm := List.mem_of_getElem? hp
      have a := st.at' j p hp
      rw [if_neg (Nat.lt_irrefl _)] at a
      refine wpAny_bind (wpAny_onRaise ?_)
      show wpAny _ _ (Builtin.SmallTypes.nextOf (.ref p.it) >>= _) _ _ ⟨g, ge, de, ta, og⟩
      by_cases c : j = j0
      · subst c
        rw [hp0] at hp
        cases hp
        refine wpAny_bind (nextS_end hh a hx0 fun h₂ e hs₂ he => ?_)
        obtain ⟨oe, hoe, hce⟩ := he
        have hz₂ : ZA h₂ zz ti tt .ellipsis fl := hs₂ _ _ (S.iz _ hpm).1.symm zg
        have hez : e ≠ zz := fun x => by subst x; rw [hz₂] at hoe; cases hoe; simp at hce
        exact wpAny_setField_rec hz₂ (by simp) fun h₃ _ hs₃ => hE h₃ e (fun c o c1 c2 c3 x => hs₃.extBut _ _ c1 (hs₂ _ _ (c3 _ hpm) (st.kp c o c1 c2 c3 x))) ⟨oe, hs₃.extBut _ _ hez hoe, hce⟩
      · obtain ⟨v, hx⟩ := hbe j p (by omega) hp
        refine wpAny_bind (nextS_item a hx fun g1 i1 s1 => wpAny_pure ?_)
        replace s1 : Heap.SameBut p.it g g1 := s1
        have tw1 : TupA g1 tt w := s1.extBut _ _ (S.iz p hpm).2.2.symm tw
        refine wpAny_bind (wpAny_seqItems (s := ⟨g1, ge, de, ta, og⟩) tw1 rfl ?_)
        refine wpAny_bind (updateSeq_TupA (s := ⟨g1, ge, de, ta, og⟩) tw1 (by rw [wl, sizeLine_eq]; omega) fun g2 tw2 s2 => ?_)
        replace s2 : Heap.SameBut tt g1 g2 := s2
        refine wpAny_bind (wpAny_letGo (wpAny_pure ?_))
        exact ⟨rfl, j + 1, g2, _, rfl, e2, by omega, (st.draw S hp i1 s1).wr S s2, s2.extBut _ _ S.TOz.symm (s1.extBut _ _ (S.iz p hpm).1.symm zg), tw2, by rw [Array.size_setIfInBounds]; exact wl⟩
    · rintro bb s ⟨rfl, j, g, w, rfl, e, hj, st, zg, tw, wl⟩
      have := congrArg List.length e
      simp [refs] at this
      omega
    · exact ⟨rfl, 0, g0, b, rfl, rfl, Nat.zero_le _, .start S ha v0, z0, v0.extBut _ _ S.TOz ho, hb⟩
  · simp only [Bool.false_eq_true, if_false]
    replace v0 : Heap.SameBut zz pa g0 := v0
    refine wpAny_bind ?_
    rw [← Array.forIn_toList]
    refine wpAny_forIn_list _ (fun rest bb s => bb.1 = none ∧ ∃ j g, s = ⟨g, ge, de, ta, og⟩ ∧ rest = (refs ps).drop j ∧ j ≤ j0 ∧ St1 pa zz tt ps k j g) _ ?_ ?_ _ _ ?_
    · rintro x rest bb s ⟨hbb, j, g, rfl, e, hj, st⟩
      have hjl : j < (refs ps).length := by simp [refs]; omega
      rw [List.drop_eq_getElem_cons hjl] at e
      injection e with e1 e2
      have hjp : j < ps.length := by omega
      have ex : x = Value.ref (ps[j]).it := by rw [e1]; simp [refs]
      subst ex
      have hp : ps[j]? = some ps[j] := List.getElem?_eq_getElem hjp
      generalize ps[j] = p at hp
      have hpm := List.mem_of_getElem? hp
      have a := st.at' j p hp
      rw [if_neg (Nat.lt_irrefl _)] at a
      refine wpAny_bind (wpAny_holding ?_)
      show wpAny _ _ (Builtin.SmallTypes.nextOf (.ref p.it) >>= _) _ _ ⟨g, ge, de, ta, og⟩
      by_cases c : j = j0
      · subst c
        rw [hp0] at hp
        cases hp
        refine wpAny_bind (nextS_end hh a hx0 fun h₂ e hs₂ he => ?_)
        exact hE h₂ e (fun c o c1 c2 c3 x => hs₂ _ _ (c3 _ hpm) (st.kp c o c1 c2 c3 x)) he
      · obtain ⟨v, hx⟩ := hbe j p (by omega) hp
        refine wpAny_bind (nextS_item a hx fun g1 i1 s1 => wpAny_pure ?_)
        replace s1 : Heap.SameBut p.it g g1 := s1
        exact wpAny_pure ⟨rfl, j + 1, g1, rfl, e2, by omega, st.draw S hp i1 s1⟩
    · rintro bb s ⟨hbb, j, g, rfl, e, hj, st⟩
      have := congrArg List.length e
      simp [refs] at this
      omega
    · exact ⟨rfl, 0, g0, rfl, rfl, Nat.zero_le _, .start S ha v0⟩
end
end ZM
set_option pp.maxSteps 3000
namespace ZM
open PySem PySem.Spec PyProof.Rows L2 ZN
theorem typeCall_zip (vs : List Value) : checkTypeCall "zip" ⟨vs, []⟩ = pure () := by kernel_rfl
theorem newCall_zip : ∀ vs : List Value, vs.length ≤ 10 → checkBuiltinCall "zip.__new__" ⟨.type "zip" :: vs, []⟩ = pure ()
  | [], _ => by kernel_rfl
  | [a0], _ => by kernel_rfl
  | [a0, a1], _ => by kernel_rfl
  | [a0, a1, a2], _ => by kernel_rfl
  | [a0, a1, a2, a3], _ => by kernel_rfl
  | [a0, a1, a2, a3, a4], _ => by kernel_rfl
  | [a0, a1, a2, a3, a4, a5], _ => by kernel_rfl
  | [a0, a1, a2, a3, a4, a5, a6], _ => by kernel_rfl
  | [a0, a1, a2, a3, a4, a5, a6, a7], _ => by kernel_rfl
  | [a0, a1, a2, a3, a4, a5, a6, a7, a8], _ => by kernel_rfl
  | [a0, a1, a2, a3, a4, a5, a6, a7, a8, a9], _ => by kernel_rfl
  | _ :: _ :: _ :: _ :: _ :: _ :: _ :: _ :: _ :: _ :: _ :: _, h => by simp at h
theorem args_init (obj : Value) (vs : List Value) : argsOk "object.__init__" ⟨obj :: vs, []⟩ := by unfold argsOk; kernel_rfl
def itO (p : Addr × Bool) : Obj := { cls := .type (if p.2 = true then "list_iterator" else "tuple_iterator"), data := .fields #[.ref p.1, .int 0 0] }
abbrev refT (ts : List (Addr × Bool)) : List Value := ts.map fun p => Value.ref p.1
/-- the heap with the iterators -/
structure Its (hp : Heap) (ts : List (Addr × Bool)) (j : Nat) (g : Heap) : Prop where
  sz : g.objs.size = hp.objs.size + j
  it : ∀ i t, i < j → ts[i]? = some t → g.get? (hp.objs.size + i) = some (itO t)
  kp : ∀ c o, hp.get? c = some o → g.get? c = some o
def nums (N n : Nat) : List Value := (List.range n).map fun i => Value.ref (N + i : Nat)
theorem iterAll_tups {pr : Program} {ww : World} {AA : Around} {EE : Value → Shared → Prop} {hp : Heap} {ge : Array GenState} {de : Drawn} {ta : Nat} {og : OsState} {Q : List Value → Shared → Prop} (ts : List (Addr × Bool)) (ht : ∀ p ∈ ts, ∃ xs, IsSeqO p.2 hp p.1 xs)
    (h : ∀ g, Its hp ts ts.length g → Q (nums hp.objs.size ts.length) ⟨g, ge, de, ta, og⟩) : wpAny (model pr ww) AA (Builtin.SmallTypes.iterAll (refT ts)) Q EE ⟨hp, ge, de, ta, og⟩ := by
  unfold Builtin.SmallTypes.iterAll
  refine wpAny_bind ?_
  refine wpAny_forIn_list _ (fun rest bb s => ∃ j g, bb = (nums hp.objs.size j).toArray ∧ s = ⟨g, ge, de, ta, og⟩ ∧ rest = (refT ts).drop j ∧ j ≤ ts.length ∧ Its hp ts j g) _ ?_ ?_ _ _ ?_
  · rintro x rest bb s ⟨j, g, rfl, rfl, e, hj, I⟩
    have hjl : j < (refT ts).length := by
      refine Nat.lt_of_not_le fun z => ?_
      rw [List.drop_eq_nil_of_le z] at e
      cases e
    rw [List.drop_eq_getElem_cons hjl] at e
    injection e with e1 e2
    have hjp : j < ts.length := by simpa using hjl
    have ex : x = Value.ref (ts[j]).1 := by rw [e1]; simp
    subst ex
    obtain ⟨xs, hx⟩ := ht ts[j] (List.getElem_mem hjp)
    have hx' : IsSeqO (ts[j]).2 g (ts[j]).1 xs := hx.at fun o z => I.kp _ o z
    refine wpAny_bind (wpAny_holding ?_)
    have sz := I.sz
    have pi : ∀ {EE : Value → Shared → Prop} {Q : Value → Shared → Prop}, Q (.ref g.objs.size) ⟨g.push (itO ts[j]), ge, de, ta, og⟩ → wpAny (model pr ww) AA (pyIter (.ref (ts[j]).1)) Q EE ⟨g, ge, de, ta, og⟩ := fun q => by
      generalize ts[j] = p at *
      obtain ⟨t, l⟩ := p
      cases l with
      | true => exact wpAny_pyIter_list (s := ⟨g, ge, de, ta, og⟩) (show g.IsList t xs from hx') q
      | false => exact wpAny_pyIter_tuple (s := ⟨g, ge, de, ta, og⟩) (show g.IsTuple t xs from hx') q
    refine pi ?_
    refine wpAny_pure ⟨j + 1, g.push (itO ts[j]), ?_, rfl, e2, hjp, ?_⟩
    · show (nums hp.objs.size j).toArray.push (Value.ref g.objs.size) = _
      rw [sz]
      simp [nums, List.range_succ]
    · refine ⟨by rw [Heap.size_push, sz, Nat.add_assoc], fun i t hi hti => ?_, fun c o z => Heap.get?_push_of_some _ (I.kp c o z)⟩
      by_cases c : i < j
      · exact Heap.get?_push_of_some _ (I.it i t c hti)
      · have e : i = j := by omega
        subst e
        rw [List.getElem?_eq_getElem hjp] at hti
        cases hti
        rw [← sz]
        exact Heap.get?_push_size _ rfl
  · rintro bb s ⟨j, g, rfl, rfl, e, hj, I⟩
    have hjn : j = ts.length := by
      have := congrArg List.length e
      simp at this
      omega
    subst hjn
    exact wpAny_pure (h g I)
  · exact ⟨0, hp, rfl, rfl, rfl, Nat.zero_le _, rfl, fun i t hi => absurd hi (Nat.not_lt_zero _), fun c o z => z⟩
abbrev hT (g : Heap) (N n : Nat) : Heap := g.push { cls := .type "tuple", data := .seq (nums N n).toArray }
abbrev hO (g : Heap) (N n : Nat) : Heap := (hT g N n).push { cls := .type "tuple", data := .seq (((nums N n).map fun _ => Value.none).toArray) }
abbrev hZ (g : Heap) (N n : Nat) : Heap := (hO g N n).push { cls := .type "zip", data := .fields #[.none, .bool false, .bool false, .ref g.objs.size, .ref (hT g N n).objs.size] }
theorem meets_zip_new (ts : List (Addr × Bool)) (hn : ts.length ≤ 1000) :
    Meets (Builtin.«zip.__new__» ⟨.type "zip" :: refT ts, []⟩) (fun _ R s => (∀ p ∈ ts, ∃ xs, IsSeqO p.2 s.heap p.1 xs) ∧
      ∀ g, Its s.heap ts ts.length g → R (.ok (.ret (.ref (hO g s.heap.objs.size ts.length).objs.size))) { s with heap := hZ g s.heap.objs.size ts.length }) :=
  .of_wp fun prog w A R s h => by
    obtain ⟨hp, g, d, tk, os⟩ := s; obtain ⟨h1, h⟩ := h
    have hsub := sub_zip
    have q1 : ∀ {A' : Around} {E : Value → Shared → Prop} {Q : List Value → Shared → Prop}, (∀ g', Its hp ts ts.length g' → Q (nums hp.objs.size ts.length) ⟨g', g, d, tk, os⟩) → wpAny (model prog w) A' (Builtin.SmallTypes.iterAll (refT ts)) Q E ⟨hp, g, d, tk, os⟩ :=
      fun q => iterAll_tups ts h1 q
    wp_walk using q1
    intro g' I
    have ln : (nums hp.objs.size ts.length).length = ts.length := by simp [nums]
    refine wpAny_bind (wpAny_newTuple ?_ (by rw [sizeLine_eq]; omega))
    refine wpAny_bind (wpAny_newTuple ?_ (by rw [List.length_map, sizeLine_eq]; omega))
    refine wpAny_bind ?_
    show wpAny _ _ (newObj (.type "zip") (.fields #[.none, .bool false, .bool false, .ref g'.objs.size, .ref (hT g' hp.objs.size ts.length).objs.size])) _ _ _
    refine wpAny_newObj_type ?_ (by size_fits)
    exact wpAny_pure ⟨_, rfl, h g' I⟩
theorem zip_begins {pr : Program} {ww : World} {AA : Around} {EE : Value → Shared → Prop} {s : Shared} {Q : Value → Shared → Prop} (ts : List (Addr × Bool)) (hn : ts.length ≤ 10) (hx : ∀ p ∈ ts, ∃ xs, IsSeqO p.2 s.heap p.1 xs)
    (h : ∀ h', ZA h' (s.heap.objs.size + ts.length + 2) (s.heap.objs.size + ts.length) (s.heap.objs.size + ts.length + 1) .none false → TupA h' (s.heap.objs.size + ts.length) (nums s.heap.objs.size ts.length).toArray →
      TupA h' (s.heap.objs.size + ts.length + 1) (((nums s.heap.objs.size ts.length).map fun _ => Value.none).toArray) → (∀ i p, ts[i]? = some p → IsIter p.2 h' (s.heap.objs.size + i : Nat) p.1 0) → h'.objs.size = s.heap.objs.size + ts.length + 3 →
      (∀ c o, s.heap.get? c = some o → h'.get? c = some o) → Q (.ref (s.heap.objs.size + ts.length + 2)) { s with heap := h' }) :
    wpAny (model pr ww) AA (call (.type "zip") (refT ts)) Q EE s := by
  refine callType_new F.called_zip (by decide) (typeCall_zip _) (newCall_zip _ (by rw [List.length_map]; exact hn)) (fun obj => args_init obj _) F.entry_zip_new (meets_zip_new ts (by omega)) ⟨hx, fun g I => ?_⟩
  have z1 := I.sz
  have z2 : (hT g s.heap.objs.size ts.length).objs.size = s.heap.objs.size + ts.length + 1 := by rw [Heap.size_push, z1]
  have z3 : (hO g s.heap.objs.size ts.length).objs.size = s.heap.objs.size + ts.length + 2 := by rw [Heap.size_push, z2]
  have gZ : (hZ g s.heap.objs.size ts.length).get? (hO g s.heap.objs.size ts.length).objs.size = some { cls := .type "zip", data := .fields #[.none, .bool false, .bool false, .ref g.objs.size, .ref (hT g s.heap.objs.size ts.length).objs.size] } := Heap.get?_push_size _ rfl
  have gO : (hZ g s.heap.objs.size ts.length).get? (hT g s.heap.objs.size ts.length).objs.size = some { cls := .type "tuple", data := .seq (((nums s.heap.objs.size ts.length).map fun _ => Value.none).toArray) } := Heap.get?_push_of_some _ (Heap.get?_push_size _ rfl)
  have gT : (hZ g s.heap.objs.size ts.length).get? g.objs.size = some { cls := .type "tuple", data := .seq (nums s.heap.objs.size ts.length).toArray } := Heap.get?_push_of_some _ (Heap.get?_push_of_some _ (Heap.get?_push_size _ rfl))
  have up : ∀ c o, g.get? c = some o → (hZ g s.heap.objs.size ts.length).get? c = some o := fun c o z => Heap.get?_push_of_some _ (Heap.get?_push_of_some _ (Heap.get?_push_of_some _ z))
  rw [z3, z2, z1] at gZ
  rw [z2] at gO
  rw [z1] at gT
  show _ ∧ _
  rw [z3]
  refine ⟨⟨_, gZ, rfl⟩, h _ gZ gT gO (fun i t hi => ?_) (by rw [Heap.size_push, z3]) fun c o z => up c o (I.kp c o z)⟩
  have g0 := up _ _ (I.it i t (List.getElem?_eq_some_iff.mp hi).1 hi)
  obtain ⟨t, l⟩ := t
  cases l with
  | true => exact ⟨_, g0, rfl, rfl⟩
  | false => exact ⟨_, g0, rfl, rfl⟩
end ZM
namespace DL
open PySem PySem.Spec PyProof.Rows L2
section
open PySem.W
abbrev srtLe : PyData → PyData → Bool := dataLe false id
def okSort (ds : List PyData) : Bool := (ds.all fun d => ds.all fun e => alike d e) && ((ds.all fun d => match d with | .tuple (_ :: _) => true | _ => false) || ds.all fun d => match d with | .none => false | .tuple _ => false | _ => true) && ds.all fun d => decide (d.depth ≤ 40)
variable {X : Cx}
end
end DL
namespace DL
open PySem PySem.Spec PyProof.Rows L2
end DL
namespace DL
open PySem PySem.Spec PyProof.Rows L2
end DL
namespace DL
open PySem PySem.Spec PyProof.Rows L2
end DL
namespace DL
open PySem PySem.Spec PyProof.Rows L2
end DL
namespace DL
open PySem PySem.Spec PyProof.Rows L2
def putFl {α : Type} (f : Str) (y : α) : List (Str × α) → List (Str × α)
  | [] => [(f, y)]
  | (g, x) :: r => if g = f then (g, y) :: r else (g, x) :: putFl f y r
def lookF {α : Type} (f : Str) : List (Str × α) → Option α
  | [] => none
  | (g, x) :: r => if g = f then some x else lookF f r
def flD : Fl → Option PyData
  | .d x => some x
  | .l _ => none
def flL : Fl → Option (List PyData)
  | .d _ => none
  | .l xs => some xs
def frzF : Fl → PyData
  | .d x => x
  | .l xs => .list xs
def frzFs (fs : List (Str × Fl)) : List (Str × PyData) := fs.map fun p => (p.1, frzF p.2)
theorem lookF_eq {α : Type} (f : Str) : ∀ fs : List (Str × α), lookF f fs = fs.lookup f
  | [] => rfl
  | (g, x) :: r => by
    rw [List.lookup_cons, lookF, lookF_eq f r]
    by_cases h : g = f
    · subst h; simp
    · rw [if_neg h, show (f == g) = false by simpa using fun z => h z.symm]
section
variable {K : PySem.W.Frag} {H H' : Hp} {ow ow' : Ow} {C : Cc}
theorem FLs.len : ∀ {fv : List (Str × V)} {fs : List (Str × Fl)} {fp : List Addr}, FLs K H ow fv fs fp → fv.length = fs.length
  | _, _, _, .nil => rfl
  | _, _, _, .d _ t => by simp [t.len]
  | _, _, _, .l _ _ _ t => by simp [t.len]
theorem FLs.none {f : Str} : ∀ {fv : List (Str × V)} {fs : List (Str × Fl)} {fp : List Addr}, FLs K H ow fv fs fp → lookF f fs = Option.none → fv.lookup f = Option.none
  | _, _, _, .nil, _ => rfl
  | _, _, _, .d (f := g) (v := v) _ t, h => by
    rw [← lookF_eq]
    unfold lookF at h ⊢
    by_cases c : g = f
    · rw [if_pos c] at h; cases h
    · rw [if_neg c] at h ⊢
      rw [lookF_eq]; exact t.none h
  | _, _, _, .l (f := g) _ _ _ t, h => by
    rw [← lookF_eq]
    unfold lookF at h ⊢
    by_cases c : g = f
    · rw [if_pos c] at h; cases h
    · rw [if_neg c] at h ⊢
      rw [lookF_eq]; exact t.none h
theorem FLs.getD {f : Str} {x : PyData} : ∀ {fv : List (Str × V)} {fs : List (Str × Fl)} {fp : List Addr}, FLs K H ow fv fs fp → lookF f fs = some (.d x) → ∃ v, fv.lookup f = some v ∧ DV K H ow v x
  | _, _, _, .nil, h => nomatch h
  | _, _, _, .d (f := g) (v := v) dv t, h => by
    rw [← lookF_eq]
    unfold lookF at h ⊢
    by_cases c : g = f
    · rw [if_pos c] at h ⊢; cases h; exact ⟨v, rfl, dv⟩
    · rw [if_neg c] at h ⊢
      rw [lookF_eq]; exact t.getD h
  | _, _, _, .l (f := g) _ _ _ t, h => by
    rw [← lookF_eq]
    unfold lookF at h ⊢
    by_cases c : g = f
    · rw [if_pos c] at h; cases h
    · rw [if_neg c] at h ⊢
      rw [lookF_eq]; exact t.getD h
/-- frozen fields -/
theorem FLs.frz (st : Stay H ow H' ow') : ∀ {fv : List (Str × V)} {fs : List (Str × Fl)} {fp : List Addr}, FLs K H ow fv fs fp → (∀ p ∈ fp, H' p = H p ∧ ow' p = Option.none) → FDs K H' ow' fv (frzFs fs)
  | _, _, _, .nil, _ => .nil
  | _, _, _, .d d0 t, hf => .cons ⟨rfl, d0.stay st⟩ (t.frz st hf)
  | _, _, _, .l h1 h2 hz t, hf => .cons ⟨rfl, .lst ((hf _ List.mem_cons_self).1.trans h1) (hf _ List.mem_cons_self).2 (h2.stay st) hz⟩ (t.frz st fun p hp => hf p (List.mem_cons_of_mem _ hp))
theorem FDs.getD {f : Str} {x : PyData} : ∀ {fv : List (Str × V)} {fs : List (Str × PyData)}, FDs K H ow fv fs → lookF f fs = some x → ∃ v, fv.lookup f = some v ∧ DV K H ow v x
  | _, _, .nil, h => nomatch h
  | _, _, .cons (a := (g, v)) (b := (g', x')) ⟨e, dv⟩ t, h => by
    have e : g = g' := e
    subst e
    rw [← lookF_eq]
    unfold lookF at h ⊢
    by_cases c : g = f
    · rw [if_pos c] at h ⊢; cases h; exact ⟨v, rfl, dv⟩
    · rw [if_neg c] at h ⊢
      rw [lookF_eq]; exact FDs.getD t h
theorem FDs.none {f : Str} : ∀ {fv : List (Str × V)} {fs : List (Str × PyData)}, FDs K H ow fv fs → lookF f fs = Option.none → fv.lookup f = Option.none
  | _, _, .nil, h => rfl
  | _, _, .cons (a := (g, v)) (b := (g', x')) ⟨e, dv⟩ t, h => by
    have e : g = g' := e
    subst e
    rw [← lookF_eq]
    unfold lookF at h ⊢
    by_cases c : g = f
    · rw [if_pos c] at h; cases h
    · rw [if_neg c] at h ⊢
      rw [lookF_eq]; exact FDs.none t h
def slotO (c : Addr) (env : Env) (i : Nat) : Option (List (Str × Fl)) := match env[i]? with
  | some (some (.o c' fs)) => if c' = c then some fs else none
  | _ => none
def slotFo (c : Addr) (env : Env) (i : Nat) : Option (List (Str × PyData)) := match env[i]? with
  | some (some (.fo c' fs)) => if c' = c then some fs else none
  | _ => none
end
end DL
namespace DL
open PySem PySem.Spec PyProof.Rows L2
section
variable {X : Cx} {C : Cc} {pos : Pos} {o : Expr} {c : Addr} {i j : Nat} {f : Str}
/-- o.f, data -/
def eFld (c : Addr) (i : Nat) (f : Str) : Env → Rs PyData := fun env => match slotFo c env i with
  | some fs => lift (lookF f fs) env
  | none => match slotO c env i with
    | some fs => lift ((lookF f fs).bind flD) env
    | none => .no
/-- o.f[k], a field that holds an owned list, k a name -/
def eFldIx (c : Addr) (i : Nat) (f : Str) (j : Nat) : Env → Rs PyData := fun env => match slotO c env i, slotD env j with
  | some fs, some (.int k) => lift (((lookF f fs).bind flL).bind fun xs => atI xs k) env
  | _, _ => .no
/-- o.f[k] = e -/
def setFl (c : Addr) (i : Nat) (f : Str) (j : Nat) (d : PyData) (e : Env) : Out := match slotO c e i, slotD e j with
  | some fs, some (.int k) => match (lookF f fs).bind flL with
    | some xs => match ixN xs.length k with
      | some n => .nx (e.set i (some (.o c (putFl f (.l (xs.set n d)) fs))))
      | none => .no
    | none => .no
  | _, _ => .no
def sFldSet (c : Addr) (i : Nat) (f : Str) (j : Nat) (t : Env → Rs PyData) : Env → Out := sE t (setFl c i f j)
/-- o.f = e, data -/
def putFld (c : Addr) (i : Nat) (f : Str) (d : PyData) (e : Env) : Out := match slotO c e i with
  | some fs => if fs.length < 1000 ∧ ((lookF f fs).bind flL).isNone = true then .nx (e.set i (some (.o c (putFl f (.d d) fs)))) else .no
  | none => .no
def sFldD (c : Addr) (i : Nat) (f : Str) (t : Env → Rs PyData) : Env → Out := sE t (putFld c i f)
/-- o.f = e, a new owned list -/
def putFldL (c : Addr) (i : Nat) (f : Str) (m : M) (e : Env) : Out := match slotO c e i, m with
  | some fs, .l ds => if fs.length < 1000 ∧ (lookF f fs).isNone = true then .nx (e.set i (some (.o c (putFl f (.l ds) fs)))) else .no
  | _, _ => .no
def sFldL (c : Addr) (i : Nat) (f : Str) (t : Env → Rs M) : Env → Out := sE t (putFldL c i f)
end
end DL
namespace DL
open PySem PySem.Spec PyProof.Rows L2
section
variable {K : PySem.W.Frag} {C : Cc}
/-- the call itself: by the values and the arguments -/
theorem call_tail {cl : Str → Option Addr} {n ar : Nat} {F : Fn} (hn : ar ≤ n) {σ : L2.St} {H : Hp} {ow : Ow} {env : Env} {vs : List V} {avs : List AV} {Q : VK} (P : RpE K C H ow σ env) (hv : RVi K σ H ow vs avs) (h : rdAt K C (RM K C.N) σ H ow Q (callM ar F avs env)) :
    spD K cl n ar F vs H Q E0 := by
  unfold callM at h
  cases hm : avMs env avs with
  | none => rw [hm] at h; exact h.elim
  | some ms =>
    rw [hm] at h
    by_cases hc : avs.length = ar ∧ (jsOf avs).Nodup
    · have h : rdAt K C (RM K C.N) σ H ow Q (if avs.length = ar ∧ (jsOf avs).Nodup then match F ms with
        | .rt m os => .ok m (putBack avs os env)
        | _ => .no
        else .no) := h
      rw [if_pos hc] at h
      refine ⟨hv.length.trans hc.1, ms, owIn ow avs n, (avMs_length hm).trans hc.1, call_in P hv hm hc.2, ?_⟩
      cases hF : F ms with
      | no => rw [hF] at h; exact h.elim
      | ex x os => rw [hF] at h; exact h.elim
      | rt m os =>
        rw [hF] at h
        intro v H' ow' x ⟨fp, r1, r2, r3⟩ ro
        obtain ⟨X, P'⟩ := call_back P hv hm hc.2 (by omega) x ro
        exact h v H' _ X ⟨fp, r1.stay (fun a o h h' => ⟨h, owOut_none h'⟩) fun _ _ => rfl, r2, fun p hp => owOut_res (r3 p hp)⟩ P'
    · have h : rdAt K C (RM K C.N) σ H ow Q (if avs.length = ar ∧ (jsOf avs).Nodup then match F ms with
        | .rt m os => .ok m (putBack avs os env)
        | _ => .no
        else .no) := h
      rw [if_neg hc] at h
      exact h.elim
/-- o.m(..), o the owned object of a slot -/
def eMeth (c : Addr) (i : Nat) (m : Str) (ar : Nat) (F : Fn) (t : Env → Rs (List AV)) : Env → Rs M := fun env => match slotO c env i with
  | some fs => if (lookF m fs).isNone = true then (t env).bind fun avs e => callM ar F (.s i :: avs) e else .no
  | none => .no
variable {X : Cx}
def shU (N j : Nat) : Nat := if j < N then j else j + 1
def shD (N j : Nat) : Nat := if j ≤ N then j else j - 1
def mkIn (N : Nat) (x : Addr) (ow : Ow) : Ow := fun a => if a = x then some N else (ow a).map (shU N)
def mkOut (N : Nat) (ow : Ow) : Ow := fun a => (ow a).map (shD N)
def eMake (c : Addr) (ar : Nat) (F : Fn) (t : Env → Rs (List AV)) : Env → Rs M := fun env => (t env).bind fun avs e => match avMs e avs with
  | none => .no
  | some ms => if avs.length + 1 = ar ∧ (jsOf avs).Nodup then match F (.o c [] :: ms) with
    | .rt (.d .none) (some (.o c' fs) :: os) => .ok (.o c' fs) (putBack avs os e)
    | _ => .no
    else .no
theorem putBack_app {z : Option M} : ∀ {avs : List AV} {os : List (Option M)} {e : Env}, (∀ j ∈ jsOf avs, j < e.length) → putBack avs os (e ++ [z]) = putBack avs os e ++ [z]
  | [], os, e, _ => rfl
  | .d x :: r, os, e, h => putBack_app (avs := r) h
  | .s j :: r, os, e, h => by
    show putBack r os.tail ((e ++ [z]).set j _) = putBack r os.tail (e.set j _) ++ [z]
    rw [List.set_append_left _ _ (h j List.mem_cons_self)]
    exact putBack_app (avs := r) fun k hk => by
      rw [List.length_set]; exact h k (List.mem_cons_of_mem _ hk)
theorem avMs_app {z : Option M} {env : Env} : ∀ {avs : List AV} {ms : List M}, avMs env avs = some ms → avMs (env ++ [z]) avs = some ms
  | [], ms, h => h
  | a :: r, ms, h => by
    simp only [avMs] at h ⊢
    cases ha : avM env a with
    | none => rw [ha] at h; cases h
    | some m0 =>
      rw [ha] at h
      cases hr : avMs env r with
      | none => rw [hr] at h; cases h
      | some ms0 =>
        rw [hr] at h
        rw [avMs_app hr]
        have : avM (env ++ [z]) a = some m0 := by
          cases a with
          | d x => exact ha
          | s j =>
            have e := avM_s ha
            have hl := (List.getElem?_eq_some_iff.mp e).1
            show (match (env ++ [z])[j]? with | some (some m) => some m | _ => none) = some m0
            rw [List.getElem?_append_left hl, e]
        rw [this]
        exact h
theorem RVi.app {σ : L2.St} {H H' : Hp} {ow ow' : Ow} {w : Option V} (st : Stay H ow H' ow') : ∀ {vs : List V} {r : List AV}, RVi K σ H ow vs r → RVi K (σ ++ [w]) H' ow' vs r
  | _, _, .nil => .nil
  | _, _, .d h t => .d (h.stay st) (t.app st)
  | _, _, .s (j := j) h t => .s (by rw [List.getElem?_append_left (List.getElem?_eq_some_iff.mp h).1]; exact h) (t.app st)
end
end DL
namespace DL
open PySem PySem.Spec PyProof.Rows L2
inductive AO where
  | d (x : PyData)
  | l (j : Nat)
  | t (m : M)
inductive ROi (K : PySem.W.Frag) (σ : L2.St) (H : Hp) (ow : Ow) : List V → List AO → Prop
  | nil : ROi K σ H ow [] []
  | d {v : V} {x : PyData} {vs : List V} {r : List AO} : DV K H ow v x → ROi K σ H ow vs r → ROi K σ H ow (v :: vs) (.d x :: r)
  | l {v : V} {j : Nat} {vs : List V} {r : List AO} : σ[j]? = some (some v) → ROi K σ H ow vs r → ROi K σ H ow (v :: vs) (.l j :: r)
  | t {v : V} {m : M} {vs : List V} {r : List AO} : VM K H ow v m [] → ROi K σ H ow vs r → ROi K σ H ow (v :: vs) (.t m :: r)
def aoNil : Env → Rs (List AO) := fun env => .ok [] env
def aoD (t : Env → Rs PyData) (u : Env → Rs (List AO)) : Env → Rs (List AO) := fun env => (t env).bind fun x e1 => (u e1).bind fun r e2 => .ok (.d x :: r) e2
def aoL (j : Nat) (u : Env → Rs (List AO)) : Env → Rs (List AO) := fun env => match env[j]? with
  | some (some _) => (u env).bind fun r e2 => .ok (.l j :: r) e2
  | _ => .no
/-- an object just made, frozen -/
def frzT : M → Option M
  | .o c fs => some (.fo c (frzFs fs))
  | _ => none
def aoT (t : Env → Rs M) (u : Env → Rs (List AO)) : Env → Rs (List AO) := fun env => (t env).bind fun m e1 => match frzT m with
  | some m' => (u e1).bind fun r e2 => .ok (.t m' :: r) e2
  | none => .no
section
variable {K : PySem.W.Frag} {C : Cc} {H : Hp} {ow : Ow}
variable {X : Cx} {e : Expr} {es : List Expr} {t : Env → Rs PyData} {u : Env → Rs (List AO)}
theorem ROi.stay {σ : L2.St} {H' : Hp} {ow' : Ow} (st : Stay H ow H' ow') : ∀ {vs : List V} {r : List AO}, ROi K σ H ow vs r → ROi K σ H' ow' vs r
  | _, _, .nil => .nil
  | _, _, .d h tl => .d (h.stay st) (tl.stay st)
  | _, _, .l h tl => .l h (tl.stay st)
  | _, _, .t h tl => .t (h.stay st fun p hp => nomatch hp) (tl.stay st)
end
/-- what is lent -/
def lendM : M → Option M
  | .d x => some (.d x)
  | .l xs => some (.d (.list xs))
  | .o c fs => some (.fo c (frzFs fs))
  | .fo c fs => some (.fo c fs)
  | _ => none
def aoM (env : Env) : AO → Option M
  | .d x => some (.d x)
  | .l j => env[j]?.join.bind lendM
  | .t m => some m
def aoMs (env : Env) : List AO → Option (List M)
  | [] => some []
  | a :: r => (aoM env a).bind fun m => (aoMs env r).map (m :: ·)
def resO : M → Bool
  | .d x => scalar x
  | .l xs => xs.all scal0
  | _ => false
def callO (ar : Nat) (F : Fn) (als : List AO) (env : Env) : Rs M := match aoMs env als with
  | none => .no
  | some ms => if als.length = ar then match F ms with
    | .rt m _ => if resO m = true then .ok m env else .no
    | _ => .no
    else .no
def eCallO (ar : Nat) (F : Fn) (t : Env → Rs (List AO)) : Env → Rs M := fun env => (t env).bind fun als e => callO ar F als e
section
variable {K : PySem.W.Frag} {C : Cc}
theorem ROi.length {σ : L2.St} {H : Hp} {ow : Ow} : ∀ {vs : List V} {r : List AO}, ROi K σ H ow vs r → vs.length = r.length
  | _, _, .nil => rfl
  | _, _, .d _ tl => by simp [tl.length]
  | _, _, .l _ tl => by simp [tl.length]
  | _, _, .t _ tl => by simp [tl.length]
variable {X : Cx}
/-- o.m(..), o lent -/
def eMethO (c : Addr) (i : Nat) (m : Str) (ar : Nat) (F : Fn) (t : Env → Rs (List AO)) : Env → Rs M := fun env => match slotFo c env i with
  | some fs => if (lookF m fs).isNone = true then (t env).bind fun als e => callO ar F (.l i :: als) e else .no
  | none => match slotO c env i with
    | some fs => if (lookF m fs).isNone = true then (t env).bind fun als e => callO ar F (.l i :: als) e else .no
    | none => .no
end
end DL
namespace DL
open PySem PySem.Spec PyProof.Rows L2
section
variable {X : Cx} {C : Cc} {K : PySem.W.Frag} {pos : Pos}
/-- sorted(xs) as a new owned list -/
def mSrtO (i : Nat) : Env → Rs M := fun env => lift ((slotL env i).bind fun ds => if okSort ds = true then some (.l (ds.mergeSort srtLe)) else none) env
theorem mSrtO_eq (i : Nat) (env : Env) : mSrtO i env = lift ((slotL env i).bind fun ds => if okSort ds = true then some (.l (ds.mergeSort srtLe)) else none) env := by
  unfold mSrtO
  exact id rfl
end
end DL
namespace DL
open PySem PySem.Spec PyProof.Rows L2
def fldM (c : Addr) (f : Str) : M → Option PyData
  | .fo c' fs => if c' = c then lookF f fs else none
  | .o c' fs => if c' = c then (lookF f fs).bind flD else none
  | _ => none
@[simp] theorem eFld_eq (c i f) (env : Env) : eFld c i f env = lift (env[i]?.join.bind (fldM c f)) env := by
  unfold eFld slotFo slotO
  cases env[i]? with
  | none => rfl
  | some o => cases o with
    | none => rfl
    | some m => cases m with
      | o c' fs => by_cases h : c' = c <;> simp [h, fldM]
      | fo c' fs => by_cases h : c' = c <;> simp [h, fldM]
      | _ => rfl
def fldIx (c : Addr) (f : Str) : M → PyData → Option PyData
  | .o c' fs, .int k => if c' = c then ((lookF f fs).bind flL).bind fun xs => atI xs k else none
  | _, _ => none
@[simp] theorem eFldIx_eq (c i f j) (env : Env) : eFldIx c i f j env = lift (env[i]?.join.bind fun m => (slotD env j).bind (fldIx c f m)) env := by
  unfold eFldIx slotO
  cases env[i]? with
  | none => rfl
  | some o => cases o with
    | none => rfl
    | some m => cases m with
      | o c' fs =>
        cases slotD env j with
        | none => by_cases h : c' = c <;> simp [h]
        | some d =>
          cases d with
          | int k =>
            show (match (if c' = c then some fs else none), some (PyData.int k) with | some fs, some (.int k) => lift (((lookF f fs).bind flL).bind fun xs => atI xs k) env | _, _ => .no) = lift (if c' = c then ((lookF f fs).bind flL).bind fun xs => atI xs k else none) env
            by_cases h : c' = c
            · rw [if_pos h, if_pos h]
            · rw [if_neg h, if_neg h]; rfl
          | _ =>
            simp only [Option.join_some, Option.bind_some, fldIx, lift_none]
            by_cases h : c' = c <;> simp [h]
      | _ => cases slotD env j <;> rfl
def setM (c : Addr) (f : Str) (d : PyData) : M → PyData → Option M
  | .o c' fs, .int k => if c' = c then ((lookF f fs).bind flL).bind fun xs => (ixN xs.length k).map fun n => .o c (putFl f (.l (xs.set n d)) fs) else none
  | _, _ => none
@[simp] theorem setFl_eq (c i f j d) (env : Env) : setFl c i f j d env = optOut (env[i]?.join.bind fun m => (slotD env j).bind (setM c f d m)) fun m => .nx (env.set i (some m)) := by
  unfold setFl slotO
  cases env[i]? with
  | none => rfl
  | some o => cases o with
    | none => rfl
    | some m => cases m with
      | o c' fs =>
        simp only [Option.join_some, Option.bind_some]
        cases slotD env j with
        | none => by_cases h : c' = c <;> simp [h]
        | some z =>
          cases z with
          | int k =>
            by_cases h : c' = c
            · subst h
              simp only [if_true, Option.bind_some, setM]
              cases (lookF f fs).bind flL with
              | none => rfl
              | some xs =>
                simp only [Option.bind_some]
                cases ixN xs.length k <;> rfl
            · simp [h, setM]
          | _ => by_cases h : c' = c <;> simp [h, setM]
      | _ => cases slotD env j <;> rfl
@[simp] theorem sFldSet_eq (c i f j t) (env : Env) : sFldSet c i f j t env = sE t (setFl c i f j) env := id rfl
def obM (c : Addr) (m : Str) : M → Bool
  | .o c' fs => decide (c' = c) && (lookF m fs).isNone
  | _ => false
def obF (c : Addr) (m : Str) : M → Bool
  | .o c' fs => decide (c' = c) && (lookF m fs).isNone
  | .fo c' fs => decide (c' = c) && (lookF m fs).isNone
  | _ => false
@[simp] theorem eMeth_eq (c i m ar F t) (env : Env) : eMeth c i m ar F t env = optRs (env[i]?.join) fun o => if obM c m o = true then (t env).bind fun avs e => callM ar F (.s i :: avs) e else .no := by
  unfold eMeth slotO
  cases env[i]? with
  | none => rfl
  | some o => cases o with
    | none => rfl
    | some x => cases x with
      | o c' fs => by_cases h : c' = c <;> simp [h, obM]
      | _ => simp [obM]
@[simp] theorem eMethO_eq (c i m ar F t) (env : Env) : eMethO c i m ar F t env = optRs (env[i]?.join) fun o => if obF c m o = true then (t env).bind fun avs e => callO ar F (.l i :: avs) e else .no := by
  unfold eMethO slotO slotFo
  cases env[i]? with
  | none => rfl
  | some o => cases o with
    | none => rfl
    | some x => cases x with
      | o c' fs => by_cases h : c' = c <;> simp [h, obF]
      | fo c' fs => by_cases h : c' = c <;> simp [h, obF]
      | _ => simp [obF]
@[simp] theorem aoNil_eq (env : Env) : aoNil env = .ok [] env := id rfl
@[simp] theorem aoD_eq (t u) (env : Env) : aoD t u env = (t env).bind fun x e1 => (u e1).bind fun r e2 => .ok (.d x :: r) e2 := id rfl
@[simp] theorem aoL_eq (j u) (env : Env) : aoL j u env = optRs (env[j]?.join) fun _ => (u env).bind fun r e2 => .ok (.l j :: r) e2 := by
  unfold aoL
  cases env[j]? with
  | none => rfl
  | some o => cases o <;> rfl
@[simp] theorem aoT_eq (t u) (env : Env) : aoT t u env = (t env).bind fun m e1 => optRs (frzT m) fun m' => (u e1).bind fun r e2 => .ok (.t m' :: r) e2 := by
  unfold aoT
  congr 1
  funext m e1
  cases frzT m <;> rfl
@[simp] theorem aoMs_nil (env : Env) : aoMs env [] = some [] := id rfl
@[simp] theorem aoMs_cons (env : Env) (a r) : aoMs env (a :: r) = (aoM env a).bind fun m => (aoMs env r).map (m :: ·) := id rfl
@[simp] theorem aoM_d (env : Env) (x) : aoM env (.d x) = some (.d x) := id rfl
@[simp] theorem aoM_l (env : Env) (j) : aoM env (.l j) = env[j]?.join.bind lendM := id rfl
@[simp] theorem aoM_t (env : Env) (m) : aoM env (.t m) = some m := id rfl
def toRO (env : Env) : FOut → Rs M
  | .rt m _ => if resO m = true then .ok m env else .no
  | _ => .no
@[simp] theorem toRO_rt (env : Env) (m os) : toRO env (.rt m os) = if resO m = true then .ok m env else .no := id rfl
@[simp] theorem callO_eq (ar F als) (env : Env) : callO ar F als env = optRs (aoMs env als) fun ms => if als.length = ar then toRO env (F ms) else .no := by
  unfold callO
  cases aoMs env als with
  | none => rfl
  | some ms =>
    show (if _ then _ else _) = if _ then _ else _
    split
    · cases F ms <;> rfl
    · rfl
@[simp] theorem eCallO_eq (ar F t) (env : Env) : eCallO ar F t env = (t env).bind fun als e => callO ar F als e := id rfl
@[simp] theorem lendM_d (x) : lendM (.d x) = some (.d x) := id rfl
@[simp] theorem resO_d (x) : resO (.d x) = scalar x := id rfl
@[simp] theorem resO_l (ns : List Int) : resO (.l (ns.map .int)) = true := by
  show ((ns.map PyData.int).all scal0) = true
  rw [List.all_map, List.all_eq_true]
  intro i _
  rfl
/-- what the making of an object gives -/
def toMk (avs : List AV) (env : Env) : FOut → Rs M
  | .rt (.d .none) (some (.o c' fs) :: os) => .ok (.o c' fs) (putBack avs os env)
  | _ => .no
@[simp] theorem eMake_eq (c ar F t) (env : Env) : eMake c ar F t env = (t env).bind fun avs e => optRs (avMs e avs) fun ms => if avs.length + 1 = ar ∧ (jsOf avs).Nodup then toMk avs e (F (.o c [] :: ms)) else .no := by
  unfold eMake
  congr 1
  funext avs e
  cases avMs e avs with
  | none => rfl
  | some ms =>
    show (if _ then _ else _) = if _ then _ else _
    split
    · unfold toMk; rfl
    · rfl
@[simp] theorem toMk_rt (avs env c' fs os) : toMk avs env (.rt (.d .none) (some (.o c' fs) :: os)) = .ok (.o c' fs) (putBack avs os env) := id rfl
def putMF (c : Addr) (f : Str) (d : PyData) : M → Option M
  | .o c' fs => if c' = c ∧ fs.length < 1000 ∧ ((lookF f fs).bind flL).isNone = true then some (.o c (putFl f (.d d) fs)) else none
  | _ => none
@[simp] theorem putFld_eq (c i f d) (env : Env) : putFld c i f d env = optOut (env[i]?.join.bind (putMF c f d)) fun m => .nx (env.set i (some m)) := by
  unfold putFld slotO
  cases env[i]? with
  | none => rfl
  | some o => cases o with
    | none => rfl
    | some x => cases x with
      | o c' fs =>
        by_cases h : c' = c
        · subst h
          simp only [if_true, Option.join_some, Option.bind_some, putMF, true_and]
          split <;> rfl
        · simp [h, putMF]
      | _ => rfl
@[simp] theorem sFldD_eq (c i f t) (env : Env) : sFldD c i f t env = sE t (putFld c i f) env := id rfl
def putML (c : Addr) (f : Str) : M → M → Option M
  | .l ds, .o c' fs => if c' = c ∧ fs.length < 1000 ∧ (lookF f fs).isNone = true then some (.o c (putFl f (.l ds) fs)) else none
  | _, _ => none
@[simp] theorem putFldL_eq (c i f m) (env : Env) : putFldL c i f m env = optOut (env[i]?.join.bind (putML c f m)) fun m => .nx (env.set i (some m)) := by
  unfold putFldL slotO
  cases env[i]? with
  | none => cases m <;> rfl
  | some o => cases o with
    | none => cases m <;> rfl
    | some x => cases x with
      | o c' fs =>
        by_cases h : c' = c
        · subst h
          cases m with
          | l ds =>
            simp only [if_true, Option.join_some, Option.bind_some, putML, true_and]
            split <;> rfl
          | _ => simp [putML]
        · cases m <;> simp [h, putML]
      | _ => cases m <;> rfl
@[simp] theorem sFldL_eq (c i f t) (env : Env) : sFldL c i f t env = sE t (putFldL c i f) env := id rfl
end DL
namespace DL
open PySem PySem.Spec PyProof.Rows L2
end DL
namespace DLT
open PySem PySem.Spec PyProof.Rows L2 ZN
section
theorem go_tup3 {prog : Program} {w : World} {A : Around} {E : Value → Shared → Prop} {s : Shared} {elts : List Expr} {x1} {pos : Pos} {z TI TO T : Addr} {mk : Value} {fl : Bool} {Q : Unit → Shared → Prop} (hz : ZA s.heap z TI TO mk fl) (hm : Mk mk)
    (hQ : ∀ h' mk', ZA h' z TI TO mk' fl → Mk mk' → Heap.SameBut z s.heap h' → Q () { s with heap := h' }) :
    wpAny (model prog w) A (letOwnedTupleGo (.Tuple elts x1 pos) (.ref z) (.ref T)) Q E s := by
  unfold letOwnedTupleGo
  refine wpAny_bind (wpAny_load hz ?_)
  show wpAny _ _ (if (["enumerate", "zip", "dict_itemiterator", "dict_reverseitemiterator", "odict_iterator", "itertools.zip_longest", "itertools.pairwise"].contains "zip" &&
      (#[mk, .bool fl, .bool false, .ref TI, .ref TO] : Array Value)[0]? == some (rawInt T)) = true then _ else _) Q E s
  by_cases c : (["enumerate", "zip", "dict_itemiterator", "dict_reverseitemiterator", "odict_iterator", "itertools.zip_longest", "itertools.pairwise"].contains "zip" &&
      (#[mk, .bool fl, .bool false, .ref TI, .ref TO] : Array Value)[0]? == some (rawInt T)) = true
  · rw [if_pos c]
    refine wpAny_bind (wpAny_rule ?_)
    show wpAny _ _ (setField (.ref z) 0 .none) Q E s
    exact wpAny_setField_rec hz (by simp) fun h' hz' hs' => hQ h' .none hz' (.inl rfl) hs'
  · rw [if_neg c]
    exact wpAny_pure (hQ s.heap mk hz hm ⟨rfl, fun b _ => rfl⟩)
end
end DLT
namespace DLT
open PySem PySem.Spec PyProof.Rows L2 ZN
section
theorem callWith_ST {M : Model} {A : Around} {E : Value → Shared → Prop} {s : Shared} {env : Env} {pos p : Pos} {T : String} {Q : Value → Shared → Prop} {e : Expr}
    (h : wpAny M A (eval e env) (fun v s₁ => PySem.W.StarOf M A E v (fun vs s₂ => True ∧ wpAny M A (call (.type T) ([] ++ vs)) Q E s₂) s₁) E s)
    (he : starEach [.Starred e p] env = [(true, eval e env)] := by rfl) :
    wpAny M A (callWith pos (.type T) [] (backTo pos (starEach [.Starred e p] env)) []) Q E s := by
  rw [he]
  exact PySem.W.ks_call (P := fun _ => True) rfl (fun h _ => ⟨.machine, .inr (.inl rfl), PySem.W.Looks.of_pure rfl⟩) (PySem.W.ks_lone h)
end
end DLT
namespace DL
open PySem PySem.Spec PyProof.Rows L2
section
variable {X : Cx} {C : Cc} {K : PySem.W.Frag}
/-- for row in zip(*rows), three rows -/
def itZ3S (t : Env → Rs PyData) : Env → Rs (List PyData) := fun env => (t env).bind fun d e => lift ((seqOf d).bind bZip3) e
@[simp] theorem itZ3S_eq (t) (env : Env) : itZ3S t env = (t env).bind fun d e => lift ((seqOf d).bind bZip3) e := id rfl
end
end DL
set_option pp.maxSteps 3000
namespace ZM
open PySem PySem.Spec PyProof.Rows L2 ZN
/-- the sources: the iterators N, N + 1, .. over the tuples us -/
def srcs (N : Nat) (us : List ((Addr × Bool) × Array Value)) : List Src := (us.zipIdx N).map fun x => ⟨x.2, x.1.1.1, x.1.2, x.1.1.2⟩
theorem srcs_get (N : Nat) (us : List ((Addr × Bool) × Array Value)) (i : Nat) : (srcs N us)[i]? = us[i]?.map fun u => ⟨(N + i : Nat), u.1.1, u.2, u.1.2⟩ := by
  unfold srcs
  rw [List.getElem?_map, List.getElem?_zipIdx]
  cases us[i]? <;> rfl
theorem srcs_len (N : Nat) (us : List ((Addr × Bool) × Array Value)) : (srcs N us).length = us.length := by simp [srcs]
theorem refs_srcs (N : Nat) (us : List ((Addr × Bool) × Array Value)) : refs (srcs N us) = nums N us.length := by
  refine List.ext_getElem? fun i => ?_
  unfold refs nums
  rw [List.getElem?_map, srcs_get, List.getElem?_map]
  by_cases c : i < us.length
  · rw [List.getElem?_eq_getElem c, List.getElem?_range c]; rfl
  · rw [List.getElem?_eq_none (by omega), List.getElem?_eq_none (by simp; omega)]; rfl
theorem srcs_mem {N : Nat} {us : List ((Addr × Bool) × Array Value)} {p : Src} (h : p ∈ srcs N us) : ∃ i u, i < us.length ∧ us[i]? = some u ∧ p = ⟨(N + i : Nat), u.1.1, u.2, u.1.2⟩ := by
  obtain ⟨i, hi⟩ := List.getElem?_of_mem h
  rw [srcs_get] at hi
  obtain ⟨u, h1, h2⟩ := Option.map_eq_some_iff.mp hi
  exact ⟨i, u, (List.getElem?_eq_some_iff.mp h1).1, h1, h2.symm⟩
theorem sep_srcs {N n : Nat} {us : List ((Addr × Bool) × Array Value)} (hn : us.length = n) (h : ∀ u ∈ us, u.1.1 < N) : Sep (N + n + 2 : Nat) (N + n : Nat) (N + n + 1 : Nat) (srcs N us) := by
  have key : ∀ x y : Nat, x ≠ y → ¬ @Eq Addr x y := fun _ _ h => h
  refine ⟨key _ _ (by omega), key _ _ (by omega), key _ _ (by omega), ?_, fun p hp => ?_, fun p hp => ?_⟩
  · have e : (srcs N us).map Src.it = (us.zipIdx N).map Prod.snd := by
      unfold srcs
      rw [List.map_map]
      rfl
    rw [e, List.zipIdx_map_snd]
    exact List.nodup_range'
  · obtain ⟨i, u, hi, _, rfl⟩ := srcs_mem hp
    exact ⟨key (N + i) (N + n + 2) (by omega), key (N + i) (N + n) (by omega), key (N + i) (N + n + 1) (by omega)⟩
  · obtain ⟨i, u, hi, hu, rfl⟩ := srcs_mem hp
    have hl : (u.1.1 : Nat) < N := h u (List.mem_of_getElem? hu)
    have l2 : ∀ y : Nat, N ≤ y → ¬ @Eq Addr u.1.1 y := fun y hy e => Nat.lt_irrefl N (Nat.lt_of_le_of_lt hy (Eq.subst (motive := fun z : Nat => z < N) e hl))
    refine ⟨l2 (N + n + 2) (by omega), l2 (N + n + 1) (by omega), fun q hq => ?_⟩
    obtain ⟨j, u', hj, _, rfl⟩ := srcs_mem hq
    exact l2 (N + j) (by omega)
/-- the list or tuple at p -/
def SqX (K : PySem.W.Frag) (H : Hp) (p : Addr × Bool) (xs : List V) : Prop := if p.2 = true then SqL K H p.1 xs else SqT K H p.1 xs
theorem SqX.read {X : Cx} {pps : List (Addr × Obj)} {σ : L2.St} {H : Hp} {s : Shared} (I : Inv X pps σ H s) {p : Addr × Bool} {xs : List V} (h : SqX X.K H p xs) : ∃ its : List Value, Vals xs its ∧ IsSeqO p.2 s.heap p.1 its.toArray := by
  obtain ⟨a, l⟩ := p
  cases l with
  | true => obtain ⟨its, rv, hl, _⟩ := I.list (show SqL X.K H a xs from h); exact ⟨its, rv, hl.isList⟩
  | false => obtain ⟨its, rv, hl, _⟩ := I.tuple (show SqT X.K H a xs from h); exact ⟨its, rv, hl⟩
theorem SqX.inj {X : Cx} {pps : List (Addr × Obj)} {σ : L2.St} {H : Hp} {s : Shared} (I : Inv X pps σ H s) {p : Addr × Bool} {xs ys : List V} (h : SqX X.K H p xs) (h' : SqX X.K H p ys) : xs = ys := by
  obtain ⟨a, l⟩ := p
  cases l with
  | true => exact I.list_inj (show SqL X.K H a xs from h) h'
  | false => exact I.tuple_inj (show SqT X.K H a xs from h) h'
/-- lists and tuples, turn by turn, the items in a new tuple -/
def ItN (K : PySem.W.Frag) (as : List (Addr × Bool)) : It :=
  ⟨fun ix H => ∀ a ∈ as, ∃ (xs : List V) (v : V), SqX K H a xs ∧ xs[ix]? = some v,
    fun ix H v H' => ∃ T vs zo, v = .ref T ∧ H T = none ∧ H' = upd H T (.frz zo (.tup vs)) ∧ zo.dict = none ∧ vs.length = as.length ∧ ∀ (i : Nat) (a : Addr × Bool) (xs : List V), as[i]? = some a → SqX K H a xs → xs[ix]? = vs[i]?,
    fun ix H => (∀ a ∈ as, ∃ xs : List V, SqX K H a xs) ∧ ∃ (j : Nat) (a : Addr × Bool) (xs : List V), as[j]? = some a ∧ SqX K H a xs ∧ xs.length ≤ ix ∧ ∀ (i : Nat) (q : Addr × Bool), i < j → as[i]? = some q → ∃ ys : List V, SqX K H q ys ∧ ix < ys.length⟩
def tnN (N : Nat) (as : List (Addr × Bool)) (ix : Nat) (h : Heap) : Prop :=
  (∃ mk fl, ZA h (N + as.length + 2 : Nat) (N + as.length : Nat) (N + as.length + 1 : Nat) mk fl ∧ Mk mk) ∧ TupA h (N + as.length : Nat) (nums N as.length).toArray ∧ (∃ c, TupA h (N + as.length + 1 : Nat) c ∧ c.size = as.length) ∧
    ∀ (i : Nat) (a : Addr × Bool), as[i]? = some a → IsIter a.2 h (N + i : Nat) a.1 ix
def fpN (N n : Nat) : List Addr := (N + n + 2 : Nat) :: (N + n : Nat) :: (N + n + 1 : Nat) :: (List.range n).map fun i => (N + i : Nat)
theorem tnN_obj {N : Nat} {as : List (Addr × Bool)} {ix : Nat} {h : Heap} (sta : tnN N as ix h) : ∀ b ∈ fpN N as.length, ∃ o, h.get? b = some o ∧ ∀ v, o.data ≠ .cell v := by
  obtain ⟨⟨mk, fl, gz, _⟩, gTI, ⟨c, gTO, _⟩, gi⟩ := sta
  intro b hb
  rcases List.mem_cons.1 hb with rfl | hb
  · exact ⟨_, gz, fun v e => nomatch e⟩
  rcases List.mem_cons.1 hb with rfl | hb
  · exact ⟨_, gTI, fun v e => nomatch e⟩
  rcases List.mem_cons.1 hb with rfl | hb
  · exact ⟨_, gTO, fun v e => nomatch e⟩
  obtain ⟨i, hi, rfl⟩ := List.mem_map.1 hb
  have hi := List.mem_range.1 hi
  exact (gi i _ (List.getElem?_eq_getElem hi)).obj
theorem pick {X : Cx} {pps : List (Addr × Obj)} {σ : L2.St} {H : Hp} {sh : Shared} (I : Inv X pps σ H sh) (ix : Nat) : ∀ as : List (Addr × Bool), (∀ a ∈ as, ∃ (xs : List V) (v : V), SqX X.K H a xs ∧ xs[ix]? = some v) →
    ∃ (us : List ((Addr × Bool) × Array Value)) (vs : List V) (ws : List Value), us.map Prod.fst = as ∧ Vals vs ws ∧ (∀ (i : Nat) u, us[i]? = some u → IsSeqO u.1.2 sh.heap u.1.1 u.2 ∧ ∃ w, u.2[ix]? = some w ∧ ws[i]? = some w) ∧
      (∀ (i : Nat) (a : Addr × Bool) (xs : List V), as[i]? = some a → SqX X.K H a xs → xs[ix]? = vs[i]?) ∧ vs.length = as.length
  | [], _ => ⟨[], [], [], rfl, .nil, fun i u h => by simp at h, fun i a xs h => by simp at h, rfl⟩
  | a :: as, h => by
    obtain ⟨us, vs, ws, e1, rv, hu, hx, hl⟩ := pick I ix as fun b hb => h b (List.mem_cons_of_mem _ hb)
    obtain ⟨xs, v, lx, gx⟩ := h a List.mem_cons_self
    obtain ⟨t1, s1, p1⟩ := lx.read I
    obtain ⟨w, hw, r⟩ := s1.get gx
    refine ⟨(a, t1.toArray) :: us, v :: vs, w :: ws, by rw [List.map_cons, e1], .cons r rv, fun i u hi => ?_, fun i b ys hi ly => ?_, by rw [List.length_cons, List.length_cons, hl]⟩
    · cases i with
      | zero =>
        cases hi
        exact ⟨p1, w, by simpa using hw, rfl⟩
      | succ i => exact hu i u hi
    · cases i with
      | zero =>
        cases hi
        rw [ly.inj I lx]
        exact gx
      | succ i => exact hx i b ys hi ly
theorem pickAll {X : Cx} {pps : List (Addr × Obj)} {σ : L2.St} {H : Hp} {sh : Shared} (I : Inv X pps σ H sh) : ∀ as : List (Addr × Bool), (∀ a ∈ as, ∃ xs : List V, SqX X.K H a xs) →
    ∃ us : List ((Addr × Bool) × Array Value), us.map Prod.fst = as ∧ ∀ (i : Nat) u, us[i]? = some u → IsSeqO u.1.2 sh.heap u.1.1 u.2 ∧ ∃ xs its, SqX X.K H u.1 xs ∧ Vals xs its ∧ u.2 = its.toArray
  | [], _ => ⟨[], rfl, fun i u h => by simp at h⟩
  | a :: as, h => by
    obtain ⟨us, e1, hu⟩ := pickAll I as fun b hb => h b (List.mem_cons_of_mem _ hb)
    obtain ⟨xs, lx⟩ := h a List.mem_cons_self
    obtain ⟨t1, s1, p1⟩ := lx.read I
    refine ⟨(a, t1.toArray) :: us, by rw [List.map_cons, e1], fun i u hi => ?_⟩
    cases i with
    | zero =>
      cases hi
      exact ⟨p1, xs, t1, lx, s1, rfl⟩
    | succ i => exact hu i u hi
/-- a name, or names -/
inductive TgOk : Expr → Prop
  | nm (x : Str) (p : Pos) : TgOk (.Name x p)
  | tp (es : List Expr) (k) (p : Pos) : TgOk (.Tuple es k p)
theorem go_tg {prog : Program} {w : World} {A : Around} {E : Value → Shared → Prop} {s : Shared} {tg : Expr} {z TI TO T : Addr} {mk : Value} {fl : Bool} {Q : Unit → Shared → Prop} (ht : TgOk tg) (hz : ZA s.heap z TI TO mk fl) (hm : Mk mk)
    (hQ : ∀ h' mk', ZA h' z TI TO mk' fl → Mk mk' → Heap.SameBut z s.heap h' → Q () { s with heap := h' }) : wpAny (model prog w) A (letOwnedTupleGo tg (.ref z) (.ref T)) Q E s := by
  cases ht with
  | nm x p =>
    unfold letOwnedTupleGo
    exact wpAny_pure (hQ s.heap mk hz hm (Heap.SameBut.refl _ _))
  | tp es k p => exact DLT.go_tup3 hz hm hQ
theorem turn_zipN {P : Program} {w : World} {K : PySem.W.Frag} {tg : Expr} (htg : TgOk tg) {as : List (Addr × Bool)} {N : Nat} (hlt : ∀ a ∈ as, (a.1 : Nat) < N) (hne : as ≠ []) (h6 : as.length ≤ 1000) :
    Turn P w K tg (ItN K as) (fpN N as.length) (N + as.length + 2 : Nat) (tnN N as) where
  mem := List.mem_cons_self
  obj := fun ix h sta => tnN_obj sta
  keep := fun ix h h' sta k => by
    obtain ⟨⟨mk, fl, gz, gm⟩, gTI, ⟨c, gTO, hc⟩, gi⟩ := sta
    refine ⟨⟨mk, fl, k _ List.mem_cons_self _ gz, gm⟩, k _ (List.mem_cons_of_mem _ List.mem_cons_self) _ gTI, ⟨c, k _ (List.mem_cons_of_mem _ (List.mem_cons_of_mem _ List.mem_cons_self)) _ gTO, hc⟩, fun i a hi => (gi i a hi).at fun o e => k _ ?_ o e⟩
    exact List.mem_cons_of_mem _ (List.mem_cons_of_mem _ (List.mem_cons_of_mem _ (List.mem_map.2 ⟨i, List.mem_range.2 (List.getElem?_eq_some_iff.mp hi).1, rfl⟩)))
  item := by
    intro X hP hw hK cc ix pps sh σ H EE I fo sta yg
    subst hP hw hK
    have ob := tnN_obj sta
    obtain ⟨⟨mk, fl, gz, gm⟩, gTI, ⟨c, gTO, hc⟩, gi⟩ := sta
    obtain ⟨us, vs, ws, e1, rv, hu, hx, hl⟩ := pick I ix as yg
    have lu : us.length = as.length := by rw [← e1, List.length_map]
    have hzl : (N + as.length + 2 : Nat) < sh.heap.objs.size := Heap.lt_size gz
    have hTy : sh.TypeIs (.ref (N + as.length + 2 : Nat)) "zip" := ⟨_, gz, rfl⟩
    have S : Sep (N + as.length + 2 : Nat) (N + as.length : Nat) (N + as.length + 1 : Nat) (srcs N us) := sep_srcs lu fun u hu' => hlt _ (by rw [← e1]; exact List.mem_map.2 ⟨u, hu', rfl⟩)
    have hsne : srcs N us ≠ [] := fun z => by
      have := srcs_len N us
      rw [z, lu] at this
      exact hne (List.eq_nil_of_length_eq_zero this.symm)
    have asu : ∀ (i : Nat) u, us[i]? = some u → as[i]? = some u.1 := fun i u h => by rw [← e1, List.getElem?_map, h]; rfl
    have gTI' : TupA sh.heap (N + as.length : Nat) (refs (srcs N us)).toArray := by rw [refs_srcs, lu]; exact gTI
    unfold pyNext
    refine wpAny_bind (wpAny_attempt (wpAny_callSpecial?_slot (name := Str.ofString "__next__") hTy F.slot_zip_next (wpAny_call_entry F.slot_zip_next hTy F.entry_zip_next
      (next_item (ps := srcs N us) (vals := ws) (k := ix) S hsne (by rw [← rv.length, hl, srcs_len, lu]) (fun i p hp => ?_) (by rw [srcs_len, lu]; exact h6) gz gm gTI' gTO (by rw [hc, srcs_len, lu]) (fun p hp => ?_) fun h' mk' fl' gz' gm' gTO' ha' hT hsz hk => wpAny_pure ?_) (F.args_zip_next_1 _))))
    · rw [srcs_get] at hp
      obtain ⟨u, h1, rfl⟩ := Option.map_eq_some_iff.mp hp
      exact (hu i u h1).2
    · obtain ⟨i, u, hi, h1, rfl⟩ := srcs_mem hp
      exact ⟨gi i _ (asu i u h1), (hu i u h1).1⟩
    · refine ⟨_, rfl, ?_⟩
      refine go_tg (s := { sh with heap := h' }) htg gz' gm' fun h2 mk2 gz2 gm2 sb => ?_
      have up : ∀ b o, b ≠ (N + as.length + 2 : Nat) → h'.get? b = some o → h2.get? b = some o := fun b o hb q => (sb.2 b hb).trans q
      have hk' : ∀ b o, b ∉ fpN N as.length → sh.heap.get? b = some o → h2.get? b = some o := fun b o nb q => up b o (fun e => nb (by rw [e]; exact List.mem_cons_self)) (hk b o (fun e => nb (by rw [e]; exact List.mem_cons_self)) (fun e => nb (by rw [e]; exact List.mem_cons_of_mem _ (List.mem_cons_of_mem _ List.mem_cons_self))) (fun p hp e => by
        obtain ⟨i, u, hi, h1, rfl⟩ := srcs_mem hp
        exact nb (by rw [e]; exact List.mem_cons_of_mem _ (List.mem_cons_of_mem _ (List.mem_cons_of_mem _ (List.mem_map.2 ⟨i, List.mem_range.2 (by omega), rfl⟩))))) q)
      have hT2 : TupA h2 sh.heap.objs.size ws.toArray := up _ _ (Nat.ne_of_gt hzl) hT
      have neu : ObjOk X.prog X.w (upd H sh.heap.objs.size (.frz { cls := .type "tuple", data := .seq ws.toArray } (.tup vs))) h2 sh.heap.objs.size (.frz { cls := .type "tuple", data := .seq ws.toArray } (.tup vs)) :=
        ⟨hT2, by show vs.length ≤ sizeLine; rw [hl, sizeLine_eq]; omega, ws, rv, ⟨_, hT2, rfl, _, rfl⟩⟩
      have I1 : Inv X pps σ (upd H sh.heap.objs.size (.frz { cls := .type "tuple", data := .seq ws.toArray } (.tup vs))) { sh with heap := h2 } :=
        I.turnedNew (t' := sh.toks) (ch := fpN N as.length) hk' fo (Nat.le_refl _) neu
      refine ⟨.ref sh.heap.objs.size, _, I1, rfl, ⟨_, vs, _, rfl, I.hok.fresh (Nat.le_refl _), rfl, rfl, hl, fun i a xs ha lx => hx i a xs ha lx⟩, ⟨⟨mk2, fl', gz2, gm2⟩, up _ _ S.TIz (hk _ _ S.TIz S.TITO (fun p hp => (S.iz p hp).2.1.symm) gTI), ?_, fun i a hi => ?_⟩, fun d hd => ?_⟩
      · obtain ⟨c', g', hc'⟩ := gTO'
        exact ⟨c', up _ _ S.TOz g', by rw [hc', srcs_len, lu]⟩
      · have hil := (List.getElem?_eq_some_iff.mp hi).1
        have hiu : us[i]? = some us[i] := List.getElem?_eq_getElem (by omega)
        have e2 := asu i _ hiu
        rw [hi] at e2
        have e2 : a = (us[i]'(by omega)).1 := Option.some.inj e2
        subst e2
        have hm : (⟨(N + i : Nat), (us[i]'(by omega)).1.1, (us[i]'(by omega)).2, (us[i]'(by omega)).1.2⟩ : Src) ∈ srcs N us := List.mem_of_getElem? (i := i) (by rw [srcs_get, hiu]; rfl)
        exact (ha' _ hm).1.at fun o q => up _ o (S.iz _ hm).1 q
      · obtain ⟨o, ho, _⟩ := ob d hd
        rw [upd_ne (Nat.ne_of_lt (Heap.lt_size ho))]
        exact (fo d hd).1
  done := by
    intro X hP hw hK cc ix pps sh σ H EE I fo sta yg
    subst hP hw hK
    obtain ⟨⟨mk, fl, gz, gm⟩, gTI, ⟨c, gTO, hc⟩, gi⟩ := sta
    obtain ⟨yall, j, a, xs, hja, lx, hle, hbe⟩ := yg
    obtain ⟨us, e1, hu⟩ := pickAll I as yall
    have lu : us.length = as.length := by rw [← e1, List.length_map]
    have asu : ∀ (i : Nat) u, us[i]? = some u → as[i]? = some u.1 := fun i u h => by rw [← e1, List.getElem?_map, h]; rfl
    have S : Sep (N + as.length + 2 : Nat) (N + as.length : Nat) (N + as.length + 1 : Nat) (srcs N us) := sep_srcs lu fun u hu' => hlt _ (by rw [← e1]; exact List.mem_map.2 ⟨u, hu', rfl⟩)
    have gTI' : TupA sh.heap (N + as.length : Nat) (refs (srcs N us)).toArray := by rw [refs_srcs, lu]; exact gTI
    have hh : X.A.in1.handled = none := I.ok.hd cc
    have hTy : sh.TypeIs (.ref (N + as.length + 2 : Nat)) "zip" := ⟨_, gz, rfl⟩
    have hjl := (List.getElem?_eq_some_iff.mp hja).1
    have hju : us[j]? = some us[j] := List.getElem?_eq_getElem (by omega)
    have ea : a = (us[j]'(by omega)).1 := by
      have := asu j _ hju
      rw [hja] at this
      exact Option.some.inj this
    have hp0 : (srcs N us)[j]? = some ⟨(N + j : Nat), (us[j]'(by omega)).1.1, (us[j]'(by omega)).2, (us[j]'(by omega)).1.2⟩ := by rw [srcs_get, hju]; rfl
    unfold pyNext
    refine wpAny_bind (wpAny_attempt (wpAny_callSpecial?_slot (name := Str.ofString "__next__") hTy F.slot_zip_next (wpAny_call_entry F.slot_zip_next hTy F.entry_zip_next
      (next_endG (k := ix) hh S (by rw [srcs_len, lu]; exact h6) hp0 ?_ (fun i p hi hp => ?_) gz gm gTI' gTO (by rw [hc, srcs_len, lu]) (fun p hp => ?_) fun h' e hk he => ?_) (F.args_zip_next_1 _))))
    · obtain ⟨_, ys, its, ly, ry, ey⟩ := hu j _ hju
      rw [← ea] at ly
      have := ly.inj I lx
      subst this
      have lr := ry.length
      show (us[j]'(by omega)).2[ix]? = none
      rw [ey]
      simp; omega
    · rw [srcs_get] at hp
      obtain ⟨u, h1, rfl⟩ := Option.map_eq_some_iff.mp hp
      obtain ⟨_, ys, its, ly, ry, ey⟩ := hu i u h1
      obtain ⟨ys', ly', lt⟩ := hbe i u.1 hi (asu i u h1)
      have ee := ly'.inj I ly
      subst ee
      have lr := ry.length
      exact ⟨its[ix]'(by omega), by show u.2[ix]? = _; rw [ey]; simp⟩
    · obtain ⟨i, u, hi, h1, rfl⟩ := srcs_mem hp
      exact ⟨gi i _ (asu i u h1), (hu i u h1).1⟩
    · obtain ⟨o, ho, hc'⟩ := he
      refine wpAny_bind (wpAny_isInstance (T := "StopIteration") (b := true) ⟨o, ho, hc'⟩ isSubtype_stop ?_)
      refine wpAny_pure ⟨rfl, I.turnedL (t' := sh.toks) (ch := fpN N as.length) (fun b o nb q => hk b o (fun e => nb (by rw [e]; exact List.mem_cons_self)) (fun e => nb (by rw [e]; exact List.mem_cons_of_mem _ (List.mem_cons_of_mem _ List.mem_cons_self))) (fun p hp e => ?_) q) fo⟩
      obtain ⟨i, u, hi, h1, rfl⟩ := srcs_mem hp
      exact nb (by rw [e]; exact List.mem_cons_of_mem _ (List.mem_cons_of_mem _ (List.mem_cons_of_mem _ (List.mem_map.2 ⟨i, List.mem_range.2 (by omega), rfl⟩))))
  self := fun A ix sh Q EE sta h => by
    obtain ⟨⟨mk, fl, gz, gm⟩, _⟩ := sta
    have hT : sh.TypeIs (.ref (N + as.length + 2 : Nat)) "zip" := ⟨_, gz, rfl⟩
    refine wpAny_pyIter_slot hT F.slot_zip_iter (wpAny_call_entry F.slot_zip_iter hT F.entry_zip_iter ?_ (F.args_zip_iter_1 _))
    show wpAny _ _ (ret (.ref (N + as.length + 2 : Nat))) _ _ sh
    exact wpAny_pure ⟨_, rfl, "zip", _, hT, F.slot_zip_next.lookup, h⟩
theorem refs_of : ∀ {as : List (Addr × Bool)} {uu : List Value}, Vals (as.map fun p => V.ref p.1) uu → uu = refT as
  | [], _, h => by cases h; rfl
  | a :: as, _, h => by
    cases h with
    | cons h1 h2 =>
      cases h1
      rw [refs_of h2]
      rfl
theorem zip_after {X : Cx} {pps : List (Addr × Obj)} {σ : L2.St} {H1 : Hp} {s1 : Shared} {tg : Expr} {R : It → Hp → Prop} {as : List (Addr × Bool)} (htg : TgOk tg) (I1 : Inv X pps σ H1 s1) (hne : as ≠ []) (h10 : as.length ≤ 10) (hts : ∀ a ∈ as, ∃ xs, SqX X.K H1 a xs) (q1 : R (ItN X.K as) H1) :
    wpAny (model X.prog X.w) X.A (call (.type "zip") (refT as)) (fun v s2 => wpAny (model X.prog X.w) X.A (pyIter v) (PIE X pps σ tg R) X.xe s2) X.xe s1 := by
  have tup : ∀ a ∈ as, ∃ xs, IsSeqO a.2 s1.heap a.1 xs := fun a ha => by
    obtain ⟨xs, lx⟩ := hts a ha
    obtain ⟨t1, _, p1⟩ := lx.read I1
    exact ⟨_, p1⟩
  refine zip_begins as h10 tup fun h' gz gTI gTO gi _ hk => wpAny_pyIter_zip gz ?_
  have I2 : Inv X pps σ H1 { s1 with heap := h' } := I1.kept (t' := s1.toks) hk
  have hlt : ∀ a ∈ as, (a.1 : Nat) < s1.heap.objs.size := fun a ha => by
    obtain ⟨xs, hs⟩ := tup a ha
    obtain ⟨t, l⟩ := a
    cases l with
    | true => obtain ⟨o, ho, _⟩ := (show s1.heap.IsList t xs from hs); exact Heap.lt_size ho
    | false => obtain ⟨o, ho, _⟩ := (show s1.heap.IsTuple t xs from hs); exact Heap.lt_size ho
  refine ⟨_, fpN s1.heap.objs.size as.length, tnN s1.heap.objs.size as, ItN X.K as, H1, rfl, I2, turn_zipN htg hlt hne (by omega), ⟨⟨_, _, gz, .inl rfl⟩, gTI, ⟨_, gTO, by simp [nums]⟩, gi⟩, fun d hd => ?_, q1⟩
  have le : s1.heap.objs.size ≤ d := by
    rcases List.mem_cons.1 hd with rfl | hd
    · exact Nat.le_trans (Nat.le_add_right _ _) (Nat.le_add_right _ 2)
    rcases List.mem_cons.1 hd with rfl | hd
    · exact Nat.le_add_right _ _
    rcases List.mem_cons.1 hd with rfl | hd
    · exact Nat.le_trans (Nat.le_add_right _ _) (Nat.le_add_right _ 1)
    obtain ⟨i, _, rfl⟩ := List.mem_map.1 hd
    exact Nat.le_add_right _ _
  exact I1.fpOk le (I1.hok.fresh le)
def iZipNS (K : PySem.W.Frag) (te : TE) : TI := fun σ H R => te σ H fun y H1 => ∃ a0 as, y = V.ref a0 ∧ (SqT K H1 a0 (as.map fun p : Addr × Bool => V.ref p.1) ∨ SqL K H1 a0 (as.map fun p : Addr × Bool => V.ref p.1)) ∧ as ≠ [] ∧ as.length ≤ 10 ∧ (∀ a ∈ as, ∃ xs, SqX K H1 a xs) ∧ R (ItN K as) H1
theorem pi_zipNS {X : Cx} {e : Expr} {te : TE} {pl1 sq pos : Pos} {tg : Expr} (htg : TgOk tg) (yg : Gl X "zip") (mz : X.mg "zip" = none) (he : PE X e te) (hst : starEach [.Starred e sq] X.env = [(true, eval e X.env)] := by rfl) :
    PI X tg (.Call (.Name "zip" pl1) [.Starred e sq] [] pos) (iZipNS X.K te) := by
  refine ⟨fun pps sh σ H R I h => ?_⟩
  refine Call_ (ld_blt I yg mz PyProof.Rows.boot_zip (DLT.callWith_ST (thn (he.run pps sh σ H _ I h) fun v0 s0 ⟨y, H1, I0, ry, a0, as, ey, hxs, hne, h10, hts, q1⟩ => ?_) hst))
  subst ey
  obtain rfl : v0 = Value.ref a0 := ry
  refine StX.star_any I0 hxs fun uu s1 I1 r1 => ⟨trivial, ?_⟩
  obtain rfl := refs_of r1
  rw [List.nil_append]
  exact zip_after htg I1 hne h10 hts q1
def iZipNA (K : PySem.W.Frag) (ta : TA) : TI := fun σ H R => ta σ H fun vs H1 => ∃ as, vs = (as.map fun p : Addr × Bool => V.ref p.1) ∧ as ≠ [] ∧ as.length ≤ 10 ∧ (∀ a ∈ as, ∃ xs, SqX K H1 a xs) ∧ R (ItN K as) H1
theorem pi_zipNA {X : Cx} {e1 : Expr} {es : List Expr} {ta : TA} {pl1 pos : Pos} {tg : Expr} (htg : TgOk tg) (yg : Gl X "zip") (mz : X.mg "zip" = none) (pa1 : PA X (e1 :: es) ta)
    (ns1 : starEach (e1 :: es) X.env = (false, eval e1 X.env) :: starEach es X.env := by rfl) (npl : (backTo pos (starEach es X.env)).any (·.1) = false := by rfl) :
    PI X tg (.Call (.Name "zip" pl1) (e1 :: es) [] pos) (iZipNA X.K ta) := by
  refine ⟨fun pps sh σ H R I h => ?_⟩
  refine Call_ (ld_blt I yg mz PyProof.Rows.boot_zip (PyProof.Rows.callWith_type1 (thn (pa1.run pos pps sh σ H _ I h) fun uu s1 ⟨vs, H1, I1, r1, as, ex, hne, h10, hts, q1⟩ => ?_) ns1 npl))
  subst ex
  obtain rfl := refs_of r1
  exact zip_after htg I1 hne h10 hts q1
end ZM
namespace DL
open PySem PySem.Spec PyProof.Rows L2
section
variable {X : Cx} {C : Cc} {K : PySem.W.Frag}
def tupsD : List PyData → Option (List (List PyData))
  | [] => some []
  | .tuple xs :: r => (tupsD r).map (xs :: ·)
  | _ => none
def zipN (rows : List (List PyData)) : List PyData := (List.range (rows.headD []).length).map fun i => .tuple (rows.map fun q => q.getD i .none)
def bZipN (ds : List PyData) : Option (List PyData) := (tupsD ds).bind fun rows => if rows ≠ [] ∧ rows.length ≤ 10 ∧ (rows.all fun q => q.length == (rows.headD []).length) = true then some (zipN rows) else none
/-- lists and tuples, of any lengths -/
def seqsD : List PyData → Option (List (Bool × List PyData))
  | [] => some []
  | .tuple xs :: r => (seqsD r).map ((false, xs) :: ·)
  | .list xs :: r => (seqsD r).map ((true, xs) :: ·)
  | _ => none
def minLen : List (List PyData) → Nat
  | [] => 0
  | [q] => q.length
  | q :: r => min q.length (minLen r)
def zipX (rows : List (List PyData)) : List PyData := (List.range (minLen rows)).map fun i => .tuple (rows.map fun q => q.getD i .none)
def bZipX (ds : List PyData) : Option (List PyData) := (seqsD ds).bind fun rows => if rows ≠ [] ∧ rows.length ≤ 10 then some (zipX (rows.map (·.2))) else none
theorem minLen_le : ∀ {rows : List (List PyData)}, ∀ q ∈ rows, minLen rows ≤ q.length
  | [p], q, h => by
    rw [List.mem_singleton] at h
    subst h
    exact Nat.le_refl _
  | p :: r :: rs, q, h => by
    show min p.length (minLen (r :: rs)) ≤ _
    rcases List.mem_cons.1 h with rfl | h
    · exact Nat.min_le_left _ _
    · exact Nat.le_trans (Nat.min_le_right _ _) (minLen_le q h)
/-- the first of the shortest -/
theorem minLen_at : ∀ {rows : List (List PyData)}, rows ≠ [] → ∃ j q, rows[j]? = some q ∧ q.length = minLen rows ∧ ∀ (i : Nat) p, i < j → rows[i]? = some p → minLen rows < p.length
  | [p], _ => ⟨0, p, rfl, rfl, fun i _ h => by omega⟩
  | p :: r :: rs, _ => by
    obtain ⟨j, q, h1, h2, h3⟩ := minLen_at (rows := r :: rs) (by simp)
    have e : minLen (p :: r :: rs) = min p.length (minLen (r :: rs)) := rfl
    by_cases c : p.length ≤ minLen (r :: rs)
    · exact ⟨0, p, rfl, by rw [e]; omega, fun i _ h => by omega⟩
    · refine ⟨j + 1, q, h1, by rw [e]; omega, fun i p' hi hp => ?_⟩
      cases i with
      | zero => cases hp; rw [e]; omega
      | succ i =>
        have := h3 i p' (by omega) hp
        rw [e]; omega
theorem minLen_eq : ∀ {rows : List (List PyData)} (m : Nat), rows ≠ [] → (∀ q ∈ rows, q.length = m) → minLen rows = m := fun {rows} m hne h => by
  obtain ⟨j, q, h1, h2, _⟩ := minLen_at hne
  rw [← h2, h q (List.mem_of_getElem? h1)]
theorem dvs_of {H : Hp} {ow : Ow} : ∀ {vs : List V} {ds : List PyData}, vs.length = ds.length → (∀ (i : Nat) v d, vs[i]? = some v → ds[i]? = some d → DV K H ow v d) → DVs K H ow vs ds
  | [], [], _, _ => .nil
  | [], _ :: _, h, _ => by simp at h
  | _ :: _, [], h, _ => by simp at h
  | v :: vs, d :: ds, h, q => .cons (q 0 v d rfl rfl) (dvs_of (by simpa using h) fun i v' d' h1 h2 => q (i + 1) v' d' h1 h2)
theorem zipX_get {rows : List (List PyData)} {i : Nat} (h : i < minLen rows) : (zipX rows)[i]? = some (.tuple (rows.map fun q => q.getD i .none)) := by
  unfold zipX
  rw [List.getElem?_map, List.getElem?_range h]
  rfl
theorem zipX_len (rows : List (List PyData)) : (zipX rows).length = minLen rows := by simp [zipX]
/-- what stands at a list or a tuple, as nobody's -/
def FX (K : PySem.W.Frag) (H : Hp) (ow : Ow) (a : Addr × Bool) (xs : List V) : Prop := if a.2 = true then H a.1 = some (.lst xs) ∧ ow a.1 = none else FT K H ow a.1 xs
theorem FX.stay {H H' : Hp} {ow ow' : Ow} {a : Addr × Bool} {xs : List V} (h : FX K H ow a xs) (st : Stay H ow H' ow') : FX K H' ow' a xs := by
  obtain ⟨t, l⟩ := a
  cases l with
  | true =>
    obtain ⟨h1, h2⟩ := (show H t = some (.lst xs) ∧ ow t = none from h)
    exact (st _ _ h1 h2)
  | false => exact (show FT K H ow t xs from h).stay st
theorem FX.sq {H : Hp} {ow : Ow} {a : Addr × Bool} {xs : List V} (h : FX K H ow a xs) : ZM.SqX K H a xs := by
  obtain ⟨t, l⟩ := a
  cases l with
  | true => exact (show SqL K H t xs from .of (show H t = some (.lst xs) ∧ ow t = none from h).1)
  | false => exact FT.sq (show FT K H ow t xs from h)
def RowsAt (K : PySem.W.Frag) (as : List (Addr × Bool)) (rows : List (List PyData)) (H : Hp) (ow : Ow) : Prop := ∀ (i : Nat) a q, as[i]? = some a → rows[i]? = some q → ∃ xs, FX K H ow a xs ∧ DVs K H ow xs q ∧ q.length ≤ 16777216
theorem wk_zipX {as : List (Addr × Bool)} {rows : List (List PyData)} (hl : as.length = rows.length) (hne : rows ≠ []) (h10 : rows.length ≤ 10) (hz : minLen rows ≤ 16777216) :
    Wk K (ZM.ItN K as) (zipX rows) (RowsAt K as rows) where
  st := fun H ow H' ow' h st i a q h1 h2 => by
    obtain ⟨xs, f, d, z⟩ := h i a q h1 h2
    exact ⟨xs, f.stay st, d.stay st, z⟩
  goes := fun i H ow hi h a ha => by
    rw [zipX_len] at hi
    obtain ⟨j, hj⟩ := List.getElem?_of_mem ha
    have hjr : j < rows.length := by rw [← hl]; exact (List.getElem?_eq_some_iff.mp hj).1
    obtain ⟨xs, f, d, z⟩ := h j a _ hj (List.getElem?_eq_getElem hjr)
    have e := minLen_le _ (List.getElem_mem hjr)
    have l := d.length
    exact ⟨xs, xs[i]'(by omega), f.sq, by simp⟩
  stops := fun H ow h => by
    rw [zipX_len]
    refine ⟨fun a ha => ?_, ?_⟩
    · obtain ⟨j, hj⟩ := List.getElem?_of_mem ha
      have hjr : j < rows.length := by rw [← hl]; exact (List.getElem?_eq_some_iff.mp hj).1
      obtain ⟨xs, f, d, z⟩ := h j a _ hj (List.getElem?_eq_getElem hjr)
      exact ⟨xs, f.sq⟩
    · obtain ⟨j, q, h1, h2, h3⟩ := minLen_at hne
      have hjr := (List.getElem?_eq_some_iff.mp h1).1
      have hja : as[j]? = some (as[j]'(by omega)) := List.getElem?_eq_getElem (by omega)
      obtain ⟨xs, f, d, z⟩ := h j _ _ hja h1
      have l := d.length
      refine ⟨j, _, xs, hja, f.sq, by omega, fun i p hi hp => ?_⟩
      have hir : i < rows.length := by omega
      obtain ⟨ys', f', d', z'⟩ := h i p _ hp (List.getElem?_eq_getElem hir)
      have l' := d'.length
      have := h3 i _ hi (List.getElem?_eq_getElem hir)
      exact ⟨ys', f'.sq, by omega⟩
  yields := fun i H ow x H' hi h ⟨T, vs, zo, e1, e2, e3, hd, lv, hx⟩ => by
    rw [zipX_len] at hi
    subst e1; subst e3
    refine ⟨off ow T, _, zipX_get hi, Gr.new e2, .tup (.new hd) (dvs_of (by rw [lv, hl, List.length_map]) fun j v d h1 h2 => ?_) (by rw [List.length_map]; omega)⟩
    have hjr : j < rows.length := by rw [← hl, ← lv]; exact (List.getElem?_eq_some_iff.mp h1).1
    have hja : as[j]? = some (as[j]'(by omega)) := List.getElem?_eq_getElem (by omega)
    obtain ⟨xs, f, dv, z⟩ := h j _ _ hja (List.getElem?_eq_getElem hjr)
    have e := minLen_le _ (List.getElem_mem hjr)
    have q := hx j _ xs hja f.sq
    rw [h1] at q
    rw [List.getElem?_map, List.getElem?_eq_getElem hjr] at h2
    have h2 : (rows[j]).getD i .none = d := Option.some.inj h2
    obtain ⟨v', k1, k2⟩ := dv.get (i := i) (d := d) (by rw [← h2, List.getD_eq_getElem?_getD, List.getElem?_eq_getElem (by omega)]; rfl)
    rw [q] at k1
    cases k1
    exact k2.stay (Gr.new e2).stay
  len := by rw [zipX_len]; exact hz
theorem rows_at {H : Hp} {ow : Ow} : ∀ {ds : List PyData} {ws : List V} {rows : List (Bool × List PyData)}, DVs K H ow ws ds → seqsD ds = some rows → ∃ as : List (Addr × Bool), ws = (as.map fun p => V.ref p.1) ∧ as.length = rows.length ∧ RowsAt K as (rows.map (·.2)) H ow
  | [], ws, rows, h, e => by
    cases h; cases e
    exact ⟨[], rfl, rfl, fun i a q h => by simp at h⟩
  | d :: ds, ws, rows, h, e => by
    cases h with
    | @cons w ws' _ _ h1 h2 =>
      cases d with
      | tuple xs =>
        have e : (seqsD ds).map ((false, xs) :: ·) = some rows := e
        obtain ⟨rows', e', rfl⟩ := Option.map_eq_some_iff.mp e
        obtain ⟨as, rfl, hl, ha⟩ := rows_at h2 e'
        cases h1 with
        | @tup a vs _ f1 d1 z1 =>
          refine ⟨(a, false) :: as, rfl, by rw [List.length_cons, List.length_cons, hl], fun i b q hb hq => ?_⟩
          cases i with
          | zero => cases hb; cases hq; exact ⟨vs, f1, d1, z1⟩
          | succ i => exact ha i b q hb hq
      | list xs =>
        have e : (seqsD ds).map ((true, xs) :: ·) = some rows := e
        obtain ⟨rows', e', rfl⟩ := Option.map_eq_some_iff.mp e
        obtain ⟨as, rfl, hl, ha⟩ := rows_at h2 e'
        cases h1 with
        | @lst a vs _ f1 f2 d1 z1 =>
          refine ⟨(a, true) :: as, rfl, by rw [List.length_cons, List.length_cons, hl], fun i b q hb hq => ?_⟩
          cases i with
          | zero => cases hb; cases hq; exact ⟨vs, ⟨f1, f2⟩, d1, z1⟩
          | succ i => exact ha i b q hb hq
      | _ => cases e
theorem seqs_tups : ∀ {ds : List PyData} {rows : List (List PyData)}, tupsD ds = some rows → seqsD ds = some (rows.map fun q => (false, q))
  | [], _, h => by cases h; rfl
  | d :: ds, rows, h => by
    cases d with
    | tuple xs =>
      have h : (tupsD ds).map (xs :: ·) = some rows := h
      obtain ⟨rs, h1, rfl⟩ := Option.map_eq_some_iff.mp h
      show (seqsD ds).map ((false, xs) :: ·) = _
      rw [seqs_tups h1]; rfl
    | _ => cases h
theorem zipN_X {ds : List PyData} {o : List PyData} (h : bZipN ds = some o) : bZipX ds = some o := by
  unfold bZipN at h
  unfold bZipX
  obtain ⟨rows, h1, h2⟩ := Option.bind_eq_some_iff.mp h
  rw [seqs_tups h1]
  have h2 : (if rows ≠ [] ∧ rows.length ≤ 10 ∧ (rows.all fun q => q.length == (rows.headD []).length) = true then some (zipN rows) else none) = some o := h2
  split at h2
  · rename_i c
    cases h2
    obtain ⟨c1, c2, c3⟩ := c
    show (if (rows.map fun q => (false, q)) ≠ [] ∧ (rows.map fun q => (false, q)).length ≤ 10 then some (zipX ((rows.map fun q => (false, q)).map (·.2))) else none) = _
    rw [if_pos ⟨by simpa using c1, by rw [List.length_map]; exact c2⟩]
    have e : (rows.map fun q => (false, q)).map (·.2) = rows := by rw [List.map_map]; exact List.map_id rows
    rw [e]
    unfold zipX zipN
    rw [minLen_eq (rows.headD []).length c1 fun q hq => beq_iff_eq.1 (List.all_eq_true.1 c3 q hq)]
  · cases h2
/-- the walk of zip -/
theorem zip_walk {H : Hp} {ow : Ow} {ds : List PyData} {ws : List V} {o : List PyData} (hv : DVs K H ow ws ds) (e : bZipX ds = some o) : ∃ as : List (Addr × Bool), ws = (as.map fun p => V.ref p.1) ∧ as ≠ [] ∧ as.length ≤ 10 ∧ (∀ a ∈ as, ∃ xs, ZM.SqX K H a xs) ∧ RI K H ow (ZM.ItN K as) o := by
  unfold bZipX at e
  obtain ⟨rows, hr, e⟩ := Option.bind_eq_some_iff.mp e
  have e : (if rows ≠ [] ∧ rows.length ≤ 10 then some (zipX (rows.map (·.2))) else none) = some o := e
  split at e
  · rename_i c
    cases e
    obtain ⟨c1, c2⟩ := c
    obtain ⟨as, e1, hl, hA⟩ := rows_at hv hr
    have hne : rows.map (·.2) ≠ [] := by simpa using c1
    have hz : minLen (rows.map (·.2)) ≤ 16777216 := by
      cases rows with
      | nil => exact absurd rfl c1
      | cons q rest =>
        have h0 : 0 < as.length := by rw [hl]; simp
        obtain ⟨_, _, _, z⟩ := hA 0 _ q.2 (List.getElem?_eq_getElem h0) rfl
        exact Nat.le_trans (minLen_le q.2 (by simp)) z
    refine ⟨as, e1, fun z => c1 ?_, by omega, fun a ha => ?_, _, wk_zipX (by rw [hl, List.length_map]) hne (by rw [List.length_map]; exact c2) hz, hA⟩
    · rw [z] at hl
      exact List.eq_nil_of_length_eq_zero hl.symm
    · obtain ⟨j, hj⟩ := List.getElem?_of_mem ha
      have hjr : j < (rows.map (·.2)).length := by rw [List.length_map, ← hl]; exact (List.getElem?_eq_some_iff.mp hj).1
      obtain ⟨xs, f, _⟩ := hA j a _ hj (List.getElem?_eq_getElem hjr)
      exact ⟨xs, f.sq⟩
  · cases e
def itZNS (t : Env → Rs PyData) : Env → Rs (List PyData) := fun env => (t env).bind fun d e => lift ((seqOf d).bind bZipN) e
@[simp] theorem itZNS_eq (t) (env : Env) : itZNS t env = (t env).bind fun d e => lift ((seqOf d).bind bZipN) e := id rfl
theorem di_zipNS {a : Expr} {nm : Str} {tpos : Pos} {t : Env → Rs PyData} {p sq pos : Pos} (hg : Gl X "zip") (hm : X.mg "zip" = none) (ha : DE X C a t)
    (hst : starEach [.Starred a sq] X.env = [(true, eval a X.env)] := by rfl) : DI X C (.Name nm tpos) (.Call (.Name "zip" p) [.Starred a sq] [] pos) (itZNS t) :=
  PIweak (ZM.pi_zipNS (.nm _ _) hg hm ha hst) fun σ H Q h => rd_one (R1 := RE X.K) h fun v x H ow env hv P h => by
    obtain ⟨o, e, h⟩ := rdAt_lift (v := Itr 0 0) h
    have fin : ∀ J, RI X.K H ow J o → Q J H := fun J k => h _ H ow Ext.refl k P
    cases hv with
    | @tup q ws ds h1 h3 hz =>
      obtain ⟨as, rfl, k1, k2, k3, k4⟩ := zip_walk h3 (zipN_X e)
      exact ⟨q, as, rfl, .inl h1.sq, k1, k2, k3, fin _ k4⟩
    | @lst q ws ds h1 h2 h3 hz =>
      obtain ⟨as, rfl, k1, k2, k3, k4⟩ := zip_walk h3 (zipN_X e)
      exact ⟨q, as, rfl, .inr (.of h1), k1, k2, k3, fin _ k4⟩
    | _ => cases e
/-- for tg in zip(e1, ..), lists and tuples in any mix and of any lengths: itB bZipX -/
theorem di_zipX {e1 : Expr} {es : List Expr} {tg : Expr} {t : Env → Rs (List PyData)} {p pos : Pos} (htg : ZM.TgOk tg) (hg : Gl X "zip") (hm : X.mg "zip" = none) (ha : DA X C (e1 :: es) t)
    (hs : starEach (e1 :: es) X.env = (false, eval e1 X.env) :: starEach es X.env := by rfl) (hpl : (backTo pos (starEach es X.env)).any (·.1) = false := by rfl) : DI X C tg (.Call (.Name "zip" p) (e1 :: es) [] pos) (itB bZipX t) :=
  PIweak (ZM.pi_zipNA htg hg hm ha hs hpl) fun σ H Q h => rd_one (R1 := RA X.K) h fun v x H ow env hv P h => by
    obtain ⟨o, e, h⟩ := rdAt_lift (v := Itr 0 0) h
    obtain ⟨as, rfl, k1, k2, k3, k4⟩ := zip_walk hv e
    exact ⟨as, rfl, k1, k2, k3, h _ H ow Ext.refl k4 P⟩
end
end DL
namespace DL
open PySem PySem.Spec PyProof.Rows L2
section
variable {X : Cx} {C : Cc} {K : PySem.W.Frag}
def bMinT : List PyData → Option PyData
  | [.tuple ds] => (intsOf ds).bind fun ns => match ns with | [] => none | n :: r => some (.int (minL n r))
  | xs => bMin xs
@[simp] theorem bMinT_t (n : Int) (r : List Int) : bMinT [.tuple ((n :: r).map .int)] = some (.int (minL n r)) := by
  show (intsOf ((n :: r).map .int)).bind _ = _
  rw [intsOf_map]
  rfl
end
end DL
namespace DL
open PySem PySem.Spec PyProof.Rows L2
section
variable {X : Cx} {C : Cc} {K : PySem.W.Frag}
def rMinD (K : PySem.W.Frag) : List V → Hp → VK → Prop := fun vs H Q => ∃ (a : Addr) (ws : List V) (x : PyData) (xs : List PyData), vs = [V.ref a] ∧ SqL K H a ws ∧ DpAll K H ws (x :: xs) ∧ PySem.W.AlikeAll (x :: xs) ∧ PyData.depthAll (x :: xs) ≤ 60 ∧
  ∀ (i : Nat) w d, ws[i]? = some w → (x :: xs)[i]? = some d → d = PySem.W.minD x xs → Q w H
theorem vals_back : ∀ {xs : List V} {us : List Value} {i : Nat} {u : Value}, Vals xs us → us[i]? = some u → ∃ x, xs[i]? = some x ∧ RelV x u
  | [], _, i, u, h, e => by cases h; simp at e
  | x :: xs, _, i, u, h, e => by
    cases h with
    | cons h1 h2 =>
      cases i with
      | zero => cases e; exact ⟨x, rfl, h1⟩
      | succ i =>
        obtain ⟨z, h3, h4⟩ := vals_back (xs := xs) (i := i) h2 (by simpa using e)
        exact ⟨z, by simpa using h3, h4⟩
theorem cr_minD (hc : X.calm = true) (hu : X.A.units + 65 < cLine) : CallR X (.builtin "min") (rMinD X.K) := by
  intro pins s σ H vs us Q I r h
  obtain ⟨a, ws, x, xs, rfl, hs, hd, hal, hdep, q⟩ := h
  obtain ⟨its, rv, hl, _⟩ := I.list hs
  rw [Vals.ref1 r]
  obtain ⟨as, ra⟩ := Dp.readsAll I _ _ _ hd rv
  refine PySem.W.min_list_data (I.ok.hd hc) hl.isList (by simpa using ra) hal (by show X.A.units + 1 + _ < _; omega) fun i v h' tk bs hi rd hk => ?_
  have hi : its[i]? = some v := by simpa using hi
  obtain ⟨w, hw, rw'⟩ := vals_back rv hi
  obtain ⟨bs', rd', hlt, _⟩ := PySem.W.readsAll_at ra i v hi
  have e := (reads_det (fun b o z _ => hk b o z) rd' rd).1
  refine ⟨w, H, I.kept hk, rw', q i w _ hw (List.getElem?_eq_getElem hlt) ?_⟩
  rw [e, List.getD_eq_getElem?_getD, List.getElem?_eq_getElem hlt]
  rfl
theorem listLt_lex : ∀ xs ys : List Int, PySem.W.listLt xs ys = HT.lexLt xs ys
  | [], [] => rfl
  | [], _ :: _ => rfl
  | _ :: _, [] => rfl
  | x :: xs, y :: ys => by
    show (if x = y then PySem.W.listLt xs ys else PySem.W.DatumOrd.lt x y) = (if x = y then HT.lexLt xs ys else decide (x < y))
    rw [listLt_lex xs ys]
    rfl
end
end DL
namespace DL
open PySem PySem.Spec PyProof.Rows L2
def valA (as : List (List Key × Addr × V)) (k : List Key) : Option V := (as.find? fun x => decide (x.1 = k)).map (·.2.2)
def setA (k : List Key) (v : V) (x : List Key × Addr × V) : List Key × Addr × V := if x.1 = k then (x.1, x.2.1, v) else x
def putA (as : List (List Key × Addr × V)) (k : List Key) (b : Addr) (v : V) : List (List Key × Addr × V) := if (as.any fun x => decide (x.1 = k)) = true then as.map (setA k v) else as ++ [(k, b, v)]
def getKT (ks : List (List Int × PyData)) (k : List Int) : Option PyData := (ks.find? fun x => decide (x.1 = k)).map (·.2)
def setKT (k : List Int) (d : PyData) (x : List Int × PyData) : List Int × PyData := if x.1 = k then (x.1, d) else x
def putKT (ks : List (List Int × PyData)) (k : List Int) (d : PyData) : List (List Int × PyData) := if (ks.any fun x => decide (x.1 = k)) = true then ks.map (setKT k d) else ks ++ [(k, d)]
abbrev AVs : List (List Key × Addr × V) → List (List Key × Addr × Value) → Prop := Paired (fun p x => p.1 = x.1 ∧ p.2.1 = x.2.1 ∧ RelV p.2.2 x.2.2)
theorem AVs.any {as : List (List Key × Addr × V)} {xs : List (List Key × Addr × Value)} (h : AVs as xs) (k : List Key) : (as.any fun x => decide (x.1 = k)) = (atKey xs k).isSome := by
  unfold atKey
  rw [Option.isSome_map]
  induction h with
  | nil => rfl
  | @cons p x ps xs hq t ih =>
    rw [List.any_cons, List.find?_cons, hq.1]
    cases hd : decide (x.1 = k) with
    | true => rfl
    | false => rw [Bool.false_or]; exact ih
theorem AVs.val {as : List (List Key × Addr × V)} {xs : List (List Key × Addr × Value)} (h : AVs as xs) (k : List Key) : match valA as k with
    | none => atKey xs k = none
    | some v => ∃ p, atKey xs k = some p ∧ RelV v p.2 := by
  unfold valA atKey
  induction h with
  | nil => rfl
  | @cons p x ps xs hq t ih =>
    rw [List.find?_cons, List.find?_cons, hq.1]
    cases hd : decide (x.1 = k) with
    | true => exact ⟨_, rfl, hq.2.2⟩
    | false => exact ih
theorem AVs.put {as : List (List Key × Addr × V)} {xs : List (List Key × Addr × Value)} (h : AVs as xs) (k : List Key) (b : Addr) {v : V} {u : Value} (r : RelV v u) : AVs (putA as k b v) (storedH xs k b u) := by
  unfold putA storedH
  rw [h.any k]
  by_cases c : (atKey xs k).isSome = true
  · rw [if_pos c, if_pos c]
    clear c
    induction h with
    | nil => exact .nil
    | @cons p x ps xs hq t ih =>
      refine .cons ?_ ih
      unfold setA putAt
      rw [hq.1]
      by_cases e : x.1 = k
      · rw [if_pos e, if_pos e]; exact ⟨rfl, hq.2.1, r⟩
      · rw [if_neg e, if_neg e]; exact hq
  · rw [if_neg c, if_neg c]
    clear c
    induction h with
    | nil => exact .cons ⟨rfl, rfl, r⟩ .nil
    | cons hq t ih => exact .cons hq ih
section
variable {K : PySem.W.Frag} {H : Hp} {ow : Ow}
theorem TVs.dec {p : List Int} {k : List Int} : decide (p.map (Sum.inl : Int → Key) = k.map Sum.inl) = decide (p = k) := decide_eq_decide.mpr ⟨fun h => inj_inl h, fun h => by rw [h]⟩
theorem TVs.any {as : List (List Key × Addr × V)} {ks : List (List Int × PyData)} (h : TVs K H ow as ks) (k : List Int) : (as.any fun x => decide (x.1 = k.map Sum.inl)) = ks.any fun x => decide (x.1 = k) := by
  unfold TVs at h
  induction h with
  | nil => rfl
  | cons hq t ih => rw [List.any_cons, List.any_cons, ih, hq.1, TVs.dec]
theorem TVs.val {as : List (List Key × Addr × V)} {ks : List (List Int × PyData)} (h : TVs K H ow as ks) (k : List Int) : match getKT ks k with
    | none => valA as (k.map Sum.inl) = none
    | some d => ∃ v, valA as (k.map Sum.inl) = some v ∧ DV K H ow v d := by
  unfold TVs at h
  unfold getKT valA
  induction h with
  | nil => rfl
  | @cons p q ps qs hq t ih =>
    rw [List.find?_cons, List.find?_cons, hq.1, TVs.dec]
    cases hd : decide (q.1 = k) with
    | true => exact ⟨_, rfl, hq.2.2.1⟩
    | false => exact ih
theorem TVs.put {as : List (List Key × Addr × V)} {ks : List (List Int × PyData)} (h : TVs K H ow as ks) {k : List Int} {b : Addr} {v : V} {d : PyData} (hb : FT K H ow b ((k.map Sum.inl : List Key).map kV)) (hv : DV K H ow v d) (hk : k.length ≤ 16777216) :
    TVs K H ow (putA as (k.map Sum.inl) b v) (putKT ks k d) := by
  unfold putA putKT
  rw [h.any k]
  by_cases c : (ks.any fun x => decide (x.1 = k)) = true
  · rw [if_pos c, if_pos c]
    clear c
    unfold TVs at h ⊢
    induction h with
    | nil => exact .nil
    | @cons p q ps qs hq t ih =>
      refine .cons ?_ ih
      unfold setA setKT
      by_cases e : q.1 = k
      · rw [if_pos e, if_pos (by rw [hq.1, e])]; exact ⟨hq.1, hq.2.1, hv, hq.2.2.2⟩
      · rw [if_neg e, if_neg (fun z => e (inj_inl (by rw [← hq.1]; exact z)))]; exact hq
  · rw [if_neg c, if_neg c]
    clear c
    unfold TVs at h ⊢
    induction h with
    | nil => exact .cons ⟨rfl, hb, hv, hk⟩ .nil
    | cons hq t ih => exact .cons hq ih
theorem TVs.length {as : List (List Key × Addr × V)} {ks : List (List Int × PyData)} (h : TVs K H ow as ks) : as.length = ks.length := Paired.length h
theorem TVs.sq {as : List (List Key × Addr × V)} {ks : List (List Int × PyData)} (h : TVs K H ow as ks) : ∀ x ∈ as, SqT K H x.2.1 (x.1.map kV) := by
  unfold TVs at h
  induction h with
  | nil => intro x hx; cases hx
  | cons hq t ih =>
    intro x hx
    rcases List.mem_cons.1 hx with rfl | hx
    · exact hq.2.1.sq
    · exact ih x hx
theorem TVs.ints {as : List (List Key × Addr × V)} {ks : List (List Int × PyData)} (h : TVs K H ow as ks) : ∀ x ∈ as, ∃ ns : List Int, x.1 = ns.map Sum.inl := by
  unfold TVs at h
  induction h with
  | nil => intro x hx; cases hx
  | cons hq t ih =>
    intro x hx
    rcases List.mem_cons.1 hx with rfl | hx
    · exact ⟨_, hq.1⟩
    · exact ih x hx
end
end DL
namespace DL
open PySem PySem.Spec PyProof.Rows L2
section
variable {X : Cx} {C : Cc} {K : PySem.W.Frag} {H : Hp} {ow : Ow}
def slotKT (env : Env) (i : Nat) : Option (List (List Int × PyData)) := match env[i]? with
  | some (some (.kt _ ks)) => some ks
  | _ => none
/-- {} -/
def mNewKT : Env → Rs M := fun e => .ok (.kt false []) e
variable {a b e f k : Expr} {pos tpos apos cpos : Pos} {t tk tx : Env → Rs PyData} {i : Nat}
/-- len(d) -/
def eLenKT (i : Nat) : Env → Rs PyData := fun env => lift ((slotKT env i).map fun ks => .int (ks.length : Nat)) env
end
@[simp] theorem mNewKT_eq (env : Env) : mNewKT env = .ok (.kt false []) env := id rfl
@[simp] theorem eLenKT_eq (i) (env : Env) : eLenKT i env = lift ((slotKT env i).map fun ks => .int (ks.length : Nat)) env := id rfl
end DL
namespace DL
open PySem PySem.Spec PyProof.Rows L2
section
variable {X : Cx} {C : Cc} {K : PySem.W.Frag} {H : Hp} {ow : Ow}
def slotKB (env : Env) (i : Nat) : Option (List (Bool × PyData)) := match env[i]? with
  | some (some (.kb ks)) => some ks
  | _ => none
/-- {} -/
def mNewKB : Env → Rs M := fun e => .ok (.kb []) e
variable {a b e f k : Expr} {pos tpos apos cpos : Pos} {t tk tx : Env → Rs PyData} {i : Nat}
/-- len(d) -/
def eLenKB (i : Nat) : Env → Rs PyData := fun env => lift ((slotKB env i).map fun ks => .int (ks.length : Nat)) env
end
@[simp] theorem mNewKB_eq (env : Env) : mNewKB env = .ok (.kb []) env := id rfl
@[simp] theorem eLenKB_eq (i) (env : Env) : eLenKB i env = lift ((slotKB env i).map fun ks => .int (ks.length : Nat)) env := id rfl
end DL
namespace DL
open PySem PySem.Spec PyProof.Rows L2
def maskM : M → Option M
  | .d x => some (.d x)
  | .l ds => some (.d (.list ds))
  | .scr ns => some (.scr ns)
  | .fm ks => some (.fm ks)
  | .fo c fs => some (.fo c fs)
  | .o c fs => some (.fo c (frzFs fs))
  | .fk ks => some (.fk ks)
  | .kt true ks => some (.kt true ks)
  | _ => none
def mask (e : Env) : Env := e.map fun o => o.bind maskM
section
variable {K : PySem.W.Frag} {C : Cc} {H H' : Hp} {ow ow' : Ow} {σ : L2.St} {env : Env} {N : Nat}
def isFrz : HO → Prop
  | .frz _ _ => True
  | _ => False
open Classical in
noncomputable def frzOw (H : Hp) (N : Nat) (ow : Ow) : Ow := fun a => match ow a with
  | some j => if j ≤ N ∧ ∃ u, H a = some u ∧ ¬ isFrz u then none else some (j + N + 1)
  | none => none
theorem frzOw_none {a : Addr} (h : ow a = none) : frzOw H N ow a = none := by unfold frzOw; rw [h]
theorem frzOw_off {a : Addr} {j : Nat} {u : HO} (h : ow a = some j) (hj : j ≤ N) (hu : H a = some u) (hf : ¬ isFrz u) : frzOw H N ow a = none := by
  unfold frzOw
  rw [h]
  exact if_pos ⟨hj, u, hu, hf⟩
theorem frzOw_some {a : Addr} {i : Nat} (h : frzOw H N ow a = some i) : N < i := by
  unfold frzOw at h
  cases ho : ow a with
  | none => rw [ho] at h; cases h
  | some j =>
    rw [ho] at h
    dsimp only at h
    split at h
    · cases h
    · cases h; omega
theorem frzOw_stay : Stay H ow H (frzOw H N ow) := fun a o h h' => ⟨h, frzOw_none h'⟩
open Classical in
noncomputable def resOw (H : Hp) (ow ow' : Ow) : Ow := fun a => if (H a).isSome = true then ow a else ow' a
theorem mask_vm {v : V} {m m' : M} {fp : List Addr} {i : Nat} (h : VM K H ow v m fp) (hf : ∀ p ∈ fp, ow p = some i) (hi : i ≤ N) (e : maskM m = some m') : VM K H (frzOw H N ow) v m' [] := by
  cases h with
  | d h => cases e; exact .d (h.stay frzOw_stay)
  | @l a vs ds h1 h2 hz => cases e; exact .d (.lst h1 (frzOw_off (hf a (by simp)) hi h1 fun z => z) (h2.stay frzOw_stay) hz)
  | scr hz h =>
    cases e
    rcases h with ⟨o, h, h'⟩ | ⟨h, h'⟩ | h
    · exact .scr hz (.inl ⟨o, h, frzOw_none h'⟩)
    · exact .scr hz (.inr (.inl ⟨h, frzOw_none h'⟩))
    · exact .scr hz (.inr (.inr h))
  | fm h1 h0 h2 hz => cases e; exact .fm h1 (frzOw_none h0) (h2.stay frzOw_stay) hz
  | @o a c dx fv fs fp h1 h2 =>
    cases e
    exact .fo h1 (frzOw_off (hf a List.mem_cons_self) hi h1 fun z => z) (h2.frz frzOw_stay fun p hp => by
      obtain ⟨vs, hv⟩ := h2.there p hp
      exact ⟨rfl, frzOw_off (hf p (List.mem_cons_of_mem _ hp)) hi hv fun z => z⟩)
  | fo h1 h0 h2 => cases e; exact .fo h1 (frzOw_none h0) (h2.stay frzOw_stay)
  | fk h1 h0 h3 h4 h5 hz => cases e; exact .fk h1 (frzOw_none h0) h3 h4 (fun x hx => (h5 x hx).stay frzOw_stay) hz
  | kf h1 h0 h3 hx h4 hz => cases e; exact .kf h1 (frzOw_none h0) h3 hx (h4.stay frzOw_stay) hz
  | _ => cases e
theorem res_gr (x : Ext N H (frzOw H N ow) H' ow') : Gr H ow H' (resOw H ow ow') := fun a o ho => by
  refine ⟨(x a o ho fun i h => frzOw_some h).1, ?_⟩
  unfold resOw
  rw [ho]
  exact if_pos rfl
theorem res_dv (x : Ext N H (frzOw H N ow) H' ow') {v : V} {d : PyData} (h : DV K H' ow' v d) (s : scalar d = true) : DV K H' (resOw H ow ow') v d :=
  dv_scalar h s fun a zo xs e o => by
    unfold resOw
    cases ha : H a with
    | none => exact o
    | some u =>
      obtain ⟨e1, e2⟩ := x a u ha fun i h => frzOw_some h
      rw [e1] at e
      cases e
      rw [o] at e2
      simp only [Option.isSome_some, if_true]
      cases hj : ow a with
      | none => rfl
      | some j =>
        unfold frzOw at e2
        rw [hj] at e2
        dsimp only at e2
        split at e2
        · rename_i c
          obtain ⟨_, w, c, l⟩ := c
          rw [ha] at c
          cases c
          exact absurd trivial l
        · cases e2
def resS (env : Env) : Rs PyData → Rs PyData
  | .ok x _ => if scalar x = true then .ok x env else .no
  | _ => .no
def resT (env : Env) : Rs Bool → Rs Bool
  | .ok b _ => .ok b env
  | _ => .no
def resL (env : Env) : Rs M → Rs M
  | .ok m _ => if resO m = true then .ok m env else .no
  | _ => .no
def eLend (t : Env → Rs PyData) : Env → Rs PyData := fun env => resS env (t (mask env))
def tLend (t : Env → Rs Bool) : Env → Rs Bool := fun env => resT env (t (mask env))
def mLend (t : Env → Rs M) : Env → Rs M := fun env => resL env (t (mask env))
end
@[simp] theorem eLend_eq (t) (env : Env) : eLend t env = resS env (t (mask env)) := id rfl
@[simp] theorem tLend_eq (t) (env : Env) : tLend t env = resT env (t (mask env)) := id rfl
@[simp] theorem mLend_eq (t) (env : Env) : mLend t env = resL env (t (mask env)) := id rfl
@[simp] theorem resS_ok (env e : Env) (x) : resS env (.ok x e) = if scalar x = true then .ok x env else .no := id rfl
@[simp] theorem resT_ok (env e : Env) (x) : resT env (.ok x e) = .ok x env := id rfl
@[simp] theorem resL_ok (env e : Env) (x) : resL env (.ok x e) = if resO x = true then .ok x env else .no := id rfl
@[simp] theorem mask_nil : mask [] = [] := id rfl
@[simp] theorem mask_n (e : Env) : mask (none :: e) = none :: mask e := id rfl
@[simp] theorem mask_s (m) (e : Env) : mask (some m :: e) = maskM m :: mask e := id rfl
@[simp] theorem maskM_d (x) : maskM (.d x) = some (.d x) := id rfl
@[simp] theorem maskM_l (x) : maskM (.l x) = some (.d (.list x)) := id rfl
@[simp] theorem maskM_scr (x) : maskM (.scr x) = some (.scr x) := id rfl
@[simp] theorem maskM_fo (c x) : maskM (.fo c x) = some (.fo c x) := id rfl
@[simp] theorem maskM_o (c x) : maskM (.o c x) = some (.fo c (frzFs x)) := id rfl
end DL
namespace DL
open PySem PySem.Spec PyProof.Rows L2
mutual
def kN : PyData → Option NestedKey
  | .none => some .none
  | .int i => some (.num i)
  | .tuple xs => (kNs xs).map .tup
  | _ => none
def kNs : List PyData → Option (List NestedKey)
  | [] => some []
  | x :: xs => (kN x).bind fun k => (kNs xs).map (k :: ·)
end
/-- a tuple as a key -/
def kNT (x : PyData) : Option NestedKey := match x with
  | .tuple xs => (kN (.tuple xs)).bind fun k => if k.depth ≤ 8 then some k else none
  | _ => none
def valN {α : Type} (as : List (NestedKey × α)) (k : NestedKey) : Option α := (as.find? fun x => decide (x.1 = k)).map (·.2)
def setN {α : Type} (k : NestedKey) (f : α → α) (x : NestedKey × α) : NestedKey × α := if x.1 = k then (x.1, f x.2) else x
def putN {α : Type} (as : List (NestedKey × α)) (k : NestedKey) (f : α → α) (y : α) : List (NestedKey × α) := if (as.any fun x => decide (x.1 = k)) = true then as.map (setN k f) else as ++ [(k, y)]
/-- the table as data -/
def getT (ks : List (NestedKey × PyData)) (k : NestedKey) : Option PyData := valN ks k
def putT (ks : List (NestedKey × PyData)) (k : NestedKey) (d : PyData) : List (NestedKey × PyData) := putN ks k (fun _ => d) d
def hasT (ks : List (NestedKey × PyData)) (k : NestedKey) : Bool := ks.any fun x => decide (x.1 = k)
abbrev AVn : List (NestedKey × Addr × V) → List (NestedKey × Addr × Value) → Prop := Paired (fun p x => p.1 = x.1 ∧ p.2.1 = x.2.1 ∧ RelV p.2.2 x.2.2)
theorem AVn.any {as : List (NestedKey × Addr × V)} {xs : List (NestedKey × Addr × Value)} (h : AVn as xs) (k : NestedKey) : (as.any fun x => decide (x.1 = k)) = (atKey xs k).isSome := by
  unfold atKey
  rw [Option.isSome_map]
  induction h with
  | nil => rfl
  | @cons p x ps xs hq t ih =>
    rw [List.any_cons, List.find?_cons, hq.1]
    cases hd : decide (x.1 = k) with
    | true => rfl
    | false => rw [Bool.false_or]; exact ih
theorem AVn.val {as : List (NestedKey × Addr × V)} {xs : List (NestedKey × Addr × Value)} (h : AVn as xs) (k : NestedKey) : match valN as k with
    | none => atKey xs k = none
    | some v => ∃ p, atKey xs k = some p ∧ RelV v.2 p.2 := by
  unfold valN atKey
  induction h with
  | nil => rfl
  | @cons p x ps xs hq t ih =>
    rw [List.find?_cons, List.find?_cons, hq.1]
    cases hd : decide (x.1 = k) with
    | true => exact ⟨_, rfl, hq.2.2⟩
    | false => exact ih
theorem AVn.put {as : List (NestedKey × Addr × V)} {xs : List (NestedKey × Addr × Value)} (h : AVn as xs) (k : NestedKey) (b : Addr) {v : V} {u : Value} (r : RelV v u) : AVn (putN as k (fun z => (z.1, v)) (b, v)) (storedH xs k b u) := by
  unfold putN storedH
  rw [h.any k]
  by_cases c : (atKey xs k).isSome = true
  · rw [if_pos c, if_pos c]
    clear c
    induction h with
    | nil => exact .nil
    | @cons p x ps xs hq t ih =>
      refine .cons ?_ ih
      unfold setN putAt
      rw [hq.1]
      by_cases e : x.1 = k
      · rw [if_pos e, if_pos e]; exact ⟨rfl, hq.2.1, r⟩
      · rw [if_neg e, if_neg e]; exact hq
  · rw [if_neg c, if_neg c]
    clear c
    induction h with
    | nil => exact .cons ⟨rfl, rfl, r⟩ .nil
    | cons hq t ih => exact .cons hq ih
section
variable {K : PySem.W.Frag} {H : Hp} {ow : Ow}
theorem NVs.any {as : List (NestedKey × Addr × V)} {ks : List (NestedKey × PyData)} (h : NVs K H ow as ks) (k : NestedKey) : (as.any fun x => decide (x.1 = k)) = hasT ks k := by
  unfold NVs at h
  unfold hasT
  induction h with
  | nil => rfl
  | cons hq t ih => rw [List.any_cons, List.any_cons, ih, hq.1]
theorem NVs.val {as : List (NestedKey × Addr × V)} {ks : List (NestedKey × PyData)} (h : NVs K H ow as ks) (k : NestedKey) : match getT ks k with
    | none => valN as k = none
    | some d => ∃ v, valN as k = some v ∧ DV K H ow v.2 d := by
  unfold NVs at h
  unfold getT valN
  induction h with
  | nil => rfl
  | @cons p q ps qs hq t ih =>
    rw [List.find?_cons, List.find?_cons, hq.1]
    cases hd : decide (q.1 = k) with
    | true => exact ⟨_, rfl, hq.2.2.1⟩
    | false => exact ih
theorem NVs.put {as : List (NestedKey × Addr × V)} {ks : List (NestedKey × PyData)} (h : NVs K H ow as ks) {k : NestedKey} {b : Addr} {v : V} {d : PyData} (hb : DV K H ow (.ref b) k.data) (hv : DV K H ow v d) (hk : okK k = true) :
    NVs K H ow (putN as k (fun z => (z.1, v)) (b, v)) (putT ks k d) := by
  unfold putT
  unfold putN
  rw [h.any k]
  show NVs K H ow (if hasT ks k = true then _ else _) (if hasT ks k = true then _ else _)
  by_cases c : hasT ks k = true
  · rw [if_pos c, if_pos c]
    clear c
    unfold NVs at h ⊢
    induction h with
    | nil => exact .nil
    | @cons p q ps qs hq t ih =>
      refine .cons ?_ ih
      unfold setN
      rw [hq.1]
      by_cases e : q.1 = k
      · rw [if_pos e, if_pos e]; exact ⟨rfl, hq.2.1, hv, hq.2.2.2⟩
      · rw [if_neg e, if_neg e]; exact hq
  · rw [if_neg c, if_neg c]
    clear c
    unfold NVs at h ⊢
    induction h with
    | nil => exact .cons ⟨rfl, hb, hv, hk⟩ .nil
    | cons hq t ih => exact .cons hq ih
theorem NVs.length {as : List (NestedKey × Addr × V)} {ks : List (NestedKey × PyData)} (h : NVs K H ow as ks) : as.length = ks.length := Paired.length h
end
end DL
namespace DL
open PySem PySem.Spec PyProof.Rows L2
def Obs.get (f : Str) : Obs → Option Ob
  | .nil => none
  | .cons g x r => if g = f then some x else r.get f
def Obs.put (f : Str) (y : Ob) : Obs → Obs
  | .nil => .cons f y .nil
  | .cons g x r => if g = f then .cons g y r else .cons g x (r.put f y)
def Obs.len : Obs → Nat
  | .nil => 0
  | .cons _ _ r => r.len + 1
abbrev Path := List (Addr × Str)
def Ob.at : Path → Ob → Option Ob
  | [], x => some x
  | (c, f) :: π, x => match x with
    | .o c' fs => if c' = c then (fs.get f).bind (Ob.at π) else none
    | _ => none
def Ob.putAt : Ob → Path → Ob → Ob
  | _, [], y => y
  | x, (c, f) :: π, y => match x with
    | .o c' fs => match fs.get f with
      | some z => .o c' (fs.put f (z.putAt π y))
      | none => .o c' fs
    | x => x
inductive Walk (H : Hp) : V → Path → V → Prop
  | nil {v : V} : Walk H v [] v
  | cons {a c dx : Addr} {fv : List (Str × V)} {f : Str} {w u : V} {π : Path} : H a = some (.ins c dx fv) → fv.lookup f = some w → Walk H w π u → Walk H (.ref a) ((c, f) :: π) u
theorem Walk.split {H : Hp} {c : Addr} {f : Str} {u : V} : ∀ {π : Path} {v : V}, Walk H v (π ++ [(c, f)]) u → ∃ a dx fv, Walk H v π (.ref a) ∧ H a = some (.ins c dx fv) ∧ fv.lookup f = some u
  | [], v, h => by
    cases h with
    | cons h1 h2 h3 => cases h3; exact ⟨_, _, _, .nil, h1, h2⟩
  | (c', g) :: π, v, h => by
    cases h with
    | cons h1 h2 h3 =>
      obtain ⟨a, dx, fv, k1, k2, k3⟩ := h3.split
      exact ⟨a, dx, fv, .cons h1 h2 k1, k2, k3⟩
theorem Walk.inj {H : Hp} : ∀ {π : Path} {v u w : V}, Walk H v π u → Walk H v π w → u = w
  | [], v, u, w, h, k => by cases h; cases k; rfl
  | (c, f) :: π, v, u, w, h, k => by
    cases h with
    | cons h1 h2 h3 =>
      cases k with
      | cons k1 k2 k3 =>
        rw [h1] at k1
        cases k1
        rw [h2] at k2
        cases k2
        exact h3.inj k3
section
variable {K : PySem.W.Frag} {H H' : Hp} {ow ow' : Ow} {C : Cc} {σ : L2.St} {env : Env}
theorem OTs.len : ∀ {fs : Obs} {fv : List (Str × V)} {fp : List Addr}, OTs K H ow fv fs fp → fv.length = fs.len
  | .nil, _, _, h => by cases h; rfl
  | .cons f x fs, _, _, h => by
    cases h with
    | cons h1 h2 => rw [List.length_cons, OTs.len h2]; rfl
theorem OTs.none {f : Str} : ∀ {fs : Obs} {fv : List (Str × V)} {fp : List Addr}, OTs K H ow fv fs fp → fs.get f = none → fv.lookup f = none
  | .nil, _, _, h, _ => by cases h; rfl
  | .cons g x fs, _, _, h, e => by
    cases h with
    | cons h1 h2 =>
      rw [← lookF_eq]
      unfold Obs.get at e
      unfold lookF
      by_cases c : g = f
      · rw [if_pos c] at e; cases e
      · rw [if_neg c] at e ⊢
        rw [lookF_eq]
        exact OTs.none h2 e
/-- one field, and how another thing stands there -/
theorem OTs.focus {f : Str} {y : Ob} : ∀ {fs : Obs} {fv : List (Str × V)} {fp : List Addr}, OTs K H ow fv fs fp → fs.get f = some y →
    ∃ w l fq r, fp = l ++ fq ++ r ∧ fv.lookup f = some w ∧ OT K H ow w y fq ∧
      ∀ H' ow' y' fq', Stay H ow H' ow' → (∀ p ∈ l ++ r, H' p = H p) → OT K H' ow' w y' fq' → OTs K H' ow' fv (fs.put f y') (l ++ fq' ++ r)
  | .nil, _, _, h, e => by cases e
  | .cons g x fs, _, _, h, e => by
    cases h with
    | @cons _ v _ fv _ fp fq h1 h2 =>
      unfold Obs.get at e
      by_cases c : g = f
      · rw [if_pos c] at e
        cases e
        refine ⟨v, [], fp, fq, by simp, ?_, h1, fun H' ow' y' fq' st hf hy => ?_⟩
        · rw [← lookF_eq]; unfold lookF; rw [if_pos c]
        · unfold Obs.put
          rw [if_pos c, List.nil_append]
          exact .cons hy (OTs.stay st h2 fun p hp => hf p (by simpa using hp))
      · rw [if_neg c] at e
        obtain ⟨w, l, fq1, r, e1, e2, e3, e4⟩ := OTs.focus h2 e
        refine ⟨w, fp ++ l, fq1, r, by rw [e1]; simp, ?_, e3, fun H' ow' y' fq' st hf hy => ?_⟩
        · rw [← lookF_eq]; unfold lookF; rw [if_neg c, lookF_eq]; exact e2
        · unfold Obs.put
          rw [if_neg c, show fp ++ l ++ fq' ++ r = fp ++ (l ++ fq' ++ r) by simp]
          exact .cons (OT.stay st h1 fun p hp => hf p (by simp [hp])) (e4 H' ow' y' fq' st (fun p hp => hf p (by
            rcases List.mem_append.1 hp with hp | hp
            · simp [hp]
            · simp [hp])) hy)
/-- a field is given another value -/
theorem OTs.set (f : Str) : ∀ {fs : Obs} {fv : List (Str × V)} {fp : List Addr}, OTs K H ow fv fs fp →
    ∃ l fq r, fp = l ++ fq ++ r ∧ ∀ H' ow' w y fq', Stay H ow H' ow' → (∀ p ∈ l ++ r, H' p = H p) → OT K H' ow' w y fq' → OTs K H' ow' (putF f w fv) (fs.put f y) (l ++ fq' ++ r)
  | .nil, _, _, h => by
    cases h
    refine ⟨[], [], [], rfl, fun H' ow' w y fq' st hf hy => ?_⟩
    have := OTs.cons (f := f) hy (.nil (K := K) (H := H') (ow := ow'))
    rw [List.nil_append]
    exact this
  | .cons g x fs, _, _, h => by
    cases h with
    | @cons _ v _ fv _ fp fq h1 h2 =>
      by_cases c : g = f
      · refine ⟨[], fp, fq, by simp, fun H' ow' w y fq' st hf hy => ?_⟩
        unfold Obs.put putF
        rw [if_pos c, if_pos c, List.nil_append]
        exact .cons hy (OTs.stay st h2 fun p hp => hf p (by simpa using hp))
      · obtain ⟨l, fq1, r, e1, e4⟩ := OTs.set f h2
        refine ⟨fp ++ l, fq1, r, by rw [e1]; simp, fun H' ow' w y fq' st hf hy => ?_⟩
        unfold Obs.put putF
        rw [if_neg c, if_neg c, show fp ++ l ++ fq' ++ r = fp ++ (l ++ fq' ++ r) by simp]
        exact .cons (OT.stay st h1 fun p hp => hf p (by simp [hp])) (e4 H' ow' w y fq' st (fun p hp => hf p (by
            rcases List.mem_append.1 hp with hp | hp
            · simp [hp]
            · simp [hp])) hy)
theorem OT.focus {y : Ob} : ∀ {π : Path} {x : Ob} {v : V} {fp : List Addr}, OT K H ow v x fp → x.at π = some y →
    ∃ u l fq r, fp = l ++ fq ++ r ∧ Walk H v π u ∧ OT K H ow u y fq ∧
      ∀ H' ow' y' fq', Stay H ow H' ow' → (∀ p ∈ l ++ r, H' p = H p) → OT K H' ow' u y' fq' → OT K H' ow' v (x.putAt π y') (l ++ fq' ++ r)
  | [], x, v, fp, h, e => by
    unfold Ob.at at e
    cases e
    exact ⟨v, [], fp, [], by simp, .nil, h, fun H' ow' y' fq' st hf hy => by rw [List.nil_append, List.append_nil]; exact hy⟩
  | (c, f) :: π, x, v, fp, h, e => by
    cases x with
    | o c' fs =>
      unfold Ob.at at e
      by_cases hc : c' = c
      · simp only [if_pos hc] at e
        subst hc
        cases hg : fs.get f with
        | none => rw [hg] at e; cases e
        | some z =>
          rw [hg] at e
          have e : z.at π = some y := e
          cases h with
          | @o a _ dx fv _ fp h1 h2 =>
            obtain ⟨w, l, fq, r, e1, e2, e3, e4⟩ := h2.focus hg
            obtain ⟨u, l2, fq2, r2, k1, k2, k3, k4⟩ := OT.focus e3 e
            refine ⟨u, a :: (l ++ l2), fq2, r2 ++ r, by rw [e1, k1]; simp, .cons h1 e2 k2, k3, fun H' ow' y' fq' st hf hy => ?_⟩
            have q := e4 H' ow' (z.putAt π y') (l2 ++ fq' ++ r2) st (fun p hp => hf p (by
              rcases List.mem_append.1 hp with hp | hp
              · simp [hp]
              · simp [hp])) (k4 H' ow' y' fq' st (fun p hp => hf p (by
              rcases List.mem_append.1 hp with hp | hp
              · simp [hp]
              · simp [hp])) hy)
            unfold Ob.putAt
            simp only [hg]
            rw [show a :: (l ++ l2) ++ fq' ++ (r2 ++ r) = a :: (l ++ (l2 ++ fq' ++ r2) ++ r) by simp]
            exact .o ((hf a (by simp)).trans h1) q
      · simp only [if_neg hc] at e; cases e
    | _ => cases e
def atM (π : Path) : M → Option (Bool × Ob)
  | .ob fz x => (x.at π).map (fz, ·)
  | _ => none
theorem atM_some {π : Path} {m : M} {fz : Bool} {y : Ob} (h : atM π m = some (fz, y)) : ∃ x, m = .ob fz x ∧ x.at π = some y := by
  cases m with
  | ob fz' x =>
    obtain ⟨z, h1, h2⟩ := Option.map_eq_some_iff.mp (show (x.at π).map (fz', ·) = some (fz, y) from h)
    cases h2
    exact ⟨x, rfl, h1⟩
  | _ => cases h
/-- what stands at a slot's path -/
def slotP (env : Env) (i : Nat) (π : Path) : Option (Bool × Ob) := env[i]?.join.bind (atM π)
theorem slotP_some {i : Nat} {π : Path} {fz : Bool} {y : Ob} (h : slotP env i π = some (fz, y)) : ∃ x, env[i]? = some (some (.ob fz x)) ∧ x.at π = some y := by
  unfold slotP at h
  cases he : env[i]? with
  | none => rw [he] at h; cases h
  | some o =>
    rw [he] at h
    cases o with
    | none => cases h
    | some m =>
      obtain ⟨x, rfl, h2⟩ := atM_some (show atM π m = some (fz, y) from h)
      exact ⟨x, rfl, h2⟩
/-- read -/
theorem slot_p {i : Nat} {π : Path} {fz : Bool} {y : Ob} (P : RpE K C H ow σ env) (e : slotP env i π = some (fz, y)) :
    ∃ v u fq, σ[i]? = some (some v) ∧ Walk H v π u ∧ OT K H ow u y fq ∧ (∀ p ∈ fq, ow p = if fz = true then none else some i) := by
  obtain ⟨x, h, hx⟩ := slotP_some e
  obtain ⟨v, fp, h1, h2, h3, h4⟩ := P.sl i _ h
  cases h2 with
  | ob h2 =>
    obtain ⟨u, l, fq, r, k1, k2, k3, _⟩ := h2.focus hx
    exact ⟨v, u, fq, h1, k2, k3, fun p hp => h4 p (by rw [k1]; simp [hp])⟩
  | fb h2 h0 =>
    obtain ⟨u, l, fq, r, k1, k2, k3, _⟩ := h2.focus hx
    exact ⟨v, u, fq, h1, k2, k3, fun p hp => h0 p (by rw [k1]; simp [hp])⟩
/-- write -/
theorem RpE.focus {i : Nat} {π : Path} {y : Ob} (P : RpE K C H ow σ env) (e : slotP env i π = some (false, y)) :
    ∃ x v u l fq r, env[i]? = some (some (.ob false x)) ∧ σ[i]? = some (some v) ∧ Walk H v π u ∧ OT K H ow u y fq ∧ (l ++ fq ++ r).Nodup ∧ (∀ p ∈ l ++ fq ++ r, ow p = some i) ∧ i < C.N ∧
    ∀ H' ow' y' fq', (∀ p o, H p = some o → p ∉ fq → H' p = some o) → (∀ p o, H p = some o → ow' p = ow p ∨ ow p = some C.N) → fq'.Nodup → (∀ p ∈ fq', ow' p = some i) → (∀ p ∈ fq', p ∉ l ++ r) → OT K H' ow' u y' fq' →
      RpE K C H' ow' σ (env.set i (some (.ob false (x.putAt π y')))) ∧ Ext C.N H ow H' ow' := by
  obtain ⟨x, h, hx⟩ := slotP_some e
  obtain ⟨v, fp, h1, h2, h3, h4⟩ := P.sl i _ h
  cases h2 with
  | ob h2 =>
    obtain ⟨u, l, fq, r, k1, k2, k3, k4⟩ := h2.focus hx
    have hi : i < C.N := by
      have := (List.getElem?_eq_some_iff.mp h).1
      rw [P.len] at this
      exact this
    rw [k1] at h3 h4
    refine ⟨x, v, u, l, fq, r, h, h1, k2, k3, h3, h4, hi, fun H' ow' y' fq' c1 c2 n1 n2 n3 hy => ?_⟩
    have ofq : ∀ p ∈ fq, ow p = some i := fun p hp => h4 p (by simp [hp])
    have st : Stay H ow H' ow' := fun p o hp hp' => by
      refine ⟨c1 p o hp (fun z => (by rw [ofq p z] at hp'; cases hp')), ?_⟩
      rcases c2 p o hp with q | q
      · rw [q]; exact hp'
      · rw [hp'] at q; cases q
    have same : ∀ p o, H p = some o → (∀ j, ow p = some j → j ≠ i) → ow p ≠ some C.N → H' p = some o ∧ ow' p = ow p := fun p o hp hj hN => by
      refine ⟨c1 p o hp fun z => hj i (ofq p z) rfl, ?_⟩
      rcases c2 p o hp with q | q
      · exact q
      · exact absurd q hN
    refine ⟨⟨fun j m hm => ?_, P.io, by rw [List.length_set]; exact P.len, P.lenS⟩, fun p o hp hw => ?_⟩
    · by_cases hj : i = j
      · subst hj
        rw [List.getElem?_set_self (by rw [P.len]; exact hi)] at hm
        cases hm
        have lr : ∀ p ∈ l ++ r, H' p = H p ∧ ow' p = some i := fun p hp => by
          have hp2 : p ∈ l ++ fq ++ r := by
            rcases List.mem_append.1 hp with hp | hp
            · simp [hp]
            · simp [hp]
          have nq : p ∉ fq := fun z => by
            have nd := h3
            rw [List.append_assoc, List.nodup_append] at nd
            rcases List.mem_append.1 hp with hp | hp
            · exact nd.2.2 p hp p (List.mem_append_left _ z) rfl
            · exact (List.nodup_append.1 nd.2.1).2.2 p z p hp rfl
          obtain ⟨o, ho⟩ := h2.there p (by rw [k1]; exact hp2)
          refine ⟨(c1 p o ho nq).trans ho.symm, ?_⟩
          rcases c2 p o ho with q | q
          · rw [q]; exact h4 p hp2
          · rw [h4 p hp2] at q
            have := Option.some.inj q
            omega
        refine ⟨v, l ++ fq' ++ r, h1, .ob (k4 H' ow' y' fq' st (fun p hp => (lr p hp).1) hy), ?_, fun p hp => ?_⟩
        · have nd := h3
          rw [List.append_assoc, List.nodup_append] at nd
          obtain ⟨d1, d2, d3⟩ := nd
          obtain ⟨d4, d5, d6⟩ := List.nodup_append.1 d2
          rw [List.append_assoc, List.nodup_append]
          refine ⟨d1, List.nodup_append.2 ⟨n1, d5, fun a ha b hb z => n3 a ha (by rw [z]; simp [hb])⟩, fun a ha b hb z => ?_⟩
          rcases List.mem_append.1 hb with hb | hb
          · exact n3 b hb (by rw [← z]; simp [ha])
          · exact d3 a ha b (List.mem_append_right _ hb) z
        · rcases List.mem_append.1 hp with hp | hp
          · rcases List.mem_append.1 hp with hp | hp
            · exact (lr p (List.mem_append_left _ hp)).2
            · exact n2 p hp
          · exact (lr p (List.mem_append_right _ hp)).2
      · rw [List.getElem?_set_ne hj] at hm
        obtain ⟨w, fp', a1, a2, a3, a4⟩ := P.sl j m hm
        have hjN : j < C.N := by
          have := (List.getElem?_eq_some_iff.mp hm).1
          rw [P.len] at this
          exact this
        have sm : ∀ p ∈ fp', H' p = H p ∧ ow' p = some j := fun p hp => by
          obtain ⟨o, ho⟩ := a2.there p hp
          obtain ⟨q1, q2⟩ := same p o ho (fun k hk => by
            rw [a4 p hp] at hk
            cases hk
            exact fun z => hj z.symm) (fun z => by
            rw [a4 p hp] at z
            have := Option.some.inj z
            omega)
          exact ⟨q1.trans ho.symm, q2.trans (a4 p hp)⟩
        exact ⟨w, fp', a1, a2.stay st fun p hp => (sm p hp).1, a3, fun p hp => (sm p hp).2⟩
    · refine same p o hp (fun j hj z => ?_) fun z => ?_
      · have := hw j hj
        omega
      · have := hw _ z
        omega
/-- in its own place -/
theorem RpE.inPlace {i : Nat} {π : Path} {y : Ob} (P : RpE K C H ow σ env) (e : slotP env i π = some (false, y)) :
    ∃ x v u fq, env[i]? = some (some (.ob false x)) ∧ σ[i]? = some (some v) ∧ Walk H v π u ∧ OT K H ow u y fq ∧ i < C.N ∧ (∀ p ∈ fq, ow p = some i) ∧
    ∀ a o' y', a ∈ fq → (Stay H ow (L2.upd H a o') ow → OT K (L2.upd H a o') ow u y' fq) →
      RpE K C (L2.upd H a o') ow σ (env.set i (some (.ob false (x.putAt π y')))) ∧ Ext C.N H ow (L2.upd H a o') ow ∧ Stay H ow (L2.upd H a o') ow := by
  obtain ⟨x, v, u, l, fq, r, h, h1, k2, k3, h3, h4, hi, hu⟩ := P.focus e
  refine ⟨x, v, u, fq, h, h1, k2, k3, hi, fun p hp => h4 p (by simp [hp]), fun a o' y' ha hy => ?_⟩
  have hai : ow a = some i := h4 a (by simp [ha])
  have st : Stay H ow (L2.upd H a o') ow := fun p o hp hp' => ⟨by
    rw [upd_ne (fun z => by rw [z, hai] at hp'; cases hp')]; exact hp, hp'⟩
  have nd := h3
  rw [List.append_assoc, List.nodup_append] at nd
  obtain ⟨d1, d2, d3⟩ := nd
  obtain ⟨d4, d5, d6⟩ := List.nodup_append.1 d2
  obtain ⟨q1, q2⟩ := hu (L2.upd H a o') ow y' fq (fun p o hp hn => by rw [upd_ne fun z => hn (by rw [z]; exact ha)]; exact hp) (fun p o hp => .inl rfl) d4 (fun p hp => h4 p (by simp [hp])) (fun p hp hm => by
    rcases List.mem_append.1 hm with hm | hm
    · exact d3 p hm p (List.mem_append_left _ hp) rfl
    · exact d6 p hp p hm rfl) (hy st)
  exact ⟨q1, q2, st⟩
end
def tPl (i : Nat) (π : Path) : TE := fun σ H Q => ∃ v u, σ[i]? = some (some v) ∧ Walk H v π u ∧ Q u H
section
variable {X : Cx} {e o : Expr} {i : Nat} {π : Path} {c : Addr} {f : Str} {pos : Pos}
theorem pl_0 (h : PE X e (tVar i)) : PE X e (tPl i []) := PEweak h fun σ H Q ⟨v, u, h1, h2, q⟩ => by cases h2; exact ⟨v, h1, q⟩
theorem pl_s (h : PE X o (tPl i π)) (hc : Cls X.K c) (hn : NoAttr X.K c f) (hb : attributeBase o f X.env (eval o X.env) = eval o X.env := by rfl) : PE X (.Attribute o f pos) (tPl i (π ++ [(c, f)])) :=
  PEweak (pe_fld h hb) fun σ H Q ⟨v, u, h1, h2, q⟩ => by
    obtain ⟨a, dx, fv, k1, k2, k3⟩ := h2.split
    exact ⟨v, .ref a, h1, k1, a, c, dx, fv, u, rfl, k2, hc, hn, k3, q⟩
end
end DL
namespace DL
open PySem PySem.Spec PyProof.Rows L2
def hideM : M → Option M
  | .d x => some (.d x)
  | .scr ns => some (.scr ns)
  | .fm ks => some (.fm ks)
  | .fo c fs => some (.fo c fs)
  | .fk ks => some (.fk ks)
  | .kt true ks => some (.kt true ks)
  | .ob true x => some (.ob true x)
  | _ => none
def hide (e : Env) : Env := e.map fun o => o.bind hideM
def okR {α : Type} : Rs α → Option α
  | .ok a _ => some a
  | _ => none
def hid {α : Type} (t : Env → Rs α) (env : Env) : Option α := okR (t (hide env))
section
variable {K : PySem.W.Frag} {C : Cc} {H H' : Hp} {ow ow' : Ow} {σ : L2.St} {env : Env} {N : Nat}
def hidOw (N : Nat) (ow : Ow) : Ow := fun a => (ow a).map (· + N + 1)
theorem hidOw_none {a : Addr} (h : ow a = none) : hidOw N ow a = none := by unfold hidOw; rw [h]; rfl
theorem hidOw_some {a : Addr} {i : Nat} (h : hidOw N ow a = some i) : N < i := by
  unfold hidOw at h
  cases ho : ow a with
  | none => rw [ho] at h; cases h
  | some j =>
    rw [ho] at h
    have : j + N + 1 = i := Option.some.inj h
    omega
theorem hidOw_stay : Stay H ow H (hidOw N ow) := fun a o h h' => ⟨h, hidOw_none h'⟩
theorem hide_vm {v : V} {m m' : M} {fp : List Addr} (h : VM K H ow v m fp) (e : hideM m = some m') : VM K H (hidOw N ow) v m' [] := by
  cases h with
  | d h => cases e; exact .d (h.stay hidOw_stay)
  | scr hz h =>
    cases e
    rcases h with ⟨o, h, h'⟩ | ⟨h, h'⟩ | h
    · exact .scr hz (.inl ⟨o, h, hidOw_none h'⟩)
    · exact .scr hz (.inr (.inl ⟨h, hidOw_none h'⟩))
    · exact .scr hz (.inr (.inr h))
  | fm h1 h0 h2 hz => cases e; exact .fm h1 (hidOw_none h0) (h2.stay hidOw_stay) hz
  | fo h1 h0 h2 => cases e; exact .fo h1 (hidOw_none h0) (h2.stay hidOw_stay)
  | fk h1 h0 h3 h4 h5 hz => cases e; exact .fk h1 (hidOw_none h0) h3 h4 (fun x hx => (h5 x hx).stay hidOw_stay) hz
  | kf h1 h0 h3 hx h4 hz => cases e; exact .kf h1 (hidOw_none h0) h3 hx (h4.stay hidOw_stay) hz
  | fb h1 h0 => cases e; exact .fb (h1.stay hidOw_stay fun _ _ => rfl) fun p hp => hidOw_none (h0 p hp)
  | _ => cases e
theorem hide_at {i : Nat} {m' : M} (h : (hide env)[i]? = some (some m')) : ∃ m, env[i]? = some (some m) ∧ hideM m = some m' := by
  unfold hide at h
  rw [List.getElem?_map] at h
  cases he : env[i]? with
  | none => rw [he] at h; cases h
  | some o =>
    rw [he] at h
    cases o with
    | none => cases h
    | some m => exact ⟨m, rfl, Option.some.inj h⟩
theorem RpE.hide (P : RpE K C H ow σ env) : RpE K C H (hidOw C.N ow) σ (DL.hide env) :=
  ⟨fun i m' e => by
    obtain ⟨m, h1, h2⟩ := hide_at e
    obtain ⟨v, fp, a, b, c, d⟩ := P.sl i m h1
    exact ⟨v, [], a, hide_vm b h2, List.nodup_nil, fun p hp => nomatch hp⟩, P.io, by unfold DL.hide; rw [List.length_map]; exact P.len, P.lenS⟩
theorem hid_gr (x : Ext N H (hidOw N ow) H' ow') : Gr H ow H' (resOw H ow ow') := fun a o ho => by
  refine ⟨(x a o ho fun i h => hidOw_some h).1, ?_⟩
  unfold resOw
  rw [ho]
  exact if_pos rfl
theorem hid_stay (x : Ext N H (hidOw N ow) H' ow') : Stay H' ow' H' (resOw H ow ow') := fun a o ho hw => by
  refine ⟨ho, ?_⟩
  unfold resOw
  cases hh : H a with
  | none => exact hw
  | some u =>
    simp only [Option.isSome_some, if_true]
    obtain ⟨_, e2⟩ := x a u hh fun i h => hidOw_some h
    rw [hw] at e2
    cases hj : ow a with
    | none => rfl
    | some j =>
      unfold hidOw at e2
      rw [hj] at e2
      cases e2
/-- an argument, read beside all that is owned -/
theorem rd_hide {α β : Type} {R : Hp → Ow → β → α → Prop} {t : Env → Rs α} {a : α} {Q : β → Hp → Prop} (P : RpE K C H ow σ env) (ht : hid t env = some a) (hR : ∀ {H : Hp} {ow ow' : Ow} {v : β}, Stay H ow H ow' → R H ow v a → R H ow' v a)
    (q : ∀ v H' ow', Gr H ow H' ow' → R H' ow' v a → RpE K C H' ow' σ env → Q v H') : rd K C R t σ H Q := by
  refine ⟨DL.hide env, hidOw C.N ow, P.hide, ?_⟩
  unfold hid at ht
  cases e : t (DL.hide env) with
  | no => rw [e] at ht; cases ht
  | ex x e1 => rw [e] at ht; cases ht
  | ok x e1 =>
    rw [e] at ht
    have : x = a := Option.some.inj ht
    subst this
    intro v H' ow' X V _
    exact q v H' _ (hid_gr X) (hR (hid_stay X) V) (P.gr (hid_gr X))
theorem Walk.gr (g : Gr H ow H' ow') : ∀ {π : Path} {v u : V}, Walk H v π u → Walk H' v π u
  | [], _, _, h => by cases h; exact .nil
  | _ :: _, _, _, h => by
    cases h with
    | cons h1 h2 h3 => exact .cons (g _ _ h1).1 h2 (Walk.gr g h3)
def obD (fz : Bool) : Ob → Option PyData
  | .d x => some x
  | .l xs => if fz = true then some (.list xs) else none
  | _ => none
def eP (i : Nat) (π : Path) : Env → Rs PyData := fun env => lift ((slotP env i π).bind fun p => obD p.1 p.2) env
def obL : Ob → Option (List PyData)
  | .l xs => some xs
  | _ => none
def obT : Ob → Option (List (NestedKey × PyData))
  | .t ks => some ks
  | _ => none
def listP (env : Env) (i : Nat) (π : Path) : Option (List PyData) := (slotP env i π).bind fun p => if p.1 = false then obL p.2 else none
def tabP (env : Env) (i : Nat) (π : Path) : Option (List (NestedKey × PyData)) := (slotP env i π).bind fun p => obT p.2
def tabO (env : Env) (i : Nat) (π : Path) : Option (List (NestedKey × PyData)) := (slotP env i π).bind fun p => if p.1 = false then obT p.2 else none
def obPut (π : Path) (y : Ob) : M → M
  | .ob fz x => .ob fz (x.putAt π y)
  | m => m
def putP (env : Env) (i : Nat) (π : Path) (y : Ob) : Env := env.set i (env[i]?.join.map (obPut π y))
theorem putP_at {i : Nat} {π : Path} {x y : Ob} (h : env[i]? = some (some (.ob false x))) : putP env i π y = env.set i (some (.ob false (x.putAt π y))) := by
  unfold putP
  rw [h]
  rfl
/-- a list that is owned at a path -/
theorem slot_lp {i : Nat} {π : Path} {xs : List PyData} (P : RpE K C H ow σ env) (e : listP env i π = some xs) :
    ∃ v a vs, σ[i]? = some (some v) ∧ Walk H v π (.ref a) ∧ H a = some (.lst vs) ∧ DVs K H ow vs xs ∧ xs.length ≤ 16777216 ∧
      ∀ us zs, DVs K H ow us zs → zs.length ≤ 16777216 → RpE K C (L2.upd H a (.lst us)) ow σ (putP env i π (.l zs)) ∧ Ext C.N H ow (L2.upd H a (.lst us)) ow ∧ Stay H ow (L2.upd H a (.lst us)) ow := by
  unfold listP at e
  cases hs : slotP env i π with
  | none => rw [hs] at e; cases e
  | some p =>
    rw [hs] at e
    obtain ⟨fz, y⟩ := p
    have e : (if fz = false then obL y else none) = some xs := e
    by_cases c : fz = false
    · rw [if_pos c] at e
      subst c
      cases y with
      | l ys =>
        cases e
        obtain ⟨x, v, u, fq, h, h1, h2, h3, hi, h4, hu⟩ := P.inPlace hs
        cases h3 with
        | @l a vs ds k1 k2 kz =>
          refine ⟨v, a, vs, h1, h2, k1, k2, kz, fun us zs du hz => ?_⟩
          rw [putP_at h]
          exact hu a (.lst us) (.l zs) (by simp) fun st => .l upd_same (du.stay st) hz
      | _ => cases e
    · rw [if_neg c] at e; cases e
end
section
variable {X : Cx} {C : Cc} {e o k : Expr} {i : Nat} {π : Path} {pos : Pos}
/-- o.f, data (a lent list as data) -/
theorem de_p (h : PE X e (tPl i π)) : DE X C e (eP i π) :=
  PEweak h fun σ H Q ⟨env, ow, P, h⟩ => by
    obtain ⟨d, e, h⟩ := rdAt_lift (v := V.non) h
    cases hs : slotP env i π with
    | none => rw [hs] at e; cases e
    | some p =>
      rw [hs] at e
      obtain ⟨fz, y⟩ := p
      have e : obD fz y = some d := e
      obtain ⟨v, u, fq, h1, h2, h3, h4⟩ := slot_p P hs
      refine ⟨v, u, h1, h2, ?_⟩
      cases y with
      | d x =>
        cases e
        cases h3 with
        | d h3 => exact h _ _ _ Ext.refl h3 P
      | l xs =>
        cases fz with
        | false => cases e
        | true =>
          cases e
          cases h3 with
          | l k1 k2 kz => exact h _ _ _ Ext.refl (.lst k1 (h4 _ (by simp)) k2 kz) P
      | _ => cases e
/-- o.f[k], a list -/
def eIxP (i : Nat) (π : Path) (t : Env → Rs PyData) : Env → Rs PyData := fun env => lift ((listP env i π).bind fun xs => (hid t env).bind fun k => match k with | .int j => atI xs j | _ => none) env
theorem de_ixP {t : Env → Rs PyData} (ho : PE X o (tPl i π)) (hk : DE X C k t) (hs : PlainIx k) : DE X C (.Subscript o k pos) (eIxP i π t) :=
  PEweak (pe_ix ix_list ho hk hs) fun σ H Q ⟨env, ow, P, h⟩ => by
    obtain ⟨d, e, h⟩ := rdAt_lift (v := V.non) h
    cases h1 : listP env i π with
    | none => rw [h1] at e; cases e
    | some xs =>
      rw [h1] at e
      obtain ⟨kd, h2, e⟩ := Option.bind_eq_some_iff.mp (show (hid t env).bind _ = some d from e)
      cases kd with
      | int j =>
        obtain ⟨v, a, vs, k1, k2, k3, k4, kz, _⟩ := slot_lp P h1
        refine ⟨v, .ref a, k1, k2, rd_hide P h2 (fun st r => DV.stay st r) fun kv H' ow' g r P' => ?_⟩
        cases r
        obtain ⟨v', a', vs', l1, l2, l3, l4, lz, _⟩ := slot_lp P' h1
        rw [k1] at l1
        cases l1
        have := (k2.gr g).inj l2
        cases this
        obtain ⟨u, m1, m2⟩ := atI_dv l4 (show atI xs j = some d from e)
        exact ⟨a, vs', j, u, rfl, rfl, .of l3, m1, h u H' ow' g.ext m2 P'⟩
      | _ => cases e
/-- o.f.m(..), a list's method -/
def eMtP (i : Nat) (π : Path) (f : List PyData → List PyData → Option (PyData × List PyData)) (t : Env → Rs (List PyData)) : Env → Rs PyData := fun env => match (listP env i π).bind fun xs => (hid t env).bind fun ys => f xs ys with
  | some p => .ok p.1 (putP env i π (.l p.2))
  | none => .no
/-- o.f[k] = e, a list -/
def setLP (i : Nat) (π : Path) (d : PyData) (tk : Env → Rs PyData) (e : Env) : Out := match (listP e i π).bind fun xs => (hid tk e).bind fun k => match k with | .int j => (ixN xs.length j).map fun n => xs.set n d | _ => none with
  | some zs => .nx (putP e i π (.l zs))
  | none => .no
def sSetP (i : Nat) (π : Path) (t tk : Env → Rs PyData) : Env → Out := sE t fun d e => setLP i π d tk e
/-- k in o.f -/
def eInP (n : Bool) (i : Nat) (π : Path) (t : Env → Rs PyData) : Env → Rs PyData := fun env => (t env).bind fun x e => lift ((tabP e i π).bind fun ks => (kNT x).map fun k => .bool (xor n (hasT ks k))) e
variable {a : Expr} {t : Env → Rs PyData}
/-- o.f[k], a table -/
def eGetP (i : Nat) (π : Path) (t : Env → Rs PyData) : Env → Rs PyData := fun env => lift ((tabP env i π).bind fun ks => (hid t env).bind fun x => (kNT x).bind fun k => getT ks k) env
/-- o.f[k] = e, a table -/
def setTP (i : Nat) (π : Path) (d : PyData) (tk : Env → Rs PyData) (e : Env) : Out := match (tabO e i π).bind fun ks => (hid tk e).bind fun x => (kNT x).bind fun k => if ks.length < 16777216 then some (putT ks k d) else none with
  | some ks => .nx (putP e i π (.t ks))
  | none => .no
def sPutP (i : Nat) (π : Path) (t tk : Env → Rs PyData) : Env → Out := sE t fun d e => setTP i π d tk e
/-- a new table -/
def mNewT : Env → Rs M := fun e => .ok (.ob false (.t [])) e
/-- what a field takes -/
def toOb : M → Option Ob
  | .d x => some (.d x)
  | .l xs => some (.l xs)
  | .m ks => some (.m ks)
  | .ob false x => some x
  | _ => none
theorem ob_of {K : PySem.W.Frag} {H : Hp} {ow : Ow} {v : V} {m : M} {z : Ob} {fp : List Addr} (h : VM K H ow v m fp) (e : toOb m = some z) : OT K H ow v z fp := by
  cases h with
  | d h => cases e; exact .d h
  | l h1 h2 hz => cases e; exact .l h1 h2 hz
  | m h1 h2 hz => cases e; exact .m h1 h2 hz
  | ob h => cases e; exact h
  | _ => cases e
def obO : Ob → Option (Addr × Obs)
  | .o c fs => some (c, fs)
  | _ => none
/-- o.f = e -/
def putFP (c : Addr) (i : Nat) (π : Path) (f : Str) (m : M) (e : Env) : Out := match (slotP e i π).bind fun p => if p.1 = false then (obO p.2).bind fun q => if q.1 = c ∧ q.2.len < 1000 then (toOb m).map fun z => Ob.o c (q.2.put f z) else none else none with
  | some y => .nx (putP e i π y)
  | none => .no
def sFldP (c : Addr) (i : Nat) (π : Path) (f : Str) (t : Env → Rs M) : Env → Out := sE t (putFP c i π f)
theorem putFP_some {c : Addr} {f : Str} {m : M} {e : Env} {y : Ob} (h : ((slotP e i π).bind fun p => if p.1 = false then (obO p.2).bind fun q => if q.1 = c ∧ q.2.len < 1000 then (toOb m).map fun z => Ob.o c (q.2.put f z) else none else none) = some y) :
    ∃ fs z, slotP e i π = some (false, .o c fs) ∧ fs.len < 1000 ∧ toOb m = some z ∧ y = .o c (fs.put f z) := by
  obtain ⟨⟨fz, x⟩, h1, h⟩ := Option.bind_eq_some_iff.mp h
  have h : (if fz = false then (obO x).bind fun q => if q.1 = c ∧ q.2.len < 1000 then (toOb m).map fun z => Ob.o c (q.2.put f z) else none else none) = some y := h
  by_cases c1 : fz = false
  · rw [if_pos c1] at h
    subst c1
    obtain ⟨⟨c', fs⟩, h2, h⟩ := Option.bind_eq_some_iff.mp h
    cases x with
    | o c'' fs' =>
      cases h2
      have h : (if c' = c ∧ fs.len < 1000 then (toOb m).map fun z => Ob.o c (fs.put f z) else none) = some y := h
      by_cases c2 : c' = c ∧ fs.len < 1000
      · rw [if_pos c2] at h
        obtain ⟨z, h3, rfl⟩ := Option.map_eq_some_iff.mp h
        obtain ⟨rfl, c3⟩ := c2
        exact ⟨fs, z, h1, c3, h3, rfl⟩
      · rw [if_neg c2] at h; cases h
    | _ => cases h2
  · rw [if_neg c1] at h; cases h
/-- a field of an object at a path is put anew by what is owned at the moment -/
theorem RpE.putF {K : PySem.W.Frag} {H : Hp} {ow : Ow} {σ : L2.St} {env : Env} {c : Addr} {f : Str} {fs : Obs} {z : Ob} {w : V} {fz : List Addr} (P : RpE K C H ow σ env) (hs : slotP env i π = some (false, .o c fs)) (hz : OT K H ow w z fz) (nz : fz.Nodup) (oz : ∀ p ∈ fz, ow p = some C.N) :
    ∃ v a dx fv, σ[i]? = some (some v) ∧ Walk H v π (.ref a) ∧ H a = some (.ins c dx fv) ∧ fv.length = fs.len ∧ ∃ ow', RpE K C (L2.upd H a (.ins c dx (L2.putF f w fv))) ow' σ (putP env i π (.o c (fs.put f z))) ∧ Ext C.N H ow (L2.upd H a (.ins c dx (L2.putF f w fv))) ow' := by
  obtain ⟨x, v, u, l, fq, r, h, h1, h2, h3, nd, ho, hi, hu⟩ := P.focus hs
  cases h3 with
  | @o a _ dx fv _ fp q1 q2 =>
    obtain ⟨l2, fq2, r2, e1, e2⟩ := q2.set f
    have hai : ow a = some i := ho a (by simp)
    have ne : ∀ p ∈ l ++ (a :: fp) ++ r, p ∉ fz := fun p hp hz' => by
      have := ho p hp
      rw [oz p hz'] at this
      have := Option.some.inj this
      omega
    have nd' := nd
    rw [List.append_assoc, List.nodup_append] at nd'
    obtain ⟨d1, d2, d3⟩ := nd'
    obtain ⟨d4, d5, d6⟩ := List.nodup_append.1 d2
    obtain ⟨d7, d8⟩ := List.nodup_cons.1 d4
    have haz : a ∉ fz := ne a (by simp)
    refine ⟨v, a, dx, fv, h1, h2, q1, q2.len, DL.reown ow C.N i, ?_⟩
    rw [putP_at h]
    have st : Stay H ow (L2.upd H a (.ins c dx (L2.putF f w fv))) (DL.reown ow C.N i) := fun p o hp hp' => ⟨by
      rw [upd_ne (fun z => by rw [z, hai] at hp'; cases hp')]; exact hp, DL.reown_none hp'⟩
    have at_ : ∀ p, p ≠ a → L2.upd H a (.ins c dx (L2.putF f w fv)) p = H p := fun p hp => upd_ne hp
    have F := e2 (L2.upd H a (.ins c dx (L2.putF f w fv))) (DL.reown ow C.N i) w z fz st (fun p hp => at_ p fun e => d7 (by
      rw [← e, e1]
      rcases List.mem_append.1 hp with hp | hp
      · simp [hp]
      · simp [hp])) (hz.stay st fun p hp => at_ p fun e => haz (by rw [← e]; exact hp))
    refine hu _ (DL.reown ow C.N i) (.o c (fs.put f z)) (a :: (l2 ++ fz ++ r2)) (fun p o hp hn => by rw [at_ p fun e => hn (by rw [e]; simp)]; exact hp) (fun p o hp => ?_) ?_ (fun p hp => ?_) (fun p hp hm => ?_) (.o upd_same F)
    · by_cases hN : ow p = some C.N
      · exact .inr hN
      · exact .inl (DL.reown_ne hN)
    · rw [List.nodup_cons]
      have nd2 : (l2 ++ fq2 ++ r2).Nodup := by rw [← e1]; exact d8
      rw [List.append_assoc, List.nodup_append] at nd2
      obtain ⟨f1, f2, f3⟩ := nd2
      obtain ⟨f4, f5, f6⟩ := List.nodup_append.1 f2
      have nez : ∀ p ∈ l2 ++ r2, p ∉ fz := fun p hp => ne p (by
        rw [e1]
        rcases List.mem_append.1 hp with hp | hp
        · simp [hp]
        · simp [hp])
      refine ⟨fun hm => ?_, ?_⟩
      · rcases List.mem_append.1 hm with hm | hm
        · rcases List.mem_append.1 hm with hm | hm
          · exact d7 (by rw [e1]; simp [hm])
          · exact haz hm
        · exact d7 (by rw [e1]; simp [hm])
      · rw [List.append_assoc, List.nodup_append]
        refine ⟨f1, List.nodup_append.2 ⟨nz, f5, fun x hx y hy e => nez y (List.mem_append_right _ hy) (by rw [← e]; exact hx)⟩, fun x hx y hy e => ?_⟩
        rcases List.mem_append.1 hy with hy | hy
        · exact nez x (List.mem_append_left _ hx) (by rw [e]; exact hy)
        · exact f3 x hx y (List.mem_append_right _ hy) e
    · have hold : ∀ p, p ∈ l ++ (a :: fp) ++ r → DL.reown ow C.N i p = some i := fun p hp => by
        rw [DL.reown_ne (by rw [ho p hp]; intro z; have := Option.some.inj z; omega)]
        exact ho p hp
      rcases List.mem_cons.1 hp with rfl | hp
      · exact hold _ (by simp)
      · rcases List.mem_append.1 hp with hp | hp
        · rcases List.mem_append.1 hp with hp | hp
          · exact hold _ (by rw [e1]; simp [hp])
          · exact DL.reown_eq (oz p hp)
        · exact hold _ (by rw [e1]; simp [hp])
    · have inf : ∀ q, q ∈ a :: fp → q ∉ l ++ r := fun q hq hq2 => by
        rcases List.mem_append.1 hq2 with hq2 | hq2
        · exact d3 q hq2 q (List.mem_append_left _ hq) rfl
        · exact d6 q hq q hq2 rfl
      rcases List.mem_cons.1 hp with rfl | hp
      · exact inf _ List.mem_cons_self hm
      · rcases List.mem_append.1 hp with hp | hp
        · rcases List.mem_append.1 hp with hp | hp
          · exact inf p (List.mem_cons_of_mem _ (by rw [e1]; simp [hp])) hm
          · refine ne p ?_ hp
            rcases List.mem_append.1 hm with hm | hm
            · simp [hm]
            · simp [hm]
        · exact inf p (List.mem_cons_of_mem _ (by rw [e1]; simp [hp])) hm
theorem ds_fldP {c : Addr} {f : Str} {v0 : Expr} {t : Env → Rs M} {p1 : Pos} (h : DM X C v0 t) (ho : PE X o (tPl i π)) (hc : Cls X.K c) (hn : NoAttr X.K c f) (hs : swapsWith v0 (some (.Attribute o f p1)) pos.line X.env = pure false := by rfl) : DS X C (.Assign [.Attribute o f p1] v0 pos) (sFldP c i π f t) :=
  PSweak (ps_fld ho h hs) fun D σ H ⟨env, ow, P, h⟩ => out_E (R := RM X.K C.N) P h fun w H1 m e1 ow1 ⟨fz, v1, v2, v3⟩ P1 q => by
    unfold putFP at q
    split at q
    · rename_i y hy
      obtain ⟨fs, z, h1, h2, h3, rfl⟩ := putFP_some hy
      obtain ⟨v, a, dx, fv, k1, k2, k3, k4, ow', P3, x3⟩ := P1.putF (f := f) h1 (ob_of v1 h3) v2 v3
      exact ⟨v, .ref a, k1, k2, a, c, dx, fv, rfl, k3, hc, hn, by rw [k4]; exact h2, q σ _ ow' x3 P3⟩
    · exact q.elim
end
end DL
namespace DL
open PySem PySem.Spec PyProof.Rows L2
/-- what is lent stays in its slot -/
def keepO : Option M → Option M → Option M
  | some (.ob true x), _ => some (.ob true x)
  | _, y => y
def keepF (e0 e1 : Env) : Env := List.zipWith keepO e0 e1
def keepR (env : Env) : Rs M → Rs M
  | .ok m e => .ok m (keepF env e)
  | r => r
def mKeep (t : Env → Rs M) : Env → Rs M := fun env => keepR env (t env)
section
variable {K : PySem.W.Frag} {C : Cc} {H H' : Hp} {ow ow' : Ow} {σ : L2.St} {e0 e1 : Env}
theorem RpE.keepF (P0 : RpE K C H ow σ e0) (st : Stay H ow H' ow') (P1 : RpE K C H' ow' σ e1) : RpE K C H' ow' σ (DL.keepF e0 e1) := by
  have hl : e0.length = e1.length := P0.len.trans P1.len.symm
  refine ⟨fun i m h => ?_, P1.io, by unfold DL.keepF; rw [List.length_zipWith, hl, Nat.min_self]; exact P1.len, P1.lenS⟩
  unfold DL.keepF at h
  rw [List.getElem?_zipWith] at h
  cases h0 : e0[i]? with
  | none => rw [h0] at h; cases h
  | some o0 =>
    cases h1 : e1[i]? with
    | none => rw [h0, h1] at h; cases h
    | some o1 =>
      rw [h0, h1] at h
      have h : keepO o0 o1 = some m := Option.some.inj h
      unfold keepO at h
      split at h
      · cases h
        obtain ⟨v, fp, a, b, c, d⟩ := P0.sl i _ h0
        cases b with
        | fb k1 k2 => exact ⟨v, [], a, (VM.fb k1 k2).stay st (fun p hp => nomatch hp), List.nodup_nil, fun p hp => nomatch hp⟩
      · subst h
        exact P1.sl i m h1
theorem rdAt_keep {Q : VK} {H0 : Hp} {ow0 : Ow} (P0 : RpE K C H0 ow0 σ e0) (x0 : Stay H0 ow0 H ow) : ∀ {r : Rs M}, rdAt K C (RM K C.N) σ H ow Q (keepR e0 r) → rdAt K C (RM K C.N) σ H ow Q r
  | .ok m e, h => fun v H' ow' X V P' => h v H' ow' X V (P0.keepF (x0.trans X.stay) P')
  | .ex _ _, h => h
  | .no, h => h
end
theorem dm_keep {X : Cx} {C : Cc} {e : Expr} {t : Env → Rs M} (h : DM X C e t) : DM X C e (mKeep t) :=
  PEweak h fun σ H Q ⟨env, ow, P, h⟩ => ⟨env, ow, P, rdAt_keep P .refl h⟩
/-- o.m(..) -/
def obMP (c : Addr) (m : Str) : M → Bool
  | .ob _ (.o c' fs) => decide (c' = c) && (fs.get m).isNone
  | _ => false
def eMethP (c : Addr) (i : Nat) (m : Str) (ar : Nat) (F : Fn) (t : Env → Rs (List AV)) : Env → Rs M := fun env => match env[i]?.join with
  | some o => if obMP c m o = true then (t env).bind fun avs e => callM ar F (.s i :: avs) e else .no
  | none => .no
section
variable {X : Cx} {C : Cc} {K : PySem.W.Frag}
theorem rd_methP {c : Addr} {i : Nat} {m : Str} {cl : Str → Option Addr} {n ar : Nat} {F : Fn} {t : Env → Rs (List AV)} (hn : ar ≤ n) {σ : L2.St} {H : Hp} {Q : VK} (h : rd K C (RM K C.N) (eMethP c i m ar F t) σ H Q) :
    tMeth c m (spD K cl n ar F) [] E0 (tVar i) (fun σ H Q => rd K C (RV K σ) t σ H Q) σ H Q := by
  obtain ⟨env, ow, P, h⟩ := h
  unfold eMethP at h
  cases he : env[i]? with
  | none => rw [he] at h; exact h.elim
  | some oo =>
    rw [he] at h
    cases oo with
    | none => exact h.elim
    | some o =>
      have h9 : rdAt K C (RM K C.N) σ H ow Q (if obMP c m o = true then (t env).bind fun avs e => callM ar F (.s i :: avs) e else .no) := h
      clear h
      by_cases hm : obMP c m o = true
      · rw [if_pos hm] at h9
        cases o with
        | ob fz x =>
          cases x with
          | o c' fs =>
            have hm2 : (decide (c' = c) && (fs.get m).isNone) = true := hm
            rw [Bool.and_eq_true, decide_eq_true_iff] at hm2
            obtain ⟨rfl, hm3⟩ := hm2
            obtain ⟨v, fp, a1, a2, a3, a4⟩ := P.sl i _ he
            have key : ∃ a dx fv, v = .ref a ∧ H a = some (.ins c' dx fv) ∧ fv.lookup m = none := by
              cases a2 with
              | ob k => cases k with | o k1 k2 => exact ⟨_, _, _, rfl, k1, k2.none (Option.isNone_iff_eq_none.1 hm3)⟩
              | fb k k0 => cases k with | o k1 k2 => exact ⟨_, _, _, rfl, k1, k2.none (Option.isNone_iff_eq_none.1 hm3)⟩
            obtain ⟨a, dx, fv, rfl, k1, k2⟩ := key
            refine ⟨.ref a, a1, a, dx, fv, rfl, k1, k2, env, ow, P, rdAt_mono (rdAt_bind (R1 := RV K σ) h9) fun vs H1 ⟨avs, e1, ow1, X1, V1, P1, h1⟩ => ?_⟩
            rw [List.append_nil]
            exact call_tail hn P1 (.s a1 V1) h1
          | _ => cases hm
        | _ => cases hm
      · rw [if_neg hm] at h9; exact h9.elim
theorem dm_methP {k n ar : Nat} {g c : Addr} {fd : FuncData} {ps : List Str} {cl : Str → Option Addr} {F : Fn} {o e : Expr} {es : List Expr} {m : Str} {i : Nat} {apos pos : Pos} {t : Env → Rs (List AV)} {pl : Sem Bool} (ho : PE X o (tVar i)) (hc : Cls X.K c) (hm : Meth X.K c m g) (Fo : FnOk X.prog X.w X.K X.mg X.base CX0 k g fd ps (spD X.K cl n ar F)) (hr : Room k X.A) (hb : Binds X.K fd ps [])
    (ha : DAv X C (e :: es) t) (hn : ar ≤ n := by decide)
    (hst : starEach (e :: es) X.env = (false, eval e X.env) :: starEach es X.env := by rfl) (hpl : (backTo pos (starEach es X.env)).any (·.1) = false := by rfl)
    (ht : eval (.Call (.Attribute o m apos) (e :: es) [] pos) X.env = (do
      let ov ← eval o X.env
      standAt apos.atName
      let (f, first) ← holding [ov] (getMethod ov m pl)
      callWith pos f first (backTo pos (starEach (e :: es) X.env)) (backToKw pos (keywordEach [] X.env))) := by rfl) :
    DM X C (.Call (.Attribute o m apos) (e :: es) [] pos) (mKeep (eMethP c i m ar F t)) :=
  dm_keep (PEweak (pe_meth ho hc hm Fo hr hb .nil pass0 ha hst hpl ht) fun σ H Q h => rd_methP hn h)
end
section
variable {K : PySem.W.Frag} {C : Cc} {X : Cx}
def eMakeP (c : Addr) (ar : Nat) (F : Fn) (t : Env → Rs (List AV)) : Env → Rs M := fun env => (t env).bind fun avs e => match avMs e avs with
  | none => .no
  | some ms => if avs.length + 1 = ar ∧ (jsOf avs).Nodup then match F (.ob false (.o c .nil) :: ms) with
    | .rt (.d .none) (some (.ob false z) :: os) => .ok (.ob false z) (putBack avs os e)
    | _ => .no
    else .no
theorem rd_makeP {c : Addr} {cl : Str → Option Addr} {n ar : Nat} {F : Fn} {t : Env → Rs (List AV)} (hn : ar ≤ n) {σ : L2.St} {H : Hp} {Q : VK} (h : rd K C (RM K C.N) (eMakeP c ar F t) σ H Q) :
    tMake c (spD K cl n ar F) [] E0 (fun σ H Q => rd K C (RV K σ) t σ H Q) σ H Q := by
  refine rd_one (R1 := RV K σ) h fun vs avs H ow env hv P h x dx hx hdx ne => ?_
  have h : rdAt K C (RM K C.N) σ H ow Q (match avMs env avs with
    | none => .no
    | some ms => if avs.length + 1 = ar ∧ (jsOf avs).Nodup then match F (.ob false (.o c .nil) :: ms) with
      | .rt (.d .none) (some (.ob false z) :: os) => .ok (.ob false z) (putBack avs os env)
      | _ => .no
      else .no) := h
  cases hm : avMs env avs with
  | none => rw [hm] at h; exact h.elim
  | some ms =>
    rw [hm] at h
    by_cases hc : avs.length + 1 = ar ∧ (jsOf avs).Nodup
    · simp only [if_pos hc] at h
      rw [List.append_nil]
      -- the object stands in one slot more
      have js : ∀ j ∈ jsOf avs, j < C.N := fun j hj => by
        have := avMs_slot hm hj
        have := P.len
        omega
      have at2 : ∀ a o, H a = some o → upd (upd H dx (.own x)) x (.ins c dx []) a = some o ∧ a ≠ x := fun a o ho => by
        have n1 := ne_of_none ho hx
        have n2 := ne_of_none ho hdx
        exact ⟨by rw [upd_ne n1, upd_ne n2]; exact ho, n1⟩
      have st : Stay H ow (upd (upd H dx (.own x)) x (.ins c dx [])) (mkIn C.N x ow) := fun a o ho hw => by
        obtain ⟨q1, q2⟩ := at2 a o ho
        refine ⟨q1, ?_⟩
        unfold mkIn
        rw [if_neg q2, hw]; rfl
      have P2 : RpE K { C with N := C.N + 1, io := fun i => if i < C.N then C.io i else none } (upd (upd H dx (.own x)) x (.ins c dx [])) (mkIn C.N x ow) (σ ++ [some (.ref x)]) (env ++ [some (.ob false (.o c .nil))]) := by
        refine ⟨fun i m e => ?_, fun i v e => ?_, ?_, ?_⟩
        · by_cases hi : i < env.length
          · rw [List.getElem?_append_left hi] at e
            obtain ⟨v, fp, h1, h2, h3, h4⟩ := P.sl i m e
            refine ⟨v, fp, by rw [List.getElem?_append_left (List.getElem?_eq_some_iff.mp h1).1]; exact h1, h2.stay st fun p hp => ?_, h3, fun p hp => ?_⟩
            · obtain ⟨u, hu⟩ := h2.there p hp
              exact (at2 p u hu).1.trans hu.symm
            · obtain ⟨u, hu⟩ := h2.there p hp
              unfold mkIn
              rw [if_neg (at2 p u hu).2, h4 p hp]
              show some (shU C.N i) = some i
              unfold shU
              rw [if_pos (by rw [← P.len]; exact hi)]
          · have hi' : i = env.length := by
              have := (List.getElem?_eq_some_iff.mp e).1
              rw [List.length_append, List.length_singleton] at this
              omega
            subst hi'
            rw [List.getElem?_append_right (Nat.le_refl _), Nat.sub_self] at e
            cases e
            refine ⟨.ref x, [x], ?_, .ob (.o upd_same .nil), by simp, fun p hp => ?_⟩
            · rw [P.len, ← P.lenS, List.getElem?_append_right (Nat.le_refl _), Nat.sub_self]; rfl
            · rw [List.mem_singleton] at hp
              subst hp
              unfold mkIn
              rw [if_pos rfl, P.len]
        · have e : (if i < C.N then C.io i else none) = some v := e
          by_cases hi : i < C.N
          · rw [if_pos hi] at e
            rw [List.getElem?_append_left (by rw [P.lenS]; exact hi)]
            exact P.io i v e
          · rw [if_neg hi] at e; cases e
        · show (env ++ [some (M.ob false (.o c .nil))]).length = C.N + 1
          rw [List.length_append, P.len]; rfl
        · show (σ ++ [some (V.ref x)]).length = C.N + 1
          rw [List.length_append, P.lenS]; rfl
      have hv2 : RVi K (σ ++ [some (.ref x)]) (upd (upd H dx (.own x)) x (.ins c dx [])) (mkIn C.N x ow) (.ref x :: vs) (.s C.N :: avs) := .s (by
        rw [← P.lenS, List.getElem?_append_right (Nat.le_refl _), Nat.sub_self]; rfl) (hv.app st)
      have hm2 : avMs (env ++ [some (.ob false (.o c .nil))]) (.s C.N :: avs) = some (.ob false (.o c .nil) :: ms) := by
        have e1 : avM (env ++ [some (.ob false (.o c .nil))]) (.s C.N) = some (.ob false (.o c .nil)) := by
          show (match (env ++ [some (M.ob false (.o c .nil))])[C.N]? with | some (some m) => some m | _ => none) = _
          rw [← P.len, List.getElem?_append_right (Nat.le_refl _), Nat.sub_self]; rfl
        simp only [avMs, e1, avMs_app hm, Option.bind_some, Option.map_some]
      have nd2 : (jsOf (.s C.N :: avs)).Nodup := List.nodup_cons.2 ⟨fun z => by have := js _ z; omega, hc.2⟩
      refine ⟨by rw [List.length_cons, hv.length]; exact hc.1, .ob false (.o c .nil) :: ms, owIn (mkIn C.N x ow) (.s C.N :: avs) n, by rw [List.length_cons, avMs_length hm]; exact hc.1, call_in P2 hv2 hm2 nd2, ?_⟩
      cases hF : F (.ob false (.o c .nil) :: ms) with
      | no => rw [hF] at h; exact h.elim
      | ex y os => rw [hF] at h; exact h.elim
      | rt m os =>
        rw [hF] at h
        cases m with
        | d z =>
          cases z with
          | none =>
            cases os with
            | nil => exact h.elim
            | cons o0 os =>
              cases o0 with
              | none => exact h.elim
              | some m0 =>
                cases m0 with
                | ob fzz z =>
                  cases fzz with
                  | true => exact h.elim
                  | false =>
                  have h : rdAt K C (RM K C.N) σ H ow Q (.ok (.ob false z) (putBack avs os env)) := h
                  intro v H' ow' X0 ⟨fp, r1, r2, r3⟩ ro
                  obtain ⟨X1, P3⟩ := call_back P2 hv2 hm2 nd2 (by rw [List.length_cons]; omega) X0 ro
                  have pb : putBack (.s C.N :: avs) (some (.ob false z) :: os) (env ++ [some (.ob false (.o c .nil))]) = putBack avs os env ++ [some (.ob false z)] := by
                    show putBack avs os ((env ++ [some (M.ob false (.o c .nil))]).set C.N (some (M.ob false z))) = _
                    rw [← P.len, List.set_append_right _ _ (Nat.le_refl _), Nat.sub_self]
                    exact putBack_app fun j hj => by rw [P.len]; exact js j hj
                  rw [pb] at P3
                  have pl : (putBack avs os env).length = C.N := by rw [putBack_length]; exact P.len
                  generalize hO : owOut (C.N + 1) (mkIn C.N x ow) (.s C.N :: avs) n ow' = O at X1 P3
                  have st3 : Stay H' O H' (mkOut C.N O) := fun a o ha hw => ⟨ha, by unfold mkOut; rw [hw]; rfl⟩
                  have ext : Ext C.N H ow H' (mkOut C.N O) := fun a o ha hw => by
                    obtain ⟨q1, q2⟩ := at2 a o ha
                    have hin : mkIn C.N x ow a = (ow a).map (shU C.N) := if_neg q2
                    obtain ⟨y1, y2⟩ := X1 a o q1 fun i e => by
                      rw [hin] at e
                      cases hj : ow a with
                      | none => rw [hj] at e; cases e
                      | some j =>
                        rw [hj] at e
                        have e : some (shU C.N j) = some i := e
                        cases e
                        have := hw j hj
                        show C.N + 1 < shU C.N j
                        unfold shU
                        rw [if_neg (by omega)]
                        omega
                    refine ⟨y1, ?_⟩
                    unfold mkOut
                    rw [y2, hin]
                    cases hj : ow a with
                    | none => rfl
                    | some j =>
                      have := hw j hj
                      have e1 : shU C.N j = j + 1 := by unfold shU; rw [if_neg (by omega)]
                      show some (shD C.N (shU C.N j)) = some j
                      rw [e1]
                      unfold shD
                      rw [if_neg (by omega)]
                      simp
                  have P4 : RpE K C H' (mkOut C.N O) σ (putBack avs os env) := by
                    refine ⟨fun j m' e => ?_, P.io, pl, P.lenS⟩
                    have hj : j < C.N := by rw [← pl]; exact (List.getElem?_eq_some_iff.mp e).1
                    obtain ⟨v', fp', h1, h2, h3, h4⟩ := P3.sl j m' (by rw [List.getElem?_append_left (by rw [pl]; exact hj)]; exact e)
                    rw [List.getElem?_append_left (by rw [P.lenS]; exact hj)] at h1
                    refine ⟨v', fp', h1, h2.stay st3 fun _ _ => rfl, h3, fun p hp => ?_⟩
                    unfold mkOut
                    rw [h4 p hp]
                    show some (shD C.N j) = some j
                    unfold shD
                    rw [if_pos (by omega)]
                  obtain ⟨v2, fp2, h1, h2, h3, h4⟩ := P3.sl C.N (.ob false z) (by rw [← pl, List.getElem?_append_right (Nat.le_refl _), Nat.sub_self]; rfl)
                  rw [← P.lenS, List.getElem?_append_right (Nat.le_refl _), Nat.sub_self] at h1
                  cases h1
                  refine ⟨by cases r1 with | d r1 => cases r1; rfl, h _ H' _ ext ⟨fp2, h2.stay st3 fun _ _ => rfl, h3, fun p hp => ?_⟩ P4⟩
                  unfold mkOut
                  rw [h4 p hp]
                  show some (shD C.N C.N) = some C.N
                  unfold shD
                  rw [if_pos (Nat.le_refl _)]
                | _ => exact h.elim
          | _ => exact h.elim
        | _ => exact h.elim
    · simp only [if_neg hc] at h; exact h.elim
theorem dm_makeP {k n ar : Nat} {g c : Addr} {fd : FuncData} {ps : List Str} {cl : Str → Option Addr} {F : Fn} {x : Str} {p pos : Pos} {e : Expr} {es : List Expr} {t : Env → Rs (List AV)} (M0 : Mk X.K c g) (Fo : FnOk X.prog X.w X.K X.mg X.base CX0 k g fd ps (spD X.K cl n ar F)) (hr : Room (k + 1) X.A) (hg : Gl X x) (hm : X.mg x = some (.ref c)) (hb : Binds X.K fd ps [])
    (ha : DAv X C (e :: es) t) (hn : ar ≤ n := by decide) (hdb : (x == ("__debug__" : Str)) = false := by decide) (he : starEach (e :: es) X.env = (false, eval e X.env) :: starEach es X.env := by rfl) (hpl : (backTo pos (starEach es X.env)).any (·.1) = false := by rfl) :
    DM X C (.Call (.Name x p) (e :: es) [] pos) (eMakeP c ar F t) :=
  PEweak (pe_make M0 Fo hr hg hm hb .nil pass0 ha hdb he hpl) fun σ H Q h => rd_makeP hn h
end
end DL
namespace DL
open PySem PySem.Spec PyProof.Rows L2
@[simp] theorem slotP_eq (env : Env) (i π) : slotP env i π = env[i]?.join.bind (atM π) := id rfl
@[simp] theorem atM_ob (π fz x) : atM π (.ob fz x) = (x.at π).map (fz, ·) := id rfl
@[simp] theorem eP_eq (i π) (env : Env) : eP i π env = lift ((slotP env i π).bind fun p => obD p.1 p.2) env := id rfl
@[simp] theorem obD_d (fz x) : obD fz (.d x) = some x := id rfl
@[simp] theorem obD_l (x) : obD true (.l x) = some (.list x) := id rfl
@[simp] theorem obL_l (x) : obL (.l x) = some x := id rfl
@[simp] theorem obT_t (x) : obT (.t x) = some x := id rfl
@[simp] theorem obO_o (c fs) : obO (.o c fs) = some (c, fs) := id rfl
@[simp] theorem listP_eq (env : Env) (i π) : listP env i π = (slotP env i π).bind fun p => if p.1 = false then obL p.2 else none := id rfl
@[simp] theorem tabP_eq (env : Env) (i π) : tabP env i π = (slotP env i π).bind fun p => obT p.2 := id rfl
@[simp] theorem tabO_eq (env : Env) (i π) : tabO env i π = (slotP env i π).bind fun p => if p.1 = false then obT p.2 else none := id rfl
@[simp] theorem obPut_ob (π y fz x) : obPut π y (.ob fz x) = .ob fz (x.putAt π y) := id rfl
@[simp] theorem putP_eq (env : Env) (i π y) : putP env i π y = env.set i (env[i]?.join.map (obPut π y)) := id rfl
@[simp] theorem hid_eq {α : Type} (t : Env → Rs α) (env : Env) : hid t env = okR (t (hide env)) := id rfl
@[simp] theorem okR_ok {α : Type} (a : α) (e : Env) : okR (.ok a e) = some a := id rfl
@[simp] theorem hide_nil : hide [] = [] := id rfl
@[simp] theorem hide_n (e : Env) : hide (none :: e) = none :: hide e := id rfl
@[simp] theorem hide_s (m) (e : Env) : hide (some m :: e) = hideM m :: hide e := id rfl
@[simp] theorem hideM_d (x) : hideM (.d x) = some (.d x) := id rfl
@[simp] theorem hideM_l (x) : hideM (.l x) = none := id rfl
@[simp] theorem hideM_scr (x) : hideM (.scr x) = some (.scr x) := id rfl
@[simp] theorem hideM_of (x) : hideM (.ob false x) = none := id rfl
@[simp] theorem hideM_ot (x) : hideM (.ob true x) = some (.ob true x) := id rfl
@[simp] theorem eIxP_eq (i π t) (env : Env) : eIxP i π t env = lift ((listP env i π).bind fun xs => (hid t env).bind fun k => ixOf xs k) env := by
  unfold eIxP
  congr 2
  funext xs
  congr 1
  funext k
  cases k <;> rfl
@[simp] theorem eMtP_eq (i π f t) (env : Env) : eMtP i π f t env = optRs ((listP env i π).bind fun xs => (hid t env).bind fun ys => f xs ys) fun p => .ok p.1 (putP env i π (.l p.2)) := by
  unfold eMtP
  cases ((listP env i π).bind fun xs => (hid t env).bind fun ys => f xs ys) <;> rfl
def setD (d : PyData) (xs : List PyData) : PyData → Option (List PyData)
  | .int j => (ixN xs.length j).map fun n => xs.set n d
  | _ => none
@[simp] theorem setD_i (d xs j) : setD d xs (.int j) = (ixN xs.length j).map fun n => xs.set n d := id rfl
@[simp] theorem setLP_eq (i π d tk) (env : Env) : setLP i π d tk env = optOut ((listP env i π).bind fun xs => (hid tk env).bind fun k => setD d xs k) fun zs => .nx (putP env i π (.l zs)) := by
  unfold setLP
  have key : ∀ o o' : Option (List PyData), o = o' → (match o with | some zs => Out.nx (putP env i π (.l zs)) | none => .no) = optOut o' fun zs => .nx (putP env i π (.l zs)) := by
    rintro o _ rfl
    cases o <;> rfl
  refine key _ _ (congrArg (Option.bind (listP env i π)) (funext fun xs => congrArg (Option.bind (hid tk env)) (funext fun k => ?_)))
  cases k <;> rfl
@[simp] theorem sSetP_eq (i π t tk) (env : Env) : sSetP i π t tk env = sE t (fun d e => setLP i π d tk e) env := id rfl
@[simp] theorem eInP_eq (n i π t) (env : Env) : eInP n i π t env = (t env).bind fun x e => lift ((tabP e i π).bind fun ks => (kNT x).map fun k => .bool (xor n (hasT ks k))) e := id rfl
@[simp] theorem eGetP_eq (i π t) (env : Env) : eGetP i π t env = lift ((tabP env i π).bind fun ks => (hid t env).bind fun x => (kNT x).bind fun k => getT ks k) env := id rfl
@[simp] theorem setTP_eq (i π d tk) (env : Env) : setTP i π d tk env = optOut ((tabO env i π).bind fun ks => (hid tk env).bind fun x => (kNT x).bind fun k => if ks.length < 16777216 then some (putT ks k d) else none) fun ks => .nx (putP env i π (.t ks)) := by
  unfold setTP
  split
  · rename_i h; rw [h]; rfl
  · rename_i h; rw [h]; rfl
@[simp] theorem sPutP_eq (i π t tk) (env : Env) : sPutP i π t tk env = sE t (fun d e => setTP i π d tk e) env := id rfl
@[simp] theorem mNewT_eq (env : Env) : mNewT env = .ok (.ob false (.t [])) env := id rfl
@[simp] theorem toOb_d (x) : toOb (.d x) = some (.d x) := id rfl
@[simp] theorem toOb_l (x) : toOb (.l x) = some (.l x) := id rfl
@[simp] theorem toOb_m (x) : toOb (.m x) = some (.m x) := id rfl
@[simp] theorem toOb_ob (x) : toOb (.ob false x) = some x := id rfl
@[simp] theorem putFP_eq (c i π f m) (env : Env) : putFP c i π f m env = optOut ((slotP env i π).bind fun p => if p.1 = false then (obO p.2).bind fun q => if q.1 = c ∧ q.2.len < 1000 then (toOb m).map fun z => Ob.o c (q.2.put f z) else none else none) fun y => .nx (putP env i π y) := by
  unfold putFP
  split
  · rename_i h; rw [h]; rfl
  · rename_i h; rw [h]; rfl
@[simp] theorem sFldP_eq (c i π f t) (env : Env) : sFldP c i π f t env = sE t (putFP c i π f) env := id rfl
@[simp] theorem obMP_o (c m fz c' fs) : obMP c m (.ob fz (.o c' fs)) = (decide (c' = c) && (fs.get m).isNone) := id rfl
@[simp] theorem eMethP_eq (c i m ar F t) (env : Env) : eMethP c i m ar F t env = optRs env[i]?.join fun o => if obMP c m o = true then (t env).bind fun avs e => callM ar F (.s i :: avs) e else .no := by
  unfold eMethP
  cases env[i]?.join <;> rfl
@[simp] theorem mKeep_eq (t) (env : Env) : mKeep t env = keepR env (t env) := id rfl
@[simp] theorem keepR_ok (env : Env) (m e) : keepR env (.ok m e) = .ok m (keepF env e) := id rfl
@[simp] theorem keepF_nil : keepF [] [] = [] := id rfl
@[simp] theorem keepF_cons (a b e f) : keepF (a :: e) (b :: f) = keepO a b :: keepF e f := id rfl
@[simp] theorem keepO_n (y) : keepO none y = y := id rfl
@[simp] theorem keepO_d (x y) : keepO (some (.d x)) y = y := id rfl
@[simp] theorem keepO_l (x y) : keepO (some (.l x)) y = y := id rfl
@[simp] theorem keepO_scr (x y) : keepO (some (.scr x)) y = y := id rfl
@[simp] theorem keepO_f (x y) : keepO (some (.ob false x)) y = y := id rfl
@[simp] theorem keepO_t (x y) : keepO (some (.ob true x)) y = some (.ob true x) := id rfl
@[simp] theorem keepO_self (o) : keepO o o = o := by
  cases o with
  | none => exact id rfl
  | some m =>
    cases m with
    | ob fz x => cases fz <;> exact id rfl
    | _ => exact id rfl
def toMkP (avs : List AV) (env : Env) : FOut → Rs M
  | .rt (.d .none) (some (.ob false z) :: os) => .ok (.ob false z) (putBack avs os env)
  | _ => .no
@[simp] theorem eMakeP_eq (c ar F t) (env : Env) : eMakeP c ar F t env = (t env).bind fun avs e => optRs (avMs e avs) fun ms => if avs.length + 1 = ar ∧ (jsOf avs).Nodup then toMkP avs e (F (.ob false (.o c .nil) :: ms)) else .no := by
  unfold eMakeP
  congr 1
  funext avs e
  cases avMs e avs with
  | none => rfl
  | some ms =>
    show (if _ then _ else _) = if _ then _ else _
    split
    · unfold toMkP; rfl
    · rfl
@[simp] theorem toMkP_rt (avs env z os) : toMkP avs env (.rt (.d .none) (some (.ob false z) :: os)) = .ok (.ob false z) (putBack avs os env) := id rfl
def spB (K : PySem.W.Frag) (cl : Str → Option Addr) (n ar : Nat) (F : (Nat → Addr) → Fn) : Sp := fun vs H Q E => ∀ c : Nat → Addr, spD K cl n ar (F c) vs H Q E
theorem fn_allB {P : Program} {w : World} {K : PySem.W.Frag} {mg : Str → Option Value} {base : Heap} {k n ar : Nat} {f : Addr} {fd : FuncData} {ps : List Str} {cl : Str → Option Addr} {F : (Nat → Addr) → Fn} (c : Nat → Addr) (F1 : FnOk P w K mg base CX0 k f fd ps (spD K cl n ar (F c))) : FnOk P w K mg base CX0 k f fd ps (spB K cl n ar F) :=
  F1.imp fun vs H Q E h => h c
theorem law_spB {K : PySem.W.Frag} {cl : Str → Option Addr} {n : Nat} {F : (Nat → Addr) → Fn} (hF : ∀ (c : Nat → Addr) (ns : List Int), ns.length ≤ 63 → ∃ os, F c [.scr ns] = .rt (.d (.bool true)) os) {H : Hp} {a : Addr} {ns : List Int} (hl : ns.length ≤ 63) (hS : SqL K H a (ns.map V.int)) :
    spB K cl n 1 F [.ref a] H (fun v _ => v = .bl true) (fun _ _ _ => False) := fun c => law_sp (hF c) hl hS
end DL
namespace DL
open PySem L2
end DL
namespace DL
open PySem PySem.Spec PyProof.Rows L2
end DL
namespace DL
open PySem PySem.Spec PyProof.Rows L2
end DL
namespace DL
open PySem PySem.Spec PyProof.Rows L2
def maskM2 : M → Option M
  | .ob _ x => some (.ob true x)
  | m => maskM m
def mask2 (e : Env) : Env := e.map fun o => o.bind maskM2
section
variable {K : PySem.W.Frag} {C : Cc} {H H' : Hp} {ow ow' : Ow} {σ : L2.St} {env : Env} {N : Nat}
mutual
theorem OT.nfz : ∀ {x : Ob} {v : V} {fp : List Addr}, OT K H ow v x fp → ∀ p ∈ fp, ∃ u, H p = some u ∧ ¬ isFrz u
  | .d _, _, _, h, p, hp => by cases h; cases hp
  | .l _, _, _, h, p, hp => by cases h with | l h1 h2 hz => simp at hp; subst hp; exact ⟨_, h1, fun z => z⟩
  | .t _, _, _, h, p, hp => by cases h with | t h1 h2 h3 hz => simp at hp; subst hp; exact ⟨_, h1, fun z => z⟩
  | .m _, _, _, h, p, hp => by cases h with | m h1 h2 hz => simp at hp; subst hp; exact ⟨_, h1, fun z => z⟩
  | .o _ fs, _, _, h, p, hp => by
    cases h with
    | o h1 h2 =>
      rcases List.mem_cons.1 hp with rfl | hp
      · exact ⟨_, h1, fun z => z⟩
      · exact OTs.nfz h2 p hp
theorem OTs.nfz : ∀ {fs : Obs} {fv : List (Str × V)} {fp : List Addr}, OTs K H ow fv fs fp → ∀ p ∈ fp, ∃ u, H p = some u ∧ ¬ isFrz u
  | .nil, _, _, h, p, hp => by cases h; cases hp
  | .cons f x fs, _, _, h, p, hp => by
    cases h with
    | cons h1 h2 =>
      rcases List.mem_append.1 hp with hp | hp
      · exact OT.nfz h1 p hp
      · exact OTs.nfz h2 p hp
end
theorem mask2_vm {v : V} {m m' : M} {fp : List Addr} {i : Nat} (h : VM K H ow v m fp) (hf : ∀ p ∈ fp, ow p = some i) (hi : i ≤ N) (e : maskM2 m = some m') : VM K H (frzOw H N ow) v m' [] := by
  cases m with
  | ob fz x =>
    cases e
    cases h with
    | ob h1 =>
      exact .fb (h1.stay frzOw_stay fun p hp => rfl) fun p hp => by
        obtain ⟨u, h2, h3⟩ := h1.nfz p hp
        exact frzOw_off (hf p hp) hi h2 h3
    | fb h1 h0 => exact .fb (h1.stay frzOw_stay fun p hp => rfl) fun p hp => frzOw_none (h0 p hp)
  | _ => exact mask_vm h hf hi e
theorem mask2_at {i : Nat} {m' : M} (h : (mask2 env)[i]? = some (some m')) : ∃ m, env[i]? = some (some m) ∧ maskM2 m = some m' := by
  unfold mask2 at h
  rw [List.getElem?_map] at h
  cases he : env[i]? with
  | none => rw [he] at h; cases h
  | some o =>
    rw [he] at h
    cases o with
    | none => cases h
    | some m => exact ⟨m, rfl, Option.some.inj h⟩
theorem RpE.mask2 (P : RpE K C H ow σ env) : RpE K C H (frzOw H C.N ow) σ (mask2 env) :=
  ⟨fun i m' e => by
    obtain ⟨m, h1, h2⟩ := mask2_at e
    obtain ⟨v, fp, a, b, c, d⟩ := P.sl i m h1
    have hi := (List.getElem?_eq_some_iff.mp h1).1
    rw [P.len] at hi
    exact ⟨v, [], a, mask2_vm b d (by omega) h2, List.nodup_nil, fun p hp => nomatch hp⟩, P.io, by unfold DL.mask2; rw [List.length_map]; exact P.len, P.lenS⟩
def lnd (t : Env → Rs PyData) (env : Env) : Option PyData := match t (DL.mask2 env) with
  | .ok x _ => if scalar x = true then some x else none
  | _ => none
theorem rd_lnd {t : Env → Rs PyData} {a : PyData} {Q : V → Hp → Prop} (P : RpE K C H ow σ env) (ht : lnd t env = some a)
    (q : ∀ v H' ow', Gr H ow H' ow' → DV K H' ow' v a → RpE K C H' ow' σ env → Q v H') : rd K C (RE K) t σ H Q := by
  refine ⟨DL.mask2 env, frzOw H C.N ow, P.mask2, ?_⟩
  unfold lnd at ht
  cases e : t (DL.mask2 env) with
  | no => rw [e] at ht; cases ht
  | ex x e1 => rw [e] at ht; cases ht
  | ok x e1 =>
    rw [e] at ht
    have ht : (if scalar x = true then some x else none) = some a := ht
    by_cases s : scalar x = true
    · rw [if_pos s] at ht
      have : x = a := Option.some.inj ht
      subst this
      intro v H' ow' X V1 _
      exact q v H' (resOw H ow ow') (res_gr X) (res_dv X V1 s) (P.gr (res_gr X))
    · rw [if_neg s] at ht; cases ht
end
def rGetL (K : PySem.W.Frag) : V → V → Hp → VK → Prop := fun x y H Q => ∃ p xs i v, x = .ref p ∧ y = .int i ∧ SqL K H p xs ∧ atI xs i = some v ∧ Q v H
section
variable {X : Cx}
theorem get_list : PGet X (rGetL X.K) := by
  intro pins s σ H x y v u Q I rx ry h
  obtain ⟨p, xs, i, z, rfl, rfl, hq, he, q⟩ := h
  cases rx
  obtain ⟨t, rfl⟩ := ry
  obtain ⟨its, r, pl, hz⟩ := I.list hq
  obtain ⟨j, h1, h2, h3, h4, h5⟩ := atI_get he
  obtain ⟨w, ew, rw'⟩ := r.get h2
  have hl := r.length
  have hn := line63
  have fin : EP X pins σ Q w s := ⟨z, H, I, rw', q⟩
  by_cases h0 : 0 ≤ i
  · have hj : i.toNat = j := by
      rw [seqIndex_of h0 h5] at h1
      exact Option.some.inj h1
    exact wpAny_getItem_list (x := w) pl.isList h0 (by omega) (by rw [hj]; simpa using ew) fin
  · have hj : (i + (its.toArray.size : Int)).toNat = j := by
      rw [seqIndex_neg (by omega) h4] at h1
      rw [List.size_toArray, ← hl]
      exact Option.some.inj h1
    exact wpAny_getItem_list_neg pl.isList (by omega) (by rw [List.size_toArray] <;> omega) (by omega) (by rw [hj]; simpa using ew) fin
def augLP (i : Nat) (π : Path) (f : Int → Int → Int) (t tk : Env → Rs PyData) (e : Env) : Out := match (listP e i π).bind fun xs => (hid tk e).bind fun k => match k with | .int j => (atI xs j).bind fun x => (ixN xs.length j).bind fun n => (lnd t e).bind fun d => (match x, d with | .int a, .int b => some (xs.set n (.int (f a b))) | _, _ => none) | _ => none with
  | some zs => .nx (putP e i π (.l zs))
  | none => .no
variable {C : Cc} {i : Nat} {π : Path} {o k v0 : Expr} {pos tpos : Pos} {op : Operator} {f : Int → Int → Int} {t tk : Env → Rs PyData}
theorem ds_augP (hp : PIp X op (ipI f)) (ho : PE X o (tPl i π)) (hk : DE X C k tk) (h : DE X C v0 t)
    (ha : ∀ ov iv new, augStore k ov iv new = (do holding [new, ov, iv] (setItem ov iv new); release [new, ov, iv] []; pure .next) := by intros; rfl) : DS X C (.AugAssign (.Subscript o k tpos) op v0 pos) (augLP i π f t tk) :=
  PSweak (ps_augS ho hk get_list h hp set_list ha) fun D σ H ⟨env, ow, P, q⟩ => by
    unfold augLP at q
    cases h1 : listP env i π with
    | none => rw [h1] at q; exact q.elim
    | some xs =>
      cases h2 : hid tk env with
      | none => rw [h1, h2] at q; exact q.elim
      | some kd =>
        cases kd with
        | int j =>
          cases h3 : atI xs j with
          | none => rw [h1, h2] at q; simp only [Option.bind_some, h3, Option.bind_none] at q; exact q.elim
          | some x =>
            cases h4 : ixN xs.length j with
            | none => rw [h1, h2] at q; simp only [Option.bind_some, h3, h4, Option.bind_none] at q; exact q.elim
            | some n =>
              cases h5 : lnd t env with
              | none => rw [h1, h2] at q; simp only [Option.bind_some, h3, h4, h5, Option.bind_none] at q; exact q.elim
              | some d =>
                rw [h1, h2] at q
                simp only [Option.bind_some, h3, h4, h5] at q
                cases x with
                | int ax =>
                  cases d with
                  | int b =>
                    have q : outAt X.K C D H ow (.nx (putP env i π (.l (xs.set n (.int (f ax b)))))) := q
                    obtain ⟨v, a, vs, k1, k2, k3, k4, kz, _⟩ := slot_lp P h1
                    refine ⟨v, .ref a, k1, k2, rd_hide P h2 (fun st r => DV.stay st r) fun kv H' ow' g r P' => ?_⟩
                    cases r
                    obtain ⟨v', a', vs', l1, l2, l3, l4, lz, _⟩ := slot_lp P' h1
                    rw [k1] at l1
                    cases l1
                    have := (k2.gr g).inj l2
                    cases this
                    obtain ⟨w, hw, dw⟩ := atI_dv l4 h3
                    cases dw
                    refine ⟨a, vs', j, .int ax, rfl, rfl, .inl (.inl l3), hw, rd_lnd P' h5 fun y H4 ow4 g4 d4 P4 => ?_⟩
                    cases d4
                    obtain ⟨v'', a'', vs'', m1, m2, m3, m4, mz, lu⟩ := slot_lp P4 h1
                    rw [k1] at m1
                    cases m1
                    have := ((k2.gr g).gr g4).inj m2
                    cases this
                    obtain ⟨P5, x5, _⟩ := lu _ _ (m4.set (.int _) n) (by rw [List.length_set]; exact mz)
                    exact ⟨ax, b, rfl, rfl, a, vs'', j, n, rfl, rfl, m3, by rw [m4.length]; exact h4, q σ _ ow4 (g.ext.trans (g4.ext.trans x5)) P5⟩
                  | _ => exact q.elim
                | _ => exact q.elim
        | _ => rw [h1, h2] at q; exact q.elim
def mLend2 (t : Env → Rs M) : Env → Rs M := fun env => resL env (t (mask2 env))
theorem dm_lend2 {e : Expr} {t : Env → Rs M} (h : DM X C e t) : DM X C e (mLend2 t) :=
  PEweak h fun σ H Q ⟨env, ow, P, h⟩ => by
    refine ⟨mask2 env, frzOw H C.N ow, P.mask2, ?_⟩
    unfold mLend2 at h
    cases ht : t (mask2 env) with
    | no => rw [ht] at h; exact h.elim
    | ex x e => rw [ht] at h; exact h.elim
    | ok x e1 =>
      rw [ht] at h
      have h : rdAt X.K C (RM X.K C.N) σ H ow Q (if resO x = true then .ok x env else .no) := h
      by_cases s : resO x = true
      · rw [if_pos s] at h
        intro v H' ow' X1 ⟨fp, r1, r2, r3⟩ _
        refine h v H' (resOw H ow ow') (res_gr X1).ext ?_ (P.gr (res_gr X1))
        cases r1 with
        | d r1 => exact ⟨[], .d (res_dv X1 r1 s), List.nodup_nil, fun p hp => nomatch hp⟩
        | @l a ws ds q1 q2 q3 =>
          have ha := r3 a (by simp)
          have hn : H a = none := by
            cases hh : H a with
            | none => rfl
            | some u =>
              obtain ⟨_, e2⟩ := X1 a u hh fun i z => frzOw_some z
              rw [ha] at e2
              have := frzOw_some e2.symm
              omega
          refine ⟨[a], .l q1 (dvs_scal0 q2 s) q3, by simp, fun p hp => ?_⟩
          rw [List.mem_singleton] at hp
          subst hp
          unfold resOw
          rw [hn]
          exact ha
        | _ => cases s
      · rw [if_neg s] at h; exact h.elim
def eLend2 (t : Env → Rs PyData) : Env → Rs PyData := fun env => resS env (t (mask2 env))
/-- tuple(self.f): a copy -/
def eTupP (i : Nat) (π : Path) : Env → Rs PyData := fun env => lift ((listP env i π).map fun ds => .tuple ds) env
end
end DL
namespace DL
open PySem PySem.Spec PyProof.Rows L2
@[simp] theorem mask2_nil : mask2 [] = [] := id rfl
@[simp] theorem mask2_n (e : Env) : mask2 (none :: e) = none :: mask2 e := id rfl
@[simp] theorem mask2_s (m) (e : Env) : mask2 (some m :: e) = maskM2 m :: mask2 e := id rfl
@[simp] theorem maskM2_ob (fz x) : maskM2 (.ob fz x) = some (.ob true x) := id rfl
@[simp] theorem maskM2_d (x) : maskM2 (.d x) = some (.d x) := id rfl
@[simp] theorem maskM2_l (x) : maskM2 (.l x) = some (.d (.list x)) := id rfl
@[simp] theorem maskM2_scr (x) : maskM2 (.scr x) = some (.scr x) := id rfl
@[simp] theorem eLend2_eq (t) (env : Env) : eLend2 t env = resS env (t (mask2 env)) := id rfl
@[simp] theorem mLend2_eq (t) (env : Env) : mLend2 t env = resL env (t (mask2 env)) := id rfl
@[simp] theorem eTupP_eq (i π) (env : Env) : eTupP i π env = lift ((listP env i π).map fun ds => .tuple ds) env := id rfl
@[simp] theorem resS2_ok (env : Env) (x e) : resS env (.ok x e) = if scalar x = true then .ok x env else .no := id rfl
@[simp] theorem resL2_ok (env : Env) (m e) : resL env (.ok m e) = if resO m = true then .ok m env else .no := id rfl
def okSc : Rs PyData → Option PyData
  | .ok x _ => if scalar x = true then some x else none
  | _ => none
@[simp] theorem okSc_ok (x e) : okSc (.ok x e) = if scalar x = true then some x else none := id rfl
@[simp] theorem lnd_eq (t) (env : Env) : lnd t env = okSc (t (mask2 env)) := by
  unfold lnd
  cases t (mask2 env) <;> rfl
def augD (f : Int → Int → Int) (xs : List PyData) (d : Option PyData) : PyData → Option (List PyData)
  | .int j => (atI xs j).bind fun x => (ixN xs.length j).bind fun n => d.bind fun d => match x, d with | .int a, .int b => some (xs.set n (.int (f a b))) | _, _ => none
  | _ => none
theorem augD_i (f xs) (a b j : Int) (n : Nat) (h1 : atI xs j = some (.int a)) (h2 : ixN xs.length j = some n) : augD f xs (some (.int b)) (.int j) = some (xs.set n (.int (f a b))) := by
  show ((atI xs j).bind fun x => (ixN xs.length j).bind fun n => (some (PyData.int b)).bind fun d => match x, d with | .int a, .int b => some (xs.set n (.int (f a b))) | _, _ => none) = _
  rw [h1, h2]
  rfl
@[simp] theorem augLP_eq (i π f t tk) (env : Env) : augLP i π f t tk env = optOut ((listP env i π).bind fun xs => (hid tk env).bind fun k => augD f xs (lnd t env) k) fun zs => .nx (putP env i π (.l zs)) := by
  unfold augLP
  have key : ∀ o o' : Option (List PyData), o = o' → (match o with | some zs => Out.nx (putP env i π (.l zs)) | none => .no) = optOut o' fun zs => .nx (putP env i π (.l zs)) := by
    rintro o _ rfl
    cases o <;> rfl
  refine key _ _ (congrArg (Option.bind (listP env i π)) (funext fun xs => congrArg (Option.bind (hid tk env)) (funext fun k => ?_)))
  cases k <;> rfl
end DL
namespace DL
open PySem PySem.Spec PyProof.Rows L2
section
variable {X : Cx} {C : Cc} {K : PySem.W.Frag}
def okMn (ds : List PyData) : Bool := (ds.all fun d => ds.all fun e => PySem.W.alike d e) && (ds.all fun d => match d with | .none => false | _ => true) && decide (PyData.depthAll ds ≤ 60)
def bMinN : List PyData → Option PyData
  | [.list (x :: xs)] => if okMn (x :: xs) = true then some (PySem.W.minD x xs) else none
  | _ => none
theorem okMn_out {ds : List PyData} (h : okMn ds = true) : PySem.W.AlikeAll ds ∧ PyData.depthAll ds ≤ 60 := by
  unfold okMn at h
  rw [Bool.and_eq_true, Bool.and_eq_true, decide_eq_true_eq] at h
  refine ⟨⟨fun x hx y hy => List.all_eq_true.1 (List.all_eq_true.1 h.1.1 x hx) y hy, fun x hx z => ?_⟩, h.2⟩
  have := List.all_eq_true.1 h.1.2 x hx
  rw [z] at this
  cases this
theorem okMn_in {ds : List PyData} (h : PySem.W.AlikeAll ds) (h2 : PyData.depthAll ds ≤ 60) : okMn ds = true := by
  obtain ⟨h1, h3⟩ := h
  unfold okMn
  rw [Bool.and_eq_true, Bool.and_eq_true, decide_eq_true_eq]
  refine ⟨⟨?_, ?_⟩, h2⟩
  · rw [List.all_eq_true]
    intro x hx
    rw [List.all_eq_true]
    intro y hy
    exact h1 x hx y hy
  · rw [List.all_eq_true]
    intro x hx
    have := h3 x hx
    cases x with
    | none => exact absurd rfl this
    | _ => rfl
theorem ob_minN : OpB K (rMinD K) bMinN := by
  intro vs xs o H ow Q h e q
  unfold bMinN at e
  split at e
  · obtain ⟨v, rfl, d⟩ := h.one
    rename_i x r
    split at e
    · rename_i hk
      cases e
      obtain ⟨al, dp⟩ := okMn_out hk
      cases d with
      | @lst a ws ds' k1 k2 k3 kz =>
        refine ⟨a, ws, _, _, rfl, .of k1, k3.dp, al, dp, fun i w d hw hd hm => ?_⟩
        have dw : DV K H ow w d := by
          obtain ⟨v', p1, p2⟩ := k3.get (i := i) (d := d) hd
          rw [hw] at p1
          cases p1
          exact p2
        rw [hm] at dw
        exact q _ _ _ .refl dw
    · cases e
  · cases e
theorem maxOf_int (n : Int) : ∀ r : List Int, PySem.W.maxOf n r = maxL n r := by
  intro r
  unfold PySem.W.maxOf
  induction r generalizing n with
  | nil => rfl
  | cons x r ih =>
    rw [List.foldl_cons, ih]
    have : (PySem.W.DatumOrd.lt n x = true) ↔ x > n := by
      show decide (n < x) = true ↔ _
      simp
    show maxL _ r = maxL (if x > n then x else n) r
    by_cases c : x > n
    · rw [if_pos (this.2 c), if_pos c]
    · rw [if_neg (fun z => c (this.1 z)), if_neg c]
def rMaxT (K : PySem.W.Frag) : List V → Hp → VK → Prop := fun vs H Q => ∃ (a : Addr) (n : Int) (r : List Int), vs = [V.ref a] ∧ SqT K H a ((n :: r).map V.int) ∧ Q (.int (maxL n r)) H
theorem cr_maxT (hc : X.calm = true) (hu : X.A.units + 65 < cLine) : CallR X (.builtin "max") (rMaxT X.K) := by
  intro pins s σ H vs us Q I r h
  obtain ⟨a, n, rr, rfl, hs, q⟩ := h
  obtain ⟨its, rv, hl, _⟩ := I.tuple hs
  rw [Vals.ref1 r]
  refine PySem.W.max_tuple_datum (α := Int) (x := n) (xs := rr) (I.ok.hd hc) hl (PySem.W.HoldAll.of_ints (by simpa using rv.ints)) (by show X.A.units + 1 + 0 < cLine; omega) fun i v h' tk hi hv hk => ?_
  rw [maxOf_int] at hv
  obtain ⟨as, rd⟩ := hv
  cases rd with
  | int k t => exact ⟨.int _, H, I.kept hk, ⟨_, rfl⟩, q⟩
def bMaxT : List PyData → Option PyData
  | [.tuple ds] => (intsOf ds).bind fun ns => match ns with | [] => none | n :: r => some (.int (maxL n r))
  | _ => none
theorem ob_maxT : OpB K (rMaxT K) bMaxT := by
  intro vs xs o H ow Q h e q
  unfold bMaxT at e
  split at e
  · obtain ⟨v, rfl, d⟩ := h.one
    rename_i ds
    cases d with
    | @tup a vs ds h1 h3 hz =>
      cases hn : intsOf ds with
      | none => simp [hn] at e
      | some ns =>
        have := intsOf_eq hn
        subst this
        have := h3.ints
        subst this
        simp only [hn, Option.bind_some] at e
        cases ns with
        | nil => cases e
        | cons n r =>
          cases e
          exact ⟨a, n, r, rfl, h1.sq, q _ _ _ .refl (.int _)⟩
  · cases e
theorem bMaxT_t (n : Int) (r : List Int) : bMaxT [.tuple ((n :: r).map .int)] = some (.int (maxL n r)) := by
  show (intsOf ((n :: r).map .int)).bind _ = _
  rw [intsOf_map]
  rfl
end
abbrev tpI (r : List Int) : PyData := .tuple (r.map .int)
/-- the first rows that differ decide, else the shorter is the less -/
def lexLL : List (List Int) → List (List Int) → Bool
  | [], [] => false
  | [], _ :: _ => true
  | _ :: _, [] => false
  | x :: xs, y :: ys => if x = y then lexLL xs ys else HT.lexLt x y
abbrev upT (a : List (List Int)) : PySem.W.Tup (PySem.W.Tup Int) := ⟨a.map fun r => ⟨r⟩⟩
theorem toD_up (a : List (List Int)) : PySem.W.Datum.toD (upT a) = .tuple (a.map tpI) := by
  show PyData.tuple ((a.map fun r => (⟨r⟩ : PySem.W.Tup Int)).map PySem.W.Datum.toD) = _
  rw [List.map_map]
  rfl
theorem listLt_LL : ∀ a b : List (List Int), PySem.W.listLt (a.map fun r => (⟨r⟩ : PySem.W.Tup Int)) (b.map fun r => (⟨r⟩ : PySem.W.Tup Int)) = lexLL a b
  | [], [] => rfl
  | [], _ :: _ => rfl
  | _ :: _, [] => rfl
  | x :: a, y :: b => by
    rw [List.map_cons, List.map_cons, PySem.W.listLt, lexLL, listLt_LL a b]
    by_cases c : x = y
    · rw [if_pos c, if_pos (by rw [c])]
    · rw [if_neg c, if_neg (fun z => c (PySem.W.Tup.mk.inj z))]
      exact listLt_lex x y
theorem dataLt_LL (a b : List (List Int)) : PySem.W.dataLt (.tuple (a.map tpI)) (.tuple (b.map tpI)) = lexLL a b := by
  rw [← toD_up, ← toD_up, PySem.W.DatumOrd.lt_eq]
  exact listLt_LL a b
theorem depth_LL (a : List (List Int)) : (PyData.tuple (a.map tpI)).depth ≤ 60 := by
  have := PySem.W.Datum.depth_le (upT a)
  rw [toD_up] at this
  exact Nat.le_trans this (by decide)
theorem depths_LL : ∀ l : List (List (List Int)), PyData.depthAll (l.map fun a => PyData.tuple (a.map tpI)) ≤ 60
  | [] => by rw [List.map_nil, PyData.depthAll]; omega
  | a :: r => by
    have h1 := depths_LL r
    have h2 := depth_LL a
    rw [List.map_cons, PyData.depthAll]
    omega
theorem okMn_LL (l : List (List (List Int))) : okMn (l.map fun a => PyData.tuple (a.map tpI)) = true := by
  have h := PySem.W.alikeAll_datum (l.map upT)
  rw [List.map_map] at h
  have e : (PySem.W.Datum.toD ∘ upT) = fun a => PyData.tuple (a.map tpI) := funext toD_up
  rw [e] at h
  exact okMn_in h (depths_LL l)
/-- the least of all, if all the others are not less -/
theorem minD_LL (m : List (List Int)) : ∀ (r : List (List (List Int))) (x : List (List Int)), (m = x ∨ m ∈ r) → (∀ y ∈ x :: r, y = m ∨ (lexLL m y = true ∧ lexLL y m = false)) → PySem.W.minD (.tuple (x.map tpI)) (r.map fun a => PyData.tuple (a.map tpI)) = .tuple (m.map tpI)
  | [], x, h, _ => by
    rcases h with rfl | h
    · rfl
    · cases h
  | y :: r, x, h, q => by
    have qx := q x List.mem_cons_self
    have qy := q y (List.mem_cons_of_mem _ List.mem_cons_self)
    have step : PySem.W.minD (.tuple (x.map tpI)) ((y :: r).map fun a => PyData.tuple (a.map tpI)) = PySem.W.minD (if lexLL y x = true then .tuple (y.map tpI) else .tuple (x.map tpI)) (r.map fun a => PyData.tuple (a.map tpI)) := by
      unfold PySem.W.minD
      rw [List.map_cons, List.foldl_cons]
      rw [dataLt_LL]
    rw [step]
    by_cases c : lexLL y x = true
    · rw [if_pos c]
      refine minD_LL m r y ?_ fun z hz => q z (List.mem_cons_of_mem _ hz)
      rcases h with rfl | h
      · rcases qy with rfl | k
        · exact .inl rfl
        · rw [k.2] at c; cases c
      · exact List.mem_cons.1 h
    · rw [if_neg c]
      refine minD_LL m r x ?_ fun z hz => q z (by
        rcases List.mem_cons.1 hz with rfl | hz
        · exact List.mem_cons_self
        · exact List.mem_cons_of_mem _ (List.mem_cons_of_mem _ hz))
      rcases h with h | h
      · exact .inl h
      · rcases List.mem_cons.1 h with rfl | h
        · rcases qx with h | k
          · exact .inl h.symm
          · exact absurd k.1 c
        · exact .inr h
theorem bMinN_LL {m : List (List Int)} {l : List (List (List Int))} (h : m ∈ l) (q : ∀ y ∈ l, y = m ∨ (lexLL m y = true ∧ lexLL y m = false)) : bMinN [.list (l.map fun a => PyData.tuple (a.map tpI))] = some (.tuple (m.map tpI)) := by
  cases l with
  | nil => cases h
  | cons x r =>
    have e := minD_LL m r x (List.mem_cons.1 h) q
    have k := okMn_LL (x :: r)
    rw [← e]
    show (if okMn _ = true then _ else _) = _
    exact if_pos k
end DL
namespace DL
open PySem PySem.Spec PyProof.Rows L2
end DL
namespace ZN
open PySem PySem.Spec PyProof.Rows L2
section
variable {pr : Program} {ww : World} {AA : Around} {EE : Value → Shared → Prop} {sh : Shared} {zz ti tt j1 j2 : Addr} {q1 q2 : List Addr} {m1 m2 k : Nat} {R1 R2' : Nat → Value → Prop} {U1 U2 : Nat → Heap → Prop} {b1 b2 : Value} {mk : Value} {fl : Bool}
theorem next_item2 {Q : Value → Shared → Prop} (S : ZipSep2 zz ti tt j1 j2 q1 q2) (D1 : Draws pr ww AA j1 q1 m1 R1 U1) (D2 : Draws pr ww AA j2 q2 m2 R2' U2)
    (hz : ZA sh.heap zz ti tt mk fl) (hm : Mk mk) (hi : IsTupOf2 sh.heap ti (.ref j1) (.ref j2)) (ho : IsTupOf2 sh.heap tt b1 b2) (u1 : U1 k sh.heap) (u2 : U2 k sh.heap) (l1 : k < m1) (l2 : k < m2)
    (hQ : ∀ x1 x2 h' tk mk' fl', R1 k x1 → R2' k x2 → ZA h' zz ti tt mk' fl' → Mk mk' → (∃ c1 c2, IsTupOf2 h' tt c1 c2) → U1 (k + 1) h' → U2 (k + 1) h' → IsTupOf2 h' sh.heap.objs.size x1 x2 → h'.objs.size = sh.heap.objs.size + 1 →
      (∀ c o, c ≠ zz → c ≠ tt → c ≠ j1 → c ≠ j2 → sh.heap.get? c = some o → h'.get? c = some o) → Q (.ref sh.heap.objs.size) { sh with heap := h', toks := tk }) :
    wpAny (model pr ww) AA (Builtin.«zip.__next__» ⟨[.ref zz], []⟩) (fun fin s' => ∃ v, fin = .done (.ret v) ∧ Q v s') EE sh := by
  obtain ⟨pa, ge, de, ta, og⟩ := sh
  show wpAny _ _ (field (.ref zz) 2 >>= _) _ _ _
  refine wpAny_bind (wpAny_field hz rfl (x := .bool false) rfl ?_)
  show wpAny _ _ (field (.ref zz) 3 >>= _) _ _ _
  refine wpAny_bind (wpAny_field hz rfl (x := .ref ti) rfl ?_)
  refine wpAny_bind (wpAny_seqItems hi rfl ?_)
  show wpAny _ _ (Builtin.SmallTypes.ownedTupleIsFree (.ref zz) >>= _) _ _ _
  refine wpAny_bind (isFree hz hm ?_ fun g0 z0 v0 => ?_)
  · simp only [if_true]
    refine wpAny_bind (wpAny_rule ?_)
    refine wpAny_bind (wpAny_field hz rfl (x := .ref tt) rfl ?_)
    refine wpAny_bind (wpAny_setField_rec hz (by simp) fun g0 z0 v0 => ?_)
    replace z0 : ZA g0 zz ti tt .ellipsis fl := z0
    replace v0 : Heap.SameBut zz pa g0 := v0
    refine wpAny_bind ?_
    simp only [List.zipIdx_cons, List.zipIdx_nil, List.forIn_cons, List.forIn_nil]
    refine wpAny_bind (wpAny_bind (wpAny_onRaise ?_))
    show wpAny _ _ (Builtin.SmallTypes.nextOf (.ref j1) >>= _) _ _ ⟨g0, ge, de, ta, og⟩
    refine wpAny_bind (D1.item k _ _ _ l1 (D1.over u1 v0 S.zf1) fun x1 p1 t1 y1 w1 r1 => wpAny_pure ?_)
    replace r1 : Heap.SameBut j1 g0 p1 := r1
    have n1 : IsTupOf2 p1 tt b1 b2 := r1.extBut _ _ S.Ti1 (v0.extBut _ _ S.TOz ho)
    refine wpAny_bind (wpAny_seqItems (s := ⟨p1, ge, de, t1, og⟩) n1 rfl ?_)
    refine wpAny_bind (updateSeq_IsTupOf2 (s := ⟨p1, ge, de, t1, og⟩) n1 fun g1 o1 v1 => ?_)
    replace o1 : IsTupOf2 g1 tt x1 b2 := o1
    replace v1 : Heap.SameBut tt p1 g1 := v1
    refine wpAny_bind (wpAny_letGo (wpAny_pure ?_))
    refine wpAny_bind (wpAny_bind (wpAny_onRaise ?_))
    show wpAny _ _ (Builtin.SmallTypes.nextOf (.ref j2) >>= _) _ _ ⟨g1, ge, de, t1, og⟩
    refine wpAny_bind (D2.item k _ _ _ l2 (D2.over (D2.over (D2.over u2 v0 S.zf2) r1 S.sep1_2) v1 S.Tf2) fun x2 p2 t2 y2 w2 r2 => wpAny_pure ?_)
    replace r2 : Heap.SameBut j2 g1 p2 := r2
    have n2 : IsTupOf2 p2 tt x1 b2 := r2.extBut _ _ S.Ti2 o1
    refine wpAny_bind (wpAny_seqItems (s := ⟨p2, ge, de, t2, og⟩) n2 rfl ?_)
    refine wpAny_bind (updateSeq_IsTupOf2 (s := ⟨p2, ge, de, t2, og⟩) n2 fun g2 o2 v2 => ?_)
    replace o2 : IsTupOf2 g2 tt x1 x2 := o2
    replace v2 : Heap.SameBut tt p2 g2 := v2
    refine wpAny_bind (wpAny_letGo (wpAny_pure (wpAny_pure ?_)))
    refine wpAny_bind (wpAny_seqItems (s := ⟨g2, ge, de, t2, og⟩) o2 rfl ?_)
    refine wpAny_bind (wpAny_newTuple ?_)
    have sz : g2.objs.size = pa.objs.size := by rw [v2.1, r2.1, v1.1, r1.1, v0.1]
    have z3 : ZA g2 zz ti tt .ellipsis fl := v2.extBut _ _ S.TOz.symm <| r2.extBut _ _ S.zi2 <| v1.extBut _ _ S.TOz.symm <| r1.extBut _ _ S.zi1 z0
    have kk : ∀ c o, c ≠ zz → c ≠ tt → c ≠ j1 → c ≠ j2 → pa.get? c = some o → g2.get? c = some o := fun c o cz cT c1 c2 e =>
      v2.extBut _ _ cT <| r2.extBut _ _ c2 <| v1.extBut _ _ cT <| r1.extBut _ _ c1 <| v0.extBut _ _ cz e
    have a1 : U1 (k + 1) g2 := D1.over (D1.over (D1.over w1 v1 S.Tf1) r2 S.sep2_1) v2 S.Tf1
    have a2 : U2 (k + 1) g2 := D2.over w2 v2 S.Tf2
    have zl : zz < g2.objs.size := Heap.lt_size z3
    show wpAny _ _ (Builtin.SmallTypes.ownedTupleHandOut (.ref zz) (.ref g2.objs.size) >>= _) _ _ ⟨g2.push { cls := .type "tuple", data := .seq #[x1, x2] }, ge, de, t2, og⟩
    refine wpAny_bind ?_
    unfold Builtin.SmallTypes.ownedTupleHandOut
    have z4 : ZA (g2.push { cls := .type "tuple", data := .seq #[x1, x2] }) zz ti tt .ellipsis fl := Heap.get?_push_of_some _ z3
    refine wpAny_bind (wpAny_setField_rec z4 (by simp) fun g5 z5 v5 => ?_)
    replace z5 : ZA g5 zz ti tt (rawInt g2.objs.size) fl := z5
    refine wpAny_setField_rec z5 (by simp) fun g6 z6 v6 => ?_
    replace z6 : ZA g6 zz ti tt (rawInt g2.objs.size) false := z6
    replace v5 : Heap.SameBut zz (g2.push { cls := .type "tuple", data := .seq #[x1, x2] }) g5 := v5
    replace v6 : Heap.SameBut zz g5 g6 := v6
    have up : ∀ c o, c ≠ zz → g2.get? c = some o → g6.get? c = some o := fun c o c1 e => v6.extBut _ _ c1 (v5.extBut _ _ c1 (Heap.get?_push_of_some _ e))
    have nt : IsTupOf2 g6 g2.objs.size x1 x2 := v6.extBut _ _ (Nat.ne_of_gt zl) (v5.extBut _ _ (Nat.ne_of_gt zl) (Heap.get?_push_size _ rfl))
    have s6 : g6.objs.size = g2.objs.size + 1 := by rw [v6.1, v5.1, Heap.size_push]
    rw [sz] at z6 nt s6
    refine wpAny_pure ⟨_, rfl, ?_⟩
    show Q (.ref g2.objs.size) ⟨g6, ge, de, t2, og⟩
    rw [sz]
    exact hQ x1 x2 g6 t2 _ _ y1 y2 z6 (.inr ⟨_, rfl⟩) ⟨_, _, up _ _ S.TOz o2⟩ (D1.frame _ _ _ a1 fun b hb o e => up b o (fun q => S.zf1 (q ▸ hb)) e) (D2.frame _ _ _ a2 fun b hb o e => up b o (fun q => S.zf2 (q ▸ hb)) e) nt s6
      fun c o cz cT c1 c2 e => up c o cz (kk c o cz cT c1 c2 e)
  · simp only [Bool.false_eq_true, if_false]
    replace v0 : Heap.SameBut zz pa g0 := v0
    refine wpAny_bind ?_
    rw [← Array.forIn_toList]
    simp only [List.forIn_cons, List.forIn_nil]
    refine wpAny_bind (wpAny_bind (wpAny_holding ?_))
    show wpAny _ _ (Builtin.SmallTypes.nextOf (.ref j1) >>= _) _ _ ⟨g0, ge, de, ta, og⟩
    refine wpAny_bind (D1.item k _ _ _ l1 (D1.over u1 v0 S.zf1) fun x1 p1 t1 y1 w1 r1 => wpAny_pure ?_)
    replace r1 : Heap.SameBut j1 g0 p1 := r1
    refine wpAny_pure ?_
    refine wpAny_bind (wpAny_bind (wpAny_holding ?_))
    show wpAny _ _ (Builtin.SmallTypes.nextOf (.ref j2) >>= _) _ _ ⟨p1, ge, de, t1, og⟩
    refine wpAny_bind (D2.item k _ _ _ l2 (D2.over (D2.over u2 v0 S.zf2) r1 S.sep1_2) fun x2 p2 t2 y2 w2 r2 => wpAny_pure ?_)
    replace r2 : Heap.SameBut j2 p1 p2 := r2
    refine wpAny_pure (wpAny_pure ?_)
    show wpAny _ _ (newTuple [x1, x2] >>= _) _ _ _
    refine wpAny_bind (wpAny_newTuple ?_)
    have sz : p2.objs.size = pa.objs.size := by rw [r2.1, r1.1, v0.1]
    have z3 : ZA p2 zz ti tt mk true := r2.extBut _ _ S.zi2 <| r1.extBut _ _ S.zi1 z0
    have kk : ∀ c o, c ≠ zz → c ≠ j1 → c ≠ j2 → pa.get? c = some o → p2.get? c = some o := fun c o cz c1 c2 e =>
      r2.extBut _ _ c2 <| r1.extBut _ _ c1 <| v0.extBut _ _ cz e
    have a1 : U1 (k + 1) p2 := D1.over w1 r2 S.sep2_1
    have up : ∀ c o, p2.get? c = some o → (p2.push { cls := .type "tuple", data := .seq #[x1, x2] }).get? c = some o := fun c o e => Heap.get?_push_of_some _ e
    refine wpAny_pure ⟨_, rfl, ?_⟩
    show Q (.ref p2.objs.size) _
    have nt : IsTupOf2 (p2.push { cls := .type "tuple", data := .seq #[x1, x2] }) p2.objs.size x1 x2 := Heap.get?_push_size _ rfl
    have s6 : (p2.push { cls := .type "tuple", data := .seq #[x1, x2] }).objs.size = p2.objs.size + 1 := Heap.size_push ..
    rw [sz] at nt s6 ⊢
    exact hQ x1 x2 _ t2 _ _ y1 y2 (up _ _ z3) hm ⟨_, _, up _ _ (kk _ _ S.TOz S.Ti1 S.Ti2 ho)⟩ (D1.frame _ _ _ a1 fun b _ o e => up b o e) (D2.frame _ _ _ w2 fun b _ o e => up b o e) nt s6
      fun c o cz cT c1 c2 e => up c o (kk c o cz c1 c2 e)
theorem next_end2 {Q : Fin → Shared → Prop} (S : ZipSep2 zz ti tt j1 j2 q1 q2) (D1 : Draws pr ww AA j1 q1 m1 R1 U1) (D2 : Draws pr ww AA j2 q2 m2 R2' U2)
    (hz : ZA sh.heap zz ti tt mk fl) (hm : Mk mk) (hi : IsTupOf2 sh.heap ti (.ref j1) (.ref j2)) (ho : IsTupOf2 sh.heap tt b1 b2) (u1 : U1 k sh.heap) (u2 : U2 k sh.heap) (l1 : k ≤ m1) (l2 : k ≤ m2) (en : k = m1 ∨ k = m2)
    (hE : ∀ h' tk e, (∀ c o, c ≠ zz → c ≠ tt → c ≠ j1 → c ≠ j2 → sh.heap.get? c = some o → h'.get? c = some o) → (∃ o, h'.get? e = some o ∧ o.cls = .type "StopIteration") → EE (.ref e) { sh with heap := h', toks := tk }) :
    wpAny (model pr ww) AA (Builtin.«zip.__next__» ⟨[.ref zz], []⟩) Q EE sh := by
  obtain ⟨pa, ge, de, ta, og⟩ := sh
  show wpAny _ _ (field (.ref zz) 2 >>= _) _ _ _
  refine wpAny_bind (wpAny_field hz rfl (x := .bool false) rfl ?_)
  show wpAny _ _ (field (.ref zz) 3 >>= _) _ _ _
  refine wpAny_bind (wpAny_field hz rfl (x := .ref ti) rfl ?_)
  refine wpAny_bind (wpAny_seqItems hi rfl ?_)
  show wpAny _ _ (Builtin.SmallTypes.ownedTupleIsFree (.ref zz) >>= _) _ _ _
  refine wpAny_bind (isFree hz hm ?_ fun g0 z0 v0 => ?_)
  · simp only [if_true]
    refine wpAny_bind (wpAny_rule ?_)
    refine wpAny_bind (wpAny_field hz rfl (x := .ref tt) rfl ?_)
    refine wpAny_bind (wpAny_setField_rec hz (by simp) fun g0 z0 v0 => ?_)
    replace z0 : ZA g0 zz ti tt .ellipsis fl := z0
    replace v0 : Heap.SameBut zz pa g0 := v0
    refine wpAny_bind ?_
    simp only [List.zipIdx_cons, List.zipIdx_nil, List.forIn_cons, List.forIn_nil]
    refine wpAny_bind (wpAny_bind (wpAny_onRaise ?_))
    show wpAny _ _ (Builtin.SmallTypes.nextOf (.ref j1) >>= _) _ _ ⟨g0, ge, de, ta, og⟩
    by_cases c1 : k < m1
    · refine wpAny_bind (D1.item k _ _ _ c1 (D1.over u1 v0 S.zf1) fun x1 p1 t1 y1 w1 r1 => wpAny_pure ?_)
      replace r1 : Heap.SameBut j1 g0 p1 := r1
      have n1 : IsTupOf2 p1 tt b1 b2 := r1.extBut _ _ S.Ti1 (v0.extBut _ _ S.TOz ho)
      refine wpAny_bind (wpAny_seqItems (s := ⟨p1, ge, de, t1, og⟩) n1 rfl ?_)
      refine wpAny_bind (updateSeq_IsTupOf2 (s := ⟨p1, ge, de, t1, og⟩) n1 fun g1 o1 v1 => ?_)
      replace o1 : IsTupOf2 g1 tt x1 b2 := o1
      replace v1 : Heap.SameBut tt p1 g1 := v1
      refine wpAny_bind (wpAny_letGo (wpAny_pure ?_))
      refine wpAny_bind (wpAny_bind (wpAny_onRaise ?_))
      show wpAny _ _ (Builtin.SmallTypes.nextOf (.ref j2) >>= _) _ _ ⟨g1, ge, de, t1, og⟩
      have e2 : k = m2 := by omega
      refine wpAny_bind (D2.done ⟨g1, ge, de, t1, og⟩ _ _ (by rw [← e2]; exact D2.over (D2.over (D2.over u2 v0 S.zf2) r1 S.sep1_2) v1 S.Tf2) fun gq e hq he => ?_)
      replace hq : Heap.ExtBut j2 g1 gq := hq
      obtain ⟨oe, f1, f2⟩ := he
      replace f1 : gq.get? e = some oe := f1
      have zq : ZA gq zz ti tt .ellipsis fl := hq _ _ S.zi2 <| v1.extBut _ _ S.TOz.symm <| r1.extBut _ _ S.zi1 z0
      have ez : e ≠ zz := fun x => by subst x; rw [zq] at f1; cases f1; simp at f2
      refine wpAny_setField_rec (s := ⟨gq, ge, de, t1, og⟩) zq (by simp) fun gr _ hr => ?_
      replace hr : Heap.SameBut zz gq gr := hr
      exact hE gr t1 e (fun c o cz cT d1 d2 x => hr.extBut _ _ cz <| hq _ _ d2 <| v1.extBut _ _ cT <| r1.extBut _ _ d1 <| v0.extBut _ _ cz x) ⟨oe, hr.extBut _ _ ez f1, f2⟩
    · have e1 : k = m1 := by omega
      refine wpAny_bind (D1.done ⟨g0, ge, de, ta, og⟩ _ _ (by rw [← e1]; exact D1.over u1 v0 S.zf1) fun gq e hq he => ?_)
      replace hq : Heap.ExtBut j1 g0 gq := hq
      obtain ⟨oe, f1, f2⟩ := he
      replace f1 : gq.get? e = some oe := f1
      have zq : ZA gq zz ti tt .ellipsis fl := hq _ _ S.zi1 z0
      have ez : e ≠ zz := fun x => by subst x; rw [zq] at f1; cases f1; simp at f2
      refine wpAny_setField_rec (s := ⟨gq, ge, de, ta, og⟩) zq (by simp) fun gr _ hr => ?_
      replace hr : Heap.SameBut zz gq gr := hr
      exact hE gr ta e (fun c o cz cT d1 d2 x => hr.extBut _ _ cz <| hq _ _ d1 <| v0.extBut _ _ cz x) ⟨oe, hr.extBut _ _ ez f1, f2⟩
  · simp only [Bool.false_eq_true, if_false]
    replace v0 : Heap.SameBut zz pa g0 := v0
    refine wpAny_bind ?_
    rw [← Array.forIn_toList]
    simp only [List.forIn_cons, List.forIn_nil]
    refine wpAny_bind (wpAny_bind (wpAny_holding ?_))
    show wpAny _ _ (Builtin.SmallTypes.nextOf (.ref j1) >>= _) _ _ ⟨g0, ge, de, ta, og⟩
    by_cases c1 : k < m1
    · refine wpAny_bind (D1.item k _ _ _ c1 (D1.over u1 v0 S.zf1) fun x1 p1 t1 y1 w1 r1 => wpAny_pure ?_)
      replace r1 : Heap.SameBut j1 g0 p1 := r1
      refine wpAny_pure ?_
      refine wpAny_bind (wpAny_bind (wpAny_holding ?_))
      show wpAny _ _ (Builtin.SmallTypes.nextOf (.ref j2) >>= _) _ _ ⟨p1, ge, de, t1, og⟩
      have e2 : k = m2 := by omega
      refine wpAny_bind (D2.done ⟨p1, ge, de, t1, og⟩ _ _ (by rw [← e2]; exact D2.over (D2.over u2 v0 S.zf2) r1 S.sep1_2) fun gq e hq he => ?_)
      exact hE gq t1 e (fun c o cz cT d1 d2 x => hq _ _ d2 <| r1.extBut _ _ d1 <| v0.extBut _ _ cz x) he
    · have e1 : k = m1 := by omega
      refine wpAny_bind (D1.done ⟨g0, ge, de, ta, og⟩ _ _ (by rw [← e1]; exact D1.over u1 v0 S.zf1) fun gq e hq he => ?_)
      exact hE gq ta e (fun c o cz cT d1 d2 x => hq _ _ d1 <| v0.extBut _ _ cz x) he
end
end ZN
namespace PySem.F
theorem zip_no_len : typeLookup (.type "zip") "__len__" = pure none := by rw [typeLookup_type, builtinLookup_eq_fast]; kernel_rfl
theorem zip_no_hint : typeLookup (.type "zip") "__length_hint__" = pure none := by rw [typeLookup_type, builtinLookup_eq_fast]; kernel_rfl
end PySem.F
namespace DLT
open PySem PySem.Spec PyProof.Rows L2 ZN
section
variable {X : Cx} {pins : List (Addr × Obj)} {σ : L2.St} {a b z TI TO i1 i2 : Addr} {xs ys : List V}
/-- where a zip of two tuples stands -/
def ZSt (h : Heap) (a b z TI TO i1 i2 : Addr) (ix : Nat) : Prop := (∃ mk fl, ZA h z TI TO mk fl ∧ Mk mk) ∧ IsTupOf2 h TI (.ref i1) (.ref i2) ∧ (∃ x y, IsTupOf2 h TO x y) ∧ h.IsTupleIter i1 a ix ∧ h.IsTupleIter i2 b ix
theorem ZSt.keep {h h' : Heap} {ix : Nat} (sta : ZSt h a b z TI TO i1 i2 ix) (k : ∀ c ∈ [z, TI, TO, i1, i2], ∀ o, h.get? c = some o → h'.get? c = some o) : ZSt h' a b z TI TO i1 i2 ix := by
  obtain ⟨⟨mk, fl, gz, gm⟩, gTI, ⟨x, y, gTO⟩, g1, g2⟩ := sta
  exact ⟨⟨mk, fl, k z (by simp) _ gz, gm⟩, k TI (by simp) _ gTI, ⟨x, y, k TO (by simp) _ gTO⟩, g1.at fun o e => k i1 (by simp) o e, g2.at fun o e => k i2 (by simp) o e⟩
/-- the pairs so far -/
def Prs (H : Hp) (xs ys ts : List V) : Prop := ∀ (j : Nat) (v : V), ts[j]? = some v → ∃ T x y zo, v = V.ref T ∧ H T = some (.frz zo (.tup [x, y])) ∧ zo.dict = none ∧ xs[j]? = some x ∧ ys[j]? = some y
theorem ext_loop {A : Around} {R : Result → Shared → Prop} {res : Value} {S : Addr} (hh : A.handled = none) (D : ZipSep2 z TI TO i1 i2 [i1, a] [i2, b]) (na : a ≠ i1) (nb : b ≠ i2) (hSx : S ∉ [z, TI, TO, i1, i2]) (hn : min xs.length ys.length ≤ 16777216) : ∀ (k i : Nat) (s : Shared) (H : Hp) (ts : List V), min xs.length ys.length - i = k → i ≤ min xs.length ys.length → Inv X pins σ H s → (∀ c ∈ [z, TI, TO, i1, i2], FpOk X pins H c) → ZSt s.heap a b z TI TO i1 i2 i →
    SqT X.K H a xs → SqT X.K H b ys → H S = some (.lst ts) → ts.length = i → Prs H xs ys ts → (∀ t ∈ ts, t ≠ V.ref S) →
    (∀ s' H' ts', Inv X pins σ H' s' → H' S = some (.lst ts') → ts'.length = min xs.length ys.length → Prs H' xs ys ts' → (∀ t ∈ ts', t ≠ V.ref S) → (∀ c o, c ≠ S → H c = some o → H' c = some o) → (∀ v ∈ ts', v ∈ ts ∨ ∃ T, v = V.ref T ∧ H T = none) → R (.ok (.ret res)) s') →
    codeAny (model X.prog X.w) A (.builtin "list.extend.loop" ⟨[.ref S, .ref z, res], []⟩) R s := by
  intro k
  induction k with
  | zero =>
    intro i s H ts hk hi I fo sta lx ly hS hl hP hne hR
    obtain ⟨⟨mk, fl, gz, gm⟩, gTI, ⟨x0, y0, gTO⟩, g1, g2⟩ := sta
    refine codeAny_builtin F.entry_extend_loop ?_
    rw [Around.under_plainId F.plain_extend_loop _]
    show wpAny _ A.in1 (pyNext (.ref z) >>= _) _ _ s
    obtain ⟨t1, s1, p1, _⟩ := I.tuple lx
    obtain ⟨t2, s2, p2, _⟩ := I.tuple ly
    have l1 := s1.length
    have l2 := s2.length
    have hTy : s.TypeIs (.ref z) "zip" := ⟨_, gz, rfl⟩
    have hh' : A.in1.in1.handled = none := hh
    unfold pyNext
    refine wpAny_bind (wpAny_bind (wpAny_attempt (wpAny_callSpecial?_slot (name := Str.ofString "__next__") hTy F.slot_zip_next (wpAny_call_entry F.slot_zip_next hTy F.entry_zip_next
      (next_end2 D (Draws.tuple hh' i1 a na t1.toArray) (Draws.tuple hh' i2 b nb t2.toArray) gz gm gTI gTO ⟨g1, p1⟩ ⟨g2, p2⟩ (by simp; omega) (by simp; omega) (by simp; omega) fun h' tk e hk he => ?_) (F.args_zip_next_1 _)))))
    obtain ⟨o, ho, hc⟩ := he
    refine wpAny_bind (wpAny_isInstance (T := "StopIteration") (b := true) ⟨o, ho, hc⟩ isSubtype_stop ?_)
    refine wpAny_pure (wpAny_pure ?_)
    exact hR _ H ts (I.turnedL (t' := tk) (ch := [z, TI, TO, i1, i2]) (fun d o nb q => hk d o (fun e => nb (by simp [e])) (fun e => nb (by simp [e])) (fun e => nb (by simp [e])) (fun e => nb (by simp [e])) q) fo) hS (by omega) hP hne (fun _ _ _ e => e) fun v hv => .inl hv
  | succ k ih =>
    intro i s H ts hk hi I fo sta lx ly hS hl hP hne hR
    obtain ⟨⟨mk, fl, gz, gm⟩, gTI, ⟨x0, y0, gTO⟩, g1, g2⟩ := sta
    refine codeAny_builtin F.entry_extend_loop ?_
    rw [Around.under_plainId F.plain_extend_loop _]
    show wpAny _ A.in1 (pyNext (.ref z) >>= _) _ _ s
    have hlt : i < min xs.length ys.length := by omega
    obtain ⟨t1, s1, p1, _⟩ := I.tuple lx
    obtain ⟨t2, s2, p2, _⟩ := I.tuple ly
    have l1 := s1.length
    have l2 := s2.length
    obtain ⟨x, gx⟩ : ∃ x, xs[i]? = some x := ⟨xs[i]'(by omega), List.getElem?_eq_getElem _⟩
    obtain ⟨y, gy⟩ : ∃ y, ys[i]? = some y := ⟨ys[i]'(by omega), List.getElem?_eq_getElem _⟩
    obtain ⟨v1, hv1, r1⟩ := s1.get gx
    obtain ⟨v2, hv2, r2⟩ := s2.get gy
    have hTy : s.TypeIs (.ref z) "zip" := ⟨_, gz, rfl⟩
    have hh' : A.in1.in1.handled = none := hh
    have k1 : i < t1.toArray.size := by have := (List.getElem?_eq_some_iff.mp hv1).1; simpa using this
    have k2 : i < t2.toArray.size := by have := (List.getElem?_eq_some_iff.mp hv2).1; simpa using this
    unfold pyNext
    refine wpAny_bind (wpAny_bind (wpAny_attempt (wpAny_callSpecial?_slot (name := Str.ofString "__next__") hTy F.slot_zip_next (wpAny_call_entry F.slot_zip_next hTy F.entry_zip_next
      (next_item2 D (Draws.tuple hh' i1 a na t1.toArray) (Draws.tuple hh' i2 b nb t2.toArray) gz gm gTI gTO ⟨g1, p1⟩ ⟨g2, p2⟩ k1 k2 fun w1 w2 h' tk mk' fl' y1 y2 gz' gm' gTO' n1 n2 hT hsz hk => wpAny_pure ?_) (F.args_zip_next_1 _)))))
    have f1 : w1 = v1 := by
      have q : t1.toArray[i]? = some v1 := by simpa using hv1
      rw [q] at y1; exact (Option.some.inj y1).symm
    have f2 : w2 = v2 := by
      have q : t2.toArray[i]? = some v2 := by simpa using hv2
      rw [q] at y2; exact (Option.some.inj y2).symm
    subst f1 f2
    have neu : ObjOk X.prog X.w (upd H s.heap.objs.size (.frz { cls := .type "tuple", data := .seq #[w1, w2] } (.tup [x, y]))) h' s.heap.objs.size (.frz { cls := .type "tuple", data := .seq #[w1, w2] } (.tup [x, y])) :=
      ⟨hT, by show 2 ≤ sizeLine; decide, [w1, w2], .cons r1 (.cons r2 .nil), ⟨_, hT, rfl, _, rfl⟩⟩
    have hTn : H s.heap.objs.size = none := I.hok.fresh (Nat.le_refl _)
    have I1 : Inv X pins σ (upd H s.heap.objs.size (.frz { cls := .type "tuple", data := .seq #[w1, w2] } (.tup [x, y]))) { s with heap := h', toks := tk } :=
      I.turnedNew (ch := [z, TI, TO, i1, i2]) (fun d o nb q => hk d o (fun e => nb (by simp [e])) (fun e => nb (by simp [e])) (fun e => nb (by simp [e])) (fun e => nb (by simp [e])) q) fo (Nat.le_refl _) neu
    have hST : S ≠ s.heap.objs.size := fun e => by rw [e, hTn] at hS; cases hS
    have up : ∀ c o, H c = some o → upd H s.heap.objs.size (.frz { cls := .type "tuple", data := .seq #[w1, w2] } (.tup [x, y])) c = some o := fun c o e => by
      rw [upd_ne (ne_of_none e hTn)]; exact e
    have hS1 := up _ _ hS
    obtain ⟨zl, its, cc, rv, hlen, eS⟩ := I1.lstM hS1
    show wpAny _ A.in1 (updateSeq S (·.push (.ref s.heap.objs.size)) >>= _) _ _ _
    refine wpAny_bind ?_
    have I2 := I1.lset (ys := ts ++ [V.ref s.heap.objs.size]) (its' := its ++ [Value.ref s.heap.objs.size]) (f := (·.push (Value.ref s.heap.objs.size))) (t' := tk) hS1 eS (by simp) (rv.append (.cons rfl .nil)) (by rw [List.length_append, List.length_singleton, sizeLine_eq]; omega)
    have fo1 : ∀ c ∈ [z, TI, TO, i1, i2], FpOk X pins (upd (upd H s.heap.objs.size (.frz { cls := .type "tuple", data := .seq #[w1, w2] } (.tup [x, y]))) S (.lst (ts ++ [V.ref s.heap.objs.size]))) c := fun c hc => by
      obtain ⟨q0, q1, q2, q3, q4, q5⟩ := fo c hc
      have ltc : c < s.heap.objs.size := by
        have ee : c = z ∨ c = TI ∨ c = TO ∨ c = i1 ∨ c = i2 := by simpa using hc
        rcases ee with q | q | q | q | q
        · rw [q]; exact Heap.lt_size gz
        · rw [q]; exact Heap.lt_size gTI
        · rw [q]; exact Heap.lt_size gTO
        · rw [q]; obtain ⟨_, e, _⟩ := g1; exact Heap.lt_size e
        · rw [q]; obtain ⟨_, e, _⟩ := g2; exact Heap.lt_size e
      refine ⟨?_, q1, q2, q3, q4, q5⟩
      rw [upd_ne (fun e => hSx (by rw [← e]; exact hc)), upd_ne (Nat.ne_of_lt ltc)]
      exact q0
    have up2 : ∀ c o, c ≠ S → H c = some o → upd (upd H s.heap.objs.size (.frz { cls := .type "tuple", data := .seq #[w1, w2] } (.tup [x, y]))) S (.lst (ts ++ [V.ref s.heap.objs.size])) c = some o := fun c o n e => by
      rw [upd_ne n]; exact up c o e
    have hT2 : upd (upd H s.heap.objs.size (.frz { cls := .type "tuple", data := .seq #[w1, w2] } (.tup [x, y]))) S (.lst (ts ++ [V.ref s.heap.objs.size])) s.heap.objs.size = some (.frz { cls := .type "tuple", data := .seq #[w1, w2] } (.tup [x, y])) := by
      rw [upd_ne (Ne.symm hST)]; exact upd_same
    have sq : ∀ {c : Addr} {us : List V}, SqT X.K H c us → SqT X.K (upd (upd H s.heap.objs.size (.frz { cls := .type "tuple", data := .seq #[w1, w2] } (.tup [x, y]))) S (.lst (ts ++ [V.ref s.heap.objs.size]))) c us := fun {c us} q => by
      have hc : ∀ o, H c = some o → (∃ vs, o = .tup vs) ∨ (∃ zo vs, o = .frz zo (.tup vs)) → c ≠ S := fun o e q z => by
        rw [z, hS] at e; cases e
        rcases q with ⟨_, q⟩ | ⟨_, _, q⟩ <;> cases q
      rcases q with (q | ⟨zo, q⟩) | q
      · exact .inl (.inl (up2 _ _ (hc _ q (.inl ⟨_, rfl⟩)) q))
      · exact .inl (.inr ⟨zo, up2 _ _ (hc _ q (.inr ⟨_, _, rfl⟩)) q⟩)
      · exact .inr q
    refine wpAny_updateSeq (s := { s with heap := h', toks := tk }) eS rfl (wpAny_pure ⟨plainId_quiet F.plain_extend_loop _, ih (i + 1) _ _ (ts ++ [V.ref s.heap.objs.size]) (by omega) hlt I2 fo1 ?_ (sq lx) (sq ly) upd_same (by rw [List.length_append, List.length_singleton, hl]) ?_ ?_ ?_⟩)
      (by simp; rw [sizeLine_eq]; omega) (by simp; rw [sizeLine_eq]; omega)
    · refine ZSt.keep (h := h') ⟨⟨mk', fl', gz', gm'⟩, hk _ _ D.TIz D.TITO D.TIi1 D.TIi2 gTI, gTO', n1.1, n2.1⟩ fun c hc o e => ?_
      exact (Heap.get?_update_other _ _ (fun e : S = c => hSx (by rw [e]; exact hc))).trans e
    · unfold Prs
      intro j v hj
      by_cases hlt2 : j < ts.length
      · rw [List.getElem?_append_left hlt2] at hj
        obtain ⟨T, x', y', zo, e1, e2, e3, e4, e5⟩ := hP j v hj
        refine ⟨T, x', y', zo, e1, up2 _ _ (fun q => ?_) e2, e3, e4, e5⟩
        rw [q, hS] at e2; cases e2
      · rw [List.getElem?_append_right (by omega)] at hj
        have hj0 : j = i := by
          have := (List.getElem?_eq_some_iff.mp hj).1
          simp at this
          omega
        subst hj0
        rw [hl, Nat.sub_self] at hj
        cases hj
        exact ⟨_, x, y, _, rfl, hT2, rfl, gx, gy⟩
    · intro t ht
      rcases List.mem_append.mp ht with ht | ht
      · exact hne t ht
      · simp at ht; subst ht
        exact fun e => hST (by cases e; rfl)
    · intro s' H' ts' I' e1 e2 e3 e4 e5 e6
      refine hR s' H' ts' I' e1 e2 e3 e4 (fun c o n e => e5 c o n (up2 c o n e)) fun v hv => ?_
      rcases e6 v hv with h | ⟨T, h1, h2⟩
      · rcases List.mem_append.mp h with h | h
        · exact .inl h
        · simp at h; subst h
          exact .inr ⟨_, rfl, hTn⟩
      · refine .inr ⟨T, h1, ?_⟩
        cases hT0 : H T with
        | none => rfl
        | some o =>
          by_cases hTS : T = S
          · rw [hTS, upd_same] at h2; cases h2
          · rw [up2 T o hTS hT0] at h2; cases h2
end
end DLT
namespace DLT
open PySem PySem.Spec PyProof.Rows L2 ZN
section
variable {X : Cx} {pins : List (Addr × Obj)} {σ : L2.St} {a b z TI TO i1 i2 : Addr} {xs ys : List V}
theorem call_list_zip {s : Shared} {H : Hp} {Q : Value → Shared → Prop} {E : Value → Shared → Prop} (hc : X.calm = true) (I : Inv X pins σ H s) (D : ZipSep2 z TI TO i1 i2 [i1, a] [i2, b]) (na : a ≠ i1) (nb : b ≠ i2) (hn : min xs.length ys.length ≤ 16777216) (fo : ∀ c ∈ [z, TI, TO, i1, i2], FpOk X pins H c) (gz : ZA s.heap z TI TO .none false) (gTI : IsTupOf2 s.heap TI (.ref i1) (.ref i2)) (gTO : ∃ x y, IsTupOf2 s.heap TO x y) (g1 : s.heap.IsTupleIter i1 a 0) (g2 : s.heap.IsTupleIter i2 b 0) (lx : SqT X.K H a xs) (ly : SqT X.K H b ys)
    (hQ : ∀ S s' H' ts, Inv X pins σ H' s' → H S = none → H' S = some (.lst ts) → ts.length = min xs.length ys.length → Prs H' xs ys ts → (∀ c o, H c = some o → H' c = some o) → (∀ v ∈ ts, ∃ T, v = V.ref T ∧ T ≠ S ∧ H T = none) → Q (.ref S) s') :
    wpAny (model X.prog X.w) X.A (call (.type "list") [.ref z]) Q E s := by
  have sta : ZSt s.heap a b z TI TO i1 i2 0 := ⟨⟨_, _, gz, .inl rfl⟩, gTI, gTO, g1, g2⟩
  obtain ⟨x0, y0, gTO⟩ := gTO
  have lts : ∀ c ∈ [z, TI, TO, i1, i2], c < s.heap.objs.size := fun c hc => by
    have ee : c = z ∨ c = TI ∨ c = TO ∨ c = i1 ∨ c = i2 := by simpa using hc
    rcases ee with q | q | q | q | q
    · rw [q]; exact Heap.lt_size gz
    · rw [q]; exact Heap.lt_size gTI
    · rw [q]; exact Heap.lt_size gTO
    · rw [q]; obtain ⟨_, e, _⟩ := g1; exact Heap.lt_size e
    · rw [q]; obtain ⟨_, e, _⟩ := g2; exact Heap.lt_size e
  have hSx : s.heap.objs.size ∉ [z, TI, TO, i1, i2] := fun hm => Nat.lt_irrefl _ (lts _ hm)
  have hSz : s.heap.objs.size ≠ z := Nat.ne_of_gt (Heap.lt_size gz)
  refine callType_codes (Q₁ := fun obj s₁ => obj = .ref s.heap.objs.size ∧ s₁ = { s with heap := s.heap.push { cls := .type "list", data := .seq #[] } }) F.called_list (F.typeCall_list_1 _) F.entry_list_init
    (code_list_new _ ⟨rfl, rfl⟩) fun obj s₁ h₁ => ?_
  obtain ⟨rfl, rfl⟩ := h₁
  have hS : (s.heap.push { cls := .type "list", data := .seq #[] }).get? s.heap.objs.size = some { cls := .type "list", data := .seq #[] } := Heap.get?_push_size _ rfl
  refine ⟨⟨_, hS, rfl⟩, F.args_list_init_2 _ _, ?_⟩
  show wpAny _ X.A.in1.in1 (do let old ← Builtin.List.listItems (.ref s.heap.objs.size); Builtin.List.listUpdate (.ref s.heap.objs.size) (fun _ => #[]); letGo old.toList.reverse; Builtin.List.listExtendWith (.ref s.heap.objs.size) (.ref z) .none) _ _ _
  refine wpAny_bind ?_
  unfold Builtin.List.listItems
  refine wpAny_bind (wpAny_seqItems hS rfl (wpAny_pure ?_))
  show wpAny _ X.A.in1.in1 (updateSeq s.heap.objs.size (fun _ => #[]) >>= fun _ => letGo (#[] : Array Value).toList.reverse >>= fun _ => Builtin.List.listExtendWith (.ref s.heap.objs.size) (.ref z) .none) _ _ _
  refine wpAny_bind (wpAny_updateSeq hS rfl ?_)
  have hS2 := Heap.get?_update_self (Obj.mapSeq (fun _ => (#[] : Array Value))) hS rfl
  refine wpAny_bind (wpAny_letGo ?_)
  unfold Builtin.List.listExtendWith
  have up : ∀ (h : Heap) (f : Obj → Obj), (∀ b o, s.heap.get? b = some o → h.get? b = some o) → ∀ b o, s.heap.get? b = some o → (h.update s.heap.objs.size f).get? b = some o := fun h f q b o e =>
    (Heap.get?_update_other _ _ (Ne.symm (Nat.ne_of_lt (Heap.lt_size e)))).trans (q b o e)
  have k1 : ∀ b o, s.heap.get? b = some o → (s.heap.push { cls := .type "list", data := .seq #[] }).get? b = some o := fun b o e => Heap.get?_push_of_some _ e
  have k2 := up _ (Obj.mapSeq (fun _ => (#[] : Array Value))) k1
  have zty : ∀ {h : Heap}, (∀ b o, s.heap.get? b = some o → h.get? b = some o) → ({ s with heap := h } : Shared).TypeIs (.ref z) "zip" := fun {h} q => ⟨_, q _ _ gz, rfl⟩
  refine wpAny_bind (wpAny_typeOf (zty k2) ?_)
  have h1 : Builtin.List.listSameRef (.ref s.heap.objs.size) (.ref z) = false := by simp [Builtin.List.listSameRef, hSz]
  have h2 : (Value.type "zip" == Value.type "list") = false := by decide
  have h3 : (Value.type "zip" == Value.type "tuple") = false := by decide
  simp only [h1, h2, h3, Bool.or_false, Bool.false_eq_true, if_false]
  refine wpAny_bind (wpAny_pyIter_zip (s := { s with heap := _ }) (k2 _ _ gz) ?_)
  refine wpAny_bind (wpAny_holding ?_)
  unfold Builtin.List.listLengthHint
  refine wpAny_bind (wpAny_specialOf (zty k2) F.zip_no_len ?_)
  show wpAny _ X.A.in1.in1 (specialOf (Value.ref z) (Str.ofString "__length_hint__") >>= _) _ _ _
  refine wpAny_bind (wpAny_specialOf (zty k2) F.zip_no_hint ?_)
  refine wpAny_pure ?_
  show wpAny _ X.A.in1.in1 (rule "list.extend.makes-room" >>= fun _ => Builtin.List.listTouch (.ref s.heap.objs.size) >>= fun _ =>
    again (.builtin "list.extend.loop" ⟨[.ref s.heap.objs.size, .ref z, .none], []⟩)) _ _ _
  refine wpAny_bind (wpAny_rule ?_)
  refine wpAny_bind ?_
  show wpAny _ X.A.in1.in1 (updateSeq s.heap.objs.size (·.push .none) >>= fun _ => updateSeq s.heap.objs.size (·.pop)) _ _ _
  refine wpAny_bind (wpAny_updateSeq hS2 rfl ?_)
  have hS3 := Heap.get?_update_self (Obj.mapSeq (·.push Value.none)) hS2 rfl
  refine wpAny_updateSeq (hz := by seq_fits) hS3 rfl ?_
  have hS4 := Heap.get?_update_self (Obj.mapSeq (·.pop)) hS3 rfl
  have k4 := up _ (Obj.mapSeq (·.pop)) (up _ (Obj.mapSeq (·.push Value.none)) k2)
  have hSn : H s.heap.objs.size = none := I.hok.fresh (Nat.le_refl _)
  have I4 : Inv X pins σ (upd H s.heap.objs.size (.lst [])) { s with heap := _ } := I.laid (t' := s.toks) (o := .lst []) k4 (Nat.le_refl _) ⟨by simp [sizeLine_eq], [], _, .nil, hS4⟩
  have upH : ∀ c o, H c = some o → upd H s.heap.objs.size (.lst []) c = some o := fun c o e => by
    rw [upd_ne (ne_of_none e hSn)]; exact e
  have sq : ∀ {c : Addr} {us : List V}, SqT X.K H c us → SqT X.K (upd H s.heap.objs.size (.lst [])) c us := fun {c us} q => by
    rcases q with (q | ⟨zo, q⟩) | q
    · exact .inl (.inl (upH _ _ q))
    · exact .inl (.inr ⟨zo, upH _ _ q⟩)
    · exact .inr q
  refine wpAny_pure ⟨plainId_quiet F.plain_extend_loop _, ?_⟩
  refine ext_loop (A := X.A.in1) (X := X) (pins := pins) (σ := σ) (xs := xs) (ys := ys) (I.ok.hd hc) D na nb hSx hn _ 0 _ _ [] rfl (Nat.zero_le _) I4 (fun c hcm => ?_) (sta.keep fun c hcm o e => k4 c o e) (sq lx) (sq ly) upd_same rfl ?_ (by simp) fun s' H' ts' I' e1 e2 e3 e4 e5 e6 => ?_
  · obtain ⟨q0, q1, q2, q3, q4, q5⟩ := fo c hcm
    exact ⟨by rw [upd_ne (Nat.ne_of_lt (lts c hcm))]; exact q0, q1, q2, q3, q4, q5⟩
  · intro j v hj
    simp at hj
  · refine ⟨rfl, hQ _ s' H' ts' I' hSn e1 e2 e3 (fun c o e => e5 c o (ne_of_none e hSn) (upH c o e)) fun v hv => ?_⟩
    rcases e6 v hv with h | ⟨T, rfl, h2⟩
    · cases h
    · refine ⟨T, rfl, fun e => e4 _ hv (by rw [e]), ?_⟩
      cases hT : H T with
      | none => rfl
      | some o => rw [upH T o hT] at h2; cases h2
/-- list(zip(e1, e2)) -/
def tListZip (K : PySem.W.Frag) (ta : TA) : TE := fun σ H Q => ta σ H fun vs H1 => ∃ a b xs ys, vs = [.ref a, .ref b] ∧ SqT K H1 a xs ∧ SqT K H1 b ys ∧ min xs.length ys.length ≤ 16777216 ∧
  ∀ S H' ts, H1 S = none → H' S = some (.lst ts) → ts.length = min xs.length ys.length → Prs H' xs ys ts → (∀ c o, H1 c = some o → H' c = some o) → (∀ v ∈ ts, ∃ T, v = V.ref T ∧ T ≠ S ∧ H1 T = none) → Q (.ref S) H'
theorem pe_listZip {e1 e2 : Expr} {ta : TA} {pl p pz posz : Pos} (hc : X.calm = true) (hg : Gl X "list") (hm : X.mg "list" = none) (yg : Gl X "zip") (mz : X.mg "zip" = none) (pa1 : PA X [e1, e2] ta)
    (na1 : starEach [.Call (.Name "zip" pz) [e1, e2] [] posz] X.env = (false, eval (.Call (.Name "zip" pz) [e1, e2] [] posz) X.env) :: starEach [] X.env := by rfl)
    (ns1 : starEach [e1, e2] X.env = (false, eval e1 X.env) :: starEach [e2] X.env := by rfl) (npl : (backTo posz (starEach [e2] X.env)).any (·.1) = false := by rfl) :
    PE X (.Call (.Name "list" pl) [.Call (.Name "zip" pz) [e1, e2] [] posz] [] p) (tListZip X.K ta) := by
  refine ⟨fun pps sh σ H R I h => ?_⟩
  refine Call_ (ld_blt I hg hm boot_list (PyProof.Rows.callWith_type1 (args_cons (Call_ (ld_blt I yg mz PyProof.Rows.boot_zip (PyProof.Rows.callWith_type1 (thn (pa1.run posz pps sh σ H _ I h) fun uu s1 ⟨vs, H1, I1, r1, q1⟩ => ?_) ns1 npl))) na1) na1))
  obtain ⟨a, b, xs, ys, ex, lx, ly, hn, qq⟩ := q1
  subst ex
  cases r1 with
  | cons k1 r1 =>
    cases r1 with
    | cons k2 r1 =>
      cases r1
      cases k1
      cases k2
      obtain ⟨t1, s1', p1, _⟩ := I1.tuple lx
      obtain ⟨t2, s2', p2, _⟩ := I1.tuple ly
      obtain ⟨o1, ho1, _⟩ := id p1
      obtain ⟨o2, ho2, _⟩ := id p2
      have l1 := Heap.lt_size ho1
      have l2 := Heap.lt_size ho2
      refine zip_begins2 (begins_tuple a t1.toArray) (begins_tuple b t2.toArray) p1 p2 fun h' gz gTI gTO g1 g2 hsz hk => args_nil ?_
      have I2 : Inv X pps σ H1 { s1 with heap := h' } := I1.kept (t' := s1.toks) hk
      refine call_list_zip (z := s1.heap.objs.size + 4) (TI := s1.heap.objs.size + 2) (TO := s1.heap.objs.size + 3) (i1 := s1.heap.objs.size) (i2 := s1.heap.objs.size + 1) hc I2 (sep2 _ a b l1 l2) (Nat.ne_of_lt l1) (Nat.ne_of_lt (Nat.lt_succ_of_lt l2)) hn (fun d hd => ?_) gz gTI ⟨_, _, gTO⟩ ⟨_, g1, rfl, rfl⟩ ⟨_, g2, rfl, rfl⟩ lx ly fun S s' H' ts I' e1 e2 e3 e4 e5 e6 => ?_
      · have ee : d = s1.heap.objs.size + 4 ∨ d = s1.heap.objs.size + 2 ∨ d = s1.heap.objs.size + 3 ∨ d = s1.heap.objs.size ∨ d = s1.heap.objs.size + 1 := by simpa using hd
        have le : s1.heap.objs.size ≤ d := by
          rcases ee with q | q | q | q | q <;> rw [q] <;> omega
        exact I1.fpOk le (I1.hok.fresh le)
      · exact ⟨.ref S, H', I', rfl, qq S H' ts e1 e2 e3 e4 e5 e6⟩
end
end DLT
namespace DL
open PySem PySem.Spec PyProof.Rows L2
section
variable {X : Cx} {C : Cc} {K : PySem.W.Frag}
def bListZip : List PyData → Option PyData
  | [.tuple xs, .tuple ys] => some (.list (zip2 xs ys))
  | _ => none
@[simp] theorem bListZip_tt (xs ys) : bListZip [.tuple xs, .tuple ys] = some (.list (zip2 xs ys)) := id rfl
/-- what stands new is owned by nobody -/
def owNew (H : Hp) (ow : Ow) : Ow := fun c => match H c with
  | none => none
  | some _ => ow c
theorem owNew_none {H : Hp} {ow : Ow} {c : Addr} (h : H c = none) : owNew H ow c = none := by unfold owNew; rw [h]
theorem owNew_old {H : Hp} {ow : Ow} {c : Addr} {o : HO} (h : H c = some o) : owNew H ow c = ow c := by unfold owNew; rw [h]
theorem prs_dv {H H' : Hp} {ow : Ow} (st : Stay H ow H' (owNew H ow)) : ∀ {xs ys ts : List V} {ds es : List PyData}, DVs K H ow xs ds → DVs K H ow ys es → DLT.Prs H' xs ys ts → ts.length = min xs.length ys.length → (∀ v ∈ ts, ∃ T, v = V.ref T ∧ H T = none) → DVs K H' (owNew H ow) ts (zip2 ds es)
  | [], _, ts, _, _, h1, h2, hp, hl, hf => by
    cases h1
    have : ts = [] := by simpa using hl
    subst this
    exact .nil
  | _ :: _, [], ts, _, _, h1, h2, hp, hl, hf => by
    cases h1
    cases h2
    have : ts = [] := by simpa using hl
    subst this
    exact .nil
  | x :: xs, y :: ys, ts, _, _, h1, h2, hp, hl, hf => by
    cases ts with
    | nil => simp at hl
    | cons t ts =>
      cases h1 with
      | @cons _ _ d ds hx h1 =>
        cases h2 with
        | @cons _ _ e es hy h2 =>
          obtain ⟨T, x', y', zo, e1, e2, e3, e4, e5⟩ := hp 0 t rfl
          obtain ⟨T', e6, e7⟩ := hf t List.mem_cons_self
          subst e1
          cases e6
          simp at e4 e5
          subst e4
          subst e5
          show DVs K H' (owNew H ow) _ (.tuple [d, e] :: zip2 ds es)
          exact .cons (.tup (.inl ⟨zo, e2, e3, owNew_none e7⟩) (.cons (hx.stay st) (.cons (hy.stay st) .nil)) (by simp)) (prs_dv st h1 h2 (fun j v hj => hp (j + 1) v (by simpa using hj)) (by simpa using hl) fun v hv => hf v (List.mem_cons_of_mem _ hv))
theorem de_listZip {e1 e2 : Expr} {t : Env → Rs (List PyData)} {pl p pz posz : Pos} (hc : X.calm = true) (hg : Gl X "list") (hm : X.mg "list" = none) (yg : Gl X "zip") (mz : X.mg "zip" = none) (pa1 : DA X C [e1, e2] t)
    (na1 : starEach [.Call (.Name "zip" pz) [e1, e2] [] posz] X.env = (false, eval (.Call (.Name "zip" pz) [e1, e2] [] posz) X.env) :: starEach [] X.env := by rfl)
    (ns1 : starEach [e1, e2] X.env = (false, eval e1 X.env) :: starEach [e2] X.env := by rfl) (npl : (backTo posz (starEach [e2] X.env)).any (·.1) = false := by rfl) :
    DE X C (.Call (.Name "list" pl) [.Call (.Name "zip" pz) [e1, e2] [] posz] [] p) (eB bListZip t) :=
  PEweak (DLT.pe_listZip hc hg hm yg mz pa1 na1 ns1 npl) fun σ H Q h => rd_one (R1 := RA X.K) h fun vs ds H ow env hv P h => by
    obtain ⟨o, e, h⟩ := rdAt_lift (v := V.non) h
    unfold bListZip at e
    split at e
    · rename_i xs ys
      cases e
      cases hv with
      | cons h1 hv =>
        cases hv with
        | cons h2 hv =>
          cases hv
          cases h1 with
          | @tup a us _ f1 d1 z1 =>
            cases h2 with
            | @tup b ws _ f2 d2 z2 =>
              have L1 := d1.length
              have L2 := d2.length
              refine ⟨a, b, us, ws, rfl, f1.sq, f2.sq, by omega, fun S H' ts q0 q1 q2 q3 q4 q5 => ?_⟩
              have gr : Gr H ow H' (owNew H ow) := fun c o e => ⟨q4 c o e, owNew_old e⟩
              refine rdAt_fin h gr (.lst q1 (owNew_none q0) (prs_dv gr.stay d1 d2 q3 q2 fun v hv => ?_) ?_) P
              · obtain ⟨T, a1, _, a3⟩ := q5 v hv
                exact ⟨T, a1, a3⟩
              · simp only [zip2, List.length_zipWith]; omega
    · cases e
end
end DL
namespace DL
open PySem PySem.Spec PyProof.Rows L2
section
variable {K : PySem.W.Frag} {C : Cc} {H H' : Hp} {ow ow' : Ow} {σ : L2.St} {env : Env} {N : Nat} {Q : VK} {t : Env → Rs M}
theorem rd_frz (h : rd K C (RE K) (eFrz t) σ H Q) : rd K C (RM K C.N) t σ H Q := by
  obtain ⟨env, ow, P, h⟩ := h
  exact ⟨env, ow, P, rdAt_mono (rdAt_bind (R1 := RM K C.N) h) fun v H1 ⟨m, e1, ow1, X1, ⟨fp, V1, V2, V3⟩, P1, h1⟩ => by
    obtain ⟨x, e, h1⟩ := rdAt_lift (v := V.non) h1
    cases V1 with
    | d hd => cases e; exact h1 v H1 ow1 Ext.refl hd P1
    | @l p vs ds hp hds hz =>
      cases e
      have hq : ow1 p = some C.N := V3 p (by simp)
      have st : Stay H1 ow1 H1 (off ow1 p) := fun a o h h' => ⟨h, by
        by_cases ha : a = p
        · rw [ha]; exact off_same
        · rw [off_ne ha]; exact h'⟩
      refine h1 _ H1 (off ow1 p) (fun a o ha hf => ⟨ha, ?_⟩) (.lst hp off_same (hds.stay st) hz) ⟨fun i m hm => ?_, P1.io, P1.len, P1.lenS⟩
      · by_cases hap : a = p
        · subst hap
          exact absurd (hf _ hq) (Nat.lt_irrefl _)
        · exact off_ne hap
      · obtain ⟨w, fp, a1, a2, a3, a4⟩ := P1.sl i m hm
        refine ⟨w, fp, a1, a2.stay st fun _ _ => rfl, a3, fun q hq' => ?_⟩
        have hne : q ≠ p := fun z => by
          have z1 := a4 q hq'
          rw [z, hq] at z1
          have z2 : C.N = i := Option.some.inj z1
          have hi := (List.getElem?_eq_some_iff.mp hm).1
          have := P1.len
          omega
        rw [off_ne hne]; exact a4 q hq'
    | scr => cases e
    | m => cases e
    | fm => cases e
    | o => cases e
    | fo => cases e
    | ll => cases e
    | fk => cases e
    | kt => cases e
    | kf => cases e
    | kb => cases e
    | ob => cases e
    | fb => cases e⟩
theorem rd_lend2 (h : rd K C (RM K C.N) (mLend2 t) σ H Q) : rd K C (RM K C.N) t σ H Q := by
    obtain ⟨env, ow, P, h⟩ := h
    refine ⟨mask2 env, frzOw H C.N ow, P.mask2, ?_⟩
    unfold mLend2 at h
    cases ht : t (mask2 env) with
    | no => rw [ht] at h; exact h.elim
    | ex x e => rw [ht] at h; exact h.elim
    | ok x e1 =>
      rw [ht] at h
      have h : rdAt K C (RM K C.N) σ H ow Q (if resO x = true then .ok x env else .no) := h
      by_cases s : resO x = true
      · rw [if_pos s] at h
        intro v H' ow' X1 ⟨fp, r1, r2, r3⟩ _
        refine h v H' (resOw H ow ow') (res_gr X1).ext ?_ (P.gr (res_gr X1))
        cases r1 with
        | d r1 => exact ⟨[], .d (res_dv X1 r1 s), List.nodup_nil, fun p hp => nomatch hp⟩
        | @l a ws ds q1 q2 q3 =>
          have ha := r3 a (by simp)
          have hn : H a = none := by
            cases hh : H a with
            | none => rfl
            | some u =>
              obtain ⟨_, e2⟩ := X1 a u hh fun i z => frzOw_some z
              rw [ha] at e2
              have := frzOw_some e2.symm
              omega
          refine ⟨[a], .l q1 (dvs_scal0 q2 s) q3, by simp, fun p hp => ?_⟩
          rw [List.mem_singleton] at hp
          subst hp
          unfold resOw
          rw [hn]
          exact ha
        | _ => cases s
      · rw [if_neg s] at h; exact h.elim
end
section
variable {X : Cx} {C : Cc} {K : PySem.W.Frag} {pos : Pos}
theorem ds_setLcN {i : Nat} {y : Str} {py : Pos} {elt tg iter : Expr} {ifs : List Expr} {scope : Scope} {own : List (Str × Nat)} {spos : Pos} {ts vs : List Nat} {it : Env → Rs (List PyData)} {g : PyData → Env → Option Env} {tt : Env → Rs Bool} {te : Env → Rs PyData}
    (hc : X.calm = true) (hN : X.N.Nodup) (hy : X.N[i]? = some y) (hyl : X.env.scope.names.lookup y = some .local) (hsw : swapsWith (.ListComp elt [⟨tg, iter, ifs, 0⟩] scope pos) (some (.Name y py)) spos.line X.env = pure true)
    (hi : DI X C tg iter it) (ok : BlkOk X.N X.env.scope scope own)
    (hg : ∀ (s : Shared) (H : Hp) (D : Addr) (cl : List (Str × Addr)) (fp : List Addr), DG (Blk X s H scope D cl fp) C.blk tg ts g) (ht : ∀ (s : Shared) (H : Hp) (D : Addr) (cl : List (Str × Addr)) (fp : List Addr), DTs (Blk X s H scope D cl fp) C.blk ifs tt)
    (he : ∀ (s : Shared) (H : Hp) (D : Addr) (cl : List (Str × Addr)) (fp : List Addr), DE (Blk X s H scope D cl fp) C.blk elt te) (hts : ∀ i ∈ ts, i ∈ vs) (hio : IoFreeAll C vs) (hioi : IoFree C i) (hs : ∀ x, foldedSetIterable iter X.env x = pure x := by intro _; rfl) (hvs : own.map (·.2) = vs := by rfl) :
    DS X C (.Assign [.Name y py] (.ListComp elt [⟨tg, iter, ifs, 0⟩] scope pos) spos) (sSet i (mD (eFrz (mLend2 (mComp it g tt te vs))))) := by
  subst hvs
  exact PSweak (ps_setLc (g := rdG X.K C.blk ts g) (tt := rd X.K C.blk RT tt) (te := rd X.K C.blk (RE X.K) te) hc hN hy hyl hsw hi ok hg ht he hs) fun D σ H ⟨env, ow, P, h⟩ => by
    refine rd_comp (k := M.l) hts hio hk_own (rd_lend2 (rd_frz (out_E (R := RE X.K) (k := fun d e => .nx (e.set i (some (.d d)))) P ?_ fun v H1 a e1 ow1 y z q => q _ H1 _ Ext.refl (z.setD y hioi))))
    have e : sSet i (mD (eFrz (mLend2 (mComp it g tt te (own.map (·.2)))))) env = sE (eFrz (mLend2 (mComp it g tt te (own.map (·.2))))) (fun d e => .nx (e.set i (some (.d d)))) env := by
      unfold sSet sE mD
      dsimp only
      cases eFrz (mLend2 (mComp it g tt te (own.map (·.2)))) env <;> rfl
    rw [e] at h
    exact h
end
end DL
namespace DCqc
open PySem DL
abbrev b_is_whole := DCom.b_is_whole
abbrev f_is_whole := DCom.f_is_whole
abbrev b__law_stream := DCom.b__law_stream
abbrev f__law_stream := DCom.f__law_stream
abbrev b__law_next := DCom.b__law_next
abbrev f__law_next := DCom.f__law_next
abbrev b__law_is_integer := DCom.b__law_is_integer
abbrev f__law_is_integer := DCom.f__law_is_integer
abbrev b_is_between := DCom.b_is_between
abbrev f_is_between := DCom.f_is_between
abbrev b_is_allocation := DCom.b_is_allocation
abbrev f_is_allocation := DCom.f_is_allocation
abbrev b__law_equal := DCom.b__law_equal
abbrev r__law_equal := DCom.r__law_equal
abbrev f__law_equal := DCom.f__law_equal
abbrev b__law_allocation := DCom.b__law_allocation
abbrev f__law_allocation := DCom.f__law_allocation
abbrev b__law_near := DCon.b__law_near
abbrev f__law_near := DCon.f__law_near
abbrev b_is_assignment := DCom.b_is_assignment
abbrev f_is_assignment := DCom.f_is_assignment
abbrev b_is_series := DCos.b_is_series
abbrev f_is_series := DCos.f_is_series
abbrev b__law_series := DCon.b__law_series
abbrev f__law_series := DCon.f__law_series
abbrev b_check_series := DCos.b_check_series
abbrev f_check_series := DCos.f_check_series
abbrev b__law_sorted := DCos.b__law_sorted
abbrev f__law_sorted := DCos.f__law_sorted
abbrev b__law_assignments := DCon.b__law_assignments
abbrev f__law_assignments := DCon.f__law_assignments
abbrev b__law_transfer := DCos.b__law_transfer
abbrev f__law_transfer := DCos.f__law_transfer
abbrev b__law_churn := DCoo.b__law_churn
abbrev f__law_churn := DCoo.f__law_churn
def b_steps_of : DL.Env → Out :=
  sRet (mD (eB bListZip (aCons (eVar 0) (aCons (eSlice (eVar 0) (pSome (eC (.int 1))) (pNo)) (aNil)))))
def f_steps_of : Fn := runDef [false] 1 b_steps_of
def b_sorted_assignment : DL.Env → Out :=
  sThen (sSet 1 (mD (eLst (aNil))))
  (sThen (sFor (itB bEnum (aCons (eVar 0) (aNil))) (gT 2 (gsC (gN 2) (gsC (gN 3) (gsN)))) (sSet 1 (mD (e2 dAdd (eVar 1) (e2 dMul (eLst (aCons (eVar 2) (aNil))) (eVar 3))))))
  (sRet (mD (eB bTup (aCons (eVar 1) (aNil))))))
def f_sorted_assignment : Fn := runDef [false] 4 b_sorted_assignment
def b_changes_in : DL.Env → Out :=
  sThen (sSet 1 (mLst (aNil)))
  (sThen (sFor (itZNS (eVar 0)) (gN 2) (sDrop (mD (eMt 1 mApp (aCons (eB bSum (aCons (eComp (itB bZip (aCons (eVar 2) (aCons (eSlice (eVar 2) (pSome (eC (.int 1))) (pNo)) (aNil)))) (gT 2 (gsC (gN 3) (gsC (gN 4) (gsN)))) (tYesD) (eB bInt (aCons (e2 dNe (eVar 3) (eVar 4)) (aNil))) [3, 4]) (aNil))) (aNil))))))
  (sRet (mD (eTupO 1))))
def f_changes_in : Fn := runDef [false] 5 b_changes_in
def b_Step_init (cM : Nat → Addr) : DL.Env → Out :=
  sThen (sFldP (cM 3) 0 [] "leaving" (mComp (itB bZip (aCons (eVar 1) (aCons (eVar 2) (aNil)))) (gT 2 (gsC (gN 7) (gsC (gN 8) (gsN)))) (tYesD) (eB bMax (aCons (eC (.int 0)) (aCons (e2 dSub (eVar 7) (eVar 8)) (aNil)))) [7, 8]))
  (sThen (sFldP (cM 3) 0 [] "entering" (mComp (itB bZip (aCons (eVar 1) (aCons (eVar 2) (aNil)))) (gT 2 (gsC (gN 7) (gsC (gN 8) (gsN)))) (tYesD) (eB bMax (aCons (eC (.int 0)) (aCons (e2 dSub (eVar 8) (eVar 7)) (aNil)))) [7, 8]))
  (sThen (sFldP (cM 3) 0 [] "assignment" (mD (eVar 3)))
  (sThen (sFldP (cM 3) 0 [] "free" (mD (eVar 4)))
  (sThen (sFldP (cM 3) 0 [] "waiting" (mComp (itSeq (eVar 1)) (gN 9) (tYesD) (eC (.int 0)) [9]))
  (sFor (itB bZipM (aCons (eVar 3) (aCons (eVar 4) (aNil)))) (gT 2 (gsC (gN 5) (gsC (gN 6) (gsN)))) (augLP 0 [(cM 3, "waiting")] (fun i j => i + j) (eB bInt (aCons (eVar 6) (aNil))) (eVar 5)))))))
def f_Step_init (cM : Nat → Addr) : Fn := runDef [true, false, false, false, false] 10 (b_Step_init cM)
def b_Step_options (cM : Nat → Addr) : DL.Env → Out :=
  sThen (sSet 2 (mD (e2 dIx (eP 0 [(cM 3, "assignment")]) (eVar 1))))
  (sThen (sIf (tNotD (tt1 (e2 dIx (eP 0 [(cM 3, "free")]) (eVar 1)))) (sRet (mD (eLst (aCons (eVar 2) (aNil))))) (sNx))
  (sThen (sSet 3 (mD (eIf (tb1 (e2 dGt (eIxP 0 [(cM 3, "waiting")] (eVar 2)) (eIxP 0 [(cM 3, "leaving")] (eVar 2)))) (eLst (aCons (eVar 2) (aNil))) (eLst (aNil)))))
  (sThen (sIf (tb1 (e2 dGt (eIxP 0 [(cM 3, "leaving")] (eVar 2)) (eC (.int 0)))) (sSet 3 (mD (e2 dAdd (eVar 3) (eFrz (mLend2 (mComp (itB bEnum (aCons (eP 0 [(cM 3, "entering")]) (aNil))) (gT 2 (gsC (gN 5) (gsC (gN 4) (gsN)))) (tb1 (e2 dGt (eVar 4) (eC (.int 0)))) (eVar 5) [5, 4])))))) (sNx))
  (sRet (mD (eB bSorted (aCons (eVar 3) (aNil))))))))
def f_Step_options (cM : Nat → Addr) : Fn := runDef [true, false] 6 (b_Step_options cM)
def b_Step_take (cM : Nat → Addr) : DL.Env → Out :=
  sThen (sSet 4 (mD (e2 dIx (eP 0 [(cM 3, "assignment")]) (eVar 1))))
  (sThen (augLP 0 [(cM 3, "waiting")] (fun i j => i - j) (e2 dMul (eVar 3) (eB bInt (aCons (e2 dIx (eP 0 [(cM 3, "free")]) (eVar 1)) (aNil)))) (eVar 4))
  (sIf (tb1 (e2 dNe (eVar 2) (eVar 4))) (sThen (augLP 0 [(cM 3, "leaving")] (fun i j => i - j) (eVar 3) (eVar 4))
    (augLP 0 [(cM 3, "entering")] (fun i j => i - j) (eVar 3) (eVar 2))) (sNx)))
def f_Step_take (cM : Nat → Addr) : Fn := runDef [true, false, false, false] 5 (b_Step_take cM)
def b_decreases_of : DL.Env → Out :=
  sThen (sSet 1 (mD (eComp (itSeq (e2 dIx (eVar 0) (eC (.int 0)))) (gN 4) (tYesD) (eC (.int 0)) [4])))
  (sThen (sFor (itSeq (eFrz (eCall 1 f_steps_of (avD (eVar 0) (avNil))))) (gT 2 (gsC (gN 2) (gsC (gN 3) (gsN)))) (sSet 1 (mD (eComp (itB bZipX (aCons (eVar 1) (aCons (eVar 2) (aCons (eVar 3) (aNil))))) (gT 3 (gsC (gN 7) (gsC (gN 5) (gsC (gN 6) (gsN))))) (tYesD) (e2 dAdd (eVar 7) (eB bMax (aCons (eC (.int 0)) (aCons (e2 dSub (eVar 5) (eVar 6)) (aNil))))) [7, 5, 6]))))
  (sRet (mD (eVar 1))))
def f_decreases_of : Fn := runDef [false] 8 b_decreases_of
def b_overdrawn_in : DL.Env → Out :=
  sThen (sFor (itB bEnum (aCons (eFrz (eCall 1 f_decreases_of (avD (eVar 0) (avNil)))) (aNil))) (gT 2 (gsC (gN 1) (gsC (gN 2) (gsN)))) (sIf (tb1 (e2 dGt (eVar 2) (e2 dIx (e2 dIx (eVar 0) (eC (.int 0))) (eVar 1)))) (sRet (mD (eVar 1))) (sNx)))
  (sRet (mD (eC (.none))))
def f_overdrawn_in : Fn := runDef [false] 3 b_overdrawn_in
def b_calm_change (cM : Nat → Addr) : DL.Env → Out :=
  sThen (sSet 4 (eMakeP (cM 3) 5 (f_Step_init cM) (avD (eVar 0) (avD (eVar 1) (avD (eVar 2) (avD (eVar 3) (avNil)))))))
  (sThen (sSet 5 (mLst (aNil)))
  (sThen (sFor (itB bRange1 (aCons (eB bLen (aCons (eVar 2) (aNil))) (aNil))) (gN 6) (sThen (sSet 7 (mD (e2 dIx (eFrz (mKeep (eMethP (cM 3) 4 "options" 2 (f_Step_options cM) (avD (eVar 6) (avNil))))) (eC (.int 0)))))
    (sThen (sDrop (mKeep (eMethP (cM 3) 4 "take" 4 (f_Step_take cM) (avD (eVar 6) (avD (eVar 7) (avD (eC (.int 1)) (avNil)))))))
    (sDrop (mD (eMt 5 mApp (aCons (eVar 7) (aNil))))))))
  (sRet (mD (eTupO 5)))))
def f_calm_change (cM : Nat → Addr) : Fn := runDef [false, false, false, false] 8 (b_calm_change cM)
def b_calm_history (cM : Nat → Addr) : DL.Env → Out :=
  sThen (sDrop (eCall 2 f_check_series (avD (eVar 0) (avD (eC (.int 10)) (avNil)))))
  (sThen (sIf (tb1 (e2 dIsNot (eFrz (eCall 1 f_overdrawn_in (avD (eVar 0) (avNil)))) (eC (.none)))) (sRet (mD (eC (.none)))) (sNx))
  (sThen (sSet 1 (mLst (aCons (eFrz (eCall 1 f_sorted_assignment (avD (e2 dIx (eVar 0) (eC (.int 0))) (avNil)))) (aNil))))
  (sThen (sFor (itSeq (eFrz (eCall 1 f_steps_of (avD (eVar 0) (avNil))))) (gT 2 (gsC (gN 2) (gsC (gN 3) (gsN)))) (sThen (sSet 4 (mD (eFrz (mLend2 (mComp (itSeq (eFrz (eCall 1 f_changes_in (avD (eVar 1) (avNil))))) (gN 5) (tYesD) (e2 dEq (eVar 5) (eC (.int 0))) [5])))))
    (sDrop (mD (eMt 1 mApp (aCons (eFrz (eCall 4 (f_calm_change cM) (avD (eVar 2) (avD (eVar 3) (avD (eIxO 1 (e1 dNeg (eC (.int 1)))) (avD (eVar 4) (avNil))))))) (aNil)))))))
  (sRet (mD (eTupO 1))))))
def f_calm_history (cM : Nat → Addr) : Fn := runDef [false] 6 (b_calm_history cM)
def b__law_small_series : DL.Env → Out :=
  sThen (sSet 1 (mD (e2 dAdd (eC (.int 2)) (eFrz (eCall 2 f__law_next (avS 0 (avD (eC (.int 3)) (avNil))))))))
  (sThen (sAsg (e2 dIx (eLst (aCons (eTup (aCons (eC (.int 2)) (aCons (eC (.int 6)) (aNil)))) (aCons (eTup (aCons (eC (.int 3)) (aCons (eC (.int 4)) (aNil)))) (aCons (eTup (aCons (eC (.int 3)) (aCons (eC (.int 3)) (aNil)))) (aCons (eTup (aCons (eC (.int 4)) (aCons (eC (.int 3)) (aNil)))) (aCons (eTup (aCons (eC (.int 2)) (aCons (eC (.int 5)) (aNil)))) (aCons (eTup (aCons (eC (.int 1)) (aCons (eC (.int 6)) (aNil)))) (aCons (eTup (aCons (eC (.int 4)) (aCons (eC (.int 2)) (aNil)))) (aCons (eTup (aCons (eC (.int 0)) (aCons (eC (.int 3)) (aNil)))) (aNil)))))))))) (eFrz (eCall 2 f__law_next (avS 0 (avD (eC (.int 8)) (avNil)))))) (gT 2 (gsC (gN 2) (gsC (gN 3) (gsN)))))
  (sRet (mD (eFrz (eCall 4 f__law_series (avS 0 (avD (eVar 1) (avD (eVar 2) (avD (e2 dAdd (eC (.int 1)) (eFrz (eCall 2 f__law_next (avS 0 (avD (eVar 3) (avNil)))))) (avNil))))))))))
def f__law_small_series : Fn := runDef [true] 4 b__law_small_series
def b_overdrawn : DL.Env → Out :=
  sThen (sDrop (eCall 2 f_check_series (avD (eVar 0) (avD (eC (.int 10)) (avNil)))))
  (sRet (mD (eFrz (eCall 1 f_overdrawn_in (avD (eVar 0) (avNil))))))
def f_overdrawn : Fn := runDef [false] 1 b_overdrawn
def b__law_changes : DL.Env → Out :=
  sThen (sSet 1 (mLst (aNil)))
  (sThen (sFor (itB bRange1 (aCons (eB bLen (aCons (e2 dIx (eVar 0) (eC (.int 0))) (aNil))) (aNil))) (gN 2) (sDrop (mD (eMt 1 mApp (aCons (eB bLen (aCons (eComp (itB bRange1 (aCons (e2 dSub (eB bLen (aCons (eVar 0) (aNil))) (eC (.int 1))) (aNil))) (gN 3) (tb1 (e2 dNe (e2 dIx (e2 dIx (eVar 0) (eVar 3)) (eVar 2)) (e2 dIx (e2 dIx (eVar 0) (e2 dAdd (eVar 3) (eC (.int 1)))) (eVar 2)))) (eVar 3) [3]) (aNil))) (aNil))))))
  (sRet (mD (eTupO 1))))
def f__law_changes : Fn := runDef [false] 4 b__law_changes
end DCqc
namespace Lk48
open PySem DL
abbrev b_is_whole := DCom.b_is_whole
abbrev f_is_whole := DCom.f_is_whole
abbrev b_steps_of := DCqc.b_steps_of
abbrev f_steps_of := DCqc.f_steps_of
abbrev b_sorted_assignment := DCqc.b_sorted_assignment
abbrev f_sorted_assignment := DCqc.f_sorted_assignment
abbrev b_changes_in := DCqc.b_changes_in
abbrev f_changes_in := DCqc.f_changes_in
abbrev b_Step_init := DCqc.b_Step_init
abbrev f_Step_init := DCqc.f_Step_init
abbrev b_Step_options := DCqc.b_Step_options
abbrev f_Step_options := DCqc.f_Step_options
abbrev b_Step_take := DCqc.b_Step_take
abbrev f_Step_take := DCqc.f_Step_take
abbrev b__law_stream := DCom.b__law_stream
abbrev f__law_stream := DCom.f__law_stream
abbrev b__law_next := DCom.b__law_next
abbrev f__law_next := DCom.f__law_next
abbrev b__law_is_integer := DCom.b__law_is_integer
abbrev f__law_is_integer := DCom.f__law_is_integer
abbrev b__law_sorted := DCos.b__law_sorted
abbrev f__law_sorted := DCos.f__law_sorted
abbrev b__law_assignments := DCon.b__law_assignments
abbrev f__law_assignments := DCon.f__law_assignments
abbrev b__law_transfer := DCos.b__law_transfer
abbrev f__law_transfer := DCos.f__law_transfer
abbrev b__law_churn := DCoo.b__law_churn
abbrev f__law_churn := DCoo.f__law_churn
abbrev b__law_changes := DCqc.b__law_changes
abbrev f__law_changes := DCqc.f__law_changes
abbrev b_is_between := DCom.b_is_between
abbrev f_is_between := DCom.f_is_between
abbrev b_is_allocation := DCom.b_is_allocation
abbrev f_is_allocation := DCom.f_is_allocation
abbrev b_decreases_of := DCqc.b_decreases_of
abbrev f_decreases_of := DCqc.f_decreases_of
abbrev b_calm_change := DCqc.b_calm_change
abbrev f_calm_change := DCqc.f_calm_change
abbrev b__law_equal := DCom.b__law_equal
abbrev r__law_equal := DCom.r__law_equal
abbrev f__law_equal := DCom.f__law_equal
abbrev b__law_allocation := DCom.b__law_allocation
abbrev f__law_allocation := DCom.f__law_allocation
abbrev b__law_near := DCon.b__law_near
abbrev f__law_near := DCon.f__law_near
abbrev b_is_series := DCos.b_is_series
abbrev f_is_series := DCos.f_is_series
abbrev b_overdrawn_in := DCqc.b_overdrawn_in
abbrev f_overdrawn_in := DCqc.f_overdrawn_in
abbrev b__law_series := DCon.b__law_series
abbrev f__law_series := DCon.f__law_series
abbrev b_check_series := DCos.b_check_series
abbrev f_check_series := DCos.f_check_series
abbrev b__law_small_series := DCqc.b__law_small_series
abbrev f__law_small_series := DCqc.f__law_small_series
abbrev b_overdrawn := DCqc.b_overdrawn
abbrev f_overdrawn := DCqc.f_overdrawn
abbrev b_calm_history := DCqc.b_calm_history
abbrev f_calm_history := DCqc.f_calm_history
def b_law (cM : Nat → Addr) : DL.Env → Out :=
  sThen (sSet 1 (eCall 1 f__law_stream (avS 0 (avNil))))
  (sThen (sSet 2 (mD (eFrz (eCall 1 f__law_small_series (avS 1 (avNil))))))
  (sThen (sSet 3 (mD (eLst (aCons (eTup (aCons (eFrz (eCall 1 f__law_sorted (avD (e2 dIx (eVar 2) (eC (.int 0))) (avNil)))) (aNil))) (aNil)))))
  (sThen (sFor (itB bRange1 (aCons (e2 dSub (eB bLen (aCons (eVar 2) (aNil))) (eC (.int 1))) (aNil))) (gN 4) (sThen (sSet 6 (mD (eFrz (eCall 2 f__law_transfer (avD (e2 dIx (eVar 2) (eVar 4)) (avD (e2 dIx (eVar 2) (e2 dAdd (eVar 4) (eC (.int 1)))) (avNil)))))))
    (sThen (sSet 7 (mD (eFrz (eCall 1 f__law_assignments (avD (e2 dIx (eVar 2) (e2 dAdd (eVar 4) (eC (.int 1)))) (avNil))))))
    (sThen (sSet 8 (mLst (aNil)))
    (sThen (sFor (itSeq (eVar 3)) (gN 9) (sFor (itSeq (eVar 7)) (gN 10) (sIf (tAndD (tb1 (e2 dEq (eFrz (eCall 2 f__law_churn (avD (e2 dIx (eVar 9) (e1 dNeg (eC (.int 1)))) (avD (eVar 10) (avNil))))) (eVar 6))) (tb1 (e2 dLt (eB bMaxT (aCons (e2 dAdd (eFrz (eCall 1 f__law_changes (avD (e2 dAdd (eVar 9) (eTup (aCons (eVar 10) (aNil)))) (avNil)))) (eTup (aCons (eC (.int 0)) (aNil)))) (aNil))) (eC (.int 2))))) (sDrop (mD (eMt 8 mApp (aCons (e2 dAdd (eVar 9) (eTup (aCons (eVar 10) (aNil)))) (aNil))))) (sNx))))
    (sSet 3 (mD (eVarF 8))))))))
  (sThen (sSet 5 (mD (eFrz (eCall 1 (f_calm_history cM) (avD (eVar 2) (avNil))))))
  (sThen (sSet 6 (mD (eC (.none))))
  (sThen (sIf (tt1 (eVar 3)) (sSet 6 (mD (eB bMinN (aCons (eVar 3) (aNil))))) (sNx))
  (sRet (mD (eAnd (eFrz (eCall 2 f__law_equal (avD (eVar 5) (avD (eVar 6) (avNil))))) (e2 dEq (e2 dIs (eVar 5) (eC (.none))) (e2 dIsNot (eFrz (eCall 1 f_overdrawn (avD (eVar 2) (avNil)))) (eC (.none)))))))))))))
def f_law (cM : Nat → Addr) : Fn := runDef [true] 11 (b_law cM)
end Lk48
namespace DCom
open PySem DL
structure Strm where
  ns : List Int
  c : Nat
  k : Nat
def Strm.m (s : Strm) : M := .l [.list (s.ns.map .int), .int s.c, .int s.k]
theorem stream_e (ns : List Int) : f__law_stream [.scr ns] = .rt (Strm.m ⟨ns, 0, 0⟩) [some (.scr ns)] := by
  simp [f__law_stream, b__law_stream, Strm.m]
abbrev nxA : DL.Env → Out := sIf (tb1 (e2 dLt (eVar 4) (e2 dPow (eC (.int 10)) (eC (.int 18))))) (sThen (sSet 4 (mD (e2 dMod (eB bInt (aCons (e2 dAdd (e2 dAdd (e2 dMul (eVar 4) (eC (.int 48271))) (e2 dMul (eVar 3) (eC (.int 69621)))) (eC (.int 11))) (aNil))) (eC (.int 2147483647)))))
      (sSet 4 (mD (e2 dAdd (e2 dMul (e2 dMod (eB bInt (aCons (e2 dAdd (e2 dMul (eVar 4) (eC (.int 16807))) (eC (.int 13))) (aNil))) (eC (.int 2147483647))) (eC (.int 65537))) (eVar 4))))) (sNx)
abbrev nxB : DL.Env → Out := sThen (sSetItem 0 (eVar 4) (eC (.int 1))) (sSetItem 0 (e2 dAdd (eVar 3) (eC (.int 1))) (eC (.int 2)))
abbrev nxC : DL.Env → Out := sThen (sSet 2 (mD (e2 dMod (eB bInt (aCons (eIxO 0 (eC (.int 1))) (aNil))) (eVar 1))))
  (sThen (sSetItem 0 (e2 dDiv (eIxO 0 (eC (.int 1))) (eVar 1)) (eC (.int 1)))
  (sRet (mD (eVar 2))))
theorem nxA_e (a b c : Option M) (k cell : Int) (hcell : 0 ≤ cell) : ∃ c' : Nat, nxA [a, b, c, some (.d (.int k)), some (.d (.int cell))] = .nx [a, b, c, some (.d (.int k)), some (.d (.int c'))] := by
  by_cases h18 : cell < 1000000000000000000
  · have h1 := Int.emod_nonneg (cell * 48271 + k * 69621 + 11) (show (2147483647 : Int) ≠ 0 by omega)
    have h2 := Int.emod_nonneg ((cell * 48271 + k * 69621 + 11) % 2147483647 * 16807 + 13) (show (2147483647 : Int) ≠ 0 by omega)
    have g1 : ∀ i : Int, okM i 48271 = true := fun i => okM_lit _ _ (by omega) (by omega)
    have g2 : ∀ i : Int, okM i 69621 = true := fun i => okM_lit _ _ (by omega) (by omega)
    have g3 : ∀ i : Int, okM i 16807 = true := fun i => okM_lit _ _ (by omega) (by omega)
    have g4 : ∀ i : Int, okM i 65537 = true := fun i => okM_lit _ _ (by omega) (by omega)
    have g5 : (0 : Int) < 2147483647 := by omega
    generalize hx : cell * 48271 + k * 69621 + 11 = x at h1 h2
    generalize hy : x % 2147483647 = y at h1 h2
    generalize hz : (y * 16807 + 13) % 2147483647 = z at h2
    refine ⟨(z * 65537 + y).toNat, ?_⟩
    have e : ((z * 65537 + y).toNat : Int) = z * 65537 + y := Int.toNat_of_nonneg (by omega)
    rw [e]
    simp only [nxA, sIf_eq, sE_eq, tb1_eq, e2_eq, eVar_eq, slotD_0, slotD_s, lift_some, Rs.bind_ok, eC_eq, dPow_10_18, dLt_ii, asB_b, to_ok, h18, decide_true, if_true, sThen_eq, sSet_eq, mD_eq, eB_eq, aCons_eq, aNil_eq, dMul_ii, g1, g2, g3, g4, dAdd_ii, bInt_i, dMod_ii, g5, hx, hy, hz, thn_nx, List.set_cons_succ, List.set_cons_zero]
  · refine ⟨cell.toNat, ?_⟩
    have e : (cell.toNat : Int) = cell := Int.toNat_of_nonneg hcell
    rw [e]
    simp only [nxA, sIf_eq, sE_eq, tb1_eq, e2_eq, eVar_eq, slotD_0, slotD_s, lift_some, Rs.bind_ok, eC_eq, dPow_10_18, dLt_ii, asB_b, to_ok, h18, decide_false, Bool.false_eq_true, if_false, sNx_eq]
theorem nxB_e (L : PyData) (c k k' : Int) (b a : Option M) (c' : Int) : nxB [some (.l [L, .int c, .int k]), b, a, some (.d (.int k')), some (.d (.int c'))] = .nx [some (.l [L, .int c', .int (k' + 1)]), b, a, some (.d (.int k')), some (.d (.int c'))] := by
  simp [nxB, L2.ixN]
theorem nxC_e (L : PyData) (c k m : Int) (b d : Option M) (hm : 0 < m) (hm2 : m < 1073741824) : (nxC [some (.l [L, .int c, .int k]), some (.d (.int m)), none, b, d]).fin [true, false] = .rt (.d (.int (c % m))) [some (.l [L, .int (c / m), .int k]), none] := by
  simp [nxC, L2.ixN, hm, hm2]
def nxZ : DL.Env → Out := sThen nxA nxB
theorem unf : f__law_next = runDef [true, false] 5 (sThen (sIf (tb1 (e2 dEq (eIxO 0 (eC (.int 1))) (eC (.int 0)))) (sThen (sSet 3 (mD (eIxO 0 (eC (.int 2)))))
    (sThen (sSet 4 (mD (e2 dAdd (eC (.int 7)) (eVar 3))))
    (sThen (sIf (tb1 (e2 dLt (eVar 3) (eB bLen (aCons (eIxO 0 (eC (.int 0))) (aNil))))) (sSet 4 (mD (eB bAbs (aCons (e2 dIx (eIxO 0 (eC (.int 0))) (eVar 3)) (aNil))))) (sNx))
    nxZ))) sNx) nxC) := rfl
theorem nxZ_e (a b : Option M) (L : PyData) (c k cell : Int) (hcell : 0 ≤ cell) : ∃ c' : Nat, nxZ [some (M.l [L, .int c, .int k]), b, a, some (.d (.int k)), some (.d (.int cell))] =
      .nx [some (M.l [L, .int c', .int (k + 1)]), b, a, some (.d (.int k)), some (.d (.int c'))] := by
  obtain ⟨c', e⟩ := nxA_e (some (M.l [L, .int c, .int k])) b a k cell hcell
  exact ⟨c', by rw [nxZ, sThen_eq, e, thn_nx, nxB_e]⟩
theorem nxC_f (ns : List Int) (m : Int) (hm : 0 < m) (hm2 : m < 1073741824) (c' k' : Nat) (e3 e4 : Option M) : ∃ d s', Out.fin [true, false] (nxC [some (M.l [PyData.list (ns.map .int), .int c', .int k']), some (.d (.int m)), none, e3, e4]) = .rt (.d (.int d)) [some (Strm.m s'), none] ∧ 0 ≤ d ∧ d < m := by
  refine ⟨c' % m, ⟨ns, (c' / m).toNat, k'⟩, ?_, Int.emod_nonneg _ (by omega), Int.emod_lt_of_pos _ hm⟩
  have hd : ((c' / m : Int).toNat : Int) = c' / m := Int.toNat_of_nonneg (Int.ediv_nonneg (by omega) (by omega))
  rw [nxC_e _ _ _ _ _ _ hm hm2]
  simp only [Strm.m, hd]
theorem next_ex (s : Strm) (m : Int) (hm : 0 < m) (hm2 : m < 1073741824) : ∃ d s', f__law_next [s.m, .d (.int m)] = .rt (.d (.int d)) [some (Strm.m s'), none] ∧ 0 ≤ d ∧ d < m := by
  obtain ⟨ns, c, k⟩ := s
  have fin := nxC_f ns m hm hm2
  rw [unf]
  have key := fun cell h => nxZ_e none (some (.d (.int m))) (PyData.list (ns.map .int)) c k cell h
  generalize nxZ = Z at key ⊢
  generalize nxC = C at fin ⊢
  by_cases hc : (c : Int) = 0
  · by_cases hk : (k : Int) < (ns.length : Int)
    · have hk' : k < ns.length := by omega
      obtain ⟨c', e⟩ := key (if ns[k] < 0 then -ns[k] else ns[k]) (by split <;> omega)
      obtain ⟨d, s', e2, h⟩ := fin c' (k + 1) (some (.d (.int k))) (some (.d (.int c')))
      refine ⟨d, s', ?_, h⟩
      rw [← e2]
      simp only [dlall, Strm.m, hc, hk, List.length_map, beq_self_eq_true, atI_nat, List.getElem?_map, List.getElem?_eq_getElem hk'] at e ⊢
      rw [e]
      rfl
    · obtain ⟨c', e⟩ := key (7 + k) (by omega)
      obtain ⟨d, s', e2, h⟩ := fin c' (k + 1) (some (.d (.int k))) (some (.d (.int c')))
      refine ⟨d, s', ?_, h⟩
      rw [← e2]
      simp only [dlall, Strm.m, hc, hk, List.length_map, beq_self_eq_true] at e ⊢
      rw [e]
      rfl
  · obtain ⟨d, s', e2, h⟩ := fin c k none none
    refine ⟨d, s', ?_, h⟩
    rw [← e2]
    have hc' : ((c : Int) == 0) = false := by simpa using hc
    simp only [dlall, Strm.m, hc']
end DCom
namespace DCom
open PySem DL
theorem is_whole_e (x : PyData) : f_is_whole [.d x] = .rt (.d (.bool (whole x))) [none] := by
  cases x <;> rfl
theorem isTup (x : PyData) : isI .tup x = match x with | .tuple _ => true | _ => false := by cases x <;> rfl
theorem is_between_e (x : PyData) (a b : Int) : f_is_between [.d x, .d (.int a), .d (.int b)] = .rt (.d (.bool (btw a b x))) [none, none, none] := by
  simp only [dlall, f_is_between, b_is_between, is_whole_e]
  cases x with
  | int i =>
    simp only [dlall, whole_i, btw]
    by_cases h : a ≤ i <;> simp [h]
  | _ => simp [whole, btw]
def IsAll (x : PyData) (v n : Int) : Prop := ∃ ns : List Int, x = .tuple (ns.map .int) ∧ (ns.length : Int) = v ∧ (∀ i ∈ ns, 0 ≤ i) ∧ ns.sum = n
def shr : PyData → Bool
  | .int i => decide (0 ≤ i)
  | _ => false
open Classical in
theorem is_allocation_e (x : PyData) (v n : Int) : f_is_allocation [.d x, .d (.int v), .d (.int n)] = .rt (.d (.bool (decide (IsAll x v n)))) [none, none, none] := by
  cases x with
  | tuple xs =>
    have hc : compGo (gN 3) tYesD (eAnd (eFrz (eCall 1 f_is_whole (avD (eVar 3) (avNil)))) (e2 dGe (eVar 3) (eC (.int 0)))) [3] xs [] [some (.d (.tuple xs)), some (.d (.int v)), some (.d (.int n)), none] = .ok ([] ++ xs.map fun x => .bool (shr x)) [some (.d (.tuple xs)), some (.d (.int v)), some (.d (.int n)), none] := by
      refine compGo_id (fun x => .bool (shr x)) xs [] fun x _ => ⟨[some (.d (.tuple xs)), some (.d (.int v)), some (.d (.int n)), some (.d x)], ?_, ?_, ?_⟩
      · simp only [dlall]
      · simp only [dlall, is_whole_e]
        cases x <;> simp [whole, shr]
      · simp only [dlall]
    have hm : (xs.map fun x => PyData.bool (shr x)) = (xs.map shr).map .bool := by rw [List.map_map]; rfl
    by_cases hl : (xs.length : Int) = v
    · have hl' : (!((xs.length : Int) == v)) = false := by simp [hl]
      simp only [dlall, f_is_allocation, b_is_allocation, hl', hc, hm, thn_ite, to_ite, fin_ite]
      by_cases ha : ((xs.map shr).all id) = true
      · have hw : ∀ x ∈ xs, whole x = true := fun x hx => by
          have := List.all_eq_true.1 ha (shr x) (List.mem_map_of_mem hx)
          cases x <;> first | rfl | cases this
        obtain ⟨ns, rfl⟩ := ints_of_whole xs hw
        have h0 : ∀ i ∈ ns, 0 ≤ i := fun i hi => by
          have := List.all_eq_true.1 ha (shr (.int i)) (List.mem_map_of_mem (List.mem_map_of_mem hi))
          simpa [shr] using this
        have key : (ns.sum == n) = decide (IsAll (.tuple (ns.map .int)) v n) := by
          apply Bool.eq_iff_iff.2
          rw [decide_eq_true_eq, beq_iff_eq]
          refine ⟨fun h => ⟨ns, rfl, by simpa using hl, h0, h⟩, fun ⟨ms, h1, _, _, h4⟩ => ?_⟩
          have := map_int_inj (PyData.tuple.inj h1)
          rw [this]; exact h4
        simp only [dlall, ha, bSum_t, key]
      · have key : decide (IsAll (.tuple xs) v n) = false := by
          rw [decide_eq_false_iff_not]
          rintro ⟨ms, h1, _, h3, _⟩
          apply ha
          rw [PyData.tuple.inj h1]
          simp only [List.all_map, List.all_eq_true]
          intro i hi
          simpa [shr] using h3 i hi
        have ha' : ((xs.map shr).all id) = false := by simpa using ha
        simp only [dlall, ha', key]
    · have hl' : (!((xs.length : Int) == v)) = true := by simp [hl]
      have key : decide (IsAll (.tuple xs) v n) = false := by
        rw [decide_eq_false_iff_not]
        rintro ⟨ms, h1, h2, _⟩
        apply hl
        rw [PyData.tuple.inj h1, ← h2]
        simp
      simp only [dlall, f_is_allocation, b_is_allocation, hl', key]
  | _ =>
    rw [decide_eq_false (by rintro ⟨ms, h1, _⟩; cases h1)]
    simp only [dlall, f_is_allocation, b_is_allocation, isTup]
end DCom
namespace DCom
open PySem DL
theorem sum_set : ∀ (al : List Int) (k : Nat) (h : k < al.length), (al.set k (al[k] + 1)).sum = al.sum + 1
  | [], _, h => by cases h
  | x :: xs, 0, _ => by simp; omega
  | x :: xs, k + 1, h => by
    have := sum_set xs k (by simpa using h)
    simp
    omega
theorem allocation_ex (s : Strm) (v n : Int) (hv : 0 < v) (hv2 : v ≤ 16777216) (hn : 0 ≤ n) (hn2 : n ≤ 16777216) :
    ∃ (al : List Int) (s' : Strm), f__law_allocation [s.m, .d (.int v), .d (.int n)] = .rt (.d (.tuple (al.map .int))) [some s'.m, none, none] ∧ (al.length : Int) = v ∧ (∀ i ∈ al, 0 ≤ i) ∧ al.sum = n := by
  have hr : n ≤ 16777216 ∧ -(2 ^ 62) ≤ n := by constructor <;> omega
  have hr2 : v ≤ 16777216 ∧ -(2 ^ 62) ≤ v := by constructor <;> omega
  have h0 := compGo_id (g := gN 5) (te := eC (.int 0)) (vs := [5]) (e := [some s.m, some (.d (.int v)), some (.d (.int n)), none, none, none]) (fun _ => .int 0) (rangeD 0 v.toNat) [] (fun x _ => ⟨[some s.m, some (.d (.int v)), some (.d (.int n)), none, none, some (.d x)], rfl, rfl, rfl⟩)
  have hz : (rangeD 0 v.toNat).map (fun _ => PyData.int 0) = (List.replicate v.toNat (0 : Int)).map .int := by
    rw [List.map_const', rangeD_len, List.map_replicate]
  obtain ⟨e', h1, al, s', o4, o5, rfl, h3, h4, h5⟩ := forGo_rel (g := gN 4) (body := sThen (sSet 5 (mD (eFrz (eCall 2 f__law_next (avS 0 (avD (eVar 1) (avNil)))))))
    (sSetItem 3 (e2 dAdd (eIxO 3 (eVar 5)) (eC (.int 1))) (eVar 5)))
    (fun xs e => ∃ (al : List Int) (s : Strm) (o4 o5 : Option M), e = [some s.m, some (.d (.int v)), some (.d (.int n)), some (.l (al.map .int)), o4, o5] ∧ (al.length : Int) = v ∧ (∀ i ∈ al, 0 ≤ i) ∧ al.sum + xs.length = n) (by
      rintro x xs e ⟨al, s, o4, o5, rfl, h1, h2, h3⟩
      obtain ⟨d, s', e1, h4, h5⟩ := next_ex s v hv (by omega)
      have hd : d.toNat < al.length := by omega
      refine ⟨[some s.m, some (.d (.int v)), some (.d (.int n)), some (.l (al.map .int)), some (.d x), o5], [some s'.m, some (.d (.int v)), some (.d (.int n)), some (.l ((al.set d.toNat (al[d.toNat] + 1)).map .int)), some (.d x), some (.d (.int d))], ?_, .inl ?_, al.set d.toNat (al[d.toNat] + 1), s', _, _, rfl, ?_, ?_, ?_⟩
      · simp only [dlall]
      · have hi := ixN_int al.length d h4 (by omega)
        simp only [dlall, e1, atI_int _ _ h4, List.getElem?_map, List.getElem?_eq_getElem hd, List.length_map, hi, List.map_set]
      · rw [List.length_set]; exact h1
      · intro i hi
        rcases List.mem_or_eq_of_mem_set hi with hi | hi
        · exact h2 i hi
        · have := h2 al[d.toNat] (List.getElem_mem hd)
          omega
      · rw [sum_set al _ hd]
        simp at h3
        omega) (rangeD 0 n.toNat) [some s.m, some (.d (.int v)), some (.d (.int n)), some (.l ((List.replicate v.toNat (0 : Int)).map .int)), none, none] ⟨List.replicate v.toNat 0, s, none, none, rfl, by simp; omega, by
      intro i hi
      rw [List.eq_of_mem_replicate hi]
      omega, by
      simp [rangeD_len]
      omega⟩
  refine ⟨al, s', ?_, h3, h4, by simpa using h5⟩
  simp only [dlall, f__law_allocation, b__law_allocation, hr, hr2, h0, hz, h1]
end DCom
namespace DCom
open PySem DL
theorem is_integer_e (x : PyData) : f__law_is_integer [.d x] = .rt (.d (.bool (whole x))) [none] := by
  cases x <;> rfl
theorem r_eq_succ (n : Nat) : r__law_equal (n + 1) = runDef [false, false] 3 (b__law_equal (r__law_equal n)) := rfl
theorem dIx_at {xs : List PyData} {i : Nat} (h : i < xs.length) : L2.atI xs (i : Int) = some xs[i] := by
  rw [atI_nat, List.getElem?_eq_getElem h]
theorem canL_get : ∀ {xs : List PyData}, PyData.canLayAll0 xs = true → ∀ x ∈ xs, x.canLay0 = true
  | y :: ys, h, x, hx => by
    rw [PyData.canLayAll0, Bool.and_eq_true] at h
    rcases List.mem_cons.1 hx with e | e
    · rw [e]; exact h.1
    · exact canL_get h.2 x e
theorem depL_get : ∀ {xs : List PyData} {k : Nat}, PyData.depthAll xs ≤ k → ∀ x ∈ xs, x.depth ≤ k
  | y :: ys, k, h, x, hx => by
    rw [PyData.depthAll] at h
    rcases List.mem_cons.1 hx with e | e
    · rw [e]; omega
    · exact depL_get (by omega) x e
/-- rows short enough for len and range -/
def short : Nat → PyData → Prop
  | 0, x => True
  | n + 1, .list xs => xs.length ≤ 16777216 ∧ ∀ x ∈ xs, short n x
  | n + 1, .tuple xs => xs.length ≤ 16777216 ∧ ∀ x ∈ xs, short n x
  | _, _ => True
theorem comp_same (F : Fn) (x : PyData) (xs : List PyData) (hx : ∀ i : Int, dIx x (.int i) = L2.atI xs i) (h : ∀ y ∈ xs, F [.d y, .d y] = .rt (.d (.bool true)) [none, none]) :
    compGo (gN 2) tYesD (eFrz (eCall 2 F (avD (e2 dIx (eVar 0) (eVar 2)) (avD (e2 dIx (eVar 1) (eVar 2)) (avNil))))) [2] (rangeD 0 xs.length) [] [some (.d x), some (.d x), none] = .ok ([] ++ (rangeD 0 xs.length).map fun _ => .bool true) [some (.d x), some (.d x), none] := by
  refine compGo_id (fun _ => .bool true) _ [] fun r hr => ⟨[some (.d x), some (.d x), some (.d r)], ?_, ?_, ?_⟩
  · simp only [dlall]
  · rw [rangeD_eq, List.mem_map] at hr
    obtain ⟨i, hi, rfl⟩ := hr
    rw [List.mem_range] at hi
    have := h xs[i] (List.getElem_mem hi)
    simp only [dlall, hx, dIx_at hi, this]
  · simp only [dlall]
theorem all_true {α : Type} (xs : List α) : bAll [.list (xs.map fun _ => .bool true)] = some (.bool true) := by
  rw [show (xs.map fun _ => PyData.bool true) = (xs.map fun _ => true).map .bool by rw [List.map_map]; rfl, bAll_l]
  simp
theorem equal_same : ∀ (n : Nat) (x : PyData), x.canLay0 = true → x.depth ≤ 60 → x.depth < n → short n x → r__law_equal n [.d x, .d x] = .rt (.d (.bool true)) [none, none]
  | 0, _, _, _, h, _ => absurd h (by omega)
  | n + 1, x, hl, h60, hd, hs => by
    rw [r_eq_succ]
    have sh : SeqAt.shaped x = true := by
      unfold SeqAt.shaped
      rw [hl, Bool.true_and, decide_eq_true_eq]
      omega
    cases x with
    | none => simp only [dlall, b__law_equal]
    | bool b =>
      have e : dEq (.bool b) (.bool b) = some (.bool true) := by simp
      simp only [dlall, b__law_equal, isNon_b] at e ⊢
      try (cases b <;> simp [b__law_equal])
    | int i => simp [b__law_equal, is_integer_e]
    | str s =>
      have e : dEq (.str s) (.str s) = some (.bool true) := by
        unfold dEq
        rw [if_pos ⟨sh, sh⟩, PyData.eqv]
        simp
      simp [b__law_equal, e]
    | list xs =>
      rw [PyData.canLay0] at hl
      rw [PyData.depth] at hd h60
      have hxs := canL_get hl
      have hdx := depL_get (Nat.le_refl (PyData.depthAll xs))
      have hc := comp_same (r__law_equal n) (.list xs) xs (fun _ => rfl) fun y hy => equal_same n y (hxs y hy) (by have := hdx y hy; omega) (by have := hdx y hy; omega) (hs.2 y hy)
      have hr : (xs.length : Int) ≤ 16777216 ∧ -(2 ^ 62) ≤ (xs.length : Int) := by have := hs.1; constructor <;> omega
      have hb : (!((xs.length : Int) == (xs.length : Int))) = false := by simp
      simp only [dlall, b__law_equal, hb, hr, Int.toNat_natCast, hc, all_true]
    | tuple xs =>
      rw [PyData.canLay0] at hl
      rw [PyData.depth] at hd h60
      have hxs := canL_get hl
      have hdx := depL_get (Nat.le_refl (PyData.depthAll xs))
      have hc := comp_same (r__law_equal n) (.tuple xs) xs (fun _ => rfl) fun y hy => equal_same n y (hxs y hy) (by have := hdx y hy; omega) (by have := hdx y hy; omega) (hs.2 y hy)
      have hr : (xs.length : Int) ≤ 16777216 ∧ -(2 ^ 62) ≤ (xs.length : Int) := by have := hs.1; constructor <;> omega
      have hb : (!((xs.length : Int) == (xs.length : Int))) = false := by simp
      simp only [dlall, b__law_equal, hb, hr, Int.toNat_natCast, hc, all_true]
    | dict kvs => rw [PyData.canLay0] at hl; cases hl
def trf : List Int → List Int → Int
  | x :: xs, y :: ys => (if x - y > 0 then x - y else 0) + trf xs ys
  | _, _ => 0
theorem zip2_cons (x y : PyData) (xs ys) : zip2 (x :: xs) (y :: ys) = .tuple [x, y] :: zip2 xs ys := rfl
theorem trf_sum : ∀ ns ms : List Int, ((ns.zip ms).map fun p => if p.1 - p.2 > 0 then p.1 - p.2 else 0).sum = trf ns ms
  | [], ms => by simp [trf]
  | _ :: _, [] => by simp [trf]
  | x :: xs, y :: ys => by
    rw [List.zip_cons_cons, List.map_cons, List.sum_cons, trf_sum xs ys, trf]
/-- a good allocation -/
def Good (ns : List Int) : Prop := 1 ≤ ns.length ∧ ns.length ≤ 5 ∧ (∀ i ∈ ns, 0 ≤ i ∧ i ≤ 20) ∧ ns.sum ≤ 20
end DCom
namespace DCom
open PySem DL
def IsO (od : List Int) (n : Nat) : Prop := od.length = n ∧ od.Perm ((List.range n).map fun i : Nat => (i : Int))
theorem IsO.bnd {od : List Int} {n : Nat} (h : IsO od n) (i : Int) (hi : i ∈ od) : 0 ≤ i ∧ i < n := by
  rw [h.2.mem_iff] at hi
  simp at hi
  obtain ⟨a, h1, rfl⟩ := hi
  omega
theorem IsO.nd {od : List Int} {n : Nat} (h : IsO od n) : od.Nodup := by
  rw [h.2.nodup_iff]
  refine List.Pairwise.map _ (fun a b h => ?_) List.nodup_range
  omega
theorem nd_get {l : List Int} (h : l.Nodup) {i j : Nat} (hi : i < l.length) (hj : j < l.length) (e : l[i] = l[j]) : i = j := by
  induction l generalizing i j with
  | nil => cases hi
  | cons x xs ih =>
    rw [List.nodup_cons] at h
    cases i with
    | zero =>
      cases j with
      | zero => rfl
      | succ j =>
        have e : x = xs[j]'(by simpa using hj) := by simpa using e
        refine absurd ?_ h.1
        rw [e]
        exact List.getElem_mem _
    | succ i =>
      cases j with
      | zero =>
        have e : xs[i]'(by simpa using hi) = x := by simpa using e
        refine absurd ?_ h.1
        rw [← e]
        exact List.getElem_mem _
      | succ j => rw [ih h.2 (by simpa using hi) (by simpa using hj) e]
theorem IsO.back {od : List Int} {n v : Nat} (h : IsO od n) (hv : v < n) : od.idxOf (od[v]'(by rw [h.1]; exact hv)) = v := by
  have hv' : v < od.length := by rw [h.1]; exact hv
  have hm : od[v] ∈ od := List.getElem_mem hv'
  have h1 := (idx_first hm).1
  have h2 : od.idxOf od[v] < od.length := List.idxOf_lt_length_iff.2 hm
  rw [List.getElem?_eq_getElem h2] at h1
  exact nd_get h.nd h2 hv' (Option.some.inj h1)
theorem le_sum : ∀ (al : List Int), (∀ i ∈ al, 0 ≤ i) → (∀ i ∈ al, i ≤ al.sum) ∧ 0 ≤ al.sum
  | [], _ => ⟨fun _ h => (by cases h), by simp⟩
  | x :: xs, h => by
    have h0 := h x List.mem_cons_self
    obtain ⟨h1, h2⟩ := le_sum xs fun i hi => h i (List.mem_cons_of_mem _ hi)
    refine ⟨fun i hi => ?_, by simp; omega⟩
    rw [List.sum_cons]
    rcases List.mem_cons.1 hi with e | e
    · omega
    · have := h1 i e
      omega
theorem good_of {al : List Int} {v n : Int} (h1 : (al.length : Int) = v) (h2 : ∀ i ∈ al, 0 ≤ i) (h3 : al.sum = n) (hv : 1 ≤ v) (hv5 : v ≤ 5) (hn : n ≤ 20) : Good al := by
  refine ⟨by omega, by omega, fun i hi => ⟨h2 i hi, ?_⟩, by omega⟩
  have := (le_sum al h2).1 i hi
  omega
end DCom
namespace DCom
open PySem DL
def cnt (ns : List Int) (k : Nat) : List Int := (List.range k).map fun i : Nat => ((ns.count (i : Int) : Nat) : Int)
def chu : List Int → List Int → Int
  | x :: xs, y :: ys => (if x = y then 0 else 1) + chu xs ys
  | _, _ => 0
theorem chu_range : ∀ (a b : List Int), a.length = b.length → chu a b = ((List.range a.length).map fun i => if a.getD i 0 = b.getD i 0 then (0 : Int) else 1).sum
  | [], [], _ => rfl
  | [], _ :: _, h => by simp at h
  | _ :: _, [], h => by simp at h
  | x :: xs, y :: ys, h => by
    have ih := chu_range xs ys (by simpa using h)
    rw [chu, ih, List.length_cons, List.range_succ_eq_map, List.map_cons, List.sum_cons, List.map_map]
    rfl
def bk (od : List Int) : List Int := (List.range od.length).map fun i : Nat => ((od.idxOf (i : Int) : Nat) : Int)
end DCom
namespace DCom
open PySem DL
theorem sum_eq_iff (f g : Nat → Int) (n : Nat) (h : ∀ v, v < n → g v ≤ f v) : (((List.range n).map f).sum = ((List.range n).map g).sum ↔ ∀ v, v < n → f v = g v) ∧ ((List.range n).map g).sum ≤ ((List.range n).map f).sum := by
  induction n with
  | zero => exact ⟨⟨fun _ v hv => absurd hv (by omega), fun _ => rfl⟩, Int.le_refl _⟩
  | succ n ih =>
    obtain ⟨i1, i2⟩ := ih fun v hv => h v (by omega)
    have hn := h n (by omega)
    simp only [List.range_succ, List.map_append, List.sum_append, List.map_cons, List.map_nil, List.sum_cons, List.sum_nil]
    refine ⟨⟨fun e v hv => ?_, fun e => ?_⟩, by omega⟩
    · have q : ((List.range n).map f).sum = ((List.range n).map g).sum := by omega
      by_cases hv' : v = n
      · subst hv'; omega
      · exact i1.1 q v (by omega)
    · have q := i1.2 fun v hv => e v (by omega)
      have := e n (by omega)
      omega
end DCom
namespace DCom
open PySem DL
abbrev tp (row : List Int) : PyData := .tuple (row.map .int)
theorem addT (xs ys : List PyData) (h : xs.length + ys.length ≤ 16777216) : dAdd (.tuple xs) (.tuple ys) = some (.tuple (xs ++ ys)) := if_pos h
theorem addL (xs ys : List PyData) (h : xs.length + ys.length ≤ 16777216) : dAdd (.list xs) (.list ys) = some (.list (xs ++ ys)) := if_pos h
theorem fm_len {α β : Type} (f : α → List β) (c : Nat) (h : ∀ x, (f x).length ≤ c) : ∀ l : List α, (l.flatMap f).length ≤ c * l.length
  | [] => by simp
  | x :: l => by
    have := fm_len f c h l
    have := h x
    rw [List.flatMap_cons, List.length_append, List.length_cons, Nat.mul_succ]
    omega
theorem cntSum (a : List Int) (m : Nat) (h : ∀ i ∈ a, 0 ≤ i ∧ i < m) : (cnt a m).sum = a.length := by
  induction m generalizing a with
  | zero =>
    cases a with
    | nil => rfl
    | cons x xs => have := h x List.mem_cons_self; omega
  | succ m ih =>
    have hs : a.length = (a.filter fun x => x == (m : Int)).length + (a.filter fun x => !(x == (m : Int))).length := by
      induction a with
      | nil => rfl
      | cons x xs ih2 =>
        have := ih2 fun i hi => h i (List.mem_cons_of_mem _ hi)
        rw [List.filter_cons, List.filter_cons]
        by_cases hx : (x == (m : Int)) = true <;> simp [hx] <;> omega
    have h2 := ih (a.filter fun x => !(x == (m : Int))) fun i hi => by
      rw [List.mem_filter] at hi
      have := h i hi.1
      have h3 : i ≠ (m : Int) := by simpa using hi.2
      omega
    have h3 : cnt a m = cnt (a.filter fun x => !(x == (m : Int))) m := by
      rw [cnt, cnt]
      refine List.map_congr_left fun i hi => ?_
      rw [List.mem_range] at hi
      rw [List.count_filter (by simp; omega)]
    have h4 : cnt a (m + 1) = cnt a m ++ [((a.count (m : Int) : Nat) : Int)] := by
      rw [cnt, List.range_succ, List.map_append]
      rfl
    rw [h4, List.sum_append, h3, h2, List.count_eq_length_filter]
    simp
    omega
theorem cnt_len (a : List Int) (n : Nat) : (cnt a n).length = n := by simp [cnt]
def pos (x : Int) : Int := if x > 0 then x else 0
def less (c : Nat → Int) (w : Nat) : Nat → Int := fun v => if v = w then c v - 1 else c v
theorem sumGet (a : List Int) : a.sum = ((List.range a.length).map fun v : Nat => a.getD v 0).sum := by
  congr 1
  refine List.ext_getElem (by simp) fun v h3 h4 => ?_
  simp [h3]
theorem cnt_eq {b cl : List Int} {n : Nat} (h : cl.length = n) (hc : ∀ v, v < n → (b.count (v : Int) : Int) = cl.getD v 0) : cnt b n = cl := by
  refine List.ext_getElem (by rw [cnt_len, h]) fun v h1 h2 => ?_
  have := hc v (by omega)
  simp [cnt]
  simpa [h2] using this
end DCom
namespace DCom
open PySem DL
def med (x y z : Int) : Int := if x ≤ y then (if y ≤ z then y else if x ≤ z then z else x) else (if x ≤ z then x else if y ≤ z then z else y)
def meds : List Int → List Int → List Int → List Int
  | x :: xs, y :: ys, z :: zs => med x y z :: meds xs ys zs
  | _, _, _ => []
end DCom
namespace DCon
open PySem DL DCom
theorem sum_setx : ∀ (al : List Int) (k : Nat) (x : Int) (h : k < al.length), (al.set k x).sum = al.sum - al[k] + x
  | y :: ys, 0, x, _ => by simp; omega
  | y :: ys, k + 1, x, h => by
    have ih := sum_setx ys k x (by simpa using h)
    simp only [List.set_cons_succ, List.sum_cons, List.getElem_cons_succ, ih]
    omega
theorem app_e (xs : List PyData) (y : PyData) (h : xs.length < 16777216) : mApp xs [y] = some (.none, xs ++ [y]) := if_pos h
abbrev nearB : DL.Env → Out := sThen (sSet 4 (mD (eFrz (eCall 2 f__law_next (avS 0 (avD (eBO 2 bLen) (avNil)))))))
    (sThen (sSet 5 (mD (eFrz (eCall 2 f__law_next (avS 0 (avD (eBO 2 bLen) (avNil)))))))
    (sIf (tb1 (e2 dGt (eIxO 2 (eVar 4)) (eC (.int 0)))) (sThen (sSetItem 2 (e2 dSub (eIxO 2 (eVar 4)) (eC (.int 1))) (eVar 4))
      (sSetItem 2 (e2 dAdd (eIxO 2 (eVar 5)) (eC (.int 1))) (eVar 5))) (sNx)))
theorem near_ex (s : Strm) (a : List Int) (h0 : 1 ≤ a.length) (h1 : a.length ≤ 1000) (hn : ∀ i ∈ a, 0 ≤ i) : ∃ (al : List Int) (s' : Strm), f__law_near [s.m, .d (.tuple (a.map .int))] = .rt (.d (.tuple (al.map .int))) [some s'.m, none] ∧ al.length = a.length ∧ (∀ i ∈ al, 0 ≤ i) ∧ al.sum = a.sum := by
  obtain ⟨d, s1, e1, hd1, hd2⟩ := next_ex s 3 (by omega) (by omega)
  obtain ⟨e', h2, al, s', o3, o4, o5, rfl, h3, h4, h5⟩ := forGo_rel (g := gN 3) (body := nearB)
    (fun xs e => ∃ (al : List Int) (s : Strm) (o3 o4 o5 : Option M), e = [some s.m, some (.d (.tuple (a.map .int))), some (.l (al.map .int)), o3, o4, o5] ∧ al.length = a.length ∧ (∀ i ∈ al, 0 ≤ i) ∧ al.sum = a.sum) (by
      rintro x xs e ⟨al, s, o3, o4, o5, rfl, h1, h2, h3⟩
      obtain ⟨i, s1, e1, i1, i2⟩ := next_ex s al.length (by omega) (by omega)
      obtain ⟨j, s2, e2', j1, j2⟩ := next_ex s1 al.length (by omega) (by omega)
      have hi : i.toNat < al.length := by omega
      have hj : j.toNat < al.length := by omega
      have xi := ixN_int al.length i i1 (by omega)
      have xj := ixN_int al.length j j1 (by omega)
      by_cases hp : 0 < al[i.toNat]
      · have hj2 : j.toNat < (al.set i.toNat (al[i.toNat] - 1)).length := by rw [List.length_set]; exact hj
        have g : decide (0 < al[i.toNat]) = true := decide_eq_true hp
        refine ⟨[some s.m, some (.d (.tuple (a.map .int))), some (.l (al.map .int)), some (.d x), o4, o5], [some s2.m, some (.d (.tuple (a.map .int))), some (.l (((al.set i.toNat (al[i.toNat] - 1)).set j.toNat ((al.set i.toNat (al[i.toNat] - 1))[j.toNat] + 1)).map .int)), some (.d x), some (.d (.int i)), some (.d (.int j))], ?_, .inl ?_, (al.set i.toNat (al[i.toNat] - 1)).set j.toNat ((al.set i.toNat (al[i.toNat] - 1))[j.toNat] + 1), s2, _, _, _, rfl, ?_, ?_, ?_⟩
        · simp only [dlall]
        · have p : ((al.map PyData.int).set i.toNat (.int (al[i.toNat] - 1)))[j.toNat]? = some (.int ((al.set i.toNat (al[i.toNat] - 1))[j.toNat])) := by
            rw [show (al.map PyData.int).set i.toNat (.int (al[i.toNat] - 1)) = (al.set i.toNat (al[i.toNat] - 1)).map .int by rw [List.map_set], List.getElem?_map, List.getElem?_eq_getElem hj2]
            rfl
          simp only [dlall, List.length_map, e1, e2', atI_int _ _ i1, atI_int _ _ j1, List.getElem?_map, List.getElem?_eq_getElem hi, g, xi, p, List.length_set, xj, List.map_set]
        · rw [List.length_set, List.length_set]; exact h1
        · intro y hy
          rcases List.mem_or_eq_of_mem_set hy with hy | hy
          · rcases List.mem_or_eq_of_mem_set hy with hy | hy
            · exact h2 y hy
            · omega
          · have : 0 ≤ (al.set i.toNat (al[i.toNat] - 1))[j.toNat] := by
              rcases List.mem_or_eq_of_mem_set (List.getElem_mem hj2) with hz | hz
              · exact h2 _ hz
              · omega
            omega
        · rw [sum_setx _ _ _ hj2, sum_setx _ _ _ hi]
          omega
      · have g : decide (0 < al[i.toNat]) = false := decide_eq_false hp
        refine ⟨[some s.m, some (.d (.tuple (a.map .int))), some (.l (al.map .int)), some (.d x), o4, o5], [some s2.m, some (.d (.tuple (a.map .int))), some (.l (al.map .int)), some (.d x), some (.d (.int i)), some (.d (.int j))], ?_, .inl ?_, al, s2, _, _, _, rfl, h1, h2, h3⟩
        · simp only [dlall]
        · simp only [dlall, List.length_map, e1, e2', atI_int _ _ i1, List.getElem?_map, List.getElem?_eq_getElem hi, g]) (rangeD 0 d.toNat) [some s1.m, some (.d (.tuple (a.map .int))), some (.l (a.map .int)), none, none, none] ⟨a, s1, none, none, none, rfl, rfl, hn, rfl⟩
  have hr : (d ≤ 16777216 ∧ -(2 ^ 62) ≤ d) = True := by simp; omega
  refine ⟨al, s', ?_, h3, h4, h5⟩
  simp only [dlall, f__law_near, b__law_near, e1, hr, h2]
theorem add_t (xs ys : List PyData) (h : xs.length + ys.length ≤ 16777216) : dAdd (.tuple xs) (.tuple ys) = some (.tuple (xs ++ ys)) := if_pos h
def psums (f : Int → Int) : Int → List Int → List Int
  | _, [] => []
  | t, v :: vs => (t + f v) :: psums f (t + f v) vs
def bnd (a od : List Int) : List Int := psums (fun v => a.getD v.toNat 0) 0 od.dropLast
theorem zip2_map (xs ys : List Int) : zip2 (xs.map PyData.int) (ys.map .int) = (xs.zip ys).map fun q => .tuple [.int q.1, .int q.2] := by
  unfold zip2
  induction xs generalizing ys with
  | nil => simp
  | cons x xs ih =>
    cases ys with
    | nil => simp
    | cons y ys => simp only [List.map_cons, List.zipWith_cons_cons, List.zip_cons_cons, ih]
end DCon
namespace DCos
open PySem DL DCom
structure Al (a : List Int) (v n : Nat) : Prop where
  len : a.length = v
  nn : ∀ i ∈ a, 0 ≤ i
  sum : a.sum = n
def Ser (A : List (List Int)) (v n : Nat) : Prop := ∀ a ∈ A, Al a v n
theorem appS (xs : List PyData) (y : PyData) (h : xs.length < 16777216) : mApp xs [y] = some (.none, xs ++ [y]) := if_pos h
def aat (A : List (List Int)) (j : Nat) : List Int := A.getD j []
theorem at_aat (A : List (List Int)) (j : Nat) (h : j < A.length) : L2.atI (A.map tp) (j : Int) = some (tp (aat A j)) := by
  rw [atI_nat, List.getElem?_map, List.getElem?_eq_getElem h]
  unfold aat
  rw [List.getD_eq_getElem?_getD, List.getElem?_eq_getElem h]
  rfl
theorem aat_mem {A : List (List Int)} {j : Nat} (h : j < A.length) : aat A j ∈ A := by
  unfold aat
  rw [List.getD_eq_getElem?_getD, List.getElem?_eq_getElem h]
  exact List.getElem_mem h
theorem rowS (r : List Int) (j : Nat) (h : j < r.length) : L2.atI (r.map PyData.int) (j : Int) = some (.int (r.getD j 0)) := by simp [atI_nat, h]
variable {v n m : Nat} {A : List (List Int)}
theorem Al.good {a : List Int} (h : Al a v n) (h1 : 1 ≤ v) (h5 : v ≤ 5) (hn : n ≤ 20) : Good a := good_of (v := v) (n := n) (by rw [h.len]) h.nn h.sum (by omega) (by omega) (by omega)
abbrev seB : DL.Env → Out := sIf (tb1 (e2 dEq (eFrz (eCall 2 f__law_next (avS 0 (avD (eC (.int 2)) (avNil))))) (eC (.int 1)))) (sDrop (mD (eMt 4 mApp (aCons (eFrz (eCall 2 DCon.f__law_near (avS 0 (avD (eIxO 4 (eFrz (eCall 2 f__law_next (avS 0 (avD (eBO 4 bLen) (avNil)))))) (avNil))))) (aNil))))) (sDrop (mD (eMt 4 mApp (aCons (eFrz (eCall 3 f__law_allocation (avS 0 (avD (eVar 1) (avD (eVar 2) (avNil)))))) (aNil)))))
theorem se_step (s : Strm) (hv : 1 ≤ v) (hv5 : v ≤ 5) (hn : n ≤ 20) (A : List (List Int)) (hA : Ser A v n) (h1 : 1 ≤ A.length) (h2 : A.length ≤ 1000) (o3 o5 : Option M) : ∃ (a : List Int) (s' : Strm), Al a v n ∧
    seB [some s.m, some (.d (.int v)), some (.d (.int n)), o3, some (.l (A.map tp)), o5] = .nx [some s'.m, some (.d (.int v)), some (.d (.int n)), o3, some (.l ((A ++ [a]).map tp)), o5] := by
  obtain ⟨d, s2, e2', d1, d2⟩ := next_ex s 2 (by omega) (by omega)
  have ap := fun y => appS (A.map tp) y (by rw [List.length_map]; omega)
  have m1 : ∀ a, (A ++ [a]).map tp = A.map tp ++ [tp a] := fun a => by rw [List.map_append]; rfl
  by_cases hd : d = 1
  · subst hd
    obtain ⟨z, s3, e3, z1, z2⟩ := next_ex s2 (A.length : Int) (by omega) (by omega)
    obtain ⟨j, rfl⟩ := Int.eq_ofNat_of_zero_le z1
    have hj : j < A.length := by omega
    have a1 := at_aat A j hj
    have hm := hA _ (aat_mem hj)
    obtain ⟨b, s4, e4, b1, b2, b3⟩ := DCon.near_ex s3 (aat A j) (by rw [hm.len]; omega) (by rw [hm.len]; omega) hm.nn
    refine ⟨b, s4, ⟨by rw [b1, hm.len], b2, by rw [b3, hm.sum]⟩, ?_⟩
    rw [m1]
    simp only [dlall, seB, e2', beq_self_eq_true, List.length_map, e3, a1, e4, ap]
  · obtain ⟨b, s4, e4, b1, b2, b3⟩ := allocation_ex s2 v n (by omega) (by omega) (by omega) (by omega)
    have g : (d == 1) = false := by simpa using hd
    refine ⟨b, s4, ⟨by omega, b2, b3⟩, ?_⟩
    rw [m1]
    simp only [dlall, seB, e2', g, e4, ap]
theorem series_all (s : Strm) (hv : 1 ≤ v) (hv5 : v ≤ 5) (hn : n ≤ 20) (hm : 1 ≤ m) (hm2 : m ≤ 1000) : ∃ (A : List (List Int)) (s' : Strm), DCon.f__law_series [s.m, .d (.int v), .d (.int n), .d (.int m)] = .rt (.d (.tuple (A.map tp))) [some s'.m, none, none, none] ∧ A.length = m ∧ Ser A v n := by
  obtain ⟨b, s1, e1, b1, b2, b3⟩ := allocation_ex s v n (by omega) (by omega) (by omega) (by omega)
  have km : ((m : Int) - 1 ≤ 16777216 ∧ -(2 ^ 62) ≤ (m : Int) - 1) = True := by simp; omega
  have tm : ((m : Int) - 1).toNat = m - 1 := by omega
  obtain ⟨e', q, A, s2, o5, h1, h2, rfl⟩ := forGo_range (g := gN 5) (body := seB) (m - 1) (fun k e => ∃ (A : List (List Int)) (s' : Strm) (o5 : Option M), A.length = k + 1 ∧ Ser A v n ∧ e = [some s'.m, some (.d (.int v)), some (.d (.int n)), some (.d (.int m)), some (.l (A.map tp)), o5]) (by
    rintro k e hk ⟨A, s2, o5, h1, h2, rfl⟩
    obtain ⟨a, s3, ha, q⟩ := se_step s2 hv hv5 hn A h2 (by omega) (by omega) (some (.d (.int m))) (some (.d (.int k)))
    refine ⟨_, _, rfl, .inl q, A ++ [a], s3, _, by simp [h1], fun x hx => ?_, rfl⟩
    rcases List.mem_append.1 hx with hx | hx
    · exact h2 x hx
    · rw [List.mem_singleton] at hx
      rw [hx]; exact ha) [some s1.m, some (.d (.int v)), some (.d (.int n)), some (.d (.int m)), some (.l ([b].map tp)), none] ⟨[b], s1, none, rfl, fun x hx => by
        rw [List.mem_singleton] at hx
        rw [hx]; exact ⟨by omega, b2, b3⟩, rfl⟩
  refine ⟨A, s2, ?_, by omega, h2⟩
  simp only [List.map_cons, List.map_nil] at q
  simp only [dlall, DCon.f__law_series, DCon.b__law_series, e1, km, tm]
  rw [q]
  simp only [dlall]
open Classical in
theorem is_series_e (hA : Ser A v n) (hv : 1 ≤ v) (hv5 : v ≤ 5) (hn : n ≤ 20) (h1 : 1 ≤ A.length) (k : Nat) (hk : A.length ≤ k) : f_is_series [.d (.tuple (A.map tp)), .d (.int k)] = .rt (.d (.bool true)) [none, none] := by
  have a0 := at_aat A 0 h1
  rw [show ((0 : Nat) : Int) = 0 from rfl] at a0
  have h0 := hA _ (aat_mem h1)
  generalize aat A 0 = b at a0 h0
  have gb := h0.good hv hv5 hn
  have d1 : decide ((1 : Int) ≤ (A.length : Int)) = true := decide_eq_true (by omega)
  have d2 : decide ((A.length : Int) ≤ (k : Int)) = true := decide_eq_true (by omega)
  have d3 : decide ((1 : Int) ≤ (v : Int)) = true := decide_eq_true (by omega)
  have d4 : decide ((v : Int) ≤ 5) = true := decide_eq_true (by omega)
  have d5 : decide ((n : Int) ≤ 20) = true := decide_eq_true (by omega)
  have hc := compGo_map (g := gN 3) (tt := tYesD) (te := eFrz (eCall 3 f_is_between (avD (eVar 3) (avD (eC (.int 0)) (avD (eC (.int 20)) (avNil)))))) (vs := [3]) (emb := PyData.int) (e := [some (.d (.tuple (A.map tp))), some (.d (.int k)), none, none]) (fun _ => true) (fun _ => .bool true) b [] (fun i hi => by
    have q : btw 0 20 (.int i) = true := by
      have := gb.2.2.1 i hi
      simp [btw]; omega
    refine ⟨[some (.d (.tuple (A.map tp))), some (.d (.int k)), none, some (.d (.int i))], ?_, rfl, fun _ => ?_, ?_⟩
    · simp only [dlall]
    · simp only [dlall, is_between_e, q]
    · simp only [dlall])
  rw [List.filter_eq_self.2 (by simp), List.nil_append] at hc
  have hb := all_true b
  have hc2 := compGo_map (g := gN 3) (tt := tYesD) (te := eFrz (eCall 3 f_is_allocation (avD (eVar 3) (avD (eB bLen (aCons (e2 dIx (eVar 0) (eC (.int 0))) (aNil))) (avD (eVar 2) (avNil)))))) (vs := [3]) (emb := tp) (e := [some (.d (.tuple (A.map tp))), some (.d (.int k)), some (.d (.int n)), none]) (fun _ => true) (fun _ => .bool true) A [] (fun a ha => by
    have hq := hA a ha
    have q2 : decide (IsAll (tp a) v n) = true := decide_eq_true ⟨a, rfl, by rw [hq.len], hq.nn, hq.sum⟩
    refine ⟨[some (.d (.tuple (A.map tp))), some (.d (.int k)), some (.d (.int n)), some (.d (tp a))], ?_, rfl, fun _ => ?_, ?_⟩
    · simp only [dlall]
    · simp only [dlall, a0, List.length_map, h0.len, is_allocation_e, q2]
    · simp only [dlall])
  rw [List.filter_eq_self.2 (by simp), List.nil_append] at hc2
  have hb2 := all_true A
  simp only [dlall, f_is_series, b_is_series, List.length_map, d1, d2, a0, h0.len, d3, d4, hc, hb, h0.sum, d5, hc2, hb2]
theorem check_series_e (hA : Ser A v n) (hv : 1 ≤ v) (hv5 : v ≤ 5) (hn : n ≤ 20) (h1 : 1 ≤ A.length) (k : Nat) (hk : A.length ≤ k) : f_check_series [.d (.tuple (A.map tp)), .d (.int k)] = .rt (.d .none) [none, none] := by
  have q := is_series_e hA hv hv5 hn h1 k hk
  simp only [dlall, f_check_series, b_check_series, q]
abbrev NN := Nat × Nat
def isin (P : List NN) (i j : Nat) : Bool := P.any (· == (i, j))
def cnd (A : List (List Int)) (P : List NN) (n i j k : Nat) : Bool := (isin P i k && (isin P i j && isin P j k)) && decide ((n : Int) < (meds (aat A i) (aat A j) (aat A k)).sum)
abbrev NNN := Nat × Nat × Nat
def tkd (A : List (List Int)) (P : List NN) (n i j : Nat) : List Nat → List NNN
  | [] => []
  | t :: d => if cnd A P n i j (j + 1 + t) = true then (i, j, j + 1 + t) :: tkd A P n i j d else tkd A P n i j d
def tks (A : List (List Int)) (P : List NN) (n i j : Nat) : List NNN := tkd A P n i j (List.range (A.length - (j + 1)))
def js (A : List (List Int)) (P : List NN) (n i : Nat) : List NNN := (List.range (A.length - (i + 1))).flatMap fun t => tks A P n i (i + 1 + t)
end DCos
namespace DCoo
open PySem DL DCom
/-- the first move that is needless: its bucket, and whether it leaves -/
def ndl (f g : Int → Int) : Nat → List Int → List Int → Option (Nat × Bool)
  | k, x :: xs, y :: ys => if x = y then ndl f g (k + 1) xs ys else if f x ≤ g x then some (k, true) else if g y ≤ f y then some (k, false) else ndl f g (k + 1) xs ys
  | _, _, _ => none
def rw (xs : List Int) : M := .d (.tuple (xs.map .int))
abbrev nd (a b : List Int) (m : Int) : Option (Nat × Bool) := ndl (fun i => (cnt a m.toNat).getD i.toNat 0) (fun i => (cnt b m.toNat).getD i.toNat 0) 0 a b
theorem filter_len {α : Type} (p : α → Bool) : ∀ l : List α, ((l.filter p).length : Int) = (l.map fun i => if p i = true then (1 : Int) else 0).sum
  | [] => rfl
  | x :: xs => by
    have ih := filter_len p xs
    rw [List.filter_cons, List.map_cons, List.sum_cons]
    by_cases h : p x = true
    · rw [if_pos h, if_pos h, List.length_cons]; omega
    · rw [if_neg h, if_neg h]; omega
theorem law_churn_e (a b : List Int) (hz : a.length ≤ 1000) (hl : a.length = b.length) : f__law_churn [.d (.tuple (a.map .int)), .d (.tuple (b.map .int))] = .rt (.d (.int (chu a b))) [none, none] := by
  have hc := compGo_map (g := gN 2) (tt := tb1 (e2 dNe (e2 dIx (eVar 0) (eVar 2)) (e2 dIx (eVar 1) (eVar 2)))) (te := eVar 2) (vs := [2]) (emb := fun i : Nat => PyData.int i)
    (e := [some (.d (.tuple (a.map .int))), some (.d (.tuple (b.map .int))), none]) (fun i => !(a.getD i 0 == b.getD i 0)) (fun i : Nat => .int i) (List.range a.length) [] (fun i hi => by
      rw [List.mem_range] at hi
      have hi' : i < b.length := by omega
      have a1 : L2.atI (a.map PyData.int) (i : Int) = some (.int (a.getD i 0)) := by simp [atI_nat, hi]
      have a2 : L2.atI (b.map PyData.int) (i : Int) = some (.int (b.getD i 0)) := by simp [atI_nat, hi']
      refine ⟨[some (.d (.tuple (a.map .int))), some (.d (.tuple (b.map .int))), some (.d (.int i))], ?_, ?_, fun _ => ?_, ?_⟩
      · simp only [dlall]
      · simp only [dlall, a1, a2]
      · simp only [dlall]
      · simp only [dlall])
  rw [← rangeD_eq] at hc
  have hr : ((a.length : Int) ≤ 16777216 ∧ -(2 ^ 62) ≤ (a.length : Int)) = True := by simp; omega
  have hs : ((((List.range a.length).filter fun i => !(a.getD i 0 == b.getD i 0)).length : Nat) : Int) = chu a b := by
    rw [filter_len, chu_range a b hl]
    refine congrArg _ (List.map_congr_left fun i _ => ?_)
    by_cases h : a.getD i 0 = b.getD i 0 <;> simp [h]
  simp only [dlall, f__law_churn, b__law_churn, List.length_map, hr, Int.toNat_natCast, hc, List.nil_append, hs]
end DCoo
namespace DCos
open PySem DL DCom
variable {v n m : Nat} {A : List (List Int)}
/-- an assignment of an allocation -/
structure As (s a : List Int) (v n : Nat) : Prop where
  len : s.length = n
  bnd : ∀ i ∈ s, 0 ≤ i ∧ i < v
  cnt : DCom.cnt s v = a
def srtG : Nat → List Int → List Int
  | _, [] => []
  | k, x :: r => List.replicate x.toNat (k : Int) ++ srtG (k + 1) r
theorem srtG_snoc : ∀ (l : List Int) (k : Nat) (x : Int), srtG k (l ++ [x]) = srtG k l ++ List.replicate x.toNat ((k + l.length : Nat) : Int)
  | [], k, x => by simp [srtG]
  | y :: l, k, x => by
    rw [List.cons_append, srtG, srtG, srtG_snoc l (k + 1) x, List.append_assoc, List.length_cons, show k + 1 + l.length = k + (l.length + 1) by omega]
theorem srtG_len : ∀ (l : List Int) (k : Nat), (∀ i ∈ l, 0 ≤ i) → ((srtG k l).length : Int) = l.sum
  | [], _, _ => rfl
  | x :: l, k, h => by
    have ih := srtG_len l (k + 1) fun i hi => h i (List.mem_cons_of_mem _ hi)
    have := h x List.mem_cons_self
    rw [srtG, List.length_append, List.length_replicate, List.sum_cons]
    omega
theorem srtG_bnd : ∀ (l : List Int) (k : Nat), ∀ i ∈ srtG k l, (k : Int) ≤ i ∧ i < k + l.length
  | [], _, i, h => nomatch h
  | x :: l, k, i, h => by
    rw [srtG] at h
    rcases List.mem_append.1 h with h | h
    · have := List.eq_of_mem_replicate h
      rw [List.length_cons]; omega
    · have := srtG_bnd l (k + 1) i h
      rw [List.length_cons]; omega
theorem srtG_count : ∀ (l : List Int) (k u : Nat), (∀ i ∈ l, 0 ≤ i) → u < l.length → (((srtG k l).count ((k + u : Nat) : Int) : Nat) : Int) = l.getD u 0
  | [], _, _, _, h => by simp at h
  | x :: l, k, u, hn, h => by
    have hx := hn x List.mem_cons_self
    rw [srtG, List.count_append, List.count_replicate]
    cases u with
    | zero =>
      have : (srtG (k + 1) l).count ((k + 0 : Nat) : Int) = 0 := by
        rw [List.count_eq_zero]
        intro z
        have := srtG_bnd l (k + 1) _ z
        omega
      rw [this, if_pos (by simp)]
      show _ = x
      omega
    | succ u =>
      have ih := srtG_count l (k + 1) u (fun i hi => hn i (List.mem_cons_of_mem _ hi)) (by simpa using h)
      rw [if_neg (by simp; omega)]
      rw [show k + 1 + u = k + (u + 1) by omega] at ih
      show _ = l.getD u 0
      omega
def srt (a : List Int) : List Int := srtG 0 a
theorem srt_as {a : List Int} (h : Al a v n) : As (srt a) a v n := by
  refine ⟨by have := srtG_len a 0 h.nn; rw [h.sum] at this; unfold srt; omega, fun i hi => ?_, ?_⟩
  · have := srtG_bnd a 0 i hi
    have := h.len
    omega
  · refine cnt_eq h.len fun u hu => ?_
    have := srtG_count a 0 u h.nn (by rw [h.len]; exact hu)
    rw [Nat.zero_add] at this
    exact this
theorem law_sorted_e {a : List Int} (h : Al a v n) (hv : v ≤ 100) (hn : n ≤ 100) : f__law_sorted [.d (tp a)] = .rt (.d (tp (srt a))) [none] := by
  have ka : ((a.length : Int) ≤ 16777216 ∧ -(2 ^ 62) ≤ (a.length : Int)) = True := by have := h.len; simp; omega
  obtain ⟨e', q, o2, rfl⟩ := forGo_range (g := gN 2) (body := sSet 1 (mD (e2 dAdd (eVar 1) (eComp (itB bRange1 (aCons (e2 dIx (eVar 0) (eVar 2)) (aNil))) (gN 3) (tYesD) (eVar 2) [3])))) a.length (fun k e => ∃ o2 : Option M, e = [some (.d (tp a)), some (.d (.list ((srtG 0 (a.take k)).map .int))), o2, none]) (by
    rintro k e hk ⟨o2, rfl⟩
    have a1 := rowS a k hk
    have h0 : 0 ≤ a.getD k 0 := by
      rw [List.getD_eq_getElem?_getD, List.getElem?_eq_getElem hk]
      exact h.nn _ (List.getElem_mem hk)
    have hle : a.getD k 0 ≤ n := by
      have := (le_sum a h.nn).1 a[k] (List.getElem_mem hk)
      rw [h.sum] at this
      rw [List.getD_eq_getElem?_getD, List.getElem?_eq_getElem hk]
      exact this
    have ht : a.take (k + 1) = a.take k ++ [a.getD k 0] := by
      rw [List.take_succ, List.getD_eq_getElem?_getD, List.getElem?_eq_getElem hk]; rfl
    have hsl : (srtG 0 (a.take k)).length ≤ 100 := by
      have h1 := srtG_len (a.take k) 0 fun i hi => h.nn i (List.mem_of_mem_take hi)
      have h2 : (a.take k).sum ≤ a.sum := by
        have e := List.take_append_drop k a
        have e2 := congrArg List.sum e
        rw [List.sum_append] at e2
        have := (le_sum (a.drop k) fun i hi => h.nn i (List.mem_of_mem_drop hi)).2
        omega
      rw [h.sum] at h2
      omega
    generalize a.getD k 0 = x at *
    have kx : (x ≤ 16777216 ∧ -(2 ^ 62) ≤ x) = True := by simp; omega
    have hc := compGo_map (g := gN 3) (tt := tYesD) (te := eVar 2) (vs := [3]) (emb := fun i : Nat => PyData.int i) (e := [some (.d (tp a)), some (.d (.list ((srtG 0 (a.take k)).map .int))), some (.d (.int k)), none]) (fun _ => true) (fun _ => .int (k : Int)) (List.range x.toNat) [] (fun i _ => by
      refine ⟨[some (.d (tp a)), some (.d (.list ((srtG 0 (a.take k)).map .int))), some (.d (.int k)), some (.d (.int i))], ?_, rfl, fun _ => ?_, ?_⟩
      · simp only [dlall]
      · simp only [dlall]
      · simp only [dlall])
    rw [List.filter_eq_self.2 (by simp), List.nil_append, ← rangeD_eq] at hc
    have hm : (List.range x.toNat).map (fun _ => PyData.int (k : Int)) = (List.replicate x.toNat (k : Int)).map .int := by
      rw [List.map_replicate, List.map_const', List.length_range]
    rw [hm] at hc
    have ad := addL ((srtG 0 (a.take k)).map .int) ((List.replicate x.toNat (k : Int)).map .int) (by simp; omega)
    have e1 : srtG 0 (a.take (k + 1)) = srtG 0 (a.take k) ++ List.replicate x.toNat (k : Int) := by
      rw [ht, srtG_snoc, List.length_take, Nat.min_eq_left (by omega), Nat.zero_add]
    refine ⟨_, [some (.d (tp a)), some (.d (.list ((srtG 0 (a.take (k + 1))).map .int))), some (.d (.int k)), none], rfl, .inl ?_, _, rfl⟩
    rw [e1, List.map_append]
    simp only [dlall, a1, kx, hc, ad]) [some (.d (tp a)), some (.d (.list [])), none, none] ⟨none, by simp [srtG]⟩
  rw [List.take_length] at q
  simp only [dlall, f__law_sorted, b__law_sorted, List.length_map, ka, Int.toNat_natCast, q]
  rfl
end DCos
namespace DCos
open PySem DL DCom
variable {v n m : Nat} {A : List (List Int)}
/-- what holds on the way from the shares a to the shares c -/
structure Way (a c : List Int) (v n k t : Nat) (f : List Int) : Prop where
  len : f.length = n
  bnd : ∀ i ∈ f, 0 ≤ i ∧ i < v
  done : ∀ u : Nat, u < k → u < v → ((f.count (u : Int) : Nat) : Int) ≤ c.getD u 0
  more : ∀ u : Nat, k ≤ u → u < v → c.getD u 0 < a.getD u 0 → ((f.count (u : Int) : Nat) : Int) = a.getD u 0 - (if u = k then (t : Int) else 0)
  less : ∀ u : Nat, k ≤ u → u < v → a.getD u 0 ≤ c.getD u 0 → ((f.count (u : Int) : Nat) : Int) ≤ c.getD u 0
theorem Way.sum {a c : List Int} {k t : Nat} {f : List Int} (h : Way a c v n k t f) (hc : Al c v n) : ((List.range v).map fun u : Nat => ((f.count (u : Int) : Nat) : Int)).sum = ((List.range v).map fun u : Nat => c.getD u 0).sum := by
  have h1 := cntSum f v h.bnd
  have h2 := sumGet c
  rw [hc.len, hc.sum] at h2
  rw [← h2]
  unfold cnt at h1
  rw [h1, h.len]
end DCos
namespace DCos
open PySem DL DCom
variable {v n m : Nat} {A : List (List Int)}
theorem zip2_maps {α β : Type} (f : α → PyData) (g : β → PyData) : ∀ (xs : List α) (ys : List β), zip2 (xs.map f) (ys.map g) = (xs.zip ys).map fun q => .tuple [f q.1, g q.2]
  | [], _ => by simp [zip2]
  | _ :: _, [] => by simp [zip2]
  | x :: xs, y :: ys => by
    have := zip2_maps f g xs ys
    rw [List.map_cons, List.map_cons, zip2_cons, this, List.zip_cons_cons, List.map_cons]
theorem aat_get {A : List (List Int)} {j : Nat} (h : j < A.length) : aat A j = A[j] := by
  unfold aat
  rw [List.getD_eq_getElem?_getD, List.getElem?_eq_getElem h]; rfl
theorem law_transfer_eS (a b : List Int) : f__law_transfer [.d (tp a), .d (tp b)] = .rt (.d (.int (trf a b))) [none, none] := by
  have h0 := compGo_map (g := gT 2 (gsC (gN 2) (gsC (gN 3) (gsN)))) (tt := tYesD) (te := eB bMax (aCons (eC (.int 0)) (aCons (e2 dSub (eVar 2) (eVar 3)) (aNil)))) (vs := [2, 3]) (emb := fun q : Int × Int => PyData.tuple [.int q.1, .int q.2]) (e := [some (.d (tp a)), some (.d (tp b)), none, none]) (fun _ => true) (fun q => .int (if q.1 - q.2 > 0 then q.1 - q.2 else 0)) (a.zip b) [] (fun q _ => by
    refine ⟨[some (.d (tp a)), some (.d (tp b)), some (.d (.int q.1)), some (.d (.int q.2))], ?_, rfl, fun _ => ?_, ?_⟩
    · simp only [dlall]
    · simp only [dlall]
    · simp only [dlall])
  rw [List.filter_eq_self.2 (by simp), List.nil_append, ← zip2_maps] at h0
  have m : (a.zip b).map (fun q : Int × Int => PyData.int (if q.1 - q.2 > 0 then q.1 - q.2 else 0)) = ((a.zip b).map fun q : Int × Int => if q.1 - q.2 > 0 then q.1 - q.2 else 0).map .int := by rw [List.map_map]; rfl
  rw [m] at h0
  simp only [dlall, f__law_transfer, b__law_transfer, h0, trf_sum]
end DCos
namespace DCqc
open PySem DL DCos
open DCom
variable {v n : Nat} {A U : List (List Int)}
theorem cut_d (xs : List PyData) (k : Nat) : cutD xs (some (k : Int)) none = xs.drop k := by
  have h1 : HT.sIx xs.length 0 (some (k : Int)) = min k xs.length := HT.sIx_nat _ _ _
  have h2 : HT.sIx xs.length xs.length none = xs.length := rfl
  unfold cutD
  rw [h1, h2]
  by_cases h : k ≤ xs.length
  · rw [Nat.min_eq_left h, List.take_of_length_le (by rw [List.length_drop]; exact Nat.le_refl _)]
  · rw [Nat.min_eq_right (by omega), List.drop_length, List.drop_of_length_le (by omega), List.take_nil]
abbrev pr (A : List (List Int)) (j : Nat) : PyData := .tuple [tp (aat A j), tp (aat A (j + 1))]
theorem zip_nb (A : List (List Int)) : zip2 (A.map tp) ((A.drop 1).map tp) = (List.range (A.length - 1)).map (pr A) := by
  refine List.ext_getElem (by simp [zip2]) fun i h1 h2 => ?_
  have hi : i < A.length - 1 := by simpa using h2
  have hi1 : i + 1 < A.length := by omega
  have hi0 : i < A.length := by omega
  simp only [zip2, List.getElem_zipWith, List.getElem_map, List.getElem_range, List.getElem_drop]
  unfold pr aat
  rw [List.getD_eq_getElem?_getD, List.getD_eq_getElem?_getD, List.getElem?_eq_getElem hi0, List.getElem?_eq_getElem hi1]
  simp only [Option.getD_some, Nat.add_comm 1 i]
abbrev AT (A : List (List Int)) : PyData := .tuple (A.map tp)
abbrev ZZ (A : List (List Int)) : List PyData := (List.range (A.length - 1)).map (pr A)
theorem slice1 (A : List (List Int)) : dSlice (AT A) (some 1) none = some (.tuple ((A.drop 1).map tp)) := by
  have := cut_d (A.map tp) 1
  show some (PyData.tuple (cutD (A.map tp) (some 1) none)) = _
  rw [show ((1 : Int)) = ((1 : Nat) : Int) from rfl, this, List.map_drop]
theorem steps_of_e (A : List (List Int)) : f_steps_of [.d (AT A)] = .rt (.d (.list (ZZ A))) [none] := by
  have sl := slice1 A
  have bz : bListZip [AT A, .tuple ((A.drop 1).map tp)] = some (.list (ZZ A)) := by
    have z := zip_nb A
    show some (PyData.list (zip2 (A.map tp) ((A.drop 1).map tp))) = _
    rw [z]
  generalize ZZ A = Z at *
  generalize PyData.tuple ((A.drop 1).map tp) = D1 at *
  generalize AT A = T at *
  simp only [dlall, f_steps_of, b_steps_of, sl, bz]
theorem enum_row (l : List Int) : ∀ k : Nat, enumD k (l.map .int) = (List.range l.length).map fun j : Nat => PyData.tuple [.int ((k + j : Nat) : Int), .int (l.getD j 0)] := by
  induction l with
  | nil => intro k; rfl
  | cons x l ih =>
    intro k
    rw [List.map_cons, enumD, ih (k + 1), List.length_cons, List.range_succ_eq_map, List.map_cons, List.map_map]
    congr 1
    refine List.map_congr_left fun j _ => ?_
    show _ = PyData.tuple [.int ((k + (j + 1) : Nat) : Int), .int (l.getD j 0)]
    rw [Nat.add_assoc, Nat.add_comm 1 j]
theorem mulLi (x : PyData) (k : Int) (h : k ≤ 1000) (h0 : 0 ≤ k) : dMul (.list [x]) (.int k) = some (.list (List.replicate k.toNat x)) := by
  show (if _ then _ else _) = _
  rw [if_pos ⟨by omega, by omega, by simp; omega⟩, List.flatten_replicate_singleton]
theorem addLi (xs ys : List PyData) (h : xs.length + ys.length ≤ 16777216) : dAdd (.list xs) (.list ys) = some (.list (xs ++ ys)) := if_pos h
theorem sorted_assignment_e {a : List Int} (h : Al a v n) (hv : v ≤ 100) (hn : n ≤ 100) : f_sorted_assignment [.d (tp a)] = .rt (.d (tp (srt a))) [none] := by
  have hs : ∀ i ∈ a, i ≤ n := fun i hi => by
    have := (le_sum a h.nn).1 i hi
    rw [h.sum] at this
    exact this
  obtain ⟨e', q, o2, o3, _, rfl⟩ := forGo_list (g := gT 2 (gsC (gN 2) (gsC (gN 3) (gsN)))) (emb := fun j : Nat => PyData.tuple [.int ((0 + j : Nat) : Int), .int (a.getD j 0)]) (body := sSet 1 (mD (e2 dAdd (eVar 1) (e2 dMul (eLst (aCons (eVar 2) (aNil))) (eVar 3))))) (fun d r e => ∃ o2 o3 : Option M, d ++ r = List.range a.length ∧ e = [some (.d (tp a)), some (.d (.list ((srtG 0 (a.take d.length)).map .int))), o2, o3]) (by
    rintro d j r e ⟨o2, o3, hd, rfl⟩
    have hj : j = d.length := by
      have := congrArg (fun l => l[d.length]?) hd
      simp at this
      have hl := congrArg List.length hd
      simp at hl
      rw [List.getElem?_range (by omega)] at this
      exact Option.some.inj this
    subst hj
    have hl := congrArg List.length hd
    simp at hl
    have hjl : d.length < a.length := by omega
    have hm := List.getElem_mem hjl
    have g1 : a.getD d.length 0 = a[d.length] := by rw [List.getD_eq_getElem?_getD, List.getElem?_eq_getElem hjl]; rfl
    have ml := mulLi (.int ((0 + d.length : Nat) : Int)) (a.getD d.length 0) (by rw [g1]; have := hs _ hm; omega) (by rw [g1]; exact h.nn _ hm)
    have sl : (srtG 0 (a.take d.length)).length ≤ 100 := by
      have e1 := srtG_len (a.take d.length) 0 fun i hi => h.nn i (List.mem_of_mem_take hi)
      have e2 : (a.take d.length).sum + (a.drop d.length).sum = a.sum := by rw [← List.sum_append, List.take_append_drop]
      have e3 := (le_sum (a.drop d.length) fun i hi => h.nn i (List.mem_of_mem_drop hi)).2
      rw [h.sum] at e2
      omega
    have al := addLi ((srtG 0 (a.take d.length)).map .int) (List.replicate (a.getD d.length 0).toNat (.int ((0 + d.length : Nat) : Int))) (by
      have := hs _ hm
      rw [List.length_map, List.length_replicate, g1]; omega)
    have es : (srtG 0 (a.take d.length)).map PyData.int ++ List.replicate (a.getD d.length 0).toNat (PyData.int ((0 + d.length : Nat) : Int)) = (srtG 0 (a.take (d.length + 1))).map .int := by
      rw [List.take_succ, List.getElem?_eq_getElem hjl, Option.toList_some, srtG_snoc, List.map_append, List.map_replicate, g1, List.length_take, Nat.min_eq_left (by omega)]
    rw [es] at al
    refine ⟨[some (.d (tp a)), some (.d (.list ((srtG 0 (a.take d.length)).map .int))), some (.d (.int ((0 + d.length : Nat) : Int))), some (.d (.int (a.getD d.length 0)))], [some (.d (tp a)), some (.d (.list ((srtG 0 (a.take (d.length + 1))).map .int))), some (.d (.int ((0 + d.length : Nat) : Int))), some (.d (.int (a.getD d.length 0)))], ?_, .inl ?_, _, _, ?_, by rw [List.length_append, List.length_singleton]⟩
    · simp only [dlall]
    · generalize ((0 + d.length : Nat) : Int) = x at *
      generalize a.getD d.length 0 = y at *
      simp only [dlall, ml, al]
    · rw [List.append_assoc]; exact hd) (List.range a.length) [] [some (.d (tp a)), some (.d (.list [])), none, none] ⟨none, none, rfl, rfl⟩
  rw [← enum_row a 0, List.nil_append, List.length_range, List.take_length] at q
  simp only [dlall, f_sorted_assignment, b_sorted_assignment]
  rw [q]
  simp only [dlall]
  rfl
end DCqc
namespace DL
open PySem
def outOf : Option PyData → Env → Out
  | some y, e => .rt (.d y) e
  | none, e => .nx e
theorem outOf_s (y) (e : Env) : outOf (some y) e = .rt (.d y) e := rfl
theorem outOf_n (e : Env) : outOf none e = .nx e := rfl
/-- k slots at least -/
def Sh (k : Nat) (e : Env) : Prop := k ≤ e.length
theorem forGo_find {α : Type} {emb : α → PyData} {g : PyData → Env → Option Env} {body : Env → Out} (l : List α) (res : α → Option PyData) (k : Nat) (St : List α → Env → Prop) (hs : ∀ d e, St d e → Sh k e)
    (step : ∀ d x r e, d ++ x :: r = l → St d e → ∃ e1 e2, g (emb x) e = some e1 ∧ body e1 = outOf (res x) e2 ∧ Sh k e2 ∧ (res x = none → St (d ++ [x]) e2)) : ∀ (r d : List α) (e : Env), d ++ r = l → St d e → ∃ e2, forGo g body (r.map emb) e = outOf (r.findSome? res) e2 ∧ Sh k e2 ∧ (r.findSome? res = none → St l e2)
  | [], d, e, hd, h => ⟨e, forGo_nil .., hs d e h, fun _ => by rw [List.append_nil] at hd; rw [← hd]; exact h⟩
  | x :: r, d, e, hd, h => by
    obtain ⟨e1, e2, h1, h2, h2s, h3⟩ := step d x r e hd h
    cases hr : res x with
    | some y =>
      refine ⟨e2, ?_, h2s, fun z => ?_⟩
      · rw [List.map_cons, forGo_cons, h1, optOut_s, h2, hr, List.findSome?_cons, hr]; rfl
      · rw [List.findSome?_cons, hr] at z; cases z
    | none =>
      obtain ⟨e3, h4, h4s, h5⟩ := forGo_find l res k St hs step r (d ++ [x]) e2 (by rw [List.append_assoc]; exact hd) (h3 hr)
      refine ⟨e3, ?_, h4s, fun z => ?_⟩
      · rw [List.map_cons, forGo_cons, h1, optOut_s, h2, hr, List.findSome?_cons, hr]; exact h4
      · rw [List.findSome?_cons, hr] at z; exact h5 z
/-- the whole loop, the state's shape alone in sight -/
theorem forGo_fnd {α : Type} {emb : α → PyData} {g : PyData → Env → Option Env} {body : Env → Out} (l : List α) (res : α → Option PyData) (k : Nat) (St : Env → Prop) (hs : ∀ e, St e → Sh k e)
    (step : ∀ x ∈ l, ∀ e, St e → ∃ e1 e2, g (emb x) e = some e1 ∧ body e1 = outOf (res x) e2 ∧ Sh k e2 ∧ (res x = none → St e2)) (e : Env) (h : St e) : ∃ e2, forGo g body (l.map emb) e = outOf (l.findSome? res) e2 ∧ Sh k e2 ∧ (l.findSome? res = none → St e2) :=
  forGo_find l res k (fun _ e => St e) (fun _ e h => hs e h) (fun d x r e hd h => step x (by rw [← hd]; simp) e h) l [] e rfl h
theorem Sh.mono {j k : Nat} {e : Env} (h : Sh k e) (hk : j ≤ k) : Sh j e := Nat.le_trans hk h
theorem outOf_fin (o : Option PyData) (e : Env) (y : PyData) : ((outOf o e).thn fun e => .rt (.d y) e) = .rt (.d (o.getD y)) e := by cases o <;> rfl
end DL
namespace DCqc
open PySem DL DCos
open DCom
variable {v n : Nat} {A U : List (List Int)}
/-- how often bucket b changes -/
def chg (U : List (List Int)) (b : Nat) : Int := (((List.range (U.length - 1)).filter fun j => !((aat U j).getD b 0 == (aat U (j + 1)).getD b 0)).length : Nat)
def chgs (U : List (List Int)) (n : Nat) : List Int := (List.range n).map (chg U)
theorem law_changes_e (hl : 1 ≤ U.length) (hl2 : U.length ≤ 1000) (hn : n ≤ 1000) (hU : ∀ j, j < U.length → (aat U j).length = n) : f__law_changes [.d (AT U)] = .rt (.d (tp (chgs U n))) [none] := by
  have i0 : L2.atI (U.map tp) 0 = some (tp (aat U 0)) := at_aat U 0 (by omega)
  have bl : bLen [tp (aat U 0)] = some (.int (n : Int)) := by simp [bLen, hU 0 (by omega)]
  have kn : ((n : Int) ≤ 16777216 ∧ -(2 ^ 62) ≤ (n : Int)) = True := by simp; omega
  have ku : (((U.length : Int) - 1) ≤ 16777216 ∧ -(2 ^ 62) ≤ ((U.length : Int) - 1)) = True := by simp; omega
  have tu : ((U.length : Int) - 1).toNat = U.length - 1 := by omega
  obtain ⟨e', q, o2, rfl⟩ := forGo_range (g := gN 2) (body := sDrop (mD (eMt 1 mApp (aCons (eB bLen (aCons (eComp (itB bRange1 (aCons (e2 dSub (eB bLen (aCons (eVar 0) (aNil))) (eC (.int 1))) (aNil))) (gN 3) (tb1 (e2 dNe (e2 dIx (e2 dIx (eVar 0) (eVar 3)) (eVar 2)) (e2 dIx (e2 dIx (eVar 0) (e2 dAdd (eVar 3) (eC (.int 1)))) (eVar 2)))) (eVar 3) [3]) (aNil))) (aNil))))) n (fun k e => ∃ o2 : Option M, e = [some (.d (AT U)), some (.l ((chgs U k).map .int)), o2, none]) (by
    rintro k e hk ⟨o2, rfl⟩
    have hc := compGo_map (g := gN 3) (tt := tb1 (e2 dNe (e2 dIx (e2 dIx (eVar 0) (eVar 3)) (eVar 2)) (e2 dIx (e2 dIx (eVar 0) (e2 dAdd (eVar 3) (eC (.int 1)))) (eVar 2)))) (te := eVar 3) (vs := [3]) (emb := fun j : Nat => PyData.int (j : Int)) (e := [some (.d (AT U)), some (.l ((chgs U k).map .int)), some (.d (.int (k : Int))), none]) (fun j => !((aat U j).getD k 0 == (aat U (j + 1)).getD k 0)) (fun j => .int (j : Int)) (List.range (U.length - 1)) [] (fun j hj => by
      have hj := List.mem_range.1 hj
      have a1 : L2.atI (U.map tp) (j : Int) = some (tp (aat U j)) := at_aat U j (by omega)
      have a2 : L2.atI (U.map tp) ((j : Int) + 1) = some (tp (aat U (j + 1))) := at_aat U (j + 1) (by omega)
      have b1 : L2.atI ((aat U j).map PyData.int) (k : Int) = some (.int ((aat U j).getD k 0)) := rowS _ _ (by rw [hU j (by omega)]; exact hk)
      have b2 : L2.atI ((aat U (j + 1)).map PyData.int) (k : Int) = some (.int ((aat U (j + 1)).getD k 0)) := rowS _ _ (by rw [hU (j + 1) (by omega)]; exact hk)
      refine ⟨[some (.d (AT U)), some (.l ((chgs U k).map .int)), some (.d (.int (k : Int))), some (.d (.int (j : Int)))], ?_, ?_, fun _ => ?_, ?_⟩
      · simp only [dlall]
      · generalize (aat U j).getD k 0 = x at *
        generalize (aat U (j + 1)).getD k 0 = y at *
        simp only [dlall, a1, a2, b1, b2]
      · simp only [dlall]
      · simp only [dlall])
    rw [List.nil_append, ← rangeD_eq] at hc
    have ap := appS ((chgs U k).map .int) (.int (chg U k)) (by simp [chgs]; omega)
    have e1 : (chgs U k).map PyData.int ++ [.int (chg U k)] = (chgs U (k + 1)).map .int := by
      unfold chgs
      rw [List.range_succ, List.map_append, List.map_append]; rfl
    rw [e1] at ap
    have bl2 : bLen [.list (((List.range (U.length - 1)).filter fun j => !((aat U j).getD k 0 == (aat U (j + 1)).getD k 0)).map fun j : Nat => PyData.int (j : Int))] = some (.int (chg U k)) := by
      simp [bLen, chg]
    refine ⟨_, [some (.d (AT U)), some (.l ((chgs U (k + 1)).map .int)), some (.d (.int (k : Int))), none], rfl, .inl ?_, _, rfl⟩
    generalize chg U k = C at *
    generalize (chgs U (k + 1)).map PyData.int = C1 at *
    generalize (chgs U k).map PyData.int = C0 at *
    generalize (((List.range (U.length - 1)).filter fun j => !((aat U j).getD k 0 == (aat U (j + 1)).getD k 0)).map fun j : Nat => PyData.int (j : Int)) = FF at *
    simp only [dlall, List.length_map, ku, tu, hc, bl2, ap]) [some (.d (AT U)), some (.l []), none, none] ⟨none, rfl⟩
  simp only [dlall, f__law_changes, b__law_changes, i0, bl, kn, Int.toNat_natCast]
  rw [q]
  simp only [dlall]
end DCqc
namespace DCqc
open PySem DL DCos
open DCom
variable {v n : Nat} {A U : List (List Int)}
def col (U : List (List Int)) (b : Nat) : List Int := U.map fun r => r.getD b 0
theorem tups_rows : ∀ U : List (List Int), tupsD (U.map tp) = some (U.map fun r => r.map PyData.int)
  | [] => rfl
  | r :: rs => by
    show (tupsD (rs.map tp)).map (r.map PyData.int :: ·) = _
    rw [tups_rows rs]; rfl
theorem zipN_rows (hne : U ≠ []) (h10 : U.length ≤ 10) (hU : ∀ r ∈ U, r.length = n) : bZipN (U.map tp) = some ((List.range n).map fun b => tp (col U b)) := by
  unfold bZipN
  rw [tups_rows]
  have hd : ((U.map fun r => r.map PyData.int).headD []).length = n := by
    cases U with
    | nil => exact absurd rfl hne
    | cons r rs =>
      show (r.map PyData.int).length = n
      rw [List.length_map]; exact hU r List.mem_cons_self
  have h1 : (U.map fun r => r.map PyData.int) ≠ [] := by simpa using hne
  have h3 : ((U.map fun r => r.map PyData.int).all fun q => q.length == ((U.map fun r => r.map PyData.int).headD []).length) = true := by
    rw [hd, List.all_eq_true]
    intro q hq
    obtain ⟨r, hr, rfl⟩ := List.mem_map.1 hq
    rw [List.length_map, hU r hr]; simp
  show (if _ then _ else _) = _
  rw [if_pos ⟨h1, by rw [List.length_map]; exact h10, h3⟩]
  unfold zipN
  rw [hd]
  refine congrArg some (List.map_congr_left fun b hb => ?_)
  have hb := List.mem_range.1 hb
  show PyData.tuple _ = PyData.tuple _
  unfold col
  rw [List.map_map, List.map_map]
  refine congrArg _ (List.map_congr_left fun r hr => ?_)
  have := hU r hr
  show (r.map PyData.int).getD b .none = PyData.int (r.getD b 0)
  rw [List.getD_eq_getElem?_getD, List.getD_eq_getElem?_getD, List.getElem?_map, List.getElem?_eq_getElem (by omega)]
  rfl
theorem col_at (U : List (List Int)) (b j : Nat) (h : j < U.length) : (col U b)[j]'(by simpa [col] using h) = (aat U j).getD b 0 := by
  unfold col
  rw [List.getElem_map, aat_get h]
theorem zip_col (U : List (List Int)) (b : Nat) : zip2 ((col U b).map .int) (((col U b).drop 1).map .int) = (List.range (U.length - 1)).map fun j => PyData.tuple [.int ((aat U j).getD b 0), .int ((aat U (j + 1)).getD b 0)] := by
  refine List.ext_getElem (by simp [zip2, col]) fun i h1 h2 => ?_
  have hi : i < U.length - 1 := by simpa using h2
  simp only [zip2, List.getElem_zipWith, List.getElem_map, List.getElem_range, List.getElem_drop]
  rw [col_at U b i (by omega), col_at U b (1 + i) (by omega), Nat.add_comm 1 i]
theorem changes_in_g {D : PyData} (hD : seqOf D = some (U.map tp)) (hl : 1 ≤ U.length) (hl2 : U.length ≤ 10) (hn : n ≤ 1000) (hU : ∀ j, j < U.length → (aat U j).length = n) : f_changes_in [.d D] = .rt (.d (tp (chgs U n))) [none] := by
  have hne : U ≠ [] := fun z => by rw [z] at hl; simp at hl
  have hUr : ∀ r ∈ U, r.length = n := fun r hr => by
    obtain ⟨i, hi, rfl⟩ := List.mem_iff_getElem.1 hr
    rw [← aat_get hi]; exact hU i hi
  have bz := zipN_rows hne hl2 hUr
  obtain ⟨e', q, _, o2, rfl⟩ := forGo_list (g := gN 2) (emb := fun b : Nat => tp (col U b)) (body := sDrop (mD (eMt 1 mApp (aCons (eB bSum (aCons (eComp (itB bZip (aCons (eVar 2) (aCons (eSlice (eVar 2) (pSome (eC (.int 1))) (pNo)) (aNil)))) (gT 2 (gsC (gN 3) (gsC (gN 4) (gsN)))) (tYesD) (eB bInt (aCons (e2 dNe (eVar 3) (eVar 4)) (aNil))) [3, 4]) (aNil))) (aNil))))) (fun d r e => d ++ r = List.range n ∧ ∃ o2 : Option M, e = [some (.d D), some (.l ((d.map (chg U)).map .int)), o2, none, none]) (by
    rintro d b r e ⟨hd, o2, rfl⟩
    have hb : b < n := List.mem_range.1 (by rw [← hd]; simp)
    have hdl : d.length ≤ 1000 := by
      have := congrArg List.length hd
      simp at this; omega
    have sl : dSlice (tp (col U b)) (some 1) none = some (.tuple (((col U b).drop 1).map .int)) := by
      have := cut_d ((col U b).map .int) 1
      show some (PyData.tuple (cutD ((col U b).map .int) (some 1) none)) = _
      rw [show ((1 : Int)) = ((1 : Nat) : Int) from rfl, this, List.map_drop]
    have bzz : bZip [tp (col U b), .tuple (((col U b).drop 1).map .int)] = some ((List.range (U.length - 1)).map fun j => PyData.tuple [.int ((aat U j).getD b 0), .int ((aat U (j + 1)).getD b 0)]) := by
      rw [← zip_col]; rfl
    have hc := compGo_map (g := gT 2 (gsC (gN 3) (gsC (gN 4) (gsN)))) (tt := tYesD) (te := eB bInt (aCons (e2 dNe (eVar 3) (eVar 4)) (aNil))) (vs := [3, 4]) (emb := fun j : Nat => PyData.tuple [.int ((aat U j).getD b 0), .int ((aat U (j + 1)).getD b 0)]) (e := [some (.d D), some (.l ((d.map (chg U)).map .int)), some (.d (tp (col U b))), none, none]) (fun _ => true) (fun j => .int (if (!((aat U j).getD b 0 == (aat U (j + 1)).getD b 0)) = true then 1 else 0)) (List.range (U.length - 1)) [] (fun j hj => by
      refine ⟨[some (.d D), some (.l ((d.map (chg U)).map .int)), some (.d (tp (col U b))), some (.d (.int ((aat U j).getD b 0))), some (.d (.int ((aat U (j + 1)).getD b 0)))], ?_, rfl, fun _ => ?_, ?_⟩
      · simp only [dlall]
      · generalize (aat U j).getD b 0 = x at *
        generalize (aat U (j + 1)).getD b 0 = y at *
        simp only [dlall]
      · simp only [dlall])
    rw [List.filter_eq_self.2 (by simp), List.nil_append] at hc
    have e1 : ((List.range (U.length - 1)).map fun j => PyData.int (if (!((aat U j).getD b 0 == (aat U (j + 1)).getD b 0)) = true then 1 else 0)) = ((List.range (U.length - 1)).map fun j => if (!((aat U j).getD b 0 == (aat U (j + 1)).getD b 0)) = true then (1 : Int) else 0).map .int := by rw [List.map_map]; rfl
    rw [e1] at hc
    have bs : bSum [.list (((List.range (U.length - 1)).map fun j => if (!((aat U j).getD b 0 == (aat U (j + 1)).getD b 0)) = true then (1 : Int) else 0).map .int)] = some (.int (chg U b)) := by
      rw [bSum_l]
      unfold chg
      rw [DCoo.filter_len]
    have ap := appS ((d.map (chg U)).map .int) (.int (chg U b)) (by simp; omega)
    have e2 : (d.map (chg U)).map PyData.int ++ [.int (chg U b)] = ((d ++ [b]).map (chg U)).map .int := by rw [List.map_append, List.map_append]; rfl
    rw [e2] at ap
    refine ⟨_, [some (.d D), some (.l (((d ++ [b]).map (chg U)).map .int)), some (.d (tp (col U b))), none, none], rfl, .inl ?_, by rw [List.append_assoc]; exact hd, _, rfl⟩
    generalize ((List.range (U.length - 1)).map fun j => if (!((aat U j).getD b 0 == (aat U (j + 1)).getD b 0)) = true then (1 : Int) else 0).map PyData.int = CC at *
    generalize chg U b = C at *
    generalize ((d ++ [b]).map (chg U)).map PyData.int = C1 at *
    generalize (d.map (chg U)).map PyData.int = C0 at *
    generalize tp (col U b) = TC at *
    generalize PyData.tuple (((col U b).drop 1).map .int) = TD at *
    simp only [dlall, sl, bzz, hc, bs, ap]) (List.range n) [] [some (.d D), some (.l []), none, none, none] ⟨by simp, none, rfl⟩
  rw [List.nil_append] at q
  have sq : (seqOf D).bind bZipN = some ((List.range n).map fun b => tp (col U b)) := by rw [hD]; exact bz
  have e3 : ((List.range n).map (chg U)) = chgs U n := rfl
  rw [e3] at q
  generalize (List.range n).map (fun b => tp (col U b)) = ZR at *
  simp only [dlall, f_changes_in, b_changes_in, itZNS_eq, sq]
  rw [q]
  simp only [dlall]
theorem chu_range : ∀ a b : List Int, a.length = b.length → chu a b = ((List.range a.length).map fun k => if (!(a.getD k 0 == b.getD k 0)) = true then (1 : Int) else 0).sum
  | [], [], _ => by simp [chu]
  | [], _ :: _, h => by simp at h
  | _ :: _, [], h => by simp at h
  | x :: xs, y :: ys, h => by
    have ih := chu_range xs ys (by simpa using h)
    rw [chu, ih, List.length_cons, List.range_succ_eq_map, List.map_cons, List.sum_cons, List.map_map]
    show _ = (if (!(x == y)) = true then (1 : Int) else 0) + ((List.range xs.length).map fun k => if (!(xs.getD k 0 == ys.getD k 0)) = true then (1 : Int) else 0).sum
    by_cases c : x = y
    · rw [if_pos c, if_neg (by simp [c])]
    · rw [if_neg c, if_pos (by simp [c])]
end DCqc
namespace DCou
open PySem DL DCoo
open DCom hiding b_check_allocation f_check_allocation b_check_assignment f_check_assignment b_check_variants f_check_variants
end DCou
namespace DCoy
open PySem DL
abbrev b_is_whole := DCom.b_is_whole
abbrev f_is_whole := DCom.f_is_whole
abbrev b_is_integer := DCoo.b_is_integer
abbrev f_is_integer := DCoo.f_is_integer
def b_Moves_init (cM : Addr) : DL.Env → Out :=
  sThen (sFldD cM 0 "assignment" (eVar 1))
  (sThen (sFldL cM 0 "waiting" (mList (aCons (eVar 2) (aNil))))
  (sThen (sFldL cM 0 "leaving" (mList (aCons (eVar 3) (aNil))))
  (sFldL cM 0 "entering" (mList (aCons (eVar 4) (aNil))))))
def f_Moves_init (cM : Addr) : Fn := runDef [true, false, false, false, false] 5 (b_Moves_init cM)
def b_Moves_options (cM : Addr) : DL.Env → Out :=
  sThen (sSet 2 (mD (e2 dIx (eFld cM 0 "assignment") (eVar 1))))
  (sThen (sSet 3 (mLst (aNil)))
  (sThen (sIf (tb1 (e2 dGt (e2 dIx (eFld cM 0 "waiting") (eVar 2)) (e2 dIx (eFld cM 0 "leaving") (eVar 2)))) (sDrop (mD (eMt 3 mApp (aCons (eVar 2) (aNil))))) (sNx))
  (sThen (sIf (tb1 (e2 dGt (e2 dIx (eFld cM 0 "leaving") (eVar 2)) (eC (.int 0)))) (sSet 3 (mOp dAdd (eVarF 3) (eComp (itB bEnum (aCons (eFld cM 0 "entering") (aNil))) (gT 2 (gsC (gN 5) (gsC (gN 4) (gsN)))) (tb1 (e2 dGt (eVar 4) (eC (.int 0)))) (eVar 5) [5, 4]))) (sNx))
  (sRet (mSrtO 3)))))
def f_Moves_options (cM : Addr) : Fn := runDef [false, false] 6 (b_Moves_options cM)
def b_Moves_take (cM : Addr) : DL.Env → Out :=
  sThen (sSet 3 (mD (e2 dIx (eFld cM 0 "assignment") (eVar 1))))
  (sThen (sFldSet cM 0 "waiting" 3 (e2 dSub (eFldIx cM 0 "waiting" 3) (eC (.int 1))))
  (sIf (tb1 (e2 dNe (eVar 2) (eVar 3))) (sThen (sFldSet cM 0 "leaving" 3 (e2 dSub (eFldIx cM 0 "leaving" 3) (eC (.int 1))))
    (sFldSet cM 0 "entering" 2 (e2 dSub (eFldIx cM 0 "entering" 2) (eC (.int 1))))) (sNx)))
def f_Moves_take (cM : Addr) : Fn := runDef [true, false, false] 4 (b_Moves_take cM)
abbrev b_is_between := DCom.b_is_between
abbrev f_is_between := DCom.f_is_between
abbrev b_is_allocation := DCom.b_is_allocation
abbrev f_is_allocation := DCom.f_is_allocation
abbrev b_check_variants := DCoo.b_check_variants
abbrev f_check_variants := DCoo.f_check_variants
abbrev b_is_assignment := DCom.b_is_assignment
abbrev f_is_assignment := DCom.f_is_assignment
abbrev b_is_some_allocation := DCoo.b_is_some_allocation
abbrev f_is_some_allocation := DCoo.f_is_some_allocation
abbrev b_check_allocation := DCoo.b_check_allocation
abbrev f_check_allocation := DCoo.f_check_allocation
abbrev b_check_assignment := DCoo.b_check_assignment
abbrev f_check_assignment := DCoo.f_check_assignment
end DCoy
namespace DCor
open PySem DL DCom
abbrev tp (r : List Int) : PyData := .tuple (r.map .int)
theorem appL (xs : List PyData) (y : PyData) (h : xs.length < 16777216) : mApp xs [y] = some (.none, xs ++ [y]) := if_pos h
theorem at_row (r : List Int) (j : Nat) (h : j < r.length) : L2.atI (r.map PyData.int) (j : Int) = some (.int (r.getD j 0)) := by simp [atI_nat, h]
structure Alc (a : List Int) (v n : Nat) : Prop where
  len : a.length = v
  nn : ∀ i ∈ a, 0 ≤ i
  sum : a.sum = n
def lat (L : List (List Int)) (j : Nat) : List Int := L.getD j []
/-- the buckets that a share takes from its list -/
def tk (Ls : List (List Int)) (a : List Int) (w : Nat) : List Int := (lat Ls w).take (a.getD (w + 1) 0).toNat
/-- what is so behind the steps P: pairs of a list and a bucket -/
structure Stp (n : Nat) (P : List (Nat × Int)) (g : List Int) : Prop where
  len : g.length = n
  own : ∀ b, b < n → ∀ w : Nat, g.getD b 0 = (w : Int) + 1 ↔ (w, (b : Int)) ∈ P
  nn : ∀ b, b < n → g.getD b 0 = 0 ∨ ∃ w : Nat, g.getD b 0 = (w : Int) + 1
  cw : ∀ w : Nat, (g.count ((w : Int) + 1)) = P.countP fun p => p.1 == w
  c0 : g.count 0 + P.length = n
theorem count_set (l : List Int) (x u : Int) : ∀ (k : Nat), k < l.length → (l.set k x).count u + (if l.getD k 0 = u then 1 else 0) = l.count u + (if x = u then 1 else 0) := by
  induction l with
  | nil => intro k h; simp at h
  | cons y l ih =>
    intro k h
    cases k with
    | zero =>
      show (x :: l).count u + (if y = u then 1 else 0) = (y :: l).count u + (if x = u then 1 else 0)
      rw [List.count_cons, List.count_cons]
      simp only [beq_iff_eq]
      omega
    | succ k =>
      have := ih k (by simpa using h)
      show (y :: l.set k x).count u + (if l.getD k 0 = u then 1 else 0) = (y :: l).count u + (if x = u then 1 else 0)
      rw [List.count_cons, List.count_cons]
      omega
theorem getD_set (l : List Int) (x : Int) (k j : Nat) (h : k < l.length) : (l.set k x).getD j 0 = if j = k then x else l.getD j 0 := by
  rw [List.getD_eq_getElem?_getD, List.getD_eq_getElem?_getD, List.getElem?_set]
  by_cases e : k = j
  · subst e
    rw [if_pos rfl, if_pos h, if_pos rfl]; rfl
  · rw [if_neg e, if_neg (fun z => e z.symm)]
theorem Stp.next {n : Nat} {P : List (Nat × Int)} {g : List Int} (S : Stp n P g) {b : Nat} (hb : b < n) (w : Nat) (h0 : g.getD b 0 = 0) : Stp n (P ++ [(w, (b : Int))]) (g.set b ((w : Int) + 1)) := by
  have hbl : b < g.length := by rw [S.len]; exact hb
  refine ⟨by rw [List.length_set]; exact S.len, fun c hc u => ?_, fun c hc => ?_, fun u => ?_, ?_⟩
  · rw [getD_set _ _ _ _ hbl, List.mem_append]
    by_cases e : c = b
    · subst e
      rw [if_pos rfl]
      constructor
      · intro h
        have : w = u := by omega
        subst this
        exact .inr (by simp)
      · rintro (h | h)
        · have := (S.own c hc u).2 h
          omega
        · simp only [List.mem_singleton, Prod.mk.injEq] at h
          omega
    · rw [if_neg e, S.own c hc u]
      constructor
      · exact .inl
      · rintro (h | h)
        · exact h
        · simp only [List.mem_singleton, Prod.mk.injEq] at h
          omega
  · rw [getD_set _ _ _ _ hbl]
    by_cases e : c = b
    · rw [if_pos e]; exact .inr ⟨w, rfl⟩
    · rw [if_neg e]; exact S.nn c hc
  · have := count_set g ((w : Int) + 1) ((u : Int) + 1) b hbl
    rw [h0, if_neg (by omega)] at this
    rw [List.countP_append, ← S.cw u, List.countP_cons, List.countP_nil]
    by_cases e : w = u
    · subst e
      rw [if_pos rfl] at this
      simp only [beq_self_eq_true, if_true]
      omega
    · rw [if_neg (by omega)] at this
      have e2 : ((w, (b : Int)).1 == u) = false := by simpa using e
      rw [if_neg (by rw [e2]; decide)]
      omega
  · have := count_set g ((w : Int) + 1) 0 b hbl
    rw [h0, if_pos rfl, if_neg (by omega)] at this
    have := S.c0
    rw [List.length_append, List.length_singleton]
    omega
end DCor
namespace DCom
open PySem DL
def pick (n : Nat) (p : Nat → Bool) : List Int := ((List.range n).filter p).map fun v : Nat => (v : Int)
theorem mem_pick {n : Nat} {p : Nat → Bool} {i : Int} : i ∈ pick n p ↔ ∃ v : Nat, v < n ∧ p v = true ∧ i = v := by
  unfold pick
  rw [List.mem_map]
  constructor
  · rintro ⟨v, hv, rfl⟩
    rw [List.mem_filter, List.mem_range] at hv
    exact ⟨v, hv.1, hv.2, rfl⟩
  · rintro ⟨v, h1, h2, rfl⟩
    exact ⟨v, List.mem_filter.2 ⟨List.mem_range.2 h1, h2⟩, rfl⟩
theorem pick_lt (n : Nat) (p : Nat → Bool) : (pick n p).Pairwise (· < ·) := by
  unfold pick
  refine List.pairwise_map.2 (List.Pairwise.imp ?_ (List.Pairwise.filter _ List.pairwise_lt_range))
  intro a b h
  omega
end DCom
namespace DCoo
open PySem DL DCom
end DCoo
namespace DCot
open PySem DL
open DCom hiding tp addT fm_len f_check_variants b_check_variants
variable {v n : Nat}
abbrev tp (r : List Int) : PyData := .tuple (r.map .int)
abbrev ls (r : List Int) : PyData := .list (r.map .int)
/-- a good row of an assignment -/
def Rw (v n : Nat) (r : List Int) : Prop := r.length = n ∧ ∀ i ∈ r, 0 ≤ i ∧ i < v
structure Kv (v n : Nat) (kv : List (Int × Int)) : Prop where
  nd : (kv.map Prod.fst).Nodup
  bnd : ∀ p ∈ kv, (0 ≤ p.1 ∧ p.1 < n) ∧ 0 ≤ p.2 ∧ p.2 < v
theorem nodup_leI : ∀ (S U : List Int), S.Nodup → (∀ p ∈ S, p ∈ U) → S.length ≤ U.length
  | [], _, _, _ => Nat.zero_le _
  | x :: S, U, hn, h => by
    obtain ⟨h1, h2⟩ := List.nodup_cons.1 hn
    have hx := h x List.mem_cons_self
    have := nodup_leI S (U.erase x) h2 fun p hp => (List.mem_erase_of_ne fun e => h1 (by rw [← e]; exact hp)).2 (h p (List.mem_cons_of_mem _ hp))
    rw [List.length_erase_of_mem hx] at this
    have := List.length_pos_of_mem hx
    rw [List.length_cons]
    omega
theorem Kv.len {kv : List (Int × Int)} (h : Kv v n kv) : kv.length ≤ n := by
  have := nodup_leI (kv.map Prod.fst) ((List.range n).map fun i : Nat => (i : Int)) h.nd fun k hk => by
    obtain ⟨p, hp, rfl⟩ := List.mem_map.1 hk
    have := (h.bnd p hp).1
    exact List.mem_map.2 ⟨p.1.toNat, List.mem_range.2 (by omega), Int.toNat_of_nonneg this.1⟩
  rw [List.length_map, List.length_map, List.length_range] at this
  exact this
theorem Kv.all {kv : List (Int × Int)} (h : Kv v n kv) (hl : kv.length = n) (b : Nat) (hb : b < n) : (b : Int) ∈ kv.map Prod.fst := by
  refine Classical.byContradiction fun z => ?_
  have h2 : Kv v n (kv ++ [((b : Int), 0)]) ∨ True := .inr trivial
  have := nodup_leI ((b : Int) :: kv.map Prod.fst) ((List.range n).map fun i : Nat => (i : Int)) (List.nodup_cons.2 ⟨z, h.nd⟩) fun k hk => by
    rcases List.mem_cons.1 hk with rfl | hk
    · exact List.mem_map.2 ⟨b, List.mem_range.2 hb, rfl⟩
    · obtain ⟨p, hp, rfl⟩ := List.mem_map.1 hk
      have := (h.bnd p hp).1
      exact List.mem_map.2 ⟨p.1.toNat, List.mem_range.2 (by omega), Int.toNat_of_nonneg this.1⟩
  rw [List.length_cons, List.length_map, List.length_map, List.length_range] at this
  omega
abbrev lat (L : List (List Int)) (j : Nat) : List Int := DCor.lat L j
abbrev tkT (Ls : List (List Int)) (a : List Int) (w : Nat) : List Int := (lat Ls w).take (a.getD w 0).toNat
structure LsT (Ls : List (List Int)) (v n : Nat) : Prop where
  len : Ls.length = v
  ord : ∀ l ∈ Ls, IsO l n
/-- a row by lists -/
def ByT (Ls : List (List Int)) (v n : Nat) (a s : List Int) : Prop := ∀ b w : Nat, b < n → w < v → (s.getD b 0 = (w : Int) ↔ (b : Int) ∈ tkT Ls a w)
structure Tbl (U : List (List Int)) (v n : Nat) : Prop where
  l1 : 1 ≤ U.length
  l6 : U.length ≤ 6
  rw : ∀ r ∈ U, Rw v n r
def Gd (Ls : List (List Int)) (v n : Nat) (r : List Int) : Prop := Rw v n r ∧ ∃ a, DCor.Alc a v n ∧ ByT Ls v n a r
end DCot
namespace DCot
open PySem DL
open DCom hiding tp addT fm_len f_check_variants b_check_variants
variable {v n : Nat}
abbrev chB : DL.Env → Out := sIf (tb1 (e2 dGt (eVar 2) (eC (.int 0)))) (sSetItem 5 (eFrz (eCall 2 f__law_next (avS 0 (avD (eVar 1) (avNil))))) (eFrz (eCall 2 f__law_next (avS 0 (avD (eVar 2) (avNil)))))) (sNx)
theorem ch_step (s : Strm) (hv1 : 1 ≤ v) (hv : v ≤ 5) (hn : n ≤ 20) (r : List Int) (hr : Rw v n r) (o3 o4 o6 : Option M) : ∃ (s' : Strm) (r' : List Int), Rw v n r' ∧
    chB [some s.m, some (.d (.int v)), some (.d (.int n)), o3, o4, some (.l (r.map .int)), o6] = .nx [some s'.m, some (.d (.int v)), some (.d (.int n)), o3, o4, some (.l (r'.map .int)), o6] := by
  by_cases c : 0 < n
  · have c1 : decide ((0 : Int) < (n : Int)) = true := decide_eq_true (by omega)
    obtain ⟨d, s1, q1, d1, d2⟩ := next_ex s (v : Int) (by omega) (by omega)
    obtain ⟨k, s2, q2, k1, k2⟩ := next_ex s1 (n : Int) (by omega) (by omega)
    have xi := ixN_int r.length k k1 (by rw [hr.1]; exact k2)
    refine ⟨s2, r.set k.toNat d, ⟨by rw [List.length_set]; exact hr.1, fun i hi => ?_⟩, ?_⟩
    · rcases List.mem_or_eq_of_mem_set hi with h | h
      · exact hr.2 i h
      · rw [h]; exact ⟨d1, d2⟩
    · simp only [dlall, chB, c1, q1, q2, List.length_map, xi, List.map_set]
  · have c1 : decide ((0 : Int) < (n : Int)) = false := decide_eq_false (by omega)
    exact ⟨s, r, hr, by simp only [dlall, chB, c1]⟩
def uat (U : List (List Int)) (j : Nat) : List Int := U.getD j []
theorem at_uat (U : List (List Int)) (j : Nat) (h : j < U.length) : L2.atI (U.map tp) (j : Int) = some (tp (uat U j)) := by
  rw [atI_nat, List.getElem?_map, List.getElem?_eq_getElem h]
  unfold uat
  rw [List.getD_eq_getElem?_getD, List.getElem?_eq_getElem h]
  rfl
theorem uat_mem {U : List (List Int)} {j : Nat} (h : j < U.length) : uat U j ∈ U := by
  unfold uat
  rw [List.getD_eq_getElem?_getD, List.getElem?_eq_getElem h]
  exact List.getElem_mem h
def lst (a b : List Int) (v : Nat) : Bool := chu a b == trf (cnt a v) (cnt b v)
def un2 (U : List (List Int)) (v i t : Nat) : Option PyData := if lst (uat U i) (uat U (i + 1 + t)) v = true then none else some (.tuple [.int i, .int ((i + 1 + t : Nat) : Int)])
def un1 (U : List (List Int)) (v i : Nat) : Option PyData := (List.range (U.length - (i + 1))).findSome? (un2 U v i)
def unF (U : List (List Int)) (v : Nat) : Option PyData := (List.range U.length).findSome? (un1 U v)
end DCot
namespace DCou
open PySem DL DCom DCoo
abbrev PP := List (Int × Int)
def base (F : PP) (v : Nat) (b : Int) : List Int := pick v fun o => !(F.contains (b, (o : Int)))
abbrev lst (m : List Int) : PyData := .list (m.map .int)
end DCou
namespace DCou
open PySem DL DCom DCoo
def mk (l : List Int) : Int := (l.map fun i => 2 ^ i.toNat).sum
abbrev KV2 := List (Int × Int)
def kd (ks : KV2) : List (Int × PyData) := ks.map fun p => (p.1, .int p.2)
def add1 : KV2 → Int → KV2
  | [], m => [(m, 1)]
  | p :: r, m => if p.1 = m then (p.1, p.2 + 1) :: r else p :: add1 r m
def tl (ms : List Int) : KV2 := ms.foldl add1 []
def cmbs (v k : Nat) : List (List Nat) := (combL v k).getD []
def shr (al : List Int) (x : List Nat) : Int := (x.map fun u => al.getD u 0).sum
def itz (x : List Nat) : List Int := x.map fun i : Nat => (i : Int)
def wth (ms : List Int) (w : Int) : Int := ((ms.countP fun m => Builtin.bitOr m w == w : Nat) : Int)
def smR (al ms : List Int) (x : List Nat) : Option (List Nat) := if shr al x < wth ms (mk (itz x)) then some x else none
def sm (al ms : List Int) : Option (List Nat) := (List.range (al.length + 1)).findSome? fun k => (cmbs al.length k).findSome? (smR al ms)
def setD : Option (List Nat) → PyData
  | none => .none
  | some x => natsD x
/-- what first_small asks of its allocation -/
structure Alc (d : PyData) (al : List Int) : Prop where
  len : bLen [d] = some (.int (al.length : Int))
  ix : ∀ u : Nat, u < al.length → dIx d (.int (u : Int)) = some (.int (al.getD u 0))
theorem Alc.l (al : List Int) : Alc (.list (al.map .int)) al := ⟨by simp [bLen], fun u hu => by
  show L2.atI (al.map PyData.int) (u : Int) = _
  simp [atI_nat, hu]⟩
theorem Alc.t (al : List Int) : Alc (tp al) al := ⟨by simp [bLen], fun u hu => by
  show L2.atI (al.map PyData.int) (u : Int) = _
  simp [atI_nat, hu]⟩
end DCou
namespace DCou
open PySem DL DCom DCoo
abbrev Pd := Nat → Bool
def dec (al : List Int) (u : Nat) : List Int := al.set u (al.getD u 0 - 1)
/-- the first assignment -/
def ff (v : Nat) : List Int → List Pd → Option (List Nat)
  | _, [] => some []
  | al, p :: ps => (List.range v).findSome? fun u => if (p u && decide (0 < al.getD u 0)) = true then (ff v (dec al u) ps).map (u :: ·) else none
end DCou
namespace DCou
open PySem DL DCom DCoo
theorem rowI (r : List Int) (j : Nat) (h : j < r.length) : L2.atI (r.map PyData.int) (j : Int) = some (.int (r.getD j 0)) := by simp [atI_nat, h]
end DCou
namespace DCou
open PySem DL DCom DCoo
end DCou
namespace DCou
open PySem DL DCom DCoo
end DCou
namespace DCov
open PySem DL DCom DCoo DCou
theorem Rw.sm {v n : Nat} {r : List Int} (hr : DCot.Rw v n r) : (cnt r v).sum = n := by rw [cntSum r v hr.2, hr.1]
end DCov
namespace DCox
open PySem DL DCom DCoo
open DCot (Rw Tbl Gd LsT ByT uat at_uat uat_mem lst unF tkT)
def bk (n w : Nat) (r : List Int) : List Int := pick n fun b => r.getD b 0 == (w : Int)
def rlen (a b : List Int) : Bool := decide (a.length ≤ b.length)
def srt (U : List (List Int)) (w n : Nat) : List (List Int) := (U.map (bk n w)).mergeSort rlen
def fstep (f r : List Int) : List Int := f ++ r.filter fun b => !(f.contains b)
def fo (U : List (List Int)) (w n : Nat) : List Int := (srt U w n).foldl fstep []
theorem enumTP (r : List Int) : enumD 0 (r.map PyData.int) = (List.range r.length).map fun j : Nat => .tuple [.int (j : Int), .int (r.getD j 0)] := by
  have key : ∀ (l : List Int) (n : Nat), enumD n (l.map .int) = (List.range l.length).map fun j : Nat => .tuple [.int ((n + j : Nat) : Int), .int (l.getD j 0)] := by
    intro l
    induction l with
    | nil => exact fun _ => rfl
    | cons x l ih =>
      intro n
      rw [List.map_cons, enumD, ih (n + 1), List.length_cons, List.range_succ_eq_map, List.map_cons, List.map_map]
      congr 1
      refine List.map_congr_left fun j _ => ?_
      show _ = PyData.tuple [.int ((n + (j + 1) : Nat) : Int), .int (l.getD j 0)]
      rw [Nat.add_assoc, Nat.add_comm 1 j]
  rw [key r 0]
  refine List.map_congr_left fun j _ => ?_
  rw [Nat.zero_add]
end DCox
namespace DCou
open PySem DL DCom DCoo
def inb (m : Nat) : PyData → Bool
  | .int i => decide (0 ≤ i) && decide (i < (m : Int))
  | _ => false
def toN : PyData → Nat
  | .int i => i.toNat
  | _ => 0
/-- short parts -/
def SV : PyData → Prop
  | .tuple xs => xs.length ≤ 1000
  | _ => True
theorem integer_e (d : PyData) : f_is_integer [.d d] = .rt (.d (.bool (whole d))) [none] := by
  cases d <;> simp only [dlall, DCoo.f_is_integer, DCoo.b_is_integer, whole_i, whole_b, whole_n, whole_s, whole_t, whole_l] <;> rfl
theorem law_integer_e (d : PyData) : f__law_is_integer [.d d] = .rt (.d (.bool (whole d))) [none] := by
  cases d <;> simp only [dlall, DCom.f__law_is_integer, DCom.b__law_is_integer, whole_i, whole_b, whole_n, whole_s, whole_t, whole_l] <;> rfl
theorem inb_row {m : Nat} : ∀ {xs : List PyData}, xs.all (inb m) = true → xs = (xs.map toN).map (fun i : Nat => PyData.int i) ∧ ∀ i ∈ xs.map toN, i < m
  | [], _ => ⟨rfl, fun i hi => by cases hi⟩
  | d :: xs, h => by
    rw [List.all_cons, Bool.and_eq_true] at h
    obtain ⟨h1, h2⟩ := inb_row h.2
    cases d with
    | int i =>
      have h0 := h.1
      unfold inb at h0
      rw [Bool.and_eq_true, decide_eq_true_eq, decide_eq_true_eq] at h0
      have e : ((i.toNat : Nat) : Int) = i := Int.toNat_of_nonneg h0.1
      refine ⟨?_, fun j hj => ?_⟩
      · rw [List.map_cons, List.map_cons, ← h1]
        show PyData.int i :: xs = PyData.int ((i.toNat : Nat) : Int) :: xs
        rw [e]
      · rw [List.map_cons] at hj
        rcases List.mem_cons.1 hj with rfl | hj
        · show i.toNat < m
          omega
        · exact h2 j hj
    | _ => cases h.1
end DCou
namespace DCou
open PySem DL DCom DCoo
end DCou
namespace DCou
open PySem DL DCom DCoo
end DCou
namespace DCou
open PySem DL DCom DCoo
end DCou
namespace DCox
open PySem DL DCom DCoo
open DCot (Rw Tbl Gd LsT ByT uat at_uat uat_mem lst unF tkT)
open DCou (inb toN inb_row SV rowI integer_e law_integer_e)
theorem cnt_at (r : List Int) {v w : Nat} (h : w < v) : (cnt r v).getD w 0 = ((r.count (w : Int) : Nat) : Int) := by
  unfold cnt
  rw [List.getD_eq_getElem?_getD, List.getElem?_map, List.getElem?_range h]
  rfl
end DCox
namespace DCoy
open PySem DL
open DCom hiding tp
open DCot (tp ls)
theorem lt_ii (a b : Int) : PySem.W.dataLt (.int a) (.int b) = decide (a < b) := by
  simp [PySem.W.dataLt, PySem.W.keyToks, PyProof.Rows.lexLt, PyProof.Rows.itemOrd, PyProof.Rows.itemLt]
theorem ok_ints (l : List Int) : okSort (l.map .int) = true := by
  unfold okSort
  rw [Bool.and_eq_true, Bool.and_eq_true, Bool.or_eq_true]
  refine ⟨⟨?_, .inr ?_⟩, ?_⟩
  · rw [List.all_eq_true]
    intro d hd
    rw [List.all_eq_true]
    intro e he
    obtain ⟨x, _, rfl⟩ := List.mem_map.1 hd
    obtain ⟨y, _, rfl⟩ := List.mem_map.1 he
    rw [PySem.W.alike]
  · rw [List.all_eq_true]
    intro d hd
    obtain ⟨x, _, rfl⟩ := List.mem_map.1 hd
    rfl
  · rw [List.all_eq_true]
    intro d hd
    obtain ⟨x, _, rfl⟩ := List.mem_map.1 hd
    rw [decide_eq_true_eq, PyData.depth]
    omega
theorem sort_ints (l m : List Int) (hp : m.Perm l) (hs : m.Pairwise (· ≤ ·)) : (l.map PyData.int).mergeSort srtLe = m.map .int := by
  have T : PySem.W.TotalLe srtLe := PySem.W.sortLe_total _ _ _
  have pw := PySem.W.sort_pairwise T (l.map PyData.int)
  have pm : ((l.map PyData.int).mergeSort srtLe).Perm (l.map .int) := List.mergeSort_perm _ _
  obtain ⟨k, hk⟩ : ∃ k : List Int, (l.map PyData.int).mergeSort srtLe = k.map .int := by
    have : ∀ d ∈ (l.map PyData.int).mergeSort srtLe, ∃ i, d = PyData.int i := fun d hd => by
      obtain ⟨i, _, rfl⟩ := List.mem_map.1 (pm.mem_iff.1 hd)
      exact ⟨i, rfl⟩
    generalize (l.map PyData.int).mergeSort srtLe = S at this
    induction S with
    | nil => exact ⟨[], rfl⟩
    | cons d S ih =>
      obtain ⟨i, rfl⟩ := this _ List.mem_cons_self
      obtain ⟨k, rfl⟩ := ih fun d hd => this d (List.mem_cons_of_mem _ hd)
      exact ⟨i :: k, rfl⟩
  rw [hk] at pw pm ⊢
  have inj : ∀ a b : List Int, (a.map PyData.int).Perm (b.map .int) → a.Perm b := fun a b h => by
    have := h.map (fun d => match d with | .int i => i | _ => 0)
    rw [List.map_map, List.map_map] at this
    have e : ((fun d : PyData => match d with | .int i => i | _ => 0) ∘ PyData.int) = id := rfl
    rw [e, List.map_id, List.map_id] at this
    exact this
  have pk := inj _ _ pm
  have sk : k.Pairwise (· ≤ ·) := by
    rw [List.pairwise_map] at pw
    refine pw.imp fun {a b} h => ?_
    have h : (!PySem.W.dataLt (.int b) (.int a)) = true := h
    rw [lt_ii, Bool.not_eq_true', decide_eq_false_iff_not] at h
    omega
  rw [sorted_unique (pk.trans hp.symm) sk hs]
structure St where
  w : List Int
  l : List Int
  e : List Int
abbrev gt0 (r : List Int) (i : Nat) : Int := r.getD i 0
def fo (cM : Addr) (a : List Int) (s : St) : M := .fo cM [("assignment", tp a), ("waiting", ls s.w), ("leaving", ls s.l), ("entering", ls s.e)]
def ob (cM : Addr) (a : List Int) (s : St) : M := .o cM [("assignment", .d (tp a)), ("waiting", .l (s.w.map .int)), ("leaving", .l (s.l.map .int)), ("entering", .l (s.e.map .int))]
/-- the variants that the next bucket, of variant u, can have -/
def opt (v : Nat) (s : St) (u c : Nat) : Bool := if c = u then decide (gt0 s.l u < gt0 s.w u) else decide (0 < gt0 s.l u) && decide (0 < gt0 s.e c)
def opts (v : Nat) (s : St) (u : Nat) : List Nat := (List.range v).filter (opt v s u)
def add1 (r : List Int) (i : Nat) : List Int := r.set i (r.getD i 0 - 1)
def tak (s : St) (u c : Nat) : St := if c = u then ⟨add1 s.w u, s.l, s.e⟩ else ⟨add1 s.w u, add1 s.l u, add1 s.e c⟩
/-- lengths, and no variant leaves and enters -/
structure Fit (v : Nat) (s : St) : Prop where
  lw : s.w.length = v
  ll : s.l.length = v
  le : s.e.length = v
  no : ∀ u, u < v → 0 < gt0 s.l u → gt0 s.e u ≤ 0
theorem sne : (("assignment" : Str) = "waiting") = False ∧ (("assignment" : Str) = "leaving") = False ∧ (("assignment" : Str) = "entering") = False ∧ (("waiting" : Str) = "leaving") = False ∧ (("waiting" : Str) = "entering") = False ∧ (("leaving" : Str) = "entering") = False ∧
    (("waiting" : Str) = "assignment") = False ∧ (("leaving" : Str) = "assignment") = False ∧ (("entering" : Str) = "assignment") = False ∧ (("leaving" : Str) = "waiting") = False ∧ (("entering" : Str) = "waiting") = False ∧ (("entering" : Str) = "leaving") = False := by
  refine ⟨?_, ?_, ?_, ?_, ?_, ?_, ?_, ?_, ?_, ?_, ?_, ?_⟩ <;> exact eq_false (by decide)
section
variable (cM : Addr) (a : List Int) (s : St)
theorem fo_a : fldM cM "assignment" (fo cM a s) = some (tp a) := by simp [fldM, fo, lookF]
theorem fo_w : fldM cM "waiting" (fo cM a s) = some (ls s.w) := by simp [fldM, fo, lookF, sne]
theorem fo_l : fldM cM "leaving" (fo cM a s) = some (ls s.l) := by simp [fldM, fo, lookF, sne]
theorem fo_e : fldM cM "entering" (fo cM a s) = some (ls s.e) := by simp [fldM, fo, lookF, sne]
theorem ob_a : fldM cM "assignment" (ob cM a s) = some (tp a) := by simp [fldM, ob, lookF, flD]
theorem ix_w (k : Int) : fldIx cM "waiting" (ob cM a s) (.int k) = L2.atI (s.w.map PyData.int) k := by simp [fldIx, ob, lookF, sne, flL]
theorem ix_l (k : Int) : fldIx cM "leaving" (ob cM a s) (.int k) = L2.atI (s.l.map PyData.int) k := by simp [fldIx, ob, lookF, sne, flL]
theorem ix_e (k : Int) : fldIx cM "entering" (ob cM a s) (.int k) = L2.atI (s.e.map PyData.int) k := by simp [fldIx, ob, lookF, sne, flL]
theorem ixN_nat {k m : Nat} (h : k < m) : L2.ixN m (k : Int) = some k := by
  unfold L2.ixN
  simp [h]
theorem set_w {u : Nat} (h : u < s.w.length) (x : Int) : setM cM "waiting" (.int x) (ob cM a s) (.int (u : Int)) = some (ob cM a ⟨s.w.set u x, s.l, s.e⟩) := by
  simp [setM, ob, lookF, sne, flL, ixN_nat h, putFl, List.map_set]
theorem set_l {u : Nat} (h : u < s.l.length) (x : Int) : setM cM "leaving" (.int x) (ob cM a s) (.int (u : Int)) = some (ob cM a ⟨s.w, s.l.set u x, s.e⟩) := by
  simp [setM, ob, lookF, sne, flL, ixN_nat h, putFl, List.map_set]
theorem set_e {u : Nat} (h : u < s.e.length) (x : Int) : setM cM "entering" (.int x) (ob cM a s) (.int (u : Int)) = some (ob cM a ⟨s.w, s.l, s.e.set u x⟩) := by
  simp [setM, ob, lookF, sne, flL, ixN_nat h, putFl, List.map_set]
/-- the making -/
theorem init_e (A W L E : PyData) (w l e : List PyData) (hW : seqOf W = some w) (hL : seqOf L = some l) (hE : seqOf E = some e) (lw : w.length ≤ 16777216) (ll : l.length ≤ 16777216) (le : e.length ≤ 16777216) :
    f_Moves_init cM [.o cM [], .d A, .d W, .d L, .d E] = .rt (.d .none) [some (.o cM [("assignment", .d A), ("waiting", .l w), ("leaving", .l l), ("entering", .l e)]), none, none, none, none] := by
  have p1 : putMF cM "assignment" A (.o cM []) = some (.o cM [("assignment", .d A)]) := by simp [putMF, lookF, putFl]
  have p2 : putML cM "waiting" (.l w) (.o cM [("assignment", .d A)]) = some (.o cM [("assignment", .d A), ("waiting", .l w)]) := by simp [putML, lookF, putFl, sne]
  have p3 : putML cM "leaving" (.l l) (.o cM [("assignment", .d A), ("waiting", .l w)]) = some (.o cM [("assignment", .d A), ("waiting", .l w), ("leaving", .l l)]) := by simp [putML, lookF, putFl, sne]
  have p4 : putML cM "entering" (.l e) (.o cM [("assignment", .d A), ("waiting", .l w), ("leaving", .l l)]) = some (.o cM [("assignment", .d A), ("waiting", .l w), ("leaving", .l l), ("entering", .l e)]) := by simp [putML, lookF, putFl, sne]
  have l1 : ∀ (D : PyData) (d : List PyData), seqOf D = some d → seqOne [D] = some d := fun D d h => by
    cases D with
    | list xs => cases h; rfl
    | tuple xs => cases h; rfl
    | _ => cases h
  have q2 := l1 W w hW
  have q3 := l1 L l hL
  have q4 := l1 E e hE
  simp only [dlall, f_Moves_init, b_Moves_init, DL.eFld_eq, DL.eFldIx_eq, DL.setFl_eq, DL.sFldSet_eq, DL.eMeth_eq, DL.eMethO_eq, DL.aoNil_eq, DL.aoD_eq, DL.aoL_eq, DL.aoT_eq, DL.aoMs_nil, DL.aoMs_cons, DL.aoM_d, DL.aoM_l, DL.aoM_t, DL.toRO_rt, DL.callO_eq, DL.eCallO_eq, DL.lendM_d, DL.resO_d, DL.resO_l, DL.eMake_eq, DL.toMk_rt, DL.putFld_eq, DL.sFldD_eq, DL.putFldL_eq, DL.sFldL_eq, p1, q2, lw, p2, q3, ll, p3, q4, le, p4]
end
end DCoy
namespace DCoy
open PySem DL
open DCom hiding tp
open DCot (tp ls)
section
variable (cM : Addr) (a : List Int) (s : St) {v : Nat}
abbrev cs (x : List Nat) : List Int := x.map fun i : Nat => (i : Int)
def posE (v : Nat) (s : St) : List Nat := (List.range v).filter fun c => decide (0 < gt0 s.e c)
theorem opts_nd (v : Nat) (s : St) (u : Nat) : (opts v s u).Nodup := List.nodup_range.sublist List.filter_sublist
theorem opts_mem {v : Nat} {s : St} {u c : Nat} : c ∈ opts v s u ↔ c < v ∧ opt v s u c = true := by
  unfold opts
  rw [List.mem_filter, List.mem_range]
theorem opts_sorted (v : Nat) (s : St) (u : Nat) : (cs (opts v s u)).Pairwise (· < ·) := by
  rw [List.pairwise_map]
  exact (List.pairwise_lt_range.sublist List.filter_sublist).imp fun h => by omega
/-- what is found, in any order -/
def raw (v : Nat) (s : St) (u : Nat) : List Nat := (if gt0 s.l u < gt0 s.w u then [u] else []) ++ (if 0 < gt0 s.l u then posE v s else [])
theorem raw_perm {v : Nat} {s : St} (F : Fit v s) {u : Nat} (hu : u < v) : (opts v s u).Perm (raw v s u) := by
  have pm : ∀ c, c ∈ posE v s ↔ c < v ∧ 0 < gt0 s.e c := fun c => by
    unfold posE
    rw [List.mem_filter, List.mem_range, decide_eq_true_eq]
  have nu : 0 < gt0 s.l u → u ∉ posE v s := fun h z => by
    have := F.no u hu h
    have := ((pm u).1 z).2
    omega
  have ndP : (posE v s).Nodup := List.nodup_range.sublist List.filter_sublist
  have ndr : (raw v s u).Nodup := by
    unfold raw
    rw [List.nodup_append]
    refine ⟨by split <;> simp, by split; exact ndP; exact List.nodup_nil, fun x hx y hy => ?_⟩
    split at hx
    · rw [List.mem_singleton] at hx
      split at hy
      · rename_i h
        rintro rfl
        rw [hx] at hy
        exact nu h hy
      · cases hy
    · cases hx
  refine (List.perm_ext_iff_of_nodup (opts_nd v s u) ndr).2 fun c => ?_
  rw [opts_mem]
  unfold raw opt
  rw [List.mem_append]
  by_cases hc : c = u
  · subst hc
    rw [if_pos rfl, decide_eq_true_eq]
    constructor
    · rintro ⟨_, h⟩
      rw [if_pos h]; exact .inl (by simp)
    · rintro (h | h)
      · split at h
        · rename_i h2; exact ⟨hu, h2⟩
        · cases h
      · split at h
        · rename_i h2; exact absurd h (nu h2)
        · cases h
  · rw [if_neg hc, Bool.and_eq_true, decide_eq_true_eq, decide_eq_true_eq]
    constructor
    · rintro ⟨h1, h2, h3⟩
      rw [if_pos h2]
      exact .inr ((pm c).2 ⟨h1, h3⟩)
    · rintro (h | h)
      · split at h
        · rw [List.mem_singleton] at h; exact absurd h hc
        · cases h
      · split at h
        · rename_i h2
          have := (pm c).1 h
          exact ⟨this.1, h2, this.2⟩
        · cases h
theorem options_e {b u : Nat} (F : Fit v s) (hb : L2.atI (a.map PyData.int) (b : Int) = some (.int (u : Int))) (hu : u < v) (hv : v ≤ 1000) : f_Moves_options cM [fo cM a s, .d (.int b)] = .rt (.l ((cs (opts v s u)).map .int)) [none, none] := by
  have f1 := fo_a cM a s
  have f2 := fo_w cM a s
  have f3 := fo_l cM a s
  have f4 := fo_e cM a s
  have aw := DCor.at_row s.w u (by rw [F.lw]; exact hu)
  have al := DCor.at_row s.l u (by rw [F.ll]; exact hu)
  have en := DCox.enumTP s.e
  rw [F.le] at en
  have cg := fun (o3 : Option M) => compGo_map (g := gT 2 (gsC (gN 5) (gsC (gN 4) (gsN)))) (tt := tb1 (e2 dGt (eVar 4) (eC (.int 0)))) (te := eVar 5) (vs := [5, 4]) (emb := fun j : Nat => PyData.tuple [.int (j : Int), .int (s.e.getD j 0)]) (e := [some (fo cM a s), some (.d (.int b)), some (.d (.int u)), o3, none, none]) (fun c => decide (0 < gt0 s.e c)) (fun j => .int (j : Int)) (List.range v) [] (fun j hj => by
    refine ⟨[some (fo cM a s), some (.d (.int b)), some (.d (.int u)), o3, some (.d (.int (s.e.getD j 0))), some (.d (.int j))], ?_, ?_, fun _ => ?_, ?_⟩
    · simp only [dlall]
    · simp only [dlall, gt0]
    · simp only [dlall]
    · simp only [dlall])
  rw [← en] at cg
  have m1 : ((List.range v).filter fun c => decide (0 < gt0 s.e c)).map (fun j : Nat => PyData.int (j : Int)) = (cs (posE v s)).map .int := by
    unfold cs posE; rw [List.map_map]; rfl
  rw [m1] at cg
  simp only [List.nil_append] at cg
  have pl : (posE v s).length ≤ 1000 := by
    have : (posE v s).length ≤ (List.range v).length := List.length_filter_le _ _
    rw [List.length_range] at this
    omega
  have fin : ∀ X : List PyData, X = (cs (raw v s u)).map .int → (if okSort X = true then some (M.l (X.mergeSort srtLe)) else none) = some (.l ((cs (opts v s u)).map .int)) := by
    rintro X rfl
    rw [if_pos (ok_ints _), sort_ints _ (cs (opts v s u)) ((raw_perm F hu).map _) ((opts_sorted v s u).imp fun h => by omega)]
  have add : ∀ X : List PyData, X.length ≤ 1 → dAdd (.list X) (.list ((cs (posE v s)).map .int)) = some (.list (X ++ (cs (posE v s)).map .int)) := fun X hX => if_pos (by rw [List.length_map, List.length_map]; omega)
  have ap : mApp [] [.int (u : Int)] = some (.none, [.int (u : Int)]) := rfl
  have a0 := add [] (by simp)
  have a1 := add [.int (u : Int)] (by simp)
  rw [List.nil_append] at a0
  have hraw : raw v s u = (if gt0 s.l u < gt0 s.w u then [u] else []) ++ (if 0 < gt0 s.l u then posE v s else []) := rfl
  have eL : ∀ X e, asL (.list X) e = .ok (.l X) e := fun _ _ => rfl
  by_cases c1 : gt0 s.l u < gt0 s.w u
  · have d1 : decide (s.l.getD u 0 < s.w.getD u 0) = true := decide_eq_true c1
    by_cases c2 : 0 < gt0 s.l u
    · have d2 : decide (0 < s.l.getD u 0) = true := decide_eq_true c2
      rw [if_pos c1, if_pos c2] at hraw
      have f := fin (.int (u : Int) :: (cs (posE v s)).map .int) (by rw [hraw]; rfl)
      have a1 : dAdd (.list [.int (u : Int)]) (.list ((cs (posE v s)).map .int)) = some (.list (.int (u : Int) :: (cs (posE v s)).map .int)) := a1
      generalize (cs (posE v s)).map PyData.int = PE at *
      generalize s.w.getD u 0 = wu at *
      generalize s.l.getD u 0 = lu at *
      generalize fo cM a s = fO at *
      simp only [dlall, f_Moves_options, b_Moves_options, DL.eFld_eq, DL.eFldIx_eq, DL.setFl_eq, DL.sFldSet_eq, DL.eMeth_eq, DL.eMethO_eq, DL.aoNil_eq, DL.aoD_eq, DL.aoL_eq, DL.aoT_eq, DL.aoMs_nil, DL.aoMs_cons, DL.aoM_d, DL.aoM_l, DL.aoM_t, DL.toRO_rt, DL.callO_eq, DL.eCallO_eq, DL.lendM_d, DL.resO_d, DL.resO_l, DL.eMake_eq, DL.toMk_rt, DL.putFld_eq, DL.sFldD_eq, DL.putFldL_eq, DL.sFldL_eq, f1, f2, f3, f4, hb, aw, al, d1, ap, d2, cg, mOp_eq, a1, eL, mSrtO_eq, f]
    · have d2 : decide (0 < s.l.getD u 0) = false := decide_eq_false c2
      rw [if_pos c1, if_neg c2] at hraw
      have f := fin [.int (u : Int)] (by rw [hraw]; rfl)
      generalize s.w.getD u 0 = wu at *
      generalize s.l.getD u 0 = lu at *
      generalize fo cM a s = fO at *
      simp only [dlall, f_Moves_options, b_Moves_options, DL.eFld_eq, DL.eFldIx_eq, DL.setFl_eq, DL.sFldSet_eq, DL.eMeth_eq, DL.eMethO_eq, DL.aoNil_eq, DL.aoD_eq, DL.aoL_eq, DL.aoT_eq, DL.aoMs_nil, DL.aoMs_cons, DL.aoM_d, DL.aoM_l, DL.aoM_t, DL.toRO_rt, DL.callO_eq, DL.eCallO_eq, DL.lendM_d, DL.resO_d, DL.resO_l, DL.eMake_eq, DL.toMk_rt, DL.putFld_eq, DL.sFldD_eq, DL.putFldL_eq, DL.sFldL_eq, f1, f2, f3, f4, hb, aw, al, d1, ap, d2, mSrtO_eq, f]
  · have d1 : decide (s.l.getD u 0 < s.w.getD u 0) = false := decide_eq_false c1
    by_cases c2 : 0 < gt0 s.l u
    · have d2 : decide (0 < s.l.getD u 0) = true := decide_eq_true c2
      rw [if_neg c1, if_pos c2] at hraw
      have f := fin ((cs (posE v s)).map .int) (by rw [hraw]; rfl)
      generalize (cs (posE v s)).map PyData.int = PE at *
      generalize s.w.getD u 0 = wu at *
      generalize s.l.getD u 0 = lu at *
      generalize fo cM a s = fO at *
      simp only [dlall, f_Moves_options, b_Moves_options, DL.eFld_eq, DL.eFldIx_eq, DL.setFl_eq, DL.sFldSet_eq, DL.eMeth_eq, DL.eMethO_eq, DL.aoNil_eq, DL.aoD_eq, DL.aoL_eq, DL.aoT_eq, DL.aoMs_nil, DL.aoMs_cons, DL.aoM_d, DL.aoM_l, DL.aoM_t, DL.toRO_rt, DL.callO_eq, DL.eCallO_eq, DL.lendM_d, DL.resO_d, DL.resO_l, DL.eMake_eq, DL.toMk_rt, DL.putFld_eq, DL.sFldD_eq, DL.putFldL_eq, DL.sFldL_eq, f1, f2, f3, f4, hb, aw, al, d1, d2, cg, mOp_eq, a0, eL, mSrtO_eq, f]
    · have d2 : decide (0 < s.l.getD u 0) = false := decide_eq_false c2
      rw [if_neg c1, if_neg c2] at hraw
      have f := fin [] (by rw [hraw]; rfl)
      generalize s.w.getD u 0 = wu at *
      generalize s.l.getD u 0 = lu at *
      generalize fo cM a s = fO at *
      simp only [dlall, f_Moves_options, b_Moves_options, DL.eFld_eq, DL.eFldIx_eq, DL.setFl_eq, DL.sFldSet_eq, DL.eMeth_eq, DL.eMethO_eq, DL.aoNil_eq, DL.aoD_eq, DL.aoL_eq, DL.aoT_eq, DL.aoMs_nil, DL.aoMs_cons, DL.aoM_d, DL.aoM_l, DL.aoM_t, DL.toRO_rt, DL.callO_eq, DL.eCallO_eq, DL.lendM_d, DL.resO_d, DL.resO_l, DL.eMake_eq, DL.toMk_rt, DL.putFld_eq, DL.sFldD_eq, DL.putFldL_eq, DL.sFldL_eq, f1, f2, f3, f4, hb, aw, al, d1, d2, mSrtO_eq, f]
theorem take_e {b u c : Nat} (F : Fit v s) (hb : L2.atI (a.map PyData.int) (b : Int) = some (.int (u : Int))) (hu : u < v) (hc : c < v) : f_Moves_take cM [ob cM a s, .d (.int b), .d (.int c)] = .rt (.d .none) [some (ob cM a (tak s u c)), none, none] := by
  have f1 := ob_a cM a s
  have i1 := ix_w cM a s (u : Int)
  have aw := DCor.at_row s.w u (by rw [F.lw]; exact hu)
  have s1 := set_w cM a s (u := u) (by rw [F.lw]; exact hu) (s.w.getD u 0 - 1)
  have i2 := ix_l cM a ⟨s.w.set u (s.w.getD u 0 - 1), s.l, s.e⟩ (u : Int)
  have al := DCor.at_row s.l u (by rw [F.ll]; exact hu)
  have s2 := set_l cM a ⟨s.w.set u (s.w.getD u 0 - 1), s.l, s.e⟩ (u := u) (by show u < s.l.length; rw [F.ll]; exact hu) (s.l.getD u 0 - 1)
  have i3 := ix_e cM a ⟨s.w.set u (s.w.getD u 0 - 1), s.l.set u (s.l.getD u 0 - 1), s.e⟩ (c : Int)
  have ae := DCor.at_row s.e c (by rw [F.le]; exact hc)
  have s3 := set_e cM a ⟨s.w.set u (s.w.getD u 0 - 1), s.l.set u (s.l.getD u 0 - 1), s.e⟩ (u := c) (by show c < s.e.length; rw [F.le]; exact hc) (s.e.getD c 0 - 1)
  by_cases e : c = u
  · have g : ((c : Int) == (u : Int)) = true := by simp [e]
    have t : tak s u c = ⟨s.w.set u (s.w.getD u 0 - 1), s.l, s.e⟩ := by unfold tak add1; rw [if_pos e]
    rw [t]
    generalize s.w.getD u 0 = wu at *
    generalize ob cM a ⟨s.w.set u (wu - 1), s.l, s.e⟩ = O1 at *
    generalize ob cM a s = O0 at *
    simp only [dlall, f_Moves_take, b_Moves_take, DL.eFld_eq, DL.eFldIx_eq, DL.setFl_eq, DL.sFldSet_eq, DL.eMeth_eq, DL.eMethO_eq, DL.aoNil_eq, DL.aoD_eq, DL.aoL_eq, DL.aoT_eq, DL.aoMs_nil, DL.aoMs_cons, DL.aoM_d, DL.aoM_l, DL.aoM_t, DL.toRO_rt, DL.callO_eq, DL.eCallO_eq, DL.lendM_d, DL.resO_d, DL.resO_l, DL.eMake_eq, DL.toMk_rt, DL.putFld_eq, DL.sFldD_eq, DL.putFldL_eq, DL.sFldL_eq, f1, hb, i1, aw, s1, g]
  · have g : ((c : Int) == (u : Int)) = false := by rw [beq_eq_false_iff_ne]; omega
    have t : tak s u c = ⟨s.w.set u (s.w.getD u 0 - 1), s.l.set u (s.l.getD u 0 - 1), s.e.set c (s.e.getD c 0 - 1)⟩ := by unfold tak add1; rw [if_neg e]
    rw [t]
    dsimp only at i2 i3 s2 s3
    generalize s.w.getD u 0 = wu at *
    generalize s.l.getD u 0 = lu at *
    generalize s.e.getD c 0 = ec at *
    generalize ob cM a ⟨s.w.set u (wu - 1), s.l.set u (lu - 1), s.e.set c (ec - 1)⟩ = O3 at *
    generalize ob cM a ⟨s.w.set u (wu - 1), s.l.set u (lu - 1), s.e⟩ = O2 at *
    generalize ob cM a ⟨s.w.set u (wu - 1), s.l, s.e⟩ = O1 at *
    generalize ob cM a s = O0 at *
    simp only [dlall, f_Moves_take, b_Moves_take, DL.eFld_eq, DL.eFldIx_eq, DL.setFl_eq, DL.sFldSet_eq, DL.eMeth_eq, DL.eMethO_eq, DL.aoNil_eq, DL.aoD_eq, DL.aoL_eq, DL.aoT_eq, DL.aoMs_nil, DL.aoMs_cons, DL.aoM_d, DL.aoM_l, DL.aoM_t, DL.toRO_rt, DL.callO_eq, DL.eCallO_eq, DL.lendM_d, DL.resO_d, DL.resO_l, DL.eMake_eq, DL.toMk_rt, DL.putFld_eq, DL.sFldD_eq, DL.putFldL_eq, DL.sFldL_eq, f1, hb, i1, aw, s1, g, i2, al, s2, i3, ae, s3]
end
end DCoy
namespace DCoy
open PySem DL
open DCom hiding tp
open DCot (tp ls)
def mx0 (x : Int) : Int := if x > 0 then x else 0
def difL (b c : List Int) : List Int := (b.zip c).map fun q => mx0 (q.1 - q.2)
def difR (b c : List Int) : List Int := (b.zip c).map fun q => mx0 (q.2 - q.1)
def st0 (al a : List Int) : St := ⟨cnt a al.length, difL (cnt a al.length) al, difR (cnt a al.length) al⟩
end DCoy
namespace DCoy
open PySem DL
open DCom hiding tp
open DCot (tp ls)
variable {v : Nat} {s : St}
theorem sum_set : ∀ (r : List Int) (i : Nat) (x : Int), i < r.length → (r.set i x).sum = r.sum - gt0 r i + x
  | [], i, x, h => by simp at h
  | y :: r, 0, x, h => by simp [gt0]; omega
  | y :: r, i + 1, x, h => by
    have := sum_set r i x (by simpa using h)
    simp only [List.set_cons_succ, List.sum_cons, gt0, List.getD_cons_succ] at this ⊢
    omega
theorem sum_add1 (r : List Int) (i : Nat) (h : i < r.length) : (add1 r i).sum = r.sum - 1 := by
  unfold add1
  rw [sum_set r i _ h]
  show r.sum - gt0 r i + (gt0 r i - 1) = _
  omega
theorem len_add1 (r : List Int) (i : Nat) : (add1 r i).length = r.length := by simp [add1]
theorem get_add1 (r : List Int) (i j : Nat) (h : i < r.length) : gt0 (add1 r i) j = if j = i then gt0 r j - 1 else gt0 r j := by
  unfold add1 gt0
  by_cases e : j = i
  · subst e
    rw [if_pos rfl, List.getD_eq_getElem?_getD, List.getElem?_set_self h]
    rfl
  · rw [if_neg e, List.getD_eq_getElem?_getD, List.getElem?_set_ne (by omega), ← List.getD_eq_getElem?_getD]
theorem le_sum0 : ∀ (r : List Int), (∀ i, i < r.length → 0 ≤ gt0 r i) → 0 ≤ r.sum ∧ ∀ i, i < r.length → gt0 r i ≤ r.sum
  | [], _ => ⟨by simp, fun i hi => by simp at hi⟩
  | y :: r, h => by
    have ih := le_sum0 r fun i hi => by
      have := h (i + 1) (by simpa using hi)
      simpa [gt0] using this
    have h0 := h 0 (by simp)
    simp only [gt0, List.getD_cons_zero] at h0
    refine ⟨by rw [List.sum_cons]; omega, fun i hi => ?_⟩
    rw [List.sum_cons]
    cases i with
    | zero => simp only [gt0, List.getD_cons_zero]; omega
    | succ i =>
      have := ih.2 i (by simpa using hi)
      simp only [gt0, List.getD_cons_succ] at this ⊢
      omega
theorem pos_ex : ∀ (r : List Int), 0 < r.sum → ∃ i, i < r.length ∧ 0 < gt0 r i
  | [], h => by simp at h
  | y :: r, h => by
    by_cases c : 0 < y
    · exact ⟨0, by simp, by simpa [gt0] using c⟩
    · rw [List.sum_cons] at h
      obtain ⟨i, h1, h2⟩ := pos_ex r (by omega)
      exact ⟨i + 1, by simpa using h1, by simpa [gt0] using h2⟩
structure Inv (v : Nat) (s : St) (rem : List Nat) : Prop where
  F : Fit v s
  rm : ∀ u ∈ rem, u < v
  w : ∀ u, u < v → gt0 s.w u = rem.count u
  l0 : ∀ u, u < v → 0 ≤ gt0 s.l u ∧ gt0 s.l u ≤ gt0 s.w u
  e0 : ∀ u, u < v → 0 ≤ gt0 s.e u
  se : s.l.sum = s.e.sum
theorem Inv.opts_ne {u : Nat} {rem : List Nat} (I : Inv v s (u :: rem)) : opts v s u ≠ [] := by
  have hu := I.rm u List.mem_cons_self
  have hw := I.w u hu
  rw [List.count_cons_self] at hw
  have hl := I.l0 u hu
  by_cases c : gt0 s.l u < gt0 s.w u
  · have : u ∈ opts v s u := opts_mem.2 ⟨hu, by unfold opt; rw [if_pos rfl, decide_eq_true_eq]; exact c⟩
    exact List.ne_nil_of_mem this
  · have l1 : 0 < gt0 s.l u := by omega
    have sl := le_sum0 s.l fun i hi => (I.l0 i (by rw [← I.F.ll]; exact hi)).1
    have := sl.2 u (by rw [I.F.ll]; exact hu)
    obtain ⟨i, i1, i2⟩ := pos_ex s.e (by rw [← I.se]; omega)
    rw [I.F.le] at i1
    have ne : i ≠ u := fun z => by
      have := I.F.no u hu l1
      rw [z] at i2
      omega
    have : i ∈ opts v s u := opts_mem.2 ⟨i1, by
      unfold opt
      rw [if_neg ne, Bool.and_eq_true, decide_eq_true_eq, decide_eq_true_eq]
      exact ⟨l1, i2⟩⟩
    exact List.ne_nil_of_mem this
theorem Inv.tak {u c : Nat} {rem : List Nat} (I : Inv v s (u :: rem)) (hc : c ∈ opts v s u) : Inv v (tak s u c) rem := by
  have hu := I.rm u List.mem_cons_self
  obtain ⟨c1, c2⟩ := opts_mem.1 hc
  have lw : u < s.w.length := by rw [I.F.lw]; exact hu
  have ll : u < s.l.length := by rw [I.F.ll]; exact hu
  have le : c < s.e.length := by rw [I.F.le]; exact c1
  have cnt0 : ∀ x, x < v → gt0 (add1 s.w u) x = rem.count x := fun x hx => by
    rw [get_add1 _ _ _ lw, I.w x hx]
    by_cases e : x = u
    · subst e; rw [if_pos rfl, List.count_cons_self]; omega
    · rw [if_neg e, List.count_cons_of_ne (by simpa using fun z => e z.symm)]
  unfold opt at c2
  by_cases e : c = u
  · rw [if_pos e, decide_eq_true_eq] at c2
    unfold DCoy.tak
    rw [if_pos e]
    refine ⟨⟨by show (add1 s.w u).length = v; rw [len_add1, I.F.lw], I.F.ll, I.F.le, I.F.no⟩, fun x hx => I.rm x (List.mem_cons_of_mem _ hx), cnt0, fun x hx => ⟨(I.l0 x hx).1, ?_⟩, I.e0, I.se⟩
    show gt0 s.l x ≤ gt0 (add1 s.w u) x
    rw [get_add1 _ _ _ lw]
    have := (I.l0 x hx).2
    by_cases ex : x = u
    · subst ex; rw [if_pos rfl]; omega
    · rw [if_neg ex]; exact this
  · rw [if_neg e, Bool.and_eq_true, decide_eq_true_eq, decide_eq_true_eq] at c2
    unfold DCoy.tak
    rw [if_neg e]
    refine ⟨⟨by show (add1 s.w u).length = v; rw [len_add1, I.F.lw], by show (add1 s.l u).length = v; rw [len_add1, I.F.ll], by show (add1 s.e c).length = v; rw [len_add1, I.F.le], fun x hx h => ?_⟩, fun x hx => I.rm x (List.mem_cons_of_mem _ hx), cnt0, fun x hx => ?_, fun x hx => ?_, ?_⟩
    · have h : 0 < gt0 (add1 s.l u) x := h
      show gt0 (add1 s.e c) x ≤ 0
      rw [get_add1 _ _ _ ll] at h
      rw [get_add1 _ _ _ le]
      have : 0 < gt0 s.l x := by split at h <;> omega
      have := I.F.no x hx this
      split <;> omega
    · show 0 ≤ gt0 (add1 s.l u) x ∧ gt0 (add1 s.l u) x ≤ gt0 (add1 s.w u) x
      rw [get_add1 _ _ _ ll, get_add1 _ _ _ lw]
      have := I.l0 x hx
      by_cases ex : x = u
      · subst ex; rw [if_pos rfl, if_pos rfl]; omega
      · rw [if_neg ex, if_neg ex]; exact this
    · show 0 ≤ gt0 (add1 s.e c) x
      rw [get_add1 _ _ _ le]
      have := I.e0 x hx
      by_cases ex : x = c
      · subst ex; rw [if_pos rfl]; omega
      · rw [if_neg ex]; exact this
    · show (add1 s.l u).sum = (add1 s.e c).sum
      rw [sum_add1 _ _ ll, sum_add1 _ _ le, I.se]
theorem dif_get (b c : List Int) (h : b.length = c.length) (i : Nat) (hi : i < b.length) : gt0 (difL b c) i = mx0 (gt0 b i - gt0 c i) ∧ gt0 (difR b c) i = mx0 (gt0 c i - gt0 b i) := by
  unfold difL difR gt0
  have hc : i < c.length := by omega
  simp only [List.getD_eq_getElem?_getD, List.getElem?_map, List.getElem?_zip_eq_some, List.zip, List.getElem?_zipWith, List.getElem?_eq_getElem hi, List.getElem?_eq_getElem hc]
  exact ⟨rfl, rfl⟩
theorem dif_len (b c : List Int) (h : b.length = c.length) : (difL b c).length = b.length ∧ (difR b c).length = b.length := by
  unfold difL difR
  rw [List.length_map, List.length_map, List.length_zip]
  omega
theorem dif_sum : ∀ (b c : List Int), b.length = c.length → (difL b c).sum - (difR b c).sum = b.sum - c.sum
  | [], [], _ => rfl
  | x :: b, y :: c, h => by
    have ih := dif_sum b c (by simpa using h)
    have e1 : difL (x :: b) (y :: c) = mx0 (x - y) :: difL b c := rfl
    have e2 : difR (x :: b) (y :: c) = mx0 (y - x) :: difR b c := rfl
    rw [e1, e2, List.sum_cons, List.sum_cons, List.sum_cons, List.sum_cons]
    have : mx0 (x - y) - mx0 (y - x) = x - y := by unfold mx0; split <;> split <;> omega
    omega
  | [], _ :: _, h => by simp at h
  | _ :: _, [], h => by simp at h
theorem cnt_cs (A : List Nat) {v u : Nat} (hu : u < v) : gt0 (cnt (cs A) v) u = A.count u := by
  unfold gt0
  rw [DCox.cnt_at (cs A) hu]
  unfold cs
  congr 1
  induction A with
  | nil => rfl
  | cons x A ih =>
    rw [List.map_cons, List.count_cons, List.count_cons, ih]
    by_cases e : x = u
    · subst e; simp
    · rw [if_neg (by simpa using fun z => e (by omega)), if_neg (by simpa using e)]
end DCoy
namespace DCoy
open PySem DL
open DCom hiding tp
open DCot (tp ls)
variable {v : Nat} {s : St}
def enm (v : Nat) : St → List Nat → List (List Nat)
  | _, [] => [[]]
  | s, u :: rem => (opts v s u).flatMap fun c => (enm v (tak s u c) rem).map (c :: ·)
def lvc : List Nat → List Nat → Nat → Nat
  | x :: rem, y :: r, u => (if x = u ∧ y ≠ u then 1 else 0) + lvc rem r u
  | _, _, _ => 0
def enc : List Nat → List Nat → Nat → Nat
  | x :: rem, y :: r, c => (if y = c ∧ x ≠ c then 1 else 0) + enc rem r c
  | _, _, _ => 0
def Q (v : Nat) (s : St) (rem r : List Nat) : Prop := (∀ u, u < v → (lvc rem r u : Int) = gt0 s.l u) ∧ ∀ c, c < v → (enc rem r c : Int) = gt0 s.e c
def allN (v : Nat) : Nat → List (List Nat)
  | 0 => [[]]
  | n + 1 => (List.range v).flatMap fun c => (allN v n).map (c :: ·)
theorem mem_allN (v : Nat) : ∀ (n : Nat) (r : List Nat), r ∈ allN v n ↔ r.length = n ∧ ∀ c ∈ r, c < v
  | 0, r => by
    simp only [allN, List.mem_singleton]
    constructor
    · rintro rfl; simp
    · rintro ⟨h, _⟩; exact List.length_eq_zero_iff.1 h
  | n + 1, r => by
    simp only [allN, List.mem_flatMap, List.mem_map, List.mem_range]
    constructor
    · rintro ⟨c, hc, r', h, rfl⟩
      obtain ⟨h1, h2⟩ := (mem_allN v n r').1 h
      exact ⟨by simp [h1], fun x hx => by rcases List.mem_cons.1 hx with rfl | hx; exact hc; exact h2 x hx⟩
    · rintro ⟨h1, h2⟩
      match r, h1, h2 with
      | c :: r', h1, h2 => exact ⟨c, h2 c List.mem_cons_self, r', (mem_allN v n r').2 ⟨by simpa using h1, fun x hx => h2 x (List.mem_cons_of_mem _ hx)⟩, rfl⟩
theorem lvc_le : ∀ (rem r : List Nat) (u : Nat), lvc rem r u ≤ rem.count u
  | [], r, u => by cases r <;> simp [lvc]
  | x :: rem, [], u => by simp [lvc]
  | x :: rem, y :: r, u => by
    have := lvc_le rem r u
    rw [lvc, List.count_cons]
    by_cases h : x = u
    · subst h; simp; split <;> omega
    · have : (x == u) = false := by simpa using h
      rw [this]; simp [h]; omega
open Classical in
theorem filt_enm : ∀ (rem : List Nat) (s : St), Inv v s rem → (allN v rem.length).filter (fun r => decide (Q v s rem r)) = enm v s rem
  | [], s, I => by
    have l0 : ∀ u, u < v → gt0 s.l u = 0 := fun u hu => by
      have := I.w u hu
      have := I.l0 u hu
      simp at *
      omega
    have ls0 : s.l.sum ≤ 0 := by
      refine Int.not_lt.1 fun z => ?_
      obtain ⟨i, i1, i2⟩ := pos_ex s.l z
      have := l0 i (by rw [← I.F.ll]; exact i1)
      omega
    have se := le_sum0 s.e fun i hi => I.e0 i (by rw [← I.F.le]; exact hi)
    have q : Q v s [] [] := ⟨fun u hu => by rw [l0 u hu]; rfl, fun c hc => by
      have h1 := se.2 c (by rw [I.F.le]; exact hc)
      have h2 := I.e0 c hc
      have := I.se
      show (0 : Int) = _
      omega⟩
    show List.filter _ [[]] = [[]]
    rw [List.filter_cons, if_pos (decide_eq_true q)]
    rfl
  | u :: rem, s, I => by
    have hu := I.rm u List.mem_cons_self
    have hw := I.w u hu
    rw [List.count_cons_self] at hw
    show List.filter _ ((List.range v).flatMap fun c => (allN v rem.length).map (c :: ·)) = (opts v s u).flatMap fun c => (enm v (tak s u c) rem).map (c :: ·)
    rw [List.filter_flatMap]
    have step : ∀ c ∈ List.range v, ((allN v rem.length).map (c :: ·)).filter (fun r => decide (Q v s (u :: rem) r)) = if opt v s u c = true then (enm v (tak s u c) rem).map (c :: ·) else [] := by
      intro c hc
      have hc := List.mem_range.1 hc
      rw [List.filter_map]
      by_cases ho : opt v s u c = true
      · rw [if_pos ho, ← filt_enm rem (tak s u c) (I.tak (opts_mem.2 ⟨hc, ho⟩))]
        congr 1
        refine List.filter_congr fun r _ => ?_
        show decide (Q v s (u :: rem) (c :: r)) = decide (Q v (tak s u c) rem r)
        refine decide_eq_decide.2 ?_
        have ll : u < s.l.length := by rw [I.F.ll]; exact hu
        have le : c < s.e.length := by rw [I.F.le]; exact hc
        unfold opt at ho
        by_cases e : c = u
        · subst e
          have t : tak s c c = ⟨add1 s.w c, s.l, s.e⟩ := if_pos rfl
          rw [t]
          refine and_congr (forall_congr' fun x => forall_congr' fun hx => ?_) (forall_congr' fun x => forall_congr' fun hx => ?_)
          · rw [lvc]
            have : ¬(c = x ∧ c ≠ x) := fun z => z.2 z.1
            rw [if_neg this, Nat.zero_add]
          · rw [enc]
            have : ¬(c = x ∧ c ≠ x) := fun z => z.2 z.1
            rw [if_neg this, Nat.zero_add]
        · have t : tak s u c = ⟨add1 s.w u, add1 s.l u, add1 s.e c⟩ := if_neg e
          rw [t]
          refine and_congr (forall_congr' fun x => forall_congr' fun hx => ?_) (forall_congr' fun x => forall_congr' fun hx => ?_)
          · rw [lvc]
            show _ ↔ _ = gt0 (add1 s.l u) x
            rw [get_add1 _ _ _ ll]
            by_cases ex : x = u
            · subst ex
              rw [if_pos ⟨rfl, e⟩, if_pos rfl]
              omega
            · rw [if_neg (fun z => ex z.1.symm), if_neg ex]
              omega
          · rw [enc]
            show _ ↔ _ = gt0 (add1 s.e c) x
            rw [get_add1 _ _ _ le]
            by_cases ex : x = c
            · subst ex
              rw [if_pos ⟨rfl, fun z => e z.symm⟩, if_pos rfl]
              omega
            · rw [if_neg (fun z => ex z.1.symm), if_neg ex]
              omega
      · rw [if_neg ho]
        have : (allN v rem.length).filter ((fun r => decide (Q v s (u :: rem) r)) ∘ (c :: ·)) = [] := by
          rw [List.filter_eq_nil_iff]
          intro r _ z
          have z : Q v s (u :: rem) (c :: r) := of_decide_eq_true z
          refine ho ?_
          unfold opt
          by_cases e : c = u
          · subst e
            rw [if_pos rfl, decide_eq_true_eq]
            have := z.1 c hu
            rw [lvc, if_neg (fun z => z.2 z.1), Nat.zero_add] at this
            have := lvc_le rem r c
            omega
          · rw [if_neg e, Bool.and_eq_true, decide_eq_true_eq, decide_eq_true_eq]
            have h1 := z.1 u hu
            have h2 := z.2 c hc
            rw [lvc, if_pos ⟨rfl, e⟩] at h1
            rw [enc, if_pos ⟨rfl, fun z => e z.symm⟩] at h2
            omega
        rw [this]; rfl
    have fc : (List.range v).flatMap (fun c => ((allN v rem.length).map (c :: ·)).filter fun r => decide (Q v s (u :: rem) r)) = (List.range v).flatMap fun c => if opt v s u c = true then (enm v (tak s u c) rem).map (c :: ·) else [] := by
      rw [List.flatMap_def, List.flatMap_def, List.map_congr_left step]
    rw [fc]
    unfold opts
    generalize List.range v = R
    induction R with
    | nil => rfl
    | cons c R ih =>
      rw [List.flatMap_cons, List.filter_cons]
      by_cases h : opt v s u c = true
      · rw [if_pos h, if_pos h, List.flatMap_cons, ih]
      · rw [if_neg h, if_neg h, ih]; rfl
theorem cnt_lv : ∀ (A r : List Nat) (u : Nat), r.length = A.length → r.count u + lvc A r u = A.count u + enc A r u
  | [], [], u, _ => rfl
  | x :: A, y :: r, u, h => by
    have ih := cnt_lv A r u (by simpa using h)
    rw [lvc, enc, List.count_cons, List.count_cons]
    by_cases h1 : x = u <;> by_cases h2 : y = u <;> simp [h1, h2] <;> omega
  | [], _ :: _, u, h => by simp at h
  | _ :: _, [], u, h => by simp at h
theorem chu_lv (v : Nat) : ∀ (A r : List Nat), r.length = A.length → (∀ x ∈ A, x < v) → chu (cs A) (cs r) = (((List.range v).map fun u => lvc A r u).sum : Nat)
  | [], [], _, _ => by
    have : (List.range v).map (fun u => lvc [] [] u) = (List.range v).map fun _ => 0 := rfl
    rw [this]
    induction List.range v with
    | nil => rfl
    | cons _ _ ih => simpa using ih
  | x :: A, y :: r, h, hA => by
    have ih := chu_lv v A r (by simpa using h) fun z hz => hA z (List.mem_cons_of_mem _ hz)
    have hx := hA x List.mem_cons_self
    show (if ((x : Int)) = (y : Int) then (0 : Int) else 1) + chu (cs A) (cs r) = _
    rw [ih]
    have key : ∀ R : List Nat, R.Nodup → ((R.map fun u => lvc (x :: A) (y :: r) u).sum : Nat) = (if x ∈ R ∧ y ≠ x then 1 else 0) + (R.map fun u => lvc A r u).sum := by
      intro R hR
      induction R with
      | nil => simp
      | cons z R ih =>
        obtain ⟨n1, n2⟩ := List.nodup_cons.1 hR
        rw [List.map_cons, List.sum_cons, List.map_cons, List.sum_cons, ih n2, lvc]
        by_cases hz : x = z
        · subst hz
          by_cases hy : y = x
          · simp [hy]
          · simp [hy, n1]; omega
        · by_cases hy : y = x
          · subst hy; simp [hz]
          · simp [hz, hy]; omega
    rw [key (List.range v) List.nodup_range]
    by_cases hy : y = x
    · subst hy; simp
    · have : ¬((x : Int)) = (y : Int) := fun z => hy (by omega)
      rw [if_neg this, if_pos ⟨List.mem_range.2 hx, hy⟩]
      omega
  | [], _ :: _, h, _ => by simp at h
  | _ :: _, [], h, _ => by simp at h
end DCoy
namespace DCoy
open PySem DL
open DCom hiding tp
open DCot (tp ls)
variable {v : Nat} {s : St}
theorem trf_dif : ∀ (b c : List Int), trf b c = (difL b c).sum
  | [], [] => rfl
  | [], _ :: _ => rfl
  | _ :: _, [] => rfl
  | x :: b, y :: c => by
    have e1 : difL (x :: b) (y :: c) = mx0 (x - y) :: difL b c := rfl
    show (if x - y > 0 then x - y else 0) + trf b c = _
    rw [e1, List.sum_cons, trf_dif b c]
    rfl
theorem sum_le {f g : Nat → Int} : ∀ (R : List Nat), (∀ u ∈ R, f u ≤ g u) → (R.map f).sum ≤ (R.map g).sum
  | [], _ => by simp
  | u :: R, h => by
    have := sum_le R fun x hx => h x (List.mem_cons_of_mem _ hx)
    have := h u List.mem_cons_self
    simp only [List.map_cons, List.sum_cons]
    omega
theorem sum_eq {f g : Nat → Int} : ∀ (R : List Nat), (∀ u ∈ R, f u ≤ g u) → (R.map g).sum ≤ (R.map f).sum → ∀ u ∈ R, f u = g u
  | [], _, _ => fun u hu => nomatch hu
  | x :: R, h, hs => by
    have h1 := sum_le R fun y hy => h y (List.mem_cons_of_mem _ hy)
    have h2 := h x List.mem_cons_self
    simp only [List.map_cons, List.sum_cons] at hs
    intro u hu
    rcases List.mem_cons.1 hu with rfl | hu
    · omega
    · exact sum_eq R (fun y hy => h y (List.mem_cons_of_mem _ hy)) (by omega) u hu
theorem sum_get (r : List Int) (hl : r.length = v) : ((List.range v).map fun u => gt0 r u).sum = r.sum := by
  subst hl
  exact (sumGet r).symm
theorem nat_sum (f : Nat → Nat) : ∀ R : List Nat, (((R.map f).sum : Nat) : Int) = (R.map fun u => (f u : Int)).sum
  | [] => rfl
  | x :: R => by simp only [List.map_cons, List.sum_cons]; rw [← nat_sum f R]; omega
theorem eq_get {a b : List Int} (ha : a.length = v) (hb : b.length = v) : a = b ↔ ∀ u, u < v → gt0 a u = gt0 b u := by
  refine ⟨fun h u _ => by rw [h], fun h => List.ext_getElem (by omega) fun i h1 h2 => ?_⟩
  have := h i (by omega)
  simpa [gt0, List.getD_eq_getElem?_getD, List.getElem?_eq_getElem h1, List.getElem?_eq_getElem h2] using this
theorem cnt_len' (r : List Int) (k : Nat) : (cnt r k).length = k := by simp [cnt]
/-- a least change, by the counts -/
theorem least_Q {al : List Int} {A r : List Nat} (hl : al.length = v) (hA : ∀ u ∈ A, u < v) (hr : r.length = A.length) : (cnt (cs r) v = al ∧ chu (cs A) (cs r) = trf (cnt (cs A) v) al) ↔ Q v (st0 al (cs A)) A r := by
  have cl : (cnt (cs A) v).length = al.length := by rw [cnt_len', hl]
  have dg := fun u (hu : u < v) => dif_get (cnt (cs A) v) al cl u (by rw [cnt_len']; exact hu)
  have cA := fun u (hu : u < v) => cnt_cs A (v := v) hu
  have cr := fun u (hu : u < v) => cnt_cs r (v := v) hu
  have cv := fun u => cnt_lv A r u hr
  have hst : st0 al (cs A) = ⟨cnt (cs A) v, difL (cnt (cs A) v) al, difR (cnt (cs A) v) al⟩ := by unfold st0; rw [hl]
  rw [hst]
  have ec : chu (cs A) (cs r) = ((List.range v).map fun u => (lvc A r u : Int)).sum := by rw [chu_lv v A r hr hA, nat_sum]
  have et : trf (cnt (cs A) v) al = ((List.range v).map fun u => gt0 (difL (cnt (cs A) v) al) u).sum := by
    rw [trf_dif, sum_get _ (by rw [(dif_len _ _ cl).1, cnt_len'])]
  rw [ec, et, eq_get (cnt_len' _ _) hl]
  constructor
  · rintro ⟨h1, h2⟩
    have le : ∀ u ∈ List.range v, gt0 (difL (cnt (cs A) v) al) u ≤ (lvc A r u : Int) := fun u hu => by
      have hu := List.mem_range.1 hu
      have a := h1 u hu
      have := cA u hu
      have := cr u hu
      have := cv u
      rw [(dg u hu).1]
      unfold mx0
      split <;> omega
    have eq := sum_eq (List.range v) le (by rw [h2]; exact Int.le_refl _)
    refine ⟨fun u hu => (eq u (List.mem_range.2 hu)).symm, fun u hu => ?_⟩
    have a := h1 u hu
    have b := eq u (List.mem_range.2 hu)
    have := cA u hu
    have := cr u hu
    have := cv u
    show _ = gt0 (difR (cnt (cs A) v) al) u
    rw [(dg u hu).1] at b
    rw [(dg u hu).2]
    unfold mx0 at *
    split at b <;> split <;> omega
  · rintro ⟨h1, h2⟩
    refine ⟨fun u hu => ?_, ?_⟩
    · have a : (lvc A r u : Int) = gt0 (difL (cnt (cs A) v) al) u := h1 u hu
      have b : (enc A r u : Int) = gt0 (difR (cnt (cs A) v) al) u := h2 u hu
      have := cA u hu
      have := cr u hu
      have := cv u
      rw [(dg u hu).1] at a
      rw [(dg u hu).2] at b
      unfold mx0 at *
      split at a <;> split at b <;> omega
    · congr 1
      exact List.map_congr_left fun u hu => h1 u (List.mem_range.1 hu)
end DCoy
namespace DCoy
open PySem DL
open DCom hiding tp
open DCot (tp ls)
variable {v : Nat} {s : St}
theorem at_cs (A : List Nat) (k : Nat) (h : k < A.length) : L2.atI ((cs A).map PyData.int) (k : Int) = some (.int ((A[k] : Nat) : Int)) := by
  rw [atI_nat]
  simp [h]
end DCoy
namespace DCqc
open PySem DL DCos
open DCom
open DCoy (St gt0 opts opts_mem opts_sorted posE raw raw_perm tak add1 Fit cs mx0 difL difR Inv)
variable {v n : Nat}
def obF : List (Str × Ob) → Obs
  | [] => .nil
  | p :: r => .cons p.1 p.2 (obF r)
def SOb (cM : Nat → Addr) (a : List Int) (f : List Bool) (s : St) : Ob := .o (cM 3) (.cons "leaving" (.l (s.l.map .int)) (.cons "entering" (.l (s.e.map .int)) (.cons "assignment" (.d (tp a)) (.cons "free" (.d (.list (f.map .bool))) (.cons "waiting" (.l (s.w.map .int)) .nil)))))
def SO (cM : Nat → Addr) (a : List Int) (f : List Bool) (s : St) : M := .ob false (SOb cM a f s)
def FO (cM : Nat → Addr) (a : List Int) (f : List Bool) (s : St) : M := .ob true (SOb cM a f s)
theorem sT : (("leaving" : Str) = "entering") = False ∧ (("leaving" : Str) = "assignment") = False ∧ (("leaving" : Str) = "free") = False ∧ (("leaving" : Str) = "waiting") = False ∧ (("entering" : Str) = "assignment") = False ∧ (("entering" : Str) = "free") = False ∧ (("entering" : Str) = "waiting") = False ∧
    (("assignment" : Str) = "free") = False ∧ (("assignment" : Str) = "waiting") = False ∧ (("free" : Str) = "waiting") = False ∧ (("entering" : Str) = "leaving") = False ∧ (("assignment" : Str) = "leaving") = False ∧ (("free" : Str) = "leaving") = False ∧ (("waiting" : Str) = "leaving") = False ∧
    (("assignment" : Str) = "entering") = False ∧ (("free" : Str) = "entering") = False ∧ (("waiting" : Str) = "entering") = False ∧ (("free" : Str) = "assignment") = False ∧ (("waiting" : Str) = "assignment") = False ∧ (("waiting" : Str) = "free") = False := by
  refine ⟨?_, ?_, ?_, ?_, ?_, ?_, ?_, ?_, ?_, ?_, ?_, ?_, ?_, ?_, ?_, ?_, ?_, ?_, ?_, ?_⟩ <;> exact eq_false (by decide)
theorem sU : (("leaving" : Str) = "options") = False ∧ (("entering" : Str) = "options") = False ∧ (("assignment" : Str) = "options") = False ∧ (("free" : Str) = "options") = False ∧ (("waiting" : Str) = "options") = False ∧
    (("leaving" : Str) = "take") = False ∧ (("entering" : Str) = "take") = False ∧ (("assignment" : Str) = "take") = False ∧ (("free" : Str) = "take") = False ∧ (("waiting" : Str) = "take") = False := by
  refine ⟨?_, ?_, ?_, ?_, ?_, ?_, ?_, ?_, ?_, ?_⟩ <;> exact eq_false (by decide)
section
variable (cM : Nat → Addr) (a : List Int) (f : List Bool) (s : St)
theorem SO_l : atM [(cM 3, "leaving")] (SO cM a f s) = some (false, .l (s.l.map .int)) := by simp [SO, SOb, atM, Ob.at, Obs.get]
theorem SO_e : atM [(cM 3, "entering")] (SO cM a f s) = some (false, .l (s.e.map .int)) := by simp [SO, SOb, atM, Ob.at, Obs.get, sT]
theorem SO_a : atM [(cM 3, "assignment")] (SO cM a f s) = some (false, .d (tp a)) := by simp [SO, SOb, atM, Ob.at, Obs.get, sT]
theorem SO_f : atM [(cM 3, "free")] (SO cM a f s) = some (false, .d (.list (f.map .bool))) := by simp [SO, SOb, atM, Ob.at, Obs.get, sT]
theorem SO_w : atM [(cM 3, "waiting")] (SO cM a f s) = some (false, .l (s.w.map .int)) := by simp [SO, SOb, atM, Ob.at, Obs.get, sT]
theorem FO_e : atM [(cM 3, "entering")] (FO cM a f s) = some (true, .l (s.e.map .int)) := by simp [FO, SOb, atM, Ob.at, Obs.get, sT]
theorem FO_f : atM [(cM 3, "free")] (FO cM a f s) = some (true, .d (.list (f.map .bool))) := by simp [FO, SOb, atM, Ob.at, Obs.get, sT]
theorem SO_pl (x : List Int) : obPut [(cM 3, "leaving")] (.l (x.map .int)) (SO cM a f s) = SO cM a f ⟨s.w, x, s.e⟩ := by simp [SO, SOb, obPut, Ob.putAt, Obs.get, Obs.put]
theorem SO_pe (x : List Int) : obPut [(cM 3, "entering")] (.l (x.map .int)) (SO cM a f s) = SO cM a f ⟨s.w, s.l, x⟩ := by simp [SO, SOb, obPut, Ob.putAt, Obs.get, Obs.put, sT]
theorem SO_pw (x : List Int) : obPut [(cM 3, "waiting")] (.l (x.map .int)) (SO cM a f s) = SO cM a f ⟨x, s.l, s.e⟩ := by simp [SO, SOb, obPut, Ob.putAt, Obs.get, Obs.put, sT]
theorem SO_m : maskM2 (SO cM a f s) = some (FO cM a f s) := rfl
theorem SO_hide : hideM (SO cM a f s) = none := rfl
theorem SO_keep (y : Option M) : keepO (some (SO cM a f s)) y = y := rfl
theorem SO_opt : obMP (cM 3) "options" (SO cM a f s) = true := by simp [SO, SOb, obMP, Obs.get, sU]
theorem SO_take : obMP (cM 3) "take" (SO cM a f s) = true := by simp [SO, SOb, obMP, Obs.get, sU]
def optsF (v : Nat) (s : St) (u : Nat) (fr : Bool) : List Nat := if fr = true then opts v s u else [u]
theorem at_bool {f : List Bool} {b : Nat} {fr : Bool} (h : f[b]? = some fr) : L2.atI (f.map PyData.bool) (b : Int) = some (.bool fr) := by
  rw [atI_nat, List.getElem?_map, h]; rfl
theorem sortI_of (l m : List Int) (hp : m.Perm l) (hs : m.Pairwise (· ≤ ·)) : sortI l = m := DL.sorted_unique ((sortI_perm l).trans hp.symm) (sortI_sorted l) hs
theorem options_e {b u : Nat} {fr : Bool} (F : Fit v s) (hb : L2.atI (a.map PyData.int) (b : Int) = some (.int (u : Int))) (hf : f[b]? = some fr) (hu : u < v) (hv : v ≤ 1000) : f_Step_options cM [SO cM a f s, .d (.int b)] = .rt (.d (.list ((cs (optsF v s u fr)).map .int))) [some (SO cM a f s), none] := by
  have f1 := SO_a cM a f s
  have f2 := SO_w cM a f s
  have f3 := SO_l cM a f s
  have f4 := FO_e cM a f s
  have f5 := SO_f cM a f s
  have f6 := SO_m cM a f s
  have f7 := SO_hide cM a f s
  have hf := at_bool hf
  cases fr with
  | false =>
    have e : (cs (optsF v s u false)).map PyData.int = [.int (u : Int)] := rfl
    rw [e]
    generalize SO cM a f s = O at *
    simp only [dlall, f_Step_options, b_Step_options, DL.eLend_eq, DL.tLend_eq, DL.mLend_eq, DL.resS_ok, DL.resT_ok, DL.resL_ok, DL.mask_nil, DL.mask_n, DL.mask_s, DL.maskM_d, DL.maskM_l, DL.maskM_scr, DL.maskM_fo, DL.maskM_o, DL.slotP_eq, DL.atM_ob, DL.eP_eq, DL.obD_d, DL.obD_l, DL.obL_l, DL.obT_t, DL.obO_o, DL.listP_eq, DL.tabP_eq, DL.tabO_eq, DL.obPut_ob, DL.putP_eq, DL.hid_eq, DL.okR_ok, DL.hide_nil, DL.hide_n, DL.hide_s, DL.hideM_d, DL.hideM_l, DL.hideM_scr, DL.hideM_of, DL.hideM_ot, DL.eIxP_eq, DL.eMtP_eq, DL.setD_i, DL.setLP_eq, DL.sSetP_eq, DL.eInP_eq, DL.eGetP_eq, DL.setTP_eq, DL.sPutP_eq, DL.mNewT_eq, DL.toOb_d, DL.toOb_l, DL.toOb_m, DL.toOb_ob, DL.putFP_eq, DL.sFldP_eq, DL.obMP_o, DL.eMethP_eq, DL.mKeep_eq, DL.keepR_ok, DL.keepF_nil, DL.keepF_cons, DL.keepO_n, DL.keepO_d, DL.keepO_l, DL.keepO_scr, DL.keepO_f, DL.keepO_t, DL.keepO_self, DL.eMakeP_eq, DL.toMkP_rt, f1, f5, hb, hf]
  | true =>
  have e0 : optsF v s u true = opts v s u := rfl
  rw [e0]
  have aw := DCor.at_row s.w u (by rw [F.lw]; exact hu)
  have al := DCor.at_row s.l u (by rw [F.ll]; exact hu)
  have en := DCox.enumTP s.e
  rw [F.le] at en
  have cg := fun (m0 : M) (o3 : Option M) => compGo_map (g := gT 2 (gsC (gN 5) (gsC (gN 4) (gsN)))) (tt := tb1 (e2 dGt (eVar 4) (eC (.int 0)))) (te := eVar 5) (vs := [5, 4]) (emb := fun j : Nat => PyData.tuple [.int (j : Int), .int (s.e.getD j 0)]) (e := [some m0, some (.d (.int b)), some (.d (.int u)), o3, none, none]) (fun c => decide (0 < gt0 s.e c)) (fun j => .int (j : Int)) (List.range v) [] (fun j hj => by
    refine ⟨[some m0, some (.d (.int b)), some (.d (.int u)), o3, some (.d (.int (s.e.getD j 0))), some (.d (.int j))], ?_, ?_, fun _ => ?_, ?_⟩
    · simp only [dlall]
    · simp only [dlall, gt0]
    · simp only [dlall]
    · simp only [dlall])
  rw [← en] at cg
  have m1 : ((List.range v).filter fun c => decide (0 < gt0 s.e c)).map (fun j : Nat => PyData.int (j : Int)) = (cs (posE v s)).map .int := by
    unfold cs posE; rw [List.map_map]; rfl
  rw [m1] at cg
  simp only [List.nil_append] at cg
  have pl : (posE v s).length ≤ 1000 := by
    have : (posE v s).length ≤ (List.range v).length := List.length_filter_le _ _
    rw [List.length_range] at this
    omega
  have fin : ∀ X : List Nat, X = raw v s u → bSorted [.list ((cs X).map .int)] = some (.list ((cs (opts v s u)).map .int)) := by
    rintro X rfl
    rw [bSorted_l, sortI_of _ (cs (opts v s u)) ((raw_perm F hu).map _) ((opts_sorted v s u).imp fun h => by omega)]
  have add : ∀ X : List PyData, X.length ≤ 1 → dAdd (.list X) (.list ((cs (posE v s)).map .int)) = some (.list (X ++ (cs (posE v s)).map .int)) := fun X hX => if_pos (by rw [List.length_map, List.length_map]; omega)
  have a0 := add [] (by simp)
  have a1 := add [.int (u : Int)] (by simp)
  rw [List.nil_append] at a0
  have hraw : raw v s u = (if gt0 s.l u < gt0 s.w u then [u] else []) ++ (if 0 < gt0 s.l u then posE v s else []) := rfl
  have ro : resO (.l ((cs (posE v s)).map .int)) = true := DL.resO_l _
  have be : bEnum [.list (s.e.map .int)] = some (enumD 0 (s.e.map .int)) := rfl
  generalize enumD 0 (s.e.map .int) = EN at *
  by_cases c1 : gt0 s.l u < gt0 s.w u
  · have d1 : decide (s.l.getD u 0 < s.w.getD u 0) = true := decide_eq_true c1
    by_cases c2 : 0 < gt0 s.l u
    · have d2 : decide (0 < s.l.getD u 0) = true := decide_eq_true c2
      rw [if_pos c1, if_pos c2] at hraw
      have f := fin (u :: posE v s) (by rw [hraw]; rfl)
      have f : bSorted [.list (.int (u : Int) :: (cs (posE v s)).map .int)] = some (.list ((cs (opts v s u)).map .int)) := f
      have a1 : dAdd (.list [.int (u : Int)]) (.list ((cs (posE v s)).map .int)) = some (.list (.int (u : Int) :: (cs (posE v s)).map .int)) := a1
      generalize (cs (posE v s)).map PyData.int = PE at *
      generalize s.w.getD u 0 = wu at *
      generalize s.l.getD u 0 = lu at *
      generalize s.e.map PyData.int = SE at *
      generalize SO cM a _ s = O at *
      generalize FO cM a _ s = O2 at *
      simp only [dlall, f_Step_options, b_Step_options, DL.eLend_eq, DL.tLend_eq, DL.mLend_eq, DL.resS_ok, DL.resT_ok, DL.resL_ok, DL.mask_nil, DL.mask_n, DL.mask_s, DL.maskM_d, DL.maskM_l, DL.maskM_scr, DL.maskM_fo, DL.maskM_o, DL.slotP_eq, DL.atM_ob, DL.eP_eq, DL.obD_d, DL.obD_l, DL.obL_l, DL.obT_t, DL.obO_o, DL.listP_eq, DL.tabP_eq, DL.tabO_eq, DL.obPut_ob, DL.putP_eq, DL.hid_eq, DL.okR_ok, DL.hide_nil, DL.hide_n, DL.hide_s, DL.hideM_d, DL.hideM_l, DL.hideM_scr, DL.hideM_of, DL.hideM_ot, DL.eIxP_eq, DL.eMtP_eq, DL.setD_i, DL.setLP_eq, DL.sSetP_eq, DL.eInP_eq, DL.eGetP_eq, DL.setTP_eq, DL.sPutP_eq, DL.mNewT_eq, DL.toOb_d, DL.toOb_l, DL.toOb_m, DL.toOb_ob, DL.putFP_eq, DL.sFldP_eq, DL.obMP_o, DL.eMethP_eq, DL.mKeep_eq, DL.keepR_ok, DL.keepF_nil, DL.keepF_cons, DL.keepO_n, DL.keepO_d, DL.keepO_l, DL.keepO_scr, DL.keepO_f, DL.keepO_t, DL.keepO_self, DL.eMakeP_eq, DL.toMkP_rt, mLend2_eq, mask2_nil, mask2_s, mask2_n, maskM2_d, resL2_ok, f1, f2, f3, f4, f5, f6, f7, hb, hf, aw, al, d1, d2, be, cg, ro, a1, f]
    · have d2 : decide (0 < s.l.getD u 0) = false := decide_eq_false c2
      rw [if_pos c1, if_neg c2] at hraw
      have f := fin [u] (by rw [hraw]; rfl)
      have f : bSorted [.list [.int (u : Int)]] = some (.list ((cs (opts v s u)).map .int)) := f
      generalize s.w.getD u 0 = wu at *
      generalize s.l.getD u 0 = lu at *
      generalize SO cM a _ s = O at *
      simp only [dlall, f_Step_options, b_Step_options, DL.eLend_eq, DL.tLend_eq, DL.mLend_eq, DL.resS_ok, DL.resT_ok, DL.resL_ok, DL.mask_nil, DL.mask_n, DL.mask_s, DL.maskM_d, DL.maskM_l, DL.maskM_scr, DL.maskM_fo, DL.maskM_o, DL.slotP_eq, DL.atM_ob, DL.eP_eq, DL.obD_d, DL.obD_l, DL.obL_l, DL.obT_t, DL.obO_o, DL.listP_eq, DL.tabP_eq, DL.tabO_eq, DL.obPut_ob, DL.putP_eq, DL.hid_eq, DL.okR_ok, DL.hide_nil, DL.hide_n, DL.hide_s, DL.hideM_d, DL.hideM_l, DL.hideM_scr, DL.hideM_of, DL.hideM_ot, DL.eIxP_eq, DL.eMtP_eq, DL.setD_i, DL.setLP_eq, DL.sSetP_eq, DL.eInP_eq, DL.eGetP_eq, DL.setTP_eq, DL.sPutP_eq, DL.mNewT_eq, DL.toOb_d, DL.toOb_l, DL.toOb_m, DL.toOb_ob, DL.putFP_eq, DL.sFldP_eq, DL.obMP_o, DL.eMethP_eq, DL.mKeep_eq, DL.keepR_ok, DL.keepF_nil, DL.keepF_cons, DL.keepO_n, DL.keepO_d, DL.keepO_l, DL.keepO_scr, DL.keepO_f, DL.keepO_t, DL.keepO_self, DL.eMakeP_eq, DL.toMkP_rt, f1, f2, f3, f5, f7, hb, hf, aw, al, d1, d2, f]
  · have d1 : decide (s.l.getD u 0 < s.w.getD u 0) = false := decide_eq_false c1
    by_cases c2 : 0 < gt0 s.l u
    · have d2 : decide (0 < s.l.getD u 0) = true := decide_eq_true c2
      rw [if_neg c1, if_pos c2] at hraw
      have f := fin (posE v s) (by rw [hraw]; rfl)
      generalize (cs (posE v s)).map PyData.int = PE at *
      generalize s.w.getD u 0 = wu at *
      generalize s.l.getD u 0 = lu at *
      generalize s.e.map PyData.int = SE at *
      generalize SO cM a _ s = O at *
      generalize FO cM a _ s = O2 at *
      simp only [dlall, f_Step_options, b_Step_options, DL.eLend_eq, DL.tLend_eq, DL.mLend_eq, DL.resS_ok, DL.resT_ok, DL.resL_ok, DL.mask_nil, DL.mask_n, DL.mask_s, DL.maskM_d, DL.maskM_l, DL.maskM_scr, DL.maskM_fo, DL.maskM_o, DL.slotP_eq, DL.atM_ob, DL.eP_eq, DL.obD_d, DL.obD_l, DL.obL_l, DL.obT_t, DL.obO_o, DL.listP_eq, DL.tabP_eq, DL.tabO_eq, DL.obPut_ob, DL.putP_eq, DL.hid_eq, DL.okR_ok, DL.hide_nil, DL.hide_n, DL.hide_s, DL.hideM_d, DL.hideM_l, DL.hideM_scr, DL.hideM_of, DL.hideM_ot, DL.eIxP_eq, DL.eMtP_eq, DL.setD_i, DL.setLP_eq, DL.sSetP_eq, DL.eInP_eq, DL.eGetP_eq, DL.setTP_eq, DL.sPutP_eq, DL.mNewT_eq, DL.toOb_d, DL.toOb_l, DL.toOb_m, DL.toOb_ob, DL.putFP_eq, DL.sFldP_eq, DL.obMP_o, DL.eMethP_eq, DL.mKeep_eq, DL.keepR_ok, DL.keepF_nil, DL.keepF_cons, DL.keepO_n, DL.keepO_d, DL.keepO_l, DL.keepO_scr, DL.keepO_f, DL.keepO_t, DL.keepO_self, DL.eMakeP_eq, DL.toMkP_rt, mLend2_eq, mask2_nil, mask2_s, mask2_n, maskM2_d, resL2_ok, f1, f2, f3, f4, f5, f6, f7, hb, hf, aw, al, d1, d2, be, cg, ro, a0, f]
    · have d2 : decide (0 < s.l.getD u 0) = false := decide_eq_false c2
      rw [if_neg c1, if_neg c2] at hraw
      have f := fin [] (by rw [hraw]; rfl)
      have f : bSorted [.list []] = some (.list ((cs (opts v s u)).map .int)) := f
      generalize s.w.getD u 0 = wu at *
      generalize s.l.getD u 0 = lu at *
      generalize SO cM a _ s = O at *
      simp only [dlall, f_Step_options, b_Step_options, DL.eLend_eq, DL.tLend_eq, DL.mLend_eq, DL.resS_ok, DL.resT_ok, DL.resL_ok, DL.mask_nil, DL.mask_n, DL.mask_s, DL.maskM_d, DL.maskM_l, DL.maskM_scr, DL.maskM_fo, DL.maskM_o, DL.slotP_eq, DL.atM_ob, DL.eP_eq, DL.obD_d, DL.obD_l, DL.obL_l, DL.obT_t, DL.obO_o, DL.listP_eq, DL.tabP_eq, DL.tabO_eq, DL.obPut_ob, DL.putP_eq, DL.hid_eq, DL.okR_ok, DL.hide_nil, DL.hide_n, DL.hide_s, DL.hideM_d, DL.hideM_l, DL.hideM_scr, DL.hideM_of, DL.hideM_ot, DL.eIxP_eq, DL.eMtP_eq, DL.setD_i, DL.setLP_eq, DL.sSetP_eq, DL.eInP_eq, DL.eGetP_eq, DL.setTP_eq, DL.sPutP_eq, DL.mNewT_eq, DL.toOb_d, DL.toOb_l, DL.toOb_m, DL.toOb_ob, DL.putFP_eq, DL.sFldP_eq, DL.obMP_o, DL.eMethP_eq, DL.mKeep_eq, DL.keepR_ok, DL.keepF_nil, DL.keepF_cons, DL.keepO_n, DL.keepO_d, DL.keepO_l, DL.keepO_scr, DL.keepO_f, DL.keepO_t, DL.keepO_self, DL.eMakeP_eq, DL.toMkP_rt, f1, f2, f3, f5, f7, hb, hf, aw, al, d1, d2, f]
end
end DCqc
namespace DCqc
open PySem DL DCos
open DCom
open DCoy (St gt0 opts opts_mem opts_sorted posE raw raw_perm tak add1 Fit cs mx0 difL difR Inv)
variable {v n : Nat}
section
variable (cM : Nat → Addr) (a : List Int) (f : List Bool) (s : St)
def bi (fr : Bool) : Int := if fr = true then 1 else 0
def tkW (s : St) (u c : Nat) (fr : Bool) (w : Int) : St := if c = u then ⟨s.w.set u (s.w.getD u 0 - w * bi fr), s.l, s.e⟩ else ⟨s.w.set u (s.w.getD u 0 - w * bi fr), s.l.set u (s.l.getD u 0 - w), s.e.set c (s.e.getD c 0 - w)⟩
theorem ixN_nat {k m : Nat} (h : k < m) : L2.ixN m (k : Int) = some k := DCoy.ixN_nat h
theorem aug_sub {x : List Int} {u : Nat} (h : u < x.length) (b : Int) : augD (fun i j => i - j) (x.map .int) (some (.int b)) (.int (u : Int)) = some ((x.set u (x.getD u 0 - b)).map .int) := by
  have := augD_i (fun i j => i - j) (x.map .int) (x.getD u 0) b u u (DCor.at_row x u h) (by rw [List.length_map]; exact ixN_nat h)
  rw [this, List.map_set]
theorem aug_add {x : List Int} {u : Nat} (h : u < x.length) (b : Int) : augD (fun i j => i + j) (x.map .int) (some (.int b)) (.int (u : Int)) = some ((x.set u (x.getD u 0 + b)).map .int) := by
  have := augD_i (fun i j => i + j) (x.map .int) (x.getD u 0) b u u (DCor.at_row x u h) (by rw [List.length_map]; exact ixN_nat h)
  rw [this, List.map_set]
theorem take_e {b u c : Nat} {fr : Bool} {w : Int} (hw : w = 1 ∨ w = -1) (F : Fit v s) (hb : L2.atI (a.map PyData.int) (b : Int) = some (.int (u : Int))) (hf : f[b]? = some fr) (hu : u < v) (hc : c < v) : f_Step_take cM [SO cM a f s, .d (.int b), .d (.int c), .d (.int w)] = .rt (.d .none) [some (SO cM a f (tkW s u c fr w)), none, none, none] := by
  have f1 := SO_a cM a f s
  have f2 := SO_w cM a f s
  have f3 := SO_f cM a f s
  have f4 := SO_m cM a f s
  have f5 := SO_hide cM a f s
  have f6 := FO_f cM a f s
  have hf := at_bool hf
  have mb : okM w (if fr = true then 1 else 0) = true := by rcases hw with rfl | rfl <;> cases fr <;> rfl
  have em : (w * if fr = true then (1 : Int) else 0) = w * bi fr := rfl
  have g1 := aug_sub (x := s.w) (u := u) (by rw [F.lw]; exact hu) (w * bi fr)
  have p1 := SO_pw cM a f s (s.w.set u (s.w.getD u 0 - w * bi fr))
  have k1 := SO_l cM a f ⟨s.w.set u (s.w.getD u 0 - w * bi fr), s.l, s.e⟩
  have k2 := SO_m cM a f ⟨s.w.set u (s.w.getD u 0 - w * bi fr), s.l, s.e⟩
  have k3 := SO_hide cM a f ⟨s.w.set u (s.w.getD u 0 - w * bi fr), s.l, s.e⟩
  have g2 := aug_sub (x := s.l) (u := u) (by rw [F.ll]; exact hu) w
  have p2 := SO_pl cM a f ⟨s.w.set u (s.w.getD u 0 - w * bi fr), s.l, s.e⟩ (s.l.set u (s.l.getD u 0 - w))
  have k4 := SO_e cM a f ⟨s.w.set u (s.w.getD u 0 - w * bi fr), s.l.set u (s.l.getD u 0 - w), s.e⟩
  have k5 := SO_m cM a f ⟨s.w.set u (s.w.getD u 0 - w * bi fr), s.l.set u (s.l.getD u 0 - w), s.e⟩
  have k6 := SO_hide cM a f ⟨s.w.set u (s.w.getD u 0 - w * bi fr), s.l.set u (s.l.getD u 0 - w), s.e⟩
  have g3 := aug_sub (x := s.e) (u := c) (by rw [F.le]; exact hc) w
  have p3 := SO_pe cM a f ⟨s.w.set u (s.w.getD u 0 - w * bi fr), s.l.set u (s.l.getD u 0 - w), s.e⟩ (s.e.set c (s.e.getD c 0 - w))
  dsimp only at k1 k2 k3 p2 k4 k5 k6 p3
  by_cases e : c = u
  · have g : ((c : Int) == (u : Int)) = true := by simp [e]
    have t : tkW s u c fr w = ⟨s.w.set u (s.w.getD u 0 - w * bi fr), s.l, s.e⟩ := by unfold tkW; rw [if_pos e]
    rw [t]
    generalize (s.w.set u (s.w.getD u 0 - w * bi fr)).map PyData.int = X1 at *
    generalize SO cM a f ⟨s.w.set u (s.w.getD u 0 - w * bi fr), s.l, s.e⟩ = O1 at *
    generalize w * bi fr = wb at *
    generalize SO cM a f s = O0 at *
    generalize FO cM a f s = F0 at *
    simp only [dlall, f_Step_take, b_Step_take, DL.eLend_eq, DL.tLend_eq, DL.mLend_eq, DL.resS_ok, DL.resT_ok, DL.resL_ok, DL.mask_nil, DL.mask_n, DL.mask_s, DL.maskM_d, DL.maskM_l, DL.maskM_scr, DL.maskM_fo, DL.maskM_o, DL.slotP_eq, DL.atM_ob, DL.eP_eq, DL.obD_d, DL.obD_l, DL.obL_l, DL.obT_t, DL.obO_o, DL.listP_eq, DL.tabP_eq, DL.tabO_eq, DL.obPut_ob, DL.putP_eq, DL.hid_eq, DL.okR_ok, DL.hide_nil, DL.hide_n, DL.hide_s, DL.hideM_d, DL.hideM_l, DL.hideM_scr, DL.hideM_of, DL.hideM_ot, DL.eIxP_eq, DL.eMtP_eq, DL.setD_i, DL.setLP_eq, DL.sSetP_eq, DL.eInP_eq, DL.eGetP_eq, DL.setTP_eq, DL.sPutP_eq, DL.mNewT_eq, DL.toOb_d, DL.toOb_l, DL.toOb_m, DL.toOb_ob, DL.putFP_eq, DL.sFldP_eq, DL.obMP_o, DL.eMethP_eq, DL.mKeep_eq, DL.keepR_ok, DL.keepF_nil, DL.keepF_cons, DL.keepO_n, DL.keepO_d, DL.keepO_l, DL.keepO_scr, DL.keepO_f, DL.keepO_t, DL.keepO_self, DL.eMakeP_eq, DL.toMkP_rt, augLP_eq, lnd_eq, okSc_ok, mask2_nil, mask2_s, mask2_n, maskM2_d, f1, f2, f3, f4, f5, f6, hb, hf, mb, em, g1, p1, g]
  · have g : ((c : Int) == (u : Int)) = false := by rw [beq_eq_false_iff_ne]; omega
    have t : tkW s u c fr w = ⟨s.w.set u (s.w.getD u 0 - w * bi fr), s.l.set u (s.l.getD u 0 - w), s.e.set c (s.e.getD c 0 - w)⟩ := by unfold tkW; rw [if_neg e]
    rw [t]
    generalize SO cM a f ⟨s.w.set u (s.w.getD u 0 - w * bi fr), s.l.set u (s.l.getD u 0 - w), s.e.set c (s.e.getD c 0 - w)⟩ = O3 at *
    generalize SO cM a f ⟨s.w.set u (s.w.getD u 0 - w * bi fr), s.l.set u (s.l.getD u 0 - w), s.e⟩ = O2 at *
    generalize FO cM a f ⟨s.w.set u (s.w.getD u 0 - w * bi fr), s.l.set u (s.l.getD u 0 - w), s.e⟩ = F2 at *
    generalize SO cM a f ⟨s.w.set u (s.w.getD u 0 - w * bi fr), s.l, s.e⟩ = O1 at *
    generalize FO cM a f ⟨s.w.set u (s.w.getD u 0 - w * bi fr), s.l, s.e⟩ = F1 at *
    generalize (s.w.set u (s.w.getD u 0 - w * bi fr)).map PyData.int = X1 at *
    generalize (s.l.set u (s.l.getD u 0 - w)).map PyData.int = X2 at *
    generalize (s.e.set c (s.e.getD c 0 - w)).map PyData.int = X3 at *
    generalize w * bi fr = wb at *
    generalize SO cM a f s = O0 at *
    generalize FO cM a f s = F0 at *
    simp only [dlall, f_Step_take, b_Step_take, DL.eLend_eq, DL.tLend_eq, DL.mLend_eq, DL.resS_ok, DL.resT_ok, DL.resL_ok, DL.mask_nil, DL.mask_n, DL.mask_s, DL.maskM_d, DL.maskM_l, DL.maskM_scr, DL.maskM_fo, DL.maskM_o, DL.slotP_eq, DL.atM_ob, DL.eP_eq, DL.obD_d, DL.obD_l, DL.obL_l, DL.obT_t, DL.obO_o, DL.listP_eq, DL.tabP_eq, DL.tabO_eq, DL.obPut_ob, DL.putP_eq, DL.hid_eq, DL.okR_ok, DL.hide_nil, DL.hide_n, DL.hide_s, DL.hideM_d, DL.hideM_l, DL.hideM_scr, DL.hideM_of, DL.hideM_ot, DL.eIxP_eq, DL.eMtP_eq, DL.setD_i, DL.setLP_eq, DL.sSetP_eq, DL.eInP_eq, DL.eGetP_eq, DL.setTP_eq, DL.sPutP_eq, DL.mNewT_eq, DL.toOb_d, DL.toOb_l, DL.toOb_m, DL.toOb_ob, DL.putFP_eq, DL.sFldP_eq, DL.obMP_o, DL.eMethP_eq, DL.mKeep_eq, DL.keepR_ok, DL.keepF_nil, DL.keepF_cons, DL.keepO_n, DL.keepO_d, DL.keepO_l, DL.keepO_scr, DL.keepO_f, DL.keepO_t, DL.keepO_self, DL.eMakeP_eq, DL.toMkP_rt, augLP_eq, lnd_eq, okSc_ok, mask2_nil, mask2_s, mask2_n, maskM2_d, f1, f2, f3, f4, f5, f6, hb, hf, mb, em, g1, p1, g, k1, k2, k3, g2, p2, k4, k5, k6, g3, p3]
/-- the free ones -/
def frs : List (Nat × Bool) → List Nat
  | [] => []
  | (u, true) :: r => u :: frs r
  | (_, false) :: r => frs r
def wF (v : Nat) (P : List (Nat × Bool)) : List Int := (List.range v).map fun u => ((frs P).count u : Int)
theorem frs_app : ∀ P R : List (Nat × Bool), frs (P ++ R) = frs P ++ frs R
  | [], _ => rfl
  | (u, true) :: P, R => by rw [List.cons_append, frs, frs, frs_app P R]; rfl
  | (u, false) :: P, R => by rw [List.cons_append, frs, frs, frs_app P R]
theorem wF_get {u : Nat} (P : List (Nat × Bool)) (h : u < v) : (wF v P).getD u 0 = ((frs P).count u : Int) := by
  unfold wF
  rw [List.getD_eq_getElem?_getD, List.getElem?_map, List.getElem?_range h]; rfl
theorem wF_snoc {u : Nat} (P : List (Nat × Bool)) (fr : Bool) (h : u < v) : (wF v P).set u ((wF v P).getD u 0 + bi fr) = wF v (P ++ [(u, fr)]) := by
  rw [wF_get P h]
  refine List.ext_getElem (by simp [wF]) fun i h1 h2 => ?_
  have hi : i < v := by simpa [wF] using h2
  have e1 : (wF v P)[i]'(by simpa [wF] using hi) = ((frs P).count i : Int) := by simp [wF]
  have e2 : (wF v (P ++ [(u, fr)]))[i]'h2 = ((frs (P ++ [(u, fr)])).count i : Int) := by simp [wF]
  rw [List.getElem_set, e2, e1, frs_app, List.count_append]
  by_cases c : u = i
  · subst c
    rw [if_pos rfl]
    cases fr
    · simp [bi, frs]
    · simp [bi, frs]
  · rw [if_neg c]
    cases fr
    · simp [frs]
    · simp [frs, List.count_cons, c]
def stF (v : Nat) (b c : List Int) (P : List (Nat × Bool)) : St := ⟨wF v P, difL b c, difR b c⟩
def prP (p : Nat × Bool) : PyData := .tuple [.int (p.1 : Int), .bool p.2]
theorem zip_P : ∀ (A : List Nat) (f : List Bool), zip2 ((cs A).map PyData.int) (f.map .bool) = (A.zip f).map prP := by
  intro A
  unfold zip2
  induction A with
  | nil => intro f; rfl
  | cons x A ih =>
    intro f
    cases f with
    | nil => rfl
    | cons y f =>
      have := ih f
      simp only [cs, List.map_cons, List.zipWith_cons_cons, List.zip_cons_cons] at this ⊢
      rw [this]
      rfl
end
theorem init_e (cM : Nat → Addr) (b c : List Int) (A : List Nat) (f : List Bool) (hb : b.length = v) (hv : v ≤ 1000) (hA : ∀ u ∈ A, u < v) : f_Step_init cM [.ob false (.o (cM 3) .nil), .d (tp b), .d (tp c), .d (tp (cs A)), .d (.list (f.map .bool))] = .rt (.d .none) [some (SO cM (cs A) f (stF v b c (A.zip f))), none, none, none, none] := by
  have kz := DCon.zip2_map b c
  have c1 := fun (m0 : M) (x5 x6 x9 : Option M) => compGo_map (g := gT 2 (gsC (gN 7) (gsC (gN 8) (gsN)))) (tt := tYesD) (te := eB bMax (aCons (eC (.int 0)) (aCons (e2 dSub (eVar 7) (eVar 8)) (aNil)))) (vs := [7, 8]) (emb := fun q : Int × Int => PyData.tuple [.int q.1, .int q.2]) (e := [some m0, some (.d (tp b)), some (.d (tp c)), some (.d (tp (cs A))), some (.d (.list (f.map .bool))), x5, x6, none, none, x9]) (fun _ => true) (fun q => .int (mx0 (q.1 - q.2))) (b.zip c) [] (fun q _ => by
    refine ⟨[some m0, some (.d (tp b)), some (.d (tp c)), some (.d (tp (cs A))), some (.d (.list (f.map .bool))), x5, x6, some (.d (.int q.1)), some (.d (.int q.2)), x9], ?_, rfl, fun _ => ?_, ?_⟩
    · simp only [dlall]
    · simp only [dlall, mx0]
    · simp only [dlall])
  have c2 := fun (m0 : M) (x5 x6 x9 : Option M) => compGo_map (g := gT 2 (gsC (gN 7) (gsC (gN 8) (gsN)))) (tt := tYesD) (te := eB bMax (aCons (eC (.int 0)) (aCons (e2 dSub (eVar 8) (eVar 7)) (aNil)))) (vs := [7, 8]) (emb := fun q : Int × Int => PyData.tuple [.int q.1, .int q.2]) (e := [some m0, some (.d (tp b)), some (.d (tp c)), some (.d (tp (cs A))), some (.d (.list (f.map .bool))), x5, x6, none, none, x9]) (fun _ => true) (fun q => .int (mx0 (q.2 - q.1))) (b.zip c) [] (fun q _ => by
    refine ⟨[some m0, some (.d (tp b)), some (.d (tp c)), some (.d (tp (cs A))), some (.d (.list (f.map .bool))), x5, x6, some (.d (.int q.1)), some (.d (.int q.2)), x9], ?_, rfl, fun _ => ?_, ?_⟩
    · simp only [dlall]
    · simp only [dlall, mx0]
    · simp only [dlall])
  have c3 := fun (m0 : M) (x5 x6 x7 x8 : Option M) => compGo_map (g := gN 9) (tt := tYesD) (te := eC (.int 0)) (vs := [9]) (emb := PyData.int) (e := [some m0, some (.d (tp b)), some (.d (tp c)), some (.d (tp (cs A))), some (.d (.list (f.map .bool))), x5, x6, x7, x8, none]) (fun _ => true) (fun _ => .int 0) b [] (fun q _ => by
    refine ⟨[some m0, some (.d (tp b)), some (.d (tp c)), some (.d (tp (cs A))), some (.d (.list (f.map .bool))), x5, x6, x7, x8, some (.d (.int q))], ?_, rfl, fun _ => ?_, ?_⟩
    · simp only [dlall]
    · simp only [dlall]
    · simp only [dlall])
  have fa : ∀ {α : Type} (x : List α), x.filter (fun _ => true) = x := fun x => List.filter_eq_self.2 (by simp)
  simp only [fa, List.nil_append, ← kz] at c1 c2 c3
  have m1 : (b.zip c).map (fun q => PyData.int (mx0 (q.1 - q.2))) = (difL b c).map .int := by unfold difL; rw [List.map_map]; rfl
  have m2 : (b.zip c).map (fun q => PyData.int (mx0 (q.2 - q.1))) = (difR b c).map .int := by unfold difR; rw [List.map_map]; rfl
  have m3 : b.map (fun _ => PyData.int 0) = (wF v []).map .int := by
    unfold wF
    rw [List.map_map]
    refine List.ext_getElem (by simp [hb]) fun i h1 h2 => ?_
    simp [frs]
  simp only [m1] at c1
  simp only [m2] at c2
  simp only [m3] at c3
  obtain ⟨e', q, o5, o6, _, rfl⟩ := forGo_list (g := gT 2 (gsC (gN 5) (gsC (gN 6) (gsN)))) (emb := prP) (body := augLP 0 [(cM 3, "waiting")] (fun i j => i + j) (eB bInt (aCons (eVar 6) (aNil))) (eVar 5)) (fun d r e => ∃ o5 o6 : Option M, d ++ r = A.zip f ∧ e = [some (SO cM (cs A) f (stF v b c d)), some (.d (tp b)), some (.d (tp c)), some (.d (tp (cs A))), some (.d (.list (f.map .bool))), o5, o6, none, none, none]) (by
    rintro d ⟨u, fr⟩ r e ⟨o5, o6, hd, rfl⟩
    have hu : u < v := hA u (by
      have : (u, fr) ∈ A.zip f := by rw [← hd]; simp
      exact (List.of_mem_zip this).1)
    have f2 := SO_w cM (cs A) f (stF v b c d)
    have f4 := SO_m cM (cs A) f (stF v b c d)
    have f5 := SO_hide cM (cs A) f (stF v b c d)
    have g1 := aug_add (x := wF v d) (u := u) (by simp [wF]; exact hu) (bi fr)
    rw [wF_snoc d fr hu] at g1
    have p1 := SO_pw cM (cs A) f (stF v b c d) (wF v (d ++ [(u, fr)]))
    have e1 : (⟨wF v (d ++ [(u, fr)]), (stF v b c d).l, (stF v b c d).e⟩ : St) = stF v b c (d ++ [(u, fr)]) := rfl
    rw [e1] at p1
    have e2 : (stF v b c d).w = wF v d := rfl
    rw [e2] at f2
    have e3 : (if fr = true then (1 : Int) else 0) = bi fr := rfl
    refine ⟨[some (SO cM (cs A) f (stF v b c d)), some (.d (tp b)), some (.d (tp c)), some (.d (tp (cs A))), some (.d (.list (f.map .bool))), some (.d (.int (u : Int))), some (.d (.bool fr)), none, none, none], [some (SO cM (cs A) f (stF v b c (d ++ [(u, fr)]))), some (.d (tp b)), some (.d (tp c)), some (.d (tp (cs A))), some (.d (.list (f.map .bool))), some (.d (.int (u : Int))), some (.d (.bool fr)), none, none, none], ?_, .inl ?_, _, _, by rw [List.append_assoc]; exact hd, rfl⟩
    · simp only [dlall, prP]
    · generalize SO cM (cs A) f (stF v b c (d ++ [(u, fr)])) = O1 at *
      generalize SO cM (cs A) f (stF v b c d) = O0 at *
      generalize FO cM (cs A) f (stF v b c d) = F0 at *
      generalize bi fr = B at *
      simp only [dlall, DL.eLend_eq, DL.tLend_eq, DL.mLend_eq, DL.resS_ok, DL.resT_ok, DL.resL_ok, DL.mask_nil, DL.mask_n, DL.mask_s, DL.maskM_d, DL.maskM_l, DL.maskM_scr, DL.maskM_fo, DL.maskM_o, DL.slotP_eq, DL.atM_ob, DL.eP_eq, DL.obD_d, DL.obD_l, DL.obL_l, DL.obT_t, DL.obO_o, DL.listP_eq, DL.tabP_eq, DL.tabO_eq, DL.obPut_ob, DL.putP_eq, DL.hid_eq, DL.okR_ok, DL.hide_nil, DL.hide_n, DL.hide_s, DL.hideM_d, DL.hideM_l, DL.hideM_scr, DL.hideM_of, DL.hideM_ot, DL.eIxP_eq, DL.eMtP_eq, DL.setD_i, DL.setLP_eq, DL.sSetP_eq, DL.eInP_eq, DL.eGetP_eq, DL.setTP_eq, DL.sPutP_eq, DL.mNewT_eq, DL.toOb_d, DL.toOb_l, DL.toOb_m, DL.toOb_ob, DL.putFP_eq, DL.sFldP_eq, DL.obMP_o, DL.eMethP_eq, DL.mKeep_eq, DL.keepR_ok, DL.keepF_nil, DL.keepF_cons, DL.keepO_n, DL.keepO_d, DL.keepO_l, DL.keepO_scr, DL.keepO_f, DL.keepO_t, DL.keepO_self, DL.eMakeP_eq, DL.toMkP_rt, augLP_eq, lnd_eq, okSc_ok, mask2_nil, mask2_s, mask2_n, maskM2_d, f2, f4, f5, e3, g1, p1]) (A.zip f) [] [some (SO cM (cs A) f (stF v b c [])), some (.d (tp b)), some (.d (tp c)), some (.d (tp (cs A))), some (.d (.list (f.map .bool))), none, none, none, none, none] ⟨none, none, by simp, rfl⟩
  rw [← zip_P, List.nil_append] at q
  have z1 : bZip [tp b, tp c] = some (zip2 (b.map .int) (c.map .int)) := rfl
  have z2 : bZipM [tp (cs A), .list (f.map .bool)] = some (zip2 ((cs A).map .int) (f.map .bool)) := rfl
  have s1 : ∀ x, slotP [some (M.ob false (.o (cM 3) .nil)), some (.d (tp b)), some (.d (tp c)), some (.d (tp (cs A))), some (.d (.list (f.map .bool))), none, none, none, none, none] 0 [] = x → True := fun _ _ => trivial
  have t1 : ∀ L : List PyData, (Obs.nil).put "leaving" (.l L) = .cons "leaving" (.l L) .nil := fun _ => rfl
  have t2 : ∀ L E : List PyData, (Obs.cons "leaving" (.l L) .nil).put "entering" (.l E) = .cons "leaving" (.l L) (.cons "entering" (.l E) .nil) := fun _ _ => by simp [Obs.put, sT]
  have t3 : ∀ (L E : List PyData) (a : PyData), (Obs.cons "leaving" (.l L) (.cons "entering" (.l E) .nil)).put "assignment" (.d a) = .cons "leaving" (.l L) (.cons "entering" (.l E) (.cons "assignment" (.d a) .nil)) := fun _ _ _ => by simp [Obs.put, sT]
  have t4 : ∀ (L E : List PyData) (a f : PyData), (Obs.cons "leaving" (.l L) (.cons "entering" (.l E) (.cons "assignment" (.d a) .nil))).put "free" (.d f) = .cons "leaving" (.l L) (.cons "entering" (.l E) (.cons "assignment" (.d a) (.cons "free" (.d f) .nil))) := fun _ _ _ _ => by simp [Obs.put, sT]
  have t5 : ∀ (L E : List PyData) (a f : PyData) (W : List PyData), (Obs.cons "leaving" (.l L) (.cons "entering" (.l E) (.cons "assignment" (.d a) (.cons "free" (.d f) .nil)))).put "waiting" (.l W) = .cons "leaving" (.l L) (.cons "entering" (.l E) (.cons "assignment" (.d a) (.cons "free" (.d f) (.cons "waiting" (.l W) .nil)))) := fun _ _ _ _ _ => by simp [Obs.put, sT]
  have l0 : Obs.nil.len < 1000 := by decide
  have l1 : ∀ L : List PyData, (Obs.cons "leaving" (.l L) .nil).len < 1000 := fun _ => by simp [Obs.len]
  have l2 : ∀ L E : List PyData, (Obs.cons "leaving" (.l L) (.cons "entering" (.l E) .nil)).len < 1000 := fun _ _ => by simp [Obs.len]
  have l3 : ∀ (L E : List PyData) (a : PyData), (Obs.cons "leaving" (.l L) (.cons "entering" (.l E) (.cons "assignment" (.d a) .nil))).len < 1000 := fun _ _ _ => by simp [Obs.len]
  have l4 : ∀ (L E : List PyData) (a f : PyData), (Obs.cons "leaving" (.l L) (.cons "entering" (.l E) (.cons "assignment" (.d a) (.cons "free" (.d f) .nil)))).len < 1000 := fun _ _ _ _ => by simp [Obs.len]
  have eO : SO cM (cs A) f (stF v b c []) = .ob false (.o (cM 3) (.cons "leaving" (.l ((difL b c).map .int)) (.cons "entering" (.l ((difR b c).map .int)) (.cons "assignment" (.d (tp (cs A))) (.cons "free" (.d (.list (f.map .bool))) (.cons "waiting" (.l ((wF v []).map .int)) .nil)))))) := rfl
  rw [eO] at q
  have sb : seqOf (tp b) = some (b.map .int) := rfl
  have a0 : ∀ (c' : Addr) fs, Ob.at [] (.o c' fs) = some (.o c' fs) := fun _ _ => rfl
  have a1 : ∀ (x y : Ob), x.putAt [] y = y := fun _ _ => by cases ‹Ob› <;> rfl
  generalize SO cM (cs A) f (stF v b c (A.zip f)) = OO at *
  generalize (wF v []).map PyData.int = W0 at *
  generalize (difL b c).map PyData.int = DL0 at *
  generalize (difR b c).map PyData.int = DR0 at *
  generalize zip2 (b.map PyData.int) (c.map .int) = Z1 at *
  generalize zip2 ((cs A).map PyData.int) (f.map .bool) = Z2 at *
  generalize tp c = TC at *
  generalize hTA : tp (cs A) = TA at *
  generalize PyData.list (f.map .bool) = FF at *
  simp only [dlall, f_Step_init, b_Step_init, DL.eLend_eq, DL.tLend_eq, DL.mLend_eq, DL.resS_ok, DL.resT_ok, DL.resL_ok, DL.mask_nil, DL.mask_n, DL.mask_s, DL.maskM_d, DL.maskM_l, DL.maskM_scr, DL.maskM_fo, DL.maskM_o, DL.slotP_eq, DL.atM_ob, DL.eP_eq, DL.obD_d, DL.obD_l, DL.obL_l, DL.obT_t, DL.obO_o, DL.listP_eq, DL.tabP_eq, DL.tabO_eq, DL.obPut_ob, DL.putP_eq, DL.hid_eq, DL.okR_ok, DL.hide_nil, DL.hide_n, DL.hide_s, DL.hideM_d, DL.hideM_l, DL.hideM_scr, DL.hideM_of, DL.hideM_ot, DL.eIxP_eq, DL.eMtP_eq, DL.setD_i, DL.setLP_eq, DL.sSetP_eq, DL.eInP_eq, DL.eGetP_eq, DL.setTP_eq, DL.sPutP_eq, DL.mNewT_eq, DL.toOb_d, DL.toOb_l, DL.toOb_m, DL.toOb_ob, DL.putFP_eq, DL.sFldP_eq, DL.obMP_o, DL.eMethP_eq, DL.mKeep_eq, DL.keepR_ok, DL.keepF_nil, DL.keepF_cons, DL.keepO_n, DL.keepO_d, DL.keepO_l, DL.keepO_scr, DL.keepO_f, DL.keepO_t, DL.keepO_self, DL.eMakeP_eq, DL.toMkP_rt, z1, z2, c1, c2, c3, a0, a1, t1, t2, t3, t4, t5, l0, l1, l2, l3, l4, q]
end DCqc
namespace DCon
open PySem DL DCom
def stepR (a row : List Int) : List (List Int) := ((List.range a.length).filter fun v : Nat => decide ((row.count (v : Int) : Int) < a.getD v 0)).map fun v : Nat => row ++ [(v : Int)]
def rowsAt (a : List Int) : Nat → List (List Int)
  | 0 => [[]]
  | k + 1 => (rowsAt a k).flatMap (stepR a)
abbrev tu (row : List Int) : PyData := .tuple (row.map .int)
theorem stepR_len (a row : List Int) : (stepR a row).length ≤ a.length := by
  unfold stepR
  rw [List.length_map]
  exact Nat.le_trans (List.length_filter_le ..) (by simp)
theorem flatMap_len {α β : Type} (f : α → List β) (c : Nat) (h : ∀ x, (f x).length ≤ c) : ∀ l : List α, (l.flatMap f).length ≤ c * l.length
  | [] => by simp
  | x :: l => by
    have := flatMap_len f c h l
    have := h x
    rw [List.flatMap_cons, List.length_append, List.length_cons, Nat.mul_succ]
    omega
theorem rowsAt_len (a : List Int) (h : a.length ≤ 5) : ∀ k, (rowsAt a k).length ≤ 5 ^ k
  | 0 => by simp [rowsAt]
  | k + 1 => by
    have := rowsAt_len a h k
    have q := flatMap_len (stepR a) 5 (fun x => Nat.le_trans (stepR_len a x) h) (rowsAt a k)
    rw [rowsAt, Nat.pow_succ]
    omega
theorem mem_step {a row x : List Int} : x ∈ stepR a row ↔ ∃ v : Nat, v < a.length ∧ (row.count (v : Int) : Int) < a.getD v 0 ∧ x = row ++ [(v : Int)] := by
  unfold stepR
  rw [List.mem_map]
  constructor
  · rintro ⟨v, hv, rfl⟩
    rw [List.mem_filter, List.mem_range] at hv
    exact ⟨v, hv.1, by simpa using hv.2, rfl⟩
  · rintro ⟨v, h1, h2, rfl⟩
    exact ⟨v, List.mem_filter.2 ⟨List.mem_range.2 h1, by simpa using h2⟩, rfl⟩
/-- the rows of k places: in range, no variant more often than its share -/
theorem mem_rows (a : List Int) (h0 : ∀ i ∈ a, 0 ≤ i) : ∀ (k : Nat) (row : List Int), row ∈ rowsAt a k ↔ row.length = k ∧ (∀ i ∈ row, 0 ≤ i ∧ i < a.length) ∧ ∀ v : Nat, v < a.length → (row.count (v : Int) : Int) ≤ a.getD v 0
  | 0, row => by
    rw [rowsAt, List.mem_singleton]
    constructor
    · rintro rfl
      refine ⟨rfl, by simp, fun v hv => ?_⟩
      have : a.getD v 0 ∈ a := by simp [hv]
      have := h0 _ this
      simpa using this
    · rintro ⟨h, _⟩
      exact List.eq_nil_of_length_eq_zero h
  | k + 1, row => by
    rw [rowsAt, List.mem_flatMap]
    constructor
    · rintro ⟨r, hr, hx⟩
      obtain ⟨v, v1, v2, rfl⟩ := mem_step.1 hx
      obtain ⟨m1, m2, m3⟩ := (mem_rows a h0 k r).1 hr
      refine ⟨by simp [m1], fun i hi => ?_, fun w hw => ?_⟩
      · rcases List.mem_append.1 hi with hi | hi
        · exact m2 i hi
        · rw [List.mem_singleton.1 hi]; omega
      · rw [List.count_append]
        have := m3 w hw
        by_cases e : v = w
        · subst e
          have c1 : [(v : Int)].count (v : Int) = 1 := by simp
          rw [c1]
          omega
        · have c0 : [(v : Int)].count (w : Int) = 0 := by
            rw [List.count_singleton]
            have : ((v : Int) == (w : Int)) = false := by simp; omega
            rw [this]
            rfl
          rw [c0]
          omega
    · rintro ⟨m1, m2, m3⟩
      have hne : row ≠ [] := fun e => by rw [e] at m1; simp at m1
      have hd := List.dropLast_concat_getLast hne
      have hm : row.getLast hne ∈ row := List.getLast_mem hne
      have hb := m2 _ hm
      have hv : (((row.getLast hne).toNat : Nat) : Int) = row.getLast hne := Int.toNat_of_nonneg hb.1
      have hc : ∀ w : Int, row.count w = row.dropLast.count w + [row.getLast hne].count w := fun w => by
        rw [← List.count_append, hd]
      refine ⟨row.dropLast, (mem_rows a h0 k _).2 ⟨by simp [m1], fun i hi => m2 i (List.dropLast_subset _ hi), fun w hw => ?_⟩, mem_step.2 ⟨(row.getLast hne).toNat, by omega, ?_, by rw [hv, hd]⟩⟩
      · have := m3 w hw
        have := hc w
        omega
      · have q := m3 (row.getLast hne).toNat (by omega)
        have r := hc (row.getLast hne)
        rw [hv] at q ⊢
        simp at r
        omega
abbrev asB0 : DL.Env → Out := sIf (tb1 (e2 dLt (eSM cntD (eVar 4) (aCons (eVar 5) (aNil))) (e2 dIx (eVar 0) (eVar 5)))) (sDrop (mD (eMt 3 mApp (aCons (e2 dAdd (eVar 4) (eTup (aCons (eVar 5) (aNil)))) (aNil))))) (sNx)
abbrev asB1 : DL.Env → Out := sFor (itB bRange1 (aCons (eB bLen (aCons (eVar 0) (aNil))) (aNil))) (gN 5) asB0
theorem as_inner (a row : List Int) (acc : List (List Int)) (o1 o2' o5 : Option M) (h1 : acc.length + a.length ≤ 100000) (h2 : row.length ≤ 1000) (h3 : a.length ≤ 1000) :
    ∃ o5', asB1 [some (.d (tu a)), o1, o2', some (.l (acc.map tu)), some (.d (tu row)), o5] = .nx [some (.d (tu a)), o1, o2', some (.l ((acc ++ stepR a row).map tu)), some (.d (tu row)), o5'] := by
  let p : Nat → Bool := fun v => decide ((row.count (v : Int) : Int) < a.getD v 0)
  let f : Nat → List Int := fun v => row ++ [(v : Int)]
  obtain ⟨e', h4, o5', rfl⟩ := forGo_range (g := gN 5) (body := asB0) a.length (fun k e => ∃ o5 : Option M, e = [some (.d (tu a)), o1, o2', some (.l ((acc ++ ((List.range k).filter p).map f).map tu)), some (.d (tu row)), o5]) (by
    rintro k e hk ⟨o5, rfl⟩
    have a1 : L2.atI (a.map PyData.int) (k : Int) = some (.int (a.getD k 0)) := by simp [atI_nat, hk]
    refine ⟨_, [some (.d (tu a)), o1, o2', some (.l ((acc ++ ((List.range (k + 1)).filter p).map f).map tu)), some (.d (tu row)), some (.d (.int k))], rfl, .inl ?_, _, rfl⟩
    have hlen : (((acc ++ ((List.range k).filter p).map f).map tu)).length < 16777216 := by
      have : ((List.range k).filter p).length ≤ k := Nat.le_trans (List.length_filter_le ..) (by simp)
      rw [List.length_map, List.length_append, List.length_map]
      omega
    by_cases h : p k = true
    · have e1 : ((acc ++ ((List.range (k + 1)).filter p).map f).map tu) = ((acc ++ ((List.range k).filter p).map f).map tu) ++ [tu (f k)] := by
        rw [List.range_succ, List.filter_append, List.map_append]
        simp [h]
      have q := app_e _ (tu (f k)) hlen
      have r := add_t (row.map .int) [.int (k : Int)] (by simp; omega)
      have m : tu (f k) = .tuple (row.map .int ++ [.int (k : Int)]) := by simp [tu, f]
      have h' : decide ((row.count (k : Int) : Int) < a.getD k 0) = true := h
      rw [m] at q e1
      simp only [dlall, a1, h', r, q, e1]
    · have e1 : ((acc ++ ((List.range (k + 1)).filter p).map f).map tu) = ((acc ++ ((List.range k).filter p).map f).map tu) := by
        rw [List.range_succ, List.filter_append, List.map_append]
        simp [h]
      have h' : decide ((row.count (k : Int) : Int) < a.getD k 0) = false := (Bool.eq_false_iff.2 h : p k = false)
      simp only [dlall, a1, h', e1]) [some (.d (tu a)), o1, o2', some (.l (acc.map tu)), some (.d (tu row)), o5] ⟨o5, by simp⟩
  have hr : ((a.length : Int) ≤ 16777216 ∧ -(2 ^ 62) ≤ (a.length : Int)) = True := by simp; omega
  refine ⟨o5', ?_⟩
  simp only [dlall, asB1, List.length_map, hr, Int.toNat_natCast, h4]
  rfl
abbrev asB2 : DL.Env → Out := sThen (sSet 3 (mLst (aNil)))
    (sThen (sFor (itSeq (eVar 1)) (gN 4) asB1)
    (sSet 1 (mD (eVarF 3))))
theorem law_assignments_e (a : List Int) (ha : Good a) (h5 : a.sum ≤ 5) : f__law_assignments [.d (tu a)] = .rt (.d (.list ((rowsAt a a.sum.toNat).map tu))) [none] := by
  have hl := ha.2.1
  have h0 := (le_sum a fun i hi => (ha.2.2.1 i hi).1).2
  obtain ⟨e', h1, o2', o3, o4, o5, rfl⟩ := forGo_range (g := gN 2) (body := asB2) a.sum.toNat (fun k e => ∃ o2 o3 o4 o5 : Option M, e = [some (.d (tu a)), some (.d (.list ((rowsAt a k).map tu))), o2, o3, o4, o5]) (by
    rintro k e hk ⟨o2', o3, o4, o5, rfl⟩
    have hk5 : (rowsAt a k).length ≤ 625 := Nat.le_trans (rowsAt_len a hl k) (Nat.pow_le_pow_right (by omega) (by omega : k ≤ 4))
    obtain ⟨e', h2, _, o4', o5', rfl⟩ := forGo_list (emb := tu) (g := gN 4) (body := asB1) (fun d r e => d ++ r = rowsAt a k ∧ ∃ o4 o5 : Option M, e = [some (.d (tu a)), some (.d (.list ((rowsAt a k).map tu))), some (.d (.int k)), some (.l ((d.flatMap (stepR a)).map tu)), o4, o5]) (by
      rintro d x r e ⟨hd, o4, o5, rfl⟩
      have hx : x ∈ rowsAt a k := by rw [← hd]; simp
      have hxl := ((mem_rows a (fun i hi => (ha.2.2.1 i hi).1) k x).1 hx).1
      have hfl := flatMap_len (stepR a) 5 (fun x => Nat.le_trans (stepR_len a x) hl) d
      have hdl : d.length ≤ 625 := by
        have := congrArg List.length hd
        rw [List.length_append] at this
        omega
      obtain ⟨o5', h3⟩ := as_inner a x (d.flatMap (stepR a)) (some (.d (.list ((rowsAt a k).map tu)))) (some (.d (.int k))) o5 (by omega) (by omega) (by omega)
      refine ⟨_, _, rfl, .inl h3, by rw [← hd]; simp, some (.d (tu x)), o5', ?_⟩
      rw [List.flatMap_append, List.flatMap_cons, List.flatMap_nil, List.append_nil]) (rowsAt a k) [] [some (.d (tu a)), some (.d (.list ((rowsAt a k).map tu))), some (.d (.int k)), some (.l []), o4, o5] ⟨rfl, o4, o5, rfl⟩
    rw [List.nil_append] at h2
    refine ⟨_, [some (.d (tu a)), some (.d (.list ((rowsAt a (k + 1)).map tu))), some (.d (.int k)), some (.d (.list ((rowsAt a (k + 1)).map tu))), o4', o5'], rfl, .inl ?_, _, _, _, _, rfl⟩
    simp only [dlall, asB2, h2]
    rfl) [some (.d (tu a)), some (.d (.list ((rowsAt a 0).map tu))), none, none, none, none] ⟨none, none, none, none, rfl⟩
  have hr : (a.sum ≤ 16777216 ∧ -(2 ^ 62) ≤ a.sum) = True := by simp; omega
  have e0 : (rowsAt a 0).map tu = [.tuple []] := rfl
  rw [e0] at h1
  simp only [dlall, f__law_assignments, b__law_assignments, bSum_t, hr, h1]
end DCon
namespace DCon
open PySem DL DCom
theorem cnt_all (a : List Int) (m : Nat) (h : ∀ i ∈ a, 0 ≤ i ∧ i < m) : (cnt a m).sum = a.length := by
  induction m generalizing a with
  | zero =>
    cases a with
    | nil => rfl
    | cons x xs => have := h x List.mem_cons_self; omega
  | succ m ih =>
    have hs : a.length = (a.filter fun x => x == (m : Int)).length + (a.filter fun x => !(x == (m : Int))).length := by
      induction a with
      | nil => rfl
      | cons x xs ih2 =>
        have := ih2 fun i hi => h i (List.mem_cons_of_mem _ hi)
        rw [List.filter_cons, List.filter_cons]
        by_cases hx : (x == (m : Int)) = true <;> simp [hx] <;> omega
    have h2 := ih (a.filter fun x => !(x == (m : Int))) fun i hi => by
      rw [List.mem_filter] at hi
      have := h i hi.1
      have h3 : i ≠ (m : Int) := by simpa using hi.2
      omega
    have h3 : cnt a m = cnt (a.filter fun x => !(x == (m : Int))) m := by
      rw [cnt, cnt]
      refine List.map_congr_left fun i hi => ?_
      rw [List.mem_range] at hi
      rw [List.count_filter (by simp; omega)]
    have h4 : cnt a (m + 1) = cnt a m ++ [((a.count (m : Int) : Nat) : Int)] := by
      rw [cnt, List.range_succ, List.map_append]
      rfl
    rw [h4, List.sum_append, h3, h2, List.count_eq_length_filter]
    simp
    omega
theorem sum_range (a : List Int) : a.sum = ((List.range a.length).map fun v : Nat => a.getD v 0).sum := by
  congr 1
  refine List.ext_getElem (by simp) fun v h3 h4 => ?_
  simp [h3]
/-- a row of all places has each variant as often as its share -/
theorem full_row (a row : List Int) (h1 : (row.length : Int) = a.sum) (h2 : ∀ i ∈ row, 0 ≤ i ∧ i < a.length) (h3 : ∀ v : Nat, v < a.length → (row.count (v : Int) : Int) ≤ a.getD v 0) : ∀ v : Nat, v < a.length → (row.count (v : Int) : Int) = a.getD v 0 := by
  have e := cnt_all row a.length h2
  have q := (sum_eq_iff (fun v : Nat => a.getD v 0) (fun v : Nat => ((row.count (v : Int) : Nat) : Int)) a.length h3).1
  have r := sum_range a
  intro v hv
  exact (q.1 (by rw [← r]; show a.sum = (cnt row a.length).sum; omega) v hv).symm
end DCon
namespace DCqc
open PySem DL DCos
open DCom
open DCoy (St gt0 opts opts_mem opts_sorted opts_nd posE raw raw_perm tak add1 Fit cs mx0 difL difR Inv enm Q lvc enc allN mem_allN filt_enm lvc_le)
variable {v n : Nat}
def takF (s : St) (u c : Nat) (fr : Bool) : St := if fr = true then tak s u c else s
def enF (v : Nat) : St → List (Nat × Bool) → List (List Nat)
  | _, [] => [[]]
  | s, (u, fr) :: P => (optsF v s u fr).flatMap fun c => (enF v (takF s u c fr) P).map (c :: ·)
def comF (v : Nat) : St → List (Nat × Bool) → List Nat
  | _, [] => []
  | s, (u, fr) :: P => (optsF v s u fr).headD 0 :: comF v (takF s u ((optsF v s u fr).headD 0) fr) P
structure InvF (v : Nat) (s : St) (P : List (Nat × Bool)) : Prop where
  I : Inv v s (frs P)
  lt : ∀ p ∈ P, p.1 < v
theorem InvF.u {s : St} {u : Nat} {fr : Bool} {P : List (Nat × Bool)} (I : InvF v s ((u, fr) :: P)) : u < v := I.lt _ List.mem_cons_self
theorem InvF.opt {s : St} {u : Nat} {fr : Bool} {P : List (Nat × Bool)} (I : InvF v s ((u, fr) :: P)) : ∃ c t, optsF v s u fr = c :: t := by
  cases fr with
  | false => exact ⟨u, [], rfl⟩
  | true =>
    have := I.I.opts_ne
    show ∃ c t, opts v s u = c :: t
    cases h : opts v s u with
    | nil => exact absurd h this
    | cons c t => exact ⟨c, t, rfl⟩
theorem InvF.tk {s : St} {u c : Nat} {fr : Bool} {P : List (Nat × Bool)} (I : InvF v s ((u, fr) :: P)) (hc : c ∈ optsF v s u fr) : c < v ∧ InvF v (takF s u c fr) P := by
  cases fr with
  | false =>
    have : c ∈ [u] := hc
    rw [List.mem_singleton] at this
    subst this
    exact ⟨I.u, I.I, fun p hp => I.lt p (List.mem_cons_of_mem _ hp)⟩
  | true =>
    have hc : c ∈ opts v s u := hc
    exact ⟨(opts_mem.1 hc).1, I.I.tak hc, fun p hp => I.lt p (List.mem_cons_of_mem _ hp)⟩
theorem comF_head : ∀ (P : List (Nat × Bool)) (s : St), InvF v s P → ∃ t, enF v s P = comF v s P :: t
  | [], s, _ => ⟨[], rfl⟩
  | (u, fr) :: P, s, I => by
    obtain ⟨c, t, h⟩ := I.opt
    obtain ⟨h1, h2⟩ := I.tk (c := c) (by rw [h]; exact List.mem_cons_self)
    obtain ⟨t2, h3⟩ := comF_head P _ h2
    rw [enF, comF, h, List.headD_cons, List.flatMap_cons, h3]
    exact ⟨_, rfl⟩
theorem optsF_asc (v : Nat) (s : St) (u : Nat) (fr : Bool) : (optsF v s u fr).Pairwise (· < ·) := by
  cases fr with
  | false => exact List.pairwise_singleton _ _
  | true => exact List.pairwise_lt_range.sublist List.filter_sublist
theorem enF_lex : ∀ (P : List (Nat × Bool)) (s : St), (enF v s P).Pairwise fun a b => HT.lexLt (cs a) (cs b) = true
  | [], s => by simp [enF]
  | (u, fr) :: P, s => by
    rw [enF, List.pairwise_flatMap]
    refine ⟨fun c hc => ?_, (optsF_asc v s u fr).imp fun {c d} h x hx y hy => ?_⟩
    · rw [List.pairwise_map]
      refine (enF_lex P (takF s u c fr)).imp fun {a b} h => ?_
      show HT.lexLt ((c : Int) :: cs a) ((c : Int) :: cs b) = true
      rw [HT.lexLt_cons, if_pos rfl]; exact h
    · obtain ⟨x', _, rfl⟩ := List.mem_map.1 hx
      obtain ⟨y', _, rfl⟩ := List.mem_map.1 hy
      show HT.lexLt ((c : Int) :: cs x') ((d : Int) :: cs y') = true
      rw [HT.lexLt_cons, if_neg (by omega)]
      exact decide_eq_true (by omega)
def okF : List (Nat × Bool) → List Nat → Prop
  | [], [] => True
  | (u, fr) :: P, c :: r => (fr = false → c = u) ∧ okF P r
  | [], _ :: _ => False
  | _ :: _, [] => False
def pick : List (Nat × Bool) → List Nat → List Nat
  | (_, true) :: P, c :: r => c :: pick P r
  | (_, false) :: P, _ :: r => pick P r
  | _, _ => []
theorem mem_pick : ∀ (P : List (Nat × Bool)) (s : St) (r : List Nat), r ∈ enF v s P ↔ okF P r ∧ pick P r ∈ enm v s (frs P)
  | [], s, [] => by simp [enF, okF, pick, frs, enm]
  | [], s, c :: r => by simp [enF, okF]
  | (u, fr) :: P, s, [] => by
    rw [enF, List.mem_flatMap]
    constructor
    · rintro ⟨c, _, h⟩
      obtain ⟨_, _, h⟩ := List.mem_map.1 h
      cases h
    · rintro ⟨h, _⟩; exact h.elim
  | (u, true) :: P, s, c :: r => by
    rw [enF, List.mem_flatMap, okF, pick, frs, enm, List.mem_flatMap]
    constructor
    · rintro ⟨d, hd, h⟩
      obtain ⟨r', h1, h2⟩ := List.mem_map.1 h
      cases h2
      obtain ⟨h3, h4⟩ := (mem_pick P _ r).1 h1
      exact ⟨⟨(fun z => Bool.noConfusion z), h3⟩, c, hd, List.mem_map.2 ⟨_, h4, rfl⟩⟩
    · rintro ⟨⟨_, h3⟩, d, hd, h⟩
      obtain ⟨r', h1, h2⟩ := List.mem_map.1 h
      cases h2
      exact ⟨c, hd, List.mem_map.2 ⟨r, (mem_pick P _ r).2 ⟨h3, h1⟩, rfl⟩⟩
  | (u, false) :: P, s, c :: r => by
    rw [enF, List.mem_flatMap, okF, pick, frs]
    constructor
    · rintro ⟨d, hd, h⟩
      obtain ⟨r', h1, h2⟩ := List.mem_map.1 h
      cases h2
      have hd : c ∈ [u] := hd
      rw [List.mem_singleton] at hd
      obtain ⟨h3, h4⟩ := (mem_pick P _ r).1 h1
      exact ⟨⟨fun _ => hd, h3⟩, h4⟩
    · rintro ⟨⟨h0, h3⟩, h4⟩
      have := h0 rfl
      subst this
      exact ⟨c, by simp [optsF], List.mem_map.2 ⟨r, (mem_pick P _ r).2 ⟨h3, h4⟩, rfl⟩⟩
theorem lvc_pick : ∀ (P : List (Nat × Bool)) (r : List Nat) (u : Nat), okF P r → lvc (P.map Prod.fst) r u = lvc (frs P) (pick P r) u ∧ enc (P.map Prod.fst) r u = enc (frs P) (pick P r) u
  | [], [], u, _ => ⟨rfl, rfl⟩
  | [], _ :: _, u, h => h.elim
  | _ :: _, [], u, h => h.elim
  | (x, true) :: P, c :: r, u, h => by
    obtain ⟨h1, h2⟩ := lvc_pick P r u h.2
    rw [List.map_cons, lvc, enc, frs, pick, lvc, enc, h1, h2]
    exact ⟨rfl, rfl⟩
  | (x, false) :: P, c :: r, u, h => by
    obtain ⟨h1, h2⟩ := lvc_pick P r u h.2
    have := h.1 rfl
    subst this
    rw [List.map_cons, lvc, enc, frs, pick, h1, h2]
    have a1 : ¬(c = u ∧ c ≠ u) := fun z => z.2 z.1
    rw [if_neg a1]
    exact ⟨Nat.zero_add _, Nat.zero_add _⟩
theorem pick_len : ∀ (P : List (Nat × Bool)) (r : List Nat), okF P r → (pick P r).length = (frs P).length ∧ r.length = P.length
  | [], [], _ => ⟨rfl, rfl⟩
  | [], _ :: _, h => h.elim
  | _ :: _, [], h => h.elim
  | (x, true) :: P, c :: r, h => by
    obtain ⟨h1, h2⟩ := pick_len P r h.2
    exact ⟨by simp [pick, frs, h1], by simp [h2]⟩
  | (x, false) :: P, c :: r, h => by
    obtain ⟨h1, h2⟩ := pick_len P r h.2
    exact ⟨by simp [pick, frs, h1], by simp [h2]⟩
theorem pick_lt : ∀ (P : List (Nat × Bool)) (r : List Nat), okF P r → (∀ p ∈ P, p.1 < v) → ((∀ c ∈ r, c < v) ↔ ∀ c ∈ pick P r, c < v)
  | [], [], _, _ => by simp [pick]
  | [], _ :: _, h, _ => h.elim
  | _ :: _, [], h, _ => h.elim
  | (x, true) :: P, c :: r, h, hP => by
    have ih := pick_lt P r h.2 fun p hp => hP p (List.mem_cons_of_mem _ hp)
    rw [pick, List.forall_mem_cons, List.forall_mem_cons, ih]
  | (x, false) :: P, c :: r, h, hP => by
    have ih := pick_lt P r h.2 fun p hp => hP p (List.mem_cons_of_mem _ hp)
    have := h.1 rfl
    subst this
    have hc : c < v := hP _ List.mem_cons_self
    rw [pick, List.forall_mem_cons, ih]
    exact ⟨fun z => z.2, fun z => ⟨hc, z⟩⟩
open Classical in
theorem mem_enF {P : List (Nat × Bool)} {s : St} (I : InvF v s P) (r : List Nat) : r ∈ enF v s P ↔ okF P r ∧ (∀ c ∈ r, c < v) ∧ Q v s (P.map Prod.fst) r := by
  rw [mem_pick, ← filt_enm _ _ I.I, List.mem_filter, mem_allN, decide_eq_true_eq]
  constructor
  · rintro ⟨h1, ⟨h2, h3⟩, h4⟩
    refine ⟨h1, (pick_lt P r h1 I.lt).2 h3, fun u hu => ?_, fun u hu => ?_⟩
    · rw [(lvc_pick P r u h1).1]; exact h4.1 u hu
    · rw [(lvc_pick P r u h1).2]; exact h4.2 u hu
  · rintro ⟨h1, h3, h4⟩
    refine ⟨h1, ⟨(pick_len P r h1).1, (pick_lt P r h1 I.lt).1 h3⟩, fun u hu => ?_, fun u hu => ?_⟩
    · rw [← (lvc_pick P r u h1).1]; exact h4.1 u hu
    · rw [← (lvc_pick P r u h1).2]; exact h4.2 u hu
theorem okF_ix : ∀ (A : List Nat) (f : List Bool) (r : List Nat), f.length = A.length → r.length = A.length → (okF (A.zip f) r ↔ ∀ i, i < A.length → f[i]? = some false → r.getD i 0 = A.getD i 0)
  | [], f, r, h1, h2 => by
    have : r = [] := List.length_eq_zero_iff.1 h2
    subst this
    simp [okF]
  | x :: A, [], r, h1, h2 => by simp at h1
  | x :: A, y :: f, [], h1, h2 => by simp at h2
  | x :: A, y :: f, c :: r, h1, h2 => by
    have ih := okF_ix A f r (by simpa using h1) (by simpa using h2)
    rw [List.zip_cons_cons, okF, ih]
    constructor
    · rintro ⟨h3, h4⟩ i hi hf
      cases i with
      | zero => simpa using h3 (by simpa using hf)
      | succ i => simpa using h4 i (by simpa using hi) (by simpa using hf)
    · intro h
      refine ⟨fun z => by simpa using h 0 (by simp) (by simp [z]), fun i hi hf => by simpa using h (i + 1) (by simpa using hi) (by simpa using hf)⟩
def P0 (r : List Int) (f : List Bool) : List (Nat × Bool) := (r.map Int.toNat).zip f
def enough (v : Nat) (b c r : List Int) (f : List Bool) : Bool := (List.range v).all fun u => decide (gt0 (difL b c) u ≤ gt0 (wF v (P0 r f)) u)
def NX (v : Nat) (b c r : List Int) (f : List Bool) : List (List Int) := if enough v b c r f = true then (enF v (stF v b c (P0 r f)) (P0 r f)).map cs else []
theorem row_nat {r : List Int} (h : ∀ i ∈ r, 0 ≤ i ∧ i < (v : Int)) : ∃ B : List Nat, r = cs B ∧ r.map Int.toNat = B ∧ ∀ u ∈ B, u < v := by
  refine ⟨r.map Int.toNat, ?_, rfl, fun u hu => ?_⟩
  · show r = (r.map Int.toNat).map fun u : Nat => (u : Int)
    rw [List.map_map]
    conv => lhs; rw [← List.map_id r]
    exact List.map_congr_left fun i hi => (Int.toNat_of_nonneg (h i hi).1).symm
  · obtain ⟨i, hi, rfl⟩ := List.mem_map.1 hu
    have := h i hi
    omega
theorem frs_mem : ∀ (P : List (Nat × Bool)) (u : Nat), u ∈ frs P → ∃ fr, (u, fr) ∈ P
  | [], u, h => by cases h
  | (x, true) :: P, u, h => by
    rcases List.mem_cons.1 h with rfl | h
    · exact ⟨true, List.mem_cons_self⟩
    · obtain ⟨fr, h⟩ := frs_mem P u h
      exact ⟨fr, List.mem_cons_of_mem _ h⟩
  | (x, false) :: P, u, h => by
    obtain ⟨fr, h⟩ := frs_mem P u h
    exact ⟨fr, List.mem_cons_of_mem _ h⟩
theorem st_inv {b c : List Int} (hb : Al b v n) (hc : Al c v n) {A : List Nat} (hA : ∀ u ∈ A, u < v) (f : List Bool) (he : enough v b c (cs A) f = true) : InvF v (stF v b c (A.zip f)) (A.zip f) := by
  have lb : b.length = c.length := by rw [hb.len, hc.len]
  obtain ⟨d1, d2⟩ := DCoy.dif_len b c lb
  have dg := fun u (hu : u < v) => DCoy.dif_get b c lb u (by rw [hb.len]; exact hu)
  have hP : ∀ p ∈ A.zip f, p.1 < v := fun p hp => hA p.1 (List.of_mem_zip (show (p.1, p.2) ∈ A.zip f from hp)).1
  have eP : P0 (cs A) f = A.zip f := by
    unfold P0 cs
    rw [List.map_map]
    have : (Int.toNat ∘ fun i : Nat => (i : Int)) = id := funext fun i => Int.toNat_natCast i
    rw [this, List.map_id]
  refine ⟨⟨⟨by simp [stF, wF], by show (difL b c).length = v; rw [d1, hb.len], by show (difR b c).length = v; rw [d2, hb.len], fun u hu h => ?_⟩, fun u hu => ?_, fun u hu => wF_get _ hu, fun u hu => ⟨?_, ?_⟩, fun u hu => ?_, ?_⟩, hP⟩
  · have h : 0 < gt0 (difL b c) u := h
    show gt0 (difR b c) u ≤ 0
    rw [(dg u hu).1] at h
    rw [(dg u hu).2]
    unfold mx0 at *
    split at h <;> split <;> omega
  · obtain ⟨fr, h⟩ := frs_mem _ u hu
    exact hP _ h
  · show 0 ≤ gt0 (difL b c) u
    rw [(dg u hu).1]
    unfold mx0
    split <;> omega
  · have := List.all_eq_true.1 he u (List.mem_range.2 hu)
    rw [eP] at this
    exact of_decide_eq_true this
  · show 0 ≤ gt0 (difR b c) u
    rw [(dg u hu).2]
    unfold mx0
    split <;> omega
  · show (difL b c).sum = (difR b c).sum
    have := DCoy.dif_sum b c lb
    rw [hb.sum, hc.sum] at this
    omega
theorem P0_cs (A : List Nat) (f : List Bool) : P0 (cs A) f = A.zip f := by
  unfold P0 cs
  rw [List.map_map]
  have : (Int.toNat ∘ fun i : Nat => (i : Int)) = id := funext fun i => Int.toNat_natCast i
  rw [this, List.map_id]
theorem mem_NX {b c r : List Int} {f : List Bool} (hb : Al b v n) (hc : Al c v n) (hr : As r b v n) (hf : f.length = n) (y : List Int) : y ∈ NX v b c r f ↔ As y c v n ∧ chu r y = trf b c ∧ ∀ i, i < n → f[i]? = some false → y.getD i 0 = r.getD i 0 := by
  obtain ⟨A, rfl, _, hA⟩ := row_nat hr.bnd
  have lA : A.length = n := by have := hr.len; simpa [cs] using this
  have fst : (A.zip f).map Prod.fst = A := List.map_fst_zip (by omega)
  have gc : ∀ (B : List Nat) (i : Nat), (cs B).getD i 0 = ((B.getD i 0 : Nat) : Int) := fun B i => by
    show (B.map fun i : Nat => (i : Int)).getD i 0 = _
    rw [List.getD_eq_getElem?_getD, List.getD_eq_getElem?_getD, List.getElem?_map]
    cases B[i]? <;> rfl
  -- what a change is
  have key : ∀ B : List Nat, B.length = n → (∀ u ∈ B, u < v) → ((As (cs B) c v n ∧ chu (cs A) (cs B) = trf b c ∧ ∀ i, i < n → f[i]? = some false → (cs B).getD i 0 = (cs A).getD i 0) ↔ okF (A.zip f) B ∧ (∀ u ∈ B, u < v) ∧ Q v (stF v b c (A.zip f)) A B) := fun B lB hB => by
    have lq := DCoy.least_Q (v := v) (al := c) (A := A) (r := B) hc.len hA (by omega)
    rw [hr.cnt] at lq
    have eQ : Q v (DCoy.st0 c (cs A)) A B ↔ Q v (stF v b c (A.zip f)) A B := by
      have e1 : DCom.cnt (cs A) c.length = b := by rw [hc.len]; exact hr.cnt
      unfold Q DCoy.st0 stF
      rw [e1]
    rw [okF_ix A f B (by omega) (by omega), ← eQ, ← lq, lA]
    constructor
    · rintro ⟨h1, h2, h3⟩
      refine ⟨fun i hi hfi => ?_, hB, h1.cnt, h2⟩
      have := h3 i hi hfi
      rw [gc, gc] at this
      omega
    · rintro ⟨h1, _, h2, h3⟩
      refine ⟨⟨by simpa [cs] using lB, fun i hi => ?_, h2⟩, h3, fun i hi hfi => by rw [gc, gc, h1 i hi hfi]⟩
      obtain ⟨u, hu, rfl⟩ := List.mem_map.1 hi
      have := hB u hu
      omega
  unfold NX
  by_cases he : enough v b c (cs A) f = true
  · rw [if_pos he, P0_cs]
    have I := st_inv hb hc hA f he
    constructor
    · intro h
      obtain ⟨B, h1, rfl⟩ := List.mem_map.1 h
      have h2 := (mem_enF I B).1 h1
      rw [fst] at h2
      have l2 := (pick_len _ _ h2.1).2
      rw [List.length_zip] at l2
      exact (key B (by omega) h2.2.1).2 h2
    · intro h
      obtain ⟨B, rfl, _, hB⟩ := row_nat h.1.bnd
      have lB : B.length = n := by have := h.1.len; simpa [cs] using this
      refine List.mem_map.2 ⟨B, (mem_enF I B).2 ?_, rfl⟩
      rw [fst]
      exact (key B lB hB).1 h
  · rw [if_neg he]
    constructor
    · intro h; cases h
    · intro h
      exfalso
      obtain ⟨B, rfl, _, hB⟩ := row_nat h.1.bnd
      have lB : B.length = n := by have := h.1.len; simpa [cs] using this
      obtain ⟨h1, h2, h3⟩ := (key B lB hB).1 h
      apply he
      unfold enough
      rw [List.all_eq_true]
      intro u hu
      have hu := List.mem_range.1 hu
      rw [P0_cs]
      have := (lvc_pick _ _ u h1).1
      rw [fst] at this
      have l := h3.1 u hu
      rw [this] at l
      have le := lvc_le (frs (A.zip f)) (pick (A.zip f) B) u
      have w := wF_get (A.zip f) hu
      refine decide_eq_true ?_
      show (difL b c).getD u 0 ≤ (wF v (A.zip f)).getD u 0
      have l : ((lvc (frs (A.zip f)) (pick (A.zip f) B) u : Nat) : Int) = (difL b c).getD u 0 := l
      rw [w]
      omega
theorem NX_lex (v : Nat) (b c r : List Int) (f : List Bool) : (NX v b c r f).Pairwise fun x y => HT.lexLt x y = true := by
  unfold NX
  split
  · rw [List.pairwise_map]
    exact enF_lex _ _
  · exact List.Pairwise.nil
end DCqc
namespace DCqc
open PySem DL DCos
open DCom
open DCoy (St gt0 cs mx0 difL difR)
variable {v n : Nat} {A U : List (List Int)} {L : Int}
def lastR (U : List (List Int)) : List Int := aat U (U.length - 1)
theorem aat_app {U X : List (List Int)} {j : Nat} (h : j < U.length) : aat (U ++ X) j = aat U j := by
  unfold aat
  rw [List.getD_eq_getElem?_getD, List.getD_eq_getElem?_getD, List.getElem?_append_left h]
theorem aat_snoc (U : List (List Int)) (r : List Int) : aat (U ++ [r]) U.length = r := by
  unfold aat
  rw [List.getD_eq_getElem?_getD, List.getElem?_append_right (Nat.le_refl _)]
  simp
theorem lastR_snoc (U : List (List Int)) (r : List Int) : lastR (U ++ [r]) = r := by
  unfold lastR
  rw [List.length_append, List.length_singleton, Nat.add_sub_cancel, aat_snoc]
def dif (x y : Int) : Int := if x = y then 0 else 1
theorem chg_snoc {U : List (List Int)} (h : 1 ≤ U.length) (r : List Int) (b : Nat) : chg (U ++ [r]) b = chg U b + dif ((lastR U).getD b 0) (r.getD b 0) := by
  unfold chg
  have e1 : (U ++ [r]).length - 1 = (U.length - 1) + 1 := by rw [List.length_append, List.length_singleton]; omega
  rw [e1, List.range_succ, List.filter_append, List.length_append, List.filter_cons, List.filter_nil]
  have e2 : (List.range (U.length - 1)).filter (fun j => !((aat (U ++ [r]) j).getD b 0 == (aat (U ++ [r]) (j + 1)).getD b 0)) = (List.range (U.length - 1)).filter fun j => !((aat U j).getD b 0 == (aat U (j + 1)).getD b 0) := by
    refine List.filter_congr fun j hj => ?_
    have hj := List.mem_range.1 hj
    rw [aat_app (by omega), aat_app (by omega)]
  rw [e2, aat_app (by omega), show U.length - 1 + 1 = U.length by omega, aat_snoc]
  show _ = _ + dif ((aat U (U.length - 1)).getD b 0) (r.getD b 0)
  unfold dif
  by_cases c : (aat U (U.length - 1)).getD b 0 = r.getD b 0
  · have e3 : (!((aat U (U.length - 1)).getD b 0 == r.getD b 0)) = false := by rw [c]; simp
    rw [if_pos c, e3, if_neg (by simp)]; simp
  · have e3 : (!((aat U (U.length - 1)).getD b 0 == r.getD b 0)) = true := by rw [Bool.not_eq_true', beq_eq_false_iff_ne]; exact c
    rw [if_neg c, e3, if_pos rfl]; simp
theorem chg_nn (U : List (List Int)) (b : Nat) : 0 ≤ chg U b := by unfold chg; omega
theorem chgs_get {b : Nat} (h : b < n) : (chgs U n).getD b 0 = chg U b := by
  unfold chgs
  rw [List.getD_eq_getElem?_getD, List.getElem?_map, List.getElem?_range h]; rfl
structure Hst (L : Int) (A : List (List Int)) (v n : Nat) (U : List (List Int)) : Prop where
  ne : 1 ≤ U.length
  le : U.length ≤ A.length
  first : aat U 0 = srt (aat A 0)
  as : ∀ j, j < U.length → As (aat U j) (aat A j) v n
  lst : ∀ j, j + 1 < U.length → chu (aat U j) (aat U (j + 1)) = trf (aat A j) (aat A (j + 1))
  lim : ∀ b, b < n → chg U b ≤ L
def fre (L : Int) (c : List Int) : List Bool := c.map fun x => decide (x < L)
def incr (r y c : List Int) : List Int := (List.range c.length).map fun b => c.getD b 0 + dif (r.getD b 0) (y.getD b 0)
theorem chgs_len (U : List (List Int)) (n : Nat) : (chgs U n).length = n := by simp [chgs]
theorem incr_chgs (h : 1 ≤ U.length) (r : List Int) : incr (lastR U) r (chgs U n) = chgs (U ++ [r]) n := by
  unfold incr
  rw [chgs_len]
  show _ = (List.range n).map (chg (U ++ [r]))
  refine List.map_congr_left fun b hb => ?_
  rw [chgs_get (List.mem_range.1 hb), chg_snoc h]
abbrev nxt (v : Nat) (A : List (List Int)) (L : Int) (k : Nat) (r c : List Int) : List (List Int) := NX v (aat A (k - 1)) (aat A k) r (fre L c)
theorem hst_last (h : Hst L A v n U) : As (lastR U) (aat A (U.length - 1)) v n := h.as _ (by have := h.ne; omega)
theorem hst_nxt (hA : Ser A v n) (h : Hst L A v n U) (hl : U.length < A.length) (r : List Int) : r ∈ nxt v A L U.length (lastR U) (chgs U n) ↔ Hst L A v n (U ++ [r]) := by
  have ne := h.ne
  have m := mem_NX (f := fre L (chgs U n)) (hA _ (aat_mem (show U.length - 1 < A.length by omega))) (hA _ (aat_mem hl)) (hst_last h) (by rw [fre, List.length_map, chgs_len]) r
  rw [m]
  have ff : ∀ i, i < n → ((fre L (chgs U n))[i]? = some false ↔ ¬ chg U i < L) := fun i hi => by
    unfold fre
    rw [List.getElem?_map]
    have : (chgs U n)[i]? = some (chg U i) := by
      unfold chgs
      rw [List.getElem?_map, List.getElem?_range hi]; rfl
    rw [this]
    simp
  constructor
  · rintro ⟨h1, h2, h3⟩
    refine ⟨by rw [List.length_append]; omega, by rw [List.length_append, List.length_singleton]; omega, by rw [aat_app (by omega)]; exact h.first, fun j hj => ?_, fun j hj => ?_, fun b hb => ?_⟩
    · rw [List.length_append, List.length_singleton] at hj
      by_cases c : j < U.length
      · rw [aat_app c]; exact h.as j c
      · rw [show j = U.length by omega, aat_snoc]; exact h1
    · rw [List.length_append, List.length_singleton] at hj
      by_cases c : j + 1 < U.length
      · rw [aat_app (by omega), aat_app c]; exact h.lst j c
      · have e : j = U.length - 1 := by omega
        subst e
        rw [aat_app (by omega), show U.length - 1 + 1 = U.length by omega, aat_snoc]; exact h2
    · rw [chg_snoc ne]
      by_cases c : chg U b < L
      · unfold dif; split <;> omega
      · have := h3 b hb ((ff b hb).2 c)
        rw [this]
        unfold dif
        rw [if_pos rfl]
        have := h.lim b hb
        omega
  · intro k
    have k1 := k.as U.length (by rw [List.length_append, List.length_singleton]; omega)
    rw [aat_snoc] at k1
    have k2 := k.lst (U.length - 1) (by rw [List.length_append, List.length_singleton]; omega)
    rw [aat_app (by omega), show U.length - 1 + 1 = U.length by omega, aat_snoc] at k2
    refine ⟨k1, k2, fun i hi hf => ?_⟩
    have c := (ff i hi).1 hf
    have k3 := k.lim i hi
    rw [chg_snoc ne] at k3
    unfold dif at k3
    by_cases e : (lastR U).getD i 0 = r.getD i 0
    · exact e.symm
    · rw [if_neg e] at k3; omega
theorem hst_snoc (h : 1 ≤ U.length) {r : List Int} (k : Hst L A v n (U ++ [r])) : Hst L A v n U := by
  have kl := k.le
  rw [List.length_append, List.length_singleton] at kl
  refine ⟨h, by omega, by rw [← k.first, aat_app (by omega)], fun j hj => ?_, fun j hj => ?_, fun b hb => ?_⟩
  · have := k.as j (by rw [List.length_append]; omega)
    rw [aat_app hj] at this; exact this
  · have := k.lst j (by rw [List.length_append]; omega)
    rw [aat_app (by omega), aat_app hj] at this; exact this
  · have := k.lim b hb
    rw [chg_snoc h] at this
    unfold dif at this
    split at this <;> omega
theorem hst_pre : ∀ (X U : List (List Int)), 1 ≤ U.length → Hst L A v n (U ++ X) → Hst L A v n U
  | [], U, _, k => by rw [List.append_nil] at k; exact k
  | r :: X, U, h, k => by
    have : U ++ r :: X = (U ++ [r]) ++ X := by simp
    rw [this] at k
    exact hst_snoc h (hst_pre X (U ++ [r]) (by rw [List.length_append]; omega) k)
def All (v : Nat) (A : List (List Int)) (L : Int) : Nat → Nat → List Int → List Int → List (List (List Int))
  | 0, _, _, _ => [[]]
  | m + 1, k, r, c => (nxt v A L k r c).flatMap fun y => (All v A L m (k + 1) y (incr r y c)).map (y :: ·)
theorem mem_All (hA : Ser A v n) : ∀ (m : Nat) (U X : List (List Int)), Hst L A v n U → m + U.length = A.length → (X ∈ All v A L m U.length (lastR U) (chgs U n) ↔ Hst L A v n (U ++ X) ∧ U.length + X.length = A.length)
  | 0, U, X, h, e => by
    rw [All, List.mem_singleton]
    constructor
    · rintro rfl
      rw [List.append_nil]
      exact ⟨h, by simpa using e⟩
    · rintro ⟨_, k⟩
      exact List.length_eq_zero_iff.1 (by omega)
  | m + 1, U, X, h, e => by
    rw [All, List.mem_flatMap]
    have ih := fun (r : List Int) (X : List (List Int)) (k : Hst L A v n (U ++ [r])) => mem_All hA m (U ++ [r]) X k (by rw [List.length_append, List.length_singleton]; omega)
    simp only [lastR_snoc, ← incr_chgs h.ne, List.length_append, List.length_singleton, List.append_assoc, List.singleton_append] at ih
    constructor
    · rintro ⟨r, h1, h2⟩
      obtain ⟨X', h3, rfl⟩ := List.mem_map.1 h2
      have k := (hst_nxt hA h (by omega) r).1 h1
      obtain ⟨h4, h5⟩ := (ih r X' k).1 h3
      exact ⟨h4, by rw [List.length_cons]; omega⟩
    · rintro ⟨h1, h2⟩
      cases X with
      | nil => simp at h2; omega
      | cons r X' =>
        have k : Hst L A v n (U ++ [r]) := hst_pre X' (U ++ [r]) (by rw [List.length_append]; have := h.ne; omega) (by simpa using h1)
        exact ⟨r, (hst_nxt hA h (by omega) r).2 k, List.mem_map.2 ⟨X', (ih r X' k).2 ⟨h1, by rw [List.length_cons] at h2; omega⟩, rfl⟩⟩
theorem lexLt_irr : ∀ a : List Int, HT.lexLt a a = false
  | [] => rfl
  | x :: a => by rw [HT.lexLt_cons, if_pos rfl]; exact lexLt_irr a
theorem lexLt_asym : ∀ a b : List Int, HT.lexLt a b = true → HT.lexLt b a = false
  | [], [], h => by cases h
  | [], _ :: _, _ => rfl
  | _ :: _, [], h => by cases h
  | x :: a, y :: b, h => by
    rw [HT.lexLt_cons] at h ⊢
    by_cases c : x = y
    · rw [if_pos c] at h
      rw [if_pos c.symm]
      exact lexLt_asym a b h
    · rw [if_neg c, decide_eq_true_eq] at h
      rw [if_neg (fun z => c z.symm)]
      exact decide_eq_false (by omega)
theorem lexLL_cons (x y : List Int) (a b : List (List Int)) : lexLL (x :: a) (y :: b) = if x = y then lexLL a b else HT.lexLt x y := rfl
theorem lexLL_asym : ∀ a b : List (List Int), lexLL a b = true → lexLL b a = false
  | [], [], h => by cases h
  | [], _ :: _, _ => rfl
  | _ :: _, [], h => by cases h
  | x :: a, y :: b, h => by
    rw [lexLL_cons] at h ⊢
    by_cases c : x = y
    · rw [if_pos c] at h
      rw [if_pos c.symm]
      exact lexLL_asym a b h
    · rw [if_neg c] at h
      rw [if_neg (fun z => c z.symm)]
      exact lexLt_asym _ _ h
theorem All_lex (v : Nat) (A : List (List Int)) (L : Int) : ∀ (m k : Nat) (r c : List Int), (All v A L m k r c).Pairwise fun X Y => lexLL X Y = true
  | 0, _, _, _ => List.pairwise_singleton _ _
  | m + 1, k, r, c => by
    rw [All, List.pairwise_flatMap]
    refine ⟨fun y hy => ?_, (NX_lex v _ _ r (fre L c)).imp fun {y z} h x hx x' hx' => ?_⟩
    · rw [List.pairwise_map]
      refine (All_lex v A L m (k + 1) y (incr r y c)).imp fun {a b} h => ?_
      rw [lexLL_cons, if_pos rfl]; exact h
    · obtain ⟨X, _, rfl⟩ := List.mem_map.1 hx
      obtain ⟨Y, _, rfl⟩ := List.mem_map.1 hx'
      rw [lexLL_cons, if_neg (fun e => by rw [e, lexLt_irr] at h; cases h)]
      exact h
/-- the whole histories; the first of them is the least -/
def Ful (L : Int) (A : List (List Int)) (v n : Nat) (U : List (List Int)) : Prop := Hst L A v n U ∧ U.length = A.length
def zeros (n : Nat) : List Int := List.replicate n 0
abbrev All0 (v n : Nat) (A : List (List Int)) (L : Int) : List (List (List Int)) := All v A L (A.length - 1) 1 (srt (aat A 0)) (zeros n)
theorem chgs_one (r : List Int) (n : Nat) : chgs [r] n = zeros n := by
  unfold chgs zeros
  have : chg [r] = fun _ => 0 := funext fun b => by simp [chg]
  rw [this]
  exact List.eq_replicate_iff.2 ⟨by simp, fun x hx => by obtain ⟨_, _, rfl⟩ := List.mem_map.1 hx; rfl⟩
theorem hst_one (hA : Ser A v n) (hl : 1 ≤ A.length) (hL : 0 ≤ L) : Hst L A v n [srt (aat A 0)] := by
  refine ⟨by simp, by simpa using hl, rfl, fun j hj => ?_, fun j hj => by simp at hj, fun b hb => by simp [chg]; exact hL⟩
  have : j = 0 := by simpa using hj
  subst this
  exact srt_as (hA _ (aat_mem (show 0 < A.length by omega)))
theorem mem_All0 (hA : Ser A v n) (hl : 1 ≤ A.length) (hL : 0 ≤ L) (X : List (List Int)) : X ∈ All0 v n A L ↔ Ful L A v n (srt (aat A 0) :: X) := by
  have h := mem_All hA (A.length - 1) [srt (aat A 0)] X (hst_one hA hl hL) (by simp; omega)
  rw [chgs_one] at h
  have e : lastR [srt (aat A 0)] = srt (aat A 0) := rfl
  rw [e] at h
  refine h.trans ?_
  unfold Ful
  constructor <;> rintro ⟨h1, h2⟩ <;> refine ⟨h1, ?_⟩ <;> simp at h2 ⊢ <;> omega
theorem ful_cons (h : Ful L A v n U) : ∃ X, U = srt (aat A 0) :: X := by
  have ne := h.1.ne
  cases U with
  | nil => simp at ne
  | cons r X =>
    have := h.1.first
    exact ⟨X, by rw [← this]; rfl⟩
theorem ful_min (hA : Ser A v n) (hl : 1 ≤ A.length) (hL : 0 ≤ L) {X : List (List Int)} {t : List (List (List Int))} (e : All0 v n A L = X :: t) : Ful L A v n (srt (aat A 0) :: X) ∧ ∀ Y, Ful L A v n Y → Y = srt (aat A 0) :: X ∨ (lexLL (srt (aat A 0) :: X) Y = true ∧ lexLL Y (srt (aat A 0) :: X) = false) := by
  have m := mem_All0 hA hl hL
  refine ⟨(m X).1 (by rw [e]; exact List.mem_cons_self), fun Y hY => ?_⟩
  obtain ⟨Z, rfl⟩ := ful_cons hY
  have hZ := (m Z).2 hY
  have pw := All_lex v A L (A.length - 1) 1 (srt (aat A 0)) (zeros n)
  have e' : All v A L (A.length - 1) 1 (srt (aat A 0)) (zeros n) = X :: t := e
  rw [e'] at pw
  rw [e] at hZ
  rcases List.mem_cons.1 hZ with rfl | hZ
  · exact .inl rfl
  · have k := (List.pairwise_cons.1 pw).1 Z hZ
    have k : lexLL (srt (aat A 0) :: X) (srt (aat A 0) :: Z) = true := by rw [lexLL_cons, if_pos rfl]; exact k
    exact .inr ⟨k, lexLL_asym _ _ k⟩
end DCqc
namespace DCqc
open PySem DL DCos
open DCom
open DCoy (St gt0 cs mx0 difL difR lvc)
variable {v n : Nat} {A U : List (List Int)} {L : Int}
def dc (A : List (List Int)) (j u : Nat) : Int := gt0 (difL (aat A j) (aat A (j + 1))) u
def DD (A : List (List Int)) (u k : Nat) : Int := ((List.range k).map fun j => dc A j u).sum
theorem DD_succ (A : List (List Int)) (u k : Nat) : DD A u (k + 1) = DD A u k + dc A k u := by
  unfold DD
  rw [List.range_succ, List.map_append, List.sum_append]; simp
def nfr : List Nat → List Nat → List Bool → List Bool
  | x :: B, y :: R, g :: f => (g && x == y) :: nfr B R f
  | _, _, _ => []
theorem nfr_get : ∀ (B R : List Nat) (f : List Bool) (i : Nat), R.length = B.length → f.length = B.length → i < B.length → (nfr B R f)[i]? = some (f.getD i false && B.getD i 0 == R.getD i 0)
  | [], R, f, i, _, _, h => by simp at h
  | x :: B, [], f, i, h, _, _ => by simp at h
  | x :: B, y :: R, [], i, _, h, _ => by simp at h
  | x :: B, y :: R, g :: f, i, h1, h2, h3 => by
    cases i with
    | zero => simp [nfr]
    | succ i =>
      have := nfr_get B R f i (by simpa using h1) (by simpa using h2) (by simpa using h3)
      simpa [nfr] using this
theorem nfr_len : ∀ (B R : List Nat) (f : List Bool), R.length = B.length → f.length = B.length → (nfr B R f).length = B.length
  | [], R, f, _, _ => by cases R <;> cases f <;> rfl
  | x :: B, [], f, h, _ => by simp at h
  | x :: B, y :: R, [], _, h => by simp at h
  | x :: B, y :: R, g :: f, h1, h2 => by
    have := nfr_len B R f (by simpa using h1) (by simpa using h2)
    simp [nfr, this]
theorem cnt_calm (u : Nat) : ∀ (B R : List Nat) (f : List Bool), f.length = B.length → okF (B.zip f) R → (frs (R.zip (nfr B R f))).count u + lvc B R u = (frs (B.zip f)).count u
  | [], [], f, _, _ => by simp [frs, lvc]
  | [], _ :: _, f, _, h => by simp [okF] at h
  | x :: B, R, [], h, _ => by simp at h
  | x :: B, [], g :: f, _, h => by rw [List.zip_cons_cons, okF] at h; exact h.elim
  | x :: B, y :: R, g :: f, hl, h => by
    rw [List.zip_cons_cons, okF] at h
    have ih := cnt_calm u B R f (by simpa using hl) h.2
    rw [nfr, List.zip_cons_cons, List.zip_cons_cons, lvc]
    cases g with
    | false =>
      have := h.1 rfl
      subst this
      rw [Bool.false_and, frs, frs, if_neg (fun z => z.2 z.1), Nat.zero_add]
      exact ih
    | true =>
      by_cases c : x = y
      · subst c
        have e : (true && x == x) = true := by simp
        rw [e, frs, frs, List.count_cons, List.count_cons, if_neg (fun z : x = u ∧ x ≠ u => z.2 z.1)]
        omega
      · have e : (true && x == y) = false := by simp [c]
        rw [e, frs, frs, List.count_cons]
        by_cases d : x = u
        · subst d
          rw [if_pos ⟨rfl, fun z => c z.symm⟩, if_pos (by simp)]; omega
        · rw [if_neg (fun z => d z.1), if_neg (by simpa using d)]; omega
theorem fre_get {L : Int} {c : List Int} {i : Nat} (h : i < c.length) : (fre L c)[i]? = some (decide (c.getD i 0 < L)) := by
  unfold fre
  rw [List.getElem?_map, List.getElem?_eq_getElem h, List.getD_eq_getElem?_getD, List.getElem?_eq_getElem h]
  rfl
theorem cs_get (B : List Nat) (i : Nat) : (cs B).getD i 0 = ((B.getD i 0 : Nat) : Int) := by
  show (B.map fun i : Nat => (i : Int)).getD i 0 = _
  rw [List.getD_eq_getElem?_getD, List.getD_eq_getElem?_getD, List.getElem?_map]
  cases B[i]? <;> rfl
theorem fre_snoc (h : 1 ≤ U.length) {B R : List Nat} (hB : lastR U = cs B) (lB : B.length = n) (lR : R.length = n) : fre 1 (chgs (U ++ [cs R]) n) = nfr B R (fre 1 (chgs U n)) := by
  have lf : (fre 1 (chgs U n)).length = n := by rw [fre, List.length_map, chgs_len]
  refine List.ext_getElem? fun i => ?_
  by_cases hi : i < n
  · rw [nfr_get B R _ i (by omega) (by omega) (by omega), fre_get (by rw [chgs_len]; exact hi), chgs_get hi, chg_snoc h, hB, cs_get, cs_get]
    rw [List.getD_eq_getElem?_getD (l := fre 1 (chgs U n)), fre_get (by rw [chgs_len]; exact hi), chgs_get hi]
    have nn := chg_nn U i
    refine congrArg some ?_
    show decide _ = (decide (chg U i < 1) && (B.getD i 0 == R.getD i 0))
    unfold dif
    by_cases c : B.getD i 0 = R.getD i 0
    · rw [c, if_pos rfl]; simp
    · rw [if_neg (fun z => c (by omega))]
      have : (B.getD i 0 == R.getD i 0) = false := by rw [beq_eq_false_iff_ne]; exact c
      rw [this, Bool.and_false]
      exact decide_eq_false (by omega)
  · rw [List.getElem?_eq_none (by rw [fre, List.length_map, chgs_len]; omega), List.getElem?_eq_none (by rw [nfr_len B R _ (by omega) (by omega)]; omega)]
/-- the free buckets of a variant -/
def wu (n : Nat) (U : List (List Int)) (u : Nat) : Nat := (frs (P0 (lastR U) (fre 1 (chgs U n)))).count u
theorem wu_snoc (hA : Ser A v n) (h : 1 ≤ U.length) {r : List Int} (k : Hst 1 A v n (U ++ [r])) {u : Nat} (hu : u < v) : (wu n (U ++ [r]) u : Int) + dc A (U.length - 1) u = (wu n U u : Int) := by
  have hU := hst_snoc h k
  have kl := k.le
  rw [List.length_append, List.length_singleton] at kl
  have m := (hst_nxt hA hU (by omega) r).2 k
  have hb := hA _ (aat_mem (show U.length - 1 < A.length by omega))
  have hc := hA _ (aat_mem (show U.length < A.length by omega))
  have hr := hst_last hU
  have lf : (fre 1 (chgs U n)).length = n := by rw [fre, List.length_map, chgs_len]
  obtain ⟨m1, m2, m3⟩ := (mem_NX hb hc hr lf r).1 m
  obtain ⟨B, eB, _, hB⟩ := row_nat hr.bnd
  obtain ⟨R, rfl, _, hR⟩ := row_nat m1.bnd
  have lB : B.length = n := by have := hr.len; rw [eB] at this; simpa [cs] using this
  have lR : R.length = n := by have := m1.len; simpa [cs] using this
  have lq := (DCoy.least_Q (v := v) (al := aat A U.length) (A := B) (r := R) hc.len hB (by omega)).1 (by
    refine ⟨m1.cnt, ?_⟩
    rw [← eB, hr.cnt]; exact m2)
  have q := lq.1 u hu
  have ok : okF (B.zip (fre 1 (chgs U n))) R := (okF_ix B _ R (by omega) (by omega)).2 fun i hi hf => by
    have := m3 i (by omega) hf
    rw [eB, cs_get, cs_get] at this
    omega
  have cc := cnt_calm u B R (fre 1 (chgs U n)) (by omega) ok
  have e1 : wu n (U ++ [cs R]) u = (frs (R.zip (nfr B R (fre 1 (chgs U n))))).count u := by
    unfold wu
    rw [lastR_snoc, fre_snoc h eB lB lR, P0_cs]
  have e2 : wu n U u = (frs (B.zip (fre 1 (chgs U n)))).count u := by
    unfold wu
    rw [eB, P0_cs]
  have e3 : dc A (U.length - 1) u = (lvc B R u : Int) := by
    rw [q]
    unfold dc
    rw [show U.length - 1 + 1 = U.length by omega]
    show _ = gt0 (difL (cnt (cs B) (aat A U.length).length) (aat A U.length)) u
    rw [← eB, hc.len, hr.cnt]
  rw [e1, e2, e3]
  omega
theorem frs_all : ∀ B : List Nat, frs (B.zip (List.replicate B.length true)) = B
  | [] => rfl
  | x :: B => by
    rw [List.length_cons, List.replicate_succ, List.zip_cons_cons, frs, frs_all B]
theorem wu_one (hA : Ser A v n) (hl : 1 ≤ A.length) {u : Nat} (hu : u < v) : (wu n [srt (aat A 0)] u : Int) = gt0 (aat A 0) u := by
  have s := srt_as (hA _ (aat_mem (show 0 < A.length by omega)))
  obtain ⟨B, eB, _, hB⟩ := row_nat s.bnd
  have lB : B.length = n := by have := s.len; rw [eB] at this; simpa [cs] using this
  have e : fre 1 (zeros n) = List.replicate B.length true := by
    rw [lB]; unfold fre zeros; rw [List.map_replicate]; rfl
  unfold wu
  rw [chgs_one, e]
  show ((frs (P0 (srt (aat A 0)) _)).count u : Int) = _
  rw [eB, P0_cs, frs_all, ← DCoy.cnt_cs B hu, ← eB, s.cnt]
theorem wu_eq (hA : Ser A v n) (hl : 1 ≤ A.length) {u : Nat} (hu : u < v) : ∀ (k : Nat) (U : List (List Int)), U.length = k + 1 → Hst 1 A v n U → (wu n U u : Int) + DD A u k = gt0 (aat A 0) u
  | 0, U, e, h => by
    have : U = [srt (aat A 0)] := by
      match U, e, h.first with
      | [r], _, f => rw [← f]; rfl
    rw [this, wu_one hA hl hu]
    unfold DD
    simp
  | k + 1, U, e, h => by
    have ne : U ≠ [] := fun z => by rw [z] at e; simp at e
    have dl := List.dropLast_concat_getLast ne
    generalize U.getLast ne = r at dl
    generalize U.dropLast = W at dl
    subst dl
    have lW : W.length = k + 1 := by rw [List.length_append, List.length_singleton] at e; omega
    have h1 := wu_snoc hA (by omega) h hu
    have h2 := wu_eq hA hl hu k W lW (hst_snoc (by omega) h)
    rw [lW, Nat.add_sub_cancel] at h1
    rw [DD_succ]
    omega
theorem dc_nn (hA : Ser A v n) {j u : Nat} (hj : j + 1 < A.length) (hu : u < v) : 0 ≤ dc A j u := by
  have hb := hA _ (aat_mem (show j < A.length by omega))
  have hc := hA _ (aat_mem hj)
  unfold dc
  rw [(DCoy.dif_get _ _ (by rw [hb.len, hc.len]) u (by rw [hb.len]; exact hu)).1]
  unfold mx0
  split <;> omega
theorem DD_mono (hA : Ser A v n) {u k : Nat} (hu : u < v) : ∀ d, k + d < A.length → DD A u k ≤ DD A u (k + d)
  | 0, _ => Int.le_refl _
  | d + 1, h => by
    have ih := DD_mono (k := k) hA hu d (by omega)
    have := dc_nn hA (j := k + d) (u := u) (by omega) hu
    rw [← Nat.add_assoc, DD_succ]
    omega
/-- no variant is overdrawn -/
def Und (A : List (List Int)) (v : Nat) : Prop := ∀ u, u < v → DD A u (A.length - 1) ≤ gt0 (aat A 0) u
theorem calm_on (hA : Ser A v n) (hl : 1 ≤ A.length) (hU : Und A v) {U : List (List Int)} (h : Hst 1 A v n U) (hk : U.length < A.length) : enough v (aat A (U.length - 1)) (aat A U.length) (lastR U) (fre 1 (chgs U n)) = true := by
  have ne := h.ne
  unfold enough
  rw [List.all_eq_true]
  intro u hu
  have hu := List.mem_range.1 hu
  have w := wu_eq hA hl hu (U.length - 1) U (by omega) h
  have g := wF_get (P0 (lastR U) (fre 1 (chgs U n))) hu
  have d := hU u hu
  have m := DD_mono hA (u := u) (k := U.length - 1 + 1) hu (A.length - 1 - (U.length - 1 + 1)) (by omega)
  rw [show U.length - 1 + 1 + (A.length - 1 - (U.length - 1 + 1)) = A.length - 1 by omega, DD_succ] at m
  refine decide_eq_true ?_
  show gt0 (difL _ _) u ≤ (wF v (P0 (lastR U) (fre 1 (chgs U n)))).getD u 0
  rw [g]
  have e : gt0 (difL (aat A (U.length - 1)) (aat A U.length)) u = dc A (U.length - 1) u := by
    unfold dc; rw [show U.length - 1 + 1 = U.length by omega]
  rw [e]
  show _ ≤ ((wu n U u : Nat) : Int)
  omega
theorem calm_no (hA : Ser A v n) (hl : 1 ≤ A.length) (hU : ¬ Und A v) (Y : List (List Int)) : ¬ Ful 1 A v n Y := by
  rintro ⟨h, e⟩
  refine hU fun u hu => ?_
  have w := wu_eq hA hl hu (Y.length - 1) Y (by have := h.ne; omega) h
  rw [e] at w
  omega
def gr (v : Nat) (A : List (List Int)) (L : Int) : Nat → Nat → List Int → List Int → List (List Int)
  | 0, _, _, _ => []
  | m + 1, k, r, c => (nxt v A L k r c).headD [] :: gr v A L m (k + 1) ((nxt v A L k r c).headD []) (incr r ((nxt v A L k r c).headD []) c)
theorem gr_head (hA : Ser A v n) (hn : ∀ U, Hst L A v n U → U.length < A.length → nxt v A L U.length (lastR U) (chgs U n) ≠ []) : ∀ (m : Nat) (U : List (List Int)), Hst L A v n U → m + U.length = A.length → ∃ t, All v A L m U.length (lastR U) (chgs U n) = gr v A L m U.length (lastR U) (chgs U n) :: t
  | 0, U, _, _ => ⟨[], rfl⟩
  | m + 1, U, h, e => by
    have ne := hn U h (by omega)
    rw [All, gr]
    cases hx : nxt v A L U.length (lastR U) (chgs U n) with
    | nil => exact absurd hx ne
    | cons y t =>
      have k := (hst_nxt hA h (by omega) y).1 (by rw [hx]; exact List.mem_cons_self)
      obtain ⟨t2, h2⟩ := gr_head hA hn m (U ++ [y]) k (by rw [List.length_append, List.length_singleton]; omega)
      rw [lastR_snoc, ← incr_chgs h.ne, List.length_append, List.length_singleton] at h2
      rw [List.headD_cons, List.flatMap_cons, h2]
      exact ⟨_, rfl⟩
theorem nxt_ne (hA : Ser A v n) (hl : 1 ≤ A.length) (hU : Und A v) {U : List (List Int)} (h : Hst 1 A v n U) (hk : U.length < A.length) : ∃ t, nxt v A 1 U.length (lastR U) (chgs U n) = cs (comF v (stF v (aat A (U.length - 1)) (aat A U.length) (P0 (lastR U) (fre 1 (chgs U n)))) (P0 (lastR U) (fre 1 (chgs U n)))) :: t := by
  have e := calm_on hA hl hU h hk
  have hr := hst_last h
  obtain ⟨B, eB, _, hB⟩ := row_nat hr.bnd
  have I := st_inv (hA _ (aat_mem (show U.length - 1 < A.length by have := h.ne; omega))) (hA _ (aat_mem hk)) hB (fre 1 (chgs U n)) (by rw [← eB]; exact e)
  obtain ⟨t, ht⟩ := comF_head _ _ I
  show ∃ t, NX v _ _ _ _ = _
  unfold NX
  rw [if_pos e, eB, P0_cs, ht]
  exact ⟨_, rfl⟩
end DCqc
namespace DCqc
open PySem DL DCos
open DCom
open DCoy (St gt0 cs mx0 difL difR lvc tak add1)
variable {v n : Nat} {A U : List (List Int)} {L : Int}
theorem set_self (w : List Int) (u : Nat) (h : u < w.length) : w.set u (gt0 w u) = w := by
  refine List.ext_getElem (by simp) fun i h1 h2 => ?_
  rw [List.getElem_set]
  by_cases c : u = i
  · subst c; rw [if_pos rfl]; simp [gt0, h]
  · rw [if_neg c]
theorem tkW_one {s : St} {u c : Nat} {fr : Bool} (hu : u < s.w.length) (h : fr = false → c = u) : tkW s u c fr 1 = takF s u c fr := by
  cases fr with
  | false =>
    have := h rfl
    subst this
    unfold tkW takF
    rw [if_pos rfl]
    have e : s.w.getD c 0 - 1 * bi false = gt0 s.w c := by show s.w.getD c 0 - 1 * 0 = s.w.getD c 0; omega
    rw [e, set_self _ _ hu]; rfl
  | true =>
    unfold tkW takF tak add1
    rw [if_pos rfl]
    have e : s.w.getD u 0 - 1 * bi true = s.w.getD u 0 - 1 := by show s.w.getD u 0 - 1 * 1 = _; omega
    rw [e]
abbrev ccB (cM : Nat → Addr) : DL.Env → Out := sThen (sSet 7 (mD (e2 dIx (eFrz (mKeep (eMethP (cM 3) 4 "options" 2 (f_Step_options cM) (avD (eVar 6) (avNil))))) (eC (.int 0)))))
    (sThen (sDrop (mKeep (eMethP (cM 3) 4 "take" 4 (f_Step_take cM) (avD (eVar 6) (avD (eVar 7) (avD (eC (.int 1)) (avNil)))))))
    (sDrop (mD (eMt 5 mApp (aCons (eVar 7) (aNil))))))
abbrev ccE (cM : Nat → Addr) (x0 x1 x2 x3 : PyData) (O : M) (done : List Nat) (o6 o7 : Option M) : DL.Env := [some (.d x0), some (.d x1), some (.d x2), some (.d x3), some O, some (.l ((cs done).map .int)), o6, o7]
theorem zip_at {A : List Nat} {f : List Bool} {k : Nat} (hf : f.length = A.length) (hk : k < A.length) : (A.zip f).drop k = (A[k], f[k]'(by omega)) :: (A.zip f).drop (k + 1) := by
  rw [List.drop_eq_getElem_cons (by rw [List.length_zip]; omega), List.getElem_zip]
theorem cc_step (cM : Nat → Addr) (x0 x1 x3 : PyData) {A : List Nat} {f : List Bool} (hf : f.length = A.length) {k : Nat} (hk : k < A.length) {s : St} (hv : v ≤ 1000) (hA : A.length ≤ 1000) {P : List (Nat × Bool)} (I : InvF v s ((A[k], f[k]'(by omega)) :: P)) (done : List Nat) (hd : done.length ≤ 1000) (o7 : Option M) :
    ccB cM (ccE cM x0 x1 (tp (cs A)) x3 (SO cM (cs A) f s) done (some (.d (.int k))) o7) = .nx (ccE cM x0 x1 (tp (cs A)) x3 (SO cM (cs A) f (takF s A[k] ((optsF v s A[k] (f[k]'(by omega))).headD 0) (f[k]'(by omega)))) (done ++ [(optsF v s A[k] (f[k]'(by omega))).headD 0]) (some (.d (.int k))) (some (.d (.int (((optsF v s A[k] (f[k]'(by omega))).headD 0 : Nat) : Int))))) := by
  have hb : L2.atI ((cs A).map PyData.int) (k : Int) = some (.int ((A[k] : Nat) : Int)) := DCoy.at_cs A k hk
  have hfk : f[k]? = some (f[k]'(by omega)) := List.getElem?_eq_getElem (by omega)
  generalize hu0 : A[k] = u at *
  generalize f[k]'(by omega) = fr at *
  obtain ⟨c, t, hop⟩ := I.opt
  have hcm : c ∈ optsF v s u fr := by rw [hop]; exact List.mem_cons_self
  have hc := (I.tk hcm).1
  have q1 := options_e cM (cs A) f s (v := v) I.I.F hb hfk I.u hv
  have q2 := take_e cM (cs A) f s (v := v) (b := k) (u := u) (c := c) (fr := fr) (w := 1) (.inl rfl) I.I.F hb hfk I.u hc
  rw [tkW_one (by rw [I.I.F.lw]; exact I.u) (fun z => by
    subst z
    have : c ∈ [u] := hcm
    simpa using this)] at q2
  have m1 := SO_opt cM (cs A) f s
  have m2 := SO_take cM (cs A) f s
  have k1 := SO_keep cM (cs A) f s
  have ap : mApp ((cs done).map PyData.int) [.int (c : Int)] = some (.none, (cs (done ++ [c])).map .int) := by
    have := DCor.appL ((cs done).map PyData.int) (.int (c : Int)) (by rw [List.length_map, List.length_map]; omega)
    rw [this]
    simp [cs]
  have ix : dIx (.list ((cs (optsF v s u fr)).map .int)) (.int 0) = some (.int (c : Int)) := by
    rw [hop]; exact DCoy.at_cs (c :: t) 0 (by simp)
  rw [hop] at *
  rw [List.headD_cons]
  have ix : L2.atI ((cs (c :: t)).map PyData.int) 0 = some (.int (c : Int)) := ix
  simp only [ccE]
  generalize SO cM (cs A) f (takF s u c fr) = O2 at *
  generalize SO cM (cs A) f s = O1 at *
  generalize tp (cs A) = AA at *
  generalize (cs (c :: t)).map PyData.int = OP at *
  simp only [dlall, ccB, DL.eLend_eq, DL.tLend_eq, DL.mLend_eq, DL.resS_ok, DL.resT_ok, DL.resL_ok, DL.mask_nil, DL.mask_n, DL.mask_s, DL.maskM_d, DL.maskM_l, DL.maskM_scr, DL.maskM_fo, DL.maskM_o, DL.slotP_eq, DL.atM_ob, DL.eP_eq, DL.obD_d, DL.obD_l, DL.obL_l, DL.obT_t, DL.obO_o, DL.listP_eq, DL.tabP_eq, DL.tabO_eq, DL.obPut_ob, DL.putP_eq, DL.hid_eq, DL.okR_ok, DL.hide_nil, DL.hide_n, DL.hide_s, DL.hideM_d, DL.hideM_l, DL.hideM_scr, DL.hideM_of, DL.hideM_ot, DL.eIxP_eq, DL.eMtP_eq, DL.setD_i, DL.setLP_eq, DL.sSetP_eq, DL.eInP_eq, DL.eGetP_eq, DL.setTP_eq, DL.sPutP_eq, DL.mNewT_eq, DL.toOb_d, DL.toOb_l, DL.toOb_m, DL.toOb_ob, DL.putFP_eq, DL.sFldP_eq, DL.obMP_o, DL.eMethP_eq, DL.mKeep_eq, DL.keepR_ok, DL.keepF_nil, DL.keepF_cons, DL.keepO_n, DL.keepO_d, DL.keepO_l, DL.keepO_scr, DL.keepO_f, DL.keepO_t, DL.keepO_self, DL.eMakeP_eq, DL.toMkP_rt, m1, m2, q1, q2, k1, ix, ap]
theorem calm_change_e (cM : Nat → Addr) {b c : List Int} {A : List Nat} {f : List Bool} (hb : b.length = v) (hf : f.length = A.length) (hv : v ≤ 1000) (hA : A.length ≤ 1000) (hlt : ∀ u ∈ A, u < v) (I : InvF v (stF v b c (A.zip f)) (A.zip f)) :
    f_calm_change cM [.d (tp b), .d (tp c), .d (tp (cs A)), .d (.list (f.map .bool))] = .rt (.d (tp (cs (comF v (stF v b c (A.zip f)) (A.zip f))))) [none, none, none, none] := by
  have q0 := init_e cM b c A f hb hv hlt
  have kn : ((A.length : Int) ≤ 16777216 ∧ -(2 ^ 62) ≤ (A.length : Int)) = True := by simp; omega
  have bl : bLen [tp (cs A)] = some (.int (A.length : Int)) := by simp [bLen]
  obtain ⟨e', q1, s', done, o6, o7, h1, h2, h3, rfl⟩ := forGo_range (g := gN 6) (body := ccB cM) A.length (fun k e => ∃ (s : St) (done : List Nat) (o6 o7 : Option M), done.length = k ∧ InvF v s ((A.zip f).drop k) ∧ done ++ comF v s ((A.zip f).drop k) = comF v (stF v b c (A.zip f)) (A.zip f) ∧ e = ccE cM (tp b) (tp c) (tp (cs A)) (.list (f.map .bool)) (SO cM (cs A) f s) done o6 o7) (by
    rintro k e hk ⟨s, done, o6, o7, h1, h2, h3, rfl⟩
    have dk := zip_at hf hk
    rw [dk] at h2 h3
    have st := cc_step (v := v) cM (tp b) (tp c) (.list (f.map .bool)) hf hk hv hA h2 done (by omega) o7
    obtain ⟨c', t, hop⟩ := h2.opt
    have tk := (h2.tk (c := c') (by rw [hop]; exact List.mem_cons_self)).2
    have hd : (optsF v s A[k] (f[k]'(by omega))).headD 0 = c' := by rw [hop]; rfl
    refine ⟨ccE cM (tp b) (tp c) (tp (cs A)) (.list (f.map .bool)) (SO cM (cs A) f s) done (some (.d (.int k))) o7, _, ?_, .inl st, _, _, _, _, by simp [h1], ?_, ?_, rfl⟩
    · simp only [dlall, ccE]
    · rw [hd]; exact tk
    · rw [← h3, comF, List.append_assoc]; rfl) (ccE cM (tp b) (tp c) (tp (cs A)) (.list (f.map .bool)) (SO cM (cs A) f (stF v b c (A.zip f))) [] none none) ⟨_, [], none, none, rfl, I, rfl, rfl⟩
  have dn : (A.zip f).drop A.length = [] := List.drop_eq_nil_of_le (by rw [List.length_zip]; omega)
  rw [dn, comF, List.append_nil] at h3
  rw [h3] at q1
  simp only [ccE, cs, List.map_nil] at q1
  simp only [cs] at q0 bl ⊢
  generalize hO1 : SO cM (A.map fun i : Nat => (i : Int)) f (stF v b c (A.zip f)) = O1 at *
  generalize SO cM (A.map fun i : Nat => (i : Int)) f s' = O2 at *
  have hO : ∃ x, O1 = M.ob false x := ⟨_, hO1.symm⟩
  obtain ⟨x, rfl⟩ := hO
  generalize comF v (stF v b c (A.zip f)) (A.zip f) = CF at *
  generalize PyData.list (f.map .bool) = FF at *
  simp only [dlall, f_calm_change, b_calm_change, DL.eLend_eq, DL.tLend_eq, DL.mLend_eq, DL.resS_ok, DL.resT_ok, DL.resL_ok, DL.mask_nil, DL.mask_n, DL.mask_s, DL.maskM_d, DL.maskM_l, DL.maskM_scr, DL.maskM_fo, DL.maskM_o, DL.slotP_eq, DL.atM_ob, DL.eP_eq, DL.obD_d, DL.obD_l, DL.obL_l, DL.obT_t, DL.obO_o, DL.listP_eq, DL.tabP_eq, DL.tabO_eq, DL.obPut_ob, DL.putP_eq, DL.hid_eq, DL.okR_ok, DL.hide_nil, DL.hide_n, DL.hide_s, DL.hideM_d, DL.hideM_l, DL.hideM_scr, DL.hideM_of, DL.hideM_ot, DL.eIxP_eq, DL.eMtP_eq, DL.setD_i, DL.setLP_eq, DL.sSetP_eq, DL.eInP_eq, DL.eGetP_eq, DL.setTP_eq, DL.sPutP_eq, DL.mNewT_eq, DL.toOb_d, DL.toOb_l, DL.toOb_m, DL.toOb_ob, DL.putFP_eq, DL.sFldP_eq, DL.obMP_o, DL.eMethP_eq, DL.mKeep_eq, DL.keepR_ok, DL.keepF_nil, DL.keepF_cons, DL.keepO_n, DL.keepO_d, DL.keepO_l, DL.keepO_scr, DL.keepO_f, DL.keepO_t, DL.keepO_self, DL.eMakeP_eq, DL.toMkP_rt, q0, bl, kn, Int.toNat_natCast]
  rw [q1]
  simp only [dlall]
end DCqc
namespace DCqcO
open PySem DL DCos
open DCom
open DCqc hiding dc DD enum_row
variable {v n : Nat} {A : List (List Int)}
theorem at_range {d r : List Nat} {j m : Nat} (h : d ++ j :: r = List.range m) : j = d.length ∧ d = List.range d.length ∧ d.length < m := by
  have hl := congrArg List.length h
  simp at hl
  have h1 := congrArg (fun l => l[d.length]?) h
  simp at h1
  rw [List.getElem?_range (by omega)] at h1
  refine ⟨Option.some.inj h1, ?_, by omega⟩
  have h2 := congrArg (fun l => l.take d.length) h
  simp at h2
  rw [show min d.length m = d.length by omega] at h2
  exact h2
theorem at0 (hl : 1 ≤ A.length) : L2.atI (A.map tp) 0 = some (tp (aat A 0)) := at_aat A 0 hl
def p0 (x : Int) : Int := if x > 0 then x else 0
def dc (A : List (List Int)) (k u : Nat) : Int := ((List.range k).map fun j => p0 ((aat A j).getD u 0 - (aat A (j + 1)).getD u 0)).sum
def dcr (A : List (List Int)) (v k : Nat) : List Int := (List.range v).map (dc A k)
theorem dc_succ (A : List (List Int)) (k u : Nat) : dc A (k + 1) u = dc A k u + p0 ((aat A k).getD u 0 - (aat A (k + 1)).getD u 0) := by
  unfold dc
  rw [List.range_succ, List.map_append, List.sum_append]
  simp
theorem dcr_get (A : List (List Int)) (v k u : Nat) (hu : u < v) : (dcr A v k).getD u 0 = dc A k u := by simp [dcr, hu]
theorem zip3 (F a b : List Int) (hF : F.length = v) (ha : a.length = v) (hb : b.length = v) : bZipX [.list (F.map .int), tp a, tp b] = some ((List.range v).map fun u : Nat => PyData.tuple [.int (F.getD u 0), .int (a.getD u 0), .int (b.getD u 0)]) := by
  show some (zipX [F.map .int, a.map .int, b.map .int]) = _
  have ml : minLen [F.map PyData.int, a.map .int, b.map .int] = v := by
    show min (F.map PyData.int).length (min (a.map PyData.int).length (b.map PyData.int).length) = _
    rw [List.length_map, List.length_map, List.length_map]; omega
  congr 1
  unfold zipX
  rw [ml]
  refine List.map_congr_left fun u hu => ?_
  have hu := List.mem_range.1 hu
  simp [show u < F.length by omega, show u < a.length by omega, show u < b.length by omega]
abbrev dcB : DL.Env → Out := sSet 1 (mD (eComp (itB bZipX (aCons (eVar 1) (aCons (eVar 2) (aCons (eVar 3) (aNil))))) (gT 3 (gsC (gN 7) (gsC (gN 5) (gsC (gN 6) (gsN))))) (tYesD) (e2 dAdd (eVar 7) (eB bMax (aCons (eC (.int 0)) (aCons (e2 dSub (eVar 5) (eVar 6)) (aNil))))) [7, 5, 6]))
theorem dcB_e (F a b : List Int) (hF : F.length = v) (ha : a.length = v) (hb : b.length = v) (x0 o4 o5 o6 o7 : Option M) : ∃ y5 y6 y7 : Option M, dcB [x0, some (.d (.list (F.map .int))), some (.d (tp a)), some (.d (tp b)), o4, o5, o6, o7] =
    .nx [x0, some (.d (.list (((List.range v).map fun u => F.getD u 0 + p0 (a.getD u 0 - b.getD u 0)).map .int))), some (.d (tp a)), some (.d (tp b)), o4, y5, y6, y7] := by
  have z := zip3 F a b hF ha hb
  have tc := compGo_map (g := gT 3 (gsC (gN 7) (gsC (gN 5) (gsC (gN 6) (gsN))))) (tt := tYesD) (te := e2 dAdd (eVar 7) (eB bMax (aCons (eC (.int 0)) (aCons (e2 dSub (eVar 5) (eVar 6)) (aNil))))) (vs := [7, 5, 6]) (emb := fun u : Nat => PyData.tuple [.int (F.getD u 0), .int (a.getD u 0), .int (b.getD u 0)]) (e := [x0, some (.d (.list (F.map .int))), some (.d (tp a)), some (.d (tp b)), o4, none, none, none]) (fun _ => true) (fun u => .int (F.getD u 0 + p0 (a.getD u 0 - b.getD u 0))) (List.range v) [] (fun u hu => by
    refine ⟨[x0, some (.d (.list (F.map .int))), some (.d (tp a)), some (.d (tp b)), o4, some (.d (.int (a.getD u 0))), some (.d (.int (b.getD u 0))), some (.d (.int (F.getD u 0)))], ?_, rfl, fun _ => ?_, ?_⟩
    · generalize PyData.list (F.map .int) = X at *
      generalize tp a = Y at *
      generalize tp b = Z at *
      simp only [dlall]
    · generalize PyData.list (F.map .int) = X at *
      generalize tp a = Y at *
      generalize tp b = Z at *
      simp only [dlall, p0]
    · generalize PyData.list (F.map .int) = X at *
      generalize tp a = Y at *
      generalize tp b = Z at *
      simp only [dlall])
  rw [List.filter_eq_self.2 (by simp), List.nil_append] at tc
  have em : ((List.range v).map fun u => PyData.int (F.getD u 0 + p0 (a.getD u 0 - b.getD u 0))) = ((List.range v).map fun u => F.getD u 0 + p0 (a.getD u 0 - b.getD u 0)).map .int := by rw [List.map_map]; rfl
  rw [em] at tc
  refine ⟨keepD (some o5), keepD (some o6), keepD (some o7), ?_⟩
  generalize ((List.range v).map fun u => F.getD u 0 + p0 (a.getD u 0 - b.getD u 0)).map PyData.int = R at *
  generalize PyData.list (F.map .int) = X at *
  generalize tp a = Y at *
  generalize tp b = Z at *
  generalize (List.range v).map (fun u : Nat => PyData.tuple [.int (F.getD u 0), .int (a.getD u 0), .int (b.getD u 0)]) = L at *
  simp only [dlall, dcB, z, tc]
theorem decreases_of_e (hA : Ser A v n) (hl : 1 ≤ A.length) : f_decreases_of [.d (AT A)] = .rt (.d (.list ((dcr A v (A.length - 1)).map .int))) [none] := by
  have a0 := at0 hl
  have l0 : (aat A 0).length = v := (hA _ (aat_mem hl)).len
  have sq := steps_of_e A
  have tc := compGo_map (g := gN 4) (tt := tYesD) (te := eC (.int 0)) (vs := [4]) (emb := fun x : Int => PyData.int x) (e := [some (.d (AT A)), none, none, none, none, none, none, none]) (fun _ => true) (fun _ => .int 0) (aat A 0) [] (fun x hx => by
    refine ⟨[some (.d (AT A)), none, none, none, some (.d (.int x)), none, none, none], ?_, rfl, fun _ => ?_, ?_⟩ <;> (generalize AT A = X at *; simp only [dlall]))
  rw [List.filter_eq_self.2 (by simp), List.nil_append] at tc
  have e0 : ((aat A 0).map fun _ => PyData.int 0) = (dcr A v 0).map .int := by
    unfold dcr dc
    rw [List.map_map]
    have : ((List.range v).map (PyData.int ∘ fun u => ((List.range 0).map fun j => p0 ((aat A j).getD u 0 - (aat A (j + 1)).getD u 0)).sum)) = (List.range v).map fun _ => PyData.int 0 := List.map_congr_left fun u _ => rfl
    rw [this, List.map_const', List.map_const', List.length_range, l0]
  rw [e0] at tc
  obtain ⟨e', q, o2, o3, o5, o6, o7, _, rfl⟩ := forGo_list (g := gT 2 (gsC (gN 2) (gsC (gN 3) (gsN)))) (emb := pr A) (body := dcB) (fun d r e => ∃ o2 o3 o5 o6 o7 : Option M, d ++ r = List.range (A.length - 1) ∧ e = [some (.d (AT A)), some (.d (.list ((dcr A v d.length).map .int))), o2, o3, none, o5, o6, o7]) (by
    rintro d j r e ⟨o2, o3, o5, o6, o7, hd, rfl⟩
    obtain ⟨rfl, _, hlt⟩ := at_range hd
    obtain ⟨y5, y6, y7, k⟩ := dcB_e (v := v) (dcr A v d.length) (aat A d.length) (aat A (d.length + 1)) (by simp [dcr]) (hA _ (aat_mem (by omega))).len (hA _ (aat_mem (by omega))).len (some (.d (AT A))) none o5 o6 o7
    have e1 : ((List.range v).map fun u => (dcr A v d.length).getD u 0 + p0 ((aat A d.length).getD u 0 - (aat A (d.length + 1)).getD u 0)) = dcr A v (d.length + 1) := by
      unfold dcr
      refine List.map_congr_left fun u hu => ?_
      rw [dc_succ, ← dcr_get A v d.length u (List.mem_range.1 hu)]
      rfl
    rw [e1] at k
    refine ⟨_, _, ?_, .inl k, _, _, _, _, _, ?_, by rw [List.length_append, List.length_singleton]⟩
    · unfold pr
      generalize AT A = X at *
      generalize PyData.list ((dcr A v d.length).map .int) = F at *
      generalize tp (aat A d.length) = Y at *
      generalize tp (aat A (d.length + 1)) = Z at *
      simp only [dlall]
    · rw [List.append_assoc]; exact hd) (List.range (A.length - 1)) [] [some (.d (AT A)), some (.d (.list ((dcr A v 0).map .int))), none, none, none, none, none, none] ⟨none, none, none, none, none, rfl, rfl⟩
  rw [List.nil_append, List.length_range] at q
  have q : forGo (gT 2 (gsC (gN 2) (gsC (gN 3) (gsN)))) dcB (ZZ A) [some (.d (AT A)), some (.d (.list ((dcr A v 0).map .int))), none, none, none, none, none, none] = .nx [some (.d (AT A)), some (.d (.list ((dcr A v (A.length - 1)).map .int))), o2, o3, none, o5, o6, o7] := q
  have it0 : dIx (AT A) (.int 0) = some (tp (aat A 0)) := a0
  have sq0 : seqOf (tp (aat A 0)) = some ((aat A 0).map .int) := rfl
  generalize PyData.list ((dcr A v (A.length - 1)).map .int) = R at *
  generalize (dcr A v 0).map PyData.int = R0 at *
  generalize ZZ A = Z at *
  generalize tp (aat A 0) = T0 at *
  generalize AT A = X at *
  simp only [dlall, f_decreases_of, b_decreases_of, it0, sq0, tc, sq, q]
def ovr (A : List (List Int)) (u : Nat) : Option PyData := if (aat A 0).getD u 0 < dc A (A.length - 1) u then some (.int u) else none
def OV (A : List (List Int)) (v : Nat) : Option PyData := (List.range v).findSome? (ovr A)
theorem enum_row (l : List Int) : ∀ k : Nat, enumD k (l.map .int) = (List.range l.length).map fun j : Nat => PyData.tuple [.int ((k + j : Nat) : Int), .int (l.getD j 0)] := by
  induction l with
  | nil => intro k; rfl
  | cons x l ih =>
    intro k
    rw [List.map_cons, enumD, ih (k + 1), List.length_cons, List.range_succ_eq_map, List.map_cons, List.map_map]
    congr 1
    refine List.map_congr_left fun j _ => ?_
    show _ = PyData.tuple [.int ((k + (j + 1) : Nat) : Int), .int (l.getD j 0)]
    rw [Nat.add_assoc, Nat.add_comm 1 j]
abbrev obB : DL.Env → Out := (sIf (tb1 (e2 dGt (eVar 2) (e2 dIx (e2 dIx (eVar 0) (eC (.int 0))) (eVar 1)))) (sRet (mD (eVar 1))) (sNx))
theorem overdrawn_in_e (hA : Ser A v n) (hl : 1 ≤ A.length) : f_overdrawn_in [.d (AT A)] = .rt (.d ((OV A v).getD .none)) [none] := by
  have q2 := decreases_of_e hA hl
  have a0 : dIx (AT A) (.int 0) = some (tp (aat A 0)) := at0 hl
  have l0 : (aat A 0).length = v := (hA _ (aat_mem hl)).len
  have lD : (dcr A v (A.length - 1)).length = v := by simp [dcr]
  obtain ⟨e2, q, sh, _⟩ := forGo_fnd (emb := fun u : Nat => PyData.tuple [.int ((0 + u : Nat) : Int), .int ((dcr A v (A.length - 1)).getD u 0)]) (g := gT 2 (gsC (gN 1) (gsC (gN 2) (gsN)))) (body := obB) (List.range v) (ovr A) 1 (fun e => ∃ o1 o2 : Option M, e = [some (.d (AT A)), o1, o2]) (fun e ⟨_, _, h⟩ => by subst h; exact Nat.succ_le_succ (Nat.zero_le _)) (by
    rintro u hu e ⟨o1, o2, rfl⟩
    have hu := List.mem_range.1 hu
    have r : dIx (tp (aat A 0)) (.int ((u : Nat) : Int)) = some (.int ((aat A 0).getD u 0)) := rowS _ u (by omega)
    rw [dcr_get A v _ u hu, Nat.zero_add]
    unfold ovr
    refine ⟨[some (.d (AT A)), some (.d (.int u)), some (.d (.int (dc A (A.length - 1) u)))], [some (.d (AT A)), some (.d (.int u)), some (.d (.int (dc A (A.length - 1) u)))], ?_, ?_, Nat.succ_le_succ (Nat.zero_le _), fun _ => ⟨_, _, rfl⟩⟩
    · generalize AT A = X at *
      simp only [dlall]
    · by_cases c : (aat A 0).getD u 0 < dc A (A.length - 1) u
      · have c' := decide_eq_true c
        rw [if_pos c]
        generalize tp (aat A 0) = T0 at *
        generalize AT A = X at *
        simp only [dlall, obB, a0, r, c', outOf_s]
      · have c' := decide_eq_false c
        rw [if_neg c]
        generalize tp (aat A 0) = T0 at *
        generalize AT A = X at *
        simp only [dlall, obB, a0, r, c', outOf_n]) [some (.d (AT A)), none, none] ⟨none, none, rfl⟩
  have er := enum_row (dcr A v (A.length - 1)) 0
  rw [lD] at er
  rw [← er] at q
  have q : forGo (gT 2 (gsC (gN 1) (gsC (gN 2) (gsN)))) obB (enumD 0 ((dcr A v (A.length - 1)).map .int)) [some (.d (AT A)), none, none] = outOf (OV A v) e2 := q
  have o1 : outs [false] e2 = [none] := by
    cases e2 with
    | nil => exact absurd sh (by unfold Sh; simp)
    | cons a e => rfl
  have fin := outOf_fin (OV A v) e2 .none
  have body : b_overdrawn_in [some (.d (AT A)), none, none] = .rt (.d ((OV A v).getD .none)) e2 := by
    generalize OV A v = T at *
    generalize (dcr A v (A.length - 1)).map PyData.int = R at *
    generalize AT A = X at *
    simp only [dlall, b_overdrawn_in, q2, q]
    exact fin
  have body : b_overdrawn_in (start0 3 [.d (AT A)]) = .rt (.d ((OV A v).getD .none)) e2 := body
  show (runDef [false] 3 b_overdrawn_in) [.d (AT A)] = _
  unfold runDef
  rw [body]
  show FOut.rt _ (outs [false] e2) = _
  rw [o1]
theorem ov_int {k : Nat} : ∀ {x : PyData}, (List.range k).findSome? (ovr A) = some x → ∃ j : Nat, x = .int j := by
  intro x h
  obtain ⟨j, _, e⟩ := List.exists_of_findSome?_eq_some h
  unfold ovr at e
  split at e
  · cases e; exact ⟨j, rfl⟩
  · cases e
theorem overdrawn_e (hA : Ser A v n) (h1 : 1 ≤ v) (h5 : v ≤ 5) (hn : n ≤ 20) (hl : 1 ≤ A.length) (hl2 : A.length ≤ 10) : f_overdrawn [.d (AT A)] = .rt (.d ((OV A v).getD .none)) [none] := by
  have q1 : DCos.f_check_series [.d (AT A), .d (.int 10)] = .rt (.d .none) [none, none] := DCos.check_series_e hA h1 h5 hn hl 10 hl2
  have q2 := overdrawn_in_e hA hl
  generalize AT A = X at *
  cases h : OV A v with
  | none =>
    rw [h] at q2
    have q2 : f_overdrawn_in [.d X] = .rt (.d .none) [none] := q2
    simp only [dlall, f_overdrawn, b_overdrawn, q1, q2]
    rfl
  | some x =>
    rw [h] at q2
    have q2 : f_overdrawn_in [.d X] = .rt (.d x) [none] := q2
    simp only [dlall, f_overdrawn, b_overdrawn, q1, q2]
    rfl
theorem dc_DD (hA : Ser A v n) {u : Nat} (hu : u < v) : ∀ k, k < A.length → dc A k u = DCqc.DD A u k
  | 0, _ => rfl
  | k + 1, h => by
    have hb := hA _ (aat_mem (show k < A.length by omega))
    have hc := hA _ (aat_mem h)
    rw [dc_succ, DCqc.DD_succ, dc_DD hA hu k (by omega)]
    unfold DCqc.dc
    rw [(DCoy.dif_get _ _ (by rw [hb.len, hc.len]) u (by rw [hb.len]; exact hu)).1]
    rfl
theorem OV_none (hA : Ser A v n) (hl : 1 ≤ A.length) : OV A v = none ↔ DCqc.Und A v := by
  unfold OV
  rw [List.findSome?_eq_none_iff]
  constructor
  · intro h u hu
    have := h u (List.mem_range.2 hu)
    unfold ovr at this
    split at this
    · cases this
    · rename_i c
      rw [← dc_DD hA hu _ (by omega)]
      show _ ≤ (aat A 0).getD u 0
      omega
  · intro h u hu
    have hu := List.mem_range.1 hu
    have := h u hu
    rw [← dc_DD hA hu _ (by omega)] at this
    unfold ovr
    rw [if_neg (by
      intro c
      have this : dc A (A.length - 1) u ≤ (aat A 0).getD u 0 := this
      omega)]
end DCqcO
namespace DCqc
open PySem DL DCos
open DCom
open DCoy (St gt0 cs mx0 difL difR lvc tak add1)
variable {v n : Nat} {A U : List (List Int)} {L : Int}
theorem hst_len (h : Hst L A v n U) : ∀ j, j < U.length → (aat U j).length = n := fun j hj => (h.as j hj).len
theorem last_at (h : 1 ≤ U.length) : L2.atI (U.map tp) (-1) = some (tp (lastR U)) := by
  have hj : U.length - 1 < U.length := by omega
  unfold L2.atI L2.ixN
  have e : (-1 + ((U.map tp).length : Int)).toNat = U.length - 1 := by rw [List.length_map]; omega
  rw [if_neg (by omega), if_pos (by rw [List.length_map]; omega), Option.bind_some, e, List.getElem?_map, List.getElem?_eq_getElem hj]
  show some (tp _) = some (tp (aat U (U.length - 1)))
  rw [aat_get hj]
theorem fre_bools (U : List (List Int)) (n : Nat) : ((chgs U n).map fun x => PyData.bool (x == 0)) = (fre 1 (chgs U n)).map .bool := by
  unfold fre
  rw [List.map_map]
  refine List.map_congr_left fun x hx => ?_
  obtain ⟨b, _, rfl⟩ := List.mem_map.1 hx
  have := chg_nn U b
  show PyData.bool _ = .bool (decide (chg U b < 1))
  congr 1
  rw [Bool.eq_iff_iff, beq_iff_eq, decide_eq_true_eq]
  omega
abbrev chB (cM : Nat → Addr) : DL.Env → Out := sThen (sSet 4 (mD (eFrz (mLend2 (mComp (itSeq (eFrz (eCall 1 f_changes_in (avD (eVar 1) (avNil))))) (gN 5) (tYesD) (e2 dEq (eVar 5) (eC (.int 0))) [5])))))
    (sDrop (mD (eMt 1 mApp (aCons (eFrz (eCall 4 (f_calm_change cM) (avD (eVar 2) (avD (eVar 3) (avD (eIxO 1 (e1 dNeg (eC (.int 1)))) (avD (eVar 4) (avNil))))))) (aNil)))))
def calmH (v n : Nat) (A : List (List Int)) : List (List Int) := srt (aat A 0) :: gr v A 1 (A.length - 1) 1 (srt (aat A 0)) (zeros n)
theorem ch_step (cM : Nat → Addr) (hA : Ser A v n) (h5 : v ≤ 5) (hn : n ≤ 20) (hl : 1 ≤ A.length) (hl2 : A.length ≤ 10) (hU : Und A v) (h : Hst 1 A v n U) (hk : U.length < A.length) (o4 : Option M) (h4 : o4 = none ∨ ∃ x, o4 = some (.d x)) : ∃ y : List Int, nxt v A 1 U.length (lastR U) (chgs U n) = y :: (nxt v A 1 U.length (lastR U) (chgs U n)).tail ∧ Hst 1 A v n (U ++ [y]) ∧
    chB cM [some (.d (AT A)), some (.l (U.map tp)), some (.d (tp (aat A (U.length - 1)))), some (.d (tp (aat A U.length))), o4, none] = .nx [some (.d (AT A)), some (.l ((U ++ [y]).map tp)), some (.d (tp (aat A (U.length - 1)))), some (.d (tp (aat A U.length))), some (.d (.list ((fre 1 (chgs U n)).map .bool))), none] := by
  obtain ⟨t, ht⟩ := nxt_ne hA hl hU h hk
  have ne := h.ne
  have hr := hst_last h
  obtain ⟨B, eB, _, hB⟩ := row_nat hr.bnd
  have lB : B.length = n := by have := hr.len; rw [eB] at this; simpa [cs] using this
  have en := calm_on hA hl hU h hk
  have hb := hA _ (aat_mem (show U.length - 1 < A.length by omega))
  have hc := hA _ (aat_mem hk)
  have I := st_inv hb hc hB (fre 1 (chgs U n)) (by rw [← eB]; exact en)
  have lf : (fre 1 (chgs U n)).length = B.length := by rw [fre, List.length_map, chgs_len, lB]
  rw [eB, P0_cs] at ht
  refine ⟨cs (comF v (stF v (aat A (U.length - 1)) (aat A U.length) (B.zip (fre 1 (chgs U n)))) (B.zip (fre 1 (chgs U n)))), ?_, ?_, ?_⟩
  · rw [eB, ht]; rfl
  · refine (hst_nxt hA h hk _).1 ?_
    rw [eB, ht]; exact List.mem_cons_self
  have q1 := changes_in_g (U := U) (D := .list (U.map tp)) rfl ne (by have := h.le; omega) (n := n) (by omega) (hst_len h)
  have q2 := calm_change_e cM (b := aat A (U.length - 1)) (c := aat A U.length) (A := B) (f := fre 1 (chgs U n)) hb.len lf (by omega) (by omega) hB I
  have la := last_at (U := U) ne
  rw [eB] at la
  have ng : dNeg (.int 1) = some (.int (-1)) := rfl
  have cg := compGo_map (g := gN 5) (tt := tYesD) (te := e2 dEq (eVar 5) (eC (.int 0))) (vs := [5]) (emb := PyData.int) (e := [some (.d (AT A)), some (.d (.list (U.map tp))), some (.d (tp (aat A (U.length - 1)))), some (.d (tp (aat A U.length))), o4, none]) (fun _ => true) (fun x => .bool (x == 0)) (chgs U n) [] (fun x _ => by
    refine ⟨[some (.d (AT A)), some (.d (.list (U.map tp))), some (.d (tp (aat A (U.length - 1)))), some (.d (tp (aat A U.length))), o4, some (.d (.int x))], ?_, rfl, fun _ => ?_, ?_⟩
    · simp only [dlall]
    · simp only [dlall]
    · simp only [dlall])
  rw [List.filter_eq_self.2 (by simp), List.nil_append, fre_bools] at cg
  generalize cs (comF v (stF v (aat A (U.length - 1)) (aat A U.length) (B.zip (fre 1 (chgs U n)))) (B.zip (fre 1 (chgs U n)))) = y at *
  have ap := appS (U.map tp) (tp y) (by rw [List.length_map]; have := h.le; omega)
  have e1 : U.map tp ++ [tp y] = (U ++ [y]).map tp := by rw [List.map_append]; rfl
  rw [e1] at ap
  have sq : seqOf (tp (chgs U n)) = some ((chgs U n).map .int) := rfl
  generalize tp (chgs U n) = TC at *
  generalize (chgs U n).map PyData.int = CC at *
  have ro : resO (.l ((fre 1 (chgs U n)).map .bool)) = true := by
    show ((fre 1 (chgs U n)).map PyData.bool).all scal0 = true
    rw [List.all_eq_true]
    intro d hd
    obtain ⟨_, _, rfl⟩ := List.mem_map.1 hd
    rfl
  generalize ((fre 1 (chgs U n)).map PyData.bool) = FB at *
  generalize (U ++ [y]).map tp = UT2 at *
  generalize U.map tp = UT at *
  generalize tp (aat A (U.length - 1)) = A1 at *
  generalize tp (aat A U.length) = A2 at *
  generalize AT A = T at *
  generalize tp y = Y at *
  generalize tp (cs B) = BB at *
  rcases h4 with rfl | ⟨x4, rfl⟩
  · simp only [dlall, chB, mLend2_eq, mask2_nil, mask2_s, mask2_n, maskM2_d, maskM2_l, resL2_ok, q1, sq, cg, ro, ng, la, q2, ap]
  · simp only [dlall, chB, mLend2_eq, mask2_nil, mask2_s, mask2_n, maskM2_d, maskM2_l, resL2_ok, q1, sq, cg, ro, ng, la, q2, ap]
theorem calm_some (cM : Nat → Addr) (hA : Ser A v n) (h1 : 1 ≤ v) (h5 : v ≤ 5) (hn : n ≤ 20) (hl : 1 ≤ A.length) (hl2 : A.length ≤ 10) (hU : Und A v) : f_calm_history cM [.d (AT A)] = .rt (.d (AT (calmH v n A))) [none] := by
  have q1 : DCos.f_check_series [.d (AT A), .d (.int 10)] = .rt (.d .none) [none, none] := DCos.check_series_e hA h1 h5 hn hl 10 hl2
  have q2 := DCqcO.overdrawn_in_e hA hl
  rw [(DCqcO.OV_none hA hl).2 hU, Option.getD_none] at q2
  have q3 : f_sorted_assignment [.d (tp (aat A 0))] = .rt (.d (tp (srt (aat A 0)))) [none] := sorted_assignment_e (hA _ (aat_mem (show 0 < A.length by omega))) (by omega) (by omega)
  have i0 : L2.atI (A.map tp) 0 = some (tp (aat A 0)) := at_aat A 0 (by omega)
  have q4 := steps_of_e A
  obtain ⟨e', q, U, o2, o3, o4, _, _, hU1, hU2, hU3, rfl⟩ := forGo_list (g := gT 2 (gsC (gN 2) (gsC (gN 3) (gsN)))) (emb := pr A) (body := chB cM) (fun d r e => ∃ (U : List (List Int)) (o2 o3 o4 : Option M), (o4 = none ∨ ∃ x, o4 = some (.d x)) ∧ d ++ r = List.range (A.length - 1) ∧ Hst 1 A v n U ∧ U.length = d.length + 1 ∧ U ++ gr v A 1 (A.length - 1 - d.length) U.length (lastR U) (chgs U n) = calmH v n A ∧ e = [some (.d (AT A)), some (.l (U.map tp)), o2, o3, o4, none]) (by
    rintro d j r e ⟨U, o2, o3, o4, h4, hd, k1, k2, k3, rfl⟩
    obtain ⟨rfl, hj⟩ : j = d.length ∧ d.length < A.length - 1 := by
      have h1 := congrArg (fun l => l[d.length]?) hd
      simp at h1
      have hl := congrArg List.length hd
      simp at hl
      rw [List.getElem?_range (by omega)] at h1
      exact ⟨Option.some.inj h1, by omega⟩
    obtain ⟨y, y1, y2, y3⟩ := ch_step cM hA h5 hn hl hl2 hU k1 (by omega) o4 h4
    have eg : A.length - 1 - d.length = (A.length - 1 - (d ++ [d.length]).length) + 1 := by rw [List.length_append, List.length_singleton]; omega
    rw [eg, gr, y1, List.headD_cons, incr_chgs k1.ne] at k3
    refine ⟨[some (.d (AT A)), some (.l (U.map tp)), some (.d (tp (aat A (U.length - 1)))), some (.d (tp (aat A U.length))), o4, none], _, ?_, .inl y3, U ++ [y], _, _, _, .inr ⟨_, rfl⟩, by rw [List.append_assoc]; exact hd, y2, by rw [List.length_append, List.length_append, k2]; rfl, ?_, rfl⟩
    · have e1 : pr A d.length = .tuple [tp (aat A (U.length - 1)), tp (aat A U.length)] := by rw [k2, Nat.add_sub_cancel]
      rw [e1]
      generalize tp (aat A (U.length - 1)) = A1 at *
      generalize tp (aat A U.length) = A2 at *
      generalize AT A = T at *
      generalize U.map tp = UT at *
      simp only [dlall]
    · rw [lastR_snoc, ← k3, List.append_assoc, List.singleton_append, List.length_append (as := U), List.length_singleton]) (List.range (A.length - 1)) [] [some (.d (AT A)), some (.l ([srt (aat A 0)].map tp)), none, none, none, none] ⟨[srt (aat A 0)], none, none, none, .inl rfl, by simp, hst_one hA hl (by omega), rfl, by rw [chgs_one]; rfl, rfl⟩
  rw [List.nil_append, List.length_range, Nat.sub_self, gr, List.append_nil] at hU3
  rw [hU3] at q
  have q : forGo (gT 2 (gsC (gN 2) (gsC (gN 3) (gsN)))) (chB cM) (ZZ A) [some (.d (AT A)), some (.l [tp (srt (aat A 0))]), none, none, none, none] = .nx [some (.d (AT A)), some (.l ((calmH v n A).map tp)), o2, o3, o4, none] := q
  have eT : AT (calmH v n A) = .tuple ((calmH v n A).map tp) := rfl
  rw [eT]
  have d0 : dIx (AT A) (.int 0) = some (tp (aat A 0)) := i0
  have dn : dIsNot .none .none = some (.bool false) := by simp
  generalize (calmH v n A).map tp = HH at *
  generalize ZZ A = Z at *
  generalize tp (srt (aat A 0)) = S0 at *
  generalize tp (aat A 0) = A0 at *
  generalize AT A = T at *
  simp only [dlall, f_calm_history, b_calm_history, q1, q2, dn, d0, q3, q4]
  rw [q]
  simp only [dlall]
theorem calm_none (cM : Nat → Addr) (hA : Ser A v n) (h1 : 1 ≤ v) (h5 : v ≤ 5) (hn : n ≤ 20) (hl : 1 ≤ A.length) (hl2 : A.length ≤ 10) (hU : ¬ Und A v) : f_calm_history cM [.d (AT A)] = .rt (.d .none) [none] := by
  have q1 : DCos.f_check_series [.d (AT A), .d (.int 10)] = .rt (.d .none) [none, none] := DCos.check_series_e hA h1 h5 hn hl 10 hl2
  have q2 := DCqcO.overdrawn_in_e hA hl
  have h0 : ¬ DCqcO.OV A v = none := fun z => hU ((DCqcO.OV_none hA hl).1 z)
  cases hv : DCqcO.OV A v with
  | none => exact absurd hv h0
  | some x =>
    obtain ⟨j, rfl⟩ := DCqcO.ov_int (A := A) (k := v) hv
    rw [hv, Option.getD_some] at q2
    generalize ((j : Nat) : Int) = J at *
    generalize AT A = T at *
    simp only [dlall, f_calm_history, b_calm_history, q1, q2]
/-- it is the least of all calm ones -/
theorem calm_all (hA : Ser A v n) (hl : 1 ≤ A.length) (hU : Und A v) : ∃ t, All0 v n A 1 = gr v A 1 (A.length - 1) 1 (srt (aat A 0)) (zeros n) :: t := by
  have h := gr_head (L := 1) hA (fun U h hk => by
    obtain ⟨t, e⟩ := nxt_ne hA hl hU h hk
    rw [e]; exact List.cons_ne_nil _ _) (A.length - 1) [srt (aat A 0)] (hst_one hA hl (by omega)) (by simp; omega)
  rw [chgs_one] at h
  exact h
end DCqc
namespace DCqc
open PySem DL DCos
open DCom
open DCoy (cs)
variable {v n : Nat} {A U : List (List Int)} {L : Int}
theorem mem_all {al row : List Int} (h : Al al v n) : row ∈ DCon.rowsAt al n ↔ As row al v n := by
  rw [DCon.mem_rows al h.nn]
  have hl := h.len
  constructor
  · rintro ⟨m1, m2, m3⟩
    have f := DCon.full_row al row (by rw [m1, h.sum]) m2 m3
    refine ⟨m1, by rw [hl] at m2; exact m2, ?_⟩
    refine List.ext_getElem (by rw [hl]; simp [cnt]) fun i h1 h2 => ?_
    have := f i h2
    rw [List.getD_eq_getElem?_getD, List.getElem?_eq_getElem h2] at this
    simpa [cnt] using this
  · rintro ⟨m1, m2, m3⟩
    refine ⟨m1, by rw [hl]; exact m2, fun w hw => ?_⟩
    rw [← m3]
    have hw : w < v := by rw [← hl]; exact hw
    have : (cnt row v).getD w 0 = ((row.count (w : Int) : Nat) : Int) := by
      unfold cnt
      rw [List.getD_eq_getElem?_getD, List.getElem?_map, List.getElem?_range hw]; rfl
    rw [this]
    exact Int.le_refl _
theorem equal_rows (L : List (List Int)) (h : L.length ≤ 1000) (hl : ∀ l ∈ L, l.length ≤ 1000) : DCom.f__law_equal [.d (.tuple (L.map tp)), .d (.tuple (L.map tp))] = .rt (.d (.bool true)) [none, none] := by
  have hd := Emb.row.tup.dep L
  refine equal_same 8 _ (Emb.row.tup.lay L) ?_ ?_ ?_
  · exact Nat.le_trans hd (by decide)
  · exact Nat.lt_of_le_of_lt hd (by decide)
  · refine ⟨by rw [List.length_map]; omega, fun x hx => ?_⟩
    obtain ⟨t, ht, rfl⟩ := List.mem_map.1 hx
    refine ⟨by rw [List.length_map]; have := hl t ht; omega, fun y hy => ?_⟩
    obtain ⟨i, _, rfl⟩ := List.mem_map.1 hy
    trivial
theorem equal_none : DCom.f__law_equal [.d .none, .d .none] = .rt (.d (.bool true)) [none, none] := equal_same 8 .none rfl (by decide) (by decide) trivial
theorem equal_ful (h : Ful L A v n U) (hn : n ≤ 100) (hl : A.length ≤ 100) : DCom.f__law_equal [.d (AT U), .d (AT U)] = .rt (.d (.bool true)) [none, none] := equal_rows U (by rw [h.2]; omega) fun l hl => by
  obtain ⟨i, hi, rfl⟩ := List.mem_iff_getElem.1 hl
  rw [← aat_get hi, (h.1.as i hi).len]; omega
def sz8 : List (Nat × Nat) := [(2, 6), (3, 4), (3, 3), (4, 3), (2, 5), (1, 6), (4, 2), (0, 3)]
/-- sizes: few buckets or few allocations -/
theorem small_ex (s : Strm) : ∃ (v n : Nat) (A : List (List Int)) (s' : Strm), f__law_small_series [s.m] = .rt (.d (AT A)) [some s'.m] ∧ Ser A v n ∧ 2 ≤ v ∧ v ≤ 4 ∧ 1 ≤ A.length ∧ ∃ m, (n, m) ∈ sz8 ∧ A.length ≤ m := by
  obtain ⟨d1, s1, q1, d1a, d1b⟩ := next_ex s 3 (by omega) (by omega)
  obtain ⟨d2, s2, q2, d2a, d2b⟩ := next_ex s1 8 (by omega) (by omega)
  obtain ⟨w, rfl⟩ := Int.eq_ofNat_of_zero_le d1a
  obtain ⟨j, rfl⟩ := Int.eq_ofNat_of_zero_le d2a
  have hj : j < 8 := by omega
  have hl8 : sz8.length = 8 := rfl
  have hp : sz8[j] ∈ sz8 := List.getElem_mem (by rw [hl8]; exact hj)
  have at8 : L2.atI (sz8.map fun p => PyData.tuple [.int (p.1 : Int), .int (p.2 : Int)]) (j : Int) = some (.tuple [.int ((sz8[j]).1 : Int), .int ((sz8[j]).2 : Int)]) := by
    rw [atI_nat, List.getElem?_map, List.getElem?_eq_getElem (by rw [hl8]; exact hj)]
    rfl
  have hb : ∀ p ∈ sz8, p.1 ≤ 4 ∧ 2 ≤ p.2 ∧ p.2 ≤ 6 := by decide
  obtain ⟨b1, b2, b3⟩ := hb _ hp
  generalize sz8[j] = p at hp at8 b1 b2 b3
  obtain ⟨n, m⟩ := p
  obtain ⟨d3, s3, q3, d3a, d3b⟩ := next_ex s2 (m : Int) (by omega) (by omega)
  obtain ⟨k, rfl⟩ := Int.eq_ofNat_of_zero_le d3a
  have b1 : n ≤ 4 := b1
  have b3 : m ≤ 6 := b3
  obtain ⟨A, s4, q4, hA1, hA2⟩ := series_all s3 (v := 2 + w) (n := n) (m := 1 + k) (by omega) (by omega) (by omega) (by omega) (by omega)
  have e1 : (2 : Int) + (w : Int) = ((2 + w : Nat) : Int) := by omega
  have e2 : (1 : Int) + (k : Int) = ((1 + k : Nat) : Int) := by omega
  refine ⟨2 + w, n, A, s4, ?_, hA2, by omega, by omega, by omega, m, hp, by omega⟩
  have at8 : L2.atI [PyData.tuple [.int 2, .int 6], PyData.tuple [.int 3, .int 4], PyData.tuple [.int 3, .int 3], PyData.tuple [.int 4, .int 3], PyData.tuple [.int 2, .int 5], PyData.tuple [.int 1, .int 6], PyData.tuple [.int 4, .int 2], PyData.tuple [.int 0, .int 3]] (j : Int) = some (.tuple [.int (n : Int), .int (m : Int)]) := at8
  have q4 : DCon.f__law_series [s3.m, .d (.int ((2 + w : Nat) : Int)), .d (.int (n : Int)), .d (.int ((1 + k : Nat) : Int))] = .rt (.d (AT A)) [some s4.m, none, none, none] := q4
  generalize AT A = T at *
  generalize ((2 + w : Nat) : Int) = V at *
  generalize ((1 + k : Nat) : Int) = KK at *
  generalize (n : Int) = N at *
  simp only [dlall, f__law_small_series, b__law_small_series, q1, e1, q2, at8, q3, e2, q4]
end DCqc
namespace Lk48
open PySem DL DCos DCqc
open DCom
open DCoy (cs)
variable {v n : Nat} {A U : List (List Int)} {L : Int}
theorem rowsAt_len4 (a : List Int) {v : Nat} (h : a.length ≤ v) : ∀ k, (DCon.rowsAt a k).length ≤ v ^ k
  | 0 => by simp [DCon.rowsAt]
  | k + 1 => by
    have := rowsAt_len4 a h k
    have q := DCon.flatMap_len (DCon.stepR a) v (fun x => Nat.le_trans (DCon.stepR_len a x) h) (DCon.rowsAt a k)
    rw [DCon.rowsAt, Nat.pow_succ]
    have q2 : v * (DCon.rowsAt a k).length ≤ v * v ^ k := Nat.mul_le_mul_left _ this
    rw [Nat.mul_comm (v ^ k)]
    omega
/-- the greatest of some and 0 -/
def mxl : List Int → Int
  | [] => 0
  | x :: r => maxL x r
def mxz (l : List Int) : Int := mxl (l ++ [0])
theorem bMax_z (l : List Int) : bMaxT [tp (l ++ [0])] = some (.int (mxz l)) := by
  unfold mxz
  cases h : l ++ [0] with
  | nil => simp at h
  | cons x r => exact bMaxT_t x r
theorem mxl_le (k : Int) : ∀ m : List Int, m ≠ [] → (mxl m ≤ k ↔ ∀ x ∈ m, x ≤ k)
  | [], hm => absurd rfl hm
  | x :: r, _ => by
    obtain ⟨g1, g2⟩ := maxL_ge r x
    have g3 := maxL_mem r x
    constructor
    · intro h y hy
      have h : maxL x r ≤ k := h
      rcases List.mem_cons.1 hy with rfl | hy
      · omega
      · have := g2 y hy; omega
    · intro h
      exact h _ g3
theorem mxz_le (l : List Int) (k : Int) (h : 0 ≤ k) : mxz l ≤ k ↔ ∀ x ∈ l, x ≤ k := by
  unfold mxz
  rw [mxl_le k (l ++ [0]) (by simp)]
  constructor
  · exact fun h x hx => h x (List.mem_append_left _ hx)
  · intro q x hx
    rcases List.mem_append.1 hx with hx | hx
    · exact q x hx
    · rw [List.mem_singleton] at hx; omega
/-- a history that goes on -/
theorem hst_mk (hA : Ser A v n) (h : Hst L A v n U) (hl : U.length < A.length) {r : List Int} (h1 : As r (aat A U.length) v n) (h2 : chu (lastR U) r = trf (aat A (U.length - 1)) (aat A U.length)) (h3 : ∀ b, b < n → chg (U ++ [r]) b ≤ L) : Hst L A v n (U ++ [r]) := by
  have ne := h.ne
  refine (hst_nxt hA h hl r).1 ((mem_NX (hA _ (aat_mem (show U.length - 1 < A.length by omega))) (hA _ (aat_mem hl)) (hst_last h) (by rw [fre, List.length_map, chgs_len]) r).2 ⟨h1, h2, fun i hi hf => ?_⟩)
  rw [fre_get (by rw [chgs_len]; exact hi), chgs_get hi] at hf
  have hf : ¬ chg U i < L := by simpa using hf
  have k := h3 i hi
  rw [chg_snoc ne] at k
  unfold dif at k
  by_cases e : (lastR U).getD i 0 = r.getD i 0
  · exact e.symm
  · rw [if_neg e] at k; omega
def okE (A : List (List Int)) (n : Nat) (H : List (List Int)) (one : List Int) : Bool := (chu (lastR H) one == trf (aat A (H.length - 1)) (aat A H.length)) && decide (mxz (chgs (H ++ [one]) n) < 2)
def extH (A : List (List Int)) (n : Nat) (H : List (List Int)) : List (List (List Int)) := ((DCon.rowsAt (aat A H.length) n).filter (okE A n H)).map fun one => H ++ [one]
theorem chgs_lim (U : List (List Int)) (L : Int) : (∀ x ∈ chgs U n, x ≤ L) ↔ ∀ b, b < n → chg U b ≤ L := by
  unfold chgs
  constructor
  · exact fun h b hb => h _ (List.mem_map.2 ⟨b, List.mem_range.2 hb, rfl⟩)
  · rintro h x hx
    obtain ⟨b, hb, rfl⟩ := List.mem_map.1 hx
    exact h b (List.mem_range.1 hb)
theorem okE_iff (hA : Ser A v n) {H : List (List Int)} (h : Hst 1 A v n H) (hl : H.length < A.length) {one : List Int} (h1 : As one (aat A H.length) v n) : okE A n H one = true ↔ Hst 1 A v n (H ++ [one]) := by
  have ne := h.ne
  unfold okE
  rw [Bool.and_eq_true, beq_iff_eq, decide_eq_true_eq]
  have m := mxz_le (chgs (H ++ [one]) n) 1 (by omega)
  rw [chgs_lim] at m
  constructor
  · rintro ⟨k1, k2⟩
    exact hst_mk hA h hl h1 k1 (m.1 (by omega))
  · intro k
    have k2 := k.lst (H.length - 1) (by rw [List.length_append, List.length_singleton]; omega)
    rw [aat_app (by omega), show H.length - 1 + 1 = H.length by omega, aat_snoc] at k2
    have := m.2 k.lim
    exact ⟨k2, by omega⟩
theorem ext_len (hA : Ser A v n) {H : List (List Int)} (hl : H.length < A.length) : (extH A n H).length ≤ v ^ n := by
  unfold extH
  rw [List.length_map]
  exact Nat.le_trans (List.length_filter_le _ _) (rowsAt_len4 _ (by rw [(hA _ (aat_mem hl)).len]; exact Nat.le_refl _) n)
theorem dAdd_tp (xs ys : List PyData) (h : xs.length + ys.length ≤ 16777216) : dAdd (.tuple xs) (.tuple ys) = some (.tuple (xs ++ ys)) := if_pos h
abbrev inB : DL.Env → Out := sIf (tAndD (tb1 (e2 dEq (eFrz (eCall 2 f__law_churn (avD (e2 dIx (eVar 9) (e1 dNeg (eC (.int 1)))) (avD (eVar 10) (avNil))))) (eVar 6))) (tb1 (e2 dLt (eB bMaxT (aCons (e2 dAdd (eFrz (eCall 1 f__law_changes (avD (e2 dAdd (eVar 9) (eTup (aCons (eVar 10) (aNil)))) (avNil)))) (eTup (aCons (eC (.int 0)) (aNil)))) (aNil))) (eC (.int 2))))) (sDrop (mD (eMt 8 mApp (aCons (e2 dAdd (eVar 9) (eTup (aCons (eVar 10) (aNil)))) (aNil))))) (sNx)
theorem in_step (hA : Ser A v n) (hn : n ≤ 100) (hl10 : A.length ≤ 10) {H : List (List Int)} (h : Hst 1 A v n H) (hl : H.length < A.length) {one : List Int} (h1 : As one (aat A H.length) v n) (B : List (List (List Int))) (hB : B.length < 16777216) (x0 x1 x2 x3 x4 x5 x7 : Option M) :
    inB [x0, x1, x2, x3, x4, x5, some (.d (.int (trf (aat A (H.length - 1)) (aat A H.length)))), x7, some (.l (B.map AT)), some (.d (AT H)), some (.d (tp one))] = .nx [x0, x1, x2, x3, x4, x5, some (.d (.int (trf (aat A (H.length - 1)) (aat A H.length)))), x7, some (.l ((B ++ if okE A n H one = true then [H ++ [one]] else []).map AT)), some (.d (AT H)), some (.d (tp one))] := by
  have ne := h.ne
  have hr := hst_last h
  have la := last_at (U := H) ne
  have la : dIx (AT H) (.int (-1)) = some (tp (lastR H)) := la
  have ng : dNeg (.int 1) = some (.int (-1)) := rfl
  have ch : DCoo.f__law_churn [.d (tp (lastR H)), .d (tp one)] = .rt (.d (.int (chu (lastR H) one))) [none, none] := DCoo.law_churn_e _ _ (by rw [hr.len]; omega) (by rw [hr.len, h1.len])
  have ad : dAdd (AT H) (.tuple [tp one]) = some (AT (H ++ [one])) := by
    have := dAdd_tp (H.map tp) [tp one] (by rw [List.length_map]; simp; omega)
    rw [this]
    show _ = some (PyData.tuple ((H ++ [one]).map tp))
    rw [List.map_append]; rfl
  have lc := law_changes_e (U := H ++ [one]) (n := n) (by rw [List.length_append]; omega) (by rw [List.length_append, List.length_singleton]; omega) (by omega) (fun j hj => by
    rw [List.length_append, List.length_singleton] at hj
    by_cases c : j < H.length
    · rw [aat_app c]; exact (h.as j c).len
    · rw [show j = H.length by omega, aat_snoc]; exact h1.len)
  have ad2 : dAdd (tp (chgs (H ++ [one]) n)) (.tuple [.int 0]) = some (tp (chgs (H ++ [one]) n ++ [0])) := by
    have := dAdd_tp ((chgs (H ++ [one]) n).map .int) [.int 0] (by rw [List.length_map, chgs_len]; simp; omega)
    rw [this]
    show _ = some (PyData.tuple ((chgs (H ++ [one]) n ++ [0]).map .int))
    rw [List.map_append]; rfl
  have bm := bMax_z (chgs (H ++ [one]) n)
  have ap := appS (B.map AT) (AT (H ++ [one])) (by rw [List.length_map]; exact hB)
  have e1 : B.map AT ++ [AT (H ++ [one])] = (B ++ [H ++ [one]]).map AT := by rw [List.map_append]; rfl
  rw [e1] at ap
  have ok : okE A n H one = ((chu (lastR H) one == trf (aat A (H.length - 1)) (aat A H.length)) && decide (mxz (chgs (H ++ [one]) n) < 2)) := rfl
  rw [ok]
  generalize mxz (chgs (H ++ [one]) n) = MX at *
  generalize tp (chgs (H ++ [one]) n ++ [0]) = C1 at *
  generalize tp (chgs (H ++ [one]) n) = C0 at *
  generalize hB2 : (B ++ [H ++ [one]]).map AT = B2 at *
  generalize AT (H ++ [one]) = H2 at *
  generalize AT H = H1 at *
  generalize chu (lastR H) one = CH at *
  generalize tp (lastR H) = LR at *
  generalize tp one = ON at *
  generalize trf (aat A (H.length - 1)) (aat A H.length) = TR at *
  by_cases c1 : (CH == TR) = true
  · by_cases c2 : MX < 2
    · have d2 : decide (MX < 2) = true := decide_eq_true c2
      rw [c1, d2, Bool.and_self, if_pos rfl, hB2]
      generalize B.map AT = B1 at *
      simp only [dlall, inB, ng, la, ch, c1, ad, lc, ad2, bm, d2, ap]
    · have d2 : decide (MX < 2) = false := decide_eq_false c2
      rw [c1, d2, Bool.and_false, if_neg (by simp), List.append_nil]
      generalize B.map AT = B1 at *
      simp only [dlall, inB, ng, la, ch, c1, ad, lc, ad2, bm, d2]
  · have c1 : (CH == TR) = false := by simpa using c1
    rw [c1, Bool.false_and, if_neg (by simp), List.append_nil]
    generalize B.map AT = B1 at *
    simp only [dlall, inB, ng, la, ch, c1]
theorem in_loop (hA : Ser A v n) (hn : n ≤ 100) (hl10 : A.length ≤ 10) {H : List (List Int)} (h : Hst 1 A v n H) (hl : H.length < A.length) (B : List (List (List Int))) (hB : B.length + v ^ n < 16777216) (x0 x1 x2 x3 x4 x5 x7 x10 : Option M) : ∃ y10 : Option M,
    forGo (gN 10) inB ((DCon.rowsAt (aat A H.length) n).map tp) [x0, x1, x2, x3, x4, x5, some (.d (.int (trf (aat A (H.length - 1)) (aat A H.length)))), x7, some (.l (B.map AT)), some (.d (AT H)), x10] = .nx [x0, x1, x2, x3, x4, x5, some (.d (.int (trf (aat A (H.length - 1)) (aat A H.length)))), x7, some (.l ((B ++ extH A n H).map AT)), some (.d (AT H)), y10] := by
  have al := hA _ (aat_mem hl)
  have rl := rowsAt_len4 (aat A H.length) (v := v) (by rw [al.len]; exact Nat.le_refl _) n
  obtain ⟨e', q, _, y10, rfl⟩ := forGo_list (g := gN 10) (emb := tp) (body := inB) (fun d r e => d ++ r = DCon.rowsAt (aat A H.length) n ∧ ∃ y10 : Option M, e = [x0, x1, x2, x3, x4, x5, some (.d (.int (trf (aat A (H.length - 1)) (aat A H.length)))), x7, some (.l ((B ++ ((d.filter (okE A n H)).map fun one => H ++ [one])).map AT)), some (.d (AT H)), y10]) (by
    rintro d one r e ⟨hd, y10, rfl⟩
    have h1 : As one (aat A H.length) v n := (mem_all al).1 (by rw [← hd]; simp)
    have fl : ((d.filter (okE A n H)).map fun one => H ++ [one]).length ≤ v ^ n := by
      rw [List.length_map]
      have f1 := List.length_filter_le (okE A n H) d
      have f2 : d.length ≤ (DCon.rowsAt (aat A H.length) n).length := by rw [← hd]; simp
      omega
    have st := in_step hA hn hl10 h hl h1 (B ++ ((d.filter (okE A n H)).map fun one => H ++ [one])) (by rw [List.length_append]; omega) x0 x1 x2 x3 x4 x5 x7
    have e1 : (B ++ (d.filter (okE A n H)).map (fun one => H ++ [one])) ++ (if okE A n H one = true then [H ++ [one]] else []) = B ++ ((d ++ [one]).filter (okE A n H)).map fun one => H ++ [one] := by
      rw [List.filter_append, List.map_append, List.append_assoc]
      congr 2
      rw [List.filter_cons, List.filter_nil]
      split <;> rfl
    rw [e1] at st
    exact ⟨_, _, rfl, .inl st, by rw [List.append_assoc]; exact hd, _, rfl⟩) (DCon.rowsAt (aat A H.length) n) [] [x0, x1, x2, x3, x4, x5, some (.d (.int (trf (aat A (H.length - 1)) (aat A H.length)))), x7, some (.l (B.map AT)), some (.d (AT H)), x10] ⟨rfl, x10, by simp⟩
  exact ⟨y10, q⟩
abbrev loB : DL.Env → Out := sThen (sSet 6 (mD (eFrz (eCall 2 f__law_transfer (avD (e2 dIx (eVar 2) (eVar 4)) (avD (e2 dIx (eVar 2) (e2 dAdd (eVar 4) (eC (.int 1)))) (avNil)))))))
    (sThen (sSet 7 (mD (eFrz (eCall 1 f__law_assignments (avD (e2 dIx (eVar 2) (e2 dAdd (eVar 4) (eC (.int 1)))) (avNil))))))
    (sThen (sSet 8 (mLst (aNil)))
    (sThen (sFor (itSeq (eVar 3)) (gN 9) (sFor (itSeq (eVar 7)) (gN 10) inB))
    (sSet 3 (mD (eVarF 8))))))
theorem lo_step (hA : Ser A v n) (h1 : 1 ≤ v) (h5 : v ≤ 5) (hn : n ≤ 5) (hl10 : A.length ≤ 10) {k : Nat} (hk : k + 1 < A.length) (R : List (List (List Int))) (hR : ∀ H ∈ R, Hst 1 A v n H ∧ H.length = k + 1) (hB : R.length * v ^ n < 16777216) (x0 x1 x5 x6 x7 x8 x9 x10 : Option M) : ∃ y6 y7 y8 y9 y10 : Option M,
    loB [x0, x1, some (.d (AT A)), some (.d (.list (R.map AT))), some (.d (.int (k : Int))), x5, x6, x7, x8, x9, x10] = .nx [x0, x1, some (.d (AT A)), some (.d (.list ((R.flatMap (extH A n)).map AT))), some (.d (.int (k : Int))), x5, y6, y7, y8, y9, y10] := by
  have al := hA _ (aat_mem hk)
  have a1 : dIx (AT A) (.int (k : Int)) = some (tp (aat A k)) := at_aat A k (by omega)
  have a2 : dIx (AT A) (.int ((k : Int) + 1)) = some (tp (aat A (k + 1))) := at_aat A (k + 1) hk
  have t : DCos.f__law_transfer [.d (tp (aat A k)), .d (tp (aat A (k + 1)))] = .rt (.d (.int (trf (aat A k) (aat A (k + 1))))) [none, none] := law_transfer_eS _ _
  have as0 := DCon.law_assignments_e (aat A (k + 1)) (al.good h1 h5 (by omega)) (by rw [al.sum]; omega)
  rw [al.sum, Int.toNat_natCast] at as0
  have as0 : DCon.f__law_assignments [.d (tp (aat A (k + 1)))] = .rt (.d (.list ((DCon.rowsAt (aat A (k + 1)) n).map tp))) [none] := as0
  obtain ⟨e', q, _, y9, y10, rfl⟩ := forGo_list (g := gN 9) (emb := AT) (body := sFor (itSeq (eVar 7)) (gN 10) inB) (fun d r e => d ++ r = R ∧ ∃ y9 y10 : Option M, e = [x0, x1, some (.d (AT A)), some (.d (.list (R.map AT))), some (.d (.int (k : Int))), x5, some (.d (.int (trf (aat A k) (aat A (k + 1))))), some (.d (.list ((DCon.rowsAt (aat A (k + 1)) n).map tp))), some (.l ((d.flatMap (extH A n)).map AT)), y9, y10]) (by
    rintro d H r e ⟨hd, y9, y10, rfl⟩
    obtain ⟨h, hlen⟩ := hR H (by rw [← hd]; simp)
    have dl : d.length + 1 ≤ R.length := by rw [← hd]; simp
    have fl : ∀ d : List (List (List Int)), (∀ H ∈ d, Hst 1 A v n H ∧ H.length = k + 1) → (d.flatMap (extH A n)).length ≤ d.length * v ^ n := by
      intro d
      induction d with
      | nil => intro _; simp
      | cons H d ih =>
        intro hd
        have i1 := ih fun H hH => hd H (List.mem_cons_of_mem _ hH)
        have i2 := ext_len (n := n) hA (H := H) (by rw [(hd H List.mem_cons_self).2]; exact hk)
        rw [List.flatMap_cons, List.length_append, List.length_cons, Nat.succ_mul]
        omega
    have f1 := fl d fun H hH => hR H (by rw [← hd]; simp [hH])
    have f2 : (d.length + 1) * v ^ n ≤ R.length * v ^ n := Nat.mul_le_mul_right _ dl
    rw [Nat.succ_mul] at f2
    obtain ⟨z10, st⟩ := in_loop hA (by omega) hl10 h (by omega) (d.flatMap (extH A n)) (by omega) x0 x1 (some (.d (AT A))) (some (.d (.list (R.map AT)))) (some (.d (.int (k : Int)))) x5 (some (.d (.list ((DCon.rowsAt (aat A (k + 1)) n).map tp)))) y10
    rw [hlen, Nat.add_sub_cancel] at st
    have e1 : d.flatMap (extH A n) ++ extH A n H = (d ++ [H]).flatMap (extH A n) := by rw [List.flatMap_append, List.flatMap_cons, List.flatMap_nil, List.append_nil]
    rw [e1] at st
    refine ⟨_, _, rfl, .inl ?_, by rw [List.append_assoc]; exact hd, some (.d (AT H)), z10, rfl⟩
    generalize (DCon.rowsAt (aat A (k + 1)) n).map tp = RW at *
    generalize ((d ++ [H]).flatMap (extH A n)).map AT = F2 at *
    generalize (d.flatMap (extH A n)).map AT = F1 at *
    generalize AT H = TH at *
    generalize AT A = T at *
    generalize R.map AT = RR at *
    generalize trf (aat A k) (aat A (k + 1)) = TR at *
    simp only [dlall, st]) R [] [x0, x1, some (.d (AT A)), some (.d (.list (R.map AT))), some (.d (.int (k : Int))), x5, some (.d (.int (trf (aat A k) (aat A (k + 1))))), some (.d (.list ((DCon.rowsAt (aat A (k + 1)) n).map tp))), some (.l []), x9, x10] ⟨rfl, x9, x10, rfl⟩
  rw [List.nil_append] at q
  refine ⟨some (.d (.int (trf (aat A k) (aat A (k + 1))))), some (.d (.list ((DCon.rowsAt (aat A (k + 1)) n).map tp))), some (.d (.list ((R.flatMap (extH A n)).map AT))), y9, y10, ?_⟩
  generalize (DCon.rowsAt (aat A (k + 1)) n).map tp = RW at *
  generalize trf (aat A k) (aat A (k + 1)) = TR at *
  generalize tp (aat A k) = X0 at *
  generalize tp (aat A (k + 1)) = X1 at *
  generalize (R.flatMap (extH A n)).map AT = F1 at *
  generalize R.map AT = RR at *
  generalize AT A = T at *
  simp only [dlall, loB, a1, a2, t, as0, q]
/-- all calm histories of k + 1 rows -/
theorem ext_all (hA : Ser A v n) {k : Nat} (hk : k + 1 < A.length) {R : List (List (List Int))} (hR : ∀ H, H ∈ R ↔ Hst 1 A v n H ∧ H.length = k + 1) (H : List (List Int)) : H ∈ R.flatMap (extH A n) ↔ Hst 1 A v n H ∧ H.length = k + 1 + 1 := by
  rw [List.mem_flatMap]
  constructor
  · rintro ⟨G, h1, h2⟩
    obtain ⟨h3, h4⟩ := (hR G).1 h1
    obtain ⟨one, h5, rfl⟩ := List.mem_map.1 h2
    obtain ⟨h6, h7⟩ := List.mem_filter.1 h5
    have h8 := (mem_all (hA _ (aat_mem (show G.length < A.length by omega)))).1 h6
    exact ⟨(okE_iff hA h3 (by omega) h8).1 h7, by rw [List.length_append, h4]; rfl⟩
  · rintro ⟨h, hl⟩
    have ne : H ≠ [] := fun z => by rw [z] at hl; simp at hl
    have dl := List.dropLast_concat_getLast ne
    generalize H.getLast ne = r at dl
    generalize H.dropLast = W at dl
    subst dl
    have lW : W.length = k + 1 := by rw [List.length_append, List.length_singleton] at hl; omega
    have hW := hst_snoc (by omega) h
    have h1 := h.as W.length (by rw [List.length_append, List.length_singleton]; omega)
    rw [aat_snoc] at h1
    exact ⟨W, (hR W).2 ⟨hW, lW⟩, List.mem_map.2 ⟨r, List.mem_filter.2 ⟨(mem_all (hA _ (aat_mem (by omega)))).2 h1, (okE_iff hA hW (by omega) h1).2 h⟩, rfl⟩⟩
theorem law_true (cM : Nat → Addr) (ns : List Int) (h : ns.length ≤ 63) : ∃ os, f_law cM [.scr ns] = .rt (.d (.bool true)) os := by
  have q0 := stream_e ns
  obtain ⟨v, n, A, s1, q1, hA, v2, v4, l1, m, hm, lm⟩ := small_ex ⟨ns, 0, 0⟩
  have hsz : ∀ p ∈ sz8, p.1 ≤ 4 ∧ p.2 ≤ 6 ∧ (4 ^ p.1) ^ (p.2 - 1) < 16777216 := by decide
  obtain ⟨n4, m6, hpow⟩ := hsz _ hm
  have n4 : n ≤ 4 := n4
  have m6 : m ≤ 6 := m6
  have hpow : (4 ^ n) ^ (m - 1) < 16777216 := hpow
  have vn : v ^ n ≤ 4 ^ n := Nat.pow_le_pow_left v4 n
  have q2 : DCos.f__law_sorted [.d (tp (aat A 0))] = .rt (.d (tp (srt (aat A 0)))) [none] := law_sorted_e (hA _ (aat_mem (show 0 < A.length by omega))) (by omega) (by omega)
  have i0 : dIx (AT A) (.int 0) = some (tp (aat A 0)) := at_aat A 0 (by omega)
  have bl : bLen [AT A] = some (.int (A.length : Int)) := by simp [bLen]
  have kn : (((A.length : Int) - 1) ≤ 16777216 ∧ -(2 ^ 62) ≤ ((A.length : Int) - 1)) = True := by simp; omega
  have tn : ((A.length : Int) - 1).toNat = A.length - 1 := by omega
  obtain ⟨e', q3, R, o4, o6, o7, o8, o9, o10, hR, _, rfl⟩ := forGo_range (g := gN 4) (body := loB) (A.length - 1) (fun k e => ∃ (R : List (List (List Int))) (o4 o6 o7 o8 o9 o10 : Option M), (∀ H, H ∈ R ↔ Hst 1 A v n H ∧ H.length = k + 1) ∧ R.length ≤ (4 ^ n) ^ k ∧ e = [some (.scr ns), some s1.m, some (.d (AT A)), some (.d (.list (R.map AT))), o4, none, o6, o7, o8, o9, o10]) (by
    rintro k e hk ⟨R, o4, o6, o7, o8, o9, o10, hR, hlen, rfl⟩
    have hp : (4 ^ n) ^ (k + 1) ≤ (4 ^ n) ^ (m - 1) := Nat.pow_le_pow_right (Nat.pos_of_ne_zero (by simp)) (by omega)
    have hm2 : R.length * v ^ n ≤ (4 ^ n) ^ (k + 1) := by
      rw [Nat.pow_succ]
      exact Nat.mul_le_mul hlen vn
    obtain ⟨y6, y7, y8, y9, y10, st⟩ := lo_step hA (by omega) (by omega) (by omega) (by omega) (k := k) (by omega) R (fun H hH => (hR H).1 hH) (by omega) (some (.scr ns)) (some s1.m) none o6 o7 o8 o9 o10
    have hl2 : (R.flatMap (extH A n)).length ≤ R.length * v ^ n := by
      have key : ∀ d : List (List (List Int)), (∀ H ∈ d, H.length = k + 1) → (d.flatMap (extH A n)).length ≤ d.length * v ^ n := by
        intro d
        induction d with
        | nil => intro _; simp
        | cons H d ih =>
          intro hd
          have i1 := ih fun H hH => hd H (List.mem_cons_of_mem _ hH)
          have i2 := ext_len (n := n) hA (H := H) (by rw [hd H List.mem_cons_self]; omega)
          rw [List.flatMap_cons, List.length_append, List.length_cons, Nat.succ_mul]
          omega
      exact key R fun H hH => ((hR H).1 hH).2
    exact ⟨_, _, rfl, .inl st, _, _, _, _, _, _, _, ext_all hA (by omega) hR, by omega, rfl⟩) [some (.scr ns), some s1.m, some (.d (AT A)), some (.d (.list ([[srt (aat A 0)]].map AT))), none, none, none, none, none, none, none] ⟨[[srt (aat A 0)]], none, none, none, none, none, none, fun H => by
      rw [List.mem_singleton]
      constructor
      · rintro rfl; exact ⟨hst_one hA l1 (by omega), rfl⟩
      · rintro ⟨h1, h2⟩
        match H, h2, h1.first with
        | [r], _, f => rw [← f]; rfl, by simp, rfl⟩
  rw [show A.length - 1 + 1 = A.length by omega] at hR
  have hF : ∀ H, H ∈ R ↔ Ful 1 A v n H := hR
  have qo := DCqcO.overdrawn_e hA (by omega) (by omega) (by omega) l1 (by omega)
  have q3 : forGo (gN 4) loB (rangeD 0 (A.length - 1)) [some (.scr ns), some s1.m, some (.d (AT A)), some (.d (.list [.tuple [tp (srt (aat A 0))]])), none, none, none, none, none, none, none] = .nx [some (.scr ns), some s1.m, some (.d (AT A)), some (.d (.list (R.map AT))), o4, none, o6, o7, o8, o9, o10] := q3
  by_cases hU : Und A v
  · obtain ⟨t, ht⟩ := calm_all hA l1 hU
    obtain ⟨f1, f2⟩ := ful_min hA l1 (by omega) ht
    have f1 : Ful 1 A v n (calmH v n A) := f1
    have f2 : ∀ Y, Ful 1 A v n Y → Y = calmH v n A ∨ (lexLL (calmH v n A) Y = true ∧ lexLL Y (calmH v n A) = false) := f2
    have bm := bMinN_LL (m := calmH v n A) (l := R) ((hF _).2 f1) fun Y hY => f2 Y ((hF Y).1 hY)
    have bm : bMinN [.list (R.map AT)] = some (AT (calmH v n A)) := bm
    have cs1 := calm_some cM hA (by omega) (by omega) (by omega) l1 (by omega) hU
    have eq1 := equal_ful f1 (by omega) (by omega)
    rw [(DCqcO.OV_none hA l1).2 hU, Option.getD_none] at qo
    have hne : R ≠ [] := fun z => by have := (hF _).2 f1; rw [z] at this; cases this
    have tr : tru (.list (R.map AT)) = some true := by
      cases R with
      | nil => exact absurd rfl hne
      | cons x r => rfl
    have isn : isNon (AT (calmH v n A)) = false := rfl
    generalize AT (calmH v n A) = CA at *
    generalize R.map AT = RR at *
    generalize tp (srt (aat A 0)) = X0 at *
    generalize tp (aat A 0) = A0 at *
    generalize AT A = T at *
    simp only [dlall, f_law, b_law, q0, q1, i0, q2, bl, kn, tn]
    rw [q3]
    simp only [dlall, cs1, tr, bm, eq1, isn, qo, dIs_none, dIsNot_none]
    exact ⟨_, rfl⟩
  · have cn := calm_none cM hA (by omega) (by omega) (by omega) l1 (by omega) hU
    have hnil : R = [] := by
      cases R with
      | nil => rfl
      | cons x r => exact absurd ((hF x).1 List.mem_cons_self) (calm_no hA l1 hU x)
    subst hnil
    cases hv : DCqcO.OV A v with
    | none => exact absurd ((DCqcO.OV_none hA l1).1 hv) hU
    | some x =>
      obtain ⟨j, rfl⟩ := DCqcO.ov_int (A := A) (k := v) hv
      rw [hv, Option.getD_some] at qo
      have eq1 := equal_none
      have q3 : forGo (gN 4) loB (rangeD 0 (A.length - 1)) [some (.scr ns), some s1.m, some (.d (AT A)), some (.d (.list [.tuple [tp (srt (aat A 0))]])), none, none, none, none, none, none, none] = .nx [some (.scr ns), some s1.m, some (.d (AT A)), some (.d (.list [])), o4, none, o6, o7, o8, o9, o10] := q3
      have tr : tru (.list []) = some false := rfl
      generalize ((j : Nat) : Int) = J at *
      generalize tp (srt (aat A 0)) = X0 at *
      generalize tp (aat A 0) = A0 at *
      generalize AT A = T at *
      simp only [dlall, f_law, b_law, q0, q1, i0, q2, bl, kn, tn]
      rw [q3]
      simp only [dlall, cn, tr, eq1, qo, dIs_none, dIsNot_none]
      exact ⟨_, rfl⟩
end Lk48
namespace Lk48
open PySem PySem.Spec PyProof.Rows L2 DL
def topS (i : Nat) : Stmt := PySem.Challenge.pw_leastmoved_k48_whole_calm_histories.main.body.getD i (.Pass ⟨0, 0, 0, 0⟩)
def clsB : Stmt → List Stmt
  | .ClassDef (body := b) .. => b
  | _ => []
abbrev s_is_whole : Stmt := topS 6
abbrev N_is_whole : List Str := ["value"]
theorem sc_is_whole : FnScope N_is_whole ["value"] (defScope s_is_whole) := ⟨rfl, rfl, rfl, by decide +kernel, rfl, by decide +kernel, by decide +kernel⟩
abbrev s_steps_of : Stmt := topS 14
abbrev N_steps_of : List Str := ["allocations"]
theorem sc_steps_of : FnScope N_steps_of ["allocations"] (defScope s_steps_of) := ⟨rfl, rfl, rfl, by decide +kernel, rfl, by decide +kernel, by decide +kernel⟩
abbrev s_sorted_assignment : Stmt := topS 18
abbrev N_sorted_assignment : List Str := ["allocation", "found", "variant", "share"]
theorem sc_sorted_assignment : FnScope N_sorted_assignment ["allocation"] (defScope s_sorted_assignment) := ⟨rfl, rfl, rfl, by decide +kernel, rfl, by decide +kernel, by decide +kernel⟩
abbrev s_changes_in : Stmt := topS 19
abbrev N_changes_in : List Str := ["history", "found", "row", "one", "other"]
theorem sc_changes_in : FnScope N_changes_in ["history"] (defScope s_changes_in) := ⟨rfl, rfl, rfl, by decide +kernel, rfl, by decide +kernel, by decide +kernel⟩
abbrev s_Step_init : Stmt := (clsB (topS 20)).getD 0 (.Pass ⟨0, 0, 0, 0⟩)
abbrev N_Step_init : List Str := ["self", "before", "behind", "assignment", "free", "variant", "is_free", "a", "b", "_"]
theorem sc_Step_init : FnScope N_Step_init ["self", "before", "behind", "assignment", "free"] (defScope s_Step_init) := ⟨rfl, rfl, rfl, by decide +kernel, rfl, by decide +kernel, by decide +kernel⟩
abbrev s_Step_options : Stmt := (clsB (topS 20)).getD 1 (.Pass ⟨0, 0, 0, 0⟩)
abbrev N_Step_options : List Str := ["self", "bucket", "variant", "found", "many", "other"]
theorem sc_Step_options : FnScope N_Step_options ["self", "bucket"] (defScope s_Step_options) := ⟨rfl, rfl, rfl, by decide +kernel, rfl, by decide +kernel, by decide +kernel⟩
abbrev s_Step_take : Stmt := (clsB (topS 20)).getD 2 (.Pass ⟨0, 0, 0, 0⟩)
abbrev N_Step_take : List Str := ["self", "bucket", "variant", "way", "own"]
theorem sc_Step_take : FnScope N_Step_take ["self", "bucket", "variant", "way"] (defScope s_Step_take) := ⟨rfl, rfl, rfl, by decide +kernel, rfl, by decide +kernel, by decide +kernel⟩
abbrev s__law_stream : Stmt := topS 24
abbrev N__law_stream : List Str := ["_law_script"]
theorem sc__law_stream : FnScope N__law_stream ["_law_script"] (defScope s__law_stream) := ⟨rfl, rfl, rfl, by decide +kernel, rfl, by decide +kernel, by decide +kernel⟩
abbrev s__law_next : Stmt := topS 25
abbrev N__law_next : List Str := ["_law_stream_here", "_law_many", "_law_digit", "_law_k", "_law_cell"]
theorem sc__law_next : FnScope N__law_next ["_law_stream_here", "_law_many"] (defScope s__law_next) := ⟨rfl, rfl, rfl, by decide +kernel, rfl, by decide +kernel, by decide +kernel⟩
abbrev s__law_is_integer : Stmt := topS 26
abbrev N__law_is_integer : List Str := ["_law_actual"]
theorem sc__law_is_integer : FnScope N__law_is_integer ["_law_actual"] (defScope s__law_is_integer) := ⟨rfl, rfl, rfl, by decide +kernel, rfl, by decide +kernel, by decide +kernel⟩
abbrev s__law_sorted : Stmt := topS 31
abbrev N__law_sorted : List Str := ["_law_allocation_here", "_law_found", "_law_variant", "_law_bucket"]
theorem sc__law_sorted : FnScope N__law_sorted ["_law_allocation_here"] (defScope s__law_sorted) := ⟨rfl, rfl, rfl, by decide +kernel, rfl, by decide +kernel, by decide +kernel⟩
abbrev s__law_assignments : Stmt := topS 32
abbrev N__law_assignments : List Str := ["_law_allocation_here", "_law_rows", "_law_bucket", "_law_longer", "_law_row", "_law_variant"]
theorem sc__law_assignments : FnScope N__law_assignments ["_law_allocation_here"] (defScope s__law_assignments) := ⟨rfl, rfl, rfl, by decide +kernel, rfl, by decide +kernel, by decide +kernel⟩
abbrev s__law_transfer : Stmt := topS 33
abbrev N__law_transfer : List Str := ["_law_first", "_law_second", "_law_a", "_law_b"]
theorem sc__law_transfer : FnScope N__law_transfer ["_law_first", "_law_second"] (defScope s__law_transfer) := ⟨rfl, rfl, rfl, by decide +kernel, rfl, by decide +kernel, by decide +kernel⟩
abbrev s__law_churn : Stmt := topS 34
abbrev N__law_churn : List Str := ["_law_first", "_law_second", "_law_at"]
theorem sc__law_churn : FnScope N__law_churn ["_law_first", "_law_second"] (defScope s__law_churn) := ⟨rfl, rfl, rfl, by decide +kernel, rfl, by decide +kernel, by decide +kernel⟩
abbrev s__law_changes : Stmt := topS 35
abbrev N__law_changes : List Str := ["_law_table", "_law_found", "_law_bucket", "_law_step"]
theorem sc__law_changes : FnScope N__law_changes ["_law_table"] (defScope s__law_changes) := ⟨rfl, rfl, rfl, by decide +kernel, rfl, by decide +kernel, by decide +kernel⟩
abbrev s_is_between : Stmt := topS 7
abbrev N_is_between : List Str := ["value", "low", "high"]
theorem sc_is_between : FnScope N_is_between ["value", "low", "high"] (defScope s_is_between) := ⟨rfl, rfl, rfl, by decide +kernel, rfl, by decide +kernel, by decide +kernel⟩
abbrev s_is_allocation : Stmt := topS 8
abbrev N_is_allocation : List Str := ["value", "variants", "buckets", "share"]
theorem sc_is_allocation : FnScope N_is_allocation ["value", "variants", "buckets"] (defScope s_is_allocation) := ⟨rfl, rfl, rfl, by decide +kernel, rfl, by decide +kernel, by decide +kernel⟩
abbrev s_decreases_of : Stmt := topS 15
abbrev N_decreases_of : List Str := ["allocations", "found", "one", "other", "_", "a", "b", "sum_so_far"]
theorem sc_decreases_of : FnScope N_decreases_of ["allocations"] (defScope s_decreases_of) := ⟨rfl, rfl, rfl, by decide +kernel, rfl, by decide +kernel, by decide +kernel⟩
abbrev s_calm_change : Stmt := topS 21
abbrev N_calm_change : List Str := ["before", "behind", "assignment", "free", "step", "found", "bucket", "variant"]
theorem sc_calm_change : FnScope N_calm_change ["before", "behind", "assignment", "free"] (defScope s_calm_change) := ⟨rfl, rfl, rfl, by decide +kernel, rfl, by decide +kernel, by decide +kernel⟩
abbrev s__law_equal : Stmt := topS 27
abbrev N__law_equal : List Str := ["_law_actual", "_law_due", "_law_at"]
theorem sc__law_equal : FnScope N__law_equal ["_law_actual", "_law_due"] (defScope s__law_equal) := ⟨rfl, rfl, rfl, by decide +kernel, rfl, by decide +kernel, by decide +kernel⟩
abbrev s__law_allocation : Stmt := topS 28
abbrev N__law_allocation : List Str := ["_law_stream_here", "_law_variants", "_law_buckets", "_law_shares", "_law_bucket", "_law_variant"]
theorem sc__law_allocation : FnScope N__law_allocation ["_law_stream_here", "_law_variants", "_law_buckets"] (defScope s__law_allocation) := ⟨rfl, rfl, rfl, by decide +kernel, rfl, by decide +kernel, by decide +kernel⟩
abbrev s__law_near : Stmt := topS 29
abbrev N__law_near : List Str := ["_law_stream_here", "_law_allocation_here", "_law_shares", "_law_turn", "_law_old", "_law_new"]
theorem sc__law_near : FnScope N__law_near ["_law_stream_here", "_law_allocation_here"] (defScope s__law_near) := ⟨rfl, rfl, rfl, by decide +kernel, rfl, by decide +kernel, by decide +kernel⟩
abbrev s_is_series : Stmt := topS 10
abbrev N_is_series : List Str := ["value", "most", "buckets", "one"]
theorem sc_is_series : FnScope N_is_series ["value", "most"] (defScope s_is_series) := ⟨rfl, rfl, rfl, by decide +kernel, rfl, by decide +kernel, by decide +kernel⟩
abbrev s_overdrawn_in : Stmt := topS 16
abbrev N_overdrawn_in : List Str := ["allocations", "variant", "lost"]
theorem sc_overdrawn_in : FnScope N_overdrawn_in ["allocations"] (defScope s_overdrawn_in) := ⟨rfl, rfl, rfl, by decide +kernel, rfl, by decide +kernel, by decide +kernel⟩
abbrev s__law_series : Stmt := topS 30
abbrev N__law_series : List Str := ["_law_stream_here", "_law_variants", "_law_buckets", "_law_many", "_law_found", "_law_turn"]
theorem sc__law_series : FnScope N__law_series ["_law_stream_here", "_law_variants", "_law_buckets", "_law_many"] (defScope s__law_series) := ⟨rfl, rfl, rfl, by decide +kernel, rfl, by decide +kernel, by decide +kernel⟩
abbrev s_check_series : Stmt := topS 11
abbrev N_check_series : List Str := ["allocations", "most"]
theorem sc_check_series : FnScope N_check_series ["allocations", "most"] (defScope s_check_series) := ⟨rfl, rfl, rfl, by decide +kernel, rfl, by decide +kernel, by decide +kernel⟩
abbrev s__law_small_series : Stmt := topS 36
abbrev N__law_small_series : List Str := ["_law_stream_here", "_law_variants", "_law_buckets", "_law_many"]
theorem sc__law_small_series : FnScope N__law_small_series ["_law_stream_here"] (defScope s__law_small_series) := ⟨rfl, rfl, rfl, by decide +kernel, rfl, by decide +kernel, by decide +kernel⟩
abbrev s_overdrawn : Stmt := topS 17
abbrev N_overdrawn : List Str := ["allocations"]
theorem sc_overdrawn : FnScope N_overdrawn ["allocations"] (defScope s_overdrawn) := ⟨rfl, rfl, rfl, by decide +kernel, rfl, by decide +kernel, by decide +kernel⟩
abbrev s_calm_history : Stmt := topS 22
abbrev N_calm_history : List Str := ["allocations", "rows", "one", "other", "free", "many"]
theorem sc_calm_history : FnScope N_calm_history ["allocations"] (defScope s_calm_history) := ⟨rfl, rfl, rfl, by decide +kernel, rfl, by decide +kernel, by decide +kernel⟩
abbrev s_law : Stmt := topS 37
abbrev N_law : List Str := ["_law_script", "_law_stream_here", "_law_allocations", "_law_rows", "_law_step", "_law_told", "_law_due", "_law_after", "_law_longer", "_law_row", "_law_one"]
theorem sc_law : FnScope N_law ["_law_script"] (defScope s_law) := ⟨rfl, rfl, rfl, by decide +kernel, rfl, by decide +kernel, by decide +kernel⟩
structure Txt (K : PySem.W.Frag) (mg : Str → Option Value) where
  z_abs : mg "abs" = none
  z_all : mg "all" = none
  z_bool : mg "bool" = none
  z_enumerate : mg "enumerate" = none
  z_int : mg "int" = none
  z_isinstance : mg "isinstance" = none
  z_len : mg "len" = none
  z_list : mg "list" = none
  z_max : mg "max" = none
  z_min : mg "min" = none
  z_range : mg "range" = none
  z_sorted : mg "sorted" = none
  z_str : mg "str" = none
  z_sum : mg "sum" = none
  z_tuple : mg "tuple" = none
  z_zip : mg "zip" = none
  k_MOST_ALLOCATIONS : Kon mg "MOST_ALLOCATIONS" (.int 10)
  k_MOST_BUCKETS : Kon mg "MOST_BUCKETS" (.int 20)
  k_MOST_VARIANTS : Kon mg "MOST_VARIANTS" (.int 5)
  C_Step : Addr
  g_Step : mg "Step" = some (.ref C_Step)
  cl_Step : Cls K C_Step
  n_Step_leaving : NoAttr K C_Step "leaving"
  n_Step_entering : NoAttr K C_Step "entering"
  n_Step_assignment : NoAttr K C_Step "assignment"
  n_Step_free : NoAttr K C_Step "free"
  n_Step_waiting : NoAttr K C_Step "waiting"
  a_is_whole : Addr
  d_is_whole : FuncData
  F_is_whole : Fun K "is_whole" "is_whole" s_is_whole a_is_whole d_is_whole
  g_is_whole : mg "is_whole" = some (.ref a_is_whole)
  b_is_whole : Binds K d_is_whole ["value"] []
  a_steps_of : Addr
  d_steps_of : FuncData
  F_steps_of : Fun K "steps_of" "steps_of" s_steps_of a_steps_of d_steps_of
  g_steps_of : mg "steps_of" = some (.ref a_steps_of)
  b_steps_of : Binds K d_steps_of ["allocations"] []
  a_sorted_assignment : Addr
  d_sorted_assignment : FuncData
  F_sorted_assignment : Fun K "sorted_assignment" "sorted_assignment" s_sorted_assignment a_sorted_assignment d_sorted_assignment
  g_sorted_assignment : mg "sorted_assignment" = some (.ref a_sorted_assignment)
  b_sorted_assignment : Binds K d_sorted_assignment ["allocation"] []
  a_changes_in : Addr
  d_changes_in : FuncData
  F_changes_in : Fun K "changes_in" "changes_in" s_changes_in a_changes_in d_changes_in
  g_changes_in : mg "changes_in" = some (.ref a_changes_in)
  b_changes_in : Binds K d_changes_in ["history"] []
  a_Step_init : Addr
  d_Step_init : FuncData
  F_Step_init : Fun K "__init__" "Step.__init__" s_Step_init a_Step_init d_Step_init
  m_Step_init : Mk K C_Step a_Step_init
  b_Step_init : Binds K d_Step_init ["self", "before", "behind", "assignment", "free"] []
  a_Step_options : Addr
  d_Step_options : FuncData
  F_Step_options : Fun K "options" "Step.options" s_Step_options a_Step_options d_Step_options
  m_Step_options : Meth K C_Step "options" a_Step_options
  b_Step_options : Binds K d_Step_options ["self", "bucket"] []
  a_Step_take : Addr
  d_Step_take : FuncData
  F_Step_take : Fun K "take" "Step.take" s_Step_take a_Step_take d_Step_take
  m_Step_take : Meth K C_Step "take" a_Step_take
  b_Step_take : Binds K d_Step_take ["self", "bucket", "variant", "way"] []
  a__law_stream : Addr
  d__law_stream : FuncData
  F__law_stream : Fun K "_law_stream" "_law_stream" s__law_stream a__law_stream d__law_stream
  g__law_stream : mg "_law_stream" = some (.ref a__law_stream)
  b__law_stream : Binds K d__law_stream ["_law_script"] []
  a__law_next : Addr
  d__law_next : FuncData
  F__law_next : Fun K "_law_next" "_law_next" s__law_next a__law_next d__law_next
  g__law_next : mg "_law_next" = some (.ref a__law_next)
  b__law_next : Binds K d__law_next ["_law_stream_here", "_law_many"] []
  a__law_is_integer : Addr
  d__law_is_integer : FuncData
  F__law_is_integer : Fun K "_law_is_integer" "_law_is_integer" s__law_is_integer a__law_is_integer d__law_is_integer
  g__law_is_integer : mg "_law_is_integer" = some (.ref a__law_is_integer)
  b__law_is_integer : Binds K d__law_is_integer ["_law_actual"] []
  a__law_sorted : Addr
  d__law_sorted : FuncData
  F__law_sorted : Fun K "_law_sorted" "_law_sorted" s__law_sorted a__law_sorted d__law_sorted
  g__law_sorted : mg "_law_sorted" = some (.ref a__law_sorted)
  b__law_sorted : Binds K d__law_sorted ["_law_allocation_here"] []
  a__law_assignments : Addr
  d__law_assignments : FuncData
  F__law_assignments : Fun K "_law_assignments" "_law_assignments" s__law_assignments a__law_assignments d__law_assignments
  g__law_assignments : mg "_law_assignments" = some (.ref a__law_assignments)
  b__law_assignments : Binds K d__law_assignments ["_law_allocation_here"] []
  a__law_transfer : Addr
  d__law_transfer : FuncData
  F__law_transfer : Fun K "_law_transfer" "_law_transfer" s__law_transfer a__law_transfer d__law_transfer
  g__law_transfer : mg "_law_transfer" = some (.ref a__law_transfer)
  b__law_transfer : Binds K d__law_transfer ["_law_first", "_law_second"] []
  a__law_churn : Addr
  d__law_churn : FuncData
  F__law_churn : Fun K "_law_churn" "_law_churn" s__law_churn a__law_churn d__law_churn
  g__law_churn : mg "_law_churn" = some (.ref a__law_churn)
  b__law_churn : Binds K d__law_churn ["_law_first", "_law_second"] []
  a__law_changes : Addr
  d__law_changes : FuncData
  F__law_changes : Fun K "_law_changes" "_law_changes" s__law_changes a__law_changes d__law_changes
  g__law_changes : mg "_law_changes" = some (.ref a__law_changes)
  b__law_changes : Binds K d__law_changes ["_law_table"] []
  a_is_between : Addr
  d_is_between : FuncData
  F_is_between : Fun K "is_between" "is_between" s_is_between a_is_between d_is_between
  g_is_between : mg "is_between" = some (.ref a_is_between)
  b_is_between : Binds K d_is_between ["value", "low", "high"] []
  a_is_allocation : Addr
  d_is_allocation : FuncData
  F_is_allocation : Fun K "is_allocation" "is_allocation" s_is_allocation a_is_allocation d_is_allocation
  g_is_allocation : mg "is_allocation" = some (.ref a_is_allocation)
  b_is_allocation : Binds K d_is_allocation ["value", "variants", "buckets"] []
  a_decreases_of : Addr
  d_decreases_of : FuncData
  F_decreases_of : Fun K "decreases_of" "decreases_of" s_decreases_of a_decreases_of d_decreases_of
  g_decreases_of : mg "decreases_of" = some (.ref a_decreases_of)
  b_decreases_of : Binds K d_decreases_of ["allocations"] []
  a_calm_change : Addr
  d_calm_change : FuncData
  F_calm_change : Fun K "calm_change" "calm_change" s_calm_change a_calm_change d_calm_change
  g_calm_change : mg "calm_change" = some (.ref a_calm_change)
  b_calm_change : Binds K d_calm_change ["before", "behind", "assignment", "free"] []
  a__law_equal : Addr
  d__law_equal : FuncData
  F__law_equal : Fun K "_law_equal" "_law_equal" s__law_equal a__law_equal d__law_equal
  g__law_equal : mg "_law_equal" = some (.ref a__law_equal)
  b__law_equal : Binds K d__law_equal ["_law_actual", "_law_due"] []
  a__law_allocation : Addr
  d__law_allocation : FuncData
  F__law_allocation : Fun K "_law_allocation" "_law_allocation" s__law_allocation a__law_allocation d__law_allocation
  g__law_allocation : mg "_law_allocation" = some (.ref a__law_allocation)
  b__law_allocation : Binds K d__law_allocation ["_law_stream_here", "_law_variants", "_law_buckets"] []
  a__law_near : Addr
  d__law_near : FuncData
  F__law_near : Fun K "_law_near" "_law_near" s__law_near a__law_near d__law_near
  g__law_near : mg "_law_near" = some (.ref a__law_near)
  b__law_near : Binds K d__law_near ["_law_stream_here", "_law_allocation_here"] []
  a_is_series : Addr
  d_is_series : FuncData
  F_is_series : Fun K "is_series" "is_series" s_is_series a_is_series d_is_series
  g_is_series : mg "is_series" = some (.ref a_is_series)
  b_is_series : Binds K d_is_series ["value", "most"] []
  a_overdrawn_in : Addr
  d_overdrawn_in : FuncData
  F_overdrawn_in : Fun K "overdrawn_in" "overdrawn_in" s_overdrawn_in a_overdrawn_in d_overdrawn_in
  g_overdrawn_in : mg "overdrawn_in" = some (.ref a_overdrawn_in)
  b_overdrawn_in : Binds K d_overdrawn_in ["allocations"] []
  a__law_series : Addr
  d__law_series : FuncData
  F__law_series : Fun K "_law_series" "_law_series" s__law_series a__law_series d__law_series
  g__law_series : mg "_law_series" = some (.ref a__law_series)
  b__law_series : Binds K d__law_series ["_law_stream_here", "_law_variants", "_law_buckets", "_law_many"] []
  a_check_series : Addr
  d_check_series : FuncData
  F_check_series : Fun K "check_series" "check_series" s_check_series a_check_series d_check_series
  g_check_series : mg "check_series" = some (.ref a_check_series)
  b_check_series : Binds K d_check_series ["allocations", "most"] []
  a__law_small_series : Addr
  d__law_small_series : FuncData
  F__law_small_series : Fun K "_law_small_series" "_law_small_series" s__law_small_series a__law_small_series d__law_small_series
  g__law_small_series : mg "_law_small_series" = some (.ref a__law_small_series)
  b__law_small_series : Binds K d__law_small_series ["_law_stream_here"] []
  a_overdrawn : Addr
  d_overdrawn : FuncData
  F_overdrawn : Fun K "overdrawn" "overdrawn" s_overdrawn a_overdrawn d_overdrawn
  g_overdrawn : mg "overdrawn" = some (.ref a_overdrawn)
  b_overdrawn : Binds K d_overdrawn ["allocations"] []
  a_calm_history : Addr
  d_calm_history : FuncData
  F_calm_history : Fun K "calm_history" "calm_history" s_calm_history a_calm_history d_calm_history
  g_calm_history : mg "calm_history" = some (.ref a_calm_history)
  b_calm_history : Binds K d_calm_history ["allocations"] []
  a_law : Addr
  d_law : FuncData
  F_law : Fun K "law" "law" s_law a_law d_law
  g_law : mg "law" = some (.ref a_law)
  b_law : Binds K d_law ["_law_script"] []
abbrev cMT {K : PySem.W.Frag} {mg : Str → Option Value} (T : Txt K mg) : Nat → Addr := fun j => match j with
  | 3 => T.C_Step
  | _ => 0
abbrev cl0 : Str → Option Addr := fun _ => none
section
variable {P : Program} {w : World} {K : PySem.W.Frag} {mg : Str → Option Value} {base : Heap}
set_option maxHeartbeats 4000000 in
theorem ok_is_whole (T : Txt K mg) : FnOk P w K mg base CX0 1 T.a_is_whole T.d_is_whole ["value"] (spD K cl0 1 1 f_is_whole) := by
  have h : FnOk P w K mg base CX0 1 T.a_is_whole T.d_is_whole ["value"] (spD K cl0 N_is_whole.length (["value"] : List Str).length (runDef [false] N_is_whole.length b_is_whole)) := by
    refine fn_d (ios := [false]) (body := b_is_whole) T.F_is_whole sc_is_whole (by decide) (by decide) fun cdv A outer s H vs E hr => ?_
    show DSs _ _ (_ :: _) _
    exact (dss_one (ds_ret (dm_d (de_and (de_isi .int (by rfl) T.z_isinstance bt_isinstance (de_var 0) (by rfl) T.z_int bt_int) (de_one (de_not (de_isi .bool (by rfl) T.z_isinstance bt_isinstance (de_var 0) (by rfl) T.z_bool bt_bool)))))))
  exact h
set_option maxHeartbeats 4000000 in
theorem ok_steps_of (T : Txt K mg) : FnOk P w K mg base CX0 1 T.a_steps_of T.d_steps_of ["allocations"] (spD K cl0 1 1 f_steps_of) := by
  have h : FnOk P w K mg base CX0 1 T.a_steps_of T.d_steps_of ["allocations"] (spD K cl0 N_steps_of.length (["allocations"] : List Str).length (runDef [false] N_steps_of.length b_steps_of)) := by
    refine fn_d (ios := [false]) (body := b_steps_of) T.F_steps_of sc_steps_of (by decide) (by decide) fun cdv A outer s H vs E hr => ?_
    show DSs _ _ (_ :: _) _
    exact (dss_one (ds_ret (dm_d (de_listZip rfl (by rfl) T.z_list (by rfl) T.z_zip (da_cons (de_var 0) (da_cons (de_slice (de_var 0) (dp_some de_int) dp_no) da_nil))))))
  exact h
set_option maxHeartbeats 4000000 in
theorem ok_sorted_assignment (T : Txt K mg) : FnOk P w K mg base CX0 1 T.a_sorted_assignment T.d_sorted_assignment ["allocation"] (spD K cl0 4 1 f_sorted_assignment) := by
  have h : FnOk P w K mg base CX0 1 T.a_sorted_assignment T.d_sorted_assignment ["allocation"] (spD K cl0 N_sorted_assignment.length (["allocation"] : List Str).length (runDef [false] N_sorted_assignment.length b_sorted_assignment)) := by
    refine fn_d (ios := [false]) (body := b_sorted_assignment) T.F_sorted_assignment sc_sorted_assignment (by decide) (by decide) fun cdv A outer s H vs E hr => ?_
    show DSs _ _ (_ :: _) _
    exact (dss_cons (ds_set (dm_d (de_lst da_nil)) sc_sorted_assignment.nd rfl (Or.inl rfl) rfl)
  (dss_cons (ds_for PassesOwn.never rfl (di_enum (by rfl) T.z_enumerate (da_cons (de_var 0) da_nil)) (dg_tup rfl (dgs_cons (dg_name 2 sc_sorted_assignment.nd rfl (by first | exact Or.inl rfl | exact Or.inr rfl) rfl) (dgs_cons (dg_name 3 sc_sorted_assignment.nd rfl (by first | exact Or.inl rfl | exact Or.inr rfl) rfl) dgs_nil))) (dss_one (ds_set (dm_d (de_op op_addAll o2_add (de_var 1) (de_op op_mulAll o2_mul (de_lst (da_cons (de_var 2) da_nil)) (de_var 3)))) sc_sorted_assignment.nd rfl (Or.inl rfl) rfl)))
  (dss_one (ds_ret (dm_d (de_Ty DLT.call_tupZ ob_tup (by rfl) T.z_tuple bt_tuple (da_cons (de_var 1) da_nil)))))))
  exact h
set_option maxHeartbeats 4000000 in
theorem ok_changes_in (T : Txt K mg) : FnOk P w K mg base CX0 1 T.a_changes_in T.d_changes_in ["history"] (spD K cl0 5 1 f_changes_in) := by
  have h : FnOk P w K mg base CX0 1 T.a_changes_in T.d_changes_in ["history"] (spD K cl0 N_changes_in.length (["history"] : List Str).length (runDef [false] N_changes_in.length b_changes_in)) := by
    refine fn_d (ios := [false]) (body := b_changes_in) T.F_changes_in sc_changes_in (by decide) (by decide) fun cdv A outer s H vs E hr => ?_
    show DSs _ _ (_ :: _) _
    exact (dss_cons (ds_set (dm_lst da_nil) sc_changes_in.nd rfl (Or.inl rfl) rfl)
  (dss_cons (ds_for PassesOwn.never rfl (di_zipNS (by rfl) T.z_zip (de_var 0)) (dg_name 2 sc_changes_in.nd rfl (by first | exact Or.inl rfl | exact Or.inr rfl) rfl) (dss_one (ds_expr (dm_d (de_mt md_app PySem.F.slot_list_append PySem.F.type_list_append mt_append (pv 1) (da_cons (de_B (cr_sumAll rfl) ob_sum (by rfl) T.z_sum bt_sum (da_cons (de_comp rfl sc_changes_in.nd (di_zip (by rfl) T.z_zip (da_cons (de_var 2) (da_cons (de_slice (de_var 2) (dp_some de_int) dp_no) da_nil))) (blkOk_by (own := [("one", 3), ("other", 4)]) (N := N_changes_in) (sc := defScope s_changes_in) (by decide +kernel)) (fun _ _ _ _ _ => (dg_tup rfl (dgs_cons (dg_name 3 sc_changes_in.nd rfl (by first | exact Or.inl rfl | exact Or.inr rfl) rfl) (dgs_cons (dg_name 4 sc_changes_in.nd rfl (by first | exact Or.inl rfl | exact Or.inr rfl) rfl) dgs_nil)))) (fun _ _ _ _ _ => dts_nil) (fun _ _ _ _ _ => (de_Ty call_int1 ob_int (by rfl) T.z_int bt_int (da_cons (de_cmp (op_neD hr.units) o2_ne (de_var 3) (de_var 4) (nomark _)) da_nil))) (by decide) (ioAll rfl)) da_nil)) da_nil))))))
  (dss_one (ds_ret (dm_d (de_tupO (by rfl) T.z_tuple bt_tuple (pv 1)))))))
  exact h
set_option maxHeartbeats 4000000 in
theorem ok_Step_init (T : Txt K mg) : FnOk P w K mg base CX0 1 T.a_Step_init T.d_Step_init ["self", "before", "behind", "assignment", "free"] (spD K cl0 10 5 (f_Step_init (cMT T))) := by
  have h : FnOk P w K mg base CX0 1 T.a_Step_init T.d_Step_init ["self", "before", "behind", "assignment", "free"] (spD K cl0 N_Step_init.length (["self", "before", "behind", "assignment", "free"] : List Str).length (runDef [true, false, false, false, false] N_Step_init.length (b_Step_init (cMT T)))) := by
    refine fn_d (ios := [true, false, false, false, false]) (body := (b_Step_init (cMT T))) T.F_Step_init sc_Step_init (by decide) (by decide) fun cdv A outer s H vs E hr => ?_
    show DSs _ _ (_ :: _) _
    exact (dss_cons (ds_fldP (dm_comp rfl sc_Step_init.nd (di_zip (by rfl) T.z_zip (da_cons (de_var 1) (da_cons (de_var 2) da_nil))) (blkOk_by (own := [("a", 7), ("b", 8)]) (N := N_Step_init) (sc := defScope s_Step_init) (by decide +kernel)) (fun _ _ _ _ _ => (dg_tup rfl (dgs_cons (dg_name 7 sc_Step_init.nd rfl (by first | exact Or.inl rfl | exact Or.inr rfl) rfl) (dgs_cons (dg_name 8 sc_Step_init.nd rfl (by first | exact Or.inl rfl | exact Or.inr rfl) rfl) dgs_nil)))) (fun _ _ _ _ _ => dts_nil) (fun _ _ _ _ _ => (de_B (cr_maxAll rfl) ob_max (by rfl) T.z_max bt_max (da_cons de_int (da_cons (de_op op_sub o2_sub (de_var 7) (de_var 8)) da_nil)))) (by decide) (ioAll rfl)) (pl_0 (pv 0)) T.cl_Step T.n_Step_leaving)
  (dss_cons (ds_fldP (dm_comp rfl sc_Step_init.nd (di_zip (by rfl) T.z_zip (da_cons (de_var 1) (da_cons (de_var 2) da_nil))) (blkOk_by (own := [("a", 7), ("b", 8)]) (N := N_Step_init) (sc := defScope s_Step_init) (by decide +kernel)) (fun _ _ _ _ _ => (dg_tup rfl (dgs_cons (dg_name 7 sc_Step_init.nd rfl (by first | exact Or.inl rfl | exact Or.inr rfl) rfl) (dgs_cons (dg_name 8 sc_Step_init.nd rfl (by first | exact Or.inl rfl | exact Or.inr rfl) rfl) dgs_nil)))) (fun _ _ _ _ _ => dts_nil) (fun _ _ _ _ _ => (de_B (cr_maxAll rfl) ob_max (by rfl) T.z_max bt_max (da_cons de_int (da_cons (de_op op_sub o2_sub (de_var 8) (de_var 7)) da_nil)))) (by decide) (ioAll rfl)) (pl_0 (pv 0)) T.cl_Step T.n_Step_entering)
  (dss_cons (ds_fldP (dm_d (de_var 3)) (pl_0 (pv 0)) T.cl_Step T.n_Step_assignment)
  (dss_cons (ds_fldP (dm_d (de_var 4)) (pl_0 (pv 0)) T.cl_Step T.n_Step_free)
  (dss_cons (ds_fldP (dm_comp rfl sc_Step_init.nd (di_seq (de_var 1)) (blkOk_by (own := [("_", 9)]) (N := N_Step_init) (sc := defScope s_Step_init) (by decide +kernel)) (fun _ _ _ _ _ => (dg_name 9 sc_Step_init.nd rfl (by first | exact Or.inl rfl | exact Or.inr rfl) rfl)) (fun _ _ _ _ _ => dts_nil) (fun _ _ _ _ _ => de_int) (by decide) (ioAll rfl)) (pl_0 (pv 0)) T.cl_Step T.n_Step_waiting)
  (dss_one (ds_for PassesOwn.never rfl (di_zipM (by rfl) T.z_zip (da_cons (de_var 3) (da_cons (de_var 4) da_nil))) (dg_tup rfl (dgs_cons (dg_name 5 sc_Step_init.nd rfl (by first | exact Or.inl rfl | exact Or.inr rfl) rfl) (dgs_cons (dg_name 6 sc_Step_init.nd rfl (by first | exact Or.inl rfl | exact Or.inr rfl) rfl) dgs_nil))) (dss_one (ds_augP ip_add (pl_s (pl_0 (pv 0)) T.cl_Step T.n_Step_waiting) (de_var 5) (de_Ty call_int1 ob_int (by rfl) T.z_int bt_int (da_cons (de_var 6) da_nil)))))))))))
  exact h
set_option maxHeartbeats 4000000 in
theorem ok_Step_options (T : Txt K mg) : FnOk P w K mg base CX0 1 T.a_Step_options T.d_Step_options ["self", "bucket"] (spD K cl0 6 2 (f_Step_options (cMT T))) := by
  have h : FnOk P w K mg base CX0 1 T.a_Step_options T.d_Step_options ["self", "bucket"] (spD K cl0 N_Step_options.length (["self", "bucket"] : List Str).length (runDef [true, false] N_Step_options.length (b_Step_options (cMT T)))) := by
    refine fn_d (ios := [true, false]) (body := (b_Step_options (cMT T))) T.F_Step_options sc_Step_options (by decide) (by decide) fun cdv A outer s H vs E hr => ?_
    show DSs _ _ (_ :: _) _
    exact (dss_cons (ds_set (dm_d (de_ix (de_p (pl_s (pl_0 (pv 0)) T.cl_Step T.n_Step_assignment)) (de_var 1) (fun _ _ => rfl))) sc_Step_options.nd rfl (Or.inl rfl) rfl)
  (dss_cons (ds_if (dt_not (dt_truth (de_ix (de_p (pl_s (pl_0 (pv 0)) T.cl_Step T.n_Step_free)) (de_var 1) (fun _ _ => rfl)))) (dss_one (ds_ret (dm_d (de_lst (da_cons (de_var 2) da_nil))))) dss_nil)
  (dss_cons (ds_set (dm_d (de_if (dt_cmp op_gt o2_gt (de_ixP (pl_s (pl_0 (pv 0)) T.cl_Step T.n_Step_waiting) (de_var 2) (fun _ _ => rfl)) (de_ixP (pl_s (pl_0 (pv 0)) T.cl_Step T.n_Step_leaving) (de_var 2) (fun _ _ => rfl)) (nomark _)) (de_lst (da_cons (de_var 2) da_nil)) (de_lst da_nil))) sc_Step_options.nd rfl (Or.inl rfl) rfl)
  (dss_cons (ds_if (dt_cmp op_gt o2_gt (de_ixP (pl_s (pl_0 (pv 0)) T.cl_Step T.n_Step_leaving) (de_var 2) (fun _ _ => rfl)) de_int (nomark _)) (dss_one (ds_set (dm_d (de_op op_addAll o2_add (de_var 3) (de_frz (dm_lend2 (dm_comp rfl sc_Step_options.nd (di_enum (by rfl) T.z_enumerate (da_cons (de_p (pl_s (pl_0 (pv 0)) T.cl_Step T.n_Step_entering)) da_nil)) (blkOk_by (own := [("other", 5), ("many", 4)]) (N := N_Step_options) (sc := defScope s_Step_options) (by decide +kernel)) (fun _ _ _ _ _ => (dg_tup rfl (dgs_cons (dg_name 5 sc_Step_options.nd rfl (by first | exact Or.inl rfl | exact Or.inr rfl) rfl) (dgs_cons (dg_name 4 sc_Step_options.nd rfl (by first | exact Or.inl rfl | exact Or.inr rfl) rfl) dgs_nil)))) (fun _ _ _ _ _ => (dts_one (dt_cmp op_gt o2_gt (de_var 4) de_int (nomark _)))) (fun _ _ _ _ _ => (de_var 5)) (by decide) (ioAll rfl)))))) sc_Step_options.nd rfl (Or.inl rfl) rfl)) dss_nil)
  (dss_one (ds_ret (dm_d (de_B cr_sortedAll ob_sorted (by rfl) T.z_sorted bt_sorted (da_cons (de_var 3) da_nil)))))))))
  exact h
set_option maxHeartbeats 4000000 in
theorem ok_Step_take (T : Txt K mg) : FnOk P w K mg base CX0 1 T.a_Step_take T.d_Step_take ["self", "bucket", "variant", "way"] (spD K cl0 5 4 (f_Step_take (cMT T))) := by
  have h : FnOk P w K mg base CX0 1 T.a_Step_take T.d_Step_take ["self", "bucket", "variant", "way"] (spD K cl0 N_Step_take.length (["self", "bucket", "variant", "way"] : List Str).length (runDef [true, false, false, false] N_Step_take.length (b_Step_take (cMT T)))) := by
    refine fn_d (ios := [true, false, false, false]) (body := (b_Step_take (cMT T))) T.F_Step_take sc_Step_take (by decide) (by decide) fun cdv A outer s H vs E hr => ?_
    show DSs _ _ (_ :: _) _
    exact (dss_cons (ds_set (dm_d (de_ix (de_p (pl_s (pl_0 (pv 0)) T.cl_Step T.n_Step_assignment)) (de_var 1) (fun _ _ => rfl))) sc_Step_take.nd rfl (Or.inl rfl) rfl)
  (dss_cons (ds_augP ip_sub (pl_s (pl_0 (pv 0)) T.cl_Step T.n_Step_waiting) (de_var 4) (de_op op_mulAll o2_mul (de_var 3) (de_Ty call_int1 ob_int (by rfl) T.z_int bt_int (da_cons (de_ix (de_p (pl_s (pl_0 (pv 0)) T.cl_Step T.n_Step_free)) (de_var 1) (fun _ _ => rfl)) da_nil))))
  (dss_one (ds_if (dt_cmp (op_neD hr.units) o2_ne (de_var 2) (de_var 4) (nomark _)) (dss_cons (ds_augP ip_sub (pl_s (pl_0 (pv 0)) T.cl_Step T.n_Step_leaving) (de_var 4) (de_var 3))
    (dss_one (ds_augP ip_sub (pl_s (pl_0 (pv 0)) T.cl_Step T.n_Step_entering) (de_var 2) (de_var 3)))) dss_nil))))
  exact h
set_option maxHeartbeats 4000000 in
theorem ok__law_stream (T : Txt K mg) : FnOk P w K mg base CX0 1 T.a__law_stream T.d__law_stream ["_law_script"] (spD K cl0 1 1 f__law_stream) := by
  have h : FnOk P w K mg base CX0 1 T.a__law_stream T.d__law_stream ["_law_script"] (spD K cl0 N__law_stream.length (["_law_script"] : List Str).length (runDef [true] N__law_stream.length b__law_stream)) := by
    refine fn_d (ios := [true]) (body := b__law_stream) T.F__law_stream sc__law_stream (by decide) (by decide) fun cdv A outer s H vs E hr => ?_
    show DSs _ _ (_ :: _) _
    exact (dss_one (ds_ret (dm_lst (da_cons (de_listScr 0 (by rfl) T.z_list bt_list (pa_cons (pv 0) pa_nil)) (da_cons de_int (da_cons de_int da_nil))))))
  exact h
set_option maxHeartbeats 4000000 in
theorem ok__law_next (T : Txt K mg) : FnOk P w K mg base CX0 1 T.a__law_next T.d__law_next ["_law_stream_here", "_law_many"] (spD K cl0 5 2 f__law_next) := by
  have h : FnOk P w K mg base CX0 1 T.a__law_next T.d__law_next ["_law_stream_here", "_law_many"] (spD K cl0 N__law_next.length (["_law_stream_here", "_law_many"] : List Str).length (runDef [true, false] N__law_next.length b__law_next)) := by
    refine fn_d (ios := [true, false]) (body := b__law_next) T.F__law_next sc__law_next (by decide) (by decide) fun cdv A outer s H vs E hr => ?_
    show DSs _ _ (_ :: _) _
    exact (dss_cons (ds_if (dt_cmp (op_eqD hr.units) o2_eq (de_ixO (pv 0) de_int (fun _ _ => rfl)) de_int (nomark _)) (dss_cons (ds_set (dm_d (de_ixO (pv 0) de_int (fun _ _ => rfl))) sc__law_next.nd rfl (Or.inl rfl) rfl)
    (dss_cons (ds_set (dm_d (de_op op_addAll o2_add de_int (de_var 3))) sc__law_next.nd rfl (Or.inl rfl) rfl)
    (dss_cons (ds_if (dt_cmp (op_ltA (hu65 hr)) o2_lt (de_var 3) (de_B call_len ob_len (by rfl) T.z_len bt_len (da_cons (de_ixO (pv 0) de_int (fun _ _ => rfl)) da_nil)) (nomark _)) (dss_one (ds_set (dm_d (de_B call_abs ob_abs (by rfl) T.z_abs bt_abs (da_cons (de_ix (de_ixO (pv 0) de_int (fun _ _ => rfl)) (de_var 3) (fun _ _ => rfl)) da_nil))) sc__law_next.nd rfl (Or.inl rfl) rfl)) dss_nil)
    (dss_cons (ds_if (dt_cmp (op_ltA (hu65 hr)) o2_lt (de_var 4) (de_op op_pow o2_pow de_int de_int) (nomark _)) (dss_cons (ds_set (dm_d (de_op op_mod o2_mod (de_Ty call_int1 ob_int (by rfl) T.z_int bt_int (da_cons (de_op op_addAll o2_add (de_op op_addAll o2_add (de_op op_mulAll o2_mul (de_var 4) de_int) (de_op op_mulAll o2_mul (de_var 3) de_int)) de_int) da_nil)) de_int)) sc__law_next.nd rfl (Or.inl rfl) rfl)
      (dss_one (ds_set (dm_d (de_op op_addAll o2_add (de_op op_mulAll o2_mul (de_op op_mod o2_mod (de_Ty call_int1 ob_int (by rfl) T.z_int bt_int (da_cons (de_op op_addAll o2_add (de_op op_mulAll o2_mul (de_var 4) de_int) de_int) da_nil)) de_int) de_int) (de_var 4))) sc__law_next.nd rfl (Or.inl rfl) rfl))) dss_nil)
    (dss_cons (ds_setItem (de_var 4) (pv 0) de_int)
    (dss_one (ds_setItem (de_op op_addAll o2_add (de_var 3) de_int) (pv 0) de_int))))))) dss_nil)
  (dss_cons (ds_set (dm_d (de_op op_mod o2_mod (de_Ty call_int1 ob_int (by rfl) T.z_int bt_int (da_cons (de_ixO (pv 0) de_int (fun _ _ => rfl)) da_nil)) (de_var 1))) sc__law_next.nd rfl (Or.inl rfl) rfl)
  (dss_cons (ds_setItem (de_op op_fdiv o2_div (de_ixO (pv 0) de_int (fun _ _ => rfl)) (de_var 1)) (pv 0) de_int)
  (dss_one (ds_ret (dm_d (de_var 2)))))))
  exact h
set_option maxHeartbeats 4000000 in
theorem ok__law_is_integer (T : Txt K mg) : FnOk P w K mg base CX0 1 T.a__law_is_integer T.d__law_is_integer ["_law_actual"] (spD K cl0 1 1 f__law_is_integer) := by
  have h : FnOk P w K mg base CX0 1 T.a__law_is_integer T.d__law_is_integer ["_law_actual"] (spD K cl0 N__law_is_integer.length (["_law_actual"] : List Str).length (runDef [false] N__law_is_integer.length b__law_is_integer)) := by
    refine fn_d (ios := [false]) (body := b__law_is_integer) T.F__law_is_integer sc__law_is_integer (by decide) (by decide) fun cdv A outer s H vs E hr => ?_
    show DSs _ _ (_ :: _) _
    exact (dss_one (ds_ret (dm_d (de_and (de_isi .int (by rfl) T.z_isinstance bt_isinstance (de_var 0) (by rfl) T.z_int bt_int) (de_one (de_not (de_isi .bool (by rfl) T.z_isinstance bt_isinstance (de_var 0) (by rfl) T.z_bool bt_bool)))))))
  exact h
set_option maxHeartbeats 4000000 in
theorem ok__law_sorted (T : Txt K mg) : FnOk P w K mg base CX0 1 T.a__law_sorted T.d__law_sorted ["_law_allocation_here"] (spD K cl0 4 1 f__law_sorted) := by
  have h : FnOk P w K mg base CX0 1 T.a__law_sorted T.d__law_sorted ["_law_allocation_here"] (spD K cl0 N__law_sorted.length (["_law_allocation_here"] : List Str).length (runDef [false] N__law_sorted.length b__law_sorted)) := by
    refine fn_d (ios := [false]) (body := b__law_sorted) T.F__law_sorted sc__law_sorted (by decide) (by decide) fun cdv A outer s H vs E hr => ?_
    show DSs _ _ (_ :: _) _
    exact (dss_cons (ds_set (dm_d (de_lst da_nil)) sc__law_sorted.nd rfl (Or.inl rfl) rfl)
  (dss_cons (ds_for PassesOwn.never rfl (di_range1 (by rfl) T.z_range (da_cons (de_B call_len ob_len (by rfl) T.z_len bt_len (da_cons (de_var 0) da_nil)) da_nil)) (dg_name 2 sc__law_sorted.nd rfl (by first | exact Or.inl rfl | exact Or.inr rfl) rfl) (dss_one (ds_set (dm_d (de_op op_addAll o2_add (de_var 1) (de_comp rfl sc__law_sorted.nd (di_range1 (by rfl) T.z_range (da_cons (de_ix (de_var 0) (de_var 2) (fun _ _ => rfl)) da_nil)) (blkOk_by (own := [("_law_bucket", 3)]) (N := N__law_sorted) (sc := defScope s__law_sorted) (by decide +kernel)) (fun _ _ _ _ _ => (dg_name 3 sc__law_sorted.nd rfl (by first | exact Or.inl rfl | exact Or.inr rfl) rfl)) (fun _ _ _ _ _ => dts_nil) (fun _ _ _ _ _ => (de_var 2)) (by decide) (ioAll rfl)))) sc__law_sorted.nd rfl (Or.inl rfl) rfl)))
  (dss_one (ds_ret (dm_d (de_Ty DLT.call_tupZ ob_tup (by rfl) T.z_tuple bt_tuple (da_cons (de_var 1) da_nil)))))))
  exact h
set_option maxHeartbeats 4000000 in
theorem ok__law_assignments (T : Txt K mg) : FnOk P w K mg base CX0 1 T.a__law_assignments T.d__law_assignments ["_law_allocation_here"] (spD K cl0 6 1 f__law_assignments) := by
  have h : FnOk P w K mg base CX0 1 T.a__law_assignments T.d__law_assignments ["_law_allocation_here"] (spD K cl0 N__law_assignments.length (["_law_allocation_here"] : List Str).length (runDef [false] N__law_assignments.length b__law_assignments)) := by
    refine fn_d (ios := [false]) (body := b__law_assignments) T.F__law_assignments sc__law_assignments (by decide) (by decide) fun cdv A outer s H vs E hr => ?_
    show DSs _ _ (_ :: _) _
    exact (dss_cons (ds_set (dm_d (de_lst (da_cons (de_tup da_nil) da_nil))) sc__law_assignments.nd rfl (Or.inl rfl) rfl)
  (dss_cons (ds_for PassesOwn.never rfl (di_range1 (by rfl) T.z_range (da_cons (de_B (cr_sumAll rfl) ob_sum (by rfl) T.z_sum bt_sum (da_cons (de_var 0) da_nil)) da_nil)) (dg_name 2 sc__law_assignments.nd rfl (by first | exact Or.inl rfl | exact Or.inr rfl) rfl) (dss_cons (ds_set (dm_lst da_nil) sc__law_assignments.nd rfl (Or.inl rfl) rfl)
    (dss_cons (ds_for PassesOwn.never rfl (di_seq (de_var 1)) (dg_name 4 sc__law_assignments.nd rfl (by first | exact Or.inl rfl | exact Or.inr rfl) rfl) (dss_one (ds_for PassesOwn.never rfl (di_range1 (by rfl) T.z_range (da_cons (de_B call_len ob_len (by rfl) T.z_len bt_len (da_cons (de_var 0) da_nil)) da_nil)) (dg_name 5 sc__law_assignments.nd rfl (by first | exact Or.inl rfl | exact Or.inr rfl) rfl) (dss_one (ds_if (dt_cmp (op_ltA (hu65 hr)) o2_lt (de_sm sm_cnt PySem.F.slot_list_count PySem.F.type_list_count mt_lcount PySem.F.slot_tuple_count PySem.F.type_tuple_count mt_tcount (de_var 4) (da_cons (de_var 5) da_nil)) (de_ix (de_var 0) (de_var 5) (fun _ _ => rfl)) (nomark _)) (dss_one (ds_expr (dm_d (de_mt md_app PySem.F.slot_list_append PySem.F.type_list_append mt_append (pv 3) (da_cons (de_op op_addAll o2_add (de_var 4) (de_tup (da_cons (de_var 5) da_nil))) da_nil))))) dss_nil)))))
    (dss_one (ds_set (dm_d (de_varF 3)) sc__law_assignments.nd rfl (Or.inl rfl) rfl)))))
  (dss_one (ds_ret (dm_d (de_var 1))))))
  exact h
set_option maxHeartbeats 4000000 in
theorem ok__law_transfer (T : Txt K mg) : FnOk P w K mg base CX0 1 T.a__law_transfer T.d__law_transfer ["_law_first", "_law_second"] (spD K cl0 4 2 f__law_transfer) := by
  have h : FnOk P w K mg base CX0 1 T.a__law_transfer T.d__law_transfer ["_law_first", "_law_second"] (spD K cl0 N__law_transfer.length (["_law_first", "_law_second"] : List Str).length (runDef [false, false] N__law_transfer.length b__law_transfer)) := by
    refine fn_d (ios := [false, false]) (body := b__law_transfer) T.F__law_transfer sc__law_transfer (by decide) (by decide) fun cdv A outer s H vs E hr => ?_
    show DSs _ _ (_ :: _) _
    exact (dss_one (ds_ret (dm_d (de_B (cr_sumAll rfl) ob_sum (by rfl) T.z_sum bt_sum (da_cons (de_comp rfl sc__law_transfer.nd (di_zip (by rfl) T.z_zip (da_cons (de_var 0) (da_cons (de_var 1) da_nil))) (blkOk_by (own := [("_law_a", 2), ("_law_b", 3)]) (N := N__law_transfer) (sc := defScope s__law_transfer) (by decide +kernel)) (fun _ _ _ _ _ => (dg_tup rfl (dgs_cons (dg_name 2 sc__law_transfer.nd rfl (by first | exact Or.inl rfl | exact Or.inr rfl) rfl) (dgs_cons (dg_name 3 sc__law_transfer.nd rfl (by first | exact Or.inl rfl | exact Or.inr rfl) rfl) dgs_nil)))) (fun _ _ _ _ _ => dts_nil) (fun _ _ _ _ _ => (de_B (cr_maxAll rfl) ob_max (by rfl) T.z_max bt_max (da_cons de_int (da_cons (de_op op_sub o2_sub (de_var 2) (de_var 3)) da_nil)))) (by decide) (ioAll rfl)) da_nil)))))
  exact h
set_option maxHeartbeats 4000000 in
theorem ok__law_churn (T : Txt K mg) : FnOk P w K mg base CX0 1 T.a__law_churn T.d__law_churn ["_law_first", "_law_second"] (spD K cl0 3 2 f__law_churn) := by
  have h : FnOk P w K mg base CX0 1 T.a__law_churn T.d__law_churn ["_law_first", "_law_second"] (spD K cl0 N__law_churn.length (["_law_first", "_law_second"] : List Str).length (runDef [false, false] N__law_churn.length b__law_churn)) := by
    refine fn_d (ios := [false, false]) (body := b__law_churn) T.F__law_churn sc__law_churn (by decide) (by decide) fun cdv A outer s H vs E hr => ?_
    show DSs _ _ (_ :: _) _
    exact (dss_one (ds_ret (dm_d (de_B call_len ob_len (by rfl) T.z_len bt_len (da_cons (de_comp rfl sc__law_churn.nd (di_range1 (by rfl) T.z_range (da_cons (de_B call_len ob_len (by rfl) T.z_len bt_len (da_cons (de_var 0) da_nil)) da_nil)) (blkOk_by (own := [("_law_at", 2)]) (N := N__law_churn) (sc := defScope s__law_churn) (by decide +kernel)) (fun _ _ _ _ _ => (dg_name 2 sc__law_churn.nd rfl (by first | exact Or.inl rfl | exact Or.inr rfl) rfl)) (fun _ _ _ _ _ => (dts_one (dt_cmp (op_neD hr.units) o2_ne (de_ix (de_var 0) (de_var 2) (fun _ _ => rfl)) (de_ix (de_var 1) (de_var 2) (fun _ _ => rfl)) (nomark _)))) (fun _ _ _ _ _ => (de_var 2)) (by decide) (ioAll rfl)) da_nil)))))
  exact h
set_option maxHeartbeats 4000000 in
theorem ok__law_changes (T : Txt K mg) : FnOk P w K mg base CX0 1 T.a__law_changes T.d__law_changes ["_law_table"] (spD K cl0 4 1 f__law_changes) := by
  have h : FnOk P w K mg base CX0 1 T.a__law_changes T.d__law_changes ["_law_table"] (spD K cl0 N__law_changes.length (["_law_table"] : List Str).length (runDef [false] N__law_changes.length b__law_changes)) := by
    refine fn_d (ios := [false]) (body := b__law_changes) T.F__law_changes sc__law_changes (by decide) (by decide) fun cdv A outer s H vs E hr => ?_
    show DSs _ _ (_ :: _) _
    exact (dss_cons (ds_set (dm_lst da_nil) sc__law_changes.nd rfl (Or.inl rfl) rfl)
  (dss_cons (ds_for PassesOwn.never rfl (di_range1 (by rfl) T.z_range (da_cons (de_B call_len ob_len (by rfl) T.z_len bt_len (da_cons (de_ix (de_var 0) de_int (fun _ _ => rfl)) da_nil)) da_nil)) (dg_name 2 sc__law_changes.nd rfl (by first | exact Or.inl rfl | exact Or.inr rfl) rfl) (dss_one (ds_expr (dm_d (de_mt md_app PySem.F.slot_list_append PySem.F.type_list_append mt_append (pv 1) (da_cons (de_B call_len ob_len (by rfl) T.z_len bt_len (da_cons (de_comp rfl sc__law_changes.nd (di_range1 (by rfl) T.z_range (da_cons (de_op op_sub o2_sub (de_B call_len ob_len (by rfl) T.z_len bt_len (da_cons (de_var 0) da_nil)) de_int) da_nil)) (blkOk_by (own := [("_law_step", 3)]) (N := N__law_changes) (sc := defScope s__law_changes) (by decide +kernel)) (fun _ _ _ _ _ => (dg_name 3 sc__law_changes.nd rfl (by first | exact Or.inl rfl | exact Or.inr rfl) rfl)) (fun _ _ _ _ _ => (dts_one (dt_cmp (op_neD hr.units) o2_ne (de_ix (de_ix (de_var 0) (de_var 3) (fun _ _ => rfl)) (de_var 2) (fun _ _ => rfl)) (de_ix (de_ix (de_var 0) (de_op op_addAll o2_add (de_var 3) de_int) (fun _ _ => rfl)) (de_var 2) (fun _ _ => rfl)) (nomark _)))) (fun _ _ _ _ _ => (de_var 3)) (by decide) (ioAll rfl)) da_nil)) da_nil))))))
  (dss_one (ds_ret (dm_d (de_tupO (by rfl) T.z_tuple bt_tuple (pv 1)))))))
  exact h
set_option maxHeartbeats 4000000 in
theorem ok_is_between (T : Txt K mg) : FnOk P w K mg base CX0 2 T.a_is_between T.d_is_between ["value", "low", "high"] (spD K cl0 3 3 f_is_between) := by
  have h : FnOk P w K mg base CX0 2 T.a_is_between T.d_is_between ["value", "low", "high"] (spD K cl0 N_is_between.length (["value", "low", "high"] : List Str).length (runDef [false, false, false] N_is_between.length b_is_between)) := by
    refine fn_d (ios := [false, false, false]) (body := b_is_between) T.F_is_between sc_is_between (by decide) (by decide) fun cdv A outer s H vs E hr => ?_
    show DSs _ _ (_ :: _) _
    exact (dss_one (ds_ret (dm_d (de_and (de_frz (dm_call (ok_is_whole T) (hr.mono (by decide)) (by rfl) T.g_is_whole T.F_is_whole.kp T.b_is_whole (dav_d (de_var 0) dav_nil))) (de_one (de_chain op_le o2_le op_le o2_le (de_var 1) (de_var 0) (de_var 2)))))))
  exact h
set_option maxHeartbeats 4000000 in
theorem ok_is_allocation (T : Txt K mg) : FnOk P w K mg base CX0 2 T.a_is_allocation T.d_is_allocation ["value", "variants", "buckets"] (spD K cl0 4 3 f_is_allocation) := by
  have h : FnOk P w K mg base CX0 2 T.a_is_allocation T.d_is_allocation ["value", "variants", "buckets"] (spD K cl0 N_is_allocation.length (["value", "variants", "buckets"] : List Str).length (runDef [false, false, false] N_is_allocation.length b_is_allocation)) := by
    refine fn_d (ios := [false, false, false]) (body := b_is_allocation) T.F_is_allocation sc_is_allocation (by decide) (by decide) fun cdv A outer s H vs E hr => ?_
    show DSs _ _ (_ :: _) _
    exact (dss_cons (ds_if (dt_w (dw_or (dt_not (dt_truth (de_isi .tup (by rfl) T.z_isinstance bt_isinstance (de_var 0) (by rfl) T.z_tuple bt_tuple))) (dw_or1 (dt_cmp (op_neD hr.units) o2_ne (de_B call_len ob_len (by rfl) T.z_len bt_len (da_cons (de_var 0) da_nil)) (de_var 1) (nomark _))))) (dss_one (ds_ret (dm_d de_bl))) dss_nil)
  (dss_one (ds_ret (dm_d (de_and (de_B (cr_all rfl) ob_all (by rfl) T.z_all bt_all (da_cons (de_comp rfl sc_is_allocation.nd (di_seq (de_var 0)) (blkOk_by (own := [("share", 3)]) (N := N_is_allocation) (sc := defScope s_is_allocation) (by decide +kernel)) (fun _ _ _ _ _ => (dg_name 3 sc_is_allocation.nd rfl (by first | exact Or.inl rfl | exact Or.inr rfl) rfl)) (fun _ _ _ _ _ => dts_nil) (fun _ _ _ _ _ => (de_and (de_frz (dm_call (ok_is_whole T) (hr.mono (by decide)) (by rfl) T.g_is_whole T.F_is_whole.kp T.b_is_whole (dav_d (de_var 3) dav_nil))) (de_one (de_cmp op_ge o2_ge (de_var 3) de_int (nomark _))))) (by decide) (ioAll rfl)) da_nil)) (de_one (de_cmp (op_eqD hr.units) o2_eq (de_B (cr_sumAll rfl) ob_sum (by rfl) T.z_sum bt_sum (da_cons (de_var 0) da_nil)) (de_var 2) (nomark _))))))))
  exact h
set_option maxHeartbeats 4000000 in
theorem ok_decreases_of (T : Txt K mg) : FnOk P w K mg base CX0 2 T.a_decreases_of T.d_decreases_of ["allocations"] (spD K cl0 8 1 f_decreases_of) := by
  have h : FnOk P w K mg base CX0 2 T.a_decreases_of T.d_decreases_of ["allocations"] (spD K cl0 N_decreases_of.length (["allocations"] : List Str).length (runDef [false] N_decreases_of.length b_decreases_of)) := by
    refine fn_d (ios := [false]) (body := b_decreases_of) T.F_decreases_of sc_decreases_of (by decide) (by decide) fun cdv A outer s H vs E hr => ?_
    show DSs _ _ (_ :: _) _
    exact (dss_cons (ds_setLcD rfl sc_decreases_of.nd rfl rfl (sw_true rfl rfl rfl (by decide +kernel)) (di_seq (de_ix (de_var 0) de_int (fun _ _ => rfl))) (blkOk_by (own := [("_", 4)]) (N := N_decreases_of) (sc := defScope s_decreases_of) (by decide +kernel)) (fun _ _ _ _ _ => (dg_name 4 sc_decreases_of.nd rfl (by first | exact Or.inl rfl | exact Or.inr rfl) rfl)) (fun _ _ _ _ _ => dts_nil) (fun _ _ _ _ _ => de_int) (by decide) (ioAll rfl) rfl)
  (dss_cons (ds_for PassesOwn.never rfl (di_seq (de_frz (dm_call (ok_steps_of T) (hr.mono (by decide)) (by rfl) T.g_steps_of T.F_steps_of.kp T.b_steps_of (dav_d (de_var 0) dav_nil)))) (dg_tup rfl (dgs_cons (dg_name 2 sc_decreases_of.nd rfl (by first | exact Or.inl rfl | exact Or.inr rfl) rfl) (dgs_cons (dg_name 3 sc_decreases_of.nd rfl (by first | exact Or.inl rfl | exact Or.inr rfl) rfl) dgs_nil))) (dss_one (ds_setLcD rfl sc_decreases_of.nd rfl rfl (sw_true rfl rfl rfl (by decide +kernel)) (di_zipX (.tp _ _ _) (by rfl) T.z_zip (da_cons (de_var 1) (da_cons (de_var 2) (da_cons (de_var 3) da_nil)))) (blkOk_by (own := [("sum_so_far", 7), ("a", 5), ("b", 6)]) (N := N_decreases_of) (sc := defScope s_decreases_of) (by decide +kernel)) (fun _ _ _ _ _ => (dg_tup rfl (dgs_cons (dg_name 7 sc_decreases_of.nd rfl (by first | exact Or.inl rfl | exact Or.inr rfl) rfl) (dgs_cons (dg_name 5 sc_decreases_of.nd rfl (by first | exact Or.inl rfl | exact Or.inr rfl) rfl) (dgs_cons (dg_name 6 sc_decreases_of.nd rfl (by first | exact Or.inl rfl | exact Or.inr rfl) rfl) dgs_nil))))) (fun _ _ _ _ _ => dts_nil) (fun _ _ _ _ _ => (de_op op_addAll o2_add (de_var 7) (de_B (cr_maxAll rfl) ob_max (by rfl) T.z_max bt_max (da_cons de_int (da_cons (de_op op_sub o2_sub (de_var 5) (de_var 6)) da_nil))))) (by decide) (ioAll rfl) rfl)))
  (dss_one (ds_ret (dm_d (de_var 1))))))
  exact h
set_option maxHeartbeats 4000000 in
theorem ok_calm_change (T : Txt K mg) : FnOk P w K mg base CX0 3 T.a_calm_change T.d_calm_change ["before", "behind", "assignment", "free"] (spD K cl0 8 4 (f_calm_change (cMT T))) := by
  have h : FnOk P w K mg base CX0 3 T.a_calm_change T.d_calm_change ["before", "behind", "assignment", "free"] (spD K cl0 N_calm_change.length (["before", "behind", "assignment", "free"] : List Str).length (runDef [false, false, false, false] N_calm_change.length (b_calm_change (cMT T)))) := by
    refine fn_d (ios := [false, false, false, false]) (body := (b_calm_change (cMT T))) T.F_calm_change sc_calm_change (by decide) (by decide) fun cdv A outer s H vs E hr => ?_
    show DSs _ _ (_ :: _) _
    exact (dss_cons (ds_set (dm_makeP T.m_Step_init (ok_Step_init T) (hr.mono (by decide)) (by rfl) T.g_Step T.b_Step_init (dav_d (de_var 0) (dav_d (de_var 1) (dav_d (de_var 2) (dav_d (de_var 3) dav_nil))))) sc_calm_change.nd rfl (Or.inl rfl) rfl)
  (dss_cons (ds_set (dm_lst da_nil) sc_calm_change.nd rfl (Or.inl rfl) rfl)
  (dss_cons (ds_for PassesOwn.never rfl (di_range1 (by rfl) T.z_range (da_cons (de_B call_len ob_len (by rfl) T.z_len bt_len (da_cons (de_var 2) da_nil)) da_nil)) (dg_name 6 sc_calm_change.nd rfl (by first | exact Or.inl rfl | exact Or.inr rfl) rfl) (dss_cons (ds_set (dm_d (de_ix (de_frz (dm_methP (pv 4) T.cl_Step T.m_Step_options (ok_Step_options T) (hr.mono (by decide)) T.b_Step_options (dav_d (de_var 6) dav_nil))) de_int (fun _ _ => rfl))) sc_calm_change.nd rfl (Or.inl rfl) rfl)
    (dss_cons (ds_expr (dm_methP (pv 4) T.cl_Step T.m_Step_take (ok_Step_take T) (hr.mono (by decide)) T.b_Step_take (dav_d (de_var 6) (dav_d (de_var 7) (dav_d de_int dav_nil)))))
    (dss_one (ds_expr (dm_d (de_mt md_app PySem.F.slot_list_append PySem.F.type_list_append mt_append (pv 5) (da_cons (de_var 7) da_nil))))))))
  (dss_one (ds_ret (dm_d (de_tupO (by rfl) T.z_tuple bt_tuple (pv 5))))))))
  exact h
set_option maxHeartbeats 4000000 in
theorem rc__law_equal (T : Txt K mg) : ∀ n : Nat, FnOk P w K mg base CX0 (1 + n) T.a__law_equal T.d__law_equal ["_law_actual", "_law_due"] (spD K cl0 3 2 (r__law_equal n))
  | 0 => fn_no
  | n + 1 => by
    have hrec := rc__law_equal T n
    have h : FnOk P w K mg base CX0 ((1 + n) + 1) T.a__law_equal T.d__law_equal ["_law_actual", "_law_due"] (spD K cl0 N__law_equal.length (["_law_actual", "_law_due"] : List Str).length (runDef [false, false] N__law_equal.length (b__law_equal (r__law_equal n)))) := by
      refine fn_d (ios := [false, false]) (body := b__law_equal (r__law_equal n)) T.F__law_equal sc__law_equal (by decide) (by decide) fun cdv A outer s H vs E hr => ?_
      show DSs _ _ (_ :: _) _
      exact (dss_cons (ds_if (dt_cmp op_isAll o2_is (de_var 1) de_non (nomark _)) (dss_one (ds_ret (dm_d (de_cmp op_isAll o2_is (de_var 0) de_non (nomark _))))) dss_nil)
  (dss_cons (ds_if (dt_truth (de_isi .bool (by rfl) T.z_isinstance bt_isinstance (de_var 1) (by rfl) T.z_bool bt_bool)) (dss_one (ds_ret (dm_d (de_and (de_isi .bool (by rfl) T.z_isinstance bt_isinstance (de_var 0) (by rfl) T.z_bool bt_bool) (de_one (de_cmp (op_eqD hr.units) o2_eq (de_var 0) (de_var 1) (nomark _))))))) dss_nil)
  (dss_cons (ds_if (dt_truth (de_isi .int (by rfl) T.z_isinstance bt_isinstance (de_var 1) (by rfl) T.z_int bt_int)) (dss_one (ds_ret (dm_d (de_and (de_frz (dm_call (ok__law_is_integer T) (hr.mono (by omega)) (by rfl) T.g__law_is_integer T.F__law_is_integer.kp T.b__law_is_integer (dav_d (de_var 0) dav_nil))) (de_one (de_cmp (op_eqD hr.units) o2_eq (de_var 0) (de_var 1) (nomark _))))))) dss_nil)
  (dss_cons (ds_if (dt_truth (de_isi .str (by rfl) T.z_isinstance bt_isinstance (de_var 1) (by rfl) T.z_str bt_str)) (dss_one (ds_ret (dm_d (de_and (de_isi .str (by rfl) T.z_isinstance bt_isinstance (de_var 0) (by rfl) T.z_str bt_str) (de_one (de_cmp (op_eqD hr.units) o2_eq (de_var 0) (de_var 1) (nomark _))))))) dss_nil)
  (dss_cons (ds_if (dt_w (dw_and (dt_truth (de_isi .tup (by rfl) T.z_isinstance bt_isinstance (de_var 1) (by rfl) T.z_tuple bt_tuple)) (dw_and1 (dt_not (dt_truth (de_isi .tup (by rfl) T.z_isinstance bt_isinstance (de_var 0) (by rfl) T.z_tuple bt_tuple)))))) (dss_one (ds_ret (dm_d de_bl))) dss_nil)
  (dss_cons (ds_if (dt_w (dw_and (dt_truth (de_isi .lst (by rfl) T.z_isinstance bt_isinstance (de_var 1) (by rfl) T.z_list bt_list)) (dw_and1 (dt_not (dt_truth (de_isi .lst (by rfl) T.z_isinstance bt_isinstance (de_var 0) (by rfl) T.z_list bt_list)))))) (dss_one (ds_ret (dm_d de_bl))) dss_nil)
  (dss_cons (ds_if (dt_cmp (op_neD hr.units) o2_ne (de_B call_len ob_len (by rfl) T.z_len bt_len (da_cons (de_var 0) da_nil)) (de_B call_len ob_len (by rfl) T.z_len bt_len (da_cons (de_var 1) da_nil)) (nomark _)) (dss_one (ds_ret (dm_d de_bl))) dss_nil)
  (dss_one (ds_ret (dm_d (de_B (cr_all rfl) ob_all (by rfl) T.z_all bt_all (da_cons (de_comp rfl sc__law_equal.nd (di_range1 (by rfl) T.z_range (da_cons (de_B call_len ob_len (by rfl) T.z_len bt_len (da_cons (de_var 1) da_nil)) da_nil)) (blkOk_by (own := [("_law_at", 2)]) (N := N__law_equal) (sc := defScope s__law_equal) (by decide +kernel)) (fun _ _ _ _ _ => (dg_name 2 sc__law_equal.nd rfl (by first | exact Or.inl rfl | exact Or.inr rfl) rfl)) (fun _ _ _ _ _ => dts_nil) (fun _ _ _ _ _ => (de_frz (dm_call hrec (hr.mono (by omega)) (by rfl) T.g__law_equal T.F__law_equal.kp T.b__law_equal (dav_d (de_ix (de_var 0) (de_var 2) (fun _ _ => rfl)) (dav_d (de_ix (de_var 1) (de_var 2) (fun _ _ => rfl)) dav_nil))))) (by decide) (ioAll rfl)) da_nil))))))))))))
    exact h
theorem ok__law_equal (T : Txt K mg) : FnOk P w K mg base CX0 9 T.a__law_equal T.d__law_equal ["_law_actual", "_law_due"] (spD K cl0 3 2 f__law_equal) := rc__law_equal T 8
set_option maxHeartbeats 4000000 in
theorem ok__law_allocation (T : Txt K mg) : FnOk P w K mg base CX0 2 T.a__law_allocation T.d__law_allocation ["_law_stream_here", "_law_variants", "_law_buckets"] (spD K cl0 6 3 f__law_allocation) := by
  have h : FnOk P w K mg base CX0 2 T.a__law_allocation T.d__law_allocation ["_law_stream_here", "_law_variants", "_law_buckets"] (spD K cl0 N__law_allocation.length (["_law_stream_here", "_law_variants", "_law_buckets"] : List Str).length (runDef [true, false, false] N__law_allocation.length b__law_allocation)) := by
    refine fn_d (ios := [true, false, false]) (body := b__law_allocation) T.F__law_allocation sc__law_allocation (by decide) (by decide) fun cdv A outer s H vs E hr => ?_
    show DSs _ _ (_ :: _) _
    exact (dss_cons (ds_setLc rfl sc__law_allocation.nd rfl rfl (sw_true rfl rfl rfl (by decide +kernel)) (di_range1 (by rfl) T.z_range (da_cons (de_var 1) da_nil)) (blkOk_by (own := [("_law_variant", 5)]) (N := N__law_allocation) (sc := defScope s__law_allocation) (by decide +kernel)) (fun _ _ _ _ _ => (dg_name 5 sc__law_allocation.nd rfl (by first | exact Or.inl rfl | exact Or.inr rfl) rfl)) (fun _ _ _ _ _ => dts_nil) (fun _ _ _ _ _ => de_int) (by decide) (ioAll rfl) rfl)
  (dss_cons (ds_for PassesOwn.never rfl (di_range1 (by rfl) T.z_range (da_cons (de_var 2) da_nil)) (dg_name 4 sc__law_allocation.nd rfl (by first | exact Or.inl rfl | exact Or.inr rfl) rfl) (dss_cons (ds_set (dm_d (de_frz (dm_call (ok__law_next T) (hr.mono (by decide)) (by rfl) T.g__law_next T.F__law_next.kp T.b__law_next (dav_s (pv 0) (dav_d (de_var 1) dav_nil))))) sc__law_allocation.nd rfl (Or.inl rfl) rfl)
    (dss_one (ds_setItem (de_op op_addAll o2_add (de_ixO (pv 3) (de_var 5) (fun _ _ => rfl)) de_int) (pv 3) (de_var 5)))))
  (dss_one (ds_ret (dm_d (de_tupO (by rfl) T.z_tuple bt_tuple (pv 3)))))))
  exact h
set_option maxHeartbeats 4000000 in
theorem ok__law_near (T : Txt K mg) : FnOk P w K mg base CX0 2 T.a__law_near T.d__law_near ["_law_stream_here", "_law_allocation_here"] (spD K cl0 6 2 f__law_near) := by
  have h : FnOk P w K mg base CX0 2 T.a__law_near T.d__law_near ["_law_stream_here", "_law_allocation_here"] (spD K cl0 N__law_near.length (["_law_stream_here", "_law_allocation_here"] : List Str).length (runDef [true, false] N__law_near.length b__law_near)) := by
    refine fn_d (ios := [true, false]) (body := b__law_near) T.F__law_near sc__law_near (by decide) (by decide) fun cdv A outer s H vs E hr => ?_
    show DSs _ _ (_ :: _) _
    exact (dss_cons (ds_set (dm_list (by rfl) T.z_list bt_list (da_cons (de_var 1) da_nil)) sc__law_near.nd rfl (Or.inl rfl) rfl)
  (dss_cons (ds_for PassesOwn.never rfl (di_range1 (by rfl) T.z_range (da_cons (de_frz (dm_call (ok__law_next T) (hr.mono (by decide)) (by rfl) T.g__law_next T.F__law_next.kp T.b__law_next (dav_s (pv 0) (dav_d de_int dav_nil)))) da_nil)) (dg_name 3 sc__law_near.nd rfl (by first | exact Or.inl rfl | exact Or.inr rfl) rfl) (dss_cons (ds_set (dm_d (de_frz (dm_call (ok__law_next T) (hr.mono (by decide)) (by rfl) T.g__law_next T.F__law_next.kp T.b__law_next (dav_s (pv 0) (dav_d (de_BO call_len ob_len (by rfl) T.z_len bt_len (pv 2)) dav_nil))))) sc__law_near.nd rfl (Or.inl rfl) rfl)
    (dss_cons (ds_set (dm_d (de_frz (dm_call (ok__law_next T) (hr.mono (by decide)) (by rfl) T.g__law_next T.F__law_next.kp T.b__law_next (dav_s (pv 0) (dav_d (de_BO call_len ob_len (by rfl) T.z_len bt_len (pv 2)) dav_nil))))) sc__law_near.nd rfl (Or.inl rfl) rfl)
    (dss_one (ds_if (dt_cmp op_gt o2_gt (de_ixO (pv 2) (de_var 4) (fun _ _ => rfl)) de_int (nomark _)) (dss_cons (ds_setItem (de_op op_sub o2_sub (de_ixO (pv 2) (de_var 4) (fun _ _ => rfl)) de_int) (pv 2) (de_var 4))
      (dss_one (ds_setItem (de_op op_addAll o2_add (de_ixO (pv 2) (de_var 5) (fun _ _ => rfl)) de_int) (pv 2) (de_var 5)))) dss_nil)))))
  (dss_one (ds_ret (dm_d (de_tupO (by rfl) T.z_tuple bt_tuple (pv 2)))))))
  exact h
set_option maxHeartbeats 4000000 in
theorem ok_is_series (T : Txt K mg) : FnOk P w K mg base CX0 3 T.a_is_series T.d_is_series ["value", "most"] (spD K cl0 4 2 f_is_series) := by
  have h : FnOk P w K mg base CX0 3 T.a_is_series T.d_is_series ["value", "most"] (spD K cl0 N_is_series.length (["value", "most"] : List Str).length (runDef [false, false] N_is_series.length b_is_series)) := by
    refine fn_d (ios := [false, false]) (body := b_is_series) T.F_is_series sc_is_series (by decide) (by decide) fun cdv A outer s H vs E hr => ?_
    show DSs _ _ (_ :: _) _
    exact (dss_cons (ds_if (dt_w (dw_or (dt_not (dt_truth (de_isi .tup (by rfl) T.z_isinstance bt_isinstance (de_var 0) (by rfl) T.z_tuple bt_tuple))) (dw_or (dt_not (dt_chain op_le o2_le op_le o2_le de_int (de_B call_len ob_len (by rfl) T.z_len bt_len (da_cons (de_var 0) da_nil)) (de_var 1))) (dw_or1 (dt_not (dt_truth (de_isi .tup (by rfl) T.z_isinstance bt_isinstance (de_ix (de_var 0) de_int (fun _ _ => rfl)) (by rfl) T.z_tuple bt_tuple))))))) (dss_one (ds_ret (dm_d de_bl))) dss_nil)
  (dss_cons (ds_if (dt_w (dw_or (dt_not (dt_chain op_le o2_le op_le o2_le de_int (de_B call_len ob_len (by rfl) T.z_len bt_len (da_cons (de_ix (de_var 0) de_int (fun _ _ => rfl)) da_nil)) (T.k_MOST_VARIANTS.de (by rfl)))) (dw_or1 (dt_not (dt_truth (de_B (cr_all rfl) ob_all (by rfl) T.z_all bt_all (da_cons (de_comp rfl sc_is_series.nd (di_seq (de_ix (de_var 0) de_int (fun _ _ => rfl))) (blkOk_by (own := [("one", 3)]) (N := N_is_series) (sc := defScope s_is_series) (by decide +kernel)) (fun _ _ _ _ _ => (dg_name 3 sc_is_series.nd rfl (by first | exact Or.inl rfl | exact Or.inr rfl) rfl)) (fun _ _ _ _ _ => dts_nil) (fun _ _ _ _ _ => (de_frz (dm_call (ok_is_between T) (hr.mono (by decide)) (by rfl) T.g_is_between T.F_is_between.kp T.b_is_between (dav_d (de_var 3) (dav_d de_int (dav_d (T.k_MOST_BUCKETS.de (by rfl)) dav_nil)))))) (by decide) (ioAll rfl)) da_nil))))))) (dss_one (ds_ret (dm_d de_bl))) dss_nil)
  (dss_cons (ds_set (dm_d (de_B (cr_sumAll rfl) ob_sum (by rfl) T.z_sum bt_sum (da_cons (de_ix (de_var 0) de_int (fun _ _ => rfl)) da_nil))) sc_is_series.nd rfl (Or.inr rfl) rfl)
  (dss_one (ds_ret (dm_d (de_and (de_cmp op_le o2_le (de_var 2) (T.k_MOST_BUCKETS.de (by rfl)) (nomark _)) (de_one (de_B (cr_all rfl) ob_all (by rfl) T.z_all bt_all (da_cons (de_comp rfl sc_is_series.nd (di_seq (de_var 0)) (blkOk_by (own := [("one", 3)]) (N := N_is_series) (sc := defScope s_is_series) (by decide +kernel)) (fun _ _ _ _ _ => (dg_name 3 sc_is_series.nd rfl (by first | exact Or.inl rfl | exact Or.inr rfl) rfl)) (fun _ _ _ _ _ => dts_nil) (fun _ _ _ _ _ => (de_frz (dm_call (ok_is_allocation T) (hr.mono (by decide)) (by rfl) T.g_is_allocation T.F_is_allocation.kp T.b_is_allocation (dav_d (de_var 3) (dav_d (de_B call_len ob_len (by rfl) T.z_len bt_len (da_cons (de_ix (de_var 0) de_int (fun _ _ => rfl)) da_nil)) (dav_d (de_var 2) dav_nil)))))) (by decide) (ioAll rfl)) da_nil))))))))))
  exact h
set_option maxHeartbeats 4000000 in
theorem ok_overdrawn_in (T : Txt K mg) : FnOk P w K mg base CX0 3 T.a_overdrawn_in T.d_overdrawn_in ["allocations"] (spD K cl0 3 1 f_overdrawn_in) := by
  have h : FnOk P w K mg base CX0 3 T.a_overdrawn_in T.d_overdrawn_in ["allocations"] (spD K cl0 N_overdrawn_in.length (["allocations"] : List Str).length (runDef [false] N_overdrawn_in.length b_overdrawn_in)) := by
    refine fn_d (ios := [false]) (body := b_overdrawn_in) T.F_overdrawn_in sc_overdrawn_in (by decide) (by decide) fun cdv A outer s H vs E hr => ?_
    show DSs _ _ (_ :: _) _
    exact (dss_cons (ds_for PassesOwn.never rfl (di_enum (by rfl) T.z_enumerate (da_cons (de_frz (dm_call (ok_decreases_of T) (hr.mono (by decide)) (by rfl) T.g_decreases_of T.F_decreases_of.kp T.b_decreases_of (dav_d (de_var 0) dav_nil))) da_nil)) (dg_tup rfl (dgs_cons (dg_name 1 sc_overdrawn_in.nd rfl (by first | exact Or.inl rfl | exact Or.inr rfl) rfl) (dgs_cons (dg_name 2 sc_overdrawn_in.nd rfl (by first | exact Or.inl rfl | exact Or.inr rfl) rfl) dgs_nil))) (dss_one (ds_if (dt_cmp op_gt o2_gt (de_var 2) (de_ix (de_ix (de_var 0) de_int (fun _ _ => rfl)) (de_var 1) (fun _ _ => rfl)) (nomark _)) (dss_one (ds_ret (dm_d (de_var 1)))) dss_nil)))
  (dss_one (ds_ret (dm_d de_non))))
  exact h
set_option maxHeartbeats 4000000 in
theorem ok__law_series (T : Txt K mg) : FnOk P w K mg base CX0 3 T.a__law_series T.d__law_series ["_law_stream_here", "_law_variants", "_law_buckets", "_law_many"] (spD K cl0 6 4 f__law_series) := by
  have h : FnOk P w K mg base CX0 3 T.a__law_series T.d__law_series ["_law_stream_here", "_law_variants", "_law_buckets", "_law_many"] (spD K cl0 N__law_series.length (["_law_stream_here", "_law_variants", "_law_buckets", "_law_many"] : List Str).length (runDef [true, false, false, false] N__law_series.length b__law_series)) := by
    refine fn_d (ios := [true, false, false, false]) (body := b__law_series) T.F__law_series sc__law_series (by decide) (by decide) fun cdv A outer s H vs E hr => ?_
    show DSs _ _ (_ :: _) _
    exact (dss_cons (ds_set (dm_lst (da_cons (de_frz (dm_call (ok__law_allocation T) (hr.mono (by decide)) (by rfl) T.g__law_allocation T.F__law_allocation.kp T.b__law_allocation (dav_s (pv 0) (dav_d (de_var 1) (dav_d (de_var 2) dav_nil))))) da_nil)) sc__law_series.nd rfl (Or.inl rfl) rfl)
  (dss_cons (ds_for PassesOwn.never rfl (di_range1 (by rfl) T.z_range (da_cons (de_op op_sub o2_sub (de_var 3) de_int) da_nil)) (dg_name 5 sc__law_series.nd rfl (by first | exact Or.inl rfl | exact Or.inr rfl) rfl) (dss_one (ds_if (dt_cmp (op_eqD hr.units) o2_eq (de_frz (dm_call (ok__law_next T) (hr.mono (by decide)) (by rfl) T.g__law_next T.F__law_next.kp T.b__law_next (dav_s (pv 0) (dav_d de_int dav_nil)))) de_int (nomark _)) (dss_one (ds_expr (dm_d (de_mt md_app PySem.F.slot_list_append PySem.F.type_list_append mt_append (pv 4) (da_cons (de_frz (dm_call (ok__law_near T) (hr.mono (by decide)) (by rfl) T.g__law_near T.F__law_near.kp T.b__law_near (dav_s (pv 0) (dav_d (de_ixO (pv 4) (de_frz (dm_call (ok__law_next T) (hr.mono (by decide)) (by rfl) T.g__law_next T.F__law_next.kp T.b__law_next (dav_s (pv 0) (dav_d (de_BO call_len ob_len (by rfl) T.z_len bt_len (pv 4)) dav_nil)))) (fun _ _ => rfl)) dav_nil)))) da_nil))))) (dss_one (ds_expr (dm_d (de_mt md_app PySem.F.slot_list_append PySem.F.type_list_append mt_append (pv 4) (da_cons (de_frz (dm_call (ok__law_allocation T) (hr.mono (by decide)) (by rfl) T.g__law_allocation T.F__law_allocation.kp T.b__law_allocation (dav_s (pv 0) (dav_d (de_var 1) (dav_d (de_var 2) dav_nil))))) da_nil))))))))
  (dss_one (ds_ret (dm_d (de_tupO (by rfl) T.z_tuple bt_tuple (pv 4)))))))
  exact h
set_option maxHeartbeats 4000000 in
theorem ok_check_series (T : Txt K mg) : FnOk P w K mg base CX0 4 T.a_check_series T.d_check_series ["allocations", "most"] (spD K cl0 2 2 f_check_series) := by
  have h : FnOk P w K mg base CX0 4 T.a_check_series T.d_check_series ["allocations", "most"] (spD K cl0 N_check_series.length (["allocations", "most"] : List Str).length (runDef [false, false] N_check_series.length b_check_series)) := by
    refine fn_d (ios := [false, false]) (body := b_check_series) T.F_check_series sc_check_series (by decide) (by decide) fun cdv A outer s H vs E hr => ?_
    show DSs _ _ (_ :: _) _
    exact (dss_one (ds_if (dt_not (dt_truth (de_frz (dm_call (ok_is_series T) (hr.mono (by decide)) (by rfl) T.g_is_series T.F_is_series.kp T.b_is_series (dav_d (de_var 0) (dav_d (de_var 1) dav_nil)))))) (dss_one ds_never) dss_nil))
  exact h
set_option maxHeartbeats 4000000 in
theorem ok__law_small_series (T : Txt K mg) : FnOk P w K mg base CX0 4 T.a__law_small_series T.d__law_small_series ["_law_stream_here"] (spD K cl0 4 1 f__law_small_series) := by
  have h : FnOk P w K mg base CX0 4 T.a__law_small_series T.d__law_small_series ["_law_stream_here"] (spD K cl0 N__law_small_series.length (["_law_stream_here"] : List Str).length (runDef [true] N__law_small_series.length b__law_small_series)) := by
    refine fn_d (ios := [true]) (body := b__law_small_series) T.F__law_small_series sc__law_small_series (by decide) (by decide) fun cdv A outer s H vs E hr => ?_
    show DSs _ _ (_ :: _) _
    exact (dss_cons (ds_set (dm_d (de_op op_addAll o2_add de_int (de_frz (dm_call (ok__law_next T) (hr.mono (by decide)) (by rfl) T.g__law_next T.F__law_next.kp T.b__law_next (dav_s (pv 0) (dav_d de_int dav_nil)))))) sc__law_small_series.nd rfl (Or.inl rfl) rfl)
  (dss_cons (ds_asg (de_ix (de_lst (da_cons (de_tup (da_cons de_int (da_cons de_int da_nil))) (da_cons (de_tup (da_cons de_int (da_cons de_int da_nil))) (da_cons (de_tup (da_cons de_int (da_cons de_int da_nil))) (da_cons (de_tup (da_cons de_int (da_cons de_int da_nil))) (da_cons (de_tup (da_cons de_int (da_cons de_int da_nil))) (da_cons (de_tup (da_cons de_int (da_cons de_int da_nil))) (da_cons (de_tup (da_cons de_int (da_cons de_int da_nil))) (da_cons (de_tup (da_cons de_int (da_cons de_int da_nil))) da_nil))))))))) (de_frz (dm_call (ok__law_next T) (hr.mono (by decide)) (by rfl) T.g__law_next T.F__law_next.kp T.b__law_next (dav_s (pv 0) (dav_d de_int dav_nil)))) (fun _ _ => rfl)) (dg_tup rfl (dgs_cons (dg_name 2 sc__law_small_series.nd rfl (by first | exact Or.inl rfl | exact Or.inr rfl) rfl) (dgs_cons (dg_name 3 sc__law_small_series.nd rfl (by first | exact Or.inl rfl | exact Or.inr rfl) rfl) dgs_nil))))
  (dss_one (ds_ret (dm_d (de_frz (dm_call (ok__law_series T) (hr.mono (by decide)) (by rfl) T.g__law_series T.F__law_series.kp T.b__law_series (dav_s (pv 0) (dav_d (de_var 1) (dav_d (de_var 2) (dav_d (de_op op_addAll o2_add de_int (de_frz (dm_call (ok__law_next T) (hr.mono (by decide)) (by rfl) T.g__law_next T.F__law_next.kp T.b__law_next (dav_s (pv 0) (dav_d (de_var 3) dav_nil))))) dav_nil)))))))))))
  exact h
set_option maxHeartbeats 4000000 in
theorem ok_overdrawn (T : Txt K mg) : FnOk P w K mg base CX0 5 T.a_overdrawn T.d_overdrawn ["allocations"] (spD K cl0 1 1 f_overdrawn) := by
  have h : FnOk P w K mg base CX0 5 T.a_overdrawn T.d_overdrawn ["allocations"] (spD K cl0 N_overdrawn.length (["allocations"] : List Str).length (runDef [false] N_overdrawn.length b_overdrawn)) := by
    refine fn_d (ios := [false]) (body := b_overdrawn) T.F_overdrawn sc_overdrawn (by decide) (by decide) fun cdv A outer s H vs E hr => ?_
    show DSs _ _ (_ :: _) _
    exact (dss_cons (ds_expr (dm_call (ok_check_series T) (hr.mono (by decide)) (by rfl) T.g_check_series T.F_check_series.kp T.b_check_series (dav_d (de_var 0) (dav_d (T.k_MOST_ALLOCATIONS.de (by rfl)) dav_nil))))
  (dss_one (ds_ret (dm_d (de_frz (dm_call (ok_overdrawn_in T) (hr.mono (by decide)) (by rfl) T.g_overdrawn_in T.F_overdrawn_in.kp T.b_overdrawn_in (dav_d (de_var 0) dav_nil)))))))
  exact h
set_option maxHeartbeats 4000000 in
theorem ok_calm_history (T : Txt K mg) : FnOk P w K mg base CX0 5 T.a_calm_history T.d_calm_history ["allocations"] (spD K cl0 6 1 (f_calm_history (cMT T))) := by
  have h : FnOk P w K mg base CX0 5 T.a_calm_history T.d_calm_history ["allocations"] (spD K cl0 N_calm_history.length (["allocations"] : List Str).length (runDef [false] N_calm_history.length (b_calm_history (cMT T)))) := by
    refine fn_d (ios := [false]) (body := (b_calm_history (cMT T))) T.F_calm_history sc_calm_history (by decide) (by decide) fun cdv A outer s H vs E hr => ?_
    show DSs _ _ (_ :: _) _
    exact (dss_cons (ds_expr (dm_call (ok_check_series T) (hr.mono (by decide)) (by rfl) T.g_check_series T.F_check_series.kp T.b_check_series (dav_d (de_var 0) (dav_d (T.k_MOST_ALLOCATIONS.de (by rfl)) dav_nil))))
  (dss_cons (ds_if (dt_cmp op_isNotAll o2_isNot (de_frz (dm_call (ok_overdrawn_in T) (hr.mono (by decide)) (by rfl) T.g_overdrawn_in T.F_overdrawn_in.kp T.b_overdrawn_in (dav_d (de_var 0) dav_nil))) de_non (nomark _)) (dss_one (ds_ret (dm_d de_non))) dss_nil)
  (dss_cons (ds_set (dm_lst (da_cons (de_frz (dm_call (ok_sorted_assignment T) (hr.mono (by decide)) (by rfl) T.g_sorted_assignment T.F_sorted_assignment.kp T.b_sorted_assignment (dav_d (de_ix (de_var 0) de_int (fun _ _ => rfl)) dav_nil))) da_nil)) sc_calm_history.nd rfl (Or.inl rfl) rfl)
  (dss_cons (ds_for PassesOwn.never rfl (di_seq (de_frz (dm_call (ok_steps_of T) (hr.mono (by decide)) (by rfl) T.g_steps_of T.F_steps_of.kp T.b_steps_of (dav_d (de_var 0) dav_nil)))) (dg_tup rfl (dgs_cons (dg_name 2 sc_calm_history.nd rfl (by first | exact Or.inl rfl | exact Or.inr rfl) rfl) (dgs_cons (dg_name 3 sc_calm_history.nd rfl (by first | exact Or.inl rfl | exact Or.inr rfl) rfl) dgs_nil))) (dss_cons (ds_setLcN rfl sc_calm_history.nd rfl rfl (sw_true rfl rfl rfl (by decide +kernel)) (di_seq (de_frz (dm_call (ok_changes_in T) (hr.mono (by decide)) (by rfl) T.g_changes_in T.F_changes_in.kp T.b_changes_in (dav_d (de_var 1) dav_nil)))) (blkOk_by (own := [("many", 5)]) (N := N_calm_history) (sc := defScope s_calm_history) (by decide +kernel)) (fun _ _ _ _ _ => (dg_name 5 sc_calm_history.nd rfl (by first | exact Or.inl rfl | exact Or.inr rfl) rfl)) (fun _ _ _ _ _ => dts_nil) (fun _ _ _ _ _ => (de_cmp (op_eqD hr.units) o2_eq (de_var 5) de_int (nomark _))) (by decide) (ioAll rfl) rfl)
    (dss_one (ds_expr (dm_d (de_mt md_app PySem.F.slot_list_append PySem.F.type_list_append mt_append (pv 1) (da_cons (de_frz (dm_call (ok_calm_change T) (hr.mono (by decide)) (by rfl) T.g_calm_change T.F_calm_change.kp T.b_calm_change (dav_d (de_var 2) (dav_d (de_var 3) (dav_d (de_ixO (pv 1) (de_neg de_int) (fun _ _ => rfl)) (dav_d (de_var 4) dav_nil)))))) da_nil)))))))
  (dss_one (ds_ret (dm_d (de_tupO (by rfl) T.z_tuple bt_tuple (pv 1)))))))))
  exact h
set_option maxHeartbeats 4000000 in
theorem ok_law (T : Txt K mg) : FnOk P w K mg base CX0 10 T.a_law T.d_law ["_law_script"] (spD K cl0 11 1 (f_law (cMT T))) := by
  have h : FnOk P w K mg base CX0 10 T.a_law T.d_law ["_law_script"] (spD K cl0 N_law.length (["_law_script"] : List Str).length (runDef [true] N_law.length (b_law (cMT T)))) := by
    refine fn_d (ios := [true]) (body := (b_law (cMT T))) T.F_law sc_law (by decide) (by decide) fun cdv A outer s H vs E hr => ?_
    show DSs _ _ (_ :: _) _
    exact (dss_cons (ds_set (dm_call (ok__law_stream T) (hr.mono (by decide)) (by rfl) T.g__law_stream T.F__law_stream.kp T.b__law_stream (dav_s (pv 0) dav_nil)) sc_law.nd rfl (Or.inl rfl) rfl)
  (dss_cons (ds_set (dm_d (de_frz (dm_call (ok__law_small_series T) (hr.mono (by decide)) (by rfl) T.g__law_small_series T.F__law_small_series.kp T.b__law_small_series (dav_s (pv 1) dav_nil)))) sc_law.nd rfl (Or.inl rfl) rfl)
  (dss_cons (ds_set (dm_d (de_lst (da_cons (de_tup (da_cons (de_frz (dm_call (ok__law_sorted T) (hr.mono (by decide)) (by rfl) T.g__law_sorted T.F__law_sorted.kp T.b__law_sorted (dav_d (de_ix (de_var 2) de_int (fun _ _ => rfl)) dav_nil))) da_nil)) da_nil))) sc_law.nd rfl (Or.inl rfl) rfl)
  (dss_cons (ds_for PassesOwn.never rfl (di_range1 (by rfl) T.z_range (da_cons (de_op op_sub o2_sub (de_B call_len ob_len (by rfl) T.z_len bt_len (da_cons (de_var 2) da_nil)) de_int) da_nil)) (dg_name 4 sc_law.nd rfl (by first | exact Or.inl rfl | exact Or.inr rfl) rfl) (dss_cons (ds_set (dm_d (de_frz (dm_call (ok__law_transfer T) (hr.mono (by decide)) (by rfl) T.g__law_transfer T.F__law_transfer.kp T.b__law_transfer (dav_d (de_ix (de_var 2) (de_var 4) (fun _ _ => rfl)) (dav_d (de_ix (de_var 2) (de_op op_addAll o2_add (de_var 4) de_int) (fun _ _ => rfl)) dav_nil))))) sc_law.nd rfl (Or.inl rfl) rfl)
    (dss_cons (ds_set (dm_d (de_frz (dm_call (ok__law_assignments T) (hr.mono (by decide)) (by rfl) T.g__law_assignments T.F__law_assignments.kp T.b__law_assignments (dav_d (de_ix (de_var 2) (de_op op_addAll o2_add (de_var 4) de_int) (fun _ _ => rfl)) dav_nil)))) sc_law.nd rfl (Or.inl rfl) rfl)
    (dss_cons (ds_set (dm_lst da_nil) sc_law.nd rfl (Or.inl rfl) rfl)
    (dss_cons (ds_for PassesOwn.never rfl (di_seq (de_var 3)) (dg_name 9 sc_law.nd rfl (by first | exact Or.inl rfl | exact Or.inr rfl) rfl) (dss_one (ds_for PassesOwn.never rfl (di_seq (de_var 7)) (dg_name 10 sc_law.nd rfl (by first | exact Or.inl rfl | exact Or.inr rfl) rfl) (dss_one (ds_if (dt_w (dw_and (dt_cmp (op_eqD hr.units) o2_eq (de_frz (dm_call (ok__law_churn T) (hr.mono (by decide)) (by rfl) T.g__law_churn T.F__law_churn.kp T.b__law_churn (dav_d (de_ix (de_var 9) (de_neg de_int) (fun _ _ => rfl)) (dav_d (de_var 10) dav_nil)))) (de_var 6) (nomark _)) (dw_and1 (dt_cmp (op_ltA (hu65 hr)) o2_lt (de_B (cr_maxT rfl (hu65 hr)) ob_maxT (by rfl) T.z_max bt_max (da_cons (de_op op_addAll o2_add (de_frz (dm_call (ok__law_changes T) (hr.mono (by decide)) (by rfl) T.g__law_changes T.F__law_changes.kp T.b__law_changes (dav_d (de_op op_addAll o2_add (de_var 9) (de_tup (da_cons (de_var 10) da_nil))) dav_nil))) (de_tup (da_cons de_int da_nil))) da_nil)) de_int (nomark _))))) (dss_one (ds_expr (dm_d (de_mt md_app PySem.F.slot_list_append PySem.F.type_list_append mt_append (pv 8) (da_cons (de_op op_addAll o2_add (de_var 9) (de_tup (da_cons (de_var 10) da_nil))) da_nil))))) dss_nil)))))
    (dss_one (ds_set (dm_d (de_varF 8)) sc_law.nd rfl (Or.inl rfl) rfl)))))))
  (dss_cons (ds_set (dm_d (de_frz (dm_call (ok_calm_history T) (hr.mono (by decide)) (by rfl) T.g_calm_history T.F_calm_history.kp T.b_calm_history (dav_d (de_var 2) dav_nil)))) sc_law.nd rfl (Or.inl rfl) rfl)
  (dss_cons (ds_set (dm_d de_non) sc_law.nd rfl (Or.inl rfl) rfl)
  (dss_cons (ds_if (dt_truth (de_var 3)) (dss_one (ds_set (dm_d (de_B (cr_minD rfl (hu65 hr)) ob_minN (by rfl) T.z_min bt_min (da_cons (de_var 3) da_nil))) sc_law.nd rfl (Or.inl rfl) rfl)) dss_nil)
  (dss_one (ds_ret (dm_d (de_and (de_frz (dm_call (ok__law_equal T) (hr.mono (by decide)) (by rfl) T.g__law_equal T.F__law_equal.kp T.b__law_equal (dav_d (de_var 5) (dav_d (de_var 6) dav_nil)))) (de_one (de_cmp (op_eqD hr.units) o2_eq (de_cmp op_isAll o2_is (de_var 5) de_non (nomark _)) (de_cmp op_isNotAll o2_isNot (de_frz (dm_call (ok_overdrawn T) (hr.mono (by decide)) (by rfl) T.g_overdrawn T.F_overdrawn.kp T.b_overdrawn (dav_d (de_var 2) dav_nil))) de_non (nomark _)) (nomark _))))))))))))))
  exact h
end
set_option maxHeartbeats 4000000 in
theorem all_mk {l : PySem.W.OpenLaw} {w : World} {K : PySem.W.Frag} {h : Heap} {mg : Str → Option Value} {fa : Addr} (X : K.In h) (G : h.Ns mainGlobals mg) (hfa : mg "law" = some (.ref fa))
    {CM_Step : Addr}
    {f0 : Addr} {od0 an0 : Option Addr} {sl0 : Array (Option Value)} {oc0 kV0 dc0 pm0 cd0 ct0 : Value}
    {f1 : Addr} {od1 an1 : Option Addr} {sl1 : Array (Option Value)} {oc1 kV1 dc1 pm1 cd1 ct1 : Value}
    {f2 : Addr} {od2 an2 : Option Addr} {sl2 : Array (Option Value)} {oc2 kV2 dc2 pm2 cd2 ct2 : Value}
    {f3 : Addr} {od3 an3 : Option Addr} {sl3 : Array (Option Value)} {oc3 kV3 dc3 pm3 cd3 ct3 : Value}
    {f4 : Addr} {od4 an4 : Option Addr} {sl4 : Array (Option Value)} {oc4 kV4 dc4 pm4 cd4 ct4 : Value}
    {f5 : Addr} {od5 an5 : Option Addr} {sl5 : Array (Option Value)} {oc5 kV5 dc5 pm5 cd5 ct5 : Value}
    {f6 : Addr} {od6 an6 : Option Addr} {sl6 : Array (Option Value)} {oc6 kV6 dc6 pm6 cd6 ct6 : Value}
    {f7 : Addr} {od7 an7 : Option Addr} {sl7 : Array (Option Value)} {oc7 kV7 dc7 pm7 cd7 ct7 : Value}
    {f8 : Addr} {od8 an8 : Option Addr} {sl8 : Array (Option Value)} {oc8 kV8 dc8 pm8 cd8 ct8 : Value}
    {f9 : Addr} {od9 an9 : Option Addr} {sl9 : Array (Option Value)} {oc9 kV9 dc9 pm9 cd9 ct9 : Value}
    {f10 : Addr} {od10 an10 : Option Addr} {sl10 : Array (Option Value)} {oc10 kV10 dc10 pm10 cd10 ct10 : Value}
    {f11 : Addr} {od11 an11 : Option Addr} {sl11 : Array (Option Value)} {oc11 kV11 dc11 pm11 cd11 ct11 : Value}
    {f12 : Addr} {od12 an12 : Option Addr} {sl12 : Array (Option Value)} {oc12 kV12 dc12 pm12 cd12 ct12 : Value}
    {f13 : Addr} {od13 an13 : Option Addr} {sl13 : Array (Option Value)} {oc13 kV13 dc13 pm13 cd13 ct13 : Value}
    {f14 : Addr} {od14 an14 : Option Addr} {sl14 : Array (Option Value)} {oc14 kV14 dc14 pm14 cd14 ct14 : Value}
    {f15 : Addr} {od15 an15 : Option Addr} {sl15 : Array (Option Value)} {oc15 kV15 dc15 pm15 cd15 ct15 : Value}
    {f16 : Addr} {od16 an16 : Option Addr} {sl16 : Array (Option Value)} {oc16 kV16 dc16 pm16 cd16 ct16 : Value}
    {f17 : Addr} {od17 an17 : Option Addr} {sl17 : Array (Option Value)} {oc17 kV17 dc17 pm17 cd17 ct17 : Value}
    {f18 : Addr} {od18 an18 : Option Addr} {sl18 : Array (Option Value)} {oc18 kV18 dc18 pm18 cd18 ct18 : Value}
    {f19 : Addr} {od19 an19 : Option Addr} {sl19 : Array (Option Value)} {oc19 kV19 dc19 pm19 cd19 ct19 : Value}
    {f20 : Addr} {od20 an20 : Option Addr} {sl20 : Array (Option Value)} {oc20 kV20 dc20 pm20 cd20 ct20 : Value}
    {f21 : Addr} {od21 an21 : Option Addr} {sl21 : Array (Option Value)} {oc21 kV21 dc21 pm21 cd21 ct21 : Value}
    {f22 : Addr} {od22 an22 : Option Addr} {sl22 : Array (Option Value)} {oc22 kV22 dc22 pm22 cd22 ct22 : Value}
    {f23 : Addr} {od23 an23 : Option Addr} {sl23 : Array (Option Value)} {oc23 kV23 dc23 pm23 cd23 ct23 : Value}
    {f24 : Addr} {od24 an24 : Option Addr} {sl24 : Array (Option Value)} {oc24 kV24 dc24 pm24 cd24 ct24 : Value}
    {f25 : Addr} {od25 an25 : Option Addr} {sl25 : Array (Option Value)} {oc25 kV25 dc25 pm25 cd25 ct25 : Value}
    {f26 : Addr} {od26 an26 : Option Addr} {sl26 : Array (Option Value)} {oc26 kV26 dc26 pm26 cd26 ct26 : Value}
    {f27 : Addr} {od27 an27 : Option Addr} {sl27 : Array (Option Value)} {oc27 kV27 dc27 pm27 cd27 ct27 : Value}
    {f28 : Addr} {od28 an28 : Option Addr} {sl28 : Array (Option Value)} {oc28 kV28 dc28 pm28 cd28 ct28 : Value}
    {f29 : Addr} {od29 an29 : Option Addr} {sl29 : Array (Option Value)} {oc29 kV29 dc29 pm29 cd29 ct29 : Value}
    {kt_MOST_ALLOCATIONS : Tok}
    {kt_MOST_BUCKETS : Tok}
    {kt_MOST_VARIANTS : Tok}
    (aM_Step : PySem.W.nsIn K mainGlobals "Step" = some (some (.ref CM_Step))) (pgM_Step : PySem.W.plainGet K CM_Step Str.empty = true) (hdM_Step : PySem.W.hasDictIn K CM_Step = true) (poM_Step : PySem.W.plainOver K CM_Step = true) (saM_Step : PySem.W.findIn K (.ref CM_Step) "__setattr__" = some (some (.builtin "object.__setattr__"))) (mkM_Step : PySem.W.makesIn K CM_Step = true) (kpM_Step : PySem.W.keepIn K (.ref CM_Step) = true)
    (nM_Step_0 : PySem.W.findIn K (.ref CM_Step) "leaving" = some none)
    (nM_Step_1 : PySem.W.findIn K (.ref CM_Step) "entering" = some none)
    (nM_Step_2 : PySem.W.findIn K (.ref CM_Step) "assignment" = some none)
    (nM_Step_3 : PySem.W.findIn K (.ref CM_Step) "free" = some none)
    (nM_Step_4 : PySem.W.findIn K (.ref CM_Step) "waiting" = some none)
    (a0 : PySem.W.nsIn K mainGlobals "is_whole" = some (some (.ref f0))) (l0 : K.lookup f0 = some ⟨oc0, od0, .func (PySem.W.fnOf "is_whole" "is_whole" (defArgs s_is_whole) (defBody s_is_whole) (defScope s_is_whole) .none kV0 dc0 pm0 an0 cd0 ct0), sl0⟩) (c0 : PySem.W.codeIn K cd0 "is_whole" = true) (k0 : PySem.W.keepIn K (.ref f0) = true)
    (a1 : PySem.W.nsIn K mainGlobals "steps_of" = some (some (.ref f1))) (l1 : K.lookup f1 = some ⟨oc1, od1, .func (PySem.W.fnOf "steps_of" "steps_of" (defArgs s_steps_of) (defBody s_steps_of) (defScope s_steps_of) .none kV1 dc1 pm1 an1 cd1 ct1), sl1⟩) (c1 : PySem.W.codeIn K cd1 "steps_of" = true) (k1 : PySem.W.keepIn K (.ref f1) = true)
    (a2 : PySem.W.nsIn K mainGlobals "sorted_assignment" = some (some (.ref f2))) (l2 : K.lookup f2 = some ⟨oc2, od2, .func (PySem.W.fnOf "sorted_assignment" "sorted_assignment" (defArgs s_sorted_assignment) (defBody s_sorted_assignment) (defScope s_sorted_assignment) .none kV2 dc2 pm2 an2 cd2 ct2), sl2⟩) (c2 : PySem.W.codeIn K cd2 "sorted_assignment" = true) (k2 : PySem.W.keepIn K (.ref f2) = true)
    (a3 : PySem.W.nsIn K mainGlobals "changes_in" = some (some (.ref f3))) (l3 : K.lookup f3 = some ⟨oc3, od3, .func (PySem.W.fnOf "changes_in" "changes_in" (defArgs s_changes_in) (defBody s_changes_in) (defScope s_changes_in) .none kV3 dc3 pm3 an3 cd3 ct3), sl3⟩) (c3 : PySem.W.codeIn K cd3 "changes_in" = true) (k3 : PySem.W.keepIn K (.ref f3) = true)
    (a4 : PySem.W.findIn K (.ref CM_Step) "__init__" = some (some (.ref f4))) (l4 : K.lookup f4 = some ⟨oc4, od4, .func (PySem.W.fnOf "__init__" "Step.__init__" (defArgs s_Step_init) (defBody s_Step_init) (defScope s_Step_init) .none kV4 dc4 pm4 an4 cd4 ct4), sl4⟩) (c4 : PySem.W.codeIn K cd4 "Step.__init__" = true) (k4 : PySem.W.keepIn K (.ref f4) = true) (i4 : PySem.W.isFn K (.ref f4) = true)
    (a5 : PySem.W.findIn K (.ref CM_Step) "options" = some (some (.ref f5))) (l5 : K.lookup f5 = some ⟨oc5, od5, .func (PySem.W.fnOf "options" "Step.options" (defArgs s_Step_options) (defBody s_Step_options) (defScope s_Step_options) .none kV5 dc5 pm5 an5 cd5 ct5), sl5⟩) (c5 : PySem.W.codeIn K cd5 "Step.options" = true) (k5 : PySem.W.keepIn K (.ref f5) = true) (i5 : PySem.W.isFn K (.ref f5) = true)
    (a6 : PySem.W.findIn K (.ref CM_Step) "take" = some (some (.ref f6))) (l6 : K.lookup f6 = some ⟨oc6, od6, .func (PySem.W.fnOf "take" "Step.take" (defArgs s_Step_take) (defBody s_Step_take) (defScope s_Step_take) .none kV6 dc6 pm6 an6 cd6 ct6), sl6⟩) (c6 : PySem.W.codeIn K cd6 "Step.take" = true) (k6 : PySem.W.keepIn K (.ref f6) = true) (i6 : PySem.W.isFn K (.ref f6) = true)
    (a7 : PySem.W.nsIn K mainGlobals "_law_stream" = some (some (.ref f7))) (l7 : K.lookup f7 = some ⟨oc7, od7, .func (PySem.W.fnOf "_law_stream" "_law_stream" (defArgs s__law_stream) (defBody s__law_stream) (defScope s__law_stream) .none kV7 dc7 pm7 an7 cd7 ct7), sl7⟩) (c7 : PySem.W.codeIn K cd7 "_law_stream" = true) (k7 : PySem.W.keepIn K (.ref f7) = true)
    (a8 : PySem.W.nsIn K mainGlobals "_law_next" = some (some (.ref f8))) (l8 : K.lookup f8 = some ⟨oc8, od8, .func (PySem.W.fnOf "_law_next" "_law_next" (defArgs s__law_next) (defBody s__law_next) (defScope s__law_next) .none kV8 dc8 pm8 an8 cd8 ct8), sl8⟩) (c8 : PySem.W.codeIn K cd8 "_law_next" = true) (k8 : PySem.W.keepIn K (.ref f8) = true)
    (a9 : PySem.W.nsIn K mainGlobals "_law_is_integer" = some (some (.ref f9))) (l9 : K.lookup f9 = some ⟨oc9, od9, .func (PySem.W.fnOf "_law_is_integer" "_law_is_integer" (defArgs s__law_is_integer) (defBody s__law_is_integer) (defScope s__law_is_integer) .none kV9 dc9 pm9 an9 cd9 ct9), sl9⟩) (c9 : PySem.W.codeIn K cd9 "_law_is_integer" = true) (k9 : PySem.W.keepIn K (.ref f9) = true)
    (a10 : PySem.W.nsIn K mainGlobals "_law_sorted" = some (some (.ref f10))) (l10 : K.lookup f10 = some ⟨oc10, od10, .func (PySem.W.fnOf "_law_sorted" "_law_sorted" (defArgs s__law_sorted) (defBody s__law_sorted) (defScope s__law_sorted) .none kV10 dc10 pm10 an10 cd10 ct10), sl10⟩) (c10 : PySem.W.codeIn K cd10 "_law_sorted" = true) (k10 : PySem.W.keepIn K (.ref f10) = true)
    (a11 : PySem.W.nsIn K mainGlobals "_law_assignments" = some (some (.ref f11))) (l11 : K.lookup f11 = some ⟨oc11, od11, .func (PySem.W.fnOf "_law_assignments" "_law_assignments" (defArgs s__law_assignments) (defBody s__law_assignments) (defScope s__law_assignments) .none kV11 dc11 pm11 an11 cd11 ct11), sl11⟩) (c11 : PySem.W.codeIn K cd11 "_law_assignments" = true) (k11 : PySem.W.keepIn K (.ref f11) = true)
    (a12 : PySem.W.nsIn K mainGlobals "_law_transfer" = some (some (.ref f12))) (l12 : K.lookup f12 = some ⟨oc12, od12, .func (PySem.W.fnOf "_law_transfer" "_law_transfer" (defArgs s__law_transfer) (defBody s__law_transfer) (defScope s__law_transfer) .none kV12 dc12 pm12 an12 cd12 ct12), sl12⟩) (c12 : PySem.W.codeIn K cd12 "_law_transfer" = true) (k12 : PySem.W.keepIn K (.ref f12) = true)
    (a13 : PySem.W.nsIn K mainGlobals "_law_churn" = some (some (.ref f13))) (l13 : K.lookup f13 = some ⟨oc13, od13, .func (PySem.W.fnOf "_law_churn" "_law_churn" (defArgs s__law_churn) (defBody s__law_churn) (defScope s__law_churn) .none kV13 dc13 pm13 an13 cd13 ct13), sl13⟩) (c13 : PySem.W.codeIn K cd13 "_law_churn" = true) (k13 : PySem.W.keepIn K (.ref f13) = true)
    (a14 : PySem.W.nsIn K mainGlobals "_law_changes" = some (some (.ref f14))) (l14 : K.lookup f14 = some ⟨oc14, od14, .func (PySem.W.fnOf "_law_changes" "_law_changes" (defArgs s__law_changes) (defBody s__law_changes) (defScope s__law_changes) .none kV14 dc14 pm14 an14 cd14 ct14), sl14⟩) (c14 : PySem.W.codeIn K cd14 "_law_changes" = true) (k14 : PySem.W.keepIn K (.ref f14) = true)
    (a15 : PySem.W.nsIn K mainGlobals "is_between" = some (some (.ref f15))) (l15 : K.lookup f15 = some ⟨oc15, od15, .func (PySem.W.fnOf "is_between" "is_between" (defArgs s_is_between) (defBody s_is_between) (defScope s_is_between) .none kV15 dc15 pm15 an15 cd15 ct15), sl15⟩) (c15 : PySem.W.codeIn K cd15 "is_between" = true) (k15 : PySem.W.keepIn K (.ref f15) = true)
    (a16 : PySem.W.nsIn K mainGlobals "is_allocation" = some (some (.ref f16))) (l16 : K.lookup f16 = some ⟨oc16, od16, .func (PySem.W.fnOf "is_allocation" "is_allocation" (defArgs s_is_allocation) (defBody s_is_allocation) (defScope s_is_allocation) .none kV16 dc16 pm16 an16 cd16 ct16), sl16⟩) (c16 : PySem.W.codeIn K cd16 "is_allocation" = true) (k16 : PySem.W.keepIn K (.ref f16) = true)
    (a17 : PySem.W.nsIn K mainGlobals "decreases_of" = some (some (.ref f17))) (l17 : K.lookup f17 = some ⟨oc17, od17, .func (PySem.W.fnOf "decreases_of" "decreases_of" (defArgs s_decreases_of) (defBody s_decreases_of) (defScope s_decreases_of) .none kV17 dc17 pm17 an17 cd17 ct17), sl17⟩) (c17 : PySem.W.codeIn K cd17 "decreases_of" = true) (k17 : PySem.W.keepIn K (.ref f17) = true)
    (a18 : PySem.W.nsIn K mainGlobals "calm_change" = some (some (.ref f18))) (l18 : K.lookup f18 = some ⟨oc18, od18, .func (PySem.W.fnOf "calm_change" "calm_change" (defArgs s_calm_change) (defBody s_calm_change) (defScope s_calm_change) .none kV18 dc18 pm18 an18 cd18 ct18), sl18⟩) (c18 : PySem.W.codeIn K cd18 "calm_change" = true) (k18 : PySem.W.keepIn K (.ref f18) = true)
    (a19 : PySem.W.nsIn K mainGlobals "_law_equal" = some (some (.ref f19))) (l19 : K.lookup f19 = some ⟨oc19, od19, .func (PySem.W.fnOf "_law_equal" "_law_equal" (defArgs s__law_equal) (defBody s__law_equal) (defScope s__law_equal) .none kV19 dc19 pm19 an19 cd19 ct19), sl19⟩) (c19 : PySem.W.codeIn K cd19 "_law_equal" = true) (k19 : PySem.W.keepIn K (.ref f19) = true)
    (a20 : PySem.W.nsIn K mainGlobals "_law_allocation" = some (some (.ref f20))) (l20 : K.lookup f20 = some ⟨oc20, od20, .func (PySem.W.fnOf "_law_allocation" "_law_allocation" (defArgs s__law_allocation) (defBody s__law_allocation) (defScope s__law_allocation) .none kV20 dc20 pm20 an20 cd20 ct20), sl20⟩) (c20 : PySem.W.codeIn K cd20 "_law_allocation" = true) (k20 : PySem.W.keepIn K (.ref f20) = true)
    (a21 : PySem.W.nsIn K mainGlobals "_law_near" = some (some (.ref f21))) (l21 : K.lookup f21 = some ⟨oc21, od21, .func (PySem.W.fnOf "_law_near" "_law_near" (defArgs s__law_near) (defBody s__law_near) (defScope s__law_near) .none kV21 dc21 pm21 an21 cd21 ct21), sl21⟩) (c21 : PySem.W.codeIn K cd21 "_law_near" = true) (k21 : PySem.W.keepIn K (.ref f21) = true)
    (a22 : PySem.W.nsIn K mainGlobals "is_series" = some (some (.ref f22))) (l22 : K.lookup f22 = some ⟨oc22, od22, .func (PySem.W.fnOf "is_series" "is_series" (defArgs s_is_series) (defBody s_is_series) (defScope s_is_series) .none kV22 dc22 pm22 an22 cd22 ct22), sl22⟩) (c22 : PySem.W.codeIn K cd22 "is_series" = true) (k22 : PySem.W.keepIn K (.ref f22) = true)
    (a23 : PySem.W.nsIn K mainGlobals "overdrawn_in" = some (some (.ref f23))) (l23 : K.lookup f23 = some ⟨oc23, od23, .func (PySem.W.fnOf "overdrawn_in" "overdrawn_in" (defArgs s_overdrawn_in) (defBody s_overdrawn_in) (defScope s_overdrawn_in) .none kV23 dc23 pm23 an23 cd23 ct23), sl23⟩) (c23 : PySem.W.codeIn K cd23 "overdrawn_in" = true) (k23 : PySem.W.keepIn K (.ref f23) = true)
    (a24 : PySem.W.nsIn K mainGlobals "_law_series" = some (some (.ref f24))) (l24 : K.lookup f24 = some ⟨oc24, od24, .func (PySem.W.fnOf "_law_series" "_law_series" (defArgs s__law_series) (defBody s__law_series) (defScope s__law_series) .none kV24 dc24 pm24 an24 cd24 ct24), sl24⟩) (c24 : PySem.W.codeIn K cd24 "_law_series" = true) (k24 : PySem.W.keepIn K (.ref f24) = true)
    (a25 : PySem.W.nsIn K mainGlobals "check_series" = some (some (.ref f25))) (l25 : K.lookup f25 = some ⟨oc25, od25, .func (PySem.W.fnOf "check_series" "check_series" (defArgs s_check_series) (defBody s_check_series) (defScope s_check_series) .none kV25 dc25 pm25 an25 cd25 ct25), sl25⟩) (c25 : PySem.W.codeIn K cd25 "check_series" = true) (k25 : PySem.W.keepIn K (.ref f25) = true)
    (a26 : PySem.W.nsIn K mainGlobals "_law_small_series" = some (some (.ref f26))) (l26 : K.lookup f26 = some ⟨oc26, od26, .func (PySem.W.fnOf "_law_small_series" "_law_small_series" (defArgs s__law_small_series) (defBody s__law_small_series) (defScope s__law_small_series) .none kV26 dc26 pm26 an26 cd26 ct26), sl26⟩) (c26 : PySem.W.codeIn K cd26 "_law_small_series" = true) (k26 : PySem.W.keepIn K (.ref f26) = true)
    (a27 : PySem.W.nsIn K mainGlobals "overdrawn" = some (some (.ref f27))) (l27 : K.lookup f27 = some ⟨oc27, od27, .func (PySem.W.fnOf "overdrawn" "overdrawn" (defArgs s_overdrawn) (defBody s_overdrawn) (defScope s_overdrawn) .none kV27 dc27 pm27 an27 cd27 ct27), sl27⟩) (c27 : PySem.W.codeIn K cd27 "overdrawn" = true) (k27 : PySem.W.keepIn K (.ref f27) = true)
    (a28 : PySem.W.nsIn K mainGlobals "calm_history" = some (some (.ref f28))) (l28 : K.lookup f28 = some ⟨oc28, od28, .func (PySem.W.fnOf "calm_history" "calm_history" (defArgs s_calm_history) (defBody s_calm_history) (defScope s_calm_history) .none kV28 dc28 pm28 an28 cd28 ct28), sl28⟩) (c28 : PySem.W.codeIn K cd28 "calm_history" = true) (k28 : PySem.W.keepIn K (.ref f28) = true)
    (a29 : PySem.W.nsIn K mainGlobals "law" = some (some (.ref f29))) (l29 : K.lookup f29 = some ⟨oc29, od29, .func (PySem.W.fnOf "law" "law" (defArgs s_law) (defBody s_law) (defScope s_law) .none kV29 dc29 pm29 an29 cd29 ct29), sl29⟩) (c29 : PySem.W.codeIn K cd29 "law" = true) (k29 : PySem.W.keepIn K (.ref f29) = true)
    (z_abs : PySem.W.nsIn K mainGlobals "abs" = some none)
    (z_all : PySem.W.nsIn K mainGlobals "all" = some none)
    (z_bool : PySem.W.nsIn K mainGlobals "bool" = some none)
    (z_enumerate : PySem.W.nsIn K mainGlobals "enumerate" = some none)
    (z_int : PySem.W.nsIn K mainGlobals "int" = some none)
    (z_isinstance : PySem.W.nsIn K mainGlobals "isinstance" = some none)
    (z_len : PySem.W.nsIn K mainGlobals "len" = some none)
    (z_list : PySem.W.nsIn K mainGlobals "list" = some none)
    (z_max : PySem.W.nsIn K mainGlobals "max" = some none)
    (z_min : PySem.W.nsIn K mainGlobals "min" = some none)
    (z_range : PySem.W.nsIn K mainGlobals "range" = some none)
    (z_sorted : PySem.W.nsIn K mainGlobals "sorted" = some none)
    (z_str : PySem.W.nsIn K mainGlobals "str" = some none)
    (z_sum : PySem.W.nsIn K mainGlobals "sum" = some none)
    (z_tuple : PySem.W.nsIn K mainGlobals "tuple" = some none)
    (z_zip : PySem.W.nsIn K mainGlobals "zip" = some none)
    (q_MOST_ALLOCATIONS : PySem.W.nsIn K mainGlobals "MOST_ALLOCATIONS" = some (some (.int 10 kt_MOST_ALLOCATIONS)))
    (q_MOST_BUCKETS : PySem.W.nsIn K mainGlobals "MOST_BUCKETS" = some (some (.int 20 kt_MOST_BUCKETS)))
    (q_MOST_VARIANTS : PySem.W.nsIn K mainGlobals "MOST_VARIANTS" = some (some (.int 5 kt_MOST_VARIANTS))) :
    ∃ fd : FuncData, (∀ (s : Shared) (v : Value), BindsTo s fd ⟨[v], []⟩ [("_law_script", v)]) ∧ ∀ base : Heap, K.In base → base.Ns mainGlobals mg → FnOk l.prog w K mg base CX0 10 fa fd ["_law_script"] (spB K cl0 11 1 f_law) := by
  have e := hfa.symm.trans (PySem.W.mg_of X G a29)
  cases e
  let T : Txt K mg := ⟨PySem.W.mg_none_of X G z_abs,
    PySem.W.mg_none_of X G z_all,
    PySem.W.mg_none_of X G z_bool,
    PySem.W.mg_none_of X G z_enumerate,
    PySem.W.mg_none_of X G z_int,
    PySem.W.mg_none_of X G z_isinstance,
    PySem.W.mg_none_of X G z_len,
    PySem.W.mg_none_of X G z_list,
    PySem.W.mg_none_of X G z_max,
    PySem.W.mg_none_of X G z_min,
    PySem.W.mg_none_of X G z_range,
    PySem.W.mg_none_of X G z_sorted,
    PySem.W.mg_none_of X G z_str,
    PySem.W.mg_none_of X G z_sum,
    PySem.W.mg_none_of X G z_tuple,
    PySem.W.mg_none_of X G z_zip,
    .int (PySem.W.mg_of X G q_MOST_ALLOCATIONS),
    .int (PySem.W.mg_of X G q_MOST_BUCKETS),
    .int (PySem.W.mg_of X G q_MOST_VARIANTS),
    CM_Step, PySem.W.mg_of X G aM_Step, ⟨pgM_Step, hdM_Step, poM_Step, saM_Step⟩, nM_Step_0, nM_Step_1, nM_Step_2, nM_Step_3, nM_Step_4,
    f0, _, fun_mk (st := s_is_whole) l0 c0 k0, PySem.W.mg_of X G a0, (fun_mk (st := s_is_whole) l0 c0 k0).binds fun _ _ _ _ _ _ us hl => match us, hl with | [_], _ => rfl,
    f1, _, fun_mk (st := s_steps_of) l1 c1 k1, PySem.W.mg_of X G a1, (fun_mk (st := s_steps_of) l1 c1 k1).binds fun _ _ _ _ _ _ us hl => match us, hl with | [_], _ => rfl,
    f2, _, fun_mk (st := s_sorted_assignment) l2 c2 k2, PySem.W.mg_of X G a2, (fun_mk (st := s_sorted_assignment) l2 c2 k2).binds fun _ _ _ _ _ _ us hl => match us, hl with | [_], _ => rfl,
    f3, _, fun_mk (st := s_changes_in) l3 c3 k3, PySem.W.mg_of X G a3, (fun_mk (st := s_changes_in) l3 c3 k3).binds fun _ _ _ _ _ _ us hl => match us, hl with | [_], _ => rfl,
    f4, _, fun_mk (st := s_Step_init) l4 c4 k4, ⟨mkM_Step, a4, i4, kpM_Step⟩, (fun_mk (st := s_Step_init) l4 c4 k4).binds fun _ _ _ _ _ _ us hl => match us, hl with | [_, _, _, _, _], _ => rfl,
    f5, _, fun_mk (st := s_Step_options) l5 c5 k5, ⟨a5, i5, k5⟩, (fun_mk (st := s_Step_options) l5 c5 k5).binds fun _ _ _ _ _ _ us hl => match us, hl with | [_, _], _ => rfl,
    f6, _, fun_mk (st := s_Step_take) l6 c6 k6, ⟨a6, i6, k6⟩, (fun_mk (st := s_Step_take) l6 c6 k6).binds fun _ _ _ _ _ _ us hl => match us, hl with | [_, _, _, _], _ => rfl,
    f7, _, fun_mk (st := s__law_stream) l7 c7 k7, PySem.W.mg_of X G a7, (fun_mk (st := s__law_stream) l7 c7 k7).binds fun _ _ _ _ _ _ us hl => match us, hl with | [_], _ => rfl,
    f8, _, fun_mk (st := s__law_next) l8 c8 k8, PySem.W.mg_of X G a8, (fun_mk (st := s__law_next) l8 c8 k8).binds fun _ _ _ _ _ _ us hl => match us, hl with | [_, _], _ => rfl,
    f9, _, fun_mk (st := s__law_is_integer) l9 c9 k9, PySem.W.mg_of X G a9, (fun_mk (st := s__law_is_integer) l9 c9 k9).binds fun _ _ _ _ _ _ us hl => match us, hl with | [_], _ => rfl,
    f10, _, fun_mk (st := s__law_sorted) l10 c10 k10, PySem.W.mg_of X G a10, (fun_mk (st := s__law_sorted) l10 c10 k10).binds fun _ _ _ _ _ _ us hl => match us, hl with | [_], _ => rfl,
    f11, _, fun_mk (st := s__law_assignments) l11 c11 k11, PySem.W.mg_of X G a11, (fun_mk (st := s__law_assignments) l11 c11 k11).binds fun _ _ _ _ _ _ us hl => match us, hl with | [_], _ => rfl,
    f12, _, fun_mk (st := s__law_transfer) l12 c12 k12, PySem.W.mg_of X G a12, (fun_mk (st := s__law_transfer) l12 c12 k12).binds fun _ _ _ _ _ _ us hl => match us, hl with | [_, _], _ => rfl,
    f13, _, fun_mk (st := s__law_churn) l13 c13 k13, PySem.W.mg_of X G a13, (fun_mk (st := s__law_churn) l13 c13 k13).binds fun _ _ _ _ _ _ us hl => match us, hl with | [_, _], _ => rfl,
    f14, _, fun_mk (st := s__law_changes) l14 c14 k14, PySem.W.mg_of X G a14, (fun_mk (st := s__law_changes) l14 c14 k14).binds fun _ _ _ _ _ _ us hl => match us, hl with | [_], _ => rfl,
    f15, _, fun_mk (st := s_is_between) l15 c15 k15, PySem.W.mg_of X G a15, (fun_mk (st := s_is_between) l15 c15 k15).binds fun _ _ _ _ _ _ us hl => match us, hl with | [_, _, _], _ => rfl,
    f16, _, fun_mk (st := s_is_allocation) l16 c16 k16, PySem.W.mg_of X G a16, (fun_mk (st := s_is_allocation) l16 c16 k16).binds fun _ _ _ _ _ _ us hl => match us, hl with | [_, _, _], _ => rfl,
    f17, _, fun_mk (st := s_decreases_of) l17 c17 k17, PySem.W.mg_of X G a17, (fun_mk (st := s_decreases_of) l17 c17 k17).binds fun _ _ _ _ _ _ us hl => match us, hl with | [_], _ => rfl,
    f18, _, fun_mk (st := s_calm_change) l18 c18 k18, PySem.W.mg_of X G a18, (fun_mk (st := s_calm_change) l18 c18 k18).binds fun _ _ _ _ _ _ us hl => match us, hl with | [_, _, _, _], _ => rfl,
    f19, _, fun_mk (st := s__law_equal) l19 c19 k19, PySem.W.mg_of X G a19, (fun_mk (st := s__law_equal) l19 c19 k19).binds fun _ _ _ _ _ _ us hl => match us, hl with | [_, _], _ => rfl,
    f20, _, fun_mk (st := s__law_allocation) l20 c20 k20, PySem.W.mg_of X G a20, (fun_mk (st := s__law_allocation) l20 c20 k20).binds fun _ _ _ _ _ _ us hl => match us, hl with | [_, _, _], _ => rfl,
    f21, _, fun_mk (st := s__law_near) l21 c21 k21, PySem.W.mg_of X G a21, (fun_mk (st := s__law_near) l21 c21 k21).binds fun _ _ _ _ _ _ us hl => match us, hl with | [_, _], _ => rfl,
    f22, _, fun_mk (st := s_is_series) l22 c22 k22, PySem.W.mg_of X G a22, (fun_mk (st := s_is_series) l22 c22 k22).binds fun _ _ _ _ _ _ us hl => match us, hl with | [_, _], _ => rfl,
    f23, _, fun_mk (st := s_overdrawn_in) l23 c23 k23, PySem.W.mg_of X G a23, (fun_mk (st := s_overdrawn_in) l23 c23 k23).binds fun _ _ _ _ _ _ us hl => match us, hl with | [_], _ => rfl,
    f24, _, fun_mk (st := s__law_series) l24 c24 k24, PySem.W.mg_of X G a24, (fun_mk (st := s__law_series) l24 c24 k24).binds fun _ _ _ _ _ _ us hl => match us, hl with | [_, _, _, _], _ => rfl,
    f25, _, fun_mk (st := s_check_series) l25 c25 k25, PySem.W.mg_of X G a25, (fun_mk (st := s_check_series) l25 c25 k25).binds fun _ _ _ _ _ _ us hl => match us, hl with | [_, _], _ => rfl,
    f26, _, fun_mk (st := s__law_small_series) l26 c26 k26, PySem.W.mg_of X G a26, (fun_mk (st := s__law_small_series) l26 c26 k26).binds fun _ _ _ _ _ _ us hl => match us, hl with | [_], _ => rfl,
    f27, _, fun_mk (st := s_overdrawn) l27 c27 k27, PySem.W.mg_of X G a27, (fun_mk (st := s_overdrawn) l27 c27 k27).binds fun _ _ _ _ _ _ us hl => match us, hl with | [_], _ => rfl,
    f28, _, fun_mk (st := s_calm_history) l28 c28 k28, PySem.W.mg_of X G a28, (fun_mk (st := s_calm_history) l28 c28 k28).binds fun _ _ _ _ _ _ us hl => match us, hl with | [_], _ => rfl,
    fa, _, fun_mk (st := s_law) l29 c29 k29, PySem.W.mg_of X G a29, (fun_mk (st := s_law) l29 c29 k29).binds fun _ _ _ _ _ _ us hl => match us, hl with | [_], _ => rfl⟩
  exact ⟨T.d_law, fun s v => .of_eq rfl, fun base _ _ => fn_allB (cMT T) (ok_law T)⟩
end Lk48
open PySem PySem.W PyProof.Rows
set_option maxHeartbeats 0 in
theorem PySem.Challenge.cw_leastmoved_k48_whole_calm_histories_holds : PySem.Challenge.rw_leastmoved_k48_whole_calm_histories.Holds := by
  w_on; o_law; k_head; (case hw => w_witness2)
  k_fill
  refine L2.walk_ofK (l := PySem.Challenge.rw_leastmoved_k48_whole_calm_histories) (n := 63) (k := 10) (x := "_law_script") (CX := L2.CX0) (sp := fun K => DL.spB K Lk48.cl0 11 1 Lk48.f_law) rfl (by decide) rfl ⟨rfl, by decide, by decide⟩ (fun w h Y => PySem.W.kIn_of Y) ?F (fun K H a ns hl _ hS => DL.law_spB (fun c ns h => Lk48.law_true c ns h) hl hS) (fun _ _ _ _ h => h)
  case F =>
    intro w mg fa h KX G hmg
    refine' Lk48.all_mk KX G hmg ?aM_Step ?pgM_Step ?hdM_Step ?poM_Step ?saM_Step ?mkM_Step ?kpM_Step ?nM_Step_0 ?nM_Step_1 ?nM_Step_2 ?nM_Step_3 ?nM_Step_4 ?a0 ?l0 ?c0 ?k0 ?a1 ?l1 ?c1 ?k1 ?a2 ?l2 ?c2 ?k2 ?a3 ?l3 ?c3 ?k3 ?a4 ?l4 ?c4 ?k4 ?i4 ?a5 ?l5 ?c5 ?k5 ?i5 ?a6 ?l6 ?c6 ?k6 ?i6 ?a7 ?l7 ?c7 ?k7 ?a8 ?l8 ?c8 ?k8 ?a9 ?l9 ?c9 ?k9 ?a10 ?l10 ?c10 ?k10 ?a11 ?l11 ?c11 ?k11 ?a12 ?l12 ?c12 ?k12 ?a13 ?l13 ?c13 ?k13 ?a14 ?l14 ?c14 ?k14 ?a15 ?l15 ?c15 ?k15 ?a16 ?l16 ?c16 ?k16 ?a17 ?l17 ?c17 ?k17 ?a18 ?l18 ?c18 ?k18 ?a19 ?l19 ?c19 ?k19 ?a20 ?l20 ?c20 ?k20 ?a21 ?l21 ?c21 ?k21 ?a22 ?l22 ?c22 ?k22 ?a23 ?l23 ?c23 ?k23 ?a24 ?l24 ?c24 ?k24 ?a25 ?l25 ?c25 ?k25 ?a26 ?l26 ?c26 ?k26 ?a27 ?l27 ?c27 ?k27 ?a28 ?l28 ?c28 ?k28 ?a29 ?l29 ?c29 ?k29 ?z_abs ?z_all ?z_bool ?z_enumerate ?z_int ?z_isinstance ?z_len ?z_list ?z_max ?z_min ?z_range ?z_sorted ?z_str ?z_sum ?z_tuple ?z_zip ?q_MOST_ALLOCATIONS ?q_MOST_BUCKETS ?q_MOST_VARIANTS
    (case aM_Step => k_is)
    (case pgM_Step => k_is)
    (case hdM_Step => k_is)
    (case poM_Step => k_is)
    (case saM_Step => k_is)
    (case mkM_Step => k_is)
    (case kpM_Step => k_is)
    (case nM_Step_0 => k_is)
    (case nM_Step_1 => k_is)
    (case nM_Step_2 => k_is)
    (case nM_Step_3 => k_is)
    (case nM_Step_4 => k_is)
    (case a0 => k_is)
    (case l0 => k_is)
    (case c0 => k_is)
    (case k0 => k_is)
    (case a1 => k_is)
    (case l1 => k_is)
    (case c1 => k_is)
    (case k1 => k_is)
    (case a2 => k_is)
    (case l2 => k_is)
    (case c2 => k_is)
    (case k2 => k_is)
    (case a3 => k_is)
    (case l3 => k_is)
    (case c3 => k_is)
    (case k3 => k_is)
    (case a4 => k_is)
    (case l4 => k_is)
    (case c4 => k_is)
    (case k4 => k_is)
    (case i4 => k_is)
    (case a5 => k_is)
    (case l5 => k_is)
    (case c5 => k_is)
    (case k5 => k_is)
    (case i5 => k_is)
    (case a6 => k_is)
    (case l6 => k_is)
    (case c6 => k_is)
    (case k6 => k_is)
    (case i6 => k_is)
    (case a7 => k_is)
    (case l7 => k_is)
    (case c7 => k_is)
    (case k7 => k_is)
    (case a8 => k_is)
    (case l8 => k_is)
    (case c8 => k_is)
    (case k8 => k_is)
    (case a9 => k_is)
    (case l9 => k_is)
    (case c9 => k_is)
    (case k9 => k_is)
    (case a10 => k_is)
    (case l10 => k_is)
    (case c10 => k_is)
    (case k10 => k_is)
    (case a11 => k_is)
    (case l11 => k_is)
    (case c11 => k_is)
    (case k11 => k_is)
    (case a12 => k_is)
    (case l12 => k_is)
    (case c12 => k_is)
    (case k12 => k_is)
    (case a13 => k_is)
    (case l13 => k_is)
    (case c13 => k_is)
    (case k13 => k_is)
    (case a14 => k_is)
    (case l14 => k_is)
    (case c14 => k_is)
    (case k14 => k_is)
    (case a15 => k_is)
    (case l15 => k_is)
    (case c15 => k_is)
    (case k15 => k_is)
    (case a16 => k_is)
    (case l16 => k_is)
    (case c16 => k_is)
    (case k16 => k_is)
    (case a17 => k_is)
    (case l17 => k_is)
    (case c17 => k_is)
    (case k17 => k_is)
    (case a18 => k_is)
    (case l18 => k_is)
    (case c18 => k_is)
    (case k18 => k_is)
    (case a19 => k_is)
    (case l19 => k_is)
    (case c19 => k_is)
    (case k19 => k_is)
    (case a20 => k_is)
    (case l20 => k_is)
    (case c20 => k_is)
    (case k20 => k_is)
    (case a21 => k_is)
    (case l21 => k_is)
    (case c21 => k_is)
    (case k21 => k_is)
    (case a22 => k_is)
    (case l22 => k_is)
    (case c22 => k_is)
    (case k22 => k_is)
    (case a23 => k_is)
    (case l23 => k_is)
    (case c23 => k_is)
    (case k23 => k_is)
    (case a24 => k_is)
    (case l24 => k_is)
    (case c24 => k_is)
    (case k24 => k_is)
    (case a25 => k_is)
    (case l25 => k_is)
    (case c25 => k_is)
    (case k25 => k_is)
    (case a26 => k_is)
    (case l26 => k_is)
    (case c26 => k_is)
    (case k26 => k_is)
    (case a27 => k_is)
    (case l27 => k_is)
    (case c27 => k_is)
    (case k27 => k_is)
    (case a28 => k_is)
    (case l28 => k_is)
    (case c28 => k_is)
    (case k28 => k_is)
    (case a29 => k_is)
    (case l29 => k_is)
    (case c29 => k_is)
    (case k29 => k_is)
    (case z_abs => k_is)
    (case z_all => k_is)
    (case z_bool => k_is)
    (case z_enumerate => k_is)
    (case z_int => k_is)
    (case z_isinstance => k_is)
    (case z_len => k_is)
    (case z_list => k_is)
    (case z_max => k_is)
    (case z_min => k_is)
    (case z_range => k_is)
    (case z_sorted => k_is)
    (case z_str => k_is)
    (case z_sum => k_is)
    (case z_tuple => k_is)
    (case z_zip => k_is)
    (case q_MOST_ALLOCATIONS => k_is)
    (case q_MOST_BUCKETS => k_is)
    (case q_MOST_VARIANTS => k_is)
