import PyProof.Rows.All
import Wide.All
import OpenK.AllK
import Wide.FinOn
import PyProof.ListRange
import HandS.Base
import HandS.Call
import HandS.List
import HandS.Rev
import HandS.RevTup
import HandS.TupMul
import KE.GoesNew
import KE.GoesMore
import HandS.Iter
import HandS.Zip
import HandS.ForMost
import HandS.Strs
import HandS.Replace
import HandS.Deep
import KE.SortData
import HandS.Conv
import KE.KDictSum
import PyProof.Draws
import PyProof.EnumMake
import HandS.Walk
import HandS.Zip0
import HandS.ForExc
import HandS.Wide
import HandS.TupAny
import HandS.IsInst
import HandS.More
import PyProof.FactsAll.list_3
import HandS.WordsExc
import HandS.TupLe
import HandS.Text
import HandS.Dict
import HandS.WordsDict
import HandS.TupLen
import HandS.SortKw
import KE.DataMinMax
import HandS.Flt
import KE.DataCmp
import PyProof.Rows.SeqMore
import PyProof.StrOps2
import KE.KDictDisplayH
import HandS.SetKeys
import HandS.Exc
import HandS.ExcOwn
import HandS.TryOnly
import HandS.ExcIs
import KE.KIsAll
import HandS.Codes
import HandS.RevRange
import HandS.TupSets
import HandS.Sort
import KE.KDictList
import KE.SortCalls
import HandS.ClsMeth
import KE.KDictZip
import KE.GoesEnum
import HandS.EndBits
import PySem.Challenge.RW_netfinder_k21_runs_of_places_apart
set_option Elab.async false
set_option linter.all false
set_option maxRecDepth 100000
namespace DL
open PySem PySem.Spec PyProof.Rows L2
section
variable {prog : Program} {w : World} {A : Around} {E : Value → Shared → Prop} {s : Shared}
end
section
variable {X : Cx}
end
end DL
set_option maxHeartbeats 4000000
namespace DL
open PySem PySem.Spec PyProof.Rows L2
section
variable {X : Cx}
end
end DL
namespace DL
open PySem PySem.Spec PyProof.Rows L2
def Sq (K : PySem.W.Frag) (k : Bool) (H : Hp) (a : Addr) (xs : List V) : Prop := match k with
  | true => SqL K H a xs
  | false => SqT K H a xs
def SqIt (k : Bool) (h : Heap) (it a : Addr) (i : Nat) : Prop := match k with
  | true => h.IsListIter it a i
  | false => h.IsTupleIter it a i
def SqAt (k : Bool) (h : Heap) (a : Addr) (items : Array Value) : Prop := match k with
  | true => h.IsList a items
  | false => h.IsTuple a items
theorem SqIt.at {k : Bool} {h h' : Heap} {it a : Addr} {i : Nat} (x : SqIt k h it a i) (e : ∀ o, h.get? it = some o → h'.get? it = some o) : SqIt k h' it a i := by
  cases k with
  | true => exact Heap.IsListIter.at x e
  | false => exact Heap.IsTupleIter.at x e
theorem SqIt.obj {k : Bool} {h : Heap} {it a : Addr} {i : Nat} (x : SqIt k h it a i) : ∃ o, h.get? it = some o ∧ ∀ v, o.data ≠ .cell v := by
  cases k with
  | true =>
    obtain ⟨o, e, _, d⟩ := x
    exact ⟨o, e, fun v q => by rw [d] at q; cases q⟩
  | false =>
    obtain ⟨o, e, _, d⟩ := x
    exact ⟨o, e, fun v q => by rw [d] at q; cases q⟩
theorem draws_sq {prog : Program} {w : World} {A : Around} (hh : A.handled = none) (k : Bool) (it l : Addr) (hne : l ≠ it) (items : Array Value) :
    Draws prog w A it [it, l] items.size (fun i v => items[i]? = some v) (fun i h => SqIt k h it l i ∧ SqAt k h l items) := by
  cases k with
  | true => exact Draws.list hh it l hne items
  | false => exact Draws.tuple hh it l hne items
theorem sq_items {X : Cx} {pins : List (Addr × Obj)} {σ : L2.St} {H : Hp} {s : Shared} {k : Bool} {a : Addr} {xs : List V} (I : Inv X pins σ H s) (h : Sq X.K k H a xs) : ∃ its : List Value, Vals xs its ∧ SqAt k s.heap a its.toArray ∧ a < s.heap.objs.size := by
  cases k with
  | true =>
    obtain ⟨its, rv, p, _⟩ := I.list h
    have q := p.isList
    obtain ⟨o, e, _⟩ := id q
    exact ⟨its, rv, q, Heap.lt_size e⟩
  | false =>
    obtain ⟨its, rv, p, _⟩ := I.tuple h
    obtain ⟨o, e, _⟩ := id p
    exact ⟨its, rv, p, Heap.lt_size e⟩
theorem sq_inj {X : Cx} {pins : List (Addr × Obj)} {σ : L2.St} {H : Hp} {s : Shared} {k : Bool} {a : Addr} {xs ys : List V} (I : Inv X pins σ H s) (h : Sq X.K k H a xs) (h2 : Sq X.K k H a ys) : xs = ys := by
  cases k with
  | true => exact I.list_inj h h2
  | false => exact I.tuple_inj h h2
/-- the two as they stand at each turn, the items in new pairs -/
def ItzX (K : PySem.W.Frag) (k1 k2 : Bool) (a b : Addr) : It :=
  ⟨fun i H => ∃ (xs ys : List V) (x y : V), Sq K k1 H a xs ∧ Sq K k2 H b ys ∧ xs[i]? = some x ∧ ys[i]? = some y,
    fun i H v H' => ∃ T x y, v = .ref T ∧ H T = none ∧ H' = upd H T (.tup [x, y]) ∧ (∀ xs, Sq K k1 H a xs → xs[i]? = some x) ∧ ∀ ys, Sq K k2 H b ys → ys[i]? = some y,
    fun i H => ∃ xs ys : List V, Sq K k1 H a xs ∧ Sq K k2 H b ys ∧ i = min xs.length ys.length⟩
theorem turn_zipX {P : Program} {w : World} {K : PySem.W.Frag} {elts : List Expr} {kk : Nat} {tpos : Pos} {k1 k2 : Bool} {a b z TI TO i1 i2 : Addr} (S : ZipSep2 z TI TO i1 i2 [i1, a] [i2, b]) (na : a ≠ i1) (nb : b ≠ i2) :
    Turn P w K (.Tuple elts kk tpos) (ItzX K k1 k2 a b) [z, TI, TO, i1, i2] z (fun i h => IsZip h z TI TO .none ∧ IsTupOf2 h TI (.ref i1) (.ref i2) ∧ (∃ x y, IsTupOf2 h TO x y) ∧ SqIt k1 h i1 a i ∧ SqIt k2 h i2 b i) where
  mem := by simp
  obj := fun i h st c hc => by
    obtain ⟨hz, hTI, ⟨x, y, hTO⟩, t1, t2⟩ := st
    have e' : c = z ∨ c = TI ∨ c = TO ∨ c = i1 ∨ c = i2 := by simpa using hc
    rcases e' with q | q | q | q | q
    · subst q; exact ⟨_, hz, fun v q => nomatch q⟩
    · subst q; exact ⟨_, hTI, fun v q => nomatch q⟩
    · subst q; exact ⟨_, hTO, fun v q => nomatch q⟩
    · subst q; exact t1.obj
    · subst q; exact t2.obj
  keep := fun i h h' st k => by
    obtain ⟨hz, hTI, ⟨x, y, hTO⟩, t1, t2⟩ := st
    exact ⟨k z (by simp) _ hz, k TI (by simp) _ hTI, ⟨x, y, k TO (by simp) _ hTO⟩, t1.at fun o q => k i1 (by simp) o q, t2.at fun o q => k i2 (by simp) o q⟩
  item := by
    intro X hP hw hK hc i ps sh sg H E inv hf st hg
    subst hP hw hK
    obtain ⟨hz, hTI, hTO, t1, t2⟩ := st
    obtain ⟨xs, ys, x, y, hqx, hqy, hx, hy⟩ := hg
    obtain ⟨its, rv, p, la⟩ := sq_items inv hqx
    obtain ⟨its2, rv2, p2, lb⟩ := sq_items inv hqy
    obtain ⟨u, hu, ru⟩ := rv.get hx
    obtain ⟨u2, hu2, ru2⟩ := rv2.get hy
    have W := GoesN.zip2 (A := X.A) (elts := elts) (x1 := kk) (pos := tpos) S (draws_sq (prog := X.prog) (w := X.w) (A := X.A.in1) (inv.ok.hd hc) k1 i1 a na its.toArray) (draws_sq (prog := X.prog) (w := X.w) (A := X.A.in1) (inv.ok.hd hc) k2 i2 b nb its2.toArray)
    have hi : i < min its.toArray.size its2.toArray.size := by
      have h1 := (List.getElem?_eq_some_iff.mp hu).1
      have h2 := (List.getElem?_eq_some_iff.mp hu2).1
      rw [List.size_toArray, List.size_toArray]
      omega
    have hin : ∀ c, c ∈ [z, TI, TO, i1, i2] → ∃ o, sh.heap.get? c = some o := fun c hcm => by
      have e' : c = z ∨ c = TI ∨ c = TO ∨ c = i1 ∨ c = i2 := by simpa using hcm
      obtain ⟨x0, y0, hTO0⟩ := hTO
      rcases e' with q | q | q | q | q
      · subst q; exact ⟨_, hz⟩
      · subst q; exact ⟨_, hTI⟩
      · subst q; exact ⟨_, hTO0⟩
      · subst q; exact ⟨_, t1.obj.choose_spec.1⟩
      · subst q; exact ⟨_, t2.obj.choose_spec.1⟩
    refine W.goes i sh (fun v s2 => ∃ x H', Inv X ps sg H' s2 ∧ RelV x v ∧ (ItzX X.K k1 k2 a b).yld i H x H' ∧ (IsZip s2.heap z TI TO .none ∧ IsTupOf2 s2.heap TI (.ref i1) (.ref i2) ∧ (∃ x y, IsTupOf2 s2.heap TO x y) ∧ SqIt k1 s2.heap i1 a (i + 1) ∧ SqIt k2 s2.heap i2 b (i + 1)) ∧ ∀ c ∈ [z, TI, TO, i1, i2], H' c = none) E hi ⟨hz, hTI, hTO, ⟨t1, p⟩, t2, p2⟩ fun v h2 tk hY hst hk _ => ?_
    obtain ⟨T, w1, w2, rfl, hT, g1, g2, hIs⟩ := hY
    obtain ⟨hz', hTI', hTO', ⟨t1', _⟩, t2', _⟩ := hst
    have e1 : w1 = u := by
      have : its[i]? = some w1 := by simpa using g1
      rw [hu] at this
      exact (Option.some.inj this).symm
    have e2 : w2 = u2 := by
      have : its2[i]? = some w2 := by simpa using g2
      rw [hu2] at this
      exact (Option.some.inj this).symm
    subst e1 e2
    have new : ObjOk X.prog X.w (upd H T (.tup [x, y])) h2 T (.tup [x, y]) := ⟨by show 2 ≤ sizeLine; decide, [w1, w2], .cons ru (.cons ru2 .nil), hIs⟩
    have inv2 : Inv X ps sg (upd H T (.tup [x, y])) { sh with heap := h2, toks := tk } := inv.turnedNew (t' := tk) (ch := [z, TI, TO, i1, i2]) (fun c o hb q => hk c o (fun m => hb (by
      have m' : c = z ∨ c = TO ∨ c = i1 ∨ c = i2 := by simpa using m
      rcases m' with m | m | m | m <;> simp [m])) q) hf hT new
    refine ⟨.ref T, _, inv2, rfl, ⟨T, x, y, rfl, inv.hok.fresh hT, rfl, fun l hl => by rw [sq_inj inv hl hqx]; exact hx, fun l hl => by rw [sq_inj inv hl hqy]; exact hy⟩, ⟨hz', hTI', hTO', t1', t2'⟩, fun c hcm => ?_⟩
    obtain ⟨o, eo⟩ := hin c hcm
    rw [upd_ne (Nat.ne_of_lt (Nat.lt_of_lt_of_le (Heap.lt_size eo) hT))]
    exact (hf c hcm).1
  done := by
    intro X hP hw hK hc i ps sh sg H E inv hf st hg
    subst hP hw hK
    obtain ⟨hz, hTI, hTO, t1, t2⟩ := st
    obtain ⟨xs, ys, hqx, hqy, hend⟩ := hg
    obtain ⟨its, rv, p, la⟩ := sq_items inv hqx
    obtain ⟨its2, rv2, p2, lb⟩ := sq_items inv hqy
    have W := GoesN.zip2 (A := X.A) (elts := elts) (x1 := kk) (pos := tpos) S (draws_sq (prog := X.prog) (w := X.w) (A := X.A.in1) (inv.ok.hd hc) k1 i1 a na its.toArray) (draws_sq (prog := X.prog) (w := X.w) (A := X.A.in1) (inv.ok.hd hc) k2 i2 b nb its2.toArray)
    have en : min its.toArray.size its2.toArray.size = i := by
      rw [List.size_toArray, List.size_toArray, ← rv.length, ← rv2.length, hend]
    refine W.stops sh (fun s2 => Inv X ps sg H s2) E (by rw [en]; exact ⟨hz, hTI, hTO, ⟨t1, p⟩, t2, p2⟩) fun h2 tk hk _ => ?_
    exact inv.turnedL (t' := tk) (ch := [z, TI, TO, i1, i2]) (fun c o hb q => hk c o (fun m => hb (by
      have m' : c = z ∨ c = TO ∨ c = i1 ∨ c = i2 := by simpa using m
      rcases m' with m | m | m | m <;> simp [m])) q) hf
  self := fun A i s Q E st h => wpAny_pyIter_zip st.1 h

theorem begins_sq {k : Bool} {h : Heap} {a : Addr} {items : Array Value} : ∃ o : Obj, Begins (.ref a) o (fun h => SqAt k h a items) ∧ ∀ (h : Heap) (it : Addr), h.get? it = some o → SqIt k h it a 0 := by
  cases k with
  | true => exact ⟨_, begins_list a items, fun h it e => ⟨_, e, rfl, rfl⟩⟩
  | false => exact ⟨_, begins_tuple a items, fun h it e => ⟨_, e, rfl, rfl⟩⟩
def rZipX (K : PySem.W.Frag) : List V → Hp → (It → Hp → Prop) → Prop := fun vs H1 R => ∃ a b xs ys k1 k2, vs = [.ref a, .ref b] ∧ Sq K k1 H1 a xs ∧ Sq K k2 H1 b ys ∧ R (ItzX K k1 k2 a b) H1
theorem pi_zipX {X : Cx} {e e2 : Expr} {ta : TA} {p pos tpos : Pos} {elts : List Expr} {kk : Nat} (hg : Gl X "zip") (hm : X.mg "zip" = none) (ha : PA X [e, e2] ta)
    (hs : starEach [e, e2] X.env = (false, eval e X.env) :: starEach [e2] X.env := by rfl) (hpl : (backTo pos (starEach [e2] X.env)).any (·.1) = false := by rfl) :
    PI X (.Tuple elts kk tpos) (.Call (.Name "zip" p) [e, e2] [] pos) (fun σ H R => ta σ H fun vs H1 => rZipX X.K vs H1 R) := by
  refine ⟨fun ps sh sg H R inv h => ?_⟩
  refine Call_ (ld_blt inv hg hm PyProof.Rows.boot_zip (PyProof.Rows.callWith_type1 (thn (ha.run pos ps sh sg H _ inv h) fun us s1 ⟨vs, H1, I1, r1, q1⟩ => ?_) hs hpl))
  obtain ⟨a, b, xs, ys, k1, k2, ex, hqx, hqy, q⟩ := q1
  subst ex
  cases r1 with
  | cons r rr =>
    cases rr with
    | cons r' rr =>
      cases rr
      cases r
      cases r'
      obtain ⟨its, rv, p1, la⟩ := sq_items I1 hqx
      obtain ⟨its2, rv2, p2, lb⟩ := sq_items I1 hqy
      obtain ⟨o1, B1, j1⟩ := begins_sq (k := k1) (h := s1.heap) (a := a) (items := its.toArray)
      obtain ⟨o2, B2, j2⟩ := begins_sq (k := k2) (h := s1.heap) (a := b) (items := its2.toArray)
      have fresh5 : ∀ c, c ∈ [s1.heap.objs.size + 4, s1.heap.objs.size + 2, s1.heap.objs.size + 3, s1.heap.objs.size, s1.heap.objs.size + 1] → FpOk X ps H1 c := fun c hcm => by
        have hle : s1.heap.objs.size ≤ c := by
          simp only [List.mem_cons, List.not_mem_nil, or_false] at hcm
          rcases hcm with z | z | z | z | z <;> rw [z]
          · exact Nat.le_add_right _ _
          · exact Nat.le_add_right _ _
          · exact Nat.le_add_right _ _
          · exact Nat.le_refl _
          · exact Nat.le_add_right _ _
        exact I1.fpOk hle (I1.hok.fresh hle)
      refine zip_begins2 B1 B2 p1 p2 fun h2 hz hTI hTO g1 g2 hsz hk => wpAny_pyIter_zip hz ?_
      have I2 : Inv X ps sg H1 { s1 with heap := h2 } := I1.kept (t' := s1.toks) hk
      refine ⟨s1.heap.objs.size + 4, [s1.heap.objs.size + 4, s1.heap.objs.size + 2, s1.heap.objs.size + 3, s1.heap.objs.size, s1.heap.objs.size + 1], _, _, H1, rfl, I2, turn_zipX (k1 := k1) (k2 := k2) (zip_sep2 (N := s1.heap.objs.size) (fp1 := [a]) (fp2 := [b]) (fun c m => by rw [List.mem_singleton.mp m]; exact la) (fun c m => by rw [List.mem_singleton.mp m]; exact lb)) (Nat.ne_of_lt la) (Nat.ne_of_lt (Nat.lt_succ_of_lt lb)), ⟨hz, hTI, ⟨_, _, hTO⟩, j1 _ _ g1, j2 _ _ g2⟩, fresh5, q⟩
end DL
set_option maxHeartbeats 4000000
namespace DL
open PySem PySem.Spec PyProof.Rows L2
/-- a tuple known to be of the plain kind -/
def PlT (H : Hp) (p : Addr) (ys : List V) : Prop := ∃ o : Obj, o.dict = none ∧ H p = some (.frz o (.tup ys))
section
variable {X : Cx}
theorem PlT.is {pins : List (Addr × Obj)} {σ : L2.St} {H : Hp} {s : Shared} {p : Addr} {ys : List V} (I : Inv X pins σ H s) (h : PlT H p ys) : s.TypeIs (.ref p) "tuple" ∧ ∃ ob, s.heap.get? p = some ob ∧ ob.dict = none := by
  obtain ⟨o, hd, e⟩ := h
  obtain ⟨h1, h2⟩ := (show ObjOk X.prog X.w H s.heap p (.frz o (.tup ys)) from I.hok p _ e)
  obtain ⟨_, its, _, o2, e2, hc, _⟩ := h2
  rw [h1] at e2
  cases e2
  exact ⟨⟨o, h1, hc⟩, o, h1, hd⟩
def rTupX (K : PySem.W.Frag) : List V → Hp → VK → Prop := fun xs H Q => ∃ p ys, xs = [.ref p] ∧ SqL K H p ys ∧ ∀ l (o : Obj), H l = none → o.dict = none → Q (.ref l) (upd H l (.frz o (.tup ys)))
theorem call_tupX : CallR X (.type "tuple") (rTupX X.K) := by
  intro pins s σ H xs us Q I r h
  obtain ⟨p, ys, rfl, hq, q⟩ := h
  obtain ⟨u, rfl, rx⟩ := vals1 r
  cases rx
  obtain ⟨its, r', pl, hz⟩ := I.list hq
  have hlen := r'.length
  refine call_tuple_list pl.isList (fun h' kp => ?_) (by simp only [List.size_toArray] <;> omega)
  have I1 : Inv X pins σ H { s with heap := h' } := I.kept (t' := s.toks) kp
  have I2 : Inv X pins σ (upd H h'.objs.size (.frz { cls := .type "tuple", data := .seq its.toArray } (.tup ys))) { s with heap := h'.push { cls := .type "tuple", data := .seq its.toArray } } :=
    I1.laid (t' := s.toks) (fun b o e => Heap.get?_push_of_some _ e) (Nat.le_refl _) (show ObjOk X.prog X.w _ _ _ (.frz { cls := .type "tuple", data := .seq its.toArray } (.tup ys)) from ⟨Heap.get?_push_size _ rfl, hz, its, r', IsTup.new _ _⟩)
  exact ⟨.ref h'.objs.size, _, I2, rfl, q _ _ (I1.hok.fresh (Nat.le_refl _)) rfl⟩
/-- what a method is asked of -/
def tyW (K : PySem.W.Frag) (T : String) (x : V) (H : Hp) : Prop := tyV K T x H ∨ (T = "tuple" ∧ ∃ p ys, x = .ref p ∧ PlT H p ys)
theorem tyW_is {pins : List (Addr × Obj)} {σ : L2.St} {H : Hp} {s : Shared} {T : String} {x : V} {v : Value} (I : Inv X pins σ H s) (r : RelV x v) (ty : tyW X.K T x H) :
    s.TypeIs v T ∧ ∀ a, v = .ref a → ∃ ob, s.heap.get? a = some ob ∧ ob.dict = none := by
  rcases ty with ty | ⟨rfl, p, ys, rfl, h⟩
  · exact tyV_is I r ty
  · cases r
    obtain ⟨h1, h2⟩ := h.is I
    exact ⟨h1, fun a e => by cases e; exact h2⟩
variable {o e : Expr} {es : List Expr} {to : TE} {t : TA} {name : Str} {apos cpos : Pos} {T id : String} {r : V → List V → Hp → VK → Prop}
def tBW (K : PySem.W.Frag) (T : String) (r : V → List V → Hp → VK → Prop) (to : TE) (t : TA) : TE := fun σ H Q => to σ H fun x H1 => tyW K T x H1 ∧ t σ H1 fun xs H2 => r x xs H2 Q
theorem pe_bw (pa : PlainAttrs T) (slot : PySem.Slot T name id) (hty : typeOf (.builtin id) = pure (.type "method_descriptor")) (hm : MtR X id r) (ho : PE X o to) (ha : PA X (e :: es) t)
    (hbase : attributeBase o name X.env (eval o X.env) = eval o X.env := by rfl)
    (hfew : ((backTo cpos (starEach (e :: es) X.env)).all (fun x => !x.1) && (backToKw cpos (keywordEach [] X.env)).all (fun x => x.1.isSome)
      && decide ((e :: es).length + ([] : List Keyword).length + (if ([] : List Keyword).isEmpty then 0 else 1) < 30)) = true := by rfl)
    (hline : (apos.endLine == cpos.line) = true := by rfl) (hs : starEach (e :: es) X.env = (false, eval e X.env) :: starEach es X.env := by rfl) (hplain : (backTo cpos (starEach es X.env)).any (·.1) = false := by rfl) :
    PE X (.Call (.Attribute o name apos) (e :: es) [] cpos) (tBW X.K T r to t) := by
  refine ⟨fun pins s σ H Q I h => ?_⟩
  refine wpAny_Call_method_late hbase hfew hline rfl (thn (ho.run pins s σ H _ I h) fun v s1 ⟨x, H1, I1, r1, ty, q1⟩ => ?_)
  obtain ⟨h1, h2⟩ := tyW_is I1 r1 ty
  refine ⟨T, id, pa, slot, hty, h1, h2, ?_⟩
  have hA := ha.run cpos pins s1 σ H1 _ I1 q1
  rw [hs] at hA ⊢
  refine Calls.callWith_builtin (by show (false || (backTo cpos (starEach es X.env)).any (·.1)) = false; rw [hplain] <;> rfl) (Calls.evalArgs_plain ?_)
  exact thn hA fun us s2 ⟨vs, H2, I2, r2, q2⟩ => hm pins s2 σ H2 x vs v us Q I2 r1 r2 q2
/-- sorted(xs), by what the items read as -/
def rSortD (K : PySem.W.Frag) : List V → Hp → VK → Prop := fun xs H Q => ∃ (β : Type) (enc : β → PyData) (p : Addr) (bs : List (V × β)), xs = [.ref p] ∧ SqL K H p (bs.map (·.1)) ∧ (∀ b ∈ bs, Dp K H b.1 (enc b.2)) ∧
  PySem.W.AllAlike (bs.map fun b => enc b.2) ∧ PySem.W.Sortable (bs.map fun b => enc b.2) ∧ (∀ b ∈ bs, (enc b.2).depth ≤ 60) ∧
  ∀ l, H l = none → Q (.ref l) (upd H l (.lst ((bs.mergeSort (PySem.W.dataLe false fun b => enc b.2)).map (·.1))))
theorem each_of {β : Type} {P : Value → V × β → Prop} : ∀ {bs : List (V × β)} {its : List Value}, Vals (bs.map (·.1)) its → (∀ b v, b ∈ bs → RelV b.1 v → P v b) → PySem.W.EachIs P its bs
  | [], _, .nil, _ => .nil
  | b :: bs, _, .cons r t, h => .cons (h b _ List.mem_cons_self r) (each_of t fun b v m => h b v (List.mem_cons_of_mem _ m))
theorem vals_of_each {β : Type} : ∀ {bs : List (V × β)} {its : List Value}, PySem.W.EachIs (fun v b => RelV b.1 v) its bs → Vals (bs.map (·.1)) its
  | [], _, .nil => .nil
  | b :: bs, _, .cons r t => .cons r (vals_of_each t)
theorem cr_sortD (hu : X.A.units + 64 < cLine) : CallR X (.builtin "sorted") (rSortD X.K) := by
  intro pins s σ H xs us Q I r h
  obtain ⟨β, enc, p, bs, rfl, hq, hd, ha, hs, hdep, q⟩ := h
  obtain ⟨u, rfl, rx⟩ := vals1 r
  cases rx
  obtain ⟨its, r', pl, hz⟩ := I.list hq
  have hlen := r'.length
  rw [List.length_map] at hlen hz
  refine PySem.W.sorted_data (vs := its) (bs := bs) (enc := fun b => enc b.2) (R := fun v b => RelV b.1 v) pl.isList (each_of r' fun b v m r => r) (each_of r' fun b v m r => Dp.reads I _ _ _ (hd b m) r) ha hs hz (fun b m => ?_) fun out ho eo => ?_
  · have := hdep b m
    omega
  · obtain ⟨c, hc⟩ := sortedAll_at s.heap its out.toArray
    have hv := vals_of_each eo
    refine ⟨.ref (s.heap.objs.size + 1), _, I.laid (t' := s.toks) (o := .lst ((bs.mergeSort (PySem.W.dataLe false fun b => enc b.2)).map (·.1))) (fun b o e => sortedAll_old e) (Nat.le_succ _) ?_, rfl, q _ (I.hok.fresh (Nat.le_succ _))⟩
    refine ⟨?_, out, c, hv, hc⟩
    rw [List.length_map, List.length_mergeSort]
    exact hz
end
end DL
set_option maxHeartbeats 4000000
namespace DL
open PySem PySem.Spec PyProof.Rows L2
def keyPy1 : Key → PyData
  | .inl i => .int i
  | .inr s => .str s
def keyPy (k : List Key) : PyData := .tuple (k.map keyPy1)
section
variable {X : Cx}
end
end DL
set_option maxHeartbeats 4000000
namespace DL
open PySem PySem.Spec PyProof.Rows L2
open PySem.Sem (wp)
open AutoSeq1 (wpAny_loadPart')
section
variable {prog : Program} {w : World} {A : Around} {E : Value → Shared → Prop} {s : Shared}
end
end DL
namespace DL
open PySem PySem.Spec PyProof.Rows L2
inductive D where
  | non
  | bl (b : Bool)
  | int (i : Int)
  | str (s : Str)
  /-- the script -/
  | scr (ns : List Int)
  /-- a tuple; true: it is known to be one of the plain kind -/
  | tupF (f : Bool) (xs : List D)
  | lst (xs : List D)
  | dk (ks : List Key) (vs : List D)
  | dt (ks : List (List Key)) (vs : List D)
  | obj (c : Str) (fs : List Str) (vs : List D)
  /-- an instance whose own node stands in the borrowed heap -/
  | fob (c : Str) (fs : List Str) (vs : List D)
  /-- a caught refusal of an own class -/
  | exn (c : Str)
  /-- what is read in the borrowed heap -/
  | bor (d : D)

abbrev D.tup (xs : List D) : D := .tupF false xs

mutual
def D.pure : D → Bool
  | .non => true
  | .bl _ => true
  | .int _ => true
  | .str _ => true
  | .scr _ => false
  | .tupF _ xs => D.pureL xs
  | .lst _ => false
  | .dk _ _ => false
  | .dt _ _ => false
  | .obj _ _ _ => false
  | .fob _ _ _ => false
  | .exn _ => false
  | .bor _ => true
def D.pureL : List D → Bool
  | [] => true
  | d :: r => d.pure && D.pureL r
end
/-- what an operation ends in: a value, a refusal of an own class, or nothing that is known -/
inductive Out (α : Type) where
  | ok (a : α)
  | exc (c : Str)
  | bad
def Out.bind {α β : Type} (x : Out α) (f : α → Out β) : Out β := match x with
  | .ok a => f a
  | .exc c => .exc c
  | .bad => .bad
instance : Monad Out where
  pure := Out.ok
  bind := Out.bind
@[simp] theorem Out.bind_ok {α β : Type} (a : α) (f : α → Out β) : (Out.ok a >>= f) = f a := rfl
@[simp] theorem Out.bind_exc {α β : Type} (c : Str) (f : α → Out β) : (Out.exc c >>= f) = Out.exc c := rfl
@[simp] theorem Out.bind_bad {α β : Type} (f : α → Out β) : ((Out.bad : Out α) >>= f) = Out.bad := rfl
@[simp] theorem Out.pure_eq {α : Type} (a : α) : (Pure.pure a : Out α) = Out.ok a := rfl
/-- what is never written -/
def Still (u : HO) : Prop := ¬ Mut (some u)
theorem still_tup {vs : List V} : Still (.tup vs) := id
theorem still_frz {o : Obj} {u : HO} : Still (.frz o u) := id
def TupAt (H : Hp) (f : Bool) (a : Addr) (vs : List V) : Prop := match f with
  | false => H a = some (.tup vs)
  | true => ∃ o : Obj, o.dict = none ∧ H a = some (.frz o (.tup vs))
theorem TupAt.keep {H H' : Hp} {f : Bool} {a : Addr} {vs : List V} (k : ∀ b u, H b = some u → Still u → H' b = some u) (h : TupAt H f a vs) : TupAt H' f a vs := by
  cases f with
  | false => exact k _ _ h still_tup
  | true =>
    obtain ⟨o, e, h⟩ := h
    exact ⟨o, e, k _ _ h still_frz⟩
theorem TupAt.seq {K : PySem.W.Frag} {H : Hp} {f : Bool} {a : Addr} {vs : List V} (h : TupAt H f a vs) : SqT K H a vs := by
  cases f with
  | false => exact SqT.of h
  | true =>
    obtain ⟨o, e, h⟩ := h
    exact .inl (.inr ⟨o, h⟩)
structure Gc where
  K : PySem.W.Frag
  cl : Str → Option Addr
  /-- the borrowed heap: it stands while this lasts -/
  bo : Hp
/-- where the table of classes keeps the caught refusal's address -/
def exName : Str := Str.ofString "?caught"
/-- the object o at a: frozen (in Z), or owned -/
def Nod (Z H : Hp) (o : HO) (a : Addr) (F F' : List Addr) : Prop := (Z a = some o ∧ F = [] ∧ F' = []) ∨ (F = a :: F' ∧ H a = some o)
theorem Same.rd {Z Z' : Hp} {a : Addr} {u : HO} (hz : Same Z Z') (h : Rd Z a u) : Rd Z' a u := h.imp (fun e => hz _ _ e) fun ⟨o, e⟩ => ⟨o, hz _ _ e⟩
def NodL (Z H : Hp) (vs : List V) (a : Addr) (F F' : List Addr) : Prop := (Rd Z a (.lst vs) ∧ F = [] ∧ F' = []) ∨ (F = a :: F' ∧ H a = some (.lst vs))

mutual
/-- the data d stand in H at v; the nodes that may be written are those at F, each once; all others that can be written stand in Z -/
def Own (G : Gc) : Hp → Hp → D → V → List Addr → Prop
  | _, _, .non, v, F => v = .non ∧ F = []
  | _, _, .bl b, v, F => v = .bl b ∧ F = []
  | _, _, .int i, v, F => v = .int i ∧ F = []
  | _, _, .str s, v, F => v = .str s ∧ F = []
  | Z, _, .scr ns, v, F => F = [] ∧ ∃ a, v = .ref a ∧ SqL G.K Z a (ns.map V.int)
  | Z, H, .tupF f ds, v, F => ∃ a vs, v = .ref a ∧ TupAt H f a vs ∧ OwnL G Z H ds vs F
  | Z, H, .lst ds, v, F => ∃ a vs F', v = .ref a ∧ NodL Z H vs a F F' ∧ OwnL G Z H ds vs F'
  | Z, H, .dk ks ds, v, F => ∃ a vs F', v = .ref a ∧ ks.length = vs.length ∧ Nod Z H (.dK (ks.zip vs)) a F F' ∧ OwnL G Z H ds vs F'
  | Z, H, .dt ks ds, v, F => ∃ a vs F', v = .ref a ∧ ks.length = vs.length ∧ Nod Z H (.dT (ks.zip vs)) a F F' ∧ OwnL G Z H ds vs F'
  | Z, H, .obj c fs ds, v, F => ∃ a vs F' C dx, v = .ref a ∧ G.cl c = some C ∧ fs.length = vs.length ∧ Nod Z H (.ins C dx (fs.zip vs)) a F F' ∧ OwnL G Z H ds vs F'
  | Z, H, .fob c fs ds, v, F => ∃ a vs C dx, v = .ref a ∧ G.cl c = some C ∧ fs.length = vs.length ∧ G.bo a = some (.ins C dx (fs.zip vs)) ∧ OwnL G Z H ds vs F
  | _, _, .exn _, v, F => F = [] ∧ ∃ a, v = .ref a ∧ G.cl exName = some a
  | _, H, .bor d, v, F => F = [] ∧ Own G G.bo H d v [] ∧ v ≠ .non
def OwnL (G : Gc) : Hp → Hp → List D → List V → List Addr → Prop
  | _, _, [], vs, F => vs = [] ∧ F = []
  | Z, H, d :: ds, vs, F => ∃ v r F1 F2, vs = v :: r ∧ F = F1 ++ F2 ∧ Own G Z H d v F1 ∧ OwnL G Z H ds r F2
end
/-- all of A stands in H -/
theorem Same.nod {Z Z' H H' : Hp} {o : HO} {a : Addr} {F F' : List Addr} (hz : Same Z Z') (hk : ∀ b u, H b = some u → b ∈ F → H' b = some u) (n : Nod Z H o a F F') : Nod Z' H' o a F F' := by
  rcases n with ⟨h, e⟩ | ⟨e, h⟩
  · exact .inl ⟨hz _ _ h, e⟩
  · exact .inr ⟨e, hk _ _ h (by rw [e]; exact List.mem_cons_self)⟩
theorem Same.nodL {Z Z' H H' : Hp} {vs : List V} {a : Addr} {F F' : List Addr} (hz : Same Z Z') (hk : ∀ b u, H b = some u → b ∈ F → H' b = some u) (n : NodL Z H vs a F F') : NodL Z' H' vs a F F' := by
  rcases n with ⟨h, e⟩ | ⟨e, h⟩
  · exact .inl ⟨Same.rd hz h, e⟩
  · exact .inr ⟨e, hk _ _ h (by rw [e]; exact List.mem_cons_self)⟩
theorem Nod.sub {Z H : Hp} {o : HO} {a : Addr} {F F' : List Addr} (n : Nod Z H o a F F') : ∀ b ∈ F', b ∈ F := by
  rcases n with ⟨_, _, e⟩ | ⟨e, _⟩
  · rw [e]; intro b h; cases h
  · rw [e]; intro b h; exact List.mem_cons_of_mem _ h
theorem NodL.sub {Z H : Hp} {vs : List V} {a : Addr} {F F' : List Addr} (n : NodL Z H vs a F F') : ∀ b ∈ F', b ∈ F := by
  rcases n with ⟨_, _, e⟩ | ⟨e, _⟩
  · rw [e]; intro b h; cases h
  · rw [e]; intro b h; exact List.mem_cons_of_mem _ h

section
variable {G : Gc} {Z Z' H H' : Hp}
mutual
/-- data stay where the heap keeps their owned nodes and the tuples, and Z grows -/
theorem Own.keep {Z Z' : Hp} (hz : Same Z Z') : ∀ (d : D) (v : V) (F : List Addr), (∀ b u, H b = some u → (b ∈ F ∨ Still u) → H' b = some u) → Own G Z H d v F → Own G Z' H' d v F
  | .non, _, _, _, h => h
  | .bl _, _, _, _, h => h
  | .int _, _, _, _, h => h
  | .str _, _, _, _, h => h
  | .scr _, _, _, _, h => ⟨h.1, h.2.imp fun _ z => ⟨z.1, hz.seq z.2⟩⟩
  | .tupF f ds, v, F, k, h => by
    obtain ⟨a, vs, e, h1, h2⟩ := h
    exact ⟨a, vs, e, h1.keep fun b u q st => k b u q (.inr st), OwnL.keep hz ds vs F k h2⟩
  | .lst ds, v, F, k, h => by
    obtain ⟨a, vs, F', e, n, h2⟩ := h
    exact ⟨a, vs, F', e, Same.nodL hz (fun b u q m => k b u q (.inl m)) n, OwnL.keep hz ds vs F' (fun b u q m => k b u q (m.imp (n.sub b) id)) h2⟩
  | .dk ks ds, v, F, k, h => by
    obtain ⟨a, vs, F', e, l, n, h2⟩ := h
    exact ⟨a, vs, F', e, l, Same.nod hz (fun b u q m => k b u q (.inl m)) n, OwnL.keep hz ds vs F' (fun b u q m => k b u q (m.imp (n.sub b) id)) h2⟩
  | .dt ks ds, v, F, k, h => by
    obtain ⟨a, vs, F', e, l, n, h2⟩ := h
    exact ⟨a, vs, F', e, l, Same.nod hz (fun b u q m => k b u q (.inl m)) n, OwnL.keep hz ds vs F' (fun b u q m => k b u q (m.imp (n.sub b) id)) h2⟩
  | .obj c fs ds, v, F, k, h => by
    obtain ⟨a, vs, F', C, dx, e, ec, l, n, h2⟩ := h
    exact ⟨a, vs, F', C, dx, e, ec, l, Same.nod hz (fun b u q m => k b u q (.inl m)) n, OwnL.keep hz ds vs F' (fun b u q m => k b u q (m.imp (n.sub b) id)) h2⟩
  | .fob c fs ds, v, F, k, h => by
    obtain ⟨a, vs, C, dx, e, ec, l, n, h2⟩ := h
    exact ⟨a, vs, C, dx, e, ec, l, n, OwnL.keep hz ds vs F k h2⟩
  | .exn c, v, F, k, h => h
  | .bor d, v, F, k, h => ⟨h.1, Own.keep (Same.refl G.bo) d v [] (fun b u q m => k b u q (m.elim (fun z => by cases z) .inr)) h.2.1, h.2.2⟩
theorem OwnL.keep {Z Z' : Hp} (hz : Same Z Z') : ∀ (ds : List D) (vs : List V) (F : List Addr), (∀ b u, H b = some u → (b ∈ F ∨ Still u) → H' b = some u) → OwnL G Z H ds vs F → OwnL G Z' H' ds vs F
  | [], _, _, _, h => h
  | d :: ds, vs, F, k, h => by
    obtain ⟨v, r, F1, F2, e1, e2, h1, h2⟩ := h
    subst e2
    exact ⟨v, r, F1, F2, e1, rfl, Own.keep hz d v F1 (fun b u q m => k b u q (m.imp (fun z => List.mem_append_left _ z) id)) h1, OwnL.keep hz ds r F2 (fun b u q m => k b u q (m.imp (fun z => List.mem_append_right _ z) id)) h2⟩
end
mutual
/-- data are read in all of the heap -/
theorem Own.rep (hz : Same Z H) : ∀ (d : D) (v : V) (F : List Addr), Own G Z H d v F → Own G H H d v []
  | .non, _, _, h => ⟨h.1, rfl⟩
  | .bl _, _, _, h => ⟨h.1, rfl⟩
  | .int _, _, _, h => ⟨h.1, rfl⟩
  | .str _, _, _, h => ⟨h.1, rfl⟩
  | .scr _, _, _, h => ⟨rfl, h.2.imp fun _ z => ⟨z.1, hz.seq z.2⟩⟩
  | .tupF f ds, v, F, h => by
    obtain ⟨a, vs, e, h1, h2⟩ := h
    exact ⟨a, vs, e, h1, OwnL.rep hz ds vs F h2⟩
  | .lst ds, v, F, h => by
    obtain ⟨a, vs, F', e, n, h2⟩ := h
    refine ⟨a, vs, [], e, .inl ⟨?_, rfl, rfl⟩, OwnL.rep hz ds vs F' h2⟩
    rcases n with ⟨h, _⟩ | ⟨_, h⟩
    · exact Same.rd hz h
    · exact Rd.of h
  | .dk ks ds, v, F, h => by
    obtain ⟨a, vs, F', e, l, n, h2⟩ := h
    refine ⟨a, vs, [], e, l, .inl ⟨?_, rfl, rfl⟩, OwnL.rep hz ds vs F' h2⟩
    rcases n with ⟨h, _⟩ | ⟨_, h⟩
    · exact hz _ _ h
    · exact h
  | .dt ks ds, v, F, h => by
    obtain ⟨a, vs, F', e, l, n, h2⟩ := h
    refine ⟨a, vs, [], e, l, .inl ⟨?_, rfl, rfl⟩, OwnL.rep hz ds vs F' h2⟩
    rcases n with ⟨h, _⟩ | ⟨_, h⟩
    · exact hz _ _ h
    · exact h
  | .obj c fs ds, v, F, h => by
    obtain ⟨a, vs, F', C, dx, e, ec, l, n, h2⟩ := h
    refine ⟨a, vs, [], C, dx, e, ec, l, .inl ⟨?_, rfl, rfl⟩, OwnL.rep hz ds vs F' h2⟩
    rcases n with ⟨h, _⟩ | ⟨_, h⟩
    · exact hz _ _ h
    · exact h
  | .fob c fs ds, v, F, h => by
    obtain ⟨a, vs, C, dx, e, ec, l, n, h2⟩ := h
    exact ⟨a, vs, C, dx, e, ec, l, n, OwnL.rep hz ds vs F h2⟩
  | .exn c, v, F, h => ⟨rfl, h.2⟩
  | .bor d, v, F, h => ⟨rfl, h.2⟩
theorem OwnL.rep (hz : Same Z H) : ∀ (ds : List D) (vs : List V) (F : List Addr), OwnL G Z H ds vs F → OwnL G H H ds vs []
  | [], _, _, h => ⟨h.1, rfl⟩
  | d :: ds, vs, F, h => by
    obtain ⟨v, r, F1, F2, e1, e2, h1, h2⟩ := h
    exact ⟨v, r, [], [], e1, rfl, Own.rep hz d v F1 h1, OwnL.rep hz ds r F2 h2⟩
end
mutual
/-- owned nodes frozen -/
theorem Own.freeze (hz : Same Z Z') : ∀ (d : D) (v : V) (F : List Addr), (∀ b u, b ∈ F → H b = some u → Z' b = some u) → Own G Z H d v F → Own G Z' H d v []
  | .non, _, _, _, h => ⟨h.1, rfl⟩
  | .bl _, _, _, _, h => ⟨h.1, rfl⟩
  | .int _, _, _, _, h => ⟨h.1, rfl⟩
  | .str _, _, _, _, h => ⟨h.1, rfl⟩
  | .scr _, _, _, _, h => ⟨rfl, h.2.imp fun _ z => ⟨z.1, hz.seq z.2⟩⟩
  | .tupF f ds, v, F, k, h => by
    obtain ⟨a, vs, e, h1, h2⟩ := h
    exact ⟨a, vs, e, h1, OwnL.freeze hz ds vs F k h2⟩
  | .lst ds, v, F, k, h => by
    obtain ⟨a, vs, F', e, n, h2⟩ := h
    refine ⟨a, vs, [], e, .inl ⟨?_, rfl, rfl⟩, OwnL.freeze hz ds vs F' (fun b u m => k b u (n.sub b m)) h2⟩
    rcases n with ⟨h, _⟩ | ⟨e, h⟩
    · exact Same.rd hz h
    · exact Rd.of (k _ _ (by rw [e]; exact List.mem_cons_self) h)
  | .dk ks ds, v, F, k, h => by
    obtain ⟨a, vs, F', e, l, n, h2⟩ := h
    refine ⟨a, vs, [], e, l, .inl ⟨?_, rfl, rfl⟩, OwnL.freeze hz ds vs F' (fun b u m => k b u (n.sub b m)) h2⟩
    rcases n with ⟨h, _⟩ | ⟨e, h⟩
    · exact hz _ _ h
    · exact k _ _ (by rw [e]; exact List.mem_cons_self) h
  | .dt ks ds, v, F, k, h => by
    obtain ⟨a, vs, F', e, l, n, h2⟩ := h
    refine ⟨a, vs, [], e, l, .inl ⟨?_, rfl, rfl⟩, OwnL.freeze hz ds vs F' (fun b u m => k b u (n.sub b m)) h2⟩
    rcases n with ⟨h, _⟩ | ⟨e, h⟩
    · exact hz _ _ h
    · exact k _ _ (by rw [e]; exact List.mem_cons_self) h
  | .obj c fs ds, v, F, k, h => by
    obtain ⟨a, vs, F', C, dx, e, ec, l, n, h2⟩ := h
    refine ⟨a, vs, [], C, dx, e, ec, l, .inl ⟨?_, rfl, rfl⟩, OwnL.freeze hz ds vs F' (fun b u m => k b u (n.sub b m)) h2⟩
    rcases n with ⟨h, _⟩ | ⟨e, h⟩
    · exact hz _ _ h
    · exact k _ _ (by rw [e]; exact List.mem_cons_self) h
  | .fob c fs ds, v, F, k, h => by
    obtain ⟨a, vs, C, dx, e, ec, l, n, h2⟩ := h
    exact ⟨a, vs, C, dx, e, ec, l, n, OwnL.freeze hz ds vs F k h2⟩
  | .exn c, v, F, k, h => ⟨rfl, h.2⟩
  | .bor d, v, F, k, h => ⟨rfl, h.2⟩
theorem OwnL.freeze (hz : Same Z Z') : ∀ (ds : List D) (vs : List V) (F : List Addr), (∀ b u, b ∈ F → H b = some u → Z' b = some u) → OwnL G Z H ds vs F → OwnL G Z' H ds vs []
  | [], _, _, _, h => ⟨h.1, rfl⟩
  | d :: ds, vs, F, k, h => by
    obtain ⟨v, r, F1, F2, e1, e2, h1, h2⟩ := h
    subst e2
    exact ⟨v, r, [], [], e1, rfl, Own.freeze hz d v F1 (fun b u m => k b u (List.mem_append_left _ m)) h1, OwnL.freeze hz ds r F2 (fun b u m => k b u (List.mem_append_right _ m)) h2⟩
end
mutual
/-- owned nodes stand in the heap, and may be written -/
theorem Own.dom : ∀ (d : D) (v : V) (F : List Addr), Own G Z H d v F → ∀ a ∈ F, ∃ o, H a = some o ∧ Mut (some o)
  | .non, _, _, h => fun a m => by rw [h.2] at m; cases m
  | .bl _, _, _, h => fun a m => by rw [h.2] at m; cases m
  | .int _, _, _, h => fun a m => by rw [h.2] at m; cases m
  | .str _, _, _, h => fun a m => by rw [h.2] at m; cases m
  | .scr _, _, _, h => fun a m => by rw [h.1] at m; cases m
  | .tupF f ds, v, F, h => by
    obtain ⟨a, vs, e, h1, h2⟩ := h
    exact OwnL.dom ds vs F h2
  | .lst ds, v, F, h => by
    obtain ⟨a, vs, F', e, n, h2⟩ := h
    rcases n with ⟨_, e, _⟩ | ⟨e, q⟩
    · rw [e]; intro a m; cases m
    · rw [e]
      intro b m
      rcases List.mem_cons.mp m with rfl | m
      · exact ⟨_, q, trivial⟩
      · exact OwnL.dom ds vs F' h2 b m
  | .dk ks ds, v, F, h => by
    obtain ⟨a, vs, F', e, l, n, h2⟩ := h
    rcases n with ⟨_, e, _⟩ | ⟨e, q⟩
    · rw [e]; intro a m; cases m
    · rw [e]
      intro b m
      rcases List.mem_cons.mp m with rfl | m
      · exact ⟨_, q, trivial⟩
      · exact OwnL.dom ds vs F' h2 b m
  | .dt ks ds, v, F, h => by
    obtain ⟨a, vs, F', e, l, n, h2⟩ := h
    rcases n with ⟨_, e, _⟩ | ⟨e, q⟩
    · rw [e]; intro a m; cases m
    · rw [e]
      intro b m
      rcases List.mem_cons.mp m with rfl | m
      · exact ⟨_, q, trivial⟩
      · exact OwnL.dom ds vs F' h2 b m
  | .obj c fs ds, v, F, h => by
    obtain ⟨a, vs, F', C, dx, e, ec, l, n, h2⟩ := h
    rcases n with ⟨_, e, _⟩ | ⟨e, q⟩
    · rw [e]; intro a m; cases m
    · rw [e]
      intro b m
      rcases List.mem_cons.mp m with rfl | m
      · exact ⟨_, q, trivial⟩
      · exact OwnL.dom ds vs F' h2 b m
  | .fob c fs ds, v, F, h => by
    obtain ⟨a, vs, C, dx, e, ec, l, n, h2⟩ := h
    exact OwnL.dom ds vs F h2
  | .exn c, v, F, h => fun a m => by rw [h.1] at m; cases m
  | .bor d, v, F, h => fun a m => by rw [h.1] at m; cases m
theorem OwnL.dom : ∀ (ds : List D) (vs : List V) (F : List Addr), OwnL G Z H ds vs F → ∀ a ∈ F, ∃ o, H a = some o ∧ Mut (some o)
  | [], _, _, h => fun a m => by rw [h.2] at m; cases m
  | d :: ds, vs, F, h => by
    obtain ⟨v, r, F1, F2, e1, e2, h1, h2⟩ := h
    subst e2
    intro a m
    rcases List.mem_append.mp m with m | m
    · exact Own.dom d v F1 h1 a m
    · exact OwnL.dom ds r F2 h2 a m
end
mutual
/-- pure data own nothing and lean on no frozen node -/
theorem Own.ofPure : ∀ (d : D) (v : V) (F : List Addr), d.pure = true → Own G Z H d v F → F = [] ∧ Own G Z' H d v []
  | .non, _, _, _, h => ⟨h.2, h.1, rfl⟩
  | .bl _, _, _, _, h => ⟨h.2, h.1, rfl⟩
  | .int _, _, _, _, h => ⟨h.2, h.1, rfl⟩
  | .str _, _, _, _, h => ⟨h.2, h.1, rfl⟩
  | .tupF f ds, v, F, p, h => by
    obtain ⟨a, vs, e, h1, h2⟩ := h
    obtain ⟨q1, q2⟩ := OwnL.ofPure ds vs F p h2
    exact ⟨q1, a, vs, e, h1, q2⟩
  | .scr _, v, F, p, h => by cases p
  | .lst ds, v, F, p, h => by cases p
  | .dk ks ds, v, F, p, h => by cases p
  | .dt ks ds, v, F, p, h => by cases p
  | .obj c fs ds, v, F, p, h => by cases p
  | .fob c fs ds, v, F, p, h => by cases p
  | .exn c, v, F, p, h => by cases p
  | .bor d, v, F, p, h => ⟨h.1, rfl, h.2⟩
theorem OwnL.ofPure : ∀ (ds : List D) (vs : List V) (F : List Addr), D.pureL ds = true → OwnL G Z H ds vs F → F = [] ∧ OwnL G Z' H ds vs []
  | [], _, _, _, h => ⟨h.2, h.1, rfl⟩
  | d :: ds, vs, F, p, h => by
    obtain ⟨v, r, F1, F2, e1, e2, h1, h2⟩ := h
    have p' : (d.pure && D.pureL ds) = true := p
    simp only [Bool.and_eq_true] at p'
    obtain ⟨q1, q2⟩ := Own.ofPure d v F1 p'.1 h1
    obtain ⟨r1, r2⟩ := OwnL.ofPure ds r F2 p'.2 h2
    exact ⟨by rw [e2, q1, r1]; rfl, v, r, [], [], e1, rfl, q2, r2⟩
end
theorem OwnL.length : ∀ {ds : List D} {vs : List V} {F : List Addr}, OwnL G Z H ds vs F → vs.length = ds.length
  | [], _, _, h => by rw [h.1]; rfl
  | d :: ds, vs, F, h => by
    obtain ⟨v, r, F1, F2, e1, e2, h1, h2⟩ := h
    rw [e1, List.length_cons, List.length_cons, OwnL.length h2]
theorem OwnL.append : ∀ {ds es : List D} {vs us : List V} {F F' : List Addr}, OwnL G Z H ds vs F → OwnL G Z H es us F' → OwnL G Z H (ds ++ es) (vs ++ us) (F ++ F')
  | [], es, vs, us, F, F', h, h' => by
    rw [h.1, h.2]
    exact h'
  | d :: ds, es, vs, us, F, F', h, h' => by
    obtain ⟨v, r, F1, F2, e1, e2, h1, h2⟩ := h
    subst e1 e2
    exact ⟨v, r ++ us, F1, F2 ++ F', rfl, by rw [List.append_assoc], h1, OwnL.append h2 h'⟩
theorem OwnL.get : ∀ {ds : List D} {vs : List V} {i : Nat} {d : D}, OwnL G Z H ds vs [] → ds[i]? = some d → ∃ v, vs[i]? = some v ∧ Own G Z H d v []
  | [], _, _, _, _, e => by cases e
  | d :: ds, vs, 0, d', h, e => by
    obtain ⟨v, r, F1, F2, e1, e2, h1, h2⟩ := h
    have e3 : d = d' := Option.some.inj e
    subst e1 e3
    obtain ⟨rfl, rfl⟩ := List.append_eq_nil_iff.mp e2.symm
    exact ⟨v, rfl, h1⟩
  | d :: ds, vs, i + 1, d', h, e => by
    obtain ⟨v, r, F1, F2, e1, e2, h1, h2⟩ := h
    subst e1
    obtain ⟨rfl, rfl⟩ := List.append_eq_nil_iff.mp e2.symm
    exact OwnL.get (i := i) h2 e
theorem OwnL.cons_nil {d : D} {ds : List D} {v : V} {vs : List V} (h1 : Own G Z H d v []) (h2 : OwnL G Z H ds vs []) : OwnL G Z H (d :: ds) (v :: vs) [] := ⟨v, vs, [], [], rfl, rfl, h1, h2⟩
theorem OwnL.uncons {d : D} {ds : List D} {vs : List V} (h : OwnL G Z H (d :: ds) vs []) : ∃ v r, vs = v :: r ∧ Own G Z H d v [] ∧ OwnL G Z H ds r [] := by
  obtain ⟨v, r, F1, F2, e1, e2, h1, h2⟩ := h
  obtain ⟨rfl, rfl⟩ := List.append_eq_nil_iff.mp e2.symm
  exact ⟨v, r, e1, h1, h2⟩
end
mutual
/-- nothing of the borrowed heap -/
def D.nob : D → Bool
  | .tupF _ xs => D.nobL xs
  | .lst xs => D.nobL xs
  | .dk _ vs => D.nobL vs
  | .dt _ vs => D.nobL vs
  | .obj _ _ vs => D.nobL vs
  | .bor _ => false
  | .fob _ _ _ => false
  | .non => true
  | .bl _ => true
  | .int _ => true
  | .str _ => true
  | .scr _ => true
  | .exn _ => true
def D.nobL : List D → Bool
  | [] => true
  | d :: r => d.nob && D.nobL r
end
section
variable {K : PySem.W.Frag} {cl : Str → Option Addr}
mutual
theorem Own.bo {b b' : Hp} (hs : Same b b') {H : Hp} : ∀ (Z : Hp) (d : D) (v : V) (F : List Addr), Own ⟨K, cl, b⟩ Z H d v F → Own ⟨K, cl, b'⟩ Z H d v F
  | _, .non, _, _, h => h
  | _, .bl _, _, _, h => h
  | _, .int _, _, _, h => h
  | _, .str _, _, _, h => h
  | _, .scr _, _, _, h => h
  | Z, .tupF f ds, v, F, h => by
    obtain ⟨a, vs, e, h1, h2⟩ := h
    exact ⟨a, vs, e, h1, OwnL.bo hs Z ds vs F h2⟩
  | Z, .lst ds, v, F, h => by
    obtain ⟨a, vs, F', e, n, h2⟩ := h
    exact ⟨a, vs, F', e, n, OwnL.bo hs Z ds vs F' h2⟩
  | Z, .dk ks ds, v, F, h => by
    obtain ⟨a, vs, F', e, l, n, h2⟩ := h
    exact ⟨a, vs, F', e, l, n, OwnL.bo hs Z ds vs F' h2⟩
  | Z, .dt ks ds, v, F, h => by
    obtain ⟨a, vs, F', e, l, n, h2⟩ := h
    exact ⟨a, vs, F', e, l, n, OwnL.bo hs Z ds vs F' h2⟩
  | Z, .obj c fs ds, v, F, h => by
    obtain ⟨a, vs, F', C, dx, e, ec, l, n, h2⟩ := h
    exact ⟨a, vs, F', C, dx, e, ec, l, n, OwnL.bo hs Z ds vs F' h2⟩
  | Z, .fob c fs ds, v, F, h => by
    obtain ⟨a, vs, C, dx, e, ec, l, n, h2⟩ := h
    exact ⟨a, vs, C, dx, e, ec, l, hs _ _ n, OwnL.bo hs Z ds vs F h2⟩
  | _, .exn _, _, _, h => h
  | _, .bor d, v, F, h => ⟨h.1, Own.keep hs d v [] (fun _ _ e _ => e) (Own.bo hs b d v [] h.2.1), h.2.2⟩
theorem OwnL.bo {b b' : Hp} (hs : Same b b') {H : Hp} : ∀ (Z : Hp) (ds : List D) (vs : List V) (F : List Addr), OwnL ⟨K, cl, b⟩ Z H ds vs F → OwnL ⟨K, cl, b'⟩ Z H ds vs F
  | _, [], _, _, h => h
  | Z, d :: ds, vs, F, h => by
    obtain ⟨v, r, F1, F2, e1, e2, h1, h2⟩ := h
    exact ⟨v, r, F1, F2, e1, e2, Own.bo hs Z d v F1 h1, OwnL.bo hs Z ds r F2 h2⟩
end
mutual
theorem Own.nob {b b' : Hp} {Z H : Hp} : ∀ (d : D) (v : V) (F : List Addr), d.nob = true → Own ⟨K, cl, b⟩ Z H d v F → Own ⟨K, cl, b'⟩ Z H d v F
  | .non, _, _, _, h => h
  | .bl _, _, _, _, h => h
  | .int _, _, _, _, h => h
  | .str _, _, _, _, h => h
  | .scr _, _, _, _, h => h
  | .tupF f ds, v, F, q, h => by
    obtain ⟨a, vs, e, h1, h2⟩ := h
    exact ⟨a, vs, e, h1, OwnL.nob ds vs F q h2⟩
  | .lst ds, v, F, q, h => by
    obtain ⟨a, vs, F', e, n, h2⟩ := h
    exact ⟨a, vs, F', e, n, OwnL.nob ds vs F' q h2⟩
  | .dk ks ds, v, F, q, h => by
    obtain ⟨a, vs, F', e, l, n, h2⟩ := h
    exact ⟨a, vs, F', e, l, n, OwnL.nob ds vs F' q h2⟩
  | .dt ks ds, v, F, q, h => by
    obtain ⟨a, vs, F', e, l, n, h2⟩ := h
    exact ⟨a, vs, F', e, l, n, OwnL.nob ds vs F' q h2⟩
  | .obj c fs ds, v, F, q, h => by
    obtain ⟨a, vs, F', C, dx, e, ec, l, n, h2⟩ := h
    exact ⟨a, vs, F', C, dx, e, ec, l, n, OwnL.nob ds vs F' q h2⟩
  | .exn _, _, _, _, h => h
  | .bor d, v, F, q, h => by cases q
  | .fob _ _ _, v, F, q, h => by cases q
theorem OwnL.nob {b b' : Hp} {Z H : Hp} : ∀ (ds : List D) (vs : List V) (F : List Addr), D.nobL ds = true → OwnL ⟨K, cl, b⟩ Z H ds vs F → OwnL ⟨K, cl, b'⟩ Z H ds vs F
  | [], _, _, _, h => h
  | d :: ds, vs, F, q, h => by
    have q' : (d.nob && D.nobL ds) = true := q
    simp only [Bool.and_eq_true] at q'
    obtain ⟨v, r, F1, F2, e1, e2, h1, h2⟩ := h
    exact ⟨v, r, F1, F2, e1, e2, Own.nob d v F1 q'.1 h1, OwnL.nob ds r F2 q'.2 h2⟩
end
end
def joi (B Z : Hp) : Hp := fun a => match B a with
  | some o => some o
  | none => Z a
/-- B, and what H has at F -/
def lay (B H : Hp) (F : List Addr) : Hp := fun a => if a ∈ F then H a else B a
/-- H without what stands at F -/
def cut (H : Hp) (F : List Addr) : Hp := fun a => if a ∈ F then none else H a
theorem joi_le {B Z H : Hp} (b : Same B H) (z : Same Z H) : Same (joi B Z) H := fun a o e => by
  unfold joi at e
  cases q : B a with
  | some u =>
    rw [q] at e
    cases e
    exact b _ _ q
  | none =>
    rw [q] at e
    exact z _ _ e
theorem joi_mono {B B' Z Z' H : Hp} (b : Same B B') (z : Same Z Z') (b' : Same B' H) (z' : Same Z' H) : Same (joi B Z) (joi B' Z') := fun a o e => by
  unfold joi at e ⊢
  cases q : B a with
  | some u =>
    rw [q] at e
    cases e
    rw [b _ _ q]
  | none =>
    rw [q] at e
    cases q' : B' a with
    | some u =>
      have h1 := b' _ _ q'
      have h2 := z' _ _ (z _ _ e)
      rw [h1] at h2
      exact h2
    | none => exact z _ _ e
theorem joi_right {B Z H : Hp} (b : Same B H) (z : Same Z H) : Same Z (joi B Z) := fun a o e => by
  unfold joi
  cases q : B a with
  | some u =>
    have h1 := b _ _ q
    rw [z _ _ e] at h1
    exact h1.symm
  | none => exact e
theorem joi_left {B Z : Hp} : Same B (joi B Z) := fun a o e => by
  unfold joi
  rw [e]
theorem joi_none {B Z : Hp} {a : Addr} (b : B a = none) (z : Z a = none) : joi B Z a = none := by
  unfold joi
  rw [b]
  exact z
theorem lay_le {B H : Hp} {F : List Addr} (b : Same B H) : Same (lay B H F) H := fun a o e => by
  unfold lay at e
  split at e
  · exact e
  · exact b _ _ e
theorem lay_up {B H : Hp} {F : List Addr} (b : Same B H) : Same B (lay B H F) := fun a o e => by
  unfold lay
  split
  · exact b _ _ e
  · exact e
theorem lay_in {B H : Hp} {F : List Addr} {a : Addr} (h : a ∈ F) : lay B H F a = H a := by
  unfold lay
  rw [if_pos h]
theorem lay_out {B H : Hp} {F : List Addr} {a : Addr} (h : a ∉ F) : lay B H F a = B a := by
  unfold lay
  rw [if_neg h]
theorem cut_le {H : Hp} {F : List Addr} : Same (cut H F) H := fun a o e => by
  unfold cut at e
  split at e
  · cases e
  · exact e
theorem cut_out {H : Hp} {F : List Addr} {a : Addr} (h : a ∉ F) : cut H F a = H a := by
  unfold cut
  rw [if_neg h]
theorem cut_in {H : Hp} {F : List Addr} {a : Addr} (h : a ∈ F) : cut H F a = none := by
  unfold cut
  rw [if_pos h]
theorem same_upd {H : Hp} {p : Addr} {o : HO} (h : H p = none) : Same H (upd H p o) := fun b x e => by
  rw [upd_ne (ne_of_none e h)]
  exact e
end DL
namespace DL
open PySem PySem.Spec PyProof.Rows L2
inductive Md where
  /-- owned; owned, and the caller's (an argument that is changed); frozen; the caller's, read only; owned, but being read elsewhere -/
  | own | io | shr | brw | lck
  deriving DecidableEq
abbrev Slot := Option (Md × D)
abbrev DEnv := List Slot
def Md.mut : Md → Bool
  | .own => true
  | .io => true
  | _ => false

def SlotOk (G : Gc) (B Z H : Hp) (x : Option (Option V)) (s : Option Slot) (F : List Addr) : Prop :=
  match s with
  | some (some (m, d)) => ∃ v, x = some (some v) ∧ (match m with
      | .own => Own G Z H d v F
      | .io => Own G Z H d v F
      | .shr => Own G Z H d v [] ∧ F = []
      | .brw => Own G (joi B Z) H d v [] ∧ F = []
      | .lck => Own G (joi B Z) H d v [] ∧ F = [])
  | _ => F = []

structure Good (G : Gc) (B Z H : Hp) (σ : L2.St) (env : DEnv) (Fs : Nat → List Addr) : Prop where
  sb : Same B H
  sz : Same Z H
  len : env.length = σ.length
  sl : ∀ i, SlotOk G B Z H σ[i]? env[i]? (Fs i)
  nd : ∀ i, (Fs i).Nodup
  dj : ∀ i j a, a ∈ Fs i → a ∈ Fs j → i = j
  fr : ∀ i a, a ∈ Fs i → B a = none ∧ Z a = none
  z0 : ∀ a, Z a = none
  gb : Same G.bo B

def InF (Fs : Nat → List Addr) (a : Addr) : Prop := ∃ i, a ∈ Fs i

/-- from the one state to the other: what is not the slots' own stays; the slots own what they owned and what is new -/
structure Stp (G : Gc) (B Z H : Hp) (σ : L2.St) (env : DEnv) (P : Addr → Prop) (Z' H' : Hp) (σ' : L2.St) (env' : DEnv) (Fs' : Nat → List Addr) : Prop where
  zz : Same Z Z'
  ext : ∀ a o, H a = some o → ¬ P a → H' a = some o
  good : Good G B Z' H' σ' env' Fs'
  new : ∀ a, InF Fs' a → H a = none ∨ P a
  newz : ∀ a, Z' a ≠ none → Z a ≠ none ∨ H a = none ∨ P a
  io : ∀ (j : Nat) (d : D), env[j]? = some (some (Md.io, d)) → (∃ d' : D, env'[j]? = some (some (Md.io, d'))) ∧ σ'[j]? = σ[j]?
  lk : ∀ (j : Nat) (d : D), env[j]? = some (some (Md.lck, d)) → env'[j]? = some (some (Md.lck, d)) ∧ σ'[j]? = σ[j]?
  bw : ∀ (j : Nat) (d : D), env'[j]? = some (some (Md.brw, d)) → env[j]? = some (some (Md.brw, d)) ∧ σ'[j]? = σ[j]?
  lb : ∀ (j : Nat) (d : D), env'[j]? = some (some (Md.lck, d)) → env[j]? = some (some (Md.lck, d)) ∧ σ'[j]? = σ[j]?
  ln : env'.length = env.length

/-- a value at hand, owned by nobody else -/
structure Tm (G : Gc) (B Z H : Hp) (P : Addr → Prop) (d : D) (v : V) (F : List Addr) : Prop where
  own : Own G Z H d v F
  nd : F.Nodup
  dj : ∀ a, a ∈ F → ¬ P a
  fr : ∀ a, a ∈ F → B a = none ∧ Z a = none

section
variable {G : Gc} {B Z H Z' H' Z'' H'' : Hp} {σ σ' σ'' : L2.St} {env env' env'' : DEnv} {Fs Fs' Fs'' : Nat → List Addr}
theorem SlotOk.dom {x : Option (Option V)} {s : Option Slot} {F : List Addr} (h : SlotOk G B Z H x s F) : ∀ a ∈ F, ∃ o, H a = some o ∧ Mut (some o) := by
  unfold SlotOk at h
  match s, h with
  | some (some (.own, d)), h => obtain ⟨v, _, h⟩ := h; exact Own.dom d v F h
  | some (some (.io, d)), h => obtain ⟨v, _, h⟩ := h; exact Own.dom d v F h
  | some (some (.shr, d)), h => obtain ⟨v, _, _, h⟩ := h; intro a m; rw [h] at m; cases m
  | some (some (.brw, d)), h => obtain ⟨v, _, _, h⟩ := h; intro a m; rw [h] at m; cases m
  | some (some (.lck, d)), h => obtain ⟨v, _, _, h⟩ := h; intro a m; rw [h] at m; cases m
  | some none, h => intro a m; rw [show F = [] from h] at m; cases m
  | none, h => intro a m; rw [show F = [] from h] at m; cases m
theorem Good.dom (g : Good G B Z H σ env Fs) {a : Addr} (h : InF Fs a) : ∃ o, H a = some o ∧ Mut (some o) := by
  obtain ⟨i, m⟩ := h
  exact (g.sl i).dom a m
/-- a tuple is nobody's own -/
theorem Good.tup (g : Good G B Z H σ env Fs) {a : Addr} {u : HO} (h : H a = some u) (hs : Still u) : ¬ InF Fs a := fun m => by
  obtain ⟨o, e, mu⟩ := g.dom m
  rw [h] at e
  cases e
  exact hs mu
theorem SlotOk.keep {x : Option (Option V)} {s : Option Slot} {F : List Addr} (h : SlotOk G B Z H x s F) (b : Same B H) (z : Same Z H) (b' : Same B H') (z' : Same Z' H') (hz : Same Z Z')
    (k : ∀ a u, H a = some u → (a ∈ F ∨ Still u) → H' a = some u) : SlotOk G B Z' H' x s F := by
  have j : Same (joi B Z) (joi B Z') := joi_mono (Same.refl B) hz b' z'
  have k0 : ∀ a u, H a = some u → (a ∈ ([] : List Addr) ∨ Still u) → H' a = some u := fun a u e m => k a u e (m.imp (fun z => by cases z) id)
  unfold SlotOk at h ⊢
  match s, h with
  | some (some (.own, d)), h => obtain ⟨v, e, h⟩ := h; exact ⟨v, e, Own.keep hz d v F k h⟩
  | some (some (.io, d)), h => obtain ⟨v, e, h⟩ := h; exact ⟨v, e, Own.keep hz d v F k h⟩
  | some (some (.shr, d)), h => obtain ⟨v, e, h, f⟩ := h; exact ⟨v, e, Own.keep hz d v [] k0 h, f⟩
  | some (some (.brw, d)), h => obtain ⟨v, e, h, f⟩ := h; exact ⟨v, e, Own.keep j d v [] k0 h, f⟩
  | some (some (.lck, d)), h => obtain ⟨v, e, h, f⟩ := h; exact ⟨v, e, Own.keep j d v [] k0 h, f⟩
  | some none, h => exact h
  | none, h => exact h

variable {P P' P1 : Addr → Prop}
/-- what is owned may be written -/
def PMut (H : Hp) (P : Addr → Prop) : Prop := ∀ a, P a → ∃ o, H a = some o ∧ Mut (some o)
theorem PMut.tup (p : PMut H P) {a : Addr} {u : HO} (h : H a = some u) (hs : Still u) : ¬ P a := fun m => by
  obtain ⟨o, e, mu⟩ := p a m
  rw [h] at e
  cases e
  exact hs mu
theorem Good.pm (g : Good G B Z H σ env Fs) : PMut H (InF Fs) := fun _ h => g.dom h
theorem Stp.refl (g : Good G B Z H σ env Fs) (hp : ∀ a, InF Fs a → P a) : Stp G B Z H σ env P Z H σ env Fs :=
  ⟨Same.refl Z, fun _ _ e _ => e, g, fun a m => .inr (hp a m), fun _ m => .inl m, fun j d e => ⟨⟨d, e⟩, rfl⟩, fun j d e => ⟨e, rfl⟩, fun j d e => ⟨e, rfl⟩, fun j d e => ⟨e, rfl⟩, rfl⟩
theorem Stp.trans (a : Stp G B Z H σ env P Z' H' σ' env' Fs') (hp : ∀ x, P1 x → H x = none ∨ P x) (b : Stp G B Z' H' σ' env' P1 Z'' H'' σ'' env'' Fs'') : Stp G B Z H σ env P Z'' H'' σ'' env'' Fs'' := by
  have back : ∀ x, H' x = none → H x = none ∨ P x := fun x z => by
    cases q : H x with
    | none => exact .inl rfl
    | some o =>
      refine .inr ?_
      by_cases n : P x
      · exact n
      · have := a.ext x o q n
        rw [z] at this; cases this
  refine ⟨a.zz.trans b.zz, fun x o e n => b.ext x o (a.ext x o e n) fun m => ?_, b.good, fun x m => ?_, fun x m => ?_, fun j d e => ?_, fun j d e => ?_, fun j d e => ?_, fun j d e => ?_, b.ln.trans a.ln⟩
  · rcases hp x m with z | z
    · rw [e] at z; cases z
    · exact n z
  · rcases b.new x m with z | z
    · exact back x z
    · exact hp x z
  · rcases b.newz x m with z | z | z
    · exact a.newz x z
    · exact .inr (back x z)
    · exact .inr (hp x z)
  · obtain ⟨⟨d', e1⟩, s1⟩ := a.io j d e
    obtain ⟨q, s2⟩ := b.io j d' e1
    exact ⟨q, s2.trans s1⟩
  · obtain ⟨e1, s1⟩ := a.lk j d e
    obtain ⟨q, s2⟩ := b.lk j d e1
    exact ⟨q, s2.trans s1⟩
  · obtain ⟨e1, s1⟩ := b.bw j d e
    obtain ⟨q, s2⟩ := a.bw j d e1
    exact ⟨q, s1.trans s2⟩
  · obtain ⟨e1, s1⟩ := b.lb j d e
    obtain ⟨q, s2⟩ := a.lb j d e1
    exact ⟨q, s1.trans s2⟩
/-- .. where more is owned at the start -/
theorem Stp.more (a : Stp G B Z H σ env P Z' H' σ' env' Fs') (hp : ∀ x, P x → P1 x) : Stp G B Z H σ env P1 Z' H' σ' env' Fs' :=
  ⟨a.zz, fun x o e n => a.ext x o e fun m => n (hp x m), a.good, fun x m => (a.new x m).imp id (hp x), fun x m => (a.newz x m).imp id fun z => z.imp id (hp x), a.io, a.lk, a.bw, a.lb, a.ln⟩
/-- the heap grows by what nobody owns -/
theorem Good.grow (g : Good G B Z H σ env Fs) (h : Same H H') : Good G B Z H' σ env Fs :=
  ⟨g.sb.trans h, g.sz.trans h, g.len, fun i => (g.sl i).keep g.sb g.sz (g.sb.trans h) (g.sz.trans h) (Same.refl Z) fun a u e _ => h a u e, g.nd, g.dj, g.fr, g.z0, g.gb⟩
theorem Stp.grow (g : Good G B Z H σ env Fs) (hp : ∀ a, InF Fs a → P a) (h : Same H H') : Stp G B Z H σ env P Z H' σ env Fs :=
  ⟨Same.refl Z, fun a o e _ => h a o e, g.grow h, fun a m => .inr (hp a m), fun _ m => .inl m, fun j d e => ⟨⟨d, e⟩, rfl⟩, fun j d e => ⟨e, rfl⟩, fun j d e => ⟨e, rfl⟩, fun j d e => ⟨e, rfl⟩, rfl⟩
theorem Tm.dom {d : D} {v : V} {F : List Addr} (t : Tm G B Z H P d v F) {a : Addr} (m : a ∈ F) : ∃ o, H a = some o := by
  obtain ⟨o, e, _⟩ := Own.dom d v F t.own a m
  exact ⟨o, e⟩
/-- a value at hand stays at hand -/
theorem Tm.step {d : D} {v : V} {F : List Addr} (t : Tm G B Z H P d v F) (pm : PMut H P) (s : Stp G B Z H σ env P Z' H' σ' env' Fs') (hp : ∀ x, P1 x → H x = none ∨ P x) : Tm G B Z' H' P1 d v F where
  own := Own.keep s.zz d v F (fun a u e m => s.ext a u e (by
    rcases m with m | nm
    · exact t.dj a m
    · exact pm.tup e nm)) t.own
  nd := t.nd
  dj := fun a m z => by
    obtain ⟨o, e⟩ := t.dom m
    rcases hp a z with q | q
    · rw [e] at q; cases q
    · exact t.dj a m q
  fr := fun a m => by
    refine ⟨(t.fr a m).1, ?_⟩
    cases q : Z' a with
    | none => rfl
    | some u =>
      obtain ⟨o, e⟩ := t.dom m
      rcases s.newz a (by rw [q]; simp) with z | z | z
      · exact absurd (t.fr a m).2 z
      · rw [e] at z; cases z
      · exact absurd z (t.dj a m)
theorem Tm.grow {d : D} {v : V} {F : List Addr} (t : Tm G B Z H P d v F) (h : Same H H') : Tm G B Z H' P d v F :=
  ⟨Own.keep (Same.refl Z) d v F (fun a u e _ => h a u e) t.own, t.nd, t.dj, t.fr⟩
theorem Tm.pure {d : D} {v : V} (h : Own G Z H d v []) : Tm G B Z H P d v [] := ⟨h, List.nodup_nil, fun a m => (by cases m), fun a m => (by cases m)⟩
def lock1 : Slot → Slot
  | some (.own, d) => some (.lck, d)
  | some (.io, d) => some (.lck, d)
  | s => s
def lock (i : Nat) (env : DEnv) : DEnv := env.modify i lock1
def unl1 : Slot → Slot → Slot
  | some (.own, _), some (.lck, d) => some (.own, d)
  | some (.io, _), some (.lck, d) => some (.io, d)
  | _, s => s
def unlock (e0 e : DEnv) : DEnv := List.zipWith unl1 e0 e
theorem lock_at {i j : Nat} : (lock i env)[j]? = if i = j then env[j]?.map lock1 else env[j]? := by
  unfold lock
  rw [List.getElem?_modify]
  split
  · rfl
  · simp
theorem unlock_at {e0 e : DEnv} {j : Nat} : (unlock e0 e)[j]? = match e0[j]?, e[j]? with
    | some a, some b => some (unl1 a b)
    | _, _ => none := by
  unfold unlock
  rw [List.getElem?_zipWith]
  cases e0[j]? <;> cases e[j]? <;> rfl

/-- the footprints without slot i's -/
def offF (Fs : Nat → List Addr) (i : Nat) : Nat → List Addr := fun j => if j = i then [] else Fs j
def onF (Fs : Nat → List Addr) (i : Nat) (F : List Addr) : Nat → List Addr := fun j => if j = i then F else Fs j
theorem inF_off {i : Nat} {a : Addr} (h : InF (offF Fs i) a) : InF Fs a := by
  obtain ⟨j, m⟩ := h
  unfold offF at m
  split at m
  · cases m
  · exact ⟨j, m⟩
theorem inF_on {i : Nat} {F : List Addr} {a : Addr} (h : InF (onF Fs i F) a) : a ∈ F ∨ InF Fs a := by
  obtain ⟨j, m⟩ := h
  unfold onF at m
  split at m
  · exact .inl m
  · exact .inr ⟨j, m⟩
/-- B with slot i's own nodes laid in -/
def lockB (B H : Hp) (Fs : Nat → List Addr) (i : Nat) : Hp := lay B H (Fs i)
theorem lockB_le (g : Good G B Z H σ env Fs) (i : Nat) : Same (lockB B H Fs i) H := lay_le g.sb
theorem lockB_up (g : Good G B Z H σ env Fs) (i : Nat) : Same B (lockB B H Fs i) := lay_up g.sb

theorem Good.lock (g : Good G B Z H σ env Fs) (i : Nat) : Good G (lockB B H Fs i) Z H σ (lock i env) (offF Fs i) where
  sb := lockB_le g i
  sz := g.sz
  z0 := g.z0
  gb := g.gb.trans (lockB_up g i)
  len := by unfold DL.lock; rw [List.length_modify]; exact g.len
  sl := fun j => by
    have j1 : Same (joi B Z) (joi (lockB B H Fs i) Z) := joi_mono (lockB_up g i) (Same.refl Z) (lockB_le g i) g.sz
    have z1 : Same Z (joi (lockB B H Fs i) Z) := joi_right (lockB_le g i) g.sz
    have h := g.sl j
    have k0 : ∀ a u, H a = some u → (a ∈ ([] : List Addr) ∨ Still u) → H a = some u := fun a u e _ => e
    rw [lock_at]
    by_cases e : i = j
    · subst e
      rw [if_pos rfl]
      have eo : offF Fs i i = [] := by unfold offF; rw [if_pos rfl]
      rw [eo]
      have kf : ∀ b u, b ∈ Fs i → H b = some u → joi (lockB B H Fs i) Z b = some u := fun b u m q => joi_left b u (by unfold lockB; rw [lay_in m]; exact q)
      unfold SlotOk at h ⊢
      match hs : env[i]?, h with
      | some (some (.own, d)), h => obtain ⟨v, e, h⟩ := h; exact ⟨v, e, Own.freeze z1 d v _ kf h, rfl⟩
      | some (some (.io, d)), h => obtain ⟨v, e, h⟩ := h; exact ⟨v, e, Own.freeze z1 d v _ kf h, rfl⟩
      | some (some (.shr, d)), h => obtain ⟨v, e, h, f⟩ := h; exact ⟨v, e, h, rfl⟩
      | some (some (.brw, d)), h => obtain ⟨v, e, h, f⟩ := h; exact ⟨v, e, Own.keep j1 d v [] k0 h, rfl⟩
      | some (some (.lck, d)), h => obtain ⟨v, e, h, f⟩ := h; exact ⟨v, e, Own.keep j1 d v [] k0 h, rfl⟩
      | some none, h => rfl
      | none, h => rfl
    · rw [if_neg e]
      have eo : offF Fs i j = Fs j := by unfold offF; rw [if_neg (fun z => e z.symm)]
      rw [eo]
      unfold SlotOk at h ⊢
      match hs : env[j]?, h with
      | some (some (.own, d)), h => exact h
      | some (some (.io, d)), h => exact h
      | some (some (.shr, d)), h => exact h
      | some (some (.brw, d)), h => obtain ⟨v, e, h, f⟩ := h; exact ⟨v, e, Own.keep j1 d v [] k0 h, f⟩
      | some (some (.lck, d)), h => obtain ⟨v, e, h, f⟩ := h; exact ⟨v, e, Own.keep j1 d v [] k0 h, f⟩
      | some none, h => exact h
      | none, h => exact h
  nd := fun j => by unfold offF; split; exact List.nodup_nil; exact g.nd j
  dj := fun j k a m n => by
    unfold offF at m n
    split at m
    · cases m
    · split at n
      · cases n
      · exact g.dj j k a m n
  fr := fun j a m => by
    unfold offF at m
    split at m
    · cases m
    · rename_i e
      refine ⟨?_, (g.fr j a m).2⟩
      unfold lockB
      rw [lay_out fun n => e (g.dj j i a m n)]
      exact (g.fr j a m).1

/-- a slot of a locked state, seen without the lock -/
theorem SlotOk.unlk {B1 : Hp} {x y : Option (Option V)} {s : Option Slot} {s0 : Option Slot} {F F0 : List Addr} (h : SlotOk G B1 Z' H' x s F) (h0 : SlotOk G B Z H y s0 F0) (zz : Same Z Z') (sb' : Same B H') (sz' : Same Z' H')
    (kt : ∀ a u, H a = some u → Still u → H' a = some u) (hb : ∀ d, s = some (some (.brw, d)) → s0 = some (some (.brw, d)) ∧ x = y) (hl : ∀ d, s = some (some (.lck, d)) → s0 = some (some (.lck, d)) ∧ x = y) : SlotOk G B Z' H' x s F := by
  have kk : ∀ (a : Addr) (u : HO), H a = some u → (a ∈ ([] : List Addr) ∨ Still u) → H' a = some u := fun a u e m => by
    rcases m with m | nm
    · cases m
    · exact kt a u e nm
  unfold SlotOk at h ⊢
  match s, h, hb, hl with
  | some (some (.own, d)), h, _, _ => exact h
  | some (some (.io, d)), h, _, _ => exact h
  | some (some (.shr, d)), h, _, _ => exact h
  | some (some (.brw, d)), h, hb, _ =>
    obtain ⟨v, ev, _, f⟩ := h
    obtain ⟨q, exy⟩ := hb d rfl
    rw [q] at h0
    obtain ⟨u, eu, hu, _⟩ := h0
    rw [← exy, ev] at eu
    have euv : v = u := Option.some.inj (Option.some.inj eu)
    subst euv
    exact ⟨v, ev, Own.keep (joi_mono (Same.refl B) zz sb' sz') d v [] kk hu, f⟩
  | some (some (.lck, d)), h, _, hl =>
    obtain ⟨v, ev, _, f⟩ := h
    obtain ⟨q, exy⟩ := hl d rfl
    rw [q] at h0
    obtain ⟨u, eu, hu, _⟩ := h0
    rw [← exy, ev] at eu
    have euv : v = u := Option.some.inj (Option.some.inj eu)
    subst euv
    exact ⟨v, ev, Own.keep (joi_mono (Same.refl B) zz sb' sz') d v [] kk hu, f⟩
  | some none, h, _, _ => exact h
  | none, h, _, _ => exact h

/-- slot i's own nodes, given back -/
def backF (env : DEnv) (Fs F2 : Nat → List Addr) (i : Nat) : Nat → List Addr := fun j => if j = i then (match env[i]? with
  | some (some (.own, _)) => Fs i
  | some (some (.io, _)) => Fs i
  | _ => F2 i) else F2 j
theorem backF_ne {F2 : Nat → List Addr} {i j : Nat} (h : j ≠ i) : backF env Fs F2 i j = F2 j := by
  unfold backF
  rw [if_neg h]
theorem backF_same {F2 : Nat → List Addr} {i : Nat} : backF env Fs F2 i i = (match env[i]? with
  | some (some (.own, _)) => Fs i
  | some (some (.io, _)) => Fs i
  | _ => F2 i) := by
  unfold backF
  rw [if_pos rfl]
theorem backF_mem {F2 : Nat → List Addr} {i j : Nat} {a : Addr} (h : a ∈ backF env Fs F2 i j) : (j = i ∧ a ∈ Fs i) ∨ a ∈ F2 j := by
  by_cases e : j = i
  · subst e
    rw [backF_same] at h
    split at h
    · exact .inl ⟨rfl, h⟩
    · exact .inl ⟨rfl, h⟩
    · exact .inr h
  · rw [backF_ne e] at h
    exact .inr h
theorem lock_none {i : Nat} (h : ∀ d, env[i]? ≠ some (some (.own, d)) ∧ env[i]? ≠ some (some (.io, d))) : lock i env = env := by
  apply List.ext_getElem?
  intro j
  rw [lock_at]
  split
  · rename_i e
    subst e
    cases q : env[i]? with
    | none => rfl
    | some s =>
      match s with
      | none => rfl
      | some (.own, d) => exact absurd q (h d).1
      | some (.io, d) => exact absurd q (h d).2
      | some (.shr, d) => rfl
      | some (.brw, d) => rfl
      | some (.lck, d) => rfl
  · rfl
theorem Stp.unlock {i : Nat} {Z2 H2 : Hp} {σ2 : L2.St} {e2 : DEnv} {F2 : Nat → List Addr} (g : Good G B Z H σ env Fs) (pm : PMut H P') (hp : ∀ a, P' a → P a ∧ a ∉ Fs i) (hi : ∀ a, a ∈ Fs i → P a) (s : Stp G (lockB B H Fs i) Z H σ (DL.lock i env) P' Z2 H2 σ2 e2 F2) :
    Stp G B Z H σ env P Z2 H2 σ2 (DL.unlock env e2) (backF env Fs F2 i) := by
  have gl := s.good
  have keepi : ∀ a o, a ∈ Fs i → H a = some o → H2 a = some o := fun a o m e => gl.sb a o (by unfold lockB; rw [lay_in m]; exact e)
  have keept : ∀ a u, H a = some u → Still u → H2 a = some u := fun a u e st => s.ext a _ e (pm.tup e st)
  have frz2 : ∀ a, a ∈ Fs i → Z2 a = none := fun a m => by
    cases q : Z2 a with
    | none => rfl
    | some u =>
      rcases s.newz a (by rw [q]; simp) with z | z | z
      · exact absurd (g.fr i a m).2 z
      · obtain ⟨o, e, _⟩ := g.dom ⟨i, m⟩
        rw [e] at z; cases z
      · exact absurd m (hp a z).2
  have ndi : ∀ a, a ∈ Fs i → ∀ j, a ∉ F2 j := fun a m j n => by
    rcases s.new a ⟨j, n⟩ with z | z
    · obtain ⟨o, e, _⟩ := g.dom ⟨i, m⟩
      rw [e] at z; cases z
    · exact absurd m (hp a z).2
  have sb2 : Same B H2 := (lockB_up g i).trans gl.sb
  have llk : (DL.lock i env).length = env.length := by unfold DL.lock; rw [List.length_modify]
  have ln2 : e2.length = env.length := s.ln.trans llk
  have lke : ∀ (j : Nat), j ≠ i → (DL.lock i env)[j]? = env[j]? := fun j h => by rw [lock_at, if_neg (fun z => h z.symm)]
  -- the slots, seen without the lock
  have seen : ∀ (j : Nat), (∀ d, e2[j]? = some (some (.lck, d)) → env[j]? = some (some (.lck, d))) → SlotOk G B Z2 H2 σ2[j]? e2[j]? (F2 j) := fun j hj => by
    refine (gl.sl j).unlk (g.sl j) s.zz sb2 gl.sz keept (fun d e => ?_) fun d e => ⟨hj d e, (s.lb j d e).2⟩
    obtain ⟨q, es⟩ := s.bw j d e
    refine ⟨?_, es⟩
    rw [lock_at] at q
    split at q
    · cases h : env[j]? with
      | none => rw [h] at q; cases q
      | some sl =>
        rw [h] at q
        match sl, q with
        | some (.brw, d'), q => exact q
    · exact q
  have un : ∀ (j : Nat), (DL.unlock env e2)[j]? = match env[j]?, e2[j]? with
    | some a, some b => some (unl1 a b)
    | _, _ => none := fun j => unlock_at
  -- where nothing is unlocked
  have same_at : ∀ (j : Nat), (j ≠ i ∨ ∀ d, env[i]? ≠ some (some (.own, d)) ∧ env[i]? ≠ some (some (.io, d))) → (DL.unlock env e2)[j]? = e2[j]? ∧ ∀ d, e2[j]? = some (some (.lck, d)) → env[j]? = some (some (.lck, d)) := fun j hj => by
    have el : (DL.lock i env)[j]? = env[j]? := by
      rcases hj with h | h
      · exact lke j h
      · rw [lock_none h]
    have hl : ∀ d, e2[j]? = some (some (.lck, d)) → env[j]? = some (some (.lck, d)) := fun d e => by
      have q := (s.lb j d e).1
      rw [el] at q
      exact q
    refine ⟨?_, hl⟩
    rw [un]
    cases h1 : env[j]? with
    | none =>
      have : e2[j]? = none := List.getElem?_eq_none_iff.mpr (by rw [ln2]; exact List.getElem?_eq_none_iff.mp h1)
      rw [this]
    | some a =>
      cases h2 : e2[j]? with
      | none => rfl
      | some b =>
        show some (unl1 a b) = some b
        match b, h2 with
        | none, _ => match a with
          | none => rfl
          | some (.own, _) => rfl
          | some (.io, _) => rfl
          | some (.shr, _) => rfl
          | some (.brw, _) => rfl
          | some (.lck, _) => rfl
        | some (.lck, d), h2 =>
          have q := hl d h2
          rw [h1] at q
          cases q
          rfl
        | some (.own, _), _ => match a with
          | none => rfl
          | some (.own, _) => rfl
          | some (.io, _) => rfl
          | some (.shr, _) => rfl
          | some (.brw, _) => rfl
          | some (.lck, _) => rfl
        | some (.io, _), _ => match a with
          | none => rfl
          | some (.own, _) => rfl
          | some (.io, _) => rfl
          | some (.shr, _) => rfl
          | some (.brw, _) => rfl
          | some (.lck, _) => rfl
        | some (.shr, _), _ => match a with
          | none => rfl
          | some (.own, _) => rfl
          | some (.io, _) => rfl
          | some (.shr, _) => rfl
          | some (.brw, _) => rfl
          | some (.lck, _) => rfl
        | some (.brw, _), _ => match a with
          | none => rfl
          | some (.own, _) => rfl
          | some (.io, _) => rfl
          | some (.shr, _) => rfl
          | some (.brw, _) => rfl
          | some (.lck, _) => rfl
  -- the unlocked slot
  have at_i : ∀ (m : Md) (d : D), env[i]? = some (some (m, d)) → m.mut = true → e2[i]? = some (some (.lck, d)) ∧ σ2[i]? = σ[i]? ∧ (DL.unlock env e2)[i]? = some (some (m, d)) ∧ backF env Fs F2 i i = Fs i := fun m d e hm => by
    have q := s.lk i d (by
      rw [lock_at, if_pos rfl, e]
      cases m <;> first | rfl | cases hm)
    refine ⟨q.1, q.2, ?_, ?_⟩
    · rw [un, e, q.1]
      cases m <;> first | rfl | cases hm
    · rw [backF_same, e]
      cases m <;> first | rfl | cases hm
  have dec : (∃ m d, env[i]? = some (some (m, d)) ∧ m.mut = true) ∨ ∀ d, env[i]? ≠ some (some (.own, d)) ∧ env[i]? ≠ some (some (.io, d)) := by
    by_cases h : ∃ m d, env[i]? = some (some (m, d)) ∧ m.mut = true
    · exact .inl h
    · exact .inr fun d => ⟨fun e => h ⟨.own, d, e, rfl⟩, fun e => h ⟨.io, d, e, rfl⟩⟩
  have back_else : (∀ d, env[i]? ≠ some (some (.own, d)) ∧ env[i]? ≠ some (some (.io, d))) → backF env Fs F2 i i = F2 i := fun h => by
    rw [backF_same]
    split
    · rename_i d q; exact absurd q (h d).1
    · rename_i d q; exact absurd q (h d).2
    · rfl
  refine ⟨s.zz, fun a o e n => s.ext a o e fun m => n (hp a m).1, ⟨sb2, gl.sz, ?_, fun j => ?_, fun j => ?_, fun j k a m n => ?_, fun j a m => ?_, gl.z0, g.gb⟩, fun a m => ?_, fun a m => ?_, fun j d e => ?_, fun j d e => ?_, fun j d e => ?_, fun j d e => ?_, ?_⟩
  · unfold DL.unlock
    rw [List.length_zipWith, ln2, ← ln2, Nat.min_self]
    exact gl.len
  · by_cases hj : j = i
    · subst hj
      rcases dec with ⟨m, d, e, hm⟩ | h
      · obtain ⟨q1, q2, q3, q4⟩ := at_i m d e hm
        rw [q3, q4, q2]
        have h0 := g.sl j
        rw [e] at h0
        have kk : ∀ (a : Addr) (u : HO), H a = some u → (a ∈ Fs j ∨ Still u) → H2 a = some u := fun a u e m => by
          rcases m with m | nm
          · exact keepi a u m e
          · exact keept a u e nm
        cases m with
        | own => obtain ⟨v, ev, hv⟩ := h0; exact ⟨v, ev, Own.keep s.zz d v _ kk hv⟩
        | io => obtain ⟨v, ev, hv⟩ := h0; exact ⟨v, ev, Own.keep s.zz d v _ kk hv⟩
        | shr => cases hm
        | brw => cases hm
        | lck => cases hm
      · obtain ⟨q1, q2⟩ := same_at j (.inr h)
        rw [q1, back_else h]
        exact seen j q2
    · obtain ⟨q1, q2⟩ := same_at j (.inl hj)
      rw [q1, backF_ne hj]
      exact seen j q2
  · by_cases hj : j = i
    · subst hj
      rcases dec with ⟨m, d, e, hm⟩ | h
      · rw [(at_i m d e hm).2.2.2]; exact g.nd j
      · rw [back_else h]; exact gl.nd j
    · rw [backF_ne hj]; exact gl.nd j
  · rcases backF_mem m with ⟨ej, m2⟩ | m2
    · rcases backF_mem n with ⟨ek, n2⟩ | n2
      · rw [ej, ek]
      · exact absurd n2 (ndi a m2 k)
    · rcases backF_mem n with ⟨ek, n2⟩ | n2
      · exact absurd m2 (ndi a n2 j)
      · exact gl.dj j k a m2 n2
  · rcases backF_mem m with ⟨rfl, m⟩ | m
    · exact ⟨(g.fr j a m).1, frz2 a m⟩
    · have q := gl.fr j a m
      refine ⟨?_, q.2⟩
      cases h : B a with
      | none => rfl
      | some u =>
        have := lockB_up g i a u h
        rw [this] at q
        cases q.1
  · obtain ⟨j, m⟩ := m
    rcases backF_mem m with ⟨rfl, m⟩ | m
    · exact .inr (hi a m)
    · rcases s.new a ⟨j, m⟩ with z | z
      · exact .inl z
      · exact .inr (hp a z).1
  · rcases s.newz a m with z | z | z
    · exact .inl z
    · exact .inr (.inl z)
    · exact .inr (.inr (hp a z).1)
  · by_cases hj : j = i
    · subst hj
      obtain ⟨q1, q2, q3, q4⟩ := at_i .io d e rfl
      exact ⟨⟨d, q3⟩, q2⟩
    · obtain ⟨⟨d', q⟩, es⟩ := s.io j d (by rw [lke j hj]; exact e)
      exact ⟨⟨d', by rw [(same_at j (.inl hj)).1]; exact q⟩, es⟩
  · have nm : ∀ d', env[j]? ≠ some (some (.own, d')) ∧ env[j]? ≠ some (some (.io, d')) := fun d' => by rw [e]; exact ⟨fun z => (by cases z), fun z => (by cases z)⟩
    have q := s.lk j d (by
      by_cases hj : j = i
      · subst hj; rw [lock_none nm]; exact e
      · rw [lke j hj]; exact e)
    refine ⟨?_, q.2⟩
    by_cases hj : j = i
    · subst hj; rw [(same_at j (.inr nm)).1]; exact q.1
    · rw [(same_at j (.inl hj)).1]; exact q.1
  · by_cases hj : j = i
    · subst hj
      rcases dec with ⟨m, d', e', hm⟩ | h
      · rw [(at_i m d' e' hm).2.2.1] at e
        cases e
        cases hm
      · rw [(same_at j (.inr h)).1] at e
        have q := s.bw j d e
        rw [lock_none h] at q
        exact q
    · rw [(same_at j (.inl hj)).1] at e
      have q := s.bw j d e
      rw [lke j hj] at q
      exact q
  · by_cases hj : j = i
    · subst hj
      rcases dec with ⟨m, d', e', hm⟩ | h
      · rw [(at_i m d' e' hm).2.2.1] at e
        cases e
        cases hm
      · rw [(same_at j (.inr h)).1] at e
        have q := s.lb j d e
        rw [lock_none h] at q
        exact q
    · rw [(same_at j (.inl hj)).1] at e
      have q := s.lb j d e
      rw [lke j hj] at q
      exact q
  · unfold DL.unlock
    rw [List.length_zipWith, ln2, Nat.min_self]
end
end DL
namespace DL
open PySem PySem.Spec PyProof.Rows L2
abbrev Wsh := Str → L2.St → Hp → Prop

/-- behind an evaluation: the state, and what it hands on (the value, and what io arguments have become) -/
structure Post (G : Gc) (B Z H : Hp) (σ : L2.St) (env : DEnv) (P : Addr → Prop) (Z' H' : Hp) (env' : DEnv) (Fs' : Nat → List Addr) (ds : List D) (vs : List V) (F : List Addr) : Prop where
  st : Stp G B Z H σ env P Z' H' σ env' Fs'
  own : OwnL G Z' H' ds vs F
  nd : F.Nodup
  dj : ∀ a, a ∈ F → ¬ InF Fs' a
  fr : ∀ a, a ∈ F → B a = none ∧ Z' a = none
  new : ∀ a, a ∈ F → H a = none ∨ P a

def FinO (G : Gc) (W : Wsh) (B Z H : Hp) (σ : L2.St) (env : DEnv) (P : Addr → Prop) (ios : List V) (o : Out (D × List D × DEnv)) (Q : VK) : Prop := match o with
  | .ok (d, outs, env') => ∀ v Z' H' Fs' F, Post G B Z H σ env P Z' H' env' Fs' (d :: outs) (v :: ios) F → Q v H'
  | .exc c => ∀ H', Same B H' → W c σ H'
  | .bad => False
def FinV (G : Gc) (W : Wsh) (B Z H : Hp) (σ : L2.St) (env : DEnv) (P : Addr → Prop) (o : Out (D × DEnv)) (Q : VK) : Prop := match o with
  | .ok (d, env') => ∀ v Z' H' Fs' F, Post G B Z H σ env P Z' H' env' Fs' [d] [v] F → Q v H'
  | .exc c => ∀ H', Same B H' → W c σ H'
  | .bad => False
/-- an expression that hands on a value of its own -/
def TV (G : Gc) (W : Wsh) (f : DEnv → Out (D × DEnv)) : TE := fun σ H Q => ∃ B Z Fs env, Good G B Z H σ env Fs ∧ FinV G W B Z H σ env (InF Fs) (f env) Q
/-- an expression that changes nothing that stands, and hands on pure data -/
def TPur (G : Gc) (h : DEnv → Option D) : TE := fun σ H Q => ∃ B Z Fs env, Good G B Z H σ env Fs ∧ ∃ d, h env = some d ∧ ∀ v H', Same H H' → d.pure = true → (∀ Z', Own G Z' H' d v []) → Q v H'
/-- a place in slot i: read -/
def TPlc (G : Gc) (i : Nat) (g : DEnv → Option D) : TE := fun σ H Q => ∃ B Z Fs env, Good G B Z H σ env Fs ∧ ∃ d, g env = some d ∧ ∀ v H', Same H H' → Own G (joi (lockB B H' Fs i) Z) H' d v [] → Q v H'
/-- slot j's own value, handed over for a while -/
def TIo (j : Nat) : TE := tVar j

theorem _root_.L2.PE.imp {X : Cx} {e : Expr} {t t' : TE} (h : PE X e t) (i : ∀ σ H Q, t' σ H Q → t σ H Q) : PE X e t' := ⟨fun pins s σ H Q I hq => h.run pins s σ H Q I (i σ H Q hq)⟩

/-- a whole number -/
def TInt (G : Gc) (h : DEnv → Option D) : TE := fun σ H Q => ∃ B Z Fs env, Good G B Z H σ env Fs ∧ ∃ i, h env = some (.int i) ∧ ∀ H', Same H H' → Q (.int i) H'
def onlyInt : D → Option D
  | .int i => some (.int i)
  | _ => none
theorem onlyInt_some {d e : D} (h : onlyInt d = some e) : ∃ i, d = .int i ∧ e = .int i := by
  cases d <;> first | (cases h; exact ⟨_, rfl, rfl⟩) | cases h
/-- .. of a kind -/
def TPlcT (G : Gc) (i : Nat) (g : DEnv → Option D) (T : D → Bool) : TE := fun σ H Q => ∃ B Z Fs env, Good G B Z H σ env Fs ∧ ∃ d, g env = some d ∧ T d = true ∧ ∀ v H', Same H H' → Own G (joi (lockB B H' Fs i) Z) H' d v [] → Q v H'
def TPurT (G : Gc) (h : DEnv → Option D) (T : D → Bool) : TE := fun σ H Q => ∃ B Z Fs env, Good G B Z H σ env Fs ∧ ∃ d, h env = some d ∧ T d = true ∧ ∀ v H', Same H H' → d.pure = true → (∀ Z', Own G Z' H' d v []) → Q v H'
inductive SArg where
  | pur (h : DEnv → Option D)
  | plc (i : Nat) (g : DEnv → Option D)
  | int (h : DEnv → Option D)
  | plt (i : Nat) (g : DEnv → Option D) (T : D → Bool)
  | put (h : DEnv → Option D) (T : D → Bool)
def onlyT (T : D → Bool) (d : D) : Option D := if T d = true then some d else none
theorem onlyT_some {T : D → Bool} {d e : D} (h : onlyT T d = some e) : d = e ∧ T d = true := by
  unfold onlyT at h
  split at h
  · rename_i ht; exact ⟨Option.some.inj h, ht⟩
  · cases h
def SArg.val : SArg → DEnv → Option D
  | .pur h => h
  | .plc _ g => g
  | .int h => fun env => match h env with
    | some d => onlyInt d
    | none => none
  | .plt _ g T => fun env => match g env with
    | some d => onlyT T d
    | none => none
  | .put h T => fun env => match h env with
    | some d => onlyT T d
    | none => none
def SArg.te (G : Gc) : SArg → TE
  | .pur h => TPur G h
  | .plc i g => TPlc G i g
  | .int h => TInt G h
  | .plt i g T => TPlcT G i g T
  | .put h T => TPurT G h T
theorem TV.mono {G : Gc} {W : Wsh} {f : DEnv → Out (D × DEnv)} {σ : L2.St} {H : Hp} {Q Q' : VK} (h : ∀ v H, Q v H → Q' v H) (t : TV G W f σ H Q) : TV G W f σ H Q' := by
  obtain ⟨B, Z, Fs, env, g, q⟩ := t
  refine ⟨B, Z, Fs, env, g, ?_⟩
  unfold FinV at q ⊢
  match f env, q with
  | .ok (d, e), q => exact fun v Z' H' Fs' F p => h _ _ (q v Z' H' Fs' F p)
  | .exc c, q => exact q
theorem SArg.mono {G : Gc} {a : SArg} {σ : L2.St} {H : Hp} {Q Q' : VK} (h : ∀ v H, Q v H → Q' v H) (t : a.te G σ H Q) : a.te G σ H Q' := by
  cases a with
  | pur f => obtain ⟨B, Z, Fs, env, g, d, hd, q⟩ := t; exact ⟨B, Z, Fs, env, g, d, hd, fun v H' hs hp ho => h _ _ (q v H' hs hp ho)⟩
  | plc i f => obtain ⟨B, Z, Fs, env, g, d, hd, q⟩ := t; exact ⟨B, Z, Fs, env, g, d, hd, fun v H' hs ho => h _ _ (q v H' hs ho)⟩
  | int f => obtain ⟨B, Z, Fs, env, g, d, hd, q⟩ := t; exact ⟨B, Z, Fs, env, g, d, hd, fun H' hs => h _ _ (q H' hs)⟩
  | plt i f T => obtain ⟨B, Z, Fs, env, g, d, hd, ht, q⟩ := t; exact ⟨B, Z, Fs, env, g, d, hd, ht, fun v H' hs ho => h _ _ (q v H' hs ho)⟩
  | put f T => obtain ⟨B, Z, Fs, env, g, d, hd, ht, q⟩ := t; exact ⟨B, Z, Fs, env, g, d, hd, ht, fun v H' hs hp ho => h _ _ (q v H' hs hp ho)⟩
/-- arguments that change nothing -/
def evS : List SArg → DEnv → Option (List D)
  | [], _ => some []
  | a :: r, env => match a.val env with
    | some d => match evS r env with
      | some ds => some (d :: ds)
      | none => none
    | none => none
/-- what must be there -/
def must {α β : Type} (x : Option α) (f : α → Out β) : Out β := match x with
  | some a => f a
  | none => .bad
@[simp] theorem must_some {α β : Type} (a : α) (f : α → Out β) : must (some a) f = f a := rfl
@[simp] theorem must_none {α β : Type} (f : α → Out β) : must none f = .bad := rfl
inductive Chn where
  | fin (hs : List SArg)
  | own (f : DEnv → Out (D × DEnv)) (c : Chn)
  | pur (h : DEnv → Option D) (c : Chn)
  | plc (i : Nat) (g : DEnv → Option D) (c : Chn)
  | io (j : Nat) (c : Chn)
def Chn.tes (G : Gc) (W : Wsh) : Chn → List TE
  | .fin hs => hs.map (SArg.te G)
  | .own f c => TV G W f :: c.tes G W
  | .pur h c => TPur G h :: c.tes G W
  | .plc i g c => TPlc G i g :: c.tes G W
  | .io j c => TIo j :: c.tes G W
/-- which arguments are changed -/
def Chn.iofs : Chn → List Bool
  | .fin hs => hs.map fun _ => false
  | .own _ c => false :: c.iofs
  | .pur _ c => false :: c.iofs
  | .plc _ _ c => false :: c.iofs
  | .io _ c => true :: c.iofs
/-- their values, the last one first -/
def ioV : List Bool → List V → List V
  | true :: fl, v :: vs => ioV fl vs ++ [v]
  | false :: fl, _ :: vs => ioV fl vs
  | _, _ => []
theorem ioV_snoc : ∀ (fl : List Bool) (vs : List V) (b : Bool) (v : V), fl.length = vs.length → ioV (fl ++ [b]) (vs ++ [v]) = if b = true then v :: ioV fl vs else ioV fl vs
  | [], [], true, v, _ => rfl
  | [], [], false, v, _ => rfl
  | true :: fl, w :: vs, b, v, h => by
    show ioV (fl ++ [b]) (vs ++ [v]) ++ [w] = _
    rw [ioV_snoc fl vs b v (by simpa using h)]
    cases b <;> rfl
  | false :: fl, w :: vs, b, v, h => by
    show ioV (fl ++ [b]) (vs ++ [v]) = _
    rw [ioV_snoc fl vs b v (by simpa using h)]
    cases b <;> rfl
theorem ioV_none : ∀ (fl : List Bool) (vs : List V), fl.any id = false → ioV fl vs = []
  | [], _, _ => by unfold ioV; rfl
  | true :: fl, _, h => by simp at h
  | false :: fl, [], _ => rfl
  | false :: fl, v :: vs, h => by
    show ioV fl vs = []
    exact ioV_none fl vs (by simpa using h)
theorem ioV_false : ∀ (fl : List Bool) (vs us : List V) (n : Nat), fl.length = vs.length → ioV (fl ++ List.replicate n false) (vs ++ us) = ioV fl vs
  | [], [], us, n, _ => by
    show ioV (List.replicate n false) us = []
    exact ioV_none _ _ (by simp)
  | true :: fl, w :: vs, us, n, h => by
    show ioV (fl ++ List.replicate n false) (vs ++ us) ++ [w] = ioV fl vs ++ [w]
    rw [ioV_false fl vs us n (by simpa using h)]
  | false :: fl, w :: vs, us, n, h => by
    show ioV (fl ++ List.replicate n false) (vs ++ us) = ioV fl vs
    rw [ioV_false fl vs us n (by simpa using h)]
/-- how an argument comes: owned, or only read -/
def SArg.kinds : List SArg → List Bool
  | [] => []
  | .pur _ :: r => true :: SArg.kinds r
  | .int _ :: r => true :: SArg.kinds r
  | .plc _ _ :: r => false :: SArg.kinds r
  | .plt _ _ _ :: r => false :: SArg.kinds r
  | .put _ _ :: r => true :: SArg.kinds r
def Chn.kinds : Chn → List Bool
  | .fin hs => SArg.kinds hs
  | .own _ c => true :: c.kinds
  | .pur _ c => true :: c.kinds
  | .plc _ _ c => false :: c.kinds
  | .io _ c => true :: c.kinds
abbrev Kn := List D → DEnv → Out (D × List D × DEnv)
def evC : Chn → Kn → DEnv → Out (D × List D × DEnv)
  | .fin hs, k, env => must (evS hs env) fun ds => k ds env
  | .own f c, k, env => f env >>= fun p => evC c (fun ds e => k (p.1 :: ds) e) p.2
  | .pur h c, k, env => must (h env) fun d => evC c (fun ds e => k (d :: ds) e) env
  | .plc i g c, k, env => must (g env) fun d => evC c (fun ds e => k (d :: ds) e) (lock i env) >>= fun q => .ok (q.1, q.2.1, unlock env q.2.2)
  | .io j c, k, env => match env[j]? with
    | some (some (m, d)) => if m.mut = true then evC c (fun ds e => k (d :: ds) e) (env.set j none) >>= fun q => match q.2.1 with
        | o :: os => .ok (q.1, os, q.2.2.set j (some (m, o)))
        | [] => .bad
      else .bad
    | _ => .bad
def seqTE : List TE → L2.St → Hp → (List V → Hp → Prop) → Prop
  | [] => tNil
  | t :: ts => tCons t (seqTE ts)

/-- values at hand: owned ones (in Z), and such as are read in Y -/
def OwnT (G : Gc) (Y Z H : Hp) : List (Bool × D) → List V → List Addr → Prop
  | [], vs, F => vs = [] ∧ F = []
  | (o, d) :: r, vs, F => ∃ v rest F1 F2, vs = v :: rest ∧ F = F1 ++ F2 ∧ (match o with
      | true => Own G Z H d v F1
      | false => Own G Y H d v [] ∧ F1 = []) ∧ OwnT G Y Z H r rest F2

section
variable {G : Gc} {W : Wsh} {B Z H Z' H' Y Y' : Hp} {σ : L2.St} {env env' : DEnv} {Fs Fs' : Nat → List Addr} {P P' P1 : Addr → Prop}
theorem OwnT.snoc : ∀ {its : List (Bool × D)} {vs : List V} {F F1 : List Addr} {o : Bool} {d : D} {v : V}, OwnT G Y Z H its vs F → (match o with
      | true => Own G Z H d v F1
      | false => Own G Y H d v [] ∧ F1 = []) → OwnT G Y Z H (its ++ [(o, d)]) (vs ++ [v]) (F ++ F1)
  | [], vs, F, F1, o, d, v, h, h1 => by
    obtain ⟨rfl, rfl⟩ := h
    exact ⟨v, [], F1, [], rfl, by simp, h1, rfl, rfl⟩
  | (o', d') :: r, vs, F, F1, o, d, v, h, h1 => by
    obtain ⟨v', rest, F2, F3, rfl, rfl, h2, h3⟩ := h
    exact ⟨v', rest ++ [v], F2, F3 ++ F1, rfl, by rw [List.append_assoc], h2, OwnT.snoc h3 h1⟩
theorem OwnT.keep (hy : Same Y Y') (hz : Same Z Z') : ∀ {its : List (Bool × D)} {vs : List V} {F : List Addr}, (∀ b u, H b = some u → (b ∈ F ∨ Still u) → H' b = some u) → OwnT G Y Z H its vs F → OwnT G Y' Z' H' its vs F
  | [], _, _, _, h => h
  | (o, d) :: r, vs, F, k, h => by
    obtain ⟨v', rest, F2, F3, rfl, rfl, h2, h3⟩ := h
    refine ⟨v', rest, F2, F3, rfl, rfl, ?_, OwnT.keep hy hz (fun b u e m => k b u e (m.imp (fun z => List.mem_append_right _ z) id)) h3⟩
    cases o with
    | true => exact Own.keep hz d v' F2 (fun b u e m => k b u e (m.imp (fun z => List.mem_append_left _ z) id)) h2
    | false => exact ⟨Own.keep hy d v' [] (fun b u e m => k b u e (m.imp (fun z => by cases z) id)) h2.1, h2.2⟩
theorem OwnT.dom : ∀ {its : List (Bool × D)} {vs : List V} {F : List Addr}, OwnT G Y Z H its vs F → ∀ a ∈ F, ∃ o, H a = some o ∧ Mut (some o)
  | [], _, _, h => fun a m => by rw [h.2] at m; cases m
  | (o, d) :: r, vs, F, h => by
    obtain ⟨v', rest, F2, F3, rfl, rfl, h2, h3⟩ := h
    intro a m
    rcases List.mem_append.mp m with m | m
    · cases o with
      | true => exact Own.dom d v' F2 h2 a m
      | false => rw [h2.2] at m; cases m
    · exact OwnT.dom h3 a m
/-- all are read in the whole heap -/
theorem OwnT.reps (hy : Same Y H) (hz : Same Z H) : ∀ {its : List (Bool × D)} {vs : List V} {F : List Addr}, OwnT G Y Z H its vs F → OwnL G H H (its.map (·.2)) vs []
  | [], _, _, h => ⟨h.1, rfl⟩
  | (o, d) :: r, vs, F, h => by
    obtain ⟨v', rest, F2, F3, rfl, rfl, h2, h3⟩ := h
    refine OwnL.cons_nil ?_ (OwnT.reps hy hz h3)
    cases o with
    | true => exact Own.rep hz d v' F2 h2
    | false => exact Own.rep hy d v' [] h2.1
theorem OwnT.vlen : ∀ {its : List (Bool × D)} {vs : List V} {F : List Addr}, OwnT G Y Z H its vs F → vs.length = its.length
  | [], _, _, h => by rw [h.1]; rfl
  | (o, d) :: r, vs, F, h => by
    obtain ⟨v', rest, F2, F3, rfl, rfl, h2, h3⟩ := h
    rw [List.length_cons, List.length_cons, OwnT.vlen h3]

/-- the values at hand, apart from all else -/
structure Hand (G : Gc) (B Z H Y : Hp) (Fs : Nat → List Addr) (its : List (Bool × D)) (vs : List V) (T : List Addr) : Prop where
  own : OwnT G Y Z H its vs T
  nd : T.Nodup
  dj : ∀ a, a ∈ T → ¬ InF Fs a
  fr : ∀ a, a ∈ T → B a = none ∧ Z a = none
def PT_ (Fs : Nat → List Addr) (T : List Addr) : Addr → Prop := fun a => InF Fs a ∨ a ∈ T
theorem Hand.pm {its : List (Bool × D)} {vs : List V} {T : List Addr} (h : Hand G B Z H Y Fs its vs T) (g : Good G B Z H σ env Fs) : PMut H (PT_ Fs T) := fun a m => m.elim (fun z => g.dom z) fun z => h.own.dom a z
/-- what is wanted at the end, seen from further on -/
theorem FinO.later {Z1 H1 : Hp} {env1 : DEnv} {Fs1 : Nat → List Addr} {ios : List V} {o : Out (D × List D × DEnv)} {Q : VK} (s : Stp G B Z H σ env P Z1 H1 σ env1 Fs1) (hp : ∀ a, P1 a → H a = none ∨ P a) (h : FinO G W B Z H σ env P ios o Q) : FinO G W B Z1 H1 σ env1 P1 ios o Q := by
  unfold FinO at h ⊢
  match o, h with
  | .ok (d, outs, env'), h =>
    intro v Z' H' Fs' F p
    refine h v Z' H' Fs' F ⟨s.trans hp p.st, p.own, p.nd, p.dj, p.fr, fun a m => ?_⟩
    rcases p.new a m with z | z
    · cases q : H a with
      | none => exact .inl rfl
      | some u =>
        refine .inr ?_
        by_cases n : P a
        · exact n
        · have := s.ext a u q n
          rw [z] at this; cases this
    · exact hp a z
  | .exc c, h => exact h
/-- a lock behind -/
theorem FinO.unlock {i : Nat} {ios : List V} {o : Out (D × List D × DEnv)} {Q : VK} (g : Good G B Z H σ env Fs) (pm : PMut H P') (hp : ∀ a, P' a → P a ∧ a ∉ Fs i) (hi : ∀ a, a ∈ Fs i → P a)
    (h : FinO G W B Z H σ env P ios (o >>= fun q => .ok (q.1, q.2.1, DL.unlock env q.2.2)) Q) : FinO G W (lockB B H Fs i) Z H σ (DL.lock i env) P' ios o Q := by
  unfold FinO at h ⊢
  match o, h with
  | .ok (d, outs, env'), h =>
    intro v Z' H' Fs' F p
    refine h v Z' H' (backF env Fs Fs' i) F ⟨p.st.unlock g pm hp hi, p.own, p.nd, fun a m n => ?_, fun a m => ?_, fun a m => (p.new a m).imp id fun z => (hp a z).1⟩
    · obtain ⟨j, n⟩ := n
      rcases backF_mem n with ⟨_, n⟩ | n
      · have q := (p.fr a m).1
        unfold lockB at q
        rw [lay_in n] at q
        obtain ⟨u, e, _⟩ := g.dom ⟨i, n⟩
        rw [e] at q; cases q
      · exact p.dj a m ⟨j, n⟩
    · refine ⟨?_, (p.fr a m).2⟩
      cases q : B a with
      | none => rfl
      | some u =>
        have := lockB_up g i a u q
        rw [(p.fr a m).1] at this
        cases this
  | .exc c, h => exact fun H' hs => h H' ((lockB_up g i).trans hs)

/-- slot j's value taken out -/
theorem Good.take (g : Good G B Z H σ env Fs) (j : Nat) : Good G B Z H σ (env.set j none) (offF Fs j) where
  sb := g.sb
  sz := g.sz
  z0 := g.z0
  gb := g.gb
  len := by rw [List.length_set]; exact g.len
  sl := fun i => by
    by_cases e : j = i
    · subst e
      have eo : offF Fs j j = [] := by unfold offF; rw [if_pos rfl]
      rw [eo, List.getElem?_set_self']
      cases env[j]? <;> rfl
    · have eo : offF Fs j i = Fs i := by unfold offF; rw [if_neg (fun z => e z.symm)]
      rw [eo, List.getElem?_set_ne e]
      exact g.sl i
  nd := fun i => by unfold offF; split; exact List.nodup_nil; exact g.nd i
  dj := fun i k a m n => by
    unfold offF at m n
    split at m
    · cases m
    · split at n
      · cases n
      · exact g.dj i k a m n
  fr := fun i a m => by
    unfold offF at m
    split at m
    · cases m
    · exact g.fr i a m
/-- slot j given a value of its own that stands where its name points -/
theorem Good.give {m : Md} {d : D} {v : V} {F : List Addr} {j : Nat} (g : Good G B Z H σ env Fs) (hm : m.mut = true) (hv : σ[j]? = some (some v)) (hl : j < env.length) (t : Tm G B Z H (InF Fs) d v F) : Good G B Z H σ (env.set j (some (m, d))) (onF Fs j F) where
  sb := g.sb
  sz := g.sz
  z0 := g.z0
  gb := g.gb
  len := by rw [List.length_set]; exact g.len
  sl := fun i => by
    by_cases e : j = i
    · subst e
      have eo : onF Fs j F j = F := by unfold onF; rw [if_pos rfl]
      rw [eo, List.getElem?_set_self hl]
      cases m with
      | own => exact ⟨v, hv, t.own⟩
      | io => exact ⟨v, hv, t.own⟩
      | shr => cases hm
      | brw => cases hm
      | lck => cases hm
    · have eo : onF Fs j F i = Fs i := by unfold onF; rw [if_neg (fun z => e z.symm)]
      rw [eo, List.getElem?_set_ne e]
      exact g.sl i
  nd := fun i => by unfold onF; split; exact t.nd; exact g.nd i
  dj := fun i k a m n => by
    unfold onF at m n
    split at m
    · split at n
      · rename_i e1 e2; rw [e1, e2]
      · exact absurd ⟨k, n⟩ (t.dj a m)
    · split at n
      · exact absurd ⟨i, m⟩ (t.dj a n)
      · exact g.dj i k a m n
  fr := fun i a m => by
    unfold onF at m
    split at m
    · exact t.fr a m
    · exact g.fr i a m
end
theorem cut_mono {H H' : Hp} {T : List Addr} (h : Same H H') : Same (cut H T) (cut H' T) := fun a u e => by
  unfold cut at e ⊢
  split at e
  · cases e
  · rename_i n
    rw [if_neg n]
    exact h _ _ e
/-- arguments that change nothing, read from the left -/
theorem evS_ok {G : Gc} {T_ : List Addr} {B Z : Hp} {σ : L2.St} {env : DEnv} {Fs : Nat → List Addr} (hT : ∀ a, a ∈ T_ → ¬ InF Fs a ∧ B a = none ∧ Z a = none) :
    ∀ (hs : List SArg) (ds : List D) (H : Hp) (R : List V → Hp → Prop), Good G B Z H σ env Fs → evS hs env = some ds → (∀ vs H', Same H H' → OwnT G (cut H' T_) Z H' ((SArg.kinds hs).zip ds) vs [] → ds.length = hs.length → R vs H') → seqTE (hs.map (SArg.te G)) σ H R
  | [], ds, H, R, g, e, h => by
    have e : some [] = some ds := e
    cases e
    exact h [] H (Same.refl H) ⟨rfl, rfl⟩ rfl
  | a :: r, ds, H, R, g, e, h => by
    have e : (match a.val env with
      | some d => match evS r env with
        | some ds => some (d :: ds)
        | none => none
      | none => none) = some ds := e
    cases ha : a.val env with
    | none => rw [ha] at e; cases e
    | some d =>
      rw [ha] at e
      cases hr : evS r env with
      | none => rw [hr] at e; cases e
      | some ds' =>
        rw [hr] at e
        cases e
        have go : ∀ (v : V) (o : Bool) (H1 : Hp), Same H H1 → (SArg.kinds (a :: r)) = o :: SArg.kinds r → (match o with
            | true => Own G Z H1 d v []
            | false => Own G (cut H1 T_) H1 d v [] ∧ ([] : List Addr) = []) → seqTE (r.map (SArg.te G)) σ H1 (fun xs H2 => R (v :: xs) H2) := fun v o H1 hs1 ek hv =>
          evS_ok hT r ds' H1 _ (g.grow hs1) hr fun vs H2 hs2 hvs hl => h (v :: vs) H2 (hs1.trans hs2) (by
            rw [ek]
            refine ⟨v, vs, [], [], rfl, rfl, ?_, hvs⟩
            cases o with
            | true => exact Own.keep (Same.refl Z) d v [] (fun b u e _ => hs2 b u e) hv
            | false => exact ⟨Own.keep (cut_mono hs2) d v [] (fun b u e _ => hs2 b u e) hv.1, rfl⟩) (by rw [List.length_cons, List.length_cons, hl])
        cases a with
        | pur f =>
          refine ⟨B, Z, Fs, env, g, d, ha, fun v H1 hs1 hp hv => ?_⟩
          exact go v true H1 hs1 rfl (hv Z)
        | int f =>
          have ha : (match f env with
            | some d => onlyInt d
            | none => none) = some d := ha
          cases hf : f env with
          | none => rw [hf] at ha; cases ha
          | some d0 =>
            rw [hf] at ha
            obtain ⟨n, rfl, rfl⟩ := onlyInt_some ha
            exact ⟨B, Z, Fs, env, g, n, hf, fun H1 hs1 => go (.int n) true H1 hs1 rfl ⟨rfl, rfl⟩⟩
        | put f T =>
          have ha : (match f env with
            | some d => onlyT T d
            | none => none) = some d := ha
          cases hf : f env with
          | none => rw [hf] at ha; cases ha
          | some d0 =>
            rw [hf] at ha
            obtain ⟨rfl, ht⟩ := onlyT_some ha
            refine ⟨B, Z, Fs, env, g, d0, hf, ht, fun v H1 hs1 hp hv => ?_⟩
            exact go v true H1 hs1 rfl (hv Z)
        | plt i f T =>
          have ha : (match f env with
            | some d => onlyT T d
            | none => none) = some d := ha
          cases hf : f env with
          | none => rw [hf] at ha; cases ha
          | some d0 =>
            rw [hf] at ha
            obtain ⟨rfl, ht⟩ := onlyT_some ha
            refine ⟨B, Z, Fs, env, g, d0, hf, ht, fun v H1 hs1 hv => ?_⟩
            refine go v false H1 hs1 rfl ⟨Own.keep (fun a u e => ?_) d0 v [] (fun _ _ e _ => e) hv, rfl⟩
            have hH : H1 a = some u := joi_le (lockB_le (g.grow hs1) i) (g.grow hs1).sz a u e
            have hn : a ∉ T_ := fun m => by
              obtain ⟨n, b, z⟩ := hT a m
              have : joi (lockB B H1 Fs i) Z a = none := joi_none (by unfold lockB; rw [lay_out (fun q => n ⟨i, q⟩)]; exact b) z
              rw [this] at e; cases e
            rw [cut_out hn]
            exact hH
        | plc i f =>
          refine ⟨B, Z, Fs, env, g, d, ha, fun v H1 hs1 hv => ?_⟩
          refine go v false H1 hs1 rfl ⟨Own.keep (fun a u e => ?_) d v [] (fun _ _ e _ => e) hv, rfl⟩
          have hH : H1 a = some u := joi_le (lockB_le (g.grow hs1) i) (g.grow hs1).sz a u e
          have hn : a ∉ T_ := fun m => by
            obtain ⟨n, b, z⟩ := hT a m
            have : joi (lockB B H1 Fs i) Z a = none := joi_none (by unfold lockB; rw [lay_out (fun q => n ⟨i, q⟩)]; exact b) z
            rw [this] at e; cases e
          rw [cut_out hn]
          exact hH

/-- .. at some slots -/
def KOkS (G : Gc) (W : Wsh) (σ : L2.St) (fl : List Bool) (bs : List Bool) (r : List V → Hp → VK → Prop) (k : Kn) : Prop :=
  ∀ (B Z H : Hp) (env : DEnv) (Fs : Nat → List Addr) (its : List (Bool × D)) (vs : List V) (T : List Addr) (ios : List V) (Q : VK), Good G B Z H σ env Fs → Hand G B Z H (cut H T) Fs its vs T → its.map (·.1) = bs → ios = ioV fl vs →
    FinO G W B Z H σ env (PT_ Fs T) ios (k (its.map (·.2)) env) Q → r vs H Q
/-- an operation on values at hand, as a function on data: fl tells the arguments that it changes and hands back, bs which are owned -/
def KOk (G : Gc) (W : Wsh) (fl : List Bool) (bs : List Bool) (r : List V → Hp → VK → Prop) (k : Kn) : Prop :=
  ∀ (B Z H : Hp) (σ : L2.St) (env : DEnv) (Fs : Nat → List Addr) (its : List (Bool × D)) (vs : List V) (T : List Addr) (ios : List V) (Q : VK), Good G B Z H σ env Fs → Hand G B Z H (cut H T) Fs its vs T → its.map (·.1) = bs → ios = ioV fl vs →
    FinO G W B Z H σ env (PT_ Fs T) ios (k (its.map (·.2)) env) Q → r vs H Q

theorem map_fst_zip {α β : Type} : ∀ (l : List α) (m : List β), l.length ≤ m.length → (l.zip m).map (·.1) = l
  | [], _, _ => rfl
  | a :: l, [], h => by simp at h
  | a :: l, b :: m, h => by
    show a :: (l.zip m).map (·.1) = a :: l
    rw [map_fst_zip l m (by simpa using h)]
theorem map_snd_zip {α β : Type} : ∀ (l : List α) (m : List β), m.length ≤ l.length → (l.zip m).map (·.2) = m
  | [], [], _ => rfl
  | [], b :: m, h => by simp at h
  | a :: l, [], _ => rfl
  | a :: l, b :: m, h => by
    show b :: (l.zip m).map (·.2) = b :: m
    rw [map_snd_zip l m (by simpa using h)]
theorem SArg.kinds_length : ∀ hs : List SArg, (SArg.kinds hs).length = hs.length
  | [] => rfl
  | .pur _ :: r => by show (SArg.kinds r).length + 1 = r.length + 1; rw [SArg.kinds_length r]
  | .int _ :: r => by show (SArg.kinds r).length + 1 = r.length + 1; rw [SArg.kinds_length r]
  | .plc _ _ :: r => by show (SArg.kinds r).length + 1 = r.length + 1; rw [SArg.kinds_length r]
  | .plt _ _ _ :: r => by show (SArg.kinds r).length + 1 = r.length + 1; rw [SArg.kinds_length r]
  | .put _ _ :: r => by show (SArg.kinds r).length + 1 = r.length + 1; rw [SArg.kinds_length r]
theorem OwnT.app {G : Gc} {Y Z H : Hp} : ∀ {its js : List (Bool × D)} {vs us : List V} {F F1 : List Addr}, OwnT G Y Z H its vs F → OwnT G Y Z H js us F1 → OwnT G Y Z H (its ++ js) (vs ++ us) (F ++ F1)
  | [], js, vs, us, F, F1, h, h1 => by
    obtain ⟨rfl, rfl⟩ := h
    exact h1
  | (o', d') :: r, js, vs, us, F, F1, h, h1 => by
    obtain ⟨v', rest, F2, F3, rfl, rfl, h2, h3⟩ := h
    exact ⟨v', rest ++ us, F2, F3 ++ F1, rfl, by rw [List.append_assoc], h2, OwnT.app h3 h1⟩

/-- THE CHAIN: arguments from the left, then the operation -/
theorem chn_okS {G : Gc} {W : Wsh} {σ : L2.St} {fl bs : List Bool} {r : List V → Hp → VK → Prop} {k : Kn} (hk : KOkS G W σ fl bs r k) {Q : VK} :
    ∀ (c : Chn) (B Z H : Hp) (env : DEnv) (Fs : Nat → List Addr) (its : List (Bool × D)) (vs : List V) (T : List Addr) (ios : List V) (f0 : List Bool), Good G B Z H σ env Fs → Hand G B Z H (joi B Z) Fs its vs T → its.map (·.1) ++ c.kinds = bs → (f0 ++ c.iofs = fl ∧ f0.length = vs.length ∧ ios = ioV f0 vs) →
      FinO G W B Z H σ env (PT_ Fs T) ios (evC c (fun ds e => k (its.map (·.2) ++ ds) e) env) Q → seqTE (c.tes G W) σ H (fun us H1 => r (vs ++ us) H1 Q)
  | .fin hs, B, Z, H, env, Fs, its, vs, T, ios, f0, g, hT, hb, hn, hF => by
    have e0 : evC (.fin hs) (fun ds e => k (its.map (·.2) ++ ds) e) env = (must (evS hs env) fun ds => k (its.map (·.2) ++ ds) env) := rfl
    rw [e0] at hF
    cases hr : evS hs env with
    | none => rw [hr] at hF; exact hF.elim
    | some ds =>
      rw [hr] at hF
      refine evS_ok (T_ := T) (fun a m => ⟨hT.dj a m, hT.fr a m⟩) hs ds H _ g hr fun us H1 hs1 hu hl => ?_
      have hlk : (SArg.kinds hs).length = ds.length := by rw [SArg.kinds_length, hl]
      have e1 : its.map (·.2) ++ ds = (its ++ (SArg.kinds hs).zip ds).map (·.2) := by rw [List.map_append, map_snd_zip _ _ (Nat.le_of_eq hlk.symm)]
      have e2 : (its ++ (SArg.kinds hs).zip ds).map (·.1) = bs := by
        rw [List.map_append, map_fst_zip _ _ (Nat.le_of_eq hlk)]
        exact hb
      have hF' : FinO G W B Z H σ env (PT_ Fs T) ios (k ((its ++ (SArg.kinds hs).zip ds).map (·.2)) env) Q := by
        rw [← e1]
        exact hF
      have hF2 : FinO G W B Z H1 σ env (PT_ Fs T) ios (k ((its ++ (SArg.kinds hs).zip ds).map (·.2)) env) Q := FinO.later (Stp.grow (P := PT_ Fs T) g (fun a m => .inl m) hs1) (fun a m => .inr m) hF'
      have hY : Same (joi B Z) (cut H1 T) := fun a u e => by
        have h1 : a ∉ T := fun m => by rw [joi_none (hT.fr a m).1 (hT.fr a m).2] at e; cases e
        rw [cut_out h1]
        exact hs1 a u (joi_le g.sb g.sz a u e)
      have hio : ios = ioV fl (vs ++ us) := by
        obtain ⟨n1, n2, n3⟩ := hn
        rw [n3, ← n1]
        show _ = ioV (f0 ++ hs.map fun _ => false) (vs ++ us)
        rw [show (hs.map fun _ => false) = List.replicate hs.length false from by rw [List.map_const'] , ioV_false f0 vs us _ n2]
      refine hk B Z H1 env Fs _ (vs ++ us) T ios Q (g.grow hs1) ⟨?_, hT.nd, hT.dj, hT.fr⟩ e2 hio hF2
      have q := OwnT.app (OwnT.keep hY (Same.refl Z) (fun b u e _ => hs1 b u e) hT.own) hu
      rw [List.append_nil] at q
      exact q
  | .own f c, B, Z, H, env, Fs, its, vs, T, ios, f0, g, hT, hb, hn, hF => by
    refine ⟨B, Z, Fs, env, g, ?_⟩
    have e0 : evC (.own f c) (fun ds e => k (its.map (·.2) ++ ds) e) env = (f env >>= fun p => evC c (fun ds e => k (its.map (·.2) ++ p.1 :: ds) e) p.2) := rfl
    rw [e0] at hF
    cases hr : f env with
    | bad => rw [hr] at hF; exact hF.elim
    | exc c => rw [hr] at hF; exact hF
    | ok p =>
      obtain ⟨d, env1⟩ := p
      rw [hr] at hF
      simp only [Out.bind_ok] at hF
      intro v Z1 H1 Fs1 F1 p1
      have ho : Own G Z1 H1 d v F1 := by
        obtain ⟨v', r', Fa, Fb, e1, e2, h1, h2⟩ := p1.own
        cases e1
        obtain ⟨_, rfl⟩ := h2
        rw [List.append_nil] at e2
        rw [e2]
        exact h1
      have pmF : PMut H (InF Fs) := g.pm
      have hp1 : ∀ a, PT_ Fs1 (T ++ F1) a → H a = none ∨ PT_ Fs T a := fun a m => by
        rcases m with m | m
        · exact (p1.st.new a m).imp id .inl
        · rcases List.mem_append.mp m with m | m
          · exact .inr (.inr m)
          · exact (p1.new a m).imp id .inl
      have kk : ∀ (b : Addr) (u : HO), H b = some u → (b ∈ T ∨ Still u) → H1 b = some u := fun b u e m => p1.st.ext b u e (by
        rcases m with m | nm
        · exact hT.dj b m
        · exact g.tup e nm)
      have hT1 : Hand G B Z1 H1 (joi B Z1) Fs1 (its ++ [(true, d)]) (vs ++ [v]) (T ++ F1) := by
        refine ⟨OwnT.snoc (o := true) (OwnT.keep (joi_mono (Same.refl B) p1.st.zz p1.st.good.sb p1.st.good.sz) p1.st.zz kk hT.own) ho, ?_, fun a m n => ?_, fun a m => ?_⟩
        · refine List.nodup_append.mpr ⟨hT.nd, p1.nd, fun a m b n => ?_⟩
          rintro rfl
          obtain ⟨u, e, _⟩ := hT.own.dom a m
          rcases p1.new a n with z | z
          · rw [e] at z; cases z
          · exact hT.dj a m z
        · rcases List.mem_append.mp m with m | m
          · obtain ⟨u, e, _⟩ := hT.own.dom a m
            rcases p1.st.new a n with z | z
            · rw [e] at z; cases z
            · exact hT.dj a m z
          · exact p1.dj a m n
        · rcases List.mem_append.mp m with m | m
          · refine ⟨(hT.fr a m).1, ?_⟩
            cases q : Z1 a with
            | none => rfl
            | some w =>
              obtain ⟨u, e, _⟩ := hT.own.dom a m
              rcases p1.st.newz a (by rw [q]; simp) with z | z | z
              · exact absurd (hT.fr a m).2 z
              · rw [e] at z; cases z
              · exact absurd z (hT.dj a m)
          · exact p1.fr a m
      have hF1 : FinO G W B Z1 H1 σ env1 (PT_ Fs1 (T ++ F1)) ios (evC c (fun ds e => k ((its ++ [(true, d)]).map (·.2) ++ ds) e) env1) Q := by
        have e3 : (fun (ds : List D) (e : DEnv) => k (its.map (·.2) ++ d :: ds) e) = fun ds e => k ((its ++ [(true, d)]).map (·.2) ++ ds) e := by
          funext ds e
          rw [List.map_append, List.append_assoc]
          rfl
        rw [← e3]
        exact FinO.later (p1.st.more fun a m => .inl m) hp1 hF
      have rec' := chn_okS hk c B Z1 H1 env1 Fs1 (its ++ [(true, d)]) (vs ++ [v]) (T ++ F1) ios (f0 ++ [false]) p1.st.good hT1 (by rw [List.map_append, List.append_assoc]; exact hb) ⟨by rw [List.append_assoc]; exact hn.1, by rw [List.length_append, List.length_append, hn.2.1]; rfl, by rw [ioV_snoc f0 vs false v hn.2.1]; exact hn.2.2⟩ hF1
      have e4 : (fun (us : List V) (H2 : Hp) => r ((vs ++ [v]) ++ us) H2 Q) = fun us H2 => r (vs ++ v :: us) H2 Q := by
        funext us H2
        rw [List.append_assoc]
        rfl
      rw [e4] at rec'
      exact rec'
  | .pur h c, B, Z, H, env, Fs, its, vs, T, ios, f0, g, hT, hb, hn, hF => by
    have e0 : evC (.pur h c) (fun ds e => k (its.map (·.2) ++ ds) e) env = (must (h env) fun d => evC c (fun ds e => k (its.map (·.2) ++ d :: ds) e) env) := rfl
    rw [e0] at hF
    cases hr : h env with
    | none => rw [hr] at hF; exact hF.elim
    | some d =>
      rw [hr] at hF
      refine ⟨B, Z, Fs, env, g, d, hr, fun v H1 hs1 hp hv => ?_⟩
      have hT1 : Hand G B Z H1 (joi B Z) Fs (its ++ [(true, d)]) (vs ++ [v]) T := by
        have q := OwnT.snoc (o := true) (F1 := []) (OwnT.keep (Same.refl _) (Same.refl Z) (fun b u e _ => hs1 b u e) hT.own) (hv Z)
        rw [List.append_nil] at q
        exact ⟨q, hT.nd, hT.dj, hT.fr⟩
      have e3 : (fun (ds : List D) (e : DEnv) => k (its.map (·.2) ++ d :: ds) e) = fun ds e => k ((its ++ [(true, d)]).map (·.2) ++ ds) e := by
        funext ds e
        rw [List.map_append, List.append_assoc]
        rfl
      have hF : FinO G W B Z H σ env (PT_ Fs T) ios (evC c (fun ds e => k (its.map (·.2) ++ d :: ds) e) env) Q := hF
      rw [e3] at hF
      have hF := FinO.later (Stp.grow (P := PT_ Fs T) g (fun a m => .inl m) hs1) (fun a m => .inr m) hF
      have rec' := chn_okS hk c B Z H1 env Fs (its ++ [(true, d)]) (vs ++ [v]) T ios (f0 ++ [false]) (g.grow hs1) hT1 (by rw [List.map_append, List.append_assoc]; exact hb) ⟨by rw [List.append_assoc]; exact hn.1, by rw [List.length_append, List.length_append, hn.2.1]; rfl, by rw [ioV_snoc f0 vs false v hn.2.1]; exact hn.2.2⟩ hF
      have e4 : (fun (us : List V) (H2 : Hp) => r ((vs ++ [v]) ++ us) H2 Q) = fun us H2 => r (vs ++ v :: us) H2 Q := by
        funext us H2
        rw [List.append_assoc]
        rfl
      rw [e4] at rec'
      exact rec'
  | .plc i f c, B, Z, H, env, Fs, its, vs, T, ios, f0, g, hT, hb, hn, hF => by
    have e0 : evC (.plc i f c) (fun ds e => k (its.map (·.2) ++ ds) e) env = (must (f env) fun d => evC c (fun ds e => k (its.map (·.2) ++ d :: ds) e) (lock i env) >>= fun q => .ok (q.1, q.2.1, unlock env q.2.2)) := rfl
    rw [e0] at hF
    cases hr : f env with
    | none => rw [hr] at hF; exact hF.elim
    | some d =>
      rw [hr] at hF
      have hF0 : FinO G W B Z H σ env (PT_ Fs T) ios (evC c (fun ds e => k (its.map (·.2) ++ d :: ds) e) (lock i env) >>= fun q => .ok (q.1, q.2.1, unlock env q.2.2)) Q := hF
      refine ⟨B, Z, Fs, env, g, d, hr, fun v H1 hs1 hv => ?_⟩
      have hF := FinO.later (Stp.grow (P := PT_ Fs T) g (fun a m => .inl m) hs1) (fun a m => .inr m) hF0
      have g1 := g.grow hs1
      have hdT : ∀ a, a ∈ T → a ∉ Fs i := fun a m n => hT.dj a m ⟨i, n⟩
      have hT1 : Hand G (lockB B H1 Fs i) Z H1 (joi (lockB B H1 Fs i) Z) (offF Fs i) (its ++ [(false, d)]) (vs ++ [v]) T := by
        have q := OwnT.snoc (o := false) (F1 := []) (OwnT.keep (joi_mono (lockB_up g1 i) (Same.refl Z) (lockB_le g1 i) g1.sz) (Same.refl Z) (fun b u e _ => hs1 b u e) hT.own) ⟨hv, rfl⟩
        rw [List.append_nil] at q
        refine ⟨q, hT.nd, fun a m n => hT.dj a m (inF_off n), fun a m => ⟨?_, (hT.fr a m).2⟩⟩
        unfold lockB
        rw [lay_out (hdT a m)]
        exact (hT.fr a m).1
      have hpp : ∀ a, PT_ (offF Fs i) T a → PT_ Fs T a ∧ a ∉ Fs i := fun a m => by
        rcases m with m | m
        · refine ⟨.inl (inF_off m), fun n => ?_⟩
          obtain ⟨j, m⟩ := m
          unfold offF at m
          split at m
          · cases m
          · rename_i hne
            exact hne (g.dj j i a m n)
        · exact ⟨.inr m, hdT a m⟩
      have hF1 := FinO.unlock (P' := PT_ (offF Fs i) T) g1 (hT1.pm (g1.lock i)) hpp (fun a m => .inl ⟨i, m⟩) hF
      have e3 : (fun (ds : List D) (e : DEnv) => k (its.map (·.2) ++ d :: ds) e) = fun ds e => k ((its ++ [(false, d)]).map (·.2) ++ ds) e := by
        funext ds e
        rw [List.map_append, List.append_assoc]
        rfl
      rw [e3] at hF1
      have rec' := chn_okS hk c (lockB B H1 Fs i) Z H1 (lock i env) (offF Fs i) (its ++ [(false, d)]) (vs ++ [v]) T ios (f0 ++ [false]) (g1.lock i) hT1 (by rw [List.map_append, List.append_assoc]; exact hb) ⟨by rw [List.append_assoc]; exact hn.1, by rw [List.length_append, List.length_append, hn.2.1]; rfl, by rw [ioV_snoc f0 vs false v hn.2.1]; exact hn.2.2⟩ hF1
      have e4 : (fun (us : List V) (H2 : Hp) => r ((vs ++ [v]) ++ us) H2 Q) = fun us H2 => r (vs ++ v :: us) H2 Q := by
        funext us H2
        rw [List.append_assoc]
        rfl
      rw [e4] at rec'
      exact rec'
  | .io j c, B, Z, H, env, Fs, its, vs, T, ios, f0, g, hT, hb, hn, hF => by
    cases hs : env[j]? with
    | none =>
      have e0 : evC (.io j c) (fun ds e => k (its.map (·.2) ++ ds) e) env = .bad := by unfold evC; rw [hs]
      rw [e0] at hF; exact hF.elim
    | some sl =>
      match sl, hs with
      | none, hs =>
        have e0 : evC (.io j c) (fun ds e => k (its.map (·.2) ++ ds) e) env = .bad := by unfold evC; rw [hs]
        rw [e0] at hF; exact hF.elim
      | some (m, d), hs =>
        by_cases hm : m.mut = true
        · have e0 : evC (.io j c) (fun ds e => k (its.map (·.2) ++ ds) e) env = (evC c (fun ds e => k (its.map (·.2) ++ d :: ds) e) (env.set j none) >>= fun (q : D × List D × DEnv) => match q.2.1 with
              | o :: os => Out.ok (q.1, os, q.2.2.set j (some (m, o)))
              | [] => Out.bad) := by
            rw [evC, hs]
            exact if_pos hm
          rw [e0] at hF
          -- slot j's value
          have hsl := g.sl j
          rw [hs] at hsl
          obtain ⟨v, ev, hv⟩ : ∃ v, σ[j]? = some (some v) ∧ Own G Z H d v (Fs j) := by
            obtain ⟨v, ev, hv⟩ := hsl
            cases m with
            | own => exact ⟨v, ev, hv⟩
            | io => exact ⟨v, ev, hv⟩
            | shr => cases hm
            | brw => cases hm
            | lck => cases hm
          refine ⟨v, ev, ?_⟩
          have g1 := g.take j
          have hdT : ∀ a, a ∈ T → a ∉ Fs j := fun a m n => hT.dj a m ⟨j, n⟩
          have off_j : ∀ a, InF (offF Fs j) a → a ∉ Fs j := fun a m n => by
            obtain ⟨i, m⟩ := m
            unfold offF at m
            split at m
            · cases m
            · rename_i hne
              exact hne (g.dj i j a m n)
          have hT1 : Hand G B Z H (joi B Z) (offF Fs j) (its ++ [(true, d)]) (vs ++ [v]) (T ++ Fs j) := by
            refine ⟨OwnT.snoc (o := true) hT.own hv, List.nodup_append.mpr ⟨hT.nd, g.nd j, fun a m b n => ?_⟩, fun a m n => ?_, fun a m => ?_⟩
            · rintro rfl
              exact hdT a m n
            · rcases List.mem_append.mp m with m | m
              · exact hT.dj a m (inF_off n)
              · exact off_j a n m
            · rcases List.mem_append.mp m with m | m
              · exact hT.fr a m
              · exact g.fr j a m
          have hpp : ∀ a, PT_ (offF Fs j) (T ++ Fs j) a → PT_ Fs T a := fun a m => by
            rcases m with m | m
            · exact .inl (inF_off m)
            · rcases List.mem_append.mp m with m | m
              · exact .inr m
              · exact .inl ⟨j, m⟩
          have hjl : j < env.length := (List.getElem?_eq_some_iff.mp hs).1
          have hF1 : FinO G W B Z H σ (env.set j none) (PT_ (offF Fs j) (T ++ Fs j)) (v :: ios) (evC c (fun ds e => k (its.map (·.2) ++ d :: ds) e) (env.set j none)) Q := by
            generalize evC c (fun ds e => k (its.map (·.2) ++ d :: ds) e) (env.set j none) = oo at hF
            unfold FinO at hF ⊢
            match oo, hF with
            | .exc c', hF => exact hF
            | .ok (d', [], env'), hF => exact hF.elim
            | .ok (d', o :: os, env'), hF =>
              intro v' Z' H' Fs' F p
              obtain ⟨w1, r1, Fa, Fb, ea, eb, ha, hb'⟩ := p.own
              obtain ⟨rfl, rfl⟩ := List.cons.inj ea
              obtain ⟨w2, r2, Fc, Fd, ec, ed, hc, hd'⟩ := hb'
              cases ec
              subst ed
              subst eb
              have nd0 := List.nodup_append.mp p.nd
              have nd1 := List.nodup_append.mp nd0.2.1
              have memc : ∀ a, a ∈ Fc → a ∈ Fa ++ (Fc ++ Fd) := fun a m => List.mem_append_right _ (List.mem_append_left _ m)
              have tm : Tm G B Z' H' (InF Fs') o v Fc := ⟨hc, nd1.1, fun a m n => p.dj a (memc a m) n, fun a m => p.fr a (memc a m)⟩
              have ls : env'.length = env.length := by rw [p.st.ln, List.length_set]
              have g2 := p.st.good.give hm ev (by rw [ls]; exact hjl) tm
              have nj : ∀ i, i ≠ j → (env.set j none)[i]? = env[i]? := fun i h => List.getElem?_set_ne (fun z => h z.symm)
              have nj' : ∀ i, i ≠ j → (env'.set j (some (m, o)))[i]? = env'[i]? := fun i h => List.getElem?_set_ne (fun z => h z.symm)
              have at_j : (env'.set j (some (m, o)))[j]? = some (some (m, o)) := List.getElem?_set_self (by rw [ls]; exact hjl)
              refine hF v' Z' H' (onF Fs' j Fc) (Fa ++ Fd) ⟨⟨p.st.zz, fun a u e n => p.st.ext a u e fun z => n (hpp a z), g2, fun a mm => ?_, fun a mm => ?_, fun i d2 e => ?_, fun i d2 e => ?_, fun i d2 e => ?_, fun i d2 e => ?_, by rw [List.length_set]; exact ls⟩, ⟨v', _, Fa, Fd, rfl, rfl, ha, hd'⟩, ?_, fun a mm n => ?_, fun a mm => ?_, fun a mm => ?_⟩
              · rcases inF_on mm with mm | mm
                · exact (p.new a (memc a mm)).imp id (hpp a)
                · exact (p.st.new a mm).imp id (hpp a)
              · exact (p.st.newz a mm).imp id fun z => z.imp id (hpp a)
              · by_cases hi : i = j
                · subst hi
                  rw [hs] at e
                  cases e
                  exact ⟨⟨o, at_j⟩, rfl⟩
                · rw [nj' i hi]
                  exact p.st.io i d2 (by rw [nj i hi]; exact e)
              · by_cases hi : i = j
                · subst hi
                  rw [hs] at e
                  cases e
                  cases hm
                · rw [nj' i hi]
                  exact p.st.lk i d2 (by rw [nj i hi]; exact e)
              · by_cases hi : i = j
                · subst hi
                  rw [at_j] at e
                  cases e
                  cases hm
                · rw [nj' i hi] at e
                  have q := p.st.bw i d2 e
                  rw [nj i hi] at q
                  exact q
              · by_cases hi : i = j
                · subst hi
                  rw [at_j] at e
                  cases e
                  cases hm
                · rw [nj' i hi] at e
                  have q := p.st.lb i d2 e
                  rw [nj i hi] at q
                  exact q
              · exact List.nodup_append.mpr ⟨nd0.1, nd1.2.1, fun a m1 b m2 => nd0.2.2 a m1 b (List.mem_append_right _ m2)⟩
              · rcases inF_on n with n | n
                · rcases List.mem_append.mp mm with mm | mm
                  · exact nd0.2.2 a mm a (List.mem_append_left _ n) rfl
                  · exact nd1.2.2 a n a mm rfl
                · refine p.dj a ?_ n
                  rcases List.mem_append.mp mm with mm | mm
                  · exact List.mem_append_left _ mm
                  · exact List.mem_append_right _ (List.mem_append_right _ mm)
              · refine p.fr a ?_
                rcases List.mem_append.mp mm with mm | mm
                · exact List.mem_append_left _ mm
                · exact List.mem_append_right _ (List.mem_append_right _ mm)
              · refine (p.new a ?_).imp id (hpp a)
                rcases List.mem_append.mp mm with mm | mm
                · exact List.mem_append_left _ mm
                · exact List.mem_append_right _ (List.mem_append_right _ mm)
          have e3 : (fun (ds : List D) (e : DEnv) => k (its.map (·.2) ++ d :: ds) e) = fun ds e => k ((its ++ [(true, d)]).map (·.2) ++ ds) e := by
            funext ds e
            rw [List.map_append, List.append_assoc]
            rfl
          rw [e3] at hF1
          have rec' := chn_okS hk c B Z H (env.set j none) (offF Fs j) (its ++ [(true, d)]) (vs ++ [v]) (T ++ Fs j) (v :: ios) (f0 ++ [true]) g1 hT1 (by rw [List.map_append, List.append_assoc]; exact hb) ⟨by rw [List.append_assoc]; exact hn.1, by rw [List.length_append, List.length_append, hn.2.1]; rfl, by rw [ioV_snoc f0 vs true v hn.2.1, hn.2.2]; rfl⟩ hF1
          have e4 : (fun (us : List V) (H2 : Hp) => r ((vs ++ [v]) ++ us) H2 Q) = fun us H2 => r (vs ++ v :: us) H2 Q := by
            funext us H2
            rw [List.append_assoc]
            rfl
          rw [e4] at rec'
          exact rec'
        · have e0 : evC (.io j c) (fun ds e => k (its.map (·.2) ++ ds) e) env = .bad := by
            unfold evC
            rw [hs]
            exact if_neg hm
          rw [e0] at hF; exact hF.elim
theorem chn_ok {G : Gc} {W : Wsh} {fl bs : List Bool} {r : List V → Hp → VK → Prop} {k : Kn} (hk : KOk G W fl bs r k) {Q : VK} (c : Chn) (B Z H : Hp) (σ : L2.St) (env : DEnv) (Fs : Nat → List Addr) (its : List (Bool × D)) (vs : List V) (T : List Addr) (ios : List V) (f0 : List Bool) (g : Good G B Z H σ env Fs) (hT : Hand G B Z H (joi B Z) Fs its vs T) (hb : its.map (·.1) ++ c.kinds = bs) (hn : f0 ++ c.iofs = fl ∧ f0.length = vs.length ∧ ios = ioV f0 vs)
    (hF : FinO G W B Z H σ env (PT_ Fs T) ios (evC c (fun ds e => k (its.map (·.2) ++ ds) e) env) Q) : seqTE (c.tes G W) σ H (fun us H1 => r (vs ++ us) H1 Q) :=
  chn_okS (σ := σ) (fun B Z H env => hk B Z H σ env) c B Z H env Fs its vs T ios f0 g hT hb hn hF
end DL
namespace DL
open PySem PySem.Spec PyProof.Rows L2
/-- an operation that only reads its arguments and hands on something new -/
def ROp (G : Gc) (r : List V → Hp → VK → Prop) (g : List D → Option D) : Prop :=
  ∀ (ds : List D) (vs : List V) (H : Hp) (Q : VK) (d : D), OwnL G H H ds vs [] → g ds = some d → (∀ v H' F, Same H H' → (∀ Z, Own G Z H' d v F) → F.Nodup → (∀ a, a ∈ F → H a = none) → Q v H') → r vs H Q
/-- its result is pure -/
def PureG (g : List D → Option D) : Prop := ∀ ds d, g ds = some d → d.pure = true

def l1 (r : V → Hp → VK → Prop) : List V → Hp → VK → Prop := fun vs H Q => match vs with
  | [x] => r x H Q
  | _ => False
def l2 (r : R2) : List V → Hp → VK → Prop := fun vs H Q => match vs with
  | [x, y] => r x y H Q
  | _ => False

def opK (g : List D → Option D) : Kn := fun ds e => must (g ds) fun d => .ok (d, [], e)
def eK (c : Chn) (k : Kn) : DEnv → Out (D × DEnv) := fun env => evC c k env >>= fun q => .ok (q.1, q.2.2)
/-- an operation that owns what it hands on -/
abbrev eOp (c : Chn) (g : List D → Option D) : DEnv → Out (D × DEnv) := eK c (opK g)
/-- an operation on what changes nothing, with a pure result -/
def hOp (hs : List SArg) (g : List D → Option D) : DEnv → Option D := fun env => match evS hs env with
  | some ds => g ds
  | none => none

section
variable {G : Gc} {W : Wsh} {X : Cx}
theorem op_own {r : List V → Hp → VK → Prop} {g : List D → Option D} {fl bs : List Bool} (hr : ROp G r g) (hfl : fl.any id = false) : KOk G W fl bs r (opK g) := by
  intro B Z H σ env Fs its vs T ios Q gd hd hb hn hF
  obtain rfl : ios = [] := hn.trans (ioV_none fl vs hfl)
  unfold opK at hF
  cases hg : g (its.map (·.2)) with
  | none => rw [hg] at hF; exact hF.elim
  | some d =>
    rw [hg] at hF
    refine hr _ vs H Q d (OwnT.reps cut_le gd.sz hd.own) hg fun v H' F hs ho nd hn' => ?_
    refine hF v Z H' Fs F ⟨Stp.grow gd (fun a m => .inl m) hs, ⟨v, [], F, [], rfl, by simp, ho Z, rfl, rfl⟩, nd, fun a m n => ?_, fun a m => ⟨?_, ?_⟩, fun a m => .inl (hn' a m)⟩
    · obtain ⟨o, e, _⟩ := gd.dom n
      rw [hn' a m] at e; cases e
    · cases q : B a with
      | none => rfl
      | some u =>
        have := gd.sb a u q
        rw [hn' a m] at this; cases this
    · cases q : Z a with
      | none => rfl
      | some u =>
        have := gd.sz a u q
        rw [hn' a m] at this; cases this
theorem FinV.toO {B Z H : Hp} {σ : L2.St} {env : DEnv} {Fs : Nat → List Addr} {o : Out (D × List D × DEnv)} {Q : VK} (h : FinV G W B Z H σ env (InF Fs) (o >>= fun q => .ok (q.1, q.2.2)) Q) : FinO G W B Z H σ env (PT_ Fs []) [] o Q := by
  unfold FinV at h
  unfold FinO
  match o, h with
  | .ok (d, outs, env'), h =>
    intro v Z' H' Fs' F p
    have pp : ∀ a, PT_ Fs [] a → InF Fs a := fun a m => m.elim id fun z => by cases z
    have he : outs = [] := by
      obtain ⟨_, _, _, _, e1, _, _, h2⟩ := p.own
      cases e1
      have := OwnL.length h2
      exact List.eq_nil_of_length_eq_zero this.symm
    subst he
    exact h v Z' H' Fs' F ⟨p.st.more pp, p.own, p.nd, p.dj, p.fr, fun a m => (p.new a m).imp id (pp a)⟩
  | .exc c, h => exact h
theorem tv_chn {fl bs : List Bool} {r : List V → Hp → VK → Prop} {k : Kn} {c : Chn} (hk : KOk G W fl bs r k) (hn : c.iofs = fl) (hb : c.kinds = bs) (σ : L2.St) (H : Hp) (Q : VK) (h : TV G W (eK c k) σ H Q) : seqTE (c.tes G W) σ H (fun vs H1 => r vs H1 Q) := by
  obtain ⟨B, Z, Fs, env, g, h⟩ := h
  have := chn_ok hk (Q := Q) c B Z H σ env Fs [] [] [] [] [] g ⟨⟨rfl, rfl⟩, List.nodup_nil, fun a m => (by cases m), fun a m => (by cases m)⟩ (by simpa using hb) ⟨hn, rfl, rfl⟩ (FinV.toO h)
  exact this
theorem tv_chnS {fl bs : List Bool} {σ : L2.St} {r : List V → Hp → VK → Prop} {k : Kn} {c : Chn} (hk : KOkS G W σ fl bs r k) (hn : c.iofs = fl) (hb : c.kinds = bs) (H : Hp) (Q : VK) (h : TV G W (eK c k) σ H Q) : seqTE (c.tes G W) σ H (fun vs H1 => r vs H1 Q) := by
  obtain ⟨B, Z, Fs, env, g, h⟩ := h
  have := chn_okS hk (Q := Q) c B Z H env Fs [] [] [] [] [] g ⟨⟨rfl, rfl⟩, List.nodup_nil, fun a m => (by cases m), fun a m => (by cases m)⟩ (by simpa using hb) ⟨hn, rfl, rfl⟩ (FinV.toO h)
  exact this
theorem tv_op {r : List V → Hp → VK → Prop} {g : List D → Option D} {c : Chn} (hr : ROp G r g) (hn : c.iofs.any id = false) (σ : L2.St) (H : Hp) (Q : VK) (h : TV G W (eOp c g) σ H Q) : seqTE (c.tes G W) σ H (fun vs H1 => r vs H1 Q) :=
  tv_chn (op_own hr hn) rfl rfl σ H Q h
theorem tpur_op {r : List V → Hp → VK → Prop} {g : List D → Option D} {hs : List SArg} (hr : ROp G r g) (hp : PureG g) (σ : L2.St) (H : Hp) (Q : VK) (h : TPur G (hOp hs g) σ H Q) : seqTE (hs.map (SArg.te G)) σ H (fun vs H1 => r vs H1 Q) := by
  obtain ⟨B, Z, Fs, env, gd, d, hd, q⟩ := h
  unfold hOp at hd
  cases he : evS hs env with
  | none => rw [he] at hd; cases hd
  | some ds =>
    rw [he] at hd
    refine evS_ok (T_ := []) (fun a m => by cases m) hs ds H _ gd he fun vs H1 hs1 ho hl => ?_
    have hlk : (SArg.kinds hs).length = ds.length := by rw [SArg.kinds_length, hl]
    have hrep := OwnT.reps (H := H1) cut_le (gd.sz.trans hs1) ho
    rw [map_snd_zip _ _ (Nat.le_of_eq hlk.symm)] at hrep
    refine hr ds vs H1 Q d hrep hd fun v H' F hs2 ho2 nd hn => ?_
    obtain ⟨hF, _⟩ := Own.ofPure (Z' := H') d v F (hp ds d hd) (ho2 H')
    subst hF
    exact q v H' (hs1.trans hs2) (hp ds d hd) ho2

def hC (d : D) : DEnv → Option D := fun _ => some d
def hVar (i : Nat) : DEnv → Option D := fun env => match env[i]? with
  | some (some (_, d)) => if d.pure = true then some d else none
  | _ => none
def pVar (i : Nat) : DEnv → Option D := fun env => match env[i]? with
  | some (some (_, d)) => some d
  | _ => none
/-- the value moved out of slot i -/
def eMov (i : Nat) : DEnv → Out (D × DEnv) := fun env => match env[i]? with
  | some (some (m, d)) => if m = .own then .ok (d, env.set i none) else .bad
  | _ => .bad
/-- a place of pure data, read -/
def hRd (g : DEnv → Option D) : DEnv → Option D := fun env => match g env with
  | some d => if d.pure = true then some d else none
  | none => none
def eP (h : DEnv → Option D) : DEnv → Out (D × DEnv) := fun env => must (h env) fun d => .ok (d, env)

theorem p_int {i : Int} {k pos} : PE X (.Constant (.int i) k pos) (TPur G (hC (.int i))) :=
  pe_int.imp fun σ H Q ⟨B, Z, Fs, env, gd, d, hd, q⟩ => by cases hd; exact q _ H (Same.refl H) rfl fun Z' => ⟨rfl, rfl⟩
theorem p_str {x : Str} {k pos} : PE X (.Constant (.str x) k pos) (TPur G (hC (.str x))) :=
  pe_str.imp fun σ H Q ⟨B, Z, Fs, env, gd, d, hd, q⟩ => by cases hd; exact q _ H (Same.refl H) rfl fun Z' => ⟨rfl, rfl⟩
theorem p_bl {b : Bool} {k pos} : PE X (.Constant (.bool b) k pos) (TPur G (hC (.bl b))) :=
  pe_bl.imp fun σ H Q ⟨B, Z, Fs, env, gd, d, hd, q⟩ => by cases hd; exact q _ H (Same.refl H) rfl fun Z' => ⟨rfl, rfl⟩
theorem p_non {k pos} : PE X (.Constant .none k pos) (TPur G (hC .non)) :=
  pe_non.imp fun σ H Q ⟨B, Z, Fs, env, gd, d, hd, q⟩ => by cases hd; exact q _ H (Same.refl H) rfl fun Z' => ⟨rfl, rfl⟩
/-- what a slot's name points at, read -/
theorem Good.read {B Z H : Hp} {σ : L2.St} {env : DEnv} {Fs : Nat → List Addr} (g : Good G B Z H σ env Fs) {i : Nat} {m : Md} {d : D} (h : env[i]? = some (some (m, d))) : ∃ v, σ[i]? = some (some v) ∧ Own G (joi (lockB B H Fs i) Z) H d v [] := by
  have hs := g.sl i
  rw [h] at hs
  have j1 : Same (joi B Z) (joi (lockB B H Fs i) Z) := joi_mono (lockB_up g i) (Same.refl Z) (lockB_le g i) g.sz
  have z1 : Same Z (joi (lockB B H Fs i) Z) := joi_right (lockB_le g i) g.sz
  have kf : ∀ b u, b ∈ Fs i → H b = some u → joi (lockB B H Fs i) Z b = some u := fun b u m q => joi_left b u (by unfold lockB; rw [lay_in m]; exact q)
  obtain ⟨v, e, hs⟩ := hs
  refine ⟨v, e, ?_⟩
  cases m with
  | own => exact Own.freeze z1 d v _ kf hs
  | io => exact Own.freeze z1 d v _ kf hs
  | shr => exact Own.keep z1 d v [] (fun _ _ e _ => e) hs.1
  | brw => exact Own.keep j1 d v [] (fun _ _ e _ => e) hs.1
  | lck => exact Own.keep j1 d v [] (fun _ _ e _ => e) hs.1
theorem p_plc {e : Expr} {i : Nat} (h : PE X e (tVar i)) : PE X e (TPlc G i (pVar i)) :=
  h.imp fun σ H Q ⟨B, Z, Fs, env, gd, d, hd, q⟩ => by
    unfold pVar at hd
    cases hs : env[i]? with
    | none => rw [hs] at hd; cases hd
    | some sl =>
      match sl, hs with
      | none, hs => rw [hs] at hd; cases hd
      | some (m, d'), hs =>
        rw [hs] at hd
        cases hd
        obtain ⟨v, ev, ho⟩ := gd.read hs
        exact ⟨v, ev, q v H (Same.refl H) ho⟩
theorem p_rd {e : Expr} {i : Nat} {g : DEnv → Option D} (h : PE X e (TPlc G i g)) : PE X e (TPur G (hRd g)) :=
  h.imp fun σ H Q ⟨B, Z, Fs, env, gd, d, hd, q⟩ => by
    unfold hRd at hd
    cases hg : g env with
    | none => rw [hg] at hd; cases hd
    | some d' =>
      rw [hg] at hd
      by_cases hp : d'.pure = true
      · have hd : (if d'.pure = true then some d' else none) = some d := hd
        rw [if_pos hp] at hd
        cases hd
        exact ⟨B, Z, Fs, env, gd, _, hg, fun v H' hs ho => q v H' hs hp fun Z' => (Own.ofPure (Z' := Z') _ v [] hp ho).2⟩
      · have hd : (if d'.pure = true then some d' else none) = some d := hd
        rw [if_neg hp] at hd
        cases hd
theorem p_var {e : Expr} {i : Nat} (h : PE X e (tVar i)) : PE X e (TPur G (hVar i)) :=
  (p_rd (p_plc h)).imp fun σ H Q ⟨B, Z, Fs, env, gd, d, hd, q⟩ => by
    refine ⟨B, Z, Fs, env, gd, d, ?_, q⟩
    unfold hVar at hd
    unfold hRd pVar
    cases hs : env[i]? with
    | none => rw [hs] at hd; cases hd
    | some sl =>
      match sl, hs with
      | none, hs => rw [hs] at hd; cases hd
      | some (m, d'), hs =>
        rw [hs] at hd
        exact hd
theorem e_p {e : Expr} {h : DEnv → Option D} (hp : PE X e (TPur G h)) : PE X e (TV G W (eP h)) :=
  hp.imp fun σ H Q ⟨B, Z, Fs, env, gd, hF⟩ => by
    unfold eP at hF
    cases he : h env with
    | none => rw [he] at hF; exact hF.elim
    | some d =>
      rw [he] at hF
      refine ⟨B, Z, Fs, env, gd, d, he, fun v H' hs hp ho => ?_⟩
      exact hF v Z H' Fs [] ⟨Stp.grow gd (fun a m => m) hs, ⟨v, [], [], [], rfl, rfl, ho Z, rfl, rfl⟩, List.nodup_nil, fun a m => (by cases m), fun a m => (by cases m), fun a m => (by cases m)⟩
/-- slot i's value out of it -/
theorem Stp.take {B Z H : Hp} {σ : L2.St} {env : DEnv} {Fs : Nat → List Addr} (g : Good G B Z H σ env Fs) {i : Nat} {d : D} (h : env[i]? = some (some (.own, d))) : Stp G B Z H σ env (InF Fs) Z H σ (env.set i none) (offF Fs i) := by
  refine ⟨Same.refl Z, fun _ _ e _ => e, g.take i, fun a m => .inr (inF_off m), fun _ m => .inl m, fun j d' e => ?_, fun j d' e => ?_, fun j d' e => ?_, fun j d' e => ?_, by rw [List.length_set]⟩
  all_goals
    by_cases hj : j = i
    · subst hj
      first
        | (rw [h] at e; cases e)
        | (rw [List.getElem?_set_self'] at e; cases hq : env[j]? <;> rw [hq] at e <;> cases e)
    · have n1 : (env.set i none)[j]? = env[j]? := List.getElem?_set_ne (fun z => hj z.symm)
      first
        | (rw [n1] at e; exact ⟨e, rfl⟩)
        | (rw [n1]; exact ⟨e, rfl⟩)
        | (rw [n1]; exact ⟨⟨d', e⟩, rfl⟩)
theorem e_mov {e : Expr} {i : Nat} (h : PE X e (tVar i)) : PE X e (TV G W (eMov i)) :=
  h.imp fun σ H Q ⟨B, Z, Fs, env, gd, hF⟩ => by
    unfold eMov at hF
    cases hs : env[i]? with
    | none => rw [hs] at hF; exact hF.elim
    | some sl =>
      match sl, hs with
      | none, hs => rw [hs] at hF; exact hF.elim
      | some (m, d), hs =>
        rw [hs] at hF
        have hF : FinV G W B Z H σ env (InF Fs) (if m = .own then .ok (d, env.set i none) else .bad) Q := hF
        by_cases hm : m = .own
        · subst hm
          rw [if_pos rfl] at hF
          have hsl := gd.sl i
          rw [hs] at hsl
          obtain ⟨v, ev, ho⟩ := hsl
          refine ⟨v, ev, hF v Z H (offF Fs i) (Fs i) ⟨Stp.take gd hs, ⟨v, [], Fs i, [], rfl, by simp, ho, rfl, rfl⟩, gd.nd i, fun a m n => ?_, fun a m => gd.fr i a m, fun a m => .inr ⟨i, m⟩⟩⟩
          obtain ⟨j, n⟩ := n
          unfold offF at n
          split at n
          · cases n
          · rename_i hne
            exact hne (gd.dj j i a n m)
        · rw [if_neg hm] at hF
          exact hF.elim
end
end DL
namespace DL
open PySem PySem.Spec PyProof.Rows L2
structure DX (X : Cx) (G : Gc) : Prop where
  K : X.K = G.K
  nd : X.N.Nodup
  un : X.A.units + 70 < cLine

mutual
def D.py : D → Option PyData
  | .non => some .none
  | .bl b => some (.bool b)
  | .int i => some (.int i)
  | .str s => some (.str s)
  | .scr _ => none
  | .tupF _ xs => (D.pyL xs).map .tuple
  | .lst xs => (D.pyL xs).map .list
  | .dk _ _ => none
  | .dt _ _ => none
  | .obj _ _ _ => none
  | .fob _ _ _ => none
  | .exn _ => none
  | .bor _ => none
def D.pyL : List D → Option (List PyData)
  | [] => some []
  | d :: r => match d.py, D.pyL r with
    | some p, some q => some (p :: q)
    | _, _ => none
end
mutual
theorem Own.dp {G : Gc} {H : Hp} : ∀ (d : D) (v : V) (p : PyData), Own G H H d v [] → d.py = some p → Dp G.K H v p
  | .non, v, p, h, e => by
    cases (show some PyData.none = some p from e)
    rw [h.1]; exact .non
  | .bl b, v, p, h, e => by
    cases (show some (PyData.bool b) = some p from e)
    rw [h.1]; exact .bl b
  | .int i, v, p, h, e => by
    cases (show some (PyData.int i) = some p from e)
    rw [h.1]; exact .int i
  | .str s, v, p, h, e => by
    cases (show some (PyData.str s) = some p from e)
    rw [h.1]; exact .str s
  | .tupF f xs, v, p, h, e => by
    have e : (D.pyL xs).map PyData.tuple = some p := e
    obtain ⟨a, vs, rfl, h1, h2⟩ := h
    cases hq : D.pyL xs with
    | none => rw [hq] at e; cases e
    | some q =>
      rw [hq] at e
      cases e
      exact .tup h1.seq (OwnL.dp xs vs q h2 hq)
  | .lst xs, v, p, h, e => by
    have e : (D.pyL xs).map PyData.list = some p := e
    obtain ⟨a, vs, F', rfl, n, h2⟩ := h
    cases hq : D.pyL xs with
    | none => rw [hq] at e; cases e
    | some q =>
      rw [hq] at e
      cases e
      rcases n with ⟨hs, _, rfl⟩ | ⟨z, _⟩
      · exact .lst (.inl hs) (OwnL.dp xs vs q h2 hq)
      · cases z
  | .scr _, v, p, h, e => by cases e
  | .dk _ _, v, p, h, e => by cases e
  | .dt _ _, v, p, h, e => by cases e
  | .obj _ _ _, v, p, h, e => by cases e
  | .fob _ _ _, v, p, h, e => by cases e
  | .exn _, v, p, h, e => by cases e
  | .bor _, v, p, h, e => by cases e
theorem OwnL.dp {G : Gc} {H : Hp} : ∀ (ds : List D) (vs : List V) (ps : List PyData), OwnL G H H ds vs [] → D.pyL ds = some ps → DpAll G.K H vs ps
  | [], vs, ps, h, e => by
    cases (show some ([] : List PyData) = some ps from e)
    rw [h.1]; exact .nil
  | d :: r, vs, ps, h, e => by
    obtain ⟨v, r', rfl, h1, h2⟩ := OwnL.uncons h
    have e : (match d.py, D.pyL r with
      | some p, some q => some (p :: q)
      | _, _ => none) = some ps := e
    cases hp : d.py with
    | none => rw [hp] at e; cases e
    | some p =>
      cases hq : D.pyL r with
      | none => rw [hp, hq] at e; cases e
      | some q =>
        rw [hp, hq] at e
        cases e
        exact .cons (Own.dp d v p h1 hp) (OwnL.dp r r' q h2 hq)
end
section
variable {G : Gc} {H : Hp}
theorem own1 {a : D} {vs : List V} (h : OwnL G H H [a] vs []) : ∃ x, vs = [x] ∧ Own G H H a x [] := by
  obtain ⟨x, r, rfl, h1, h2⟩ := OwnL.uncons h
  obtain ⟨rfl, _⟩ := h2
  exact ⟨x, rfl, h1⟩
theorem own2 {a b : D} {vs : List V} (h : OwnL G H H [a, b] vs []) : ∃ x y, vs = [x, y] ∧ Own G H H a x [] ∧ Own G H H b y [] := by
  obtain ⟨x, r, rfl, h1, h2⟩ := OwnL.uncons h
  obtain ⟨y, rfl, h3⟩ := own1 h2
  exact ⟨x, y, rfl, h1, h3⟩
theorem Own.lstR {ds : List D} {v : V} (h : Own G H H (.lst ds) v []) : ∃ a vs, v = .ref a ∧ SqL G.K H a vs ∧ OwnL G H H ds vs [] := by
  obtain ⟨a, vs, F', rfl, n, h2⟩ := h
  rcases n with ⟨hs, _, rfl⟩ | ⟨z, _⟩
  · exact ⟨a, vs, rfl, .inl hs, h2⟩
  · cases z
theorem OwnL.pure_any {Z Z' : Hp} {ds : List D} {vs : List V} {F : List Addr} (hp : D.pureL ds = true) (h : OwnL G Z H ds vs F) : OwnL G Z' H ds vs [] := (OwnL.ofPure ds vs F hp h).2
/-- a new tuple of pure items -/
theorem new_tup {H : Hp} {ds : List D} {vs : List V} {p : Addr} (hp : D.pureL ds = true) (hn : H p = none) (h : OwnL G H H ds vs []) (Z : Hp) : Own G Z (upd H p (.tup vs)) (.tup ds) (.ref p) [] :=
  ⟨p, vs, rfl, (upd_same : upd H p (.tup vs) p = some (.tup vs)), OwnL.keep (Same.refl Z) ds vs [] (fun b u e _ => same_upd hn b u e) (OwnL.pure_any hp h)⟩
/-- a new list of pure items -/
theorem new_lst {H : Hp} {ds : List D} {vs : List V} {p : Addr} (hp : D.pureL ds = true) (hn : H p = none) (h : OwnL G H H ds vs []) (Z : Hp) : Own G Z (upd H p (.lst vs)) (.lst ds) (.ref p) [p] :=
  ⟨p, vs, [], rfl, .inr ⟨rfl, upd_same⟩, OwnL.keep (Same.refl Z) ds vs [] (fun b u e _ => same_upd hn b u e) (OwnL.pure_any hp h)⟩
end
theorem D.pureL_append : ∀ (a b : List D), D.pureL (a ++ b) = (D.pureL a && D.pureL b)
  | [], b => by simp [D.pureL]
  | d :: r, b => by
    show (d.pure && D.pureL (r ++ b)) = (d.pure && D.pureL r && D.pureL b)
    rw [D.pureL_append r b, Bool.and_assoc]
theorem D.pureL_drop : ∀ (n : Nat) (a : List D), D.pureL a = true → D.pureL (a.drop n) = true
  | 0, a, h => h
  | n + 1, [], h => rfl
  | n + 1, d :: r, h => D.pureL_drop n r (by
    have h : (d.pure && D.pureL r) = true := h
    simp only [Bool.and_eq_true] at h
    exact h.2)
theorem D.pureL_take : ∀ (n : Nat) (a : List D), D.pureL a = true → D.pureL (a.take n) = true
  | 0, a, h => rfl
  | n + 1, [], h => rfl
  | n + 1, d :: r, h => by
    have h : (d.pure && D.pureL r) = true := h
    simp only [Bool.and_eq_true] at h
    show (d.pure && D.pureL (r.take n)) = true
    rw [h.1, D.pureL_take n r h.2]; rfl
theorem OwnL.drop {G : Gc} {Z H : Hp} : ∀ (n : Nat) {ds : List D} {vs : List V}, OwnL G Z H ds vs [] → OwnL G Z H (ds.drop n) (vs.drop n) []
  | 0, ds, vs, h => h
  | n + 1, [], vs, h => by rw [h.1]; exact ⟨rfl, rfl⟩
  | n + 1, d :: r, vs, h => by
    obtain ⟨v, r', rfl, _, h2⟩ := OwnL.uncons h
    exact OwnL.drop n h2
theorem OwnL.take {G : Gc} {Z H : Hp} : ∀ (n : Nat) {ds : List D} {vs : List V}, OwnL G Z H ds vs [] → OwnL G Z H (ds.take n) (vs.take n) []
  | 0, ds, vs, h => ⟨rfl, rfl⟩
  | n + 1, [], vs, h => by rw [h.1]; exact ⟨rfl, rfl⟩
  | n + 1, d :: r, vs, h => by
    obtain ⟨v, r', rfl, h1, h2⟩ := OwnL.uncons h
    exact OwnL.cons_nil h1 (OwnL.take n h2)

def bin (f : D → D → Option D) : List D → Option D
  | [a, b] => f a b
  | _ => none
def una (f : D → Option D) : List D → Option D
  | [a] => f a
  | _ => none
theorem bin_some {f : D → D → Option D} : ∀ {ds : List D} {d : D}, bin f ds = some d → ∃ a b, ds = [a, b] ∧ f a b = some d
  | [], _, h => by cases h
  | [_], _, h => by cases h
  | [a, b], _, h => ⟨a, b, rfl, h⟩
  | _ :: _ :: _ :: _, _, h => by cases h
theorem una_some {f : D → Option D} : ∀ {ds : List D} {d : D}, una f ds = some d → ∃ a, ds = [a] ∧ f a = some d
  | [], _, h => by cases h
  | [a], _, h => ⟨a, rfl, h⟩
  | _ :: _ :: _, _, h => by cases h
def D.toInt : D → Option Int
  | .int i => some i
  | _ => none
def D.toStr : D → Option Str
  | .str i => some i
  | _ => none
def D.toTup : D → Option (List D)
  | .tupF false i => some i
  | _ => none
def D.toLst : D → Option (List D)
  | .lst i => some i
  | _ => none
/-- lists, and the script -/
def D.toRow : D → Option (List D)
  | .lst i => some i
  | .scr ns => some (ns.map D.int)
  | _ => none
theorem ints_rep {G : Gc} {Z H : Hp} : ∀ ns : List Int, OwnL G Z H (ns.map D.int) (ns.map V.int) []
  | [] => ⟨rfl, rfl⟩
  | i :: r => OwnL.cons_nil ⟨rfl, rfl⟩ (ints_rep r)
theorem Own.rowR {G : Gc} {H : Hp} {d : D} {ds : List D} {v : V} (h : Own G H H d v []) (e : d.toRow = some ds) : ∃ a vs, v = .ref a ∧ SqL G.K H a vs ∧ OwnL G H H ds vs [] := by
  cases d with
  | lst xs => cases e; exact h.lstR
  | scr ns =>
    cases e
    obtain ⟨_, a, rfl, hs⟩ := h
    exact ⟨a, _, rfl, hs, ints_rep ns⟩
  | _ => cases e
theorem D.toInt_some {d : D} {i : Int} (h : d.toInt = some i) : d = .int i := by
  cases d <;> first | (cases h; rfl) | cases h
theorem D.toStr_some {d : D} {i : Str} (h : d.toStr = some i) : d = .str i := by
  cases d <;> first | (cases h; rfl) | cases h
theorem D.toTup_some {d : D} {i : List D} (h : d.toTup = some i) : d = .tup i := by
  cases d with
  | tupF f xs => cases f <;> first | (cases h; rfl) | cases h
  | _ => cases h
def D.toTupA : D → Option (List D)
  | .tupF _ i => some i
  | _ => none
theorem D.toTupA_some {d : D} {i : List D} (h : d.toTupA = some i) : ∃ f, d = .tupF f i := by
  cases d with
  | tupF f xs => cases h; exact ⟨f, rfl⟩
  | _ => cases h
theorem D.toLst_some {d : D} {i : List D} (h : d.toLst = some i) : d = .lst i := by
  cases d <;> first | (cases h; rfl) | cases h
def bI (f : Int → Int → Option D) : D → D → Option D := fun a b => match a.toInt, b.toInt with
  | some i, some j => f i j
  | _, _ => none
theorem bI_some {f : Int → Int → Option D} {a b d : D} (h : bI f a b = some d) : ∃ i j, a = .int i ∧ b = .int j ∧ f i j = some d := by
  unfold bI at h
  cases ha : a.toInt with
  | none => rw [ha] at h; cases h
  | some i =>
    cases hb : b.toInt with
    | none => rw [ha, hb] at h; cases h
    | some j =>
      rw [ha, hb] at h
      exact ⟨i, j, D.toInt_some ha, D.toInt_some hb, h⟩
def bS (f : Str → Str → Option D) : D → D → Option D := fun a b => match a.toStr, b.toStr with
  | some i, some j => f i j
  | _, _ => none
theorem bS_some {f : Str → Str → Option D} {a b d : D} (h : bS f a b = some d) : ∃ i j, a = .str i ∧ b = .str j ∧ f i j = some d := by
  unfold bS at h
  cases ha : a.toStr with
  | none => rw [ha] at h; cases h
  | some i =>
    cases hb : b.toStr with
    | none => rw [ha, hb] at h; cases h
    | some j =>
      rw [ha, hb] at h
      exact ⟨i, j, D.toStr_some ha, D.toStr_some hb, h⟩
def bT (f : List D → List D → Option D) : D → D → Option D := fun a b => match a.toTup, b.toTup with
  | some i, some j => f i j
  | _, _ => none
theorem bT_some {f : List D → List D → Option D} {a b d : D} (h : bT f a b = some d) : ∃ i j, a = .tup i ∧ b = .tup j ∧ f i j = some d := by
  unfold bT at h
  cases ha : a.toTup with
  | none => rw [ha] at h; cases h
  | some i =>
    cases hb : b.toTup with
    | none => rw [ha, hb] at h; cases h
    | some j =>
      rw [ha, hb] at h
      exact ⟨i, j, D.toTup_some ha, D.toTup_some hb, h⟩
/-- a value where a condition holds -/
def iff? {α : Type} (p : Prop) [Decidable p] (d : α) : Option α := if p then some d else none
theorem iff?_some {α : Type} {p : Prop} [Decidable p] {d e : α} (h : iff? p d = some e) : p ∧ d = e := by
  unfold iff? at h
  split at h
  · rename_i hp; exact ⟨hp, Option.some.inj h⟩
  · cases h
theorem iff?_pos {α : Type} {p : Prop} [Decidable p] (h : p) (d : α) : iff? p d = some d := if_pos h
/-- * is told for what has together less than 2 ^ 26 bits -/
def MulOk (a b : Int) : Prop := a.natAbs.log2 + b.natAbs.log2 < 60000000
instance (a b : Int) : Decidable (MulOk a b) := by unfold MulOk; exact inferInstance

def fAdd (a b : D) : Option D := match a with
  | .int _ => bI (fun i j => some (.int (i + j))) a b
  | .str _ => bS (fun i j => iff? (i.length + j.length ≤ 16777216) (.str (i ++ j))) a b
  | .tupF _ _ => bT (fun x y => iff? (D.pureL x = true ∧ D.pureL y = true ∧ x.length + y.length ≤ 16777216) (.tup (x ++ y))) a b
  | _ => none
abbrev gAdd := bin fAdd
abbrev gSub := bin (bI fun i j => some (.int (i - j)))
abbrev gMul := bin (bI fun i j => iff? (MulOk i j) (.int (i * j)))
abbrev gDiv := bin (bI fun i j => iff? (0 < j ∧ j.natAbs.log2 < 9000) (.int (i / j)))
abbrev gMod := bin (bI fun i j => iff? (0 < j) (.int (i % j)))
abbrev gPow := bin (bI fun i j => iff? (0 ≤ j ∧ j ≤ 1000 ∧ i.natAbs < 1000000) (.int (i ^ j.toNat)))
def gEqB (a b : D) : Option Bool := match a.py, b.py with
  | some p, some q => iff? (SeqAt.shaped p = true ∧ SeqAt.shaped q = true) (PyData.eqv p q)
  | _, _ => none
abbrev gEq := bin fun a b => (gEqB a b).map .bl
abbrev gNe := bin fun a b => (gEqB a b).map fun k => .bl (!k)
def fLt (a b : D) : Option D := match a with
  | .int _ => bI (fun i j => some (.bl (decide (i < j)))) a b
  | .str _ => bS (fun i j => some (.bl (decide (i.cps.toList < j.cps.toList)))) a b
  | _ => none
abbrev gLt := bin fLt
abbrev gLe := bin (bI fun i j => some (.bl (decide (i ≤ j))))
abbrev gGt := bin (bI fun i j => some (.bl (decide (j < i))))
abbrev gGe := bin (bI fun i j => some (.bl (decide (j ≤ i))))
def D.isNon : D → Bool
  | .non => true
  | _ => false
theorem D.isNon_true {d : D} (h : d.isNon = true) : d = .non := by
  cases d <;> first | rfl | cases h
abbrev gNotN := bin fun a b => iff? (b.isNon = true) (.bl (!a.isNon))

theorem size_line : (16777216 : Nat) = sizeLine := sizeLine_eq.symm

section
variable {G : Gc} {X : Cx}
theorem done0 {H : Hp} {d : D} {v : V} {Q : VK} (q : ∀ v H' F, Same H H' → (∀ Z, Own G Z H' d v F) → F.Nodup → (∀ a, a ∈ F → H a = none) → Q v H') (hp : ∀ Z, Own G Z H d v []) : Q v H :=
  q v H [] (Same.refl H) hp List.nodup_nil fun a m => by cases m
/-- an operation on two ints -/
theorem rop_int {C : Int → Int → Prop} {f : Int → Int → V} {h : Int → Int → Option D} {k : Int → Int → D} (hg : ∀ i j d, h i j = some d → C i j ∧ d = k i j) (ho : ∀ i j Z H, Own G Z H (k i j) (f i j) []) : ROp G (l2 (rI C f)) (bin (bI h)) := by
  intro ds vs H Q d hh e q
  obtain ⟨a, b, rfl, e⟩ := bin_some e
  obtain ⟨i, j, rfl, rfl, e⟩ := bI_some e
  obtain ⟨hc, rfl⟩ := hg i j d e
  obtain ⟨x, y, rfl, h1, h2⟩ := own2 hh
  exact ⟨i, j, h1.1, h2.1, hc, done0 q (fun Z => ho i j Z H)⟩
theorem rop_int0 {f : Int → Int → V} {h : Int → Int → Option D} {k : Int → Int → D} (hg : ∀ i j d, h i j = some d → d = k i j) (ho : ∀ i j Z H, Own G Z H (k i j) (f i j) []) : ROp G (l2 (rI0 f)) (bin (bI h)) := by
  intro ds vs H Q d hh e q
  obtain ⟨a, b, rfl, e⟩ := bin_some e
  obtain ⟨i, j, rfl, rfl, e⟩ := bI_some e
  obtain rfl := hg i j d e
  obtain ⟨x, y, rfl, h1, h2⟩ := own2 hh
  exact ⟨i, j, h1.1, h2.1, done0 q (fun Z => ho i j Z H)⟩
theorem pure_int {h : Int → Int → Option D} (hg : ∀ i j d, h i j = some d → d.pure = true) : PureG (bin (bI h)) := by
  intro ds d e
  obtain ⟨a, b, rfl, e⟩ := bin_some e
  obtain ⟨i, j, rfl, rfl, e⟩ := bI_some e
  exact hg i j d e
def rAddA (K : PySem.W.Frag) : R2 := fun x y H Q => (rI0 fun i j => V.int (i + j)) x y H Q ∨ (∃ i j, x = .str i ∧ y = .str j ∧ i.length + j.length ≤ sizeLine ∧ Q (.str (i ++ j)) H) ∨ rCatA K x y H Q
theorem op_addA : OpR X (binaryOp .Add) (rAddA X.K) := OpR.or op_add (OpR.or op_add_str op_catA)
theorem fAdd_some {a b d : D} (h : fAdd a b = some d) : (∃ i j, a = .int i ∧ b = .int j ∧ d = .int (i + j)) ∨ (∃ i j, a = .str i ∧ b = .str j ∧ i.length + j.length ≤ 16777216 ∧ d = .str (i ++ j)) ∨
    ∃ x y, a = .tup x ∧ b = .tup y ∧ (D.pureL x = true ∧ D.pureL y = true ∧ x.length + y.length ≤ 16777216) ∧ d = .tup (x ++ y) := by
  cases a with
  | int _ =>
    obtain ⟨i, j, e1, e2, e3⟩ := bI_some h
    cases e3
    exact .inl ⟨i, j, e1, e2, rfl⟩
  | str _ =>
    obtain ⟨i, j, e1, e2, e3⟩ := bS_some h
    obtain ⟨hl, rfl⟩ := iff?_some e3
    exact .inr (.inl ⟨i, j, e1, e2, hl, rfl⟩)
  | tupF _ _ =>
    obtain ⟨i, j, e1, e2, e3⟩ := bT_some h
    obtain ⟨hl, rfl⟩ := iff?_some e3
    exact .inr (.inr ⟨i, j, e1, e2, hl, rfl⟩)
  | _ => cases h
theorem rop_add : ROp G (l2 (rAddA G.K)) gAdd := by
  intro ds vs H Q d h e q
  obtain ⟨a, b, rfl, e⟩ := bin_some e
  obtain ⟨x, y, rfl, h1, h2⟩ := own2 h
  rcases fAdd_some e with ⟨i, j, rfl, rfl, rfl⟩ | ⟨i, j, rfl, rfl, hl, rfl⟩ | ⟨a, b, rfl, rfl, hl, rfl⟩
  · exact .inl ⟨i, j, h1.1, h2.1, done0 q (fun Z => ⟨rfl, rfl⟩)⟩
  · exact .inr (.inl ⟨i, j, h1.1, h2.1, by rw [← size_line]; exact hl, done0 q (fun Z => ⟨rfl, rfl⟩)⟩)
  · obtain ⟨p, us, rfl, e1, o1⟩ := h1
    obtain ⟨p2, us2, rfl, e2, o2⟩ := h2
    have l1 := OwnL.length o1
    have l2 := OwnL.length o2
    refine .inr (.inr ⟨p, p2, us, us2, rfl, rfl, SqT.of e1, SqT.of e2, by rw [← size_line, l1, l2]; exact hl.2.2, fun z => ?_, fun _ z => ?_, fun _ _ p3 hn => ?_⟩)
    · subst z
      have : a = [] := List.eq_nil_of_length_eq_zero l1.symm
      subst this
      exact done0 q (fun Z => ⟨p2, us2, rfl, e2, OwnL.pure_any hl.2.1 o2⟩)
    · subst z
      have : b = [] := List.eq_nil_of_length_eq_zero l2.symm
      subst this
      rw [List.append_nil] at q
      exact done0 q (fun Z => ⟨p, us, rfl, e1, OwnL.pure_any hl.1 o1⟩)
    · have hpp : D.pureL (a ++ b) = true := by rw [D.pureL_append, hl.1, hl.2.1]; rfl
      have hap := OwnL.append o1 o2
      rw [List.append_nil] at hap
      exact q _ _ [] (same_upd hn) (fun Z => new_tup hpp hn hap Z) List.nodup_nil fun a m => by cases m
theorem pure_add : PureG gAdd := by
  intro ds d e
  obtain ⟨a, b, rfl, e⟩ := bin_some e
  rcases fAdd_some e with ⟨i, j, rfl, rfl, rfl⟩ | ⟨i, j, rfl, rfl, hl, rfl⟩ | ⟨a, b, rfl, rfl, hl, rfl⟩
  · rfl
  · rfl
  · show D.pureL (a ++ b) = true
    rw [D.pureL_append, hl.1, hl.2.1]; rfl
theorem rop_sub : ROp G (l2 (rI0 fun i j => V.int (i - j))) gSub := rop_int0 (k := fun i j => .int (i - j)) (fun i j d e => (Option.some.inj e).symm) fun i j Z H => ⟨rfl, rfl⟩
theorem pure_sub : PureG gSub := pure_int fun i j d e => by cases e; rfl
theorem MulOk.ok {i j : Int} (h : MulOk i j) : IntMulOk i j := by
  have b : ∀ x : Int, Builtin.Int.intBits x ≤ x.natAbs.log2 + 1 := fun x => by
    unfold Builtin.Int.intBits
    split <;> omega
  have h1 := b i
  have h2 := b j
  unfold MulOk at h
  have e : bitsLine = 134217728 := by decide
  unfold IntMulOk
  intro z
  rw [Bool.and_eq_true] at z
  have z2 := z.2
  unfold Builtin.Int.intTooBig at z2
  have z3 := of_decide_eq_true z2
  rw [e] at z3
  omega
theorem op_mulD : OpR X (binaryOp .Mult) (rI MulOk fun i j => .int (i * j)) := opI fun _ _ _ _ _ _ _ hc q => mul_int q hc.ok
theorem rop_mul : ROp G (l2 (rI MulOk fun i j => V.int (i * j))) gMul := rop_int (k := fun i j => .int (i * j)) (fun i j d e => by
  obtain ⟨h, rfl⟩ := iff?_some e
  exact ⟨h, rfl⟩) fun i j Z H => ⟨rfl, rfl⟩
theorem pure_mul : PureG gMul := pure_int fun i j d e => by
  obtain ⟨h, rfl⟩ := iff?_some e
  rfl
theorem rop_div : ROp G (l2 (rI CDivW fun i j => V.int (i / j))) gDiv := rop_int (k := fun i j => .int (i / j)) (fun i j d e => by
  obtain ⟨h, rfl⟩ := iff?_some e
  exact ⟨h, rfl⟩) fun i j Z H => ⟨rfl, rfl⟩
theorem pure_div : PureG gDiv := pure_int fun i j d e => by
  obtain ⟨h, rfl⟩ := iff?_some e
  rfl
theorem rop_mod : ROp G (l2 (rI (fun _ j => 0 < j) fun i j => V.int (i % j))) gMod := rop_int (k := fun i j => .int (i % j)) (fun i j d e => by
  obtain ⟨h, rfl⟩ := iff?_some e
  exact ⟨h, rfl⟩) fun i j Z H => ⟨rfl, rfl⟩
theorem pure_mod : PureG gMod := pure_int fun i j d e => by
  obtain ⟨h, rfl⟩ := iff?_some e
  rfl
theorem rop_pow : ROp G (l2 (rI CPow fun i j => V.int (i ^ j.toNat))) gPow := rop_int (k := fun i j => .int (i ^ j.toNat)) (fun i j d e => by
  obtain ⟨h, rfl⟩ := iff?_some e
  exact ⟨⟨h.1, by omega, by omega⟩, rfl⟩) fun i j Z H => ⟨rfl, rfl⟩
theorem pure_pow : PureG gPow := pure_int fun i j d e => by
  obtain ⟨h, rfl⟩ := iff?_some e
  rfl
theorem gEqB_some {a b : D} {k : Bool} (h : gEqB a b = some k) : ∃ p q, a.py = some p ∧ b.py = some q ∧ SeqAt.shaped p = true ∧ SeqAt.shaped q = true ∧ k = PyData.eqv p q := by
  unfold gEqB at h
  cases hp : a.py with
  | none => rw [hp] at h; cases h
  | some p =>
    cases hq : b.py with
    | none => rw [hp, hq] at h; cases h
    | some q =>
      rw [hp, hq] at h
      obtain ⟨hs, e⟩ := iff?_some h
      exact ⟨p, q, rfl, rfl, hs.1, hs.2, e.symm⟩
theorem map_some' {α β : Type} {f : α → β} {o : Option α} {b : β} (h : o.map f = some b) : ∃ a, o = some a ∧ f a = b := by
  cases o with
  | none => cases h
  | some a => exact ⟨a, rfl, Option.some.inj h⟩
theorem rop_eq : ROp G (l2 (rEqD G.K)) gEq := by
  intro ds vs H Q d h e q
  obtain ⟨a, b, rfl, e⟩ := bin_some e
  obtain ⟨x, y, rfl, h1, h2⟩ := own2 h
  obtain ⟨k, hk, rfl⟩ := map_some' e
  obtain ⟨p, r, ep, er, sp, sr, rfl⟩ := gEqB_some hk
  exact ⟨p, r, Own.dp a x p h1 ep, Own.dp b y r h2 er, sp, sr, done0 q (fun Z => ⟨rfl, rfl⟩)⟩
theorem pure_eq : PureG gEq := by
  intro ds d e
  obtain ⟨a, b, rfl, e⟩ := bin_some e
  obtain ⟨k, hk, rfl⟩ := map_some' e
  rfl
theorem rop_ne : ROp G (l2 (rNeD G.K)) gNe := by
  intro ds vs H Q d h e q
  obtain ⟨a, b, rfl, e⟩ := bin_some e
  obtain ⟨x, y, rfl, h1, h2⟩ := own2 h
  obtain ⟨k, hk, rfl⟩ := map_some' e
  obtain ⟨p, r, ep, er, sp, sr, rfl⟩ := gEqB_some hk
  exact ⟨p, r, Own.dp a x p h1 ep, Own.dp b y r h2 er, sp, sr, done0 q (fun Z => ⟨rfl, rfl⟩)⟩
theorem pure_ne : PureG gNe := by
  intro ds d e
  obtain ⟨a, b, rfl, e⟩ := bin_some e
  obtain ⟨k, hk, rfl⟩ := map_some' e
  rfl
def rLtA : R2 := fun x y H Q => (rI0 fun i j => V.bl (decide (i < j))) x y H Q ∨ (∃ i j, x = .str i ∧ y = .str j ∧ Q (.bl (decide (i.cps.toList < j.cps.toList))) H)
theorem op_ltA : OpR X (compareOp .Lt) rLtA := OpR.or op_lt op_lt_str
theorem fLt_some {a b d : D} (h : fLt a b = some d) : (∃ i j, a = .int i ∧ b = .int j ∧ d = .bl (decide (i < j))) ∨ ∃ i j, a = .str i ∧ b = .str j ∧ d = .bl (decide (i.cps.toList < j.cps.toList)) := by
  cases a with
  | int _ =>
    obtain ⟨i, j, e1, e2, e3⟩ := bI_some h
    cases e3
    exact .inl ⟨i, j, e1, e2, rfl⟩
  | str _ =>
    obtain ⟨i, j, e1, e2, e3⟩ := bS_some h
    cases e3
    exact .inr ⟨i, j, e1, e2, rfl⟩
  | _ => cases h
theorem rop_lt : ROp G (l2 rLtA) gLt := by
  intro ds vs H Q d h e q
  obtain ⟨a, b, rfl, e⟩ := bin_some e
  obtain ⟨x, y, rfl, h1, h2⟩ := own2 h
  rcases fLt_some e with ⟨i, j, rfl, rfl, rfl⟩ | ⟨i, j, rfl, rfl, rfl⟩
  · exact .inl ⟨i, j, h1.1, h2.1, done0 q (fun Z => ⟨rfl, rfl⟩)⟩
  · exact .inr ⟨i, j, h1.1, h2.1, done0 q (fun Z => ⟨rfl, rfl⟩)⟩
theorem pure_lt : PureG gLt := by
  intro ds d e
  obtain ⟨a, b, rfl, e⟩ := bin_some e
  rcases fLt_some e with ⟨i, j, rfl, rfl, rfl⟩ | ⟨i, j, rfl, rfl, rfl⟩ <;> rfl
theorem rop_le : ROp G (l2 (rI0 fun i j => V.bl (decide (i ≤ j)))) gLe := rop_int0 (k := fun i j => .bl (decide (i ≤ j))) (fun i j d e => (Option.some.inj e).symm) fun i j Z H => ⟨rfl, rfl⟩
theorem pure_le : PureG gLe := pure_int fun i j d e => by cases e; rfl
theorem rop_gt : ROp G (l2 (rI0 fun i j => V.bl (decide (j < i)))) gGt := rop_int0 (k := fun i j => .bl (decide (j < i))) (fun i j d e => (Option.some.inj e).symm) fun i j Z H => ⟨rfl, rfl⟩
theorem pure_gt : PureG gGt := pure_int fun i j d e => by cases e; rfl
theorem rop_ge : ROp G (l2 (rI0 fun i j => V.bl (decide (j ≤ i)))) gGe := rop_int0 (k := fun i j => .bl (decide (j ≤ i))) (fun i j d e => (Option.some.inj e).symm) fun i j Z H => ⟨rfl, rfl⟩
theorem pure_ge : PureG gGe := pure_int fun i j d e => by cases e; rfl
theorem Own.isNon {Z H : Hp} {d : D} {v : V} {F : List Addr} (h : Own G Z H d v F) : decide (v = V.non) = d.isNon := by
  cases d with
  | non => rw [h.1]; rfl
  | bl _ => rw [h.1]; rfl
  | int _ => rw [h.1]; rfl
  | str _ => rw [h.1]; rfl
  | scr _ => obtain ⟨_, a, rfl, _⟩ := h; rfl
  | tupF _ _ => obtain ⟨a, _, rfl, _⟩ := h; rfl
  | lst _ => obtain ⟨a, _, _, rfl, _⟩ := h; rfl
  | dk _ _ => obtain ⟨a, _, _, rfl, _⟩ := h; rfl
  | dt _ _ => obtain ⟨a, _, _, rfl, _⟩ := h; rfl
  | obj _ _ _ => obtain ⟨a, _, _, _, _, rfl, _⟩ := h; rfl
  | fob _ _ _ => obtain ⟨a, _, _, _, rfl, _⟩ := h; rfl
  | exn _ => obtain ⟨_, a, rfl, _⟩ := h; rfl
  | bor _ => rw [decide_eq_false h.2.2]; rfl
theorem rop_notN : ROp G (l2 fun x y H Q => y = .non ∧ Q (.bl (!decide (x = .non))) H) gNotN := by
  intro ds vs H Q d h e q
  obtain ⟨a, b, rfl, e⟩ := bin_some e
  obtain ⟨hb, rfl⟩ := iff?_some e
  obtain rfl := D.isNon_true hb
  obtain ⟨x, y, rfl, h1, h2⟩ := own2 h
  refine ⟨h2.1, ?_⟩
  rw [h1.isNon]
  exact done0 q (fun Z => ⟨rfl, rfl⟩)
theorem pure_notN : PureG gNotN := by
  intro ds d e
  obtain ⟨a, b, rfl, e⟩ := bin_some e
  obtain ⟨hb, rfl⟩ := iff?_some e
  rfl

variable {W : Wsh} {a b : Expr} {ta tb : TE} {pos : Pos} {s1 s2 : SArg} {c : Chn} {r : R2} {g : List D → Option D}
theorem p_bin {op : Operator} (ho : OpR X (binaryOp op) r) (hr : ROp G (l2 r) g) (hp : PureG g) (ha : PE X a (s1.te G)) (hb : PE X b (s2.te G)) : PE X (.BinOp a op b pos) (TPur G (hOp [s1, s2] g)) :=
  (pe_op ho ha hb).imp fun σ H Q h => tpur_op hr hp σ H Q h
theorem e_bin {op : Operator} (ho : OpR X (binaryOp op) r) (hr : ROp G (l2 r) g) (c : Chn) (ha : PE X a ta) (hb : PE X b tb) (hc : c.tes G W = [ta, tb] := by rfl) (hn : c.iofs.any id = false := by rfl) : PE X (.BinOp a op b pos) (TV G W (eOp c g)) :=
  (pe_op ho ha hb).imp fun σ H Q h => by
    have q := tv_op hr hn σ H Q h
    rw [hc] at q
    exact q
theorem p_cmp {op : CmpOp} (ho : OpR X (compareOp op) r) (hr : ROp G (l2 r) g) (hp : PureG g) (ha : PE X a (s1.te G)) (hb : PE X b (s2.te G)) (hm : behindInMarks op b = false := by first | exact nomark _ | rfl) : PE X (.Compare a [op] [b] pos) (TPur G (hOp [s1, s2] g)) :=
  (pe_cmpR ho ha hb hm).imp fun σ H Q h => tpur_op hr hp σ H Q h
theorem e_cmp {op : CmpOp} (ho : OpR X (compareOp op) r) (hr : ROp G (l2 r) g) (c : Chn) (ha : PE X a ta) (hb : PE X b tb) (hm : behindInMarks op b = false := by first | exact nomark _ | rfl) (hc : c.tes G W = [ta, tb] := by rfl) (hn : c.iofs.any id = false := by rfl) : PE X (.Compare a [op] [b] pos) (TV G W (eOp c g)) :=
  (pe_cmpR ho ha hb hm).imp fun σ H Q h => by
    have q := tv_op hr hn σ H Q h
    rw [hc] at q
    exact q
end
end DL
namespace DL
open PySem PySem.Spec PyProof.Rows L2
def dIx (d : D) (i : Int) : Option D := match d with
  | .lst ds => atI ds i
  | .tupF _ ds => atI ds i
  | .scr ns => (atI ns i).map .int
  | _ => none
theorem atI_map {α β : Type} (f : α → β) (l : List α) (i : Int) : atI (l.map f) i = (atI l i).map f := by
  unfold atI
  rw [List.length_map]
  cases ixN l.length i with
  | none => rfl
  | some j => exact List.getElem?_map
def gAt (d k : D) : Option D := match k.toInt with
  | some i => dIx d i
  | none => none
def pIx (g h : DEnv → Option D) : DEnv → Option D := fun env => match g env, h env with
  | some d, some k => gAt d k
  | _, _ => none
theorem atI_own {G : Gc} {Z H : Hp} {ds : List D} {vs : List V} {i : Int} {d : D} (h : OwnL G Z H ds vs []) (e : atI ds i = some d) : ∃ v, atI vs i = some v ∧ Own G Z H d v [] := by
  have l := OwnL.length h
  unfold atI at e ⊢
  rw [l]
  cases hj : ixN ds.length i with
  | none => rw [hj] at e; cases e
  | some j =>
    rw [hj] at e
    exact OwnL.get (i := j) h e
theorem lockB_mono {B H H1 : Hp} {Fs : Nat → List Addr} {i : Nat} (h : Same H H1) : Same (lockB B H Fs i) (lockB B H1 Fs i) := fun a o e => by
  unfold lockB lay at e ⊢
  split
  · rename_i m
    rw [if_pos m] at e
    exact h _ _ e
  · rename_i m
    rw [if_neg m] at e
    exact e
theorem Good.joi_up {G : Gc} {B Z H H1 : Hp} {σ : L2.St} {env : DEnv} {Fs : Nat → List Addr} (g : Good G B Z H σ env Fs) (hs : Same H H1) (i : Nat) : Same (joi (lockB B H Fs i) Z) (joi (lockB B H1 Fs i) Z) :=
  joi_mono (lockB_mono hs) (Same.refl Z) (lockB_le (g.grow hs) i) (g.grow hs).sz
theorem Good.joi_in {G : Gc} {B Z H : Hp} {σ : L2.St} {env : DEnv} {Fs : Nat → List Addr} (g : Good G B Z H σ env Fs) (i : Nat) : Same (joi (lockB B H Fs i) Z) H := joi_le (lockB_le g i) g.sz
/-- a list or tuple that is read in Y -/
theorem Own.seq {G : Gc} {Y H : Hp} {d : D} {v : V} {i : Int} {e : D} (hY : Same Y H) (h : Own G Y H d v []) (hi : dIx d i = some e) :
    ∃ a vs u, v = .ref a ∧ (SqL G.K H a vs ∨ SqT G.K H a vs) ∧ atI vs i = some u ∧ Own G Y H e u [] := by
  cases d with
  | lst ds =>
    obtain ⟨a, vs, F', rfl, n, h2⟩ := h
    rcases n with ⟨hs, _, rfl⟩ | ⟨z, _⟩
    · obtain ⟨u, hu, ho⟩ := atI_own h2 hi
      exact ⟨a, vs, u, rfl, .inl (hY.seq (.inl hs)), hu, ho⟩
    · cases z
  | tupF f ds =>
    obtain ⟨a, vs, rfl, h1, h2⟩ := h
    obtain ⟨u, hu, ho⟩ := atI_own h2 hi
    exact ⟨a, vs, u, rfl, .inr h1.seq, hu, ho⟩
  | scr ns =>
    obtain ⟨_, a, rfl, hs⟩ := h
    have hi : (atI ns i).map D.int = some e := hi
    cases hn : atI ns i with
    | none => rw [hn] at hi; cases hi
    | some n =>
      rw [hn] at hi
      cases hi
      exact ⟨a, ns.map V.int, .int n, rfl, .inl (hY.seq hs), by rw [atI_map, hn]; rfl, rfl, rfl⟩
  | _ => cases hi
def rIxA (K : PySem.W.Frag) : R2 := fun x y H Q => rIxL K x y H Q ∨ rIxT K x y H Q
section
variable {G : Gc} {X : Cx} {W : Wsh}
theorem ix_any : IxR X (rIxA X.K) := IxR.or ix_list ix_tup
theorem l_ix {a b : Expr} {i : Nat} {g h : DEnv → Option D} {pos : Pos} (dx : DX X G) (ha : PE X a (TPlc G i g)) (hb : PE X b (TPur G h)) (hs : PlainIx b := by exact fun _ _ => rfl) : PE X (.Subscript a b pos) (TPlc G i (pIx g h)) :=
  (pe_ix ix_any ha hb hs).imp fun σ H Q ⟨B, Z, Fs, env, gd, d, hd, q⟩ => by
    unfold pIx at hd
    cases hg : g env with
    | none => rw [hg] at hd; cases hd
    | some d0 =>
      cases hh : h env with
      | none => rw [hg, hh] at hd; cases hd
      | some k =>
        rw [hg, hh] at hd
        have hd : gAt d0 k = some d := hd
        unfold gAt at hd
        cases hk : k.toInt with
        | none => rw [hk] at hd; cases hd
        | some n =>
          rw [hk] at hd
          obtain rfl := D.toInt_some hk
          refine ⟨B, Z, Fs, env, gd, d0, hg, fun v H1 hs1 ho => ?_⟩
          refine ⟨B, Z, Fs, env, gd.grow hs1, _, hh, fun w H2 hs2 _ hw => ?_⟩
          have g2 := gd.grow (hs1.trans hs2)
          have ho2 : Own G (joi (lockB B H2 Fs i) Z) H2 d0 v [] := Own.keep ((gd.grow hs1).joi_up hs2 i) d0 v [] (fun b u e _ => hs2 b u e) ho
          obtain ⟨a, vs, u, rfl, hsq, hu, ho3⟩ := Own.seq (g2.joi_in i) ho2 hd
          have hw0 := (hw Z).1
          subst hw0
          have fin := q u H2 (hs1.trans hs2) ho3
          rcases hsq with hsq | hsq
          · exact .inl ⟨a, vs, n, u, rfl, rfl, by rw [dx.K]; exact hsq, hu, fin⟩
          · exact .inr ⟨a, vs, n, u, rfl, rfl, by rw [dx.K]; exact hsq, hu, fin⟩

def fIx (d k : D) : Option D := match k.toInt with
  | some i => match d with
    | .str s => match atI s.cps.toList i with
      | some c => iff? (s.length ≤ 16777216) (.str ⟨#[c]⟩)
      | none => none
    | d => match dIx d i with
      | some e => iff? (e.pure = true) e
      | none => none
  | none => none
abbrev gIx := bin fIx
def rIx3 (K : PySem.W.Frag) : R2 := fun x y H Q => rIxL K x y H Q ∨ rIxT K x y H Q ∨ rIxS x y H Q
theorem ix_3 : IxR X (rIx3 X.K) := IxR.or ix_list (IxR.or ix_tup ix_str)
theorem fIx_some {d k e : D} (h : fIx d k = some e) : ∃ i, k = .int i ∧ ((∃ s c, d = .str s ∧ atI s.cps.toList i = some c ∧ s.length ≤ 16777216 ∧ e = .str ⟨#[c]⟩) ∨ (dIx d i = some e ∧ e.pure = true)) := by
  unfold fIx at h
  cases hk : k.toInt with
  | none => rw [hk] at h; cases h
  | some i =>
    rw [hk] at h
    refine ⟨i, D.toInt_some hk, ?_⟩
    cases d with
    | str s =>
      have h : (match atI s.cps.toList i with
        | some c => iff? (s.length ≤ 16777216) (D.str ⟨#[c]⟩)
        | none => none) = some e := h
      cases hc : atI s.cps.toList i with
      | none => rw [hc] at h; cases h
      | some c =>
        rw [hc] at h
        obtain ⟨hl, rfl⟩ := iff?_some h
        exact .inl ⟨s, c, rfl, hc, hl, rfl⟩
    | lst ds =>
      have h : (match dIx (.lst ds) i with
        | some e => iff? (e.pure = true) e
        | none => none) = some e := h
      cases hc : dIx (.lst ds) i with
      | none => rw [hc] at h; cases h
      | some c =>
        rw [hc] at h
        obtain ⟨hl, rfl⟩ := iff?_some h
        exact .inr ⟨rfl, hl⟩
    | tupF f ds =>
      have h : (match dIx (.tupF f ds) i with
        | some e => iff? (e.pure = true) e
        | none => none) = some e := h
      cases hc : dIx (.tupF f ds) i with
      | none => rw [hc] at h; cases h
      | some c =>
        rw [hc] at h
        obtain ⟨hl, rfl⟩ := iff?_some h
        exact .inr ⟨rfl, hl⟩
    | scr ns =>
      have h : (match dIx (.scr ns) i with
        | some e => iff? (e.pure = true) e
        | none => none) = some e := h
      cases hc : dIx (.scr ns) i with
      | none => rw [hc] at h; cases h
      | some c =>
        rw [hc] at h
        obtain ⟨hl, rfl⟩ := iff?_some h
        exact .inr ⟨rfl, hl⟩
    | _ => cases h
theorem rop_ix : ROp G (l2 (rIx3 G.K)) gIx := by
  intro ds vs H Q d h e q
  obtain ⟨a, b, rfl, e⟩ := bin_some e
  obtain ⟨x, y, rfl, h1, h2⟩ := own2 h
  obtain ⟨i, rfl, e2⟩ := fIx_some e
  rcases e2 with ⟨s, c, rfl, hc, hl, rfl⟩ | ⟨he, hp⟩
  · exact .inr (.inr ⟨s, i, c, h1.1, h2.1, by rw [← size_line]; exact hl, hc, done0 q (fun Z => ⟨rfl, rfl⟩)⟩)
  · obtain ⟨p, vs, u, rfl, hsq, hu, ho3⟩ := Own.seq (Same.refl H) h1 he
    have fin := done0 q fun Z => (Own.ofPure (Z' := Z) d u [] hp ho3).2
    rcases hsq with hsq | hsq
    · exact .inl ⟨p, vs, i, u, rfl, h2.1, hsq, hu, fin⟩
    · exact .inr (.inl ⟨p, vs, i, u, rfl, h2.1, hsq, hu, fin⟩)
theorem pure_ix : PureG gIx := by
  intro ds d e
  obtain ⟨a, b, rfl, e⟩ := bin_some e
  obtain ⟨i, rfl, e2⟩ := fIx_some e
  rcases e2 with ⟨s, c, rfl, hc, hl, rfl⟩ | ⟨he, hp⟩
  · rfl
  · exact hp
theorem p_ixo {a b : Expr} {s1 s2 : SArg} {pos : Pos} (dx : DX X G) (ha : PE X a (s1.te G)) (hb : PE X b (s2.te G)) (hs : PlainIx b := by exact fun _ _ => rfl) : PE X (.Subscript a b pos) (TPur G (hOp [s1, s2] gIx)) :=
  (pe_ix ix_3 ha hb hs).imp fun σ H Q h => tpur_op (r := l2 (rIx3 X.K)) (by rw [dx.K]; exact rop_ix) pure_ix σ H Q h
/-- the items from lo up to hi -/
def cutD (xs : List D) (lo hi : Option Int) : List D := (xs.drop (HT.sIx xs.length 0 lo)).take (HT.sIx xs.length xs.length hi - HT.sIx xs.length 0 lo)
theorem cutD_pure {xs : List D} {lo hi : Option Int} (h : D.pureL xs = true) : D.pureL (cutD xs lo hi) = true := D.pureL_take _ _ (D.pureL_drop _ _ h)
theorem cutD_own {Z H : Hp} {xs : List D} {vs : List V} {lo hi : Option Int} (h : OwnL G Z H xs vs []) : OwnL G Z H (cutD xs lo hi) (cutV vs lo hi) [] := by
  have l := OwnL.length h
  unfold cutV cutD
  rw [l]
  exact OwnL.take _ (OwnL.drop _ h)
def fSlP (d : D) (lo hi : Option Int) : Option D := match d with
  | .str s => iff? (s.length ≤ 16777216) (.str (cutS s lo hi))
  | .tupF false xs => iff? (D.pureL xs = true) (.tup (cutD xs lo hi))
  | _ => none
def fSlL (d : D) (lo hi : Option Int) : Option D := match d.toRow with
  | some xs => iff? (D.pureL xs = true) (.lst (cutD xs lo hi))
  | none => none
def slL (f : D → Option Int → Option Int → Option D) : List D → Option D := bin fun d l => match l.toInt with
  | some l => f d (some l) none
  | none => none
def slH (f : D → Option Int → Option Int → Option D) : List D → Option D := bin fun d h => match h.toInt with
  | some h => f d none (some h)
  | none => none
def sl0 (f : D → Option Int → Option Int → Option D) : List D → Option D := una fun d => f d none none
abbrev RS := V → Option Int → Option Int → Hp → VK → Prop
def rsL (r : RS) : List V → Hp → VK → Prop := l2 fun x l H Q => ∃ i, l = .int i ∧ r x (some i) none H Q
def rsH (r : RS) : List V → Hp → VK → Prop := l2 fun x h H Q => ∃ j, h = .int j ∧ r x none (some j) H Q
/-- a slice by its parts -/
def RSl (G : Gc) (r : RS) (f : D → Option Int → Option Int → Option D) : Prop :=
  ∀ (a : D) (x : V) (lo hi : Option Int) (H : Hp) (Q : VK) (d : D), Own G H H a x [] → f a lo hi = some d → (∀ v H' F, Same H H' → (∀ Z, Own G Z H' d v F) → F.Nodup → (∀ a, a ∈ F → H a = none) → Q v H') → r x lo hi H Q
theorem slL_some {f : D → Option Int → Option Int → Option D} {ds : List D} {d : D} (h : slL f ds = some d) : ∃ a i, ds = [a, .int i] ∧ f a (some i) none = some d := by
  obtain ⟨a, l, rfl, h2⟩ := bin_some h
  have h2 : (match l.toInt with
    | some l => f a (some l) none
    | none => none) = some d := h2
  cases hl : l.toInt with
  | none => rw [hl] at h2; cases h2
  | some i =>
    rw [hl] at h2
    exact ⟨a, i, by rw [D.toInt_some hl], h2⟩
theorem slH_some {f : D → Option Int → Option Int → Option D} {ds : List D} {d : D} (h : slH f ds = some d) : ∃ a i, ds = [a, .int i] ∧ f a none (some i) = some d := by
  obtain ⟨a, l, rfl, h2⟩ := bin_some h
  have h2 : (match l.toInt with
    | some l => f a none (some l)
    | none => none) = some d := h2
  cases hl : l.toInt with
  | none => rw [hl] at h2; cases h2
  | some i =>
    rw [hl] at h2
    exact ⟨a, i, by rw [D.toInt_some hl], h2⟩
theorem RSl.rL {r : RS} {f : D → Option Int → Option Int → Option D} (h : RSl G r f) : ROp G (rsL r) (slL f) := by
  intro ds vs H Q d ho e q
  obtain ⟨a, i, rfl, e⟩ := slL_some e
  obtain ⟨x, y, rfl, h1, h2⟩ := own2 ho
  exact ⟨i, h2.1, h a x _ _ H Q d h1 e q⟩
theorem RSl.rH {r : RS} {f : D → Option Int → Option Int → Option D} (h : RSl G r f) : ROp G (rsH r) (slH f) := by
  intro ds vs H Q d ho e q
  obtain ⟨a, i, rfl, e⟩ := slH_some e
  obtain ⟨x, y, rfl, h1, h2⟩ := own2 ho
  exact ⟨i, h2.1, h a x _ _ H Q d h1 e q⟩
def PureS (f : D → Option Int → Option Int → Option D) : Prop := ∀ a lo hi d, f a lo hi = some d → d.pure = true
theorem PureS.pL {f : D → Option Int → Option Int → Option D} (h : PureS f) : PureG (slL f) := fun ds d e => by
  obtain ⟨a, i, rfl, e⟩ := slL_some e
  exact h _ _ _ _ e
theorem PureS.p0 {f : D → Option Int → Option Int → Option D} (h : PureS f) : PureG (sl0 f) := fun ds d e => by
  obtain ⟨a, rfl, e⟩ := una_some e
  exact h _ _ _ _ e
def rSlP (K : PySem.W.Frag) : RS := fun x lo hi H Q => rSlS x lo hi H Q ∨ rSlA K x lo hi H Q
theorem sl_P : SlR X (rSlP X.K) := SlR.or sl_str sl_tupA
theorem fSlP_some {a d : D} {lo hi : Option Int} (h : fSlP a lo hi = some d) : (∃ s, a = .str s ∧ s.length ≤ 16777216 ∧ d = .str (cutS s lo hi)) ∨ ∃ xs, a = .tup xs ∧ D.pureL xs = true ∧ d = .tup (cutD xs lo hi) := by
  cases a with
  | str s => obtain ⟨hl, rfl⟩ := iff?_some h; exact .inl ⟨s, rfl, hl, rfl⟩
  | tupF f s =>
    cases f with
    | false => obtain ⟨hl, rfl⟩ := iff?_some h; exact .inr ⟨s, rfl, hl, rfl⟩
    | true => cases h
  | _ => cases h
theorem slP_ok : RSl G (rSlP G.K) fSlP := by
  intro a x lo hi H Q d h e q
  rcases fSlP_some e with ⟨s, rfl, hl, rfl⟩ | ⟨xs, rfl, hp, rfl⟩
  · exact .inl ⟨s, h.1, by rw [← size_line]; exact hl, done0 q (fun Z => ⟨rfl, rfl⟩)⟩
  · obtain ⟨p, vs, rfl, e1, o1⟩ := h
    have l := OwnL.length o1
    have oc := cutD_own (lo := lo) (hi := hi) o1
    have pc := cutD_pure (lo := lo) (hi := hi) hp
    refine .inr ⟨p, vs, rfl, SqT.of e1, fun z => ?_, fun z p2 hn => ?_⟩
    · have ec : cutD xs lo hi = xs := by
        rw [l] at z
        unfold cutD
        rw [z.1, z.2, Nat.sub_zero, List.drop_zero, List.take_length]
      rw [ec] at q
      exact done0 q (fun Z => ⟨p, vs, rfl, e1, OwnL.pure_any hp o1⟩)
    · exact q _ _ [] (same_upd hn) (fun Z => new_tup pc hn oc Z) List.nodup_nil fun a m => by cases m
theorem slP_pure : PureS fSlP := fun a lo hi d e => by
  rcases fSlP_some e with ⟨s, rfl, hl, rfl⟩ | ⟨xs, rfl, hp, rfl⟩
  · rfl
  · exact cutD_pure hp
theorem slL_ok : RSl G (rSlL G.K) fSlL := by
  intro a x lo hi H Q d h e q
  unfold fSlL at e
  cases ha : a.toRow with
  | none => rw [ha] at e; cases e
  | some xs =>
    rw [ha] at e
    obtain ⟨hp, rfl⟩ := iff?_some e
    obtain ⟨p, vs, rfl, hs, o1⟩ := h.rowR ha
    refine ⟨p, vs, rfl, hs, fun p2 hn => ?_⟩
    exact q _ _ [p2] (same_upd hn) (fun Z => new_lst (cutD_pure hp) hn (cutD_own o1) Z) (List.nodup_cons.mpr ⟨by simp, List.nodup_nil⟩) fun a m => by
      obtain rfl := List.mem_singleton.mp m
      exact hn
section
variable {e : Expr} {lo hi : Expr} {s1 s2 s3 : SArg} {pos p2 : Pos} {r : RS} {f : D → Option Int → Option Int → Option D} {te tl th : TE}
theorem part_run {h : DEnv → Option D} {σ : L2.St} {H : Hp} {R : V → Hp → Prop} (t : TInt G h σ H R) : TPur G h σ H fun y H2 => ∃ i, y = .int i ∧ R (.int i) H2 := by
  obtain ⟨B, Z, Fs, env, g, i, hi, q⟩ := t
  exact ⟨B, Z, Fs, env, g, _, hi, fun v H' hs _ ho => ⟨i, (ho Z).1, q H' hs⟩⟩
variable {hl hu : DEnv → Option D} {c : Chn}
theorem p_slL (hr : SlR X r) (ho : RSl G r f) (hp : PureS f) (he : PE X e (s1.te G)) (pl : PE X lo (TPur G hl)) : PE X (.Subscript e (.Slice (some lo) none none p2) pos) (TPur G (hOp [s1, .int hl] (slL f))) :=
  (pe_slice hr he (po_some pl) po_none).imp fun σ H Q h => by
    have q : s1.te G σ H fun x H1 => TInt G hl σ H1 fun y H2 => rsL r [x, y] H2 Q := tpur_op ho.rL hp.pL σ H Q h
    refine SArg.mono (fun x H1 q => ?_) q
    obtain ⟨B, Z, Fs, env, g, d, hd, q⟩ := part_run q
    refine ⟨B, Z, Fs, env, g, d, hd, fun v H' hs hp ho => ?_⟩
    obtain ⟨i, e1, i2, e3, q⟩ := q v H' hs hp ho
    cases e3
    exact ⟨i, e1, q⟩
theorem e_slH (hr : SlR X r) (ho : RSl G r f) (c : Chn) (he : PE X e te) (ph : PE X hi (TPur G hu)) (hc : c.tes G W = [te, TInt G hu] := by rfl) (hm : ∀ σ H Q Q', (∀ v H, Q v H → Q' v H) → te σ H Q → te σ H Q' := by first | exact fun _ _ _ _ => TV.mono | exact fun _ _ _ _ h => SArg.mono (a := .plc _ _) h | exact fun _ _ _ _ h => SArg.mono (a := .pur _) h) (hn : c.iofs.any id = false := by rfl) : PE X (.Subscript e (.Slice none (some hi) none p2) pos) (TV G W (eOp c (slH f))) :=
  (pe_slice hr he po_none (po_some ph)).imp fun σ H Q h => by
    have q := tv_op ho.rH hn σ H Q h
    rw [hc] at q
    have q : te σ H fun x H1 => TInt G hu σ H1 fun y H2 => rsH r [x, y] H2 Q := q
    refine hm _ _ _ _ (fun x H1 q => ?_) q
    obtain ⟨B, Z, Fs, env, g, d, hd, q⟩ := part_run q
    refine ⟨B, Z, Fs, env, g, d, hd, fun v H' hs hp ho => ?_⟩
    obtain ⟨i, e1, i2, e3, q⟩ := q v H' hs hp ho
    cases e3
    exact ⟨i, e1, q⟩
end
def fTup (ds : List D) : Option D := iff? (D.pureL ds = true ∧ ds.length ≤ 16777216) (.tup ds)
theorem rop_tup : ROp G (fun vs H Q => vs.length ≤ sizeLine ∧ ∀ p, H p = none → Q (.ref p) (upd H p (.tup vs))) fTup := by
  intro ds vs H Q d h e q
  obtain ⟨⟨hp, hl⟩, rfl⟩ := iff?_some e
  refine ⟨by rw [← size_line, OwnL.length h]; exact hl, fun p hn => ?_⟩
  exact q _ _ [] (same_upd hn) (fun Z => new_tup hp hn h Z) List.nodup_nil fun a m => by cases m
theorem pure_tup : PureG fTup := fun ds d e => by
  obtain ⟨⟨hp, hl⟩, rfl⟩ := iff?_some e
  exact hp
theorem p_tup {es : List Expr} {t : TA} {hs : List SArg} {k : Nat} {pos : Pos} (h : PA X es t) (ht : t = seqTE (hs.map (SArg.te G)) := by rfl) : PE X (.Tuple es k pos) (TPur G (hOp hs fTup)) :=
  (pe_tup h).imp fun σ H Q hq => by
    subst ht
    exact tpur_op rop_tup pure_tup σ H Q hq
/-- a display of owned items -/
def dspK (mk : List D → D) : Kn := fun ds e => if ds.length ≤ 16777216 then .ok (mk ds, [], e) else .bad
theorem OwnT.allOwn {Y Z H : Hp} : ∀ {its : List (Bool × D)} {vs : List V} {T : List Addr}, (∀ p ∈ its, p.1 = true) → OwnT G Y Z H its vs T → OwnL G Z H (its.map (·.2)) vs T
  | [], vs, T, _, h => h
  | (o, d) :: r, vs, T, ha, h => by
    obtain ⟨v', rest, F2, F3, rfl, rfl, h2, h3⟩ := h
    have : o = true := ha (o, d) List.mem_cons_self
    subst this
    exact ⟨v', rest, F2, F3, rfl, rfl, h2, OwnT.allOwn (fun p hp => ha p (List.mem_cons_of_mem _ hp)) h3⟩
theorem all_own {its : List (Bool × D)} {n : Nat} (h : its.map (·.1) = List.replicate n true) : ∀ p ∈ its, p.1 = true := fun p hp => by
  have : p.1 ∈ its.map (·.1) := List.mem_map_of_mem hp
  rw [h] at this
  exact (List.mem_replicate.mp this).2
theorem none_of_free {B Z H : Hp} {σ : L2.St} {env : DEnv} {Fs : Nat → List Addr} (g : Good G B Z H σ env Fs) {p : Addr} (hn : H p = none) : ¬ InF Fs p ∧ B p = none ∧ Z p = none := by
  refine ⟨fun m => ?_, ?_, ?_⟩
  · obtain ⟨o, e, _⟩ := g.dom m
    rw [hn] at e; cases e
  · cases q : B p with
    | none => rfl
    | some u =>
      have := g.sb p u q
      rw [hn] at this; cases this
  · cases q : Z p with
    | none => rfl
    | some u =>
      have := g.sz p u q
      rw [hn] at this; cases this
theorem dsp_tup {n : Nat} {fl : List Bool} (hfl : fl.any id = false) : KOk G W fl (List.replicate n true) (fun vs H Q => vs.length ≤ sizeLine ∧ ∀ p, H p = none → Q (.ref p) (upd H p (.tup vs))) (dspK .tup) := by
  intro B Z H σ env Fs its vs T ios Q gd hd hb hn hF
  obtain rfl : ios = [] := hn.trans (ioV_none fl vs hfl)
  unfold dspK at hF
  have ho := OwnT.allOwn (all_own hb) hd.own
  split at hF
  · rename_i hl
    refine ⟨by rw [← size_line, OwnL.length ho]; exact hl, fun p hp => ?_⟩
    have nf := none_of_free gd hp
    refine hF _ Z _ Fs T ⟨Stp.grow gd (fun a m => .inl m) (same_upd hp), ⟨.ref p, [], T, [], rfl, by simp, ⟨p, vs, rfl, upd_same, ?_⟩, rfl, rfl⟩, hd.nd, hd.dj, hd.fr, fun a m => .inr (.inr m)⟩
    exact OwnL.keep (Same.refl Z) _ vs T (fun b u e _ => same_upd hp b u e) ho
  · exact hF.elim
theorem dsp_lst {n : Nat} {fl : List Bool} (hfl : fl.any id = false) : KOk G W fl (List.replicate n true) (fun vs H Q => vs.length ≤ sizeLine ∧ ∀ p, H p = none → Q (.ref p) (upd H p (.lst vs))) (dspK .lst) := by
  intro B Z H σ env Fs its vs T ios Q gd hd hb hn hF
  obtain rfl : ios = [] := hn.trans (ioV_none fl vs hfl)
  unfold dspK at hF
  have ho := OwnT.allOwn (all_own hb) hd.own
  split at hF
  · rename_i hl
    refine ⟨by rw [← size_line, OwnL.length ho]; exact hl, fun p hp => ?_⟩
    have nf := none_of_free gd hp
    have npT : p ∉ T := fun m => by
      obtain ⟨o, e, _⟩ := hd.own.dom p m
      rw [hp] at e; cases e
    refine hF _ Z _ Fs (p :: T) ⟨Stp.grow gd (fun a m => .inl m) (same_upd hp), ⟨.ref p, [], p :: T, [], rfl, by simp, ⟨p, vs, T, rfl, .inr ⟨rfl, upd_same⟩, ?_⟩, rfl, rfl⟩, List.nodup_cons.mpr ⟨npT, hd.nd⟩, fun a m => ?_, fun a m => ?_, fun a m => ?_⟩
    · exact OwnL.keep (Same.refl Z) _ vs T (fun b u e _ => same_upd hp b u e) ho
    · rcases List.mem_cons.mp m with rfl | m
      · exact nf.1
      · exact hd.dj a m
    · rcases List.mem_cons.mp m with rfl | m
      · exact nf.2
      · exact hd.fr a m
    · rcases List.mem_cons.mp m with rfl | m
      · exact .inl hp
      · exact .inr (.inr m)
  · exact hF.elim
theorem e_tup {es : List Expr} {t : TA} {k : Nat} {pos : Pos} (c : Chn) (h : PA X es t) (ht : t = seqTE (c.tes G W) := by rfl) (hn : c.iofs.any id = false := by rfl) (hk : c.kinds = List.replicate es.length true := by rfl) : PE X (.Tuple es k pos) (TV G W (eK c (dspK .tup))) :=
  (pe_tup h).imp fun σ H Q hq => by
    subst ht
    exact tv_chn (dsp_tup (n := es.length) hn) rfl hk σ H Q hq
theorem e_lst {es : List Expr} {t : TA} {pos : Pos} (c : Chn) (h : PA X es t) (ht : t = seqTE (c.tes G W) := by rfl) (hn : c.iofs.any id = false := by rfl) (hk : c.kinds = List.replicate es.length true := by rfl) : PE X (.List es pos) (TV G W (eK c (dspK .lst))) :=
  (pe_lst h).imp fun σ H Q hq => by
    subst ht
    exact tv_chn (dsp_lst (n := es.length) hn) rfl hk σ H Q hq

theorem p_callB {x : Str} {p pos : Pos} {e : Expr} {es : List Expr} {t : TA} {hs : List SArg} {bid : String} {r : List V → Hp → VK → Prop} {g : List D → Option D} (hc : CallR X (.builtin bid) r) (hg : Gl X x) (hm : X.mg x = none) (hv : bootBuiltins x = some (.builtin bid)) (hr : ROp G r g) (hp : PureG g)
    (ha : PA X (e :: es) t) (ht : t = seqTE (hs.map (SArg.te G)) := by rfl) (hn : x ≠ "__name__" := by decide) (hdb : (x == ("__debug__" : Str)) = false := by decide) (he : starEach (e :: es) X.env = (false, eval e X.env) :: starEach es X.env := by rfl) (hpl : (backTo pos (starEach es X.env)).any (·.1) = false := by rfl) :
    PE X (.Call (.Name x p) (e :: es) [] pos) (TPur G (hOp hs g)) :=
  (pe_callB hc hg hm hv ha hn hdb he hpl).imp fun σ H Q hq => by
    subst ht
    exact tpur_op hr hp σ H Q hq
theorem p_callT {x : Str} {p pos : Pos} {e : Expr} {es : List Expr} {t : TA} {hs : List SArg} {T : String} {r : List V → Hp → VK → Prop} {g : List D → Option D} (hc : CallR X (.type T) r) (hg : Gl X x) (hm : X.mg x = none) (hv : bootBuiltins x = some (.type T)) (hr : ROp G r g) (hp : PureG g)
    (ha : PA X (e :: es) t) (ht : t = seqTE (hs.map (SArg.te G)) := by rfl) (hn : x ≠ "__name__" := by decide) (hdb : (x == ("__debug__" : Str)) = false := by decide) (he : starEach (e :: es) X.env = (false, eval e X.env) :: starEach es X.env := by rfl) (hpl : (backTo pos (starEach es X.env)).any (·.1) = false := by rfl) :
    PE X (.Call (.Name x p) (e :: es) [] pos) (TPur G (hOp hs g)) :=
  (pe_callTy hc hg hm hv ha hn hdb he hpl).imp fun σ H Q hq => by
    subst ht
    exact tpur_op hr hp σ H Q hq
theorem e_callB {x : Str} {p pos : Pos} {e : Expr} {es : List Expr} {t : TA} {bid : String} {r : List V → Hp → VK → Prop} {g : List D → Option D} (hc : CallR X (.builtin bid) r) (hg : Gl X x) (hm : X.mg x = none) (hv : bootBuiltins x = some (.builtin bid)) (hr : ROp G r g) (c : Chn)
    (ha : PA X (e :: es) t) (ht : t = seqTE (c.tes G W) := by rfl) (hio : c.iofs.any id = false := by rfl) (hn : x ≠ "__name__" := by decide) (hdb : (x == ("__debug__" : Str)) = false := by decide) (he : starEach (e :: es) X.env = (false, eval e X.env) :: starEach es X.env := by rfl) (hpl : (backTo pos (starEach es X.env)).any (·.1) = false := by rfl) :
    PE X (.Call (.Name x p) (e :: es) [] pos) (TV G W (eOp c g)) :=
  (pe_callB hc hg hm hv ha hn hdb he hpl).imp fun σ H Q hq => by
    subst ht
    exact tv_op hr hio σ H Q hq
theorem e_callT {x : Str} {p pos : Pos} {e : Expr} {es : List Expr} {t : TA} {T : String} {r : List V → Hp → VK → Prop} {g : List D → Option D} (hc : CallR X (.type T) r) (hg : Gl X x) (hm : X.mg x = none) (hv : bootBuiltins x = some (.type T)) (hr : ROp G r g) (c : Chn)
    (ha : PA X (e :: es) t) (ht : t = seqTE (c.tes G W) := by rfl) (hio : c.iofs.any id = false := by rfl) (hn : x ≠ "__name__" := by decide) (hdb : (x == ("__debug__" : Str)) = false := by decide) (he : starEach (e :: es) X.env = (false, eval e X.env) :: starEach es X.env := by rfl) (hpl : (backTo pos (starEach es X.env)).any (·.1) = false := by rfl) :
    PE X (.Call (.Name x p) (e :: es) [] pos) (TV G W (eOp c g)) :=
  (pe_callTy hc hg hm hv ha hn hdb he hpl).imp fun σ H Q hq => by
    subst ht
    exact tv_op hr hio σ H Q hq
end
end DL
namespace DL
open PySem PySem.Spec PyProof.Rows L2
def FinB (G : Gc) (W : Wsh) (B Z H : Hp) (σ : L2.St) (env : DEnv) (P : Addr → Prop) (o : Out (Bool × DEnv)) (Q : Bool → Hp → Prop) : Prop := match o with
  | .ok (b, env') => ∀ Z' H' Fs', Stp G B Z H σ env P Z' H' σ env' Fs' → Q b H'
  | .exc c => ∀ H', Same B H' → W c σ H'
  | .bad => False
def TB (G : Gc) (W : Wsh) (f : DEnv → Out (Bool × DEnv)) : TT := fun σ H Q => ∃ B Z Fs env, Good G B Z H σ env Fs ∧ FinB G W B Z H σ env (InF Fs) (f env) Q
def TBp (G : Gc) (h : DEnv → Option Bool) : TT := fun σ H Q => ∃ B Z Fs env, Good G B Z H σ env Fs ∧ ∃ b, h env = some b ∧ ∀ H', Same H H' → Q b H'
theorem _root_.L2.PT.imp {X : Cx} {e : Expr} {t t' : TT} (h : PT X e t) (i : ∀ σ H Q, t' σ H Q → t σ H Q) : PT X e t' := ⟨fun pins s σ H Q I hq => h.run pins s σ H Q I (i σ H Q hq)⟩
theorem _root_.L2.PW.imp {X : Cx} {e : Expr} {t t' : TT} (h : PW X e t) (i : ∀ σ H Q, t' σ H Q → t σ H Q) : PW X e t' := ⟨fun wh pins s σ H Q I hq => h.run wh pins s σ H Q I (i σ H Q hq)⟩
def D.toBl : D → Option Bool
  | .bl b => some b
  | _ => none
theorem D.toBl_some {d : D} {i : Bool} (h : d.toBl = some i) : d = .bl i := by
  cases d <;> first | (cases h; rfl) | cases h
def hB (h : DEnv → Option D) : DEnv → Option Bool := fun env => match h env with
  | some d => d.toBl
  | none => none
def eB (f : DEnv → Out (D × DEnv)) : DEnv → Out (Bool × DEnv) := fun env => f env >>= fun p => must p.1.toBl fun b => .ok (b, p.2)
def eBp (h : DEnv → Option Bool) : DEnv → Out (Bool × DEnv) := fun env => must (h env) fun b => .ok (b, env)
def hNot (h : DEnv → Option Bool) : DEnv → Option Bool := fun env => match h env with
  | some b => some (!b)
  | none => none
def eNot (f : DEnv → Out (Bool × DEnv)) : DEnv → Out (Bool × DEnv) := fun env => f env >>= fun p => .ok (!p.1, p.2)
def hOr (h k : DEnv → Option Bool) : DEnv → Option Bool := fun env => match h env with
  | some b => if b = true then some true else k env
  | none => none
def eOr (f g : DEnv → Out (Bool × DEnv)) : DEnv → Out (Bool × DEnv) := fun env => f env >>= fun p => if p.1 = true then .ok (true, p.2) else g p.2
theorem hB_some {h : DEnv → Option D} {env : DEnv} {b : Bool} (e : hB h env = some b) : h env = some (.bl b) := by
  unfold hB at e
  cases hh : h env with
  | none => rw [hh] at e; cases e
  | some d =>
    rw [hh] at e
    rw [D.toBl_some e]

section
variable {G : Gc} {X : Cx} {W : Wsh} {a b e : Expr} {pos : Pos} {rest : List Expr}
theorem FinB.later {B Z H Z1 H1 : Hp} {σ : L2.St} {env env1 : DEnv} {Fs1 : Nat → List Addr} {P P1 : Addr → Prop} {o : Out (Bool × DEnv)} {Q : Bool → Hp → Prop} (s : Stp G B Z H σ env P Z1 H1 σ env1 Fs1) (hp : ∀ a, P1 a → H a = none ∨ P a) (h : FinB G W B Z H σ env P o Q) : FinB G W B Z1 H1 σ env1 P1 o Q := by
  unfold FinB at h ⊢
  match o, h with
  | .ok (d, env'), h => exact fun Z' H' Fs' p => h Z' H' Fs' (s.trans hp p)
  | .exc c, h => exact h
theorem t_cmp {op : CmpOp} {r : R2} {g : List D → Option D} {s1 s2 : SArg} (ho : OpR X (compareOp op) r) (hr : ROp G (l2 r) g) (hp : PureG g) (ha : PE X a (s1.te G)) (hb : PE X b (s2.te G)) (hm : behindInMarks op b = false := by first | exact nomark _ | rfl) : PT X (.Compare a [op] [b] pos) (TBp G (hB (hOp [s1, s2] g))) :=
  (pt_cmpR ho ha hb hm).imp fun σ H Q ⟨B, Z, Fs, env, gd, k, hk, q⟩ => by
    have q1 : TPur G (hOp [s1, s2] g) σ H (fun x H' => ∃ k, x = .bl k ∧ Q k H') := ⟨B, Z, Fs, env, gd, .bl k, hB_some hk, fun v H' hs _ ho => ⟨k, (ho Z).1, q H' hs⟩⟩
    exact tpur_op hr hp σ H _ q1
theorem eB_fin {B Z H : Hp} {σ : L2.St} {env : DEnv} {P : Addr → Prop} {o : Out (D × DEnv)} {Q : Bool → Hp → Prop} (h : FinB G W B Z H σ env P (o >>= fun p => must p.1.toBl fun b => .ok (b, p.2)) Q) : FinV G W B Z H σ env P o (fun x H' => ∃ k, x = .bl k ∧ Q k H') := by
  unfold FinB at h
  unfold FinV
  match o, h with
  | .ok (d, env'), h =>
    intro v Z' H' Fs' F p
    have h : (match must d.toBl fun b => Out.ok (b, env') with
      | .ok (b, env') => ∀ Z' H' Fs', Stp G B Z H σ env P Z' H' σ env' Fs' → Q b H'
      | .exc c => ∀ H', Same B H' → W c σ H'
      | .bad => False) := h
    cases hd : d.toBl with
    | none => rw [hd] at h; exact h.elim
    | some k =>
      rw [hd] at h
      obtain rfl := D.toBl_some hd
      obtain ⟨v', r', Fa, Fb, e1, e2, h1, h2⟩ := p.own
      cases e1
      exact ⟨k, h1.1, h Z' H' Fs' p.st⟩
  | .exc c, h => exact h
theorem t_cmpE {op : CmpOp} {r : R2} {g : List D → Option D} {ta tb : TE} (ho : OpR X (compareOp op) r) (hr : ROp G (l2 r) g) (c : Chn) (ha : PE X a ta) (hb : PE X b tb) (hm : behindInMarks op b = false := by first | exact nomark _ | rfl) (hc : c.tes G W = [ta, tb] := by rfl) (hn : c.iofs.any id = false := by rfl) : PT X (.Compare a [op] [b] pos) (TB G W (eB (eOp c g))) :=
  (pt_cmpR ho ha hb hm).imp fun σ H Q ⟨B, Z, Fs, env, gd, q⟩ => by
    have q1 : TV G W (eOp c g) σ H (fun x H' => ∃ k, x = .bl k ∧ Q k H') := ⟨B, Z, Fs, env, gd, eB_fin q⟩
    have q2 := tv_op hr hn σ H _ q1
    rw [hc] at q2
    exact q2
theorem t_val {h : DEnv → Option D} (he : PE X e (TPur G h)) (hw : ∀ whole, isTrue e X.env whole = (do let v ← whole; standAt e.pos; holding [v] (truthy v)) := by intro _; rfl) : PT X e (TBp G (hB h)) :=
  (pt_val he hw).imp fun σ H Q ⟨B, Z, Fs, env, gd, k, hk, q⟩ => ⟨B, Z, Fs, env, gd, .bl k, hB_some hk, fun v H' hs _ ho => ⟨k, (ho Z).1, q H' hs⟩⟩
theorem t_valE {f : DEnv → Out (D × DEnv)} (he : PE X e (TV G W f)) (hw : ∀ whole, isTrue e X.env whole = (do let v ← whole; standAt e.pos; holding [v] (truthy v)) := by intro _; rfl) : PT X e (TB G W (eB f)) :=
  (pt_val he hw).imp fun σ H Q ⟨B, Z, Fs, env, gd, q⟩ => ⟨B, Z, Fs, env, gd, eB_fin q⟩
theorem t_not {h : DEnv → Option Bool} (ha : PT X a (TBp G h)) : PT X (.UnaryOp .Not a pos) (TBp G (hNot h)) :=
  (pt_not ha).imp fun σ H Q ⟨B, Z, Fs, env, gd, k, hk, q⟩ => by
    unfold hNot at hk
    cases hh : h env with
    | none => rw [hh] at hk; cases hk
    | some c =>
      rw [hh] at hk
      cases hk
      exact ⟨B, Z, Fs, env, gd, c, hh, q⟩
theorem t_notE {f : DEnv → Out (Bool × DEnv)} (ha : PT X a (TB G W f)) : PT X (.UnaryOp .Not a pos) (TB G W (eNot f)) :=
  (pt_not ha).imp fun σ H Q ⟨B, Z, Fs, env, gd, q⟩ => by
    refine ⟨B, Z, Fs, env, gd, ?_⟩
    unfold eNot FinB at q
    unfold FinB
    match f env, q with
    | .ok (d, env'), q => exact q
    | .exc c, q => exact q
/-- a test that changes nothing, as one that may -/
theorem t_p {h : DEnv → Option Bool} (ha : PT X a (TBp G h)) : PT X a (TB G W (eBp h)) :=
  ha.imp fun σ H Q ⟨B, Z, Fs, env, gd, q⟩ => by
    unfold eBp FinB at q
    cases hh : h env with
    | none => rw [hh] at q; exact q.elim
    | some c =>
      rw [hh] at q
      exact ⟨B, Z, Fs, env, gd, c, hh, fun H' hs => q Z H' Fs (Stp.grow gd (fun _ m => m) hs)⟩
theorem w_or1 {t : TT} (ha : PT X a t) : PW X (.BoolOp .Or [a] pos) t := pw_or1 ha
theorem w_or {h k : DEnv → Option Bool} (ha : PT X a (TBp G h)) (hb : PW X (.BoolOp .Or (b :: rest) pos) (TBp G k)) : PW X (.BoolOp .Or (a :: b :: rest) pos) (TBp G (hOr h k)) :=
  (pw_or ha hb).imp fun σ H Q ⟨B, Z, Fs, env, gd, c, hc, q⟩ => by
    unfold hOr at hc
    cases hh : h env with
    | none => rw [hh] at hc; cases hc
    | some b0 =>
      rw [hh] at hc
      refine ⟨B, Z, Fs, env, gd, b0, hh, fun H1 hs1 => ?_⟩
      cases b0 with
      | false => exact ⟨B, Z, Fs, env, gd.grow hs1, c, hc, fun H' hs => q H' (hs1.trans hs)⟩
      | true => cases hc; exact q H1 hs1
theorem w_orE {f g : DEnv → Out (Bool × DEnv)} (ha : PT X a (TB G W f)) (hb : PW X (.BoolOp .Or (b :: rest) pos) (TB G W g)) : PW X (.BoolOp .Or (a :: b :: rest) pos) (TB G W (eOr f g)) :=
  (pw_or ha hb).imp fun σ H Q ⟨B, Z, Fs, env, gd, q⟩ => by
    refine ⟨B, Z, Fs, env, gd, ?_⟩
    unfold eOr at q
    cases hf : f env with
    | bad => rw [hf] at q; exact q.elim
    | exc c => rw [hf] at q; exact q
    | ok p =>
      obtain ⟨b0, env1⟩ := p
      rw [hf] at q
      have q : FinB G W B Z H σ env (InF Fs) (if b0 = true then .ok (true, env1) else g env1) Q := q
      intro Z1 H1 Fs1 s1
      cases b0 with
      | false => exact ⟨B, Z1, Fs1, env1, s1.good, FinB.later s1 s1.new q⟩
      | true => exact q Z1 H1 Fs1 s1

def hAndV (h k : DEnv → Option D) : DEnv → Option D := fun env => match hB h env with
  | some b => if b = true then k env else some (.bl false)
  | none => none
def hNotV (h : DEnv → Option D) : DEnv → Option D := fun env => match hB h env with
  | some b => some (.bl (!b))
  | none => none
def eAndV (f g : DEnv → Out (D × DEnv)) : DEnv → Out (D × DEnv) := fun env => eB f env >>= fun p => if p.1 = true then g p.2 else .ok (.bl false, p.2)
theorem p_one {op} {t : TE} (h : PE X a t) : PE X (.BoolOp op [a] pos) t := pe_one h
theorem p_and {h k : DEnv → Option D} (ha : PE X a (TPur G h)) (hb : PE X (.BoolOp .And (b :: rest) pos) (TPur G k)) : PE X (.BoolOp .And (a :: b :: rest) pos) (TPur G (hAndV h k)) :=
  (pe_and ha hb).imp fun σ H Q ⟨B, Z, Fs, env, gd, d, hd, q⟩ => by
    unfold hAndV at hd
    cases hh : hB h env with
    | none => rw [hh] at hd; cases hd
    | some b0 =>
      rw [hh] at hd
      refine ⟨B, Z, Fs, env, gd, .bl b0, hB_some hh, fun v H1 hs1 _ ho => ⟨b0, (ho Z).1, ?_⟩⟩
      cases b0 with
      | true => exact ⟨B, Z, Fs, env, gd.grow hs1, d, hd, fun v H' hs => q v H' (hs1.trans hs)⟩
      | false => cases hd; exact q _ H1 hs1 rfl fun Z' => ⟨rfl, rfl⟩
theorem p_not {h : DEnv → Option D} (ha : PE X a (TPur G h)) : PE X (.UnaryOp .Not a pos) (TPur G (hNotV h)) :=
  (pe_not ha).imp fun σ H Q ⟨B, Z, Fs, env, gd, d, hd, q⟩ => by
    unfold hNotV at hd
    cases hh : hB h env with
    | none => rw [hh] at hd; cases hd
    | some b0 =>
      rw [hh] at hd
      cases hd
      exact ⟨B, Z, Fs, env, gd, .bl b0, hB_some hh, fun v H1 hs1 _ ho => ⟨b0, (ho Z).1, q _ H1 hs1 rfl fun Z' => ⟨rfl, rfl⟩⟩⟩
theorem FinV.later {B Z H Z1 H1 : Hp} {σ : L2.St} {env env1 : DEnv} {Fs1 : Nat → List Addr} {P P1 : Addr → Prop} {o : Out (D × DEnv)} {Q : VK} (s : Stp G B Z H σ env P Z1 H1 σ env1 Fs1) (hp : ∀ a, P1 a → H a = none ∨ P a) (h : FinV G W B Z H σ env P o Q) : FinV G W B Z1 H1 σ env1 P1 o Q := by
  unfold FinV at h ⊢
  match o, h with
  | .ok (d, env'), h =>
    intro v Z' H' Fs' F p
    refine h v Z' H' Fs' F ⟨s.trans hp p.st, p.own, p.nd, p.dj, p.fr, fun a m => ?_⟩
    rcases p.new a m with z | z
    · cases q : H a with
      | none => exact .inl rfl
      | some u =>
        refine .inr ?_
        by_cases n : P a
        · exact n
        · have := s.ext a u q n
          rw [z] at this; cases this
    · exact hp a z
  | .exc c, h => exact h
/-- a value that is a truth -/
theorem eB_run {B Z H : Hp} {σ : L2.St} {env : DEnv} {Fs : Nat → List Addr} {α : Type} {f : DEnv → Out (D × DEnv)} {k : Bool × DEnv → Out (D × DEnv)} {Q : VK} {R : VK} (gd : Good G B Z H σ env Fs) (h : FinV G W B Z H σ env (InF Fs) (eB f env >>= k) Q)
    (hk : ∀ b Z' H' env' Fs', Stp G B Z H σ env (InF Fs) Z' H' σ env' Fs' → FinV G W B Z' H' σ env' (InF Fs') (k (b, env')) Q → R (.bl b) H') : FinV G W B Z H σ env (InF Fs) (f env) R := by
  unfold eB at h
  cases hf : f env with
  | bad => rw [hf] at h; exact h.elim
  | exc c => rw [hf] at h; exact h
  | ok p =>
    obtain ⟨d, env1⟩ := p
    rw [hf] at h
    have h : FinV G W B Z H σ env (InF Fs) ((must d.toBl fun b => Out.ok (b, env1)) >>= k) Q := h
    cases hd : d.toBl with
    | none => rw [hd] at h; exact h.elim
    | some b =>
      rw [hd] at h
      obtain rfl := D.toBl_some hd
      intro v Z' H' Fs' F p
      obtain ⟨v', r', Fa, Fb, e1, e2, h1, h2⟩ := p.own
      cases e1
      rw [h1.1]
      exact hk b Z' H' env1 Fs' p.st (FinV.later p.st p.st.new h)
theorem FinV.pureV {B Z H : Hp} {σ : L2.St} {env : DEnv} {Fs : Nat → List Addr} {d : D} {v : V} {Q : VK} (gd : Good G B Z H σ env Fs) (ho : Own G Z H d v []) (h : FinV G W B Z H σ env (InF Fs) (.ok (d, env)) Q) : Q v H :=
  h v Z H Fs [] ⟨Stp.refl gd fun _ m => m, ⟨v, [], [], [], rfl, rfl, ho, rfl, rfl⟩, List.nodup_nil, fun a m => (by cases m), fun a m => (by cases m), fun a m => (by cases m)⟩
theorem e_and {f g : DEnv → Out (D × DEnv)} (ha : PE X a (TV G W f)) (hb : PE X (.BoolOp .And (b :: rest) pos) (TV G W g)) : PE X (.BoolOp .And (a :: b :: rest) pos) (TV G W (eAndV f g)) :=
  (pe_and ha hb).imp fun σ H Q ⟨B, Z, Fs, env, gd, q⟩ => by
    refine ⟨B, Z, Fs, env, gd, eB_run (α := Unit) gd q fun b Z' H' env' Fs' s q => ⟨b, rfl, ?_⟩⟩
    cases b with
    | true => exact ⟨B, Z', Fs', env', s.good, q⟩
    | false => exact FinV.pureV (d := .bl false) s.good ⟨rfl, rfl⟩ q
end
inductive Flw where
  | nx (e : DEnv)
  | rt (d : D) (e : DEnv)
  | bk (e : DEnv)
  | ct (e : DEnv)
abbrev Stm := DEnv → Out Flw
/-- what a return hands on -/
structure Ret (G : Gc) (B Z H : Hp) (σ : L2.St) (env : DEnv) (P : Addr → Prop) (Z' H' : Hp) (σ' : L2.St) (env' : DEnv) (Fs' : Nat → List Addr) (d : D) (v : V) (F : List Addr) : Prop where
  st : Stp G B Z H σ env P Z' H' σ' env' Fs'
  own : Own G Z' H' d v F
  nd : F.Nodup
  dj : ∀ a, a ∈ F → ¬ InF Fs' a
  fr : ∀ a, a ∈ F → B a = none ∧ Z' a = none
  new : ∀ a, a ∈ F → H a = none ∨ P a
/-- the slots that are read elsewhere stand as they stood -/
def AgL (env : DEnv) (σ σ' : L2.St) : Prop := σ'.length = env.length ∧ ∀ (j : Nat) (d : D), env[j]? = some (some (Md.lck, d)) → σ'[j]? = σ[j]?
theorem AgL.refl {G : Gc} {B Z H : Hp} {env : DEnv} {σ : L2.St} {Fs : Nat → List Addr} (g : Good G B Z H σ env Fs) : AgL env σ σ := ⟨g.len.symm, fun _ _ _ => rfl⟩
def FinS (G : Gc) (W : Wsh) (B Z H : Hp) (σ : L2.St) (env : DEnv) (P : Addr → Prop) (o : Out Flw) (En : Ends) : Prop := match o with
  | .ok (.nx e) => ∀ σ' Z' H' Fs', Stp G B Z H σ env P Z' H' σ' e Fs' → En.nx σ' H'
  | .ok (.bk e) => ∀ σ' Z' H' Fs', Stp G B Z H σ env P Z' H' σ' e Fs' → En.bk σ' H'
  | .ok (.ct e) => ∀ σ' Z' H' Fs', Stp G B Z H σ env P Z' H' σ' e Fs' → En.ct σ' H'
  | .ok (.rt d e) => ∀ σ' v Z' H' Fs' F, Ret G B Z H σ env P Z' H' σ' e Fs' d v F → En.rt v H'
  | .exc c => ∀ σ', AgL env σ σ' → ∀ H', Same B H' → W c σ' H'
  | .bad => False
def TSt (G : Gc) (W : Wsh) (f : Stm) : TS := fun En σ H => ∃ B Z Fs env, Good G B Z H σ env Fs ∧ FinS G W B Z H σ env (InF Fs) (f env) En
theorem _root_.L2.PS.imp {X : Cx} {e : Stmt} {t t' : TS} (h : PS X e t) (i : ∀ En σ H, t' En σ H → t En σ H) : PS X e t' := ⟨fun pins s σ H D I hq => h.run pins s σ H D I (i D σ H hq)⟩
theorem _root_.L2.PSs.imp {X : Cx} {e : List Stmt} {t t' : TS} (h : PSs X e t) (i : ∀ En σ H, t' En σ H → t En σ H) : PSs X e t' := ⟨fun pins s σ H D I hq => h.run pins s σ H D I (i D σ H hq)⟩
def sNop : Stm := fun env => .ok (.nx env)
def sSeq (f g : Stm) : Stm := fun env => f env >>= fun fl => match fl with
  | .nx e => g e
  | fl => .ok fl
def sIf (c : DEnv → Option Bool) (f g : Stm) : Stm := fun env => must (c env) fun b => if b = true then f env else g env
def sIfE (c : DEnv → Out (Bool × DEnv)) (f g : Stm) : Stm := fun env => c env >>= fun p => if p.1 = true then f p.2 else g p.2
def sRet (f : DEnv → Out (D × DEnv)) : Stm := fun env => f env >>= fun p => .ok (.rt p.1 p.2)
def sRetN : Stm := fun env => .ok (.rt .non env)
def sExpr (f : DEnv → Out (D × DEnv)) : Stm := fun env => f env >>= fun p => .ok (.nx p.2)
def sNever : Stm := fun _ => .bad
/-- slot i may be stored to -/
def free? (i : Nat) (env : DEnv) : Bool := match env[i]? with
  | some (some (.io, _)) => false
  | some (some (.lck, _)) => false
  | some _ => true
  | none => false
def putS (i : Nat) (d : D) (env : DEnv) : Option DEnv := if free? i env = true then some (env.set i (some (.own, d))) else none
def sSet (i : Nat) (f : DEnv → Out (D × DEnv)) : Stm := fun env => f env >>= fun p => must (putS i p.1 p.2) fun e => .ok (.nx e)
/-- names of which nothing is known any more -/
def dropS : List Nat → DEnv → Option DEnv
  | [], env => some env
  | i :: r, env => if free? i env = true then dropS r (env.set i none) else none
def sDrop (is : List Nat) : Stm := fun env => must (dropS is env) fun e => .ok (.nx e)

section
variable {G : Gc} {X : Cx} {W : Wsh} {a b e : Expr} {pos : Pos}
theorem FinS.later {B Z H Z1 H1 : Hp} {σ σ1 : L2.St} {env env1 : DEnv} {Fs1 : Nat → List Addr} {P P1 : Addr → Prop} {o : Out Flw} {En : Ends} (s : Stp G B Z H σ env P Z1 H1 σ1 env1 Fs1) (hp : ∀ a, P1 a → H a = none ∨ P a) (h : FinS G W B Z H σ env P o En) : FinS G W B Z1 H1 σ1 env1 P1 o En := by
  unfold FinS at h ⊢
  match o, h with
  | .ok (.nx e), h => exact fun σ' Z' H' Fs' p => h σ' Z' H' Fs' (s.trans hp p)
  | .ok (.bk e), h => exact fun σ' Z' H' Fs' p => h σ' Z' H' Fs' (s.trans hp p)
  | .ok (.ct e), h => exact fun σ' Z' H' Fs' p => h σ' Z' H' Fs' (s.trans hp p)
  | .ok (.rt d e), h =>
    intro σ' v Z' H' Fs' F p
    refine h σ' v Z' H' Fs' F ⟨s.trans hp p.st, p.own, p.nd, p.dj, p.fr, fun a m => ?_⟩
    rcases p.new a m with z | z
    · cases q : H a with
      | none => exact .inl rfl
      | some u =>
        refine .inr ?_
        by_cases n : P a
        · exact n
        · have := s.ext a u q n
          rw [z] at this; cases this
    · exact hp a z
  | .exc c, h => exact fun σ' ag H' hs => h σ' ⟨ag.1.trans s.ln, fun j d e => by
    obtain ⟨e1, e2⟩ := s.lk j d e
    exact (ag.2 j d e1).trans e2⟩ H' hs
theorem s_nil : PSs X [] (TSt G W sNop) := pss_nil.imp fun En σ H ⟨B, Z, Fs, env, gd, q⟩ => q σ Z H Fs (Stp.refl gd fun _ m => m)
theorem s_cons {st : Stmt} {rest : List Stmt} {f g : Stm} (h1 : PS X st (TSt G W f)) (h2 : PSs X rest (TSt G W g)) : PSs X (st :: rest) (TSt G W (sSeq f g)) :=
  (pss_cons h1 h2).imp fun En σ H ⟨B, Z, Fs, env, gd, q⟩ => by
    refine ⟨B, Z, Fs, env, gd, ?_⟩
    unfold sSeq at q
    cases hf : f env with
    | bad => rw [hf] at q; exact q.elim
    | exc c => rw [hf] at q; exact q
    | ok fl =>
      rw [hf] at q
      cases fl with
      | nx e => exact fun σ' Z' H' Fs' s => ⟨B, Z', Fs', e, s.good, FinS.later s s.new q⟩
      | bk e => exact q
      | ct e => exact q
      | rt d e => exact q
theorem s_if {c : Expr} {hc : DEnv → Option Bool} {sa sb : List Stmt} {f g : Stm} (hcc : PT X c (TBp G hc)) (ha : PSs X sa (TSt G W f)) (hb : PSs X sb (TSt G W g)) : PS X (.If c sa sb pos) (TSt G W (sIf hc f g)) :=
  (ps_if hcc ha hb).imp fun En σ H ⟨B, Z, Fs, env, gd, q⟩ => by
    unfold sIf at q
    cases hh : hc env with
    | none => rw [hh] at q; exact q.elim
    | some b0 =>
      rw [hh] at q
      refine ⟨B, Z, Fs, env, gd, b0, hh, fun H1 hs1 => ?_⟩
      have s1 : Stp G B Z H σ env (InF Fs) Z H1 σ env Fs := Stp.grow gd (fun _ m => m) hs1
      cases b0 with
      | true => exact ⟨B, Z, Fs, env, gd.grow hs1, FinS.later s1 s1.new q⟩
      | false => exact ⟨B, Z, Fs, env, gd.grow hs1, FinS.later s1 s1.new q⟩
theorem s_ifE {c : Expr} {hc : DEnv → Out (Bool × DEnv)} {sa sb : List Stmt} {f g : Stm} (hcc : PT X c (TB G W hc)) (ha : PSs X sa (TSt G W f)) (hb : PSs X sb (TSt G W g)) : PS X (.If c sa sb pos) (TSt G W (sIfE hc f g)) :=
  (ps_if hcc ha hb).imp fun En σ H ⟨B, Z, Fs, env, gd, q⟩ => by
    refine ⟨B, Z, Fs, env, gd, ?_⟩
    unfold sIfE at q
    cases hh : hc env with
    | bad => rw [hh] at q; exact q.elim
    | exc c => rw [hh] at q; exact q σ (AgL.refl gd)
    | ok p =>
      obtain ⟨b0, env1⟩ := p
      rw [hh] at q
      have q : FinS G W B Z H σ env (InF Fs) (if b0 = true then f env1 else g env1) En := q
      intro Z1 H1 Fs1 s1
      cases b0 with
      | true => exact ⟨B, Z1, Fs1, env1, s1.good, FinS.later s1 s1.new q⟩
      | false => exact ⟨B, Z1, Fs1, env1, s1.good, FinS.later s1 s1.new q⟩
theorem Post.one {B Z H Z' H' : Hp} {σ : L2.St} {env env' : DEnv} {P : Addr → Prop} {Fs' : Nat → List Addr} {d : D} {v : V} {F : List Addr} (p : Post G B Z H σ env P Z' H' env' Fs' [d] [v] F) : Own G Z' H' d v F := by
  obtain ⟨v', r', Fa, Fb, e1, e2, h1, h2⟩ := p.own
  cases e1
  obtain ⟨_, rfl⟩ := h2
  rw [List.append_nil] at e2
  rw [e2]
  exact h1
theorem s_ret {f : DEnv → Out (D × DEnv)} (he : PE X e (TV G W f)) : PS X (.Return (some e) pos) (TSt G W (sRet f)) :=
  (ps_ret he).imp fun En σ H ⟨B, Z, Fs, env, gd, q⟩ => by
    refine ⟨B, Z, Fs, env, gd, ?_⟩
    unfold sRet at q
    unfold FinV
    match f env, q with
    | .exc c, q => exact q σ (AgL.refl gd)
    | .ok (d, e'), q => exact fun v Z' H' Fs' F p => q σ v Z' H' Fs' F ⟨p.st, p.one, p.nd, p.dj, p.fr, p.new⟩
theorem s_retN : PS X (.Return none pos) (TSt G W sRetN) :=
  ps_retN.imp fun En σ H ⟨B, Z, Fs, env, gd, q⟩ => q σ .non Z H Fs [] ⟨Stp.refl gd fun _ m => m, ⟨rfl, rfl⟩, List.nodup_nil, fun a m => (by cases m), fun a m => (by cases m), fun a m => (by cases m)⟩
theorem s_expr {f : DEnv → Out (D × DEnv)} (he : PE X e (TV G W f)) (hs : swapsWith e none pos.line X.env = pure false := by rfl) : PS X (.Expr e pos) (TSt G W (sExpr f)) :=
  (ps_expr he hs).imp fun En σ H ⟨B, Z, Fs, env, gd, q⟩ => by
    refine ⟨B, Z, Fs, env, gd, ?_⟩
    unfold sExpr at q
    unfold FinV
    match f env, q with
    | .exc c, q => exact q σ (AgL.refl gd)
    | .ok (d, e'), q => exact fun v Z' H' Fs' F p => q σ Z' H' Fs' p.st

/-- a value stored to slot i -/
theorem Stp.put {B Z H : Hp} {σ : L2.St} {env : DEnv} {Fs : Nat → List Addr} {P : Addr → Prop} {i : Nat} {d : D} {v : V} {F : List Addr} {env' : DEnv} (g : Good G B Z H σ env Fs) (hp : ∀ a, InF Fs a → P a) (hf : ∀ a, a ∈ F → P a) (t : Tm G B Z H (InF Fs) d v F) (hi : putS i d env = some env') :
    Stp G B Z H σ env P Z H (σ.set i (some v)) env' (onF Fs i F) := by
  unfold putS at hi
  split at hi
  · rename_i hfree
    cases hi
    have hl : i < env.length := by
      unfold free? at hfree
      cases q : env[i]? with
      | none => rw [q] at hfree; cases hfree
      | some s => exact (List.getElem?_eq_some_iff.mp q).1
    have nio : ∀ d', env[i]? ≠ some (some (.io, d')) := fun d' q => by unfold free? at hfree; rw [q] at hfree; cases hfree
    have nlk : ∀ d', env[i]? ≠ some (some (.lck, d')) := fun d' q => by unfold free? at hfree; rw [q] at hfree; cases hfree
    have hlσ : i < σ.length := by rw [← g.len]; exact hl
    have ne : ∀ (j : Nat), j ≠ i → (env.set i (some (.own, d)))[j]? = env[j]? := fun j h => List.getElem?_set_ne (fun z => h z.symm)
    have nσ : ∀ (j : Nat), j ≠ i → (σ.set i (some v))[j]? = σ[j]? := fun j h => List.getElem?_set_ne (fun z => h z.symm)
    have at_i : (env.set i (some (.own, d)))[i]? = some (some (.own, d)) := List.getElem?_set_self hl
    refine ⟨Same.refl Z, fun _ _ e _ => e, ⟨g.sb, g.sz, by rw [List.length_set, List.length_set]; exact g.len, fun j => ?_, fun j => ?_, fun j k a m n => ?_, fun j a m => ?_, g.z0, g.gb⟩, fun a m => ?_, fun a m => .inl m, fun j d' e => ?_, fun j d' e => ?_, fun j d' e => ?_, fun j d' e => ?_, by rw [List.length_set]⟩
    · by_cases hj : j = i
      · subst hj
        have eo : onF Fs j F j = F := by unfold onF; rw [if_pos rfl]
        rw [eo, at_i, List.getElem?_set_self hlσ]
        exact ⟨v, rfl, t.own⟩
      · have eo : onF Fs i F j = Fs j := by unfold onF; rw [if_neg hj]
        rw [eo, ne j hj, nσ j hj]
        exact g.sl j
    · unfold onF; split; exact t.nd; exact g.nd j
    · unfold onF at m n
      split at m
      · split at n
        · rename_i e1 e2; rw [e1, e2]
        · exact absurd ⟨k, n⟩ (t.dj a m)
      · split at n
        · exact absurd ⟨j, m⟩ (t.dj a n)
        · exact g.dj j k a m n
    · unfold onF at m
      split at m
      · exact t.fr a m
      · exact g.fr j a m
    · rcases inF_on m with m | m
      · exact .inr (hf a m)
      · exact .inr (hp a m)
    · by_cases hj : j = i
      · subst hj; exact absurd e (nio d')
      · exact ⟨⟨d', by rw [ne j hj]; exact e⟩, nσ j hj⟩
    · by_cases hj : j = i
      · subst hj; exact absurd e (nlk d')
      · exact ⟨by rw [ne j hj]; exact e, nσ j hj⟩
    · by_cases hj : j = i
      · subst hj; rw [at_i] at e; cases e
      · rw [ne j hj] at e; exact ⟨e, nσ j hj⟩
    · by_cases hj : j = i
      · subst hj; rw [at_i] at e; cases e
      · rw [ne j hj] at e; exact ⟨e, nσ j hj⟩
  · cases hi
theorem s_set {i : Nat} {x : Str} {f : DEnv → Out (D × DEnv)} {p' : Pos} (dx : DX X G) (hi : X.N[i]? = some x) (hx : Loc X.env.scope x) (he : PE X e (TV G W f)) (hs : swapsWith e (some (.Name x p')) pos.line X.env = pure false := by rfl) (hf : X.fn x = true ∨ X.env.scope.names.lookup x = some .local := by first | exact .inl rfl | exact .inr rfl) :
    PS X (.Assign [.Name x p'] e pos) (TSt G W (sSet i f)) :=
  (ps_set dx.nd hi hx he hs hf).imp fun En σ H ⟨B, Z, Fs, env, gd, q⟩ => by
    refine ⟨B, Z, Fs, env, gd, ?_⟩
    unfold sSet at q
    unfold FinV
    match f env, q with
    | .exc c, q => exact q σ (AgL.refl gd)
    | .ok (d, e'), q =>
      intro v Z' H' Fs' F p
      have q : FinS G W B Z H σ env (InF Fs) (must (putS i d e') fun e => .ok (.nx e)) En := q
      cases hput : putS i d e' with
      | none => rw [hput] at q; exact q.elim
      | some e2 =>
        rw [hput] at q
        have s2 : Stp G B Z' H' σ e' (fun a => InF Fs' a ∨ a ∈ F) Z' H' (σ.set i (some v)) e2 (onF Fs' i F) := Stp.put p.st.good (fun a m => .inl m) (fun a m => .inr m) ⟨p.one, p.nd, p.dj, p.fr⟩ hput
        exact q _ _ _ _ (p.st.trans (fun a m => m.elim (p.st.new a) (p.new a)) s2)
/-- names forgotten -/
theorem Stp.drop1 {B Z H : Hp} {σ : L2.St} {env : DEnv} {Fs : Nat → List Addr} {P : Addr → Prop} {i : Nat} (g : Good G B Z H σ env Fs) (hp : ∀ a, InF Fs a → P a) (hfree : free? i env = true) : Stp G B Z H σ env P Z H σ (env.set i none) (offF Fs i) := by
  have nio : ∀ d', env[i]? ≠ some (some (.io, d')) := fun d' q => by unfold free? at hfree; rw [q] at hfree; cases hfree
  have nlk : ∀ d', env[i]? ≠ some (some (.lck, d')) := fun d' q => by unfold free? at hfree; rw [q] at hfree; cases hfree
  have ne : ∀ (j : Nat), j ≠ i → (env.set i none)[j]? = env[j]? := fun j h => List.getElem?_set_ne (fun z => h z.symm)
  have at_i : ∀ s : Md × D, (env.set i none)[i]? ≠ some (some s) := fun s q => by
    rw [List.getElem?_set_self'] at q
    cases hq : env[i]? <;> rw [hq] at q <;> cases q
  refine ⟨Same.refl Z, fun _ _ e _ => e, g.take i, fun a m => .inr (hp a (inF_off m)), fun _ m => .inl m, fun j d' e => ?_, fun j d' e => ?_, fun j d' e => ?_, fun j d' e => ?_, by rw [List.length_set]⟩
  · by_cases hj : j = i
    · subst hj; exact absurd e (nio d')
    · exact ⟨⟨d', by rw [ne j hj]; exact e⟩, rfl⟩
  · by_cases hj : j = i
    · subst hj; exact absurd e (nlk d')
    · exact ⟨by rw [ne j hj]; exact e, rfl⟩
  · by_cases hj : j = i
    · subst hj; exact absurd e (at_i _)
    · rw [ne j hj] at e; exact ⟨e, rfl⟩
  · by_cases hj : j = i
    · subst hj; exact absurd e (at_i _)
    · rw [ne j hj] at e; exact ⟨e, rfl⟩
theorem Stp.drops {B Z H : Hp} {σ : L2.St} : ∀ {is : List Nat} {env env' : DEnv} {Fs : Nat → List Addr} {P : Addr → Prop}, Good G B Z H σ env Fs → (∀ a, InF Fs a → P a) → dropS is env = some env' → ∃ Fs', Stp G B Z H σ env P Z H σ env' Fs' ∧ ∀ a, InF Fs' a → InF Fs a
  | [], env, env', Fs, P, g, hp, h => by
    cases h
    exact ⟨Fs, Stp.refl g hp, fun _ m => m⟩
  | i :: r, env, env', Fs, P, g, hp, h => by
    unfold dropS at h
    split at h
    · rename_i hf
      have s1 := Stp.drop1 (P := P) g hp hf
      obtain ⟨Fs', s2, h2⟩ := Stp.drops (P := P) s1.good (fun a m => hp a (inF_off m)) h
      exact ⟨Fs', s1.trans (fun a m => .inr m) s2, fun a m => inF_off (h2 a m)⟩
    · cases h
/-- names forgotten behind a statement -/
theorem s_then {st : List Stmt} {f g : Stm} (h : PSs X st (TSt G W f)) (hg : ∀ (B Z H : Hp) (σ : L2.St) (env : DEnv) (Fs : Nat → List Addr) (P : Addr → Prop) (En : Ends), Good G B Z H σ env Fs → (∀ a, InF Fs a → P a) → FinS G W B Z H σ env P (g env) En → En.nx σ H) : PSs X st (TSt G W (sSeq f g)) :=
  h.imp fun En σ H ⟨B, Z, Fs, env, gd, q⟩ => by
    refine ⟨B, Z, Fs, env, gd, ?_⟩
    unfold sSeq at q
    cases hf : f env with
    | bad => rw [hf] at q; exact q.elim
    | exc c => rw [hf] at q; exact q
    | ok fl =>
      rw [hf] at q
      cases fl with
      | nx e => exact fun σ' Z' H' Fs' s => hg B Z' H' σ' e Fs' (InF Fs') En s.good (fun _ m => m) (FinS.later s s.new q)
      | bk e => exact q
      | ct e => exact q
      | rt d e => exact q
theorem s_drop {st : List Stmt} {f : Stm} (is : List Nat) (h : PSs X st (TSt G W f)) : PSs X st (TSt G W (sSeq f (sDrop is))) :=
  s_then h fun B Z H σ env Fs P En g hp q => by
    unfold sDrop at q
    cases hd : dropS is env with
    | none => rw [hd] at q; exact q.elim
    | some e2 =>
      rw [hd] at q
      obtain ⟨Fs', s, _⟩ := Stp.drops (P := P) g hp hd
      exact q σ Z H Fs' s
end
end DL
namespace DL
open PySem PySem.Spec PyProof.Rows L2
/-- how an argument is handed in: read; changed and handed back; handed over -/
inductive Pm where
  | b | io | mv
  deriving DecidableEq
def Pm.own : Pm → Bool
  | .b => false
  | _ => true
def Pm.isIo : Pm → Bool
  | .io => true
  | _ => false
def Pm.md : Pm → Md
  | .b => .brw
  | .io => .io
  | .mv => .own
/-- a def: its value, and what its io arguments have become, the last one first -/
abbrev Fn := List D → Out (D × List D)
def slotsOf : List Pm → List D → DEnv
  | m :: ms, d :: ds => some (m.md, d) :: slotsOf ms ds
  | _, _ => []
def startD (n : Nat) (ms : List Pm) (ds : List D) : DEnv := slotsOf ms ds ++ List.replicate (n - ms.length) none
def outsFrom : List Pm → Nat → DEnv → Option (List D)
  | [], _, _ => some []
  | .io :: ms, j, env => match env[j]?, outsFrom ms (j + 1) env with
    | some (some (.io, d)), some r => some (r ++ [d])
    | _, _ => none
  | _ :: ms, j, env => outsFrom ms (j + 1) env
/-- a def by its body -/
def runFn (n : Nat) (ms : List Pm) (body : Stm) : Fn := fun ds => if ds.length = ms.length then body (startD n ms ds) >>= fun fl => match fl with
    | .nx e => must (outsFrom ms 0 e) fun o => .ok (.non, o)
    | .rt d e => must (outsFrom ms 0 e) fun o => .ok (d, o)
    | _ => .bad
  else .bad

/-- the promise of a def that is F on data -/
def spD (G : Gc) (ms : List Pm) (F : Fn) : Sp := fun vs H Q E => ∃ (its : List (Bool × D)) (T : List Addr) (Z : Hp), its.map (·.1) = ms.map Pm.own ∧ OwnT G (cut H T) Z H its vs T ∧ T.Nodup ∧ Same Z H ∧ (∀ a, a ∈ T → Z a = none) ∧ (∀ a, Z a = none) ∧ Same G.bo (cut H T) ∧
  match F (its.map (·.2)) with
  | .ok (r, outs) => ∀ v H' Z' A, (∀ a, Z' a = none) → Same Z Z' → Same Z' H' → (∀ a o, H a = some o → a ∉ T → H' a = some o) → OwnL G Z' H' (r :: outs) (v :: ioV (ms.map Pm.isIo) vs) A → A.Nodup → (∀ a, a ∈ A → Z' a = none ∧ (H a = none ∨ a ∈ T)) → (∀ a, Z' a ≠ none → Z a ≠ none ∨ H a = none ∨ a ∈ T) → Q v H'
  | .exc c => T = [] ∧ ∃ C, G.cl c = some C ∧ ∀ H', Same H H' → E (.ref C) none H'
  | .bad => False

section
variable {G : Gc} {B Z H Z' H' : Hp} {σ : L2.St} {env : DEnv} {Fs : Nat → List Addr}
theorem slotsOf_get : ∀ (ms : List Pm) (its : List (Bool × D)) (i : Nat), its.map (·.1) = ms.map Pm.own → (slotsOf ms (its.map (·.2)))[i]? = match ms[i]?, its[i]? with
    | some m, some p => some (some (m.md, p.2))
    | _, _ => none
  | [], [], i, _ => by simp [slotsOf]
  | [], _ :: _, _, h => by simp at h
  | _ :: _, [], _, h => by simp at h
  | m :: ms, p :: its, 0, h => rfl
  | m :: ms, p :: its, i + 1, h => by
    have h1 : its.map (·.1) = ms.map Pm.own := by simpa using (List.cons.inj h).2
    have := slotsOf_get ms its i h1
    simpa [slotsOf] using this
theorem slotsOf_length : ∀ (ms : List Pm) (ds : List D), ds.length = ms.length → (slotsOf ms ds).length = ms.length
  | [], [], _ => rfl
  | [], _ :: _, h => by simp at h
  | _ :: _, [], h => by simp at h
  | m :: ms, d :: ds, h => by
    show (slotsOf ms ds).length + 1 = ms.length + 1
    rw [slotsOf_length ms ds (by simpa using h)]
/-- values at hand, one by one: Ts i are the i-th one's nodes -/
theorem OwnT.each {Y : Hp} : ∀ {its : List (Bool × D)} {vs : List V} {T : List Addr}, OwnT G Y Z H its vs T → T.Nodup → ∃ Ts : Nat → List Addr, (∀ (i : Nat) (p : Bool × D), its[i]? = some p → ∃ v, vs[i]? = some v ∧ (match p.1 with
      | true => Own G Z H p.2 v (Ts i)
      | false => Own G Y H p.2 v [] ∧ Ts i = [])) ∧ (∀ (i : Nat), its[i]? = none → Ts i = []) ∧ (∀ i, (Ts i).Nodup) ∧ (∀ i j a, a ∈ Ts i → a ∈ Ts j → i = j) ∧ (∀ i a, a ∈ Ts i → a ∈ T) ∧ ∀ a, a ∈ T → ∃ i, a ∈ Ts i
  | [], vs, T, h, nd => ⟨fun _ => [], fun i p e => by simp at e, fun _ _ => rfl, fun _ => List.nodup_nil, fun _ _ _ m => (by cases m), fun _ _ m => (by cases m), fun a m => by rw [h.2] at m; cases m⟩
  | (o, d) :: r, vs, T, h, nd => by
    obtain ⟨v', rest, F2, F3, rfl, rfl, h2, h3⟩ := h
    obtain ⟨nd1, nd2, nd3⟩ := List.nodup_append.mp nd
    obtain ⟨Ts, a1, a2, a3, a4, a5, a6⟩ := OwnT.each h3 nd2
    refine ⟨fun i => match i with
      | 0 => F2
      | i + 1 => Ts i, fun i p e => ?_, fun i e => ?_, fun i => ?_, fun i j a m n => ?_, fun i a m => ?_, fun a m => ?_⟩
    · cases i with
      | zero =>
        cases e
        exact ⟨v', rfl, h2⟩
      | succ i => exact a1 i p e
    · cases i with
      | zero => cases e
      | succ i => exact a2 i e
    · cases i with
      | zero => exact nd1
      | succ i => exact a3 i
    · cases i with
      | zero =>
        cases j with
        | zero => rfl
        | succ j => exact absurd rfl (nd3 a m a (a5 j a n))
      | succ i =>
        cases j with
        | zero => exact absurd rfl (nd3 a n a (a5 i a m))
        | succ j => rw [a4 i j a m n]
    · cases i with
      | zero => exact List.mem_append_left _ m
      | succ i => exact List.mem_append_right _ (a5 i a m)
    · rcases List.mem_append.mp m with m | m
      · exact ⟨0, m⟩
      · obtain ⟨i, m⟩ := a6 a m
        exact ⟨i + 1, m⟩

/-- the state at a def's start -/
theorem start_good {ms : List Pm} {N : List Str} {its : List (Bool × D)} {vs : List V} {T : List Addr} (hm : its.map (·.1) = ms.map Pm.own) (ho : OwnT G (cut H T) Z H its vs T) (nd : T.Nodup) (hz : Same Z H) (hn : ∀ a, a ∈ T → Z a = none) (z0 : ∀ a, Z a = none) (gb : Same G.bo (cut H T)) (hl : ms.length ≤ N.length) :
    ∃ Fs, Good G (cut H T) Z H (L2.start N vs) (startD N.length ms (its.map (·.2))) Fs ∧ (∀ a, InF Fs a ↔ a ∈ T) := by
  obtain ⟨Ts, a1, a2, a3, a4, a5, a6⟩ := OwnT.each ho nd
  have li : its.length = ms.length := by simpa using congrArg List.length hm
  have lv : vs.length = ms.length := (OwnT.vlen ho).trans li
  have ls : (slotsOf ms (its.map (·.2))).length = ms.length := slotsOf_length ms _ (by rw [List.length_map]; exact li)
  refine ⟨Ts, ⟨cut_le, hz, ?_, fun i => ?_, a3, a4, fun i a m => ⟨cut_in (a5 i a m), hn a (a5 i a m)⟩, z0, gb⟩, fun a => ⟨fun ⟨i, m⟩ => a5 i a m, a6 a⟩⟩
  · unfold startD L2.start
    rw [List.length_append, List.length_append, ls, List.length_map, lv, List.length_replicate, List.length_replicate]
  · unfold startD L2.start
    by_cases hi : i < ms.length
    · have eσ : (List.map some vs ++ List.replicate (N.length - vs.length) none)[i]? = (vs[i]?).map some := by
        rw [List.getElem?_append_left (by rw [List.length_map, lv]; exact hi), List.getElem?_map]
      have ee : (slotsOf ms (its.map (·.2)) ++ List.replicate (N.length - ms.length) none)[i]? = some (some (ms[i].md, (its[i]'(by rw [li]; exact hi)).2)) := by
        rw [List.getElem?_append_left (by rw [ls]; exact hi), slotsOf_get ms its i hm, List.getElem?_eq_getElem hi, List.getElem?_eq_getElem (by rw [li]; exact hi)]
      rw [eσ, ee]
      obtain ⟨v, ev, hv⟩ := a1 i _ (List.getElem?_eq_getElem (by rw [li]; exact hi))
      rw [ev]
      have hk : its[i].1 = ms[i].own := by
        have e1 : (its.map (·.1))[i]? = (ms.map Pm.own)[i]? := by rw [hm]
        rw [List.getElem?_map, List.getElem?_map, List.getElem?_eq_getElem (by rw [li]; exact hi), List.getElem?_eq_getElem hi] at e1
        exact Option.some.inj e1
      show SlotOk G (cut H T) Z H (some (some v)) (some (some (ms[i].md, its[i].2))) (Ts i)
      rw [hk] at hv
      have jz : Same (cut H T) (joi (cut H T) Z) := joi_left
      refine ⟨v, rfl, ?_⟩
      generalize hms : ms[i] = m at hv
      cases m with
      | b => exact ⟨Own.keep jz _ v [] (fun _ _ e _ => e) hv.1, hv.2⟩
      | io => exact hv
      | mv => exact hv
    · have hi' : ms.length ≤ i := Nat.le_of_not_lt hi
      have ee : (slotsOf ms (its.map (·.2)) ++ List.replicate (N.length - ms.length) none)[i]? = none ∨ (slotsOf ms (its.map (·.2)) ++ List.replicate (N.length - ms.length) none)[i]? = some none := by
        rw [List.getElem?_append_right (by rw [ls]; exact hi'), List.getElem?_replicate]
        split
        · exact .inr rfl
        · exact .inl rfl
      rw [a2 i (List.getElem?_eq_none_iff.mpr (by rw [li]; exact hi'))]
      rcases ee with ee | ee
      · rw [ee]; rfl
      · rw [ee]; rfl

/-- what has become of the io arguments -/
theorem outs_ok {σ' : L2.St} {env' : DEnv} {Fs' : Nat → List Addr} {B' : Hp} (g : Good G B' Z' H' σ' env' Fs') : ∀ (ms : List Pm) (j : Nat) (outs : List D) (vs : List V), outsFrom ms j env' = some outs → (∀ i v, vs[i]? = some v → ms[i]? = some .io → σ'[j + i]? = some (some v)) → vs.length = ms.length →
    ∃ A, OwnL G Z' H' outs (ioV (ms.map Pm.isIo) vs) A ∧ A.Nodup ∧ (∀ a, a ∈ A → ∃ i, j ≤ i ∧ a ∈ Fs' i)
  | [], j, outs, [], h, _, _ => by
    cases (show some ([] : List D) = some outs from h)
    exact ⟨[], ⟨rfl, rfl⟩, List.nodup_nil, fun a m => by cases m⟩
  | [], _, _, _ :: _, _, _, h => by simp at h
  | _ :: _, _, _, [], _, _, h => by simp at h
  | .b :: ms, j, outs, v :: vs, h, hv, hl => by
    obtain ⟨A, h1, h2, h3⟩ := outs_ok g ms (j + 1) outs vs h (fun i w e1 e2 => by
      have := hv (i + 1) w e1 e2
      rw [show j + 1 + i = j + (i + 1) by omega]
      exact this) (by simpa using hl)
    exact ⟨A, h1, h2, fun a m => let ⟨i, hi, m⟩ := h3 a m; ⟨i, by omega, m⟩⟩
  | .mv :: ms, j, outs, v :: vs, h, hv, hl => by
    obtain ⟨A, h1, h2, h3⟩ := outs_ok g ms (j + 1) outs vs h (fun i w e1 e2 => by
      have := hv (i + 1) w e1 e2
      rw [show j + 1 + i = j + (i + 1) by omega]
      exact this) (by simpa using hl)
    exact ⟨A, h1, h2, fun a m => let ⟨i, hi, m⟩ := h3 a m; ⟨i, by omega, m⟩⟩
  | .io :: ms, j, outs, v :: vs, h, hv, hl => by
    have h : (match env'[j]?, outsFrom ms (j + 1) env' with
      | some (some (.io, d)), some r => some (r ++ [d])
      | _, _ => none) = some outs := h
    cases he : env'[j]? with
    | none => rw [he] at h; cases h
    | some sl =>
      match sl, he with
      | some (.io, d), he =>
        rw [he] at h
        cases ho : outsFrom ms (j + 1) env' with
        | none => rw [ho] at h; cases h
        | some r =>
          rw [ho] at h
          cases h
          obtain ⟨A, h1, h2, h3⟩ := outs_ok g ms (j + 1) r vs ho (fun i w e1 e2 => by
            have := hv (i + 1) w e1 e2
            rw [show j + 1 + i = j + (i + 1) by omega]
            exact this) (by simpa using hl)
          have hs := g.sl j
          rw [he] at hs
          obtain ⟨w, ew, hw⟩ := hs
          have e0 : σ'[j]? = some (some v) := hv 0 v rfl rfl
          rw [e0] at ew
          have : v = w := Option.some.inj (Option.some.inj ew)
          subst this
          refine ⟨A ++ Fs' j, OwnL.append h1 ⟨v, [], Fs' j, [], rfl, by simp, hw, rfl, rfl⟩, List.nodup_append.mpr ⟨h2, g.nd j, fun a m b n => ?_⟩, fun a m => ?_⟩
          · rintro rfl
            obtain ⟨i, hi, m⟩ := h3 a m
            have := g.dj i j a m n
            omega
          · rcases List.mem_append.mp m with m | m
            · obtain ⟨i, hi, m⟩ := h3 a m
              exact ⟨i, by omega, m⟩
            · exact ⟨j, Nat.le_refl _, m⟩
      | none, he => rw [he] at h; cases h
      | some (.own, d), he => rw [he] at h; cases h
      | some (.shr, d), he => rw [he] at h; cases h
      | some (.brw, d), he => rw [he] at h; cases h
      | some (.lck, d), he => rw [he] at h; cases h
theorem startD_io {ms : List Pm} {its : List (Bool × D)} {n i : Nat} (hm : its.map (·.1) = ms.map Pm.own) (h : ms[i]? = some .io) : ∃ d, (startD n ms (its.map (·.2)))[i]? = some (some (Md.io, d)) := by
  have hi : i < ms.length := (List.getElem?_eq_some_iff.mp h).1
  have li : its.length = ms.length := by simpa using congrArg List.length hm
  have ls : (slotsOf ms (its.map (·.2))).length = ms.length := slotsOf_length ms _ (by rw [List.length_map]; exact li)
  unfold startD
  rw [List.getElem?_append_left (by rw [ls]; exact hi), slotsOf_get ms its i hm, h, List.getElem?_eq_getElem (by rw [li]; exact hi)]
  exact ⟨_, rfl⟩
end
/-- what a body's context tells: W is wished of the refusals that leave it -/
structure DXW (X : Cx) (G : Gc) (W : Wsh) : Prop where
  dx : DX X G
  wc : ∀ c σ H, W c σ H → ∃ C, G.cl c = some C
  tk : Takes X (fun cls d σ H' => d = none ∧ ∃ c C, cls = .ref C ∧ G.cl c = some C ∧ W c σ H')
/-- the wish of one refusal, for a call -/
def wishX (G : Gc) (W : Wsh) (σ : L2.St) : XK := fun cls d H' => d = none ∧ ∃ c C, cls = .ref C ∧ G.cl c = some C ∧ W c σ H'
theorem DXW.passes {X : Cx} {G : Gc} {W : Wsh} (h : DXW X G W) (σ : L2.St) : PassesAt (L2.CX X.prog X.w) X σ (wishX G W σ) := passAt h.tk σ

section
variable {P : Program} {w : World} {K : PySem.W.Frag} {mg : Str → Option Value} {base : Heap}
/-- THE RULE for a def: its body on data -/
theorem def_ok {x qual : Str} {st : Stmt} {f : Addr} {fd : FuncData} {N ps : List Str} {k : Nat} {cl : Str → Option Addr} {bo : Hp} {ms : List Pm} {body : Stm} (F : L2.Fun K x qual st f fd) (S : FnScope N ps (defScope st)) (hms : ms.length = ps.length)
    (hbody : ∀ (cdv : Value) (A : Around) (outer : List Env) (s : Shared) (H : Hp) (E : XK) (W : Wsh), Room k (A.deeper (envOfC qual (defScope st) s.heap.objs.size f cdv)) →
      DXW (cxOf (L2.CX P w) P w K mg base N qual (defScope st) f cdv A outer s H E) ⟨K, cl, bo⟩ W →
      PassesOwn (model P w) (cxOf (L2.CX P w) P w K mg base N qual (defScope st) f cdv A outer s H E).A (cxOf (L2.CX P w) P w K mg base N qual (defScope st) f cdv A outer s H E).env (cxOf (L2.CX P w) P w K mg base N qual (defScope st) f cdv A outer s H E).xe →
      PSs (cxOf (L2.CX P w) P w K mg base N qual (defScope st) f cdv A outer s H E) (defBody st) (TSt ⟨K, cl, bo⟩ W body)) :
    FnOk P w K mg base (L2.CX P w) (k + 1) f fd ps (spD ⟨K, cl, bo⟩ ms (runFn N.length ms body)) := by
  have hN : ms.length ≤ N.length := by
    have := congrArg List.length S.pre
    rw [List.length_take] at this
    omega
  refine F.okX S (fun vs H Q E h => ?_) (fun cdv A outer s H vs Q E hr h => ?_)
  · obtain ⟨its, T, Z, hm, ho, _⟩ := h
    have li : its.length = ms.length := by simpa using congrArg List.length hm
    rw [OwnT.vlen ho, li, hms]
  · obtain ⟨its, T, Z, hm, ho, nd, hz, hn, z0, gb, hF⟩ := h
    have li : its.length = ms.length := by simpa using congrArg List.length hm
    have lv : vs.length = ms.length := (OwnT.vlen ho).trans li
    obtain ⟨Fs, g, hT⟩ := start_good (G := ⟨K, cl, bo⟩) hm ho nd hz hn z0 gb hN
    have W : Wsh := fun c _ H' => ∃ C, cl c = some C ∧ E (.ref C) none H'
    have hd : DXW (cxOf (L2.CX P w) P w K mg base N qual (defScope st) f cdv A outer s H E) ⟨K, cl, bo⟩ (fun c _ H' => ∃ C, cl c = some C ∧ E (.ref C) none H') := by
      refine ⟨⟨rfl, S.nd, Nat.lt_of_le_of_lt (show (A.deeper (envOfC qual (defScope st) s.heap.objs.size f cdv)).units + 70 ≤ (A.deeper (envOfC qual (defScope st) s.heap.objs.size f cdv)).units + 16 * k + 200 by omega) hr.un⟩, fun c _ H' ⟨C, h, _⟩ => ⟨C, h⟩, ?_⟩
      refine (takes_of (E := E) rfl rfl rfl rfl).imp fun cls d σ H' ⟨e, c, C, e2, e3, C', e4, e5⟩ => ?_
      subst e e2
      rw [show cl c = some C from e3] at e4
      cases e4
      exact e5
    have hp : PassesOwn (model P w) (cxOf (L2.CX P w) P w K mg base N qual (defScope st) f cdv A outer s H E).A (cxOf (L2.CX P w) P w K mg base N qual (defScope st) f cdv A outer s H E).env (cxOf (L2.CX P w) P w K mg base N qual (defScope st) f cdv A outer s H E).xe :=
      passes_of (X := cxOf (L2.CX P w) P w K mg base N qual (defScope st) f cdv A outer s H E) rfl
    refine ⟨_, hbody cdv A outer s H E _ hr hd hp, cut H T, Z, Fs, startD N.length ms (its.map (·.2)), g, ?_⟩
    have ioσ : ∀ {σ' : L2.St} {env' : DEnv} {Z' H' : Hp} {Fs' : Nat → List Addr}, Stp ⟨K, cl, bo⟩ (cut H T) Z H (L2.start N vs) (startD N.length ms (its.map (·.2))) (InF Fs) Z' H' σ' env' Fs' → ∀ i v, vs[i]? = some v → ms[i]? = some .io → σ'[0 + i]? = some (some v) := fun {σ' env' Z' H' Fs'} s1 i v e1 e2 => by
      obtain ⟨d, ed⟩ := startD_io (n := N.length) hm e2
      rw [Nat.zero_add, (s1.io i d ed).2]
      unfold L2.start
      have hi : i < vs.length := (List.getElem?_eq_some_iff.mp e1).1
      rw [List.getElem?_append_left (by rw [List.length_map]; exact hi), List.getElem?_map, e1]
      rfl
    have ext' : ∀ {σ' : L2.St} {env' : DEnv} {Z' H' : Hp} {Fs' : Nat → List Addr}, Stp ⟨K, cl, bo⟩ (cut H T) Z H (L2.start N vs) (startD N.length ms (its.map (·.2))) (InF Fs) Z' H' σ' env' Fs' → ∀ a o, H a = some o → a ∉ T → H' a = some o := fun {σ' env' Z' H' Fs'} s1 a o e n => s1.ext a o e fun m => n ((hT a).mp m)
    have run : runFn N.length ms body (its.map (·.2)) = (body (startD N.length ms (its.map (·.2))) >>= fun fl => match fl with
        | .nx e => must (outsFrom ms 0 e) fun o => .ok (.non, o)
        | .rt d e => must (outsFrom ms 0 e) fun o => .ok (d, o)
        | _ => .bad) := by
      unfold runFn
      rw [if_pos (by rw [List.length_map]; exact li)]
    rw [run] at hF
    unfold FinS
    generalize body (startD N.length ms (its.map (·.2))) = ob at hF ⊢
    match ob, hF with
    | .bad, hF => exact False.elim hF
    | .exc c, hF =>
      have hF : T = [] ∧ ∃ C, cl c = some C ∧ ∀ H', Same H H' → E (.ref C) none H' := hF
      obtain ⟨rfl, C, hc, hE⟩ := hF
      intro _ _ H' hs
      refine ⟨C, hc, hE H' fun a o e => hs a o ?_⟩
      unfold cut
      rw [if_neg (by simp)]
      exact e
    | .ok (.bk e), hF => exact False.elim hF
    | .ok (.ct e), hF => exact False.elim hF
    | .ok (.nx e), hF =>
      intro σ' Z' H' Fs' s1
      have hF : (match must (outsFrom ms 0 e) fun o => Out.ok (D.non, o) with
        | .ok (r, outs) => ∀ v H' Z' A, (∀ a, Z' a = none) → Same Z Z' → Same Z' H' → (∀ a o, H a = some o → a ∉ T → H' a = some o) → OwnL ⟨K, cl, bo⟩ Z' H' (r :: outs) (v :: ioV (ms.map Pm.isIo) vs) A → A.Nodup → (∀ a, a ∈ A → Z' a = none ∧ (H a = none ∨ a ∈ T)) → (∀ a, Z' a ≠ none → Z a ≠ none ∨ H a = none ∨ a ∈ T) → Q v H'
        | .exc c => T = [] ∧ ∃ C, cl c = some C ∧ ∀ H', Same H H' → E (.ref C) none H'
        | .bad => False) := hF
      cases ho' : outsFrom ms 0 e with
      | none => rw [ho'] at hF; exact hF.elim
      | some outs =>
        rw [ho'] at hF
        obtain ⟨A, h1, h2, h3⟩ := outs_ok s1.good ms 0 outs vs ho' (ioσ s1) lv
        refine hF .non H' Z' A s1.good.z0 s1.zz s1.good.sz (ext' s1) ⟨.non, _, [], A, rfl, rfl, ⟨rfl, rfl⟩, h1⟩ h2 (fun a m => ?_) (fun a m => ?_)
        · obtain ⟨i, _, m⟩ := h3 a m
          exact ⟨(s1.good.fr i a m).2, (s1.new a ⟨i, m⟩).imp id (hT a).mp⟩
        · exact (s1.newz a m).imp id fun z => z.imp id (hT a).mp
    | .ok (.rt d e), hF =>
      intro σ' v Z' H' Fs' F' r1
      have s1 := r1.st
      have hF : (match must (outsFrom ms 0 e) fun o => Out.ok (d, o) with
        | .ok (r, outs) => ∀ v H' Z' A, (∀ a, Z' a = none) → Same Z Z' → Same Z' H' → (∀ a o, H a = some o → a ∉ T → H' a = some o) → OwnL ⟨K, cl, bo⟩ Z' H' (r :: outs) (v :: ioV (ms.map Pm.isIo) vs) A → A.Nodup → (∀ a, a ∈ A → Z' a = none ∧ (H a = none ∨ a ∈ T)) → (∀ a, Z' a ≠ none → Z a ≠ none ∨ H a = none ∨ a ∈ T) → Q v H'
        | .exc c => T = [] ∧ ∃ C, cl c = some C ∧ ∀ H', Same H H' → E (.ref C) none H'
        | .bad => False) := hF
      cases ho' : outsFrom ms 0 e with
      | none => rw [ho'] at hF; exact hF.elim
      | some outs =>
        rw [ho'] at hF
        obtain ⟨A, h1, h2, h3⟩ := outs_ok s1.good ms 0 outs vs ho' (ioσ s1) lv
        refine hF v H' Z' (F' ++ A) s1.good.z0 s1.zz s1.good.sz (ext' s1) ⟨v, _, F', A, rfl, rfl, r1.own, h1⟩ (List.nodup_append.mpr ⟨r1.nd, h2, fun a m b n => ?_⟩) (fun a m => ?_) (fun a m => ?_)
        · rintro rfl
          obtain ⟨i, _, n⟩ := h3 a n
          exact r1.dj a m ⟨i, n⟩
        · rcases List.mem_append.mp m with m | m
          · exact ⟨(r1.fr a m).2, (r1.new a m).imp id (hT a).mp⟩
          · obtain ⟨i, _, m⟩ := h3 a m
            exact ⟨(s1.good.fr i a m).2, (s1.new a ⟨i, m⟩).imp id (hT a).mp⟩
        · exact (s1.newz a m).imp id fun z => z.imp id (hT a).mp
end
/-- the values at hand as a def takes them: what it only reads is not owned any more -/
theorem OwnT.asked {G : Gc} {Z H : Hp} : ∀ {its : List (Bool × D)} {vs : List V} {T : List Addr} {Y : Hp} {ms : List Pm}, OwnT G Y Z H its vs T → its.length = ms.length → T.Nodup → (∀ (i : Nat) (p : Bool × D) (m : Pm), its[i]? = some p → ms[i]? = some m → m.own = true → p.1 = true) →
    ∃ (its' : List (Bool × D)) (T' : List Addr), its'.map (·.1) = ms.map Pm.own ∧ its'.map (·.2) = its.map (·.2) ∧ T'.Nodup ∧ (∀ a, a ∈ T' → a ∈ T) ∧ (ms.all (fun (m : Pm) => !m.own) = true → T' = []) ∧
      ∀ Y' : Hp, Same Y Y' → Same Z Y' → (∀ b u, b ∈ T → b ∉ T' → H b = some u → Y' b = some u) → OwnT G Y' Z H its' vs T'
  | [], vs, T, Y, [], h, _, _, _ => ⟨[], [], rfl, rfl, List.nodup_nil, fun a m => (by cases m), fun _ => rfl, fun Y' _ _ _ => ⟨h.1, rfl⟩⟩
  | [], _, _, _, _ :: _, _, hl, _, _ => by simp at hl
  | _ :: _, _, _, _, [], _, hl, _, _ => by simp at hl
  | (o, d) :: r, vs, T, Y, m :: ms, h, hl, nd, hk => by
    obtain ⟨v', rest, F2, F3, rfl, rfl, h2, h3⟩ := h
    obtain ⟨nd1, nd2, nd3⟩ := List.nodup_append.mp nd
    obtain ⟨its', T', e1, e2, n1, s1, z1, c1⟩ := OwnT.asked h3 (by simpa using hl) nd2 fun i p m' q1 q2 => hk (i + 1) p m' q1 q2
    by_cases hm : m.own = true
    · have ho : o = true := hk 0 (o, d) m rfl rfl hm
      subst ho
      refine ⟨(true, d) :: its', F2 ++ T', by rw [List.map_cons, List.map_cons, e1, hm], by rw [List.map_cons, List.map_cons, e2], List.nodup_append.mpr ⟨nd1, n1, fun a p b q => nd3 a p b (s1 b q)⟩, fun a q => ?_, fun z => ?_, fun Y' y1 y2 y3 => ?_⟩
      · rcases List.mem_append.mp q with q | q
        · exact List.mem_append_left _ q
        · exact List.mem_append_right _ (s1 a q)
      · simp [hm] at z
      · refine ⟨v', rest, F2, T', rfl, rfl, h2, c1 Y' y1 y2 fun b u p q e => y3 b u (List.mem_append_right _ p) (fun z => ?_) e⟩
        rcases List.mem_append.mp z with z | z
        · exact nd3 b z b p rfl
        · exact q z
    · have hm' : m.own = false := by simpa using hm
      refine ⟨(false, d) :: its', T', by rw [List.map_cons, List.map_cons, e1, hm'], by rw [List.map_cons, List.map_cons, e2], n1, fun a q => List.mem_append_right _ (s1 a q), fun z => ?_, fun Y' y1 y2 y3 => ?_⟩
      · simp only [List.all_cons, Bool.and_eq_true] at z
        exact z1 z.2
      · refine ⟨v', rest, [], T', rfl, rfl, ⟨?_, rfl⟩, c1 Y' y1 y2 fun b u p q e => y3 b u (List.mem_append_right _ p) q e⟩
        cases o with
        | true => exact Own.freeze y2 d v' F2 (fun b u p e => y3 b u (List.mem_append_left _ p) (fun q => nd3 b p b (s1 b q) rfl) e) h2
        | false => exact Own.keep y1 d v' [] (fun _ _ e _ => e) h2.1
def callK (ms : List Pm) (F : Fn) : Kn := fun ds e => match F ds with
  | .ok (r, o) => .ok (r, o, e)
  | .exc c => if ms.all (fun (m : Pm) => !m.own) = true then .exc c else .bad
  | .bad => .bad
/-- arguments as a def asks for them -/
def fitB : List Pm → List Bool → Bool
  | [], [] => true
  | m :: ms, b :: bs => (!m.own || b) && fitB ms bs
  | _, _ => false
theorem fitB_len : ∀ {ms : List Pm} {bs : List Bool}, fitB ms bs = true → bs.length = ms.length
  | [], [], _ => rfl
  | [], _ :: _, h => by cases h
  | _ :: _, [], h => by cases h
  | m :: ms, b :: bs, h => by
    have h : ((!m.own || b) && fitB ms bs) = true := h
    simp only [Bool.and_eq_true] at h
    rw [List.length_cons, List.length_cons, fitB_len h.2]
theorem fitB_at : ∀ {ms : List Pm} {bs : List Bool}, fitB ms bs = true → ∀ (i : Nat) (m : Pm) (b : Bool), ms[i]? = some m → bs[i]? = some b → m.own = true → b = true
  | [], [], _, i, m, b, e, _, _ => by simp at e
  | [], _ :: _, h, _, _, _, _, _, _ => by cases h
  | _ :: _, [], h, _, _, _, _, _, _ => by cases h
  | m :: ms, b :: bs, h, i, m', b', e1, e2, ho => by
    have h : ((!m.own || b) && fitB ms bs) = true := h
    simp only [Bool.and_eq_true] at h
    cases i with
    | zero =>
      cases e1
      cases e2
      have := h.1
      rw [ho] at this
      simpa using this
    | succ i => exact fitB_at h.2 i m' b' e1 e2 ho
section
variable {G : Gc} {W : Wsh}
theorem call_kok {ms : List Pm} {F : Fn} {bs : List Bool} (hf : fitB ms bs = true) (hwc : ∀ c σ H, W c σ H → ∃ C, G.cl c = some C) (σ : L2.St) : KOkS G W σ (ms.map Pm.isIo) bs (fun vs H Q => spD G ms F vs H Q (wishX G W σ)) (callK ms F) := by
  intro B Z H env Fs its vs T ios Q gd hd hb hn hF
  have li : its.length = ms.length := by rw [← fitB_len hf, ← hb, List.length_map]
  obtain ⟨its', T', e1, e2, n1, s1, z1, c1⟩ := OwnT.asked (ms := ms) hd.own li hd.nd fun i p m q1 q2 ho => by
    refine fitB_at hf i m p.1 q2 ?_ ho
    rw [← hb, List.getElem?_map, q1]
    rfl
  have hT' : ∀ a, a ∈ T' → Z a = none := fun a m => (hd.fr a (s1 a m)).2
  refine ⟨its', T', Z, e1, c1 (cut H T') (fun a u e => ?_) (fun a u e => ?_) (fun b u _ n e => by rw [cut_out n]; exact e), n1, gd.sz, hT', gd.z0, fun a u e => (cut_out fun m => by have q := (hd.fr a (s1 a m)).1; rw [gd.gb a u e] at q; cases q).trans (gd.sb a u (gd.gb a u e)), ?_⟩
  · unfold cut at e ⊢
    split at e
    · cases e
    · rename_i n
      rw [if_neg fun m => n (s1 a m)]
      exact e
  · rw [cut_out fun m => by rw [hT' a m] at e; cases e]
    exact gd.sz a u e
  · rw [e2]
    unfold callK at hF
    generalize F (its.map (·.2)) = fo at hF ⊢
    match fo, hF with
    | .bad, hF => exact False.elim hF
    | .exc c, hF =>
      have hF : FinO G W B Z H σ env (PT_ Fs T) ios (if ms.all (fun (m : Pm) => !m.own) = true then .exc c else .bad) Q := hF
      by_cases ha : ms.all (fun (m : Pm) => !m.own) = true
      · rw [if_pos ha] at hF
        obtain ⟨C, hC⟩ := hwc c σ H (hF H gd.sb)
        exact ⟨z1 ha, C, hC, fun H' hs => ⟨rfl, c, C, rfl, hC, hF H' (gd.sb.trans hs)⟩⟩
      · rw [if_neg ha] at hF
        exact hF.elim
    | .ok (r, o), hF =>
      intro v H' Z' A z0' z2 z3 ext ho nd hfr hnz
      subst hn
      have st : Stp G B Z H σ env (PT_ Fs T) Z' H' σ env Fs := by
        have b' : Same B H' := fun a u e => ext a u (gd.sb a u e) fun m => by rw [(hd.fr a (s1 a m)).1] at e; cases e
        have ninf : ∀ a, InF Fs a → a ∉ T' := fun a m n => hd.dj a (s1 a n) m
        refine ⟨z2, fun a u e n => ext a u e fun m => n (.inr (s1 a m)), ⟨b', z3, gd.len, fun i => ?_, gd.nd, gd.dj, fun i a m => ⟨(gd.fr i a m).1, ?_⟩, z0', gd.gb⟩, fun a m => .inr (.inl m), fun a m => (hnz a m).imp id fun z => z.imp id fun z => .inr (s1 a z), fun j d e => ⟨⟨d, e⟩, rfl⟩, fun j d e => ⟨e, rfl⟩, fun j d e => ⟨e, rfl⟩, fun j d e => ⟨e, rfl⟩, rfl⟩
        · refine (gd.sl i).keep gd.sb gd.sz b' z3 z2 fun a u e m => ?_
          rcases m with m | nm
          · exact ext a u e (ninf a ⟨i, m⟩)
          · refine ext a _ e fun m => ?_
            obtain ⟨u, e3, mu⟩ := hd.own.dom a (s1 a m)
            rw [e] at e3; cases e3
            exact nm mu
        · cases q : Z' a with
          | none => rfl
          | some u =>
            rcases hnz a (by rw [q]; simp) with z | z | z
            · exact absurd (gd.fr i a m).2 z
            · obtain ⟨u', e, _⟩ := gd.dom ⟨i, m⟩
              rw [e] at z; cases z
            · exact absurd z (ninf a ⟨i, m⟩)
      refine hF v Z' H' Fs A ⟨st, ho, nd, fun a m n => ?_, fun a m => ⟨?_, (hfr a m).1⟩, fun a m => (hfr a m).2.imp id fun z => .inr (s1 a z)⟩
      · rcases (hfr a m).2 with z | z
        · obtain ⟨u', e, _⟩ := gd.dom n
          rw [e] at z; cases z
        · exact hd.dj a (s1 a z) n
      · rcases (hfr a m).2 with z | z
        · exact (none_of_free gd z).2.1
        · exact (hd.fr a (s1 a z)).1
/-- a call of a def -/
theorem e_call {X : Cx} {ms : List Pm} {F : Fn} {k : Nat} {f : Addr} {fd : FuncData} {ps : List Str} {x : Str} {p pos : Pos} {e : Expr} {es : List Expr} {t : TA} (dw : DXW X G W) (FO : FnOk X.prog X.w X.K X.mg X.base (L2.CX X.prog X.w) k f fd ps (spD G ms F)) (hr : Room k X.A) (hg : Gl X x) (hm : X.mg x = some (.ref f)) (hk : PySem.W.keepIn X.K (.ref f) = true) (hb : Binds X.K fd ps []) (c : Chn)
    (ha : PA X (e :: es) t) (ht : t = seqTE (c.tes G W) := by rfl) (hi : c.iofs = ms.map Pm.isIo := by rfl) (hf : fitB ms c.kinds = true := by rfl) (hdb : (x == ("__debug__" : Str)) = false := by decide) (he : starEach (e :: es) X.env = (false, eval e X.env) :: starEach es X.env := by rfl) (hpl : (backTo pos (starEach es X.env)).any (·.1) = false := by rfl) :
    PE X (.Call (.Name x p) (e :: es) [] pos) (TV G W (eK c (callK ms F))) :=
  (pe_callS (E := wishX G W) FO hr hg hm hk hb dw.passes ha hdb he hpl).imp fun σ H Q h => by
    subst ht
    exact tv_chnS (c := c) (call_kok (F := F) hf dw.wc σ) hi rfl H Q h
end
end DL
namespace DL
open PySem PySem.Spec PyProof.Rows L2
/-- the outer state's steps by those of an inner one, in which some slots are locked -/
structure Unl (G : Gc) (B Z H : Hp) (σ : L2.St) (env : DEnv) (P : Addr → Prop) (B1 Z1 H1 : Hp) (env1 : DEnv) (Fs1 : Nat → List Addr) (u : DEnv → DEnv) : Prop where
  good : Good G B1 Z1 H1 σ env1 Fs1
  bb : Same B B1
  hh : ∀ a, H1 a = none ∨ InF Fs1 a → H a = none ∨ P a
  out : ∀ (Z2 H2 : Hp) (σ2 : L2.St) (e2 : DEnv) (F2 : Nat → List Addr), Stp G B1 Z1 H1 σ env1 (InF Fs1) Z2 H2 σ2 e2 F2 → ∃ F3, Stp G B Z H σ env P Z2 H2 σ2 (u e2) F3 ∧ ∀ a, ¬ InF F2 a → B1 a = none → ¬ InF F3 a ∧ B a = none
section
variable {G : Gc} {B Z H B1 Z1 H1 : Hp} {σ : L2.St} {env env1 : DEnv} {P : Addr → Prop} {Fs Fs1 : Nat → List Addr} {u : DEnv → DEnv}
theorem Unl.refl (g : Good G B Z H σ env Fs) : Unl G B Z H σ env (InF Fs) B Z H env Fs id :=
  ⟨g, Same.refl B, fun _ m => m, fun _ _ _ _ F2 s => ⟨F2, s, fun _ n b => ⟨n, b⟩⟩⟩
theorem Unl.step {Z2 H2 : Hp} {env2 : DEnv} {Fs2 : Nat → List Addr} (w : Unl G B Z H σ env P B1 Z1 H1 env1 Fs1 u) (s : Stp G B1 Z1 H1 σ env1 (InF Fs1) Z2 H2 σ env2 Fs2) : Unl G B Z H σ env P B1 Z2 H2 env2 Fs2 u := by
  refine ⟨s.good, w.bb, fun a m => w.hh a ?_, fun Z3 H3 σ3 e3 F3 s3 => w.out _ _ _ _ _ (s.trans s.new s3)⟩
  rcases m with m | m
  · cases q : H1 a with
    | none => exact .inl rfl
    | some o =>
      refine .inr ?_
      by_cases n : InF Fs1 a
      · exact n
      · have := s.ext a o q n
        rw [m] at this; cases this
  · exact s.new a m
theorem Unl.lock (w : Unl G B Z H σ env P B1 Z1 H1 env1 Fs1 u) (i : Nat) : Unl G B Z H σ env P (lockB B1 H1 Fs1 i) Z1 H1 (lock i env1) (offF Fs1 i) (fun e => u (unlock env1 e)) := by
  have g := w.good
  refine ⟨g.lock i, w.bb.trans (lockB_up g i), fun a m => w.hh a (m.imp id inF_off), fun Z2 H2 σ2 e2 F2 s => ?_⟩
  have off_i : ∀ a, InF (offF Fs1 i) a → InF Fs1 a ∧ a ∉ Fs1 i := fun a m => by
    refine ⟨inF_off m, fun n => ?_⟩
    obtain ⟨j, m⟩ := m
    unfold offF at m
    split at m
    · cases m
    · rename_i hne
      exact hne (g.dj j i a m n)
  have s1 := s.unlock g (g.lock i).pm off_i (fun a m => ⟨i, m⟩)
  obtain ⟨F3, s3, h3⟩ := w.out _ _ _ _ _ s1
  refine ⟨F3, s3, fun a n b => ?_⟩
  have b1 : B1 a = none := by
    cases q : B1 a with
    | none => rfl
    | some o =>
      have := lockB_up g i a o q
      rw [b] at this; cases this
  refine h3 a (fun m => ?_) b1
  obtain ⟨j, m⟩ := m
  rcases backF_mem m with ⟨_, m⟩ | m
  · unfold lockB at b
    rw [lay_in m] at b
    obtain ⟨o, e, _⟩ := g.dom ⟨i, m⟩
    rw [e] at b; cases b
  · exact n ⟨j, m⟩
/-- a step where more is read only -/
theorem Stp.unB {B' Z2 H2 : Hp} {σ2 : L2.St} {e2 : DEnv} {F2 : Nat → List Addr} (g : Good G B Z H σ env Fs) (hB : Same B B') (pm : PMut H P) (s : Stp G B' Z H σ env P Z2 H2 σ2 e2 F2) : Stp G B Z H σ env P Z2 H2 σ2 e2 F2 := by
  have gl := s.good
  refine ⟨s.zz, s.ext, ⟨hB.trans gl.sb, gl.sz, gl.len, fun j => (gl.sl j).unlk (g.sl j) s.zz (hB.trans gl.sb) gl.sz (fun a u e st => s.ext a _ e (pm.tup e st)) (fun d e => ⟨(s.bw j d e).1 ▸ rfl, (s.bw j d e).2⟩) (fun d e => ⟨(s.lb j d e).1 ▸ rfl, (s.lb j d e).2⟩), gl.nd, gl.dj, fun i a m => ⟨?_, (gl.fr i a m).2⟩, gl.z0, g.gb⟩, s.new, s.newz, s.io, s.lk, s.bw, s.lb, s.ln⟩
  cases q : B a with
  | none => rfl
  | some u =>
    have := hB a u q
    rw [(gl.fr i a m).1] at this; cases this
/-- a value at hand, held while the rest runs -/
theorem Unl.hold {F : List Addr} {d : D} {v : V} (w : Unl G B Z H σ env P B1 Z1 H1 env1 Fs1 u) (ho : Own G Z1 H1 d v F) (hd : ∀ a, a ∈ F → ¬ InF Fs1 a) : Unl G B Z H σ env P (lay B1 H1 F) Z1 H1 env1 Fs1 u ∧ Own G (joi (lay B1 H1 F) Z1) H1 d v [] := by
  have g := w.good
  have up : Same B1 (lay B1 H1 F) := lay_up g.sb
  have le : Same (lay B1 H1 F) H1 := lay_le g.sb
  refine ⟨⟨⟨le, g.sz, g.len, fun j => ?_, g.nd, g.dj, fun i a m => ⟨?_, (g.fr i a m).2⟩, g.z0, g.gb.trans up⟩, w.bb.trans up, w.hh, fun Z2 H2 σ2 e2 F2 s => ?_⟩, Own.freeze (joi_right le g.sz) d v F (fun b u m e => joi_left b u (by rw [lay_in m]; exact e)) ho⟩
  · have h := g.sl j
    have j1 : Same (joi B1 Z1) (joi (lay B1 H1 F) Z1) := joi_mono up (Same.refl Z1) le g.sz
    unfold SlotOk at h ⊢
    match hs : env1[j]?, h with
    | some (some (.own, d)), h => exact h
    | some (some (.io, d)), h => exact h
    | some (some (.shr, d)), h => exact h
    | some (some (.brw, d)), h => obtain ⟨v, e, h, f⟩ := h; exact ⟨v, e, Own.keep j1 d v [] (fun _ _ e _ => e) h, f⟩
    | some (some (.lck, d)), h => obtain ⟨v, e, h, f⟩ := h; exact ⟨v, e, Own.keep j1 d v [] (fun _ _ e _ => e) h, f⟩
    | some none, h => exact h
    | none, h => exact h
  · rw [lay_out fun n => hd a n ⟨i, m⟩]
    exact (g.fr i a m).1
  · obtain ⟨F3, s3, h3⟩ := w.out _ _ _ _ _ (s.unB g up g.pm)
    refine ⟨F3, s3, fun a n b => h3 a n ?_⟩
    cases q : B1 a with
    | none => rfl
    | some o =>
      have := up a o q
      rw [b] at this; cases this
end
inductive Opn where
  | pur (h : DEnv → Option D)
  | plc (i : Nat) (g : DEnv → Option D)
  | own (f : DEnv → Out (D × DEnv))
def Opn.te (G : Gc) (W : Wsh) : Opn → TE
  | .pur h => TPur G h
  | .plc i g => TPlc G i g
  | .own f => TV G W f
def evO : List Opn → DEnv → Out (List D × List DEnv × DEnv)
  | [], env => .ok ([], [], env)
  | .pur h :: r, env => must (h env) fun d => evO r env >>= fun q => .ok (d :: q.1, q.2.1, q.2.2)
  | .plc i g :: r, env => must (g env) fun d => evO r (lock i env) >>= fun q => .ok (d :: q.1, q.2.1 ++ [env], q.2.2)
  | .own f :: r, env => f env >>= fun p => evO r p.2 >>= fun q => .ok (p.1 :: q.1, q.2.1, q.2.2)
def unlk (st : List DEnv) (e : DEnv) : DEnv := st.foldl (fun e e0 => unlock e0 e) e
theorem unlock_lck {e0 e : DEnv} {j : Nat} {d : D} (h : (unlock e0 e)[j]? = some (some (.lck, d))) : e[j]? = some (some (.lck, d)) := by
  rw [unlock_at] at h
  split at h
  · rename_i a b ha hb
    rw [hb]
    cases h2 : unl1 a b with
    | none => rw [h2] at h; cases h
    | some p =>
      rw [h2] at h
      cases h
      unfold unl1 at h2
      split at h2
      · cases h2
      · cases h2
      · rw [h2]
  · cases h
theorem unlk_lck {j : Nat} {d : D} : ∀ (st : List DEnv) (e : DEnv), (unlk st e)[j]? = some (some (.lck, d)) → e[j]? = some (some (.lck, d))
  | [], _, h => h
  | e0 :: st, e, h => unlock_lck (unlk_lck st (unlock e0 e) h)
/-- all tuples stay -/
def TK (H1 H : Hp) : Prop := ∀ a u, H1 a = some u → Still u → H a = some u
theorem TK.of {H H' : Hp} (h : Same H H') : TK H H' := fun a u e _ => h a _ e
theorem TK.trans {H H1 H2 : Hp} (h : TK H H1) (k : TK H1 H2) : TK H H2 := fun a u e st => k a u (h a u e st) st
theorem Stp.tk {G : Gc} {B Z H Z' H' : Hp} {σ σ' : L2.St} {env env' : DEnv} {P : Addr → Prop} {Fs' : Nat → List Addr} (s : Stp G B Z H σ env P Z' H' σ' env' Fs') (pm : PMut H P) : TK H H' := fun a u e st => s.ext a _ e (pm.tup e st)
theorem Own.keepT {G : Gc} {Y Y' H H' : Hp} {d : D} {v : V} (hy : Same Y Y') (t : TK H H') (h : Own G Y H d v []) : Own G Y' H' d v [] :=
  Own.keep hy d v [] (fun b u e m => by
    rcases m with m | nm
    · cases m
    · exact t b u e nm) h
theorem OwnL.keepT {G : Gc} {Y Y' H H' : Hp} {d : List D} {v : List V} (hy : Same Y Y') (t : TK H H') (h : OwnL G Y H d v []) : OwnL G Y' H' d v [] :=
  OwnL.keep hy d v [] (fun b u e m => by
    rcases m with m | nm
    · cases m
    · exact t b u e nm) h
theorem OwnL.snoc {G : Gc} {Y H : Hp} {ds : List D} {vs : List V} {d : D} {v : V} (h : OwnL G Y H ds vs []) (h1 : Own G Y H d v []) : OwnL G Y H (ds ++ [d]) (vs ++ [v]) [] := by
  have := OwnL.append h (OwnL.cons_nil h1 (show OwnL G Y H [] [] [] from ⟨rfl, rfl⟩))
  simpa using this

section
variable {G : Gc} {W : Wsh} {B Z H : Hp} {σ : L2.St} {env : DEnv} {P : Addr → Prop}
theorem evO_ok : ∀ (ops : List Opn) (B1 Z1 H1 : Hp) (env1 : DEnv) (Fs1 : Nat → List Addr) (u : DEnv → DEnv) (its : List D) (vs : List V) (k : List V → Hp → Prop), Unl G B Z H σ env P B1 Z1 H1 env1 Fs1 u → OwnL G (joi B1 Z1) H1 its vs [] →
    (match evO ops env1 with
      | .ok (ds, st, e) => ∀ us B2 Z2 H2 Fs2, Unl G B Z H σ env P B2 Z2 H2 e Fs2 (fun x => u (unlk st x)) → OwnL G (joi B2 Z2) H2 (its ++ ds) (vs ++ us) [] → k us H2
      | .exc c => ∀ H', Same B H' → W c σ H'
      | .bad => False) → seqTE (ops.map (Opn.te G W)) σ H1 k
  | [], B1, Z1, H1, env1, Fs1, u, its, vs, k, w, ho, h => by
    have h : ∀ us B2 Z2 H2 Fs2, Unl G B Z H σ env P B2 Z2 H2 env1 Fs2 (fun x => u (unlk [] x)) → OwnL G (joi B2 Z2) H2 (its ++ []) (vs ++ us) [] → k us H2 := h
    exact h [] B1 Z1 H1 Fs1 w (by rw [List.append_nil, List.append_nil]; exact ho)
  | .pur f :: r, B1, Z1, H1, env1, Fs1, u, its, vs, k, w, ho, h => by
    have e0 : evO (.pur f :: r) env1 = must (f env1) fun d => evO r env1 >>= fun q => .ok (d :: q.1, q.2.1, q.2.2) := rfl
    rw [e0] at h
    cases hf : f env1 with
    | none => rw [hf] at h; exact h.elim
    | some d =>
      rw [hf, must_some] at h
      refine ⟨B1, Z1, Fs1, env1, w.good, d, hf, fun v H2 hs hp hv => ?_⟩
      refine evO_ok r B1 Z1 H2 env1 Fs1 u (its ++ [d]) (vs ++ [v]) _ (w.step (Stp.grow w.good (fun _ m => m) hs)) (OwnL.snoc (OwnL.keepT (Same.refl _) (TK.of hs) ho) (hv _)) ?_
      cases hr : evO r env1 with
      | bad => rw [hr] at h; exact h.elim
      | exc c => rw [hr] at h; exact h
      | ok q =>
        rw [hr] at h
        exact fun us B2 Z2 H3 Fs2 w2 o2 => h (v :: us) B2 Z2 H3 Fs2 w2 (by simpa using o2)
  | .plc i f :: r, B1, Z1, H1, env1, Fs1, u, its, vs, k, w, ho, h => by
    have e0 : evO (.plc i f :: r) env1 = must (f env1) fun d => evO r (lock i env1) >>= fun q => .ok (d :: q.1, q.2.1 ++ [env1], q.2.2) := rfl
    rw [e0] at h
    cases hf : f env1 with
    | none => rw [hf] at h; exact h.elim
    | some d =>
      rw [hf, must_some] at h
      refine ⟨B1, Z1, Fs1, env1, w.good, d, hf, fun v H2 hs hv => ?_⟩
      have w1 := w.step (Stp.grow w.good (fun _ m => m) hs)
      have g1 := w1.good
      refine evO_ok r _ Z1 H2 _ _ _ (its ++ [d]) (vs ++ [v]) _ (w1.lock i) (OwnL.snoc (OwnL.keepT (joi_mono (lockB_up g1 i) (Same.refl Z1) (lockB_le g1 i) g1.sz) (TK.of hs) ho) hv) ?_
      cases hr : evO r (lock i env1) with
      | bad => rw [hr] at h; exact h.elim
      | exc c => rw [hr] at h; exact h
      | ok q =>
        rw [hr] at h
        refine fun us B2 Z2 H3 Fs2 w2 o2 => h (v :: us) B2 Z2 H3 Fs2 ?_ (by simpa using o2)
        have e : (fun x => u (unlk (q.2.1 ++ [env1]) x)) = fun x => u (unlock env1 (unlk q.2.1 x)) := by
          funext x
          unfold unlk
          rw [List.foldl_append]
          rfl
        rw [e]
        exact w2
  | .own f :: r, B1, Z1, H1, env1, Fs1, u, its, vs, k, w, ho, h => by
    have e0 : evO (.own f :: r) env1 = (f env1 >>= fun p => evO r p.2 >>= fun q => .ok (p.1 :: q.1, q.2.1, q.2.2)) := rfl
    rw [e0] at h
    refine ⟨B1, Z1, Fs1, env1, w.good, ?_⟩
    unfold FinV
    cases hf : f env1 with
    | bad => rw [hf] at h; exact h.elim
    | exc c => rw [hf] at h; exact fun H' hs => h H' (w.bb.trans hs)
    | ok p =>
      obtain ⟨d, e1⟩ := p
      rw [hf] at h
      intro v Z2 H2 Fs2 F p
      have s2 := p.st
      obtain ⟨w2, o2⟩ := (w.step s2).hold p.one p.dj
      refine evO_ok r _ _ H2 e1 Fs2 u (its ++ [d]) (vs ++ [v]) _ w2 (OwnL.snoc (OwnL.keepT (joi_mono (lay_up s2.good.sb) s2.zz w2.good.sb w2.good.sz) (s2.tk w.good.pm) ho) o2) ?_
      have h : (match evO r e1 >>= fun q => Out.ok (d :: q.1, q.2.1, q.2.2) with
        | .ok (ds, st, e) => ∀ us B2 Z2 H2 Fs2, Unl G B Z H σ env P B2 Z2 H2 e Fs2 (fun x => u (unlk st x)) → OwnL G (joi B2 Z2) H2 (its ++ ds) (vs ++ us) [] → k us H2
        | .exc c => ∀ H', Same B H' → W c σ H'
        | .bad => False) := h
      cases hr : evO r e1 with
      | bad => rw [hr] at h; exact h.elim
      | exc c => rw [hr] at h; exact h
      | ok q =>
        rw [hr] at h
        exact fun us B3 Z3 H3 Fs3 w3 o3 => h (v :: us) B3 Z3 H3 Fs3 w3 (by simpa using o3)
end
/-- the iterator J hands on xs, one by one, while Y and the tuples stay -/
def IterOk (G : Gc) (Y H1 : Hp) (J : It) (xs : List D) : Prop := ∀ (i : Nat) (H : Hp), Same Y H → TK H1 H → (∀ x, xs[i]? = some x → J.go i H ∧ ∀ v H', J.yld i H v H' → Same H H' ∧ Own G Y H' x v []) ∧ (i = xs.length → J.stop i H)
def TSrc (G : Gc) (W : Wsh) (ops : List Opn) (mk : List D → Option (List D)) : TI := fun σ H R => ∃ B Z Fs env, Good G B Z H σ env Fs ∧ match evO ops env with
  | .ok (ds, st, env1) => ∃ xs, mk ds = some xs ∧ ∀ B1 Z1 H1 Fs1 J, Unl G B Z H σ env (InF Fs) B1 Z1 H1 env1 Fs1 (unlk st) → IterOk G (joi B1 Z1) H1 J xs → R J H1
  | .exc c => ∀ H', Same B H' → W c σ H'
  | .bad => False
theorem _root_.L2.PI.imp {X : Cx} {tg e : Expr} {t t' : TI} (h : PI X tg e t) (i : ∀ σ H R, t' σ H R → t σ H R) : PI X tg e t' := ⟨fun pins s σ H R I hr => h.run pins s σ H R I (i σ H R hr)⟩
abbrev RI := List V → Hp → (It → Hp → Prop) → Prop
def fits (G : Gc) (r : RI) (mk : List D → Option (List D)) : Prop := ∀ (ds : List D) (vs : List V) (Y H : Hp) (xs : List D) (R : It → Hp → Prop), OwnL G Y H ds vs [] → Same Y H → mk ds = some xs → (∀ J H', Same H H' → IterOk G Y H' J xs → R J H') → r vs H R
theorem src_ok {G : Gc} {W : Wsh} {X : Cx} {tg e : Expr} {r : RI} {ops : List Opn} {mk : List D → Option (List D)} (hf : fits G r mk) (h : PI X tg e (fun σ H R => seqTE (ops.map (Opn.te G W)) σ H fun vs H1 => r vs H1 R)) : PI X tg e (TSrc G W ops mk) :=
  h.imp fun σ H R ⟨B, Z, Fs, env, g, q⟩ => by
    refine evO_ok (W := W) ops B Z H env Fs id [] [] _ (Unl.refl g) ⟨rfl, rfl⟩ ?_
    cases hr : evO ops env with
    | bad => rw [hr] at q; exact q.elim
    | exc c => rw [hr] at q; exact q
    | ok p =>
      obtain ⟨ds, st, e⟩ := p
      rw [hr] at q
      obtain ⟨xs, hx, q⟩ := q
      intro us B2 Z2 H2 Fs2 w o
      refine hf ds us (joi B2 Z2) H2 xs R (by simpa using o) (joi_le w.good.sb w.good.sz) hx fun J H' hs hj => ?_
      exact q B2 Z2 H' Fs2 J (w.step (Stp.grow w.good (fun _ m => m) hs)) hj

def mkSeq : List D → Option (List D)
  | [.lst ds] => some ds
  | [.tupF _ ds] => some ds
  | _ => none
theorem mkSeq_some {ds xs : List D} (h : mkSeq ds = some xs) : ds = [.lst xs] ∨ ∃ f, ds = [.tupF f xs] := by
  unfold mkSeq at h
  split at h
  · cases h; exact .inl rfl
  · cases h; exact .inr ⟨_, rfl⟩
  · cases h
def rSeqI (K : PySem.W.Frag) : RI := fun vs H R => ∃ a, vs = [.ref a] ∧ ((∃ xs, SqL K H a xs ∧ R (Itl K a) H) ∨ (∃ xs, SqT K H a xs ∧ R (Itt K a) H))
theorem OwnL.at {G : Gc} {Y H : Hp} {ds : List D} {vs : List V} {i : Nat} {x : D} (h : OwnL G Y H ds vs []) (e : ds[i]? = some x) : ∃ v, vs[i]? = some v ∧ Own G Y H x v [] := OwnL.get h e
section
variable {G : Gc}
theorem seq_fits : fits G (rSeqI G.K) mkSeq := by
  intro ds vs Y H xs R ho hy hx q
  rcases mkSeq_some hx with rfl | ⟨f, rfl⟩
  · obtain ⟨v, r, rfl, h1, h2⟩ := OwnL.uncons ho
    obtain ⟨rfl, _⟩ := h2
    obtain ⟨a, ws, F', rfl, n, h3⟩ := h1
    rcases n with ⟨hs, _, rfl⟩ | ⟨z, _⟩
    · refine ⟨a, rfl, .inl ⟨ws, hy.seq (.inl hs), q _ H (Same.refl H) fun i H' y t => ⟨fun x e => ?_, fun hl => ?_⟩⟩⟩
      · obtain ⟨v, ev, hv⟩ := OwnL.at h3 e
        refine ⟨⟨ws, v, y.seq (.inl hs), ev⟩, fun w H2 yy => ?_⟩
        obtain ⟨rfl, yy⟩ := yy
        have := yy ws (y.seq (.inl hs))
        rw [ev] at this
        cases this
        exact ⟨Same.refl _, Own.keepT (Same.refl Y) t hv⟩
      · exact ⟨ws, y.seq (.inl hs), by rw [OwnL.length h3]; exact Nat.le_of_eq hl.symm⟩
    · cases z
  · obtain ⟨v, r, rfl, h1, h2⟩ := OwnL.uncons ho
    obtain ⟨rfl, _⟩ := h2
    obtain ⟨a, ws, rfl, e1, h3⟩ := h1
    refine ⟨a, rfl, .inr ⟨ws, e1.seq, q _ H (Same.refl H) fun i H' y t => ⟨fun x e => ?_, fun hl => ?_⟩⟩⟩
    · obtain ⟨v, ev, hv⟩ := OwnL.at h3 e
      refine ⟨⟨ws, v, (e1.keep t).seq, ev⟩, fun w H2 yy => ?_⟩
      obtain ⟨rfl, yy⟩ := yy
      have := yy ws ((e1.keep t).seq)
      rw [ev] at this
      cases this
      exact ⟨Same.refl _, Own.keepT (Same.refl Y) t hv⟩
    · exact ⟨ws, (e1.keep t).seq, by rw [OwnL.length h3]; exact Nat.le_of_eq hl.symm⟩
/-- a list or a tuple -/
theorem pi_any {X : Cx} {tg l : Expr} {tl : TE} (hl : PE X l tl) : PI X tg l (fun σ H R => tl σ H fun x H1 => rSeqI X.K [x] H1 R) := by
  refine ⟨fun ps st sg hp RR inv hh => ?_⟩
  refine thn (hl.run ps st sg hp _ inv hh) fun va sx ⟨y, hp1, J1, rr, qq⟩ => ?_
  obtain ⟨a, e, qq⟩ := qq
  cases e
  cases rr
  have fr : ∀ b, b ∈ [sx.heap.objs.size] → FpOk X ps hp1 b := fun b hb => by
    obtain rfl : b = sx.heap.objs.size := by simpa using hb
    exact J1.fpOk (Nat.le_refl _) (J1.hok.fresh (Nat.le_refl _))
  rcases qq with ⟨xs, hq, qq⟩ | ⟨xs, hq, qq⟩
  · obtain ⟨its, rv, pp, _⟩ := J1.list hq
    exact wpAny_pyIter_list pp.isList ⟨_, [_], _, _, hp1, rfl, J1.kept (t' := sx.toks) fun b o e => Heap.get?_push_of_some _ e, turn_list a _, ⟨_, Heap.get?_push_size _ rfl, rfl, rfl⟩, fr, qq⟩
  · obtain ⟨its, rv, pp, _⟩ := J1.tuple hq
    exact wpAny_pyIter_tuple (show sx.heap.IsTuple a its.toArray from pp) ⟨_, [_], _, _, hp1, rfl, J1.kept (t' := sx.toks) fun b o e => Heap.get?_push_of_some _ e, turn_tuple a _, ⟨_, Heap.get?_push_size _ rfl, rfl, rfl⟩, fr, qq⟩
theorem i_seq {W : Wsh} {X : Cx} {tg l : Expr} (op : Opn) (dx : DX X G) (hl : PE X l (op.te G W)) : PI X tg l (TSrc G W [op] mkSeq) :=
  src_ok (r := rSeqI X.K) (by rw [dx.K]; exact seq_fits) (pi_any hl)

/-- the whole numbers from lo on, n of them -/
def rngD (lo : Int) (n : Nat) : List D := (List.range n).map fun (i : Nat) => D.int (lo + (i : Int))
theorem rngD_length {lo : Int} {n : Nat} : (rngD lo n).length = n := by unfold rngD; simp
theorem rngD_at {lo : Int} {n i : Nat} {x : D} (h : (rngD lo n)[i]? = some x) : i < n ∧ x = .int (lo + (i : Int)) := by
  unfold rngD at h
  rw [List.getElem?_map] at h
  by_cases hi : i < n
  · rw [List.getElem?_range hi] at h
    exact ⟨hi, (Option.some.inj h).symm⟩
  · rw [List.getElem?_eq_none (by simpa using hi)] at h
    cases h
theorem range_iter {Y H : Hp} {lo : Int} {n : Nat} : IterOk G Y H (Itr lo n) (rngD lo n) := fun i H' y t => by
  refine ⟨fun x e => ?_, fun hl => ?_⟩
  · obtain ⟨hi, rfl⟩ := rngD_at e
    refine ⟨hi, fun v H2 yy => ?_⟩
    obtain ⟨rfl, rfl⟩ := yy
    exact ⟨Same.refl _, rfl, rfl⟩
  · rw [rngD_length] at hl
    exact Nat.le_of_eq hl.symm
def inRng (j : Int) : Bool := decide (j.natAbs < 4611686018427387904)
theorem inRng_ok {j : Int} (h : inRng j = true) : -(2 ^ 62) ≤ j ∧ j < 2 ^ 62 := by
  unfold inRng at h
  simp only [decide_eq_true_eq] at h
  omega
def mkRange1 : List D → Option (List D)
  | [d] => match d.toInt with
    | some j => if inRng j = true then some (rngD 0 j.toNat) else none
    | none => none
  | _ => none
def rRange1 : RI := fun vs H R => ∃ j : Int, vs = [.int j] ∧ -(2 ^ 62) ≤ j ∧ j < 2 ^ 62 ∧ R (Itr 0 j.toNat) H
theorem range1_fits : fits G rRange1 mkRange1 := by
  intro ds vs Y H xs R ho hy hx q
  unfold mkRange1 at hx
  split at hx
  · rename_i d
    split at hx
    · rename_i j hj
      obtain rfl := D.toInt_some hj
      split at hx
      · rename_i hr
        cases hx
        obtain ⟨v, r, rfl, h1, h2⟩ := OwnL.uncons ho
        obtain ⟨rfl, _⟩ := h2
        exact ⟨j, by rw [h1.1], (inRng_ok hr).1, (inRng_ok hr).2, q _ H (Same.refl H) range_iter⟩
      · cases hx
    · cases hx
  · cases hx
theorem i_range1 {W : Wsh} {X : Cx} {tg a : Expr} {ta : TA} {p pos : Pos} (ops : List Opn) (hg : Gl X "range") (hm : X.mg "range" = none) (ha : PA X [a] ta) (ht : ta = seqTE (ops.map (Opn.te G W)) := by rfl) (hs : starEach [a] X.env = [(false, eval a X.env)] := by rfl) : PI X tg (.Call (.Name "range" p) [a] [] pos) (TSrc G W ops mkRange1) :=
  src_ok range1_fits (by subst ht; exact pi_range1 hg hm ha hs)
end
section
variable {G : Gc}
def zipD : List D → List D → List D
  | x :: xs, y :: ys => .tup [x, y] :: zipD xs ys
  | _, _ => []
theorem zipD_length : ∀ (xs ys : List D), (zipD xs ys).length = min xs.length ys.length
  | [], ys => by simp [zipD]
  | x :: xs, [] => by simp [zipD]
  | x :: xs, y :: ys => by
    show (zipD xs ys).length + 1 = _
    rw [zipD_length xs ys, List.length_cons, List.length_cons]
    omega
theorem zipD_at : ∀ (xs ys : List D) (i : Nat) (z : D), (zipD xs ys)[i]? = some z → ∃ x y, xs[i]? = some x ∧ ys[i]? = some y ∧ z = .tup [x, y]
  | [], ys, i, z, h => by simp [zipD] at h
  | x :: xs, [], i, z, h => by simp [zipD] at h
  | x :: xs, y :: ys, 0, z, h => ⟨x, y, rfl, rfl, (Option.some.inj h).symm⟩
  | x :: xs, y :: ys, i + 1, z, h => zipD_at xs ys i z h
def D.toSeq : D → Option (List D)
  | .lst xs => some xs
  | .tupF _ xs => some xs
  | _ => none
def mkZip : List D → Option (List D)
  | [a, b] => match a.toSeq, b.toSeq with
    | some xs, some ys => some (zipD xs ys)
    | _, _ => none
  | _ => none
theorem mkZip_some {ds zs : List D} (h : mkZip ds = some zs) : ∃ a b xs ys, zs = zipD xs ys ∧ ds = [a, b] ∧ a.toSeq = some xs ∧ b.toSeq = some ys := by
  match ds, h with
  | [a, b], h =>
    have h : (match a.toSeq, b.toSeq with
      | some xs, some ys => some (zipD xs ys)
      | _, _ => none) = some zs := h
    cases ha : a.toSeq with
    | none => rw [ha] at h; cases h
    | some xs =>
      cases hb : b.toSeq with
      | none => rw [ha, hb] at h; cases h
      | some ys =>
        rw [ha, hb] at h
        cases h
        exact ⟨a, b, xs, ys, rfl, rfl, ha, hb⟩
theorem Own.sq {Y H : Hp} {d : D} {v : V} {ds : List D} (h : Own G Y H d v []) (e : d.toSeq = some ds) : ∃ k a vs, v = .ref a ∧ (∀ H', Same Y H' → TK H H' → Sq G.K k H' a vs) ∧ OwnL G Y H ds vs [] := by
  cases d with
  | lst xs =>
    cases e
    obtain ⟨a, ws, F', rfl, n, o⟩ := h
    rcases n with ⟨hs, _, rfl⟩ | ⟨z, _⟩
    · exact ⟨true, a, ws, rfl, fun H' y _ => y.seq (.inl hs), o⟩
    · cases z
  | tupF f xs =>
    cases e
    obtain ⟨a, ws, rfl, n, o⟩ := h
    exact ⟨false, a, ws, rfl, fun H' _ t => (n.keep t).seq, o⟩
  | _ => cases e
/-- a pair just laid -/
theorem pair_new {Y H H' : Hp} {x y : D} {u v : V} {T : Addr} (hT : H T = none) (e : H' = upd H T (.tup [u, v])) (h1 : Own G Y H x u []) (h2 : Own G Y H y v []) : Same H H' ∧ Own G Y H' (.tup [x, y]) (.ref T) [] := by
  subst e
  have s := same_upd (o := .tup [u, v]) hT
  exact ⟨s, T, [u, v], rfl, (upd_same : upd H T (.tup [u, v]) T = some (.tup [u, v])), OwnL.cons_nil (Own.keepT (Same.refl Y) (TK.of s) h1) (OwnL.cons_nil (Own.keepT (Same.refl Y) (TK.of s) h2) ⟨rfl, rfl⟩)⟩
theorem zip_fits : fits G (rZipX G.K) mkZip := by
  intro ds vs Y H zs R ho hy hx q
  obtain ⟨da, db, xs, ys, rfl, rfl, ea, eb⟩ := mkZip_some hx
  obtain ⟨v, r, rfl, h1, h2⟩ := OwnL.uncons ho
  obtain ⟨v2, r2, rfl, h3, h4⟩ := OwnL.uncons h2
  obtain ⟨rfl, _⟩ := h4
  obtain ⟨k1, a, ws, rfl, s1, o1⟩ := Own.sq h1 ea
  obtain ⟨k2, b, us, rfl, s2, o2⟩ := Own.sq h3 eb
  refine ⟨a, b, ws, us, k1, k2, rfl, s1 H hy (TK.of (Same.refl H)), s2 H hy (TK.of (Same.refl H)), q _ H (Same.refl H) fun i H' y t => ⟨fun z e => ?_, fun hl => ?_⟩⟩
  · obtain ⟨dx, dy, e1, e2, rfl⟩ := zipD_at _ _ _ _ e
    obtain ⟨vx, ex, hvx⟩ := OwnL.at o1 e1
    obtain ⟨vy, ey, hvy⟩ := OwnL.at o2 e2
    refine ⟨⟨ws, us, vx, vy, s1 H' y t, s2 H' y t, ex, ey⟩, fun w H2 yy => ?_⟩
    obtain ⟨T, x', y', rfl, hT, eH, f1, f2⟩ := yy
    have q1 := f1 ws (s1 H' y t)
    have q2 := f2 us (s2 H' y t)
    rw [ex] at q1
    rw [ey] at q2
    cases q1
    cases q2
    exact pair_new hT eH (Own.keepT (Same.refl Y) t hvx) (Own.keepT (Same.refl Y) t hvy)
  · rw [zipD_length] at hl
    refine ⟨ws, us, s1 H' y t, s2 H' y t, ?_⟩
    rw [OwnL.length o1, OwnL.length o2]
    exact hl
theorem i_zip {W : Wsh} {X : Cx} {elts : List Expr} {kk : Nat} {tpos : Pos} {e e2 : Expr} {ta : TA} {p pos : Pos} (ops : List Opn) (dx : DX X G) (hg : Gl X "zip") (hm : X.mg "zip" = none) (ha : PA X [e, e2] ta) (ht : ta = seqTE (ops.map (Opn.te G W)) := by rfl)
    (hs : starEach [e, e2] X.env = (false, eval e X.env) :: starEach [e2] X.env := by rfl) (hpl : (backTo pos (starEach [e2] X.env)).any (·.1) = false := by rfl) : PI X (.Tuple elts kk tpos) (.Call (.Name "zip" p) [e, e2] [] pos) (TSrc G W ops mkZip) :=
  src_ok (r := rZipX X.K) (by rw [dx.K]; exact zip_fits) (by subst ht; exact pi_zipX hg hm ha hs hpl)
end
structure Bnd (G : Gc) (B Z H : Hp) (σ : L2.St) (env : DEnv) (Fs : Nat → List Addr) (ts : List Nat) (σ1 : L2.St) (env1 : DEnv) (Fs1 : Nat → List Addr) : Prop where
  good : Good G B Z H σ1 env1 Fs1
  sub : ∀ a, InF Fs1 a → InF Fs a
  at_ : ∀ j, j ∉ ts → env1[j]? = env[j]? ∧ σ1[j]? = σ[j]?
  free : ∀ j, j ∈ ts → free? j env = true
  ln : env1.length = env.length
def BindOk (G : Gc) (ts : List Nat) (g : TG) (bind : D → DEnv → Option DEnv) : Prop := ∀ (B Z H : Hp) (σ : L2.St) (env : DEnv) (Fs : Nat → List Addr) (x : D) (v : V) (e : DEnv) (Q : L2.St → Hp → Prop), Good G B Z H σ env Fs → Own G (joi B Z) H x v [] → bind x env = some e → (∀ σ1 Fs1, Bnd G B Z H σ env Fs ts σ1 e Fs1 → Q σ1 H) → g v σ H Q
def bName (i : Nat) : D → DEnv → Option DEnv := fun x env => if free? i env = true then some (env.set i (some (if x.pure = true then .own else .brw, x))) else none
theorem free_not {i : Nat} {env : DEnv} (h : free? i env = true) : i < env.length ∧ (∀ d, env[i]? ≠ some (some (.io, d))) ∧ ∀ d, env[i]? ≠ some (some (.lck, d)) := by
  unfold free? at h
  refine ⟨?_, fun d q => (by rw [q] at h; cases h), fun d q => (by rw [q] at h; cases h)⟩
  cases q : env[i]? with
  | none => rw [q] at h; cases h
  | some s => exact (List.getElem?_eq_some_iff.mp q).1
section
variable {G : Gc}
theorem bind_name {i : Nat} : BindOk G [i] (gName i) (bName i) := by
  intro B Z H σ env Fs x v e Q g ho hb q
  unfold bName at hb
  split at hb
  · rename_i hf
    cases hb
    obtain ⟨hl, _, _⟩ := free_not hf
    have hlσ : i < σ.length := by rw [← g.len]; exact hl
    refine q _ (offF Fs i) ⟨⟨g.sb, g.sz, by rw [List.length_set, List.length_set]; exact g.len, fun j => ?_, fun j => ?_, fun j k a m n => ?_, fun j a m => ?_, g.z0, g.gb⟩, fun a m => inF_off m, fun j hj => ?_, fun j hj => by rw [List.mem_singleton.mp hj]; exact hf, by rw [List.length_set]⟩
    · by_cases hj : j = i
      · subst hj
        have eo : offF Fs j j = [] := by unfold offF; rw [if_pos rfl]
        rw [eo, List.getElem?_set_self hl, List.getElem?_set_self hlσ]
        by_cases hp : x.pure = true
        · rw [if_pos hp]
          exact ⟨v, rfl, (Own.ofPure x v [] hp ho).2⟩
        · rw [if_neg hp]
          exact ⟨v, rfl, ho, rfl⟩
      · have eo : offF Fs i j = Fs j := by unfold offF; rw [if_neg hj]
        rw [eo, List.getElem?_set_ne (fun z => hj z.symm), List.getElem?_set_ne (fun z => hj z.symm)]
        exact g.sl j
    · unfold offF; split; exact List.nodup_nil; exact g.nd j
    · unfold offF at m n
      split at m
      · cases m
      · split at n
        · cases n
        · exact g.dj j k a m n
    · unfold offF at m
      split at m
      · cases m
      · exact g.fr j a m
    · have hj : j ≠ i := by simpa using hj
      exact ⟨List.getElem?_set_ne (fun z => hj z.symm), List.getElem?_set_ne (fun z => hj z.symm)⟩
  · cases hb
/-- several targets -/
def BindsOk (G : Gc) (ts : List Nat) (g : TGs) (bind : List D → DEnv → Option DEnv) : Prop := ∀ (B Z H : Hp) (σ : L2.St) (env : DEnv) (Fs : Nat → List Addr) (xs : List D) (vs : List V) (e : DEnv) (Q : L2.St → Hp → Prop), Good G B Z H σ env Fs → OwnL G (joi B Z) H xs vs [] → bind xs env = some e → (∀ σ1 Fs1, Bnd G B Z H σ env Fs ts σ1 e Fs1 → Q σ1 H) → g vs σ H Q
def bNil : List D → DEnv → Option DEnv
  | [], env => some env
  | _, _ => none
def bCons (f : D → DEnv → Option DEnv) (h : List D → DEnv → Option DEnv) : List D → DEnv → Option DEnv
  | x :: xs, env => match f x env with
    | some e => h xs e
    | none => none
  | [], _ => none
def bTup (f : List D → DEnv → Option DEnv) : D → DEnv → Option DEnv := fun x env => match x.toTupA with
  | some xs => f xs env
  | none => none
theorem binds_nil : BindsOk G [] gNil bNil := by
  intro B Z H σ env Fs xs vs e Q g ho hb q
  unfold bNil at hb
  split at hb
  · cases hb
    obtain ⟨rfl, _⟩ := ho
    exact ⟨rfl, q σ Fs ⟨g, fun _ m => m, fun _ _ => ⟨rfl, rfl⟩, fun j hj => (by cases hj), rfl⟩⟩
  · cases hb
theorem free_back {env env1 : DEnv} {ts : List Nat} {j : Nat} (h1 : ∀ j, j ∉ ts → env1[j]? = env[j]?) (h2 : ∀ j, j ∈ ts → free? j env = true) (h : free? j env1 = true) : free? j env = true := by
  by_cases m : j ∈ ts
  · exact h2 j m
  · unfold free? at h ⊢
    rw [h1 j m] at h
    exact h
theorem binds_cons {ts ts2 : List Nat} {g : TG} {gs : TGs} {f : D → DEnv → Option DEnv} {h : List D → DEnv → Option DEnv} (h1 : BindOk G ts g f) (h2 : BindsOk G ts2 gs h) : BindsOk G (ts ++ ts2) (gCons g gs) (bCons f h) := by
  intro B Z H σ env Fs xs vs e Q gd ho hb q
  cases xs with
  | nil => cases hb
  | cons x xs' =>
    have hb : (match f x env with
      | some e => h xs' e
      | none => none) = some e := hb
    obtain ⟨v, r, rfl, o1, o2⟩ := OwnL.uncons ho
    cases hf : f x env with
    | none => rw [hf] at hb; cases hb
    | some e1 =>
      rw [hf] at hb
      refine ⟨v, r, rfl, h1 B Z H σ env Fs x v e1 _ gd o1 hf fun σ1 Fs1 b1 => ?_⟩
      refine h2 B Z H σ1 e1 Fs1 xs' r e Q b1.good o2 hb fun σ2 Fs2 b2 => ?_
      refine q σ2 Fs2 ⟨b2.good, fun a m => b1.sub a (b2.sub a m), fun j hj => ?_, fun j hj => ?_, b2.ln.trans b1.ln⟩
      · have hj : j ∉ ts ∧ j ∉ ts2 := by simpa using hj
        exact ⟨(b2.at_ j hj.2).1.trans (b1.at_ j hj.1).1, (b2.at_ j hj.2).2.trans (b1.at_ j hj.1).2⟩
      · rcases List.mem_append.mp hj with hj | hj
        · exact b1.free j hj
        · exact free_back (fun j n => (b1.at_ j n).1) b1.free (b2.free j hj)
theorem bind_tup {ts : List Nat} {gs : TGs} {f : List D → DEnv → Option DEnv} {n : Nat} {K : PySem.W.Frag} (hK : K = G.K) (h : BindsOk G ts gs f) (hn : ∀ xs env e, f xs env = some e → xs.length = n) : BindOk G ts (gTup K n gs) (bTup f) := by
  intro B Z H σ env Fs x v e Q gd ho hb q
  unfold bTup at hb
  cases hx : x.toTupA with
  | none => rw [hx] at hb; cases hb
  | some xs =>
    rw [hx] at hb
    obtain ⟨g, rfl⟩ := D.toTupA_some hx
    obtain ⟨a, vs, rfl, e1, o1⟩ := ho
    exact ⟨a, vs, rfl, e1.seq, by rw [OwnL.length o1]; exact hn _ _ _ hb, h B Z H σ env Fs xs vs e Q gd o1 hb q⟩
theorem bNil_len : ∀ xs env e, bNil xs env = some e → xs.length = 0
  | [], _, _, _ => rfl
  | _ :: _, _, _, h => by cases h
theorem bCons_len {f : D → DEnv → Option DEnv} {h : List D → DEnv → Option DEnv} {n : Nat} (hn : ∀ xs env e, h xs env = some e → xs.length = n) : ∀ xs env e, bCons f h xs env = some e → xs.length = n + 1
  | [], _, _, z => by cases z
  | x :: xs, env, e, z => by
    unfold bCons at z
    cases hf : f x env with
    | none => simp only [hf] at z; cases z
    | some e1 =>
      simp only [hf] at z
      rw [List.length_cons, hn xs e1 e z]
theorem dropS_at : ∀ {is : List Nat} {env env' : DEnv}, dropS is env = some env' → env'.length = env.length ∧ (∀ j, j ∉ is → env'[j]? = env[j]?) ∧ (∀ (j : Nat) (s : Md × D), j ∈ is → env'[j]? ≠ some (some s)) ∧ ∀ j, j ∈ is → free? j env = true
  | [], env, env', h => by
    cases h
    exact ⟨rfl, fun _ _ => rfl, fun j s m => (by cases m), fun j m => (by cases m)⟩
  | i :: r, env, env', h => by
    unfold dropS at h
    split at h
    · rename_i hf
      obtain ⟨h1, h2, h3, h4⟩ := dropS_at h
      have nn : ∀ j, j ≠ i → (env.set i none)[j]? = env[j]? := fun j hj => List.getElem?_set_ne (fun z => hj z.symm)
      refine ⟨h1.trans (by rw [List.length_set]), fun j hj => ?_, fun j s hj => ?_, fun j hj => ?_⟩
      · have hj : j ≠ i ∧ j ∉ r := by simpa using hj
        rw [h2 j hj.2, nn j hj.1]
      · by_cases hjr : j ∈ r
        · exact h3 j s hjr
        · rcases List.mem_cons.mp hj with rfl | hj
          · rw [h2 j hjr, List.getElem?_set_self']
            cases env[j]? <;> (intro z; cases z)
          · exact absurd hj hjr
      · by_cases hji : j = i
        · rw [hji]; exact hf
        · rcases List.mem_cons.mp hj with rfl | hj
          · exact hf
          · have := h4 j hj
            unfold free? at this ⊢
            rw [nn j hji] at this
            exact this
    · cases h
/-- a turn as a step: bound, run, forgotten -/
theorem Bnd.stp {B Z H Z2 H2 : Hp} {σ σ1 σ2 : L2.St} {env env1 e2 e3 : DEnv} {Fs Fs1 F2 : Nat → List Addr} {ts clr : List Nat} {P : Addr → Prop} (b : Bnd G B Z H σ env Fs ts σ1 env1 Fs1) (hP : ∀ a, InF Fs a → P a) (s : Stp G B Z H σ1 env1 (InF Fs1) Z2 H2 σ2 e2 F2) (hd : dropS clr e2 = some e3) (hc : ∀ j, j ∈ ts → j ∈ clr) :
    ∃ F3, Stp G B Z H σ env P Z2 H2 σ2 e3 F3 ∧ ∀ a, InF F3 a → InF F2 a := by
  obtain ⟨F3, s3, h3⟩ := Stp.drops (P := InF F2) s.good (fun _ m => m) hd
  obtain ⟨d1, d2, d3, d4⟩ := dropS_at hd
  have sub : ∀ a, InF Fs1 a → P a := fun a m => hP a (b.sub a m)
  have frt : ∀ j, j ∈ ts → (∀ d, env[j]? ≠ some (some (.io, d))) ∧ ∀ d, env[j]? ≠ some (some (.lck, d)) := fun j m => (free_not (b.free j m)).2
  have s13 := s.trans s.new s3
  refine ⟨F3, ⟨s13.zz, fun a o e n => s13.ext a o e fun m => n (sub a m), s13.good, fun a m => (s13.new a m).imp id (sub a), fun a m => (s13.newz a m).imp id fun z => z.imp id (sub a), fun j d e => ?_, fun j d e => ?_, fun j d e => ?_, fun j d e => ?_, s13.ln.trans b.ln⟩, h3⟩
  · by_cases m : j ∈ ts
    · exact absurd e ((frt j m).1 d)
    · have q := s13.io j d (by rw [(b.at_ j m).1]; exact e)
      exact ⟨q.1, q.2.trans (b.at_ j m).2⟩
  · by_cases m : j ∈ ts
    · exact absurd e ((frt j m).2 d)
    · have q := s13.lk j d (by rw [(b.at_ j m).1]; exact e)
      exact ⟨q.1, q.2.trans (b.at_ j m).2⟩
  · by_cases m : j ∈ ts
    · exact absurd e (d3 j _ (hc j m))
    · have q := s13.bw j d e
      exact ⟨by rw [← (b.at_ j m).1]; exact q.1, q.2.trans (b.at_ j m).2⟩
  · by_cases m : j ∈ ts
    · exact absurd e (d3 j _ (hc j m))
    · have q := s13.lb j d e
      exact ⟨by rw [← (b.at_ j m).1]; exact q.1, q.2.trans (b.at_ j m).2⟩
end
section
variable {G : Gc}
theorem Bnd.ag {B Z H : Hp} {σ σ1 σx : L2.St} {env env1 : DEnv} {Fs Fs1 : Nat → List Addr} {ts : List Nat} (b : Bnd G B Z H σ env Fs ts σ1 env1 Fs1) (h : AgL env1 σ1 σx) : AgL env σ σx := ⟨h.1.trans b.ln, fun j d e => by
  by_cases m : j ∈ ts
  · exact absurd e ((free_not (b.free j m)).2.2 d)
  · exact (h.2 j d (by rw [(b.at_ j m).1]; exact e)).trans (b.at_ j m).2⟩
end
def forD (bind : D → DEnv → Option DEnv) (clr : List Nat) (body : Stm) : List D → Stm
  | [], env => .ok (.nx env)
  | x :: xs, env => must (bind x env) fun e => body e >>= fun fl => match fl with
    | .nx e => must (dropS clr e) fun e => forD bind clr body xs e
    | .ct e => must (dropS clr e) fun e => forD bind clr body xs e
    | .bk e => must (dropS clr e) fun e => .ok (.nx e)
    | .rt d e => must (dropS clr e) fun e => .ok (.rt d e)
def unS (st : List DEnv) : Flw → Out Flw
  | .nx e => .ok (.nx (unlk st e))
  | .rt d e => .ok (.rt d (unlk st e))
  | _ => .bad
def sFor (ops : List Opn) (mk : List D → Option (List D)) (bind : D → DEnv → Option DEnv) (clr : List Nat) (body : Stm) : Stm := fun env => evO ops env >>= fun q => must (mk q.1) fun xs => forD bind clr body xs q.2.2 >>= unS q.2.1
section
variable {G : Gc} {X : Cx} {W : Wsh}
theorem FinS.unl {B Z H B1 Z1 H1 : Hp} {σ : L2.St} {env env1 : DEnv} {P : Addr → Prop} {Fs1 : Nat → List Addr} {st : List DEnv} {o : Out Flw} {En : Ends} (w : Unl G B Z H σ env P B1 Z1 H1 env1 Fs1 (unlk st)) (h : FinS G W B Z H σ env P (o >>= unS st) En) : FinS G W B1 Z1 H1 σ env1 (InF Fs1) o En := by
  unfold FinS at h ⊢
  match o, h with
  | .exc c, h =>
    obtain ⟨F3, s3, _⟩ := w.out _ _ _ _ _ (Stp.refl w.good fun _ m => m)
    exact fun σ' ag H' hs => h σ' ⟨ag.1.trans (w.good.len.trans (s3.good.len.symm.trans s3.ln)), fun j d e => ag.2 j d (unlk_lck st env1 (s3.lk j d e).1)⟩ H' (w.bb.trans hs)
  | .ok (.nx e), h =>
    intro σ' Z' H' Fs' s
    obtain ⟨F3, s3, _⟩ := w.out _ _ _ _ _ s
    exact h σ' Z' H' F3 s3
  | .ok (.rt d e), h =>
    intro σ' v Z' H' Fs' F p
    obtain ⟨F3, s3, h3⟩ := w.out _ _ _ _ _ p.st
    exact h σ' v Z' H' F3 F ⟨s3, p.own, p.nd, fun a m => (h3 a (p.dj a m) (p.fr a m).1).1, fun a m => ⟨(h3 a (p.dj a m) (p.fr a m).1).2, (p.fr a m).2⟩, fun a m => w.hh a (p.new a m)⟩
theorem drop_get {α : Type} {xs : List α} {i : Nat} (h : i < xs.length) : xs.drop i = xs[i] :: xs.drop (i + 1) := List.drop_eq_getElem_cons h
theorem s_for {iter tg : Expr} {g : TG} {body : List Stmt} {pos : Pos} {ops : List Opn} {mk : List D → Option (List D)} {bind : D → DEnv → Option DEnv} {ts : List Nat} {fb : Stm} (clr : List Nat) (dx : DX X G) (hp : PassesOwn (model X.prog X.w) X.A X.env X.xe) (hi : PI X tg iter (TSrc G W ops mk)) (hg : PG X tg g) (hbk : BindOk G ts g bind) (hb : PSs X body (TSt G W fb))
    (hc : ts.all (fun j => clr.contains j) = true := by rfl) (hs : ∀ x, foldedSetIterable iter X.env x = pure x := by intro _; rfl) (hcl : X.calm = true := by rfl) : PS X (.For tg iter body [] pos) (TSt G W (sFor ops mk bind clr fb)) :=
  (ps_for hp hcl hi hg hb hs).imp fun En σ H ⟨B, Z, Fs, env, gd, q⟩ => by
    have hcl : ∀ j, j ∈ ts → j ∈ clr := fun j m => by
      have := List.all_eq_true.mp hc j m
      simpa using this
    refine ⟨B, Z, Fs, env, gd, ?_⟩
    unfold sFor at q
    cases hr : evO ops env with
    | bad => rw [hr] at q; exact q.elim
    | exc c => rw [hr] at q; exact q σ (AgL.refl gd)
    | ok p =>
      obtain ⟨ds, st, env1⟩ := p
      rw [hr] at q
      have q : FinS G W B Z H σ env (InF Fs) (must (mk ds) fun xs => forD bind clr fb xs env1 >>= unS st) En := q
      show ∃ xs, mk ds = some xs ∧ _
      cases hx : mk ds with
      | none => rw [hx] at q; exact q.elim
      | some xs =>
        rw [hx] at q
        refine ⟨xs, rfl, fun B1 Z1 H1 Fs1 J w hj => ?_⟩
        have q1 := FinS.unl w q
        have hy : Same (joi B1 Z1) H1 := joi_le w.good.sb w.good.sz
        refine ⟨fun i m σ' H' => m = xs.length - i ∧ i ≤ xs.length ∧ ∃ Z2 Fs2 e2, Good G B1 Z2 H' σ' e2 Fs2 ∧ Same Z1 Z2 ∧ TK H1 H' ∧ FinS G W B1 Z2 H' σ' e2 (InF Fs2) (forD bind clr fb (xs.drop i) e2) En, ⟨xs.length, rfl, Nat.zero_le _, Z1, Fs1, env1, w.good, Same.refl _, TK.of (Same.refl _), q1⟩, ?_⟩
        rintro i m σ' H' ⟨rfl, hi, Z2, Fs2, e2, g2, z12, tk2, q2⟩
        have y2 : Same (joi B1 Z1) H' := joi_le g2.sb (z12.trans g2.sz)
        obtain ⟨ji, js⟩ := hj i H' y2 tk2
        by_cases hlt : i < xs.length
        · obtain ⟨go, yl⟩ := ji xs[i] (List.getElem?_eq_getElem hlt)
          rw [drop_get hlt] at q2
          refine .inr ⟨go, fun σ' H' => ∃ Z2 Fs2 e2, Good G B1 Z2 H' σ' e2 Fs2 ∧ Same Z1 Z2 ∧ TK H1 H' ∧ FinS G W B1 Z2 H' σ' e2 (InF Fs2) (forD bind clr fb (xs.drop (i + 1)) e2) En, fun σ3 H3 n3 => ⟨xs.length - (i + 1), by omega, rfl, hlt, n3⟩, fun v H3 y3 => ?_⟩
          obtain ⟨hs3, ov⟩ := yl v H3 y3
          have g3 := g2.grow hs3
          have q3 : FinS G W B1 Z2 H3 σ' e2 (InF Fs2) (must (bind xs[i] e2) fun e => fb e >>= fun fl => match fl with
              | .nx e => must (dropS clr e) fun e => forD bind clr fb (xs.drop (i + 1)) e
              | .ct e => must (dropS clr e) fun e => forD bind clr fb (xs.drop (i + 1)) e
              | .bk e => must (dropS clr e) fun e => .ok (.nx e)
              | .rt d e => must (dropS clr e) fun e => .ok (.rt d e)) En := FinS.later (Stp.grow (P := InF Fs2) g2 (fun _ m => m) hs3) (fun a m => .inr m) q2
          cases hbd : bind xs[i] e2 with
          | none => rw [hbd] at q3; exact q3.elim
          | some e4 =>
            rw [hbd, must_some] at q3
            refine hbk B1 Z2 H3 σ' e2 Fs2 xs[i] v e4 _ g3 (Own.keepT (joi_mono (Same.refl B1) z12 g3.sb g3.sz) (TK.of (Same.refl _)) ov) hbd fun σ4 Fs4 b4 => ?_
            refine ⟨B1, Z2, Fs4, e4, b4.good, ?_⟩
            unfold FinS
            cases hfb : fb e4 with
            | bad => rw [hfb] at q3; exact q3.elim
            | exc c => rw [hfb] at q3; exact fun σx ag => q3 σx (b4.ag ag)
            | ok fl =>
              rw [hfb] at q3
              cases fl with
              | nx e5 =>
                intro σ6 Z6 H6 F6 s6
                have q3 : FinS G W B1 Z2 H3 σ' e2 (InF Fs2) (must (dropS clr e5) fun e => forD bind clr fb (xs.drop (i + 1)) e) En := q3
                cases hdr : dropS clr e5 with
                | none => rw [hdr] at q3; exact q3.elim
                | some e7 =>
                  rw [hdr] at q3
                  obtain ⟨F7, s7, _⟩ := b4.stp (P := InF Fs2) (fun _ m => m) s6 hdr hcl
                  exact ⟨Z6, F7, e7, s7.good, z12.trans s7.zz, tk2.trans ((TK.of hs3).trans (s7.tk g3.pm)), FinS.later s7 s7.new q3⟩
              | ct e5 =>
                intro σ6 Z6 H6 F6 s6
                have q3 : FinS G W B1 Z2 H3 σ' e2 (InF Fs2) (must (dropS clr e5) fun e => forD bind clr fb (xs.drop (i + 1)) e) En := q3
                cases hdr : dropS clr e5 with
                | none => rw [hdr] at q3; exact q3.elim
                | some e7 =>
                  rw [hdr] at q3
                  obtain ⟨F7, s7, _⟩ := b4.stp (P := InF Fs2) (fun _ m => m) s6 hdr hcl
                  exact ⟨Z6, F7, e7, s7.good, z12.trans s7.zz, tk2.trans ((TK.of hs3).trans (s7.tk g3.pm)), FinS.later s7 s7.new q3⟩
              | bk e5 =>
                intro σ6 Z6 H6 F6 s6
                have q3 : FinS G W B1 Z2 H3 σ' e2 (InF Fs2) (must (dropS clr e5) fun e => .ok (.nx e)) En := q3
                cases hdr : dropS clr e5 with
                | none => rw [hdr] at q3; exact q3.elim
                | some e7 =>
                  rw [hdr] at q3
                  obtain ⟨F7, s7, _⟩ := b4.stp (P := InF Fs2) (fun _ m => m) s6 hdr hcl
                  exact q3 σ6 Z6 H6 F7 s7
              | rt d e5 =>
                intro σ6 v6 Z6 H6 F6 F p6
                have q3 : FinS G W B1 Z2 H3 σ' e2 (InF Fs2) (must (dropS clr e5) fun e => .ok (.rt d e)) En := q3
                cases hdr : dropS clr e5 with
                | none => rw [hdr] at q3; exact q3.elim
                | some e7 =>
                  rw [hdr] at q3
                  obtain ⟨F7, s7, h7⟩ := b4.stp (P := InF Fs2) (fun _ m => m) p6.st hdr hcl
                  exact q3 σ6 v6 Z6 H6 F7 F ⟨s7, p6.own, p6.nd, fun a m n => p6.dj a m (h7 a n), p6.fr, fun a m => (p6.new a m).imp id (b4.sub a)⟩
        · have e : i = xs.length := by omega
          subst e
          rw [List.drop_length] at q2
          exact .inl ⟨js rfl, q2 σ' Z2 H' Fs2 (Stp.refl g2 fun _ m => m)⟩

def whileN (c : DEnv → Out (Bool × DEnv)) (body : Stm) : Nat → Stm
  | 0, _ => .bad
  | n + 1, env => c env >>= fun p => if p.1 = true then body p.2 >>= fun fl => match fl with
      | .nx e => whileN c body n e
      | .ct e => whileN c body n e
      | .bk e => .ok (.nx e)
      | .rt d e => .ok (.rt d e)
    else .ok (.nx p.2)
open Classical in
/-- what some number of turns comes to -/
noncomputable def sWhile (c : DEnv → Out (Bool × DEnv)) (body : Stm) : Stm := fun env => if h : ∃ n, whileN c body n env ≠ .bad then whileN c body h.choose env else .bad
theorem whileN_mono {c : DEnv → Out (Bool × DEnv)} {body : Stm} : ∀ (n : Nat) (env : DEnv), whileN c body n env ≠ .bad → whileN c body (n + 1) env = whileN c body n env
  | 0, env, h => absurd rfl h
  | n + 1, env, h => by
    have e1 : ∀ k, whileN c body (k + 1) env = (c env >>= fun p => if p.1 = true then body p.2 >>= fun fl => match fl with
      | .nx e => whileN c body k e
      | .ct e => whileN c body k e
      | .bk e => .ok (.nx e)
      | .rt d e => .ok (.rt d e)
    else .ok (.nx p.2)) := fun k => rfl
    rw [e1] at h
    rw [e1 (n + 1), e1 n]
    cases hc : c env with
    | bad => rfl
    | exc x => rfl
    | ok p =>
      rw [hc] at h
      simp only [Out.bind_ok] at h ⊢
      split
      · rename_i hp
        rw [if_pos hp] at h
        cases hb : body p.2 with
        | bad => rfl
        | exc x => rfl
        | ok fl =>
          rw [hb] at h
          cases fl with
          | nx e => exact whileN_mono n e h
          | ct e => exact whileN_mono n e h
          | bk e => rfl
          | rt d e => rfl
      · rfl
theorem whileN_le {c : DEnv → Out (Bool × DEnv)} {body : Stm} {n : Nat} {env : DEnv} (h : whileN c body n env ≠ .bad) : ∀ k, whileN c body (n + k) env = whileN c body n env
  | 0 => rfl
  | k + 1 => by
    have ih := whileN_le h k
    rw [← Nat.add_assoc, whileN_mono _ _ (by rw [ih]; exact h), ih]
theorem sWhile_of {c : DEnv → Out (Bool × DEnv)} {body : Stm} {n : Nat} {env : DEnv} {o : Out Flw} (h : whileN c body n env = o) (ho : o ≠ .bad) : sWhile c body env = o := by
  have hx : ∃ n, whileN c body n env ≠ .bad := ⟨n, by rw [h]; exact ho⟩
  unfold sWhile
  rw [dif_pos hx]
  have h1 := whileN_le (n := n) (env := env) (c := c) (body := body) (by rw [h]; exact ho) hx.choose
  have h2 := whileN_le hx.choose_spec n
  rw [Nat.add_comm] at h2
  rw [← h2, h1, h]
theorem sWhile_ok {c : DEnv → Out (Bool × DEnv)} {body : Stm} {env : DEnv} (h : sWhile c body env ≠ .bad) : ∃ n, whileN c body n env = sWhile c body env := by
  unfold sWhile at h ⊢
  split
  · rename_i hx
    exact ⟨_, rfl⟩
  · rename_i hx
    rw [dif_neg hx] at h
    exact absurd rfl h
theorem s_while {c : Expr} {body : List Stmt} {pos : Pos} {fc : DEnv → Out (Bool × DEnv)} {fb : Stm} (hp : PassesOwn (model X.prog X.w) X.A X.env X.xe) (hcc : PT X c (TB G W fc)) (hb : PSs X body (TSt G W fb)) : PS X (.While c body [] pos) (TSt G W (sWhile fc fb)) :=
  (ps_while hp hcc hb).imp fun En σ H ⟨B, Z, Fs, env, gd, q⟩ => by
    have nb : sWhile fc fb env ≠ .bad := fun e => by rw [e] at q; exact q
    obtain ⟨n, en⟩ := sWhile_ok nb
    rw [← en] at q
    refine ⟨fun m σ' H' => ∃ Z2 Fs2 e2, Good G B Z2 H' σ' e2 Fs2 ∧ FinS G W B Z2 H' σ' e2 (InF Fs2) (whileN fc fb m e2) En, ⟨n, Z, Fs, env, gd, q⟩, ?_⟩
    rintro m σ1 H1 ⟨Z2, Fs2, e2, g2, q2⟩
    cases m with
    | zero => exact q2.elim
    | succ m =>
      refine ⟨B, Z2, Fs2, e2, g2, ?_⟩
      have q2 : FinS G W B Z2 H1 σ1 e2 (InF Fs2) (fc e2 >>= fun p => if p.1 = true then fb p.2 >>= fun fl => match fl with
        | .nx e => whileN fc fb m e
        | .ct e => whileN fc fb m e
        | .bk e => .ok (.nx e)
        | .rt d e => .ok (.rt d e)
      else .ok (.nx p.2)) En := q2
      unfold FinB
      cases hc : fc e2 with
      | bad => rw [hc] at q2; exact q2.elim
      | exc x => rw [hc] at q2; exact q2 σ1 (AgL.refl g2)
      | ok p =>
        obtain ⟨b, e3⟩ := p
        rw [hc] at q2
        simp only [Out.bind_ok] at q2
        intro Z3 H3 Fs3 s3
        cases b with
        | false =>
          rw [if_neg Bool.false_ne_true] at q2 ⊢
          exact q2 σ1 Z3 H3 Fs3 s3
        | true =>
          rw [if_pos rfl] at q2 ⊢
          refine ⟨fun σ' H' => ∃ Z2 Fs2 e2, Good G B Z2 H' σ' e2 Fs2 ∧ FinS G W B Z2 H' σ' e2 (InF Fs2) (whileN fc fb m e2) En, fun σ' H' n' => ⟨m, Nat.lt_succ_self m, n'⟩, ?_⟩
          refine ⟨B, Z3, Fs3, e3, s3.good, ?_⟩
          have q3 := FinS.later s3 s3.new q2
          unfold FinS at q3 ⊢
          cases hb : fb e3 with
          | bad => rw [hb] at q3; exact q3.elim
          | exc x => rw [hb] at q3; exact q3
          | ok fl =>
            rw [hb] at q3
            cases fl with
            | nx e4 => exact fun σ4 Z4 H4 F4 s4 => ⟨Z4, F4, e4, s4.good, FinS.later s4 s4.new q3⟩
            | ct e4 => exact fun σ4 Z4 H4 F4 s4 => ⟨Z4, F4, e4, s4.good, FinS.later s4 s4.new q3⟩
            | bk e4 => exact q3
            | rt d e4 => exact q3
end
end DL
namespace DL
open PySem PySem.Spec PyProof.Rows L2
def hid? (i : Nat) (env : DEnv) : Bool := match env[i]? with
  | some none => true
  | some (some (.own, d)) => d.pure
  | _ => false
/-- the block's own slots put aside -/
def hideS : List Nat → DEnv → Option DEnv
  | [], env => some env
  | v :: r, env => match hideS r env with
    | some e => if hid? v e = true then some (e.set v none) else none
    | none => none
/-- .. and back -/
def backS : List Nat → DEnv → DEnv → DEnv
  | [], _, e => e
  | v :: r, env0, e => (backS r env0 e).set v (env0[v]?.getD none)
def lcG (bind : D → DEnv → Option DEnv) (cond : DEnv → Out (Bool × DEnv)) (elt : DEnv → Out (D × DEnv)) (clr : List Nat) : List D → DEnv → Out (List D × DEnv)
  | [], env => .ok ([], env)
  | x :: xs, env => must (bind x env) fun e => cond e >>= fun p => if p.1 = true then elt p.2 >>= fun q => must (dropS clr q.2) fun e2 => lcG bind cond elt clr xs e2 >>= fun r => .ok (q.1 :: r.1, r.2)
      else must (dropS clr p.2) fun e2 => lcG bind cond elt clr xs e2
def noEx {α : Type} (o : Out α) : Option α := match o with
  | .ok a => some a
  | _ => none
theorem noEx_some {α : Type} {o : Out α} {a : α} (h : noEx o = some a) : o = .ok a := by
  cases o with
  | ok b => cases h; rfl
  | exc c => cases h
  | bad => cases h
def lcE (ops : List Opn) (mk : List D → Option (List D)) (bind : D → DEnv → Option DEnv) (cond : DEnv → Out (Bool × DEnv)) (elt : DEnv → Out (D × DEnv)) (vs : List Nat) : DEnv → Out (D × DEnv) := fun env =>
  evO ops env >>= fun q => must (mk q.1) fun xs => must (hideS vs q.2.2) fun e0 => if xs.length < 16777216 then must (noEx (lcG bind cond elt vs xs e0)) fun r => .ok (.lst r.1, unlk q.2.1 (backS vs q.2.2 r.2)) else .bad
def eYes : DEnv → Out (Bool × DEnv) := fun env => .ok (true, env)

section
variable {G : Gc} {B Z H Z2 H2 : Hp} {σ σ2 : L2.St} {env e0 e2 : DEnv} {Fs F2 : Nat → List Addr} {P : Addr → Prop}
theorem set_self {α : Type} {l : List α} {i : Nat} {a : α} : ∀ j, (l.set i a)[j]? = if i = j then (if j < l.length then some a else none) else l[j]? := fun j => by
  by_cases h : i = j
  · subst h
    rw [if_pos rfl, List.getElem?_set_self']
    by_cases hl : i < l.length
    · rw [if_pos hl, List.getElem?_eq_getElem hl]; rfl
    · rw [if_neg hl, List.getElem?_eq_none (by omega)]; rfl
  · rw [if_neg h, List.getElem?_set_ne h]
theorem wipe_at : ∀ (vs : List Nat) (σ : L2.St) (j : Nat), (wipe σ vs)[j]? = if j ∈ vs then (if j < σ.length then some none else none) else σ[j]?
  | [], σ, j => by simp [wipe]
  | v :: vs, σ, j => by
    have ih := wipe_at vs σ j
    show ((wipe σ vs).set v none)[j]? = _
    rw [set_self, wipe_length]
    by_cases h : v = j
    · subst h
      rw [if_pos rfl, if_pos List.mem_cons_self]
    · rw [if_neg h, ih]
      by_cases m : j ∈ vs
      · rw [if_pos m, if_pos (List.mem_cons_of_mem _ m)]
      · rw [if_neg m, if_neg (by simp only [List.mem_cons, not_or]; exact ⟨fun z => h z.symm, m⟩)]
theorem wipe_ext {vs : List Nat} {σ σ1 : L2.St} (hl : σ1.length = σ.length) (h : ∀ j, j ∉ vs → σ1[j]? = σ[j]?) : wipe σ1 vs = wipe σ vs := by
  apply List.ext_getElem?
  intro j
  rw [wipe_at, wipe_at, hl]
  split
  · rfl
  · rename_i m; exact h j m
theorem hideS_at : ∀ {vs : List Nat} {env e0 : DEnv}, hideS vs env = some e0 → e0.length = env.length ∧ (∀ j, j ∉ vs → e0[j]? = env[j]?) ∧ (∀ j, j ∈ vs → e0[j]? = some none ∧ (env[j]? = some none ∨ ∃ d, env[j]? = some (some (Md.own, d)) ∧ d.pure = true))
  | [], env, e0, h => by
    cases h
    exact ⟨rfl, fun _ _ => rfl, fun j m => (by cases m)⟩
  | v :: r, env, e0, h => by
    unfold hideS at h
    cases he : hideS r env with
    | none => rw [he] at h; cases h
    | some e =>
      rw [he] at h
      obtain ⟨h1, h2, h3⟩ := hideS_at he
      by_cases hh : hid? v e = true
      · have h : (if hid? v e = true then some (e.set v none) else none) = some e0 := h
        rw [if_pos hh] at h
        cases h
        have hv : e[v]? = some none ∨ ∃ d, e[v]? = some (some (Md.own, d)) ∧ d.pure = true := by
          unfold hid? at hh
          cases q : e[v]? with
          | none => rw [q] at hh; cases hh
          | some s =>
            rw [q] at hh
            match s, hh with
            | none, _ => exact .inl rfl
            | some (.own, d), hh => exact .inr ⟨d, rfl, hh⟩
        have hvl : v < e.length := by
          rcases hv with z | ⟨d, z, _⟩
          · exact (List.getElem?_eq_some_iff.mp z).1
          · exact (List.getElem?_eq_some_iff.mp z).1
        refine ⟨by rw [List.length_set, h1], fun j hj => ?_, fun j hj => ?_⟩
        · have hj : j ≠ v ∧ j ∉ r := by simpa using hj
          rw [List.getElem?_set_ne (fun z => hj.1 z.symm), h2 j hj.2]
        · by_cases hjv : v = j
          · subst hjv
            refine ⟨List.getElem?_set_self hvl, ?_⟩
            by_cases hr : v ∈ r
            · exact (h3 v hr).2
            · rw [h2 v hr] at hv; exact hv
          · rcases List.mem_cons.mp hj with z | hj
            · exact absurd z.symm hjv
            · exact ⟨by rw [List.getElem?_set_ne hjv]; exact (h3 j hj).1, (h3 j hj).2⟩
      · have h : (if hid? v e = true then some (e.set v none) else none) = some e0 := h
        rw [if_neg hh] at h
        cases h
theorem backS_len : ∀ (vs : List Nat) (env0 e : DEnv), (backS vs env0 e).length = e.length
  | [], _, _ => rfl
  | v :: r, env0, e => by
    show ((backS r env0 e).set v _).length = _
    rw [List.length_set, backS_len]
theorem backS_at : ∀ (vs : List Nat) (env0 e : DEnv) (j : Nat), (backS vs env0 e)[j]? = if j ∈ vs then (if j < e.length then some (env0[j]?.getD none) else none) else e[j]?
  | [], env0, e, j => by simp [backS]
  | v :: r, env0, e, j => by
    have ih := backS_at r env0 e j
    show ((backS r env0 e).set v _)[j]? = _
    rw [set_self, backS_len]
    by_cases h : v = j
    · subst h
      rw [if_pos rfl, if_pos List.mem_cons_self]
    · rw [if_neg h, ih]
      by_cases m : j ∈ r
      · rw [if_pos m, if_pos (List.mem_cons_of_mem _ m)]
      · rw [if_neg m, if_neg (by simp only [List.mem_cons, not_or]; exact ⟨fun z => h z.symm, m⟩)]
theorem Good.hide {vs : List Nat} (g : Good G B Z H σ env Fs) (h : hideS vs env = some e0) : Good G B Z H (wipe σ vs) e0 Fs := by
  obtain ⟨h1, h2, h3⟩ := hideS_at h
  refine ⟨g.sb, g.sz, by rw [h1, wipe_length]; exact g.len, fun j => ?_, g.nd, g.dj, g.fr, g.z0, g.gb⟩
  rw [wipe_at]
  by_cases m : j ∈ vs
  · rw [(h3 j m).1]
    have q := g.sl j
    rcases (h3 j m).2 with z | ⟨d, z, hp⟩
    · rw [z] at q; exact q
    · rw [z] at q
      obtain ⟨v, _, ho⟩ := q
      exact (Own.ofPure (Z' := Z) d v _ hp ho).1
  · rw [if_neg m, h2 j m]
    exact g.sl j
/-- slots of which nothing is known: the names may point anywhere -/
theorem Stp.wipeEnd {vs : List Nat} {e3 : DEnv} {F3 : Nat → List Addr} (s : Stp G B Z H σ env P Z2 H2 σ2 e3 F3) (hv : ∀ v, v ∈ vs → ∀ t : Md × D, e3[v]? ≠ some (some t)) : Stp G B Z H σ env P Z2 H2 (wipe σ2 vs) e3 F3 := by
  have g := s.good
  have out : ∀ j (t : Md × D), e3[j]? = some (some t) → (wipe σ2 vs)[j]? = σ2[j]? := fun j t e => by
    rw [wipe_at, if_neg fun m => hv j m t e]
  refine ⟨s.zz, s.ext, ⟨g.sb, g.sz, by rw [wipe_length]; exact g.len, fun j => ?_, g.nd, g.dj, g.fr, g.z0, g.gb⟩, s.new, s.newz, fun j d e => ?_, fun j d e => ?_, fun j d e => ?_, fun j d e => ?_, s.ln⟩
  · have q := g.sl j
    cases he : e3[j]? with
    | none => rw [he] at q; exact q
    | some t =>
      cases t with
      | none => rw [he] at q; exact q
      | some t => rw [out j t he, ← he]; exact q
  · obtain ⟨⟨d', q⟩, z⟩ := s.io j d e
    exact ⟨⟨d', q⟩, (out j _ q).trans z⟩
  · obtain ⟨q, z⟩ := s.lk j d e
    exact ⟨q, (out j _ q).trans z⟩
  · obtain ⟨q, z⟩ := s.bw j d e
    exact ⟨q, (out j _ e).trans z⟩
  · obtain ⟨q, z⟩ := s.lb j d e
    exact ⟨q, (out j _ e).trans z⟩
/-- what a block did, seen from outside -/
theorem Stp.back {vs : List Nat} (g : Good G B Z H σ env Fs) (pm : PMut H P) (h : hideS vs env = some e0) (s : Stp G B Z H (wipe σ vs) e0 P Z2 H2 (wipe σ vs) e2 F2) (hv : ∀ v, v ∈ vs → ∀ t : Md × D, e2[v]? ≠ some (some t)) : Stp G B Z H σ env P Z2 H2 σ (backS vs env e2) F2 := by
  obtain ⟨h1, h2, h3⟩ := hideS_at h
  have gl := s.good
  have le : e2.length = env.length := s.ln.trans h1
  have at_out : ∀ j, j ∉ vs → (backS vs env e2)[j]? = e2[j]? := fun j m => by rw [backS_at, if_neg m]
  have at_in : ∀ j, j ∈ vs → (backS vs env e2)[j]? = env[j]? := fun j m => by
    have hj : j < env.length := by
      rcases (h3 j m).2 with z | ⟨d, z, _⟩
      · exact (List.getElem?_eq_some_iff.mp z).1
      · exact (List.getElem?_eq_some_iff.mp z).1
    rw [backS_at, if_pos m, if_pos (by rw [le]; exact hj), List.getElem?_eq_getElem hj]
    rfl
  have nio : ∀ j, j ∈ vs → ∀ (m : Md) (d : D), m ≠ .own → env[j]? ≠ some (some (m, d)) := fun j hj m d hm e => by
    rcases (h3 j hj).2 with z | ⟨d', z, _⟩
    · rw [z] at e; cases e
    · rw [z] at e; cases e; exact hm rfl
  have wo : ∀ j, j ∉ vs → (wipe σ vs)[j]? = σ[j]? := fun j m => by rw [wipe_at, if_neg m]
  refine ⟨s.zz, s.ext, ⟨gl.sb, gl.sz, by rw [backS_len, le]; exact g.len, fun j => ?_, gl.nd, gl.dj, gl.fr, gl.z0, gl.gb⟩, s.new, s.newz, fun j d e => ?_, fun j d e => ?_, fun j d e => ?_, fun j d e => ?_, by rw [backS_len, le]⟩
  · by_cases m : j ∈ vs
    · rw [at_in j m]
      have f0 : F2 j = [] := by
        have q := gl.sl j
        cases he : e2[j]? with
        | none => rw [he] at q; exact q
        | some t =>
          cases t with
          | none => rw [he] at q; exact q
          | some t => exact absurd he (hv j m t)
      rw [f0]
      have q := g.sl j
      rcases (h3 j m).2 with z | ⟨d, z, hp⟩
      · rw [z]; rfl
      · rw [z] at q ⊢
        obtain ⟨v, ev, ho⟩ := q
        exact ⟨v, ev, Own.keepT (Same.refl _) (s.tk pm) (Own.ofPure (Z' := Z2) d v _ hp ho).2⟩
    · rw [at_out j m, ← wo j m]
      exact gl.sl j
  · by_cases m : j ∈ vs
    · exact absurd e (nio j m _ d (by decide))
    · obtain ⟨⟨d', q⟩, z⟩ := s.io j d (by rw [h2 j m]; exact e)
      exact ⟨⟨d', by rw [at_out j m]; exact q⟩, rfl⟩
  · by_cases m : j ∈ vs
    · exact absurd e (nio j m _ d (by decide))
    · obtain ⟨q, z⟩ := s.lk j d (by rw [h2 j m]; exact e)
      exact ⟨by rw [at_out j m]; exact q, rfl⟩
  · by_cases m : j ∈ vs
    · rw [at_in j m] at e
      exact absurd e (nio j m _ d (by decide))
    · rw [at_out j m] at e
      obtain ⟨q, z⟩ := s.bw j d e
      exact ⟨by rw [← h2 j m]; exact q, rfl⟩
  · by_cases m : j ∈ vs
    · rw [at_in j m] at e
      exact absurd e (nio j m _ d (by decide))
    · rw [at_out j m] at e
      obtain ⟨q, z⟩ := s.lb j d e
      exact ⟨by rw [← h2 j m]; exact q, rfl⟩
/-- a thing of nobody's is written -/
theorem Stp.priv {a : Addr} {ws : List V} {o : HO} (s : Stp G B Z H σ env P Z2 H2 σ2 e2 F2) (g : Same B H) (hn : H a = none) (hf : ¬ InF F2 a) (ha : H2 a = some (.lst ws)) : Stp G B Z H σ env P Z2 (upd H2 a o) σ2 e2 F2 := by
  have gl := s.good
  have bn : B a = none := by
    cases q : B a with
    | none => rfl
    | some u =>
      have := g a u q
      rw [hn] at this; cases this
  have sb : Same B (upd H2 a o) := fun b u e => by
    rw [upd_ne (fun z => by rw [z, bn] at e; cases e)]
    exact gl.sb b u e
  have sz : Same Z2 (upd H2 a o) := fun b u e => by rw [gl.z0] at e; cases e
  refine ⟨s.zz, fun b u e n => ?_, ⟨sb, sz, gl.len, fun j => (gl.sl j).keep gl.sb gl.sz sb sz (Same.refl _) fun b u e m => ?_, gl.nd, gl.dj, gl.fr, gl.z0, gl.gb⟩, s.new, s.newz, s.io, s.lk, s.bw, s.lb, s.ln⟩
  · rw [upd_ne (fun z => by rw [z, hn] at e; cases e)]
    exact s.ext b u e n
  · rw [upd_ne (fun z => ?_)]
    · exact e
    · rw [z] at m e
      rcases m with m | nm
      · exact hf ⟨j, m⟩
      · rw [ha] at e; cases e; exact nm trivial
theorem OwnL.priv {a : Addr} {ws : List V} {o : HO} {ds : List D} {vs : List V} {F : List Addr} (h : OwnL G Z H ds vs F) (hf : a ∉ F) (ha : H a = some (.lst ws)) : OwnL G Z (upd H a o) ds vs F :=
  OwnL.keep (Same.refl Z) ds vs F (fun b u e m => by
    rw [upd_ne (fun z => ?_)]
    · exact e
    · rw [z] at m e
      rcases m with m | nm
      · exact hf m
      · rw [ha] at e; cases e; exact nm trivial) h
theorem Own.priv {a : Addr} {ws : List V} {o : HO} {d : D} {v : V} {F : List Addr} (h : Own G Z H d v F) (hf : a ∉ F) (ha : H a = some (.lst ws)) : Own G Z (upd H a o) d v F :=
  Own.keep (Same.refl Z) d v F (fun b u e m => by
    rw [upd_ne (fun z => ?_)]
    · exact e
    · rw [z] at m e
      rcases m with m | nm
      · exact hf m
      · rw [ha] at e; cases e; exact nm trivial) h
end
abbrev Wno : Wsh := fun _ _ _ => False
/-- in the midst of a comprehension: D the new list -/
structure Mid (G : Gc) (B Z H : Hp) (σw : L2.St) (e0 : DEnv) (Fs : Nat → List Addr) (vs : List Nat) (a : Addr) (Z2 H2 : Hp) (e2 : DEnv) (F2 : Nat → List Addr) (acc : List V) (ds : List D) (FA : List Addr) : Prop where
  st : Stp G B Z H σw e0 (InF Fs) Z2 H2 σw e2 F2
  nn : ∀ v, v ∈ vs → ∀ t : Md × D, e2[v]? ≠ some (some t)
  at_ : H2 a = some (.lst acc)
  own : OwnL G Z2 H2 ds acc FA
  nd : FA.Nodup
  dj : ∀ b, b ∈ FA → ¬ InF F2 b ∧ B b = none ∧ (H b = none ∨ InF Fs b)
  na : a ∉ FA
  ni : ¬ InF F2 a
section
variable {G : Gc} {B Z H Z2 H2 : Hp} {σw : L2.St} {e0 e2 : DEnv} {Fs F2 : Nat → List Addr} {vs : List Nat} {a : Addr} {acc : List V} {ds : List D} {FA : List Addr}
/-- a turn on: what is at hand stays -/
theorem Mid.on {Z3 H3 : Hp} {e3 : DEnv} {F3 : Nat → List Addr} (m : Mid G B Z H σw e0 Fs vs a Z2 H2 e2 F2 acc ds FA) (s : Stp G B Z2 H2 σw e2 (InF F2) Z3 H3 σw e3 F3) (hn : ∀ v, v ∈ vs → ∀ t : Md × D, e3[v]? ≠ some (some t)) : Mid G B Z H σw e0 Fs vs a Z3 H3 e3 F3 acc ds FA := by
  have pm := m.st.good.pm
  have stay : ∀ b, ¬ InF F2 b → (∃ o, H2 b = some o) → ¬ InF F3 b := fun b n ⟨o, e⟩ z => by
    rcases s.new b z with q | q
    · rw [e] at q; cases q
    · exact n q
  refine ⟨m.st.trans m.st.new s, hn, s.ext a _ m.at_ m.ni, OwnL.keep s.zz _ _ _ (fun b u e z => s.ext b u e ?_) m.own, m.nd, fun b z => ⟨stay b (m.dj b z).1 ?_, (m.dj b z).2⟩, m.na, stay a m.ni ⟨_, m.at_⟩⟩
  · rcases z with z | nm
    · exact (m.dj b z).1
    · exact pm.tup e nm
  · obtain ⟨o, e, _⟩ := OwnL.dom _ _ _ m.own b z
    exact ⟨o, e⟩
/-- an item more -/
theorem Mid.app {d : D} {v : V} {F : List Addr} (m : Mid G B Z H σw e0 Fs vs a Z2 H2 e2 F2 acc ds FA) (g : Same B H) (hn : H a = none) (ho : Own G Z2 H2 d v F) (nd : F.Nodup) (dj : ∀ b, b ∈ F → ¬ InF F2 b ∧ B b = none ∧ (H b = none ∨ InF Fs b)) (nA : ∀ b, b ∈ F → b ∉ FA ∧ b ≠ a) :
    Mid G B Z H σw e0 Fs vs a Z2 (upd H2 a (.lst (acc ++ [v]))) e2 F2 (acc ++ [v]) (ds ++ [d]) (FA ++ F) := by
  refine ⟨m.st.priv g hn m.ni m.at_, m.nn, upd_same, OwnL.append (m.own.priv m.na m.at_) ⟨v, [], F, [], rfl, by simp, ho.priv (fun z => (nA a z).2 rfl) m.at_, rfl, rfl⟩, List.nodup_append.mpr ⟨m.nd, nd, fun b z c y e => ?_⟩, fun b z => ?_, fun z => ?_, m.ni⟩
  · subst e; exact (nA b y).1 z
  · rcases List.mem_append.mp z with z | z
    · exact m.dj b z
    · exact dj b z
  · rcases List.mem_append.mp z with z | z
    · exact m.na z
    · exact (nA a z).2 rfl
variable {W : Wsh} {X : Cx}
theorem lc_run {σ : L2.St} {Q : VK} {ops : List Opn} {mk : List D → Option (List D)} {bind : D → DEnv → Option DEnv} {cond : DEnv → Out (Bool × DEnv)} {elt : DEnv → Out (D × DEnv)} {ts : List Nat} {g : TG} (hbk : BindOk G ts g bind) (hcl : ∀ j, j ∈ ts → j ∈ vs)
    (h : TV G W (lcE ops mk bind cond elt vs) σ H Q) : tLc (TSrc G W ops mk) g (TB G Wno cond) (TV G Wno elt) vs σ H Q := by
  obtain ⟨B, Z, Fs, env, gd, q⟩ := h
  refine ⟨B, Z, Fs, env, gd, ?_⟩
  unfold lcE at q
  cases hr : evO ops env with
  | bad => rw [hr] at q; exact q.elim
  | exc c => rw [hr] at q; exact q
  | ok p =>
    obtain ⟨ds0, st, env1⟩ := p
    rw [hr] at q
    simp only [Out.bind_ok] at q
    show ∃ xs, mk ds0 = some xs ∧ _
    cases hx : mk ds0 with
    | none => rw [hx] at q; exact q.elim
    | some xs =>
      rw [hx, must_some] at q
      cases hh : hideS vs env1 with
      | none => rw [hh] at q; exact q.elim
      | some e0 =>
        rw [hh, must_some] at q
        by_cases hlen : xs.length < 16777216
        · rw [if_pos hlen] at q
          cases hl : noEx (lcG bind cond elt vs xs e0) with
          | none => rw [hl] at q; exact q.elim
          | some r =>
            rw [hl, must_some] at q
            obtain ⟨rs, eN⟩ := r
            have hl := noEx_some hl
            refine ⟨xs, rfl, fun B1 Z1 H1 Fs1 J w hj a han => ?_⟩
            have g1 := w.good
            have gh := g1.hide hh
            have hsl : Same B1 H1 := g1.sb
            have b1a : B1 a = none := by
              cases z : B1 a with
              | none => rfl
              | some u =>
                have := hsl a u z
                rw [han] at this; cases this
            have ha0 := (hideS_at hh).2.2
            have m0 : Mid G B1 Z1 H1 (wipe σ vs) e0 Fs1 vs a Z1 (upd H1 a (.lst [])) e0 Fs1 [] [] [] := by
              refine ⟨Stp.grow gh (fun _ m => m) (same_upd han), fun v m t e => ?_, upd_same, ⟨rfl, rfl⟩, List.nodup_nil, fun b z => (by cases z), (by simp), fun z => ?_⟩
              · rw [(ha0 v m).1] at e; cases e
              · obtain ⟨o, e, _⟩ := g1.dom z
                rw [han] at e; cases e
            refine ⟨fun i m H' => m = xs.length - i ∧ i ≤ xs.length ∧ ∃ Z2 Fs2 e2 acc ds FA rest, Mid G B1 Z1 H1 (wipe σ vs) e0 Fs1 vs a Z2 H' e2 Fs2 acc ds FA ∧ ds.length ≤ i ∧ lcG bind cond elt vs (xs.drop i) e2 = .ok (rest, eN) ∧ rs = ds ++ rest, ⟨xs.length, rfl, Nat.zero_le _, Z1, Fs1, e0, [], [], [], rs, m0, Nat.le_refl _, hl, rfl⟩, ?_⟩
            rintro i m H' ⟨rfl, hi, Z2, Fs2, e2, acc, ds, FA, rest, mid, hdl, hrun, hrs⟩
            have g2 := mid.st.good
            have y2 : Same (joi B1 Z1) H' := joi_le g2.sb (mid.st.zz.trans g2.sz)
            have t2 : TK H1 H' := mid.st.tk gh.pm
            obtain ⟨ji, js⟩ := hj i H' y2 t2
            by_cases hlt : i < xs.length
            · obtain ⟨go, yl⟩ := ji xs[i] (List.getElem?_eq_getElem hlt)
              rw [drop_get hlt] at hrun
              refine .inr ⟨go, fun H' => ∃ Z2 Fs2 e2 acc ds FA rest, Mid G B1 Z1 H1 (wipe σ vs) e0 Fs1 vs a Z2 H' e2 Fs2 acc ds FA ∧ ds.length ≤ i + 1 ∧ lcG bind cond elt vs (xs.drop (i + 1)) e2 = .ok (rest, eN) ∧ rs = ds ++ rest, fun H3 n3 => ⟨xs.length - (i + 1), by omega, rfl, hlt, n3⟩, fun v H3 y3 => ?_⟩
              obtain ⟨hs3, ov⟩ := yl v H3 y3
              have mid3 := mid.on (Stp.grow g2 (fun _ m => m) hs3) mid.nn
              have g3 := mid3.st.good
              have hrun : (must (bind xs[i] e2) fun e => cond e >>= fun p => if p.1 = true then elt p.2 >>= fun q => must (dropS vs q.2) fun e2 => lcG bind cond elt vs (xs.drop (i + 1)) e2 >>= fun r => .ok (q.1 :: r.1, r.2)
                else must (dropS vs p.2) fun e2 => lcG bind cond elt vs (xs.drop (i + 1)) e2) = .ok (rest, eN) := hrun
              cases hbd : bind xs[i] e2 with
              | none => rw [hbd] at hrun; cases hrun
              | some e4 =>
                rw [hbd, must_some] at hrun
                refine hbk B1 Z2 H3 _ e2 Fs2 xs[i] v e4 _ g3 (Own.keepT (joi_mono (Same.refl B1) mid.st.zz g3.sb g3.sz) (TK.of (Same.refl _)) ov) hbd fun σ4 Fs4 b4 => ?_
                have ww : wipe σ4 vs = wipe σ vs := by
                  have l4 : σ4.length = (wipe σ vs).length := by rw [← b4.good.len, b4.ln, g3.len]
                  rw [wipe_ext l4 fun j hj => (b4.at_ j fun z => hj (hcl j z)).2]
                  exact wipe_ext (wipe_length _ _) fun j hj => by rw [wipe_at, if_neg hj]
                refine ⟨ww, B1, Z2, Fs4, e4, b4.good, ?_⟩
                unfold FinB
                cases hcd : cond e4 with
                | bad => rw [hcd] at hrun; cases hrun
                | exc c => rw [hcd] at hrun; cases hrun
                | ok p =>
                  obtain ⟨b, e5⟩ := p
                  rw [hcd] at hrun
                  simp only [Out.bind_ok] at hrun
                  intro Z5 H5 Fs5 s5
                  cases b with
                  | false =>
                    rw [if_neg Bool.false_ne_true] at hrun ⊢
                    cases hdr : dropS vs e5 with
                    | none => rw [hdr] at hrun; cases hrun
                    | some e7 =>
                      rw [hdr, must_some] at hrun
                      obtain ⟨F7, s7, _⟩ := b4.stp (P := InF Fs2) (fun _ m => m) s5 hdr hcl
                      have n7 := (dropS_at hdr).2.2.1
                      have s7' := s7.wipeEnd (vs := vs) fun v m t => n7 v t m
                      rw [ww] at s7'
                      exact ⟨Z5, F7, e7, acc, ds, FA, rest, mid3.on s7' fun v m t => n7 v t m, Nat.le_succ_of_le hdl, hrun, hrs⟩
                  | true =>
                    rw [if_pos rfl] at hrun ⊢
                    refine ⟨B1, Z5, Fs5, e5, s5.good, ?_⟩
                    unfold FinV
                    cases hel : elt e5 with
                    | bad => rw [hel] at hrun; cases hrun
                    | exc c => rw [hel] at hrun; cases hrun
                    | ok p =>
                      obtain ⟨d, e6⟩ := p
                      rw [hel] at hrun
                      simp only [Out.bind_ok] at hrun
                      cases hdr : dropS vs e6 with
                      | none => rw [hdr] at hrun; cases hrun
                      | some e7 =>
                        rw [hdr, must_some] at hrun
                        intro v6 Z6 H6 Fs6 F6 p6
                        have s6 := s5.trans s5.new p6.st
                        obtain ⟨F7, s7, h7⟩ := b4.stp (P := InF Fs2) (fun _ m => m) s6 hdr hcl
                        have n7 := (dropS_at hdr).2.2.1
                        have s7' := s7.wipeEnd (vs := vs) fun v m t => n7 v t m
                        rw [ww] at s7'
                        have mid7 := mid3.on s7' fun v m t => n7 v t m
                        have l6 : acc.length = ds.length := OwnL.length mid7.own
                        cases hrl : lcG bind cond elt vs (xs.drop (i + 1)) e7 with
                        | bad => rw [hrl] at hrun; cases hrun
                        | exc c => rw [hrl] at hrun; cases hrun
                        | ok r2 =>
                          obtain ⟨rest2, eM⟩ := r2
                          rw [hrl] at hrun
                          cases hrun
                          -- where the item's nodes come from
                          have newF : ∀ b, b ∈ F6 → H3 b = none ∨ InF Fs2 b := fun b z => by
                            rcases p6.new b z with z | z
                            · cases q5 : H3 b with
                              | none => exact .inl rfl
                              | some o =>
                                refine .inr ?_
                                by_cases n : InF Fs4 b
                                · exact b4.sub b n
                                · have := s5.ext b o q5 n
                                  rw [z] at this; cases this
                            · exact (s5.new b z).imp id (b4.sub b)
                          refine ⟨acc, mid7.at_, by rw [l6, ← size_line]; omega, Z6, F7, e7, acc ++ [v6], ds ++ [d], FA ++ F6, rest2, mid7.app hsl han p6.one p6.nd (fun b z => ⟨fun y => p6.dj b z (h7 b y), (p6.fr b z).1, ?_⟩) (fun b z => ?_), by rw [List.length_append, List.length_singleton]; omega, hrl, by rw [hrs, List.append_assoc]; rfl⟩
                          · rcases newF b z with y | y
                            · cases q1 : H1 b with
                              | none => exact .inl rfl
                              | some o =>
                                refine .inr ?_
                                by_cases n : InF Fs1 b
                                · exact n
                                · have := mid3.st.ext b o q1 n
                                  rw [y] at this; cases this
                            · exact mid.st.new b y
                          · refine ⟨fun y => ?_, fun y => ?_⟩
                            · obtain ⟨o, e, _⟩ := OwnL.dom _ _ _ mid3.own b y
                              rcases newF b z with x | x
                              · rw [e] at x; cases x
                              · exact (mid.dj b y).1 x
                            · subst y
                              rcases newF b z with x | x
                              · rw [mid3.at_] at x; cases x
                              · exact mid.ni x
            · have e : i = xs.length := by omega
              subst e
              rw [List.drop_length] at hrun
              cases hrun
              refine .inl ⟨js rfl, ?_⟩
              have s9 := mid.st.back g1 g1.pm hh mid.nn
              obtain ⟨F3, s3, h3⟩ := w.out _ _ _ _ _ s9
              rw [List.append_nil] at hrs
              subst hrs
              refine q (.ref a) Z2 H' F3 (a :: FA) ⟨s3, ⟨.ref a, [], a :: FA, [], rfl, by simp, ⟨a, acc, FA, rfl, .inr ⟨rfl, mid.at_⟩, mid.own⟩, rfl, rfl⟩, List.nodup_cons.mpr ⟨mid.na, mid.nd⟩, fun b m => ?_, fun b m => ?_, fun b m => ?_⟩
              · rcases List.mem_cons.mp m with rfl | m
                · exact (h3 _ mid.ni b1a).1
                · exact (h3 _ (mid.dj b m).1 (mid.dj b m).2.1).1
              · rcases List.mem_cons.mp m with rfl | m
                · exact ⟨(h3 _ mid.ni b1a).2, g2.z0 _⟩
                · exact ⟨(h3 _ (mid.dj b m).1 (mid.dj b m).2.1).2, g2.z0 _⟩
              · rcases List.mem_cons.mp m with rfl | m
                · exact w.hh _ (.inl han)
                · exact w.hh _ (mid.dj b m).2.2
        · rw [if_neg hlen] at q
          exact q.elim
end
section
variable {G : Gc} {W : Wsh} {X : Cx} {ops : List Opn} {mk : List D → Option (List D)} {bind : D → DEnv → Option DEnv} {cond : DEnv → Out (Bool × DEnv)} {eltf : DEnv → Out (D × DEnv)} {ts : List Nat} {g : TG} {elt tg iter : Expr} {ifs : List Expr} {scope : Scope} {own : List (Str × Nat)} {pos : Pos}
theorem _root_.L2.PTs.imp {X : Cx} {e : List Expr} {t t' : TT} (h : PTs X e t) (i : ∀ σ H Q, t' σ H Q → t σ H Q) : PTs X e t' := ⟨fun pins s σ H Q I hq => h.run pins s σ H Q I (i σ H Q hq)⟩
theorem ts_nil : PTs X [] (TB G W eYes) := pts_nil.imp fun σ H Q ⟨B, Z, Fs, env, gd, q⟩ => q Z H Fs (Stp.refl gd fun _ m => m)
theorem ts_one {c : Expr} {f : DEnv → Out (Bool × DEnv)} (h : PT X c (TB G W f)) : PTs X [c] (TB G W f) := pts_one h
theorem e_lc (dx : DX X G) (hi : PI X tg iter (TSrc G W ops mk)) (ok : BlkOk X.N X.env.scope scope own) (hbk : BindOk G ts g bind)
    (hg : ∀ (s : Shared) (H : Hp) (C : Addr) (cl : List (Str × Addr)) (fp : List Addr), PG (X.blk s H scope (compEnvC scope cl C X.env) fp) tg g) (ht : ∀ (s : Shared) (H : Hp) (C : Addr) (cl : List (Str × Addr)) (fp : List Addr), PTs (X.blk s H scope (compEnvC scope cl C X.env) fp) ifs (TB G Wno cond))
    (he : ∀ (s : Shared) (H : Hp) (C : Addr) (cl : List (Str × Addr)) (fp : List Addr), PE (X.blk s H scope (compEnvC scope cl C X.env) fp) elt (TV G Wno eltf)) (hc : ts.all (fun j => (own.map (·.2)).contains j) = true := by rfl) (hs : ∀ x, foldedSetIterable iter X.env x = pure x := by intro _; rfl) (hcl : X.calm = true := by rfl) :
    PE X (.ListComp elt [⟨tg, iter, ifs, 0⟩] scope pos) (TV G W (lcE ops mk bind cond eltf (own.map (·.2)))) :=
  (pe_lc hcl dx.nd hi ok hg ht he hs).imp fun σ H Q h => lc_run hbk (fun j m => by simpa using List.all_eq_true.mp hc j m) h
theorem s_setLc {i : Nat} {y : Str} {py spos : Pos} (dx : DX X G) (hy : X.N[i]? = some y) (hyl : X.env.scope.names.lookup y = some .local) (hsw : swapsWith (.ListComp elt [⟨tg, iter, ifs, 0⟩] scope pos) (some (.Name y py)) spos.line X.env = pure true)
    (hi : PI X tg iter (TSrc G W ops mk)) (ok : BlkOk X.N X.env.scope scope own) (hbk : BindOk G ts g bind)
    (hg : ∀ (s : Shared) (H : Hp) (C : Addr) (cl : List (Str × Addr)) (fp : List Addr), PG (X.blk s H scope (compEnvC scope cl C X.env) fp) tg g) (ht : ∀ (s : Shared) (H : Hp) (C : Addr) (cl : List (Str × Addr)) (fp : List Addr), PTs (X.blk s H scope (compEnvC scope cl C X.env) fp) ifs (TB G Wno cond))
    (he : ∀ (s : Shared) (H : Hp) (C : Addr) (cl : List (Str × Addr)) (fp : List Addr), PE (X.blk s H scope (compEnvC scope cl C X.env) fp) elt (TV G Wno eltf)) (hc : ts.all (fun j => (own.map (·.2)).contains j) = true := by rfl) (hs : ∀ x, foldedSetIterable iter X.env x = pure x := by intro _; rfl) (hcl : X.calm = true := by rfl) :
    PS X (.Assign [.Name y py] (.ListComp elt [⟨tg, iter, ifs, 0⟩] scope pos) spos) (TSt G W (sSet i (lcE ops mk bind cond eltf (own.map (·.2))))) :=
  (ps_setLc hcl dx.nd hy hyl hsw hi ok hg ht he hs).imp fun En σ H ⟨B, Z, Fs, env, gd, q⟩ => by
    have q1 : TV G W (lcE ops mk bind cond eltf (own.map (·.2))) σ H (fun x H1 => gName i x σ H1 En.nx) := by
      refine ⟨B, Z, Fs, env, gd, ?_⟩
      unfold sSet at q
      unfold FinV
      cases hl : lcE ops mk bind cond eltf (own.map (·.2)) env with
      | bad => rw [hl] at q; exact q.elim
      | exc c => rw [hl] at q; exact q σ (AgL.refl gd)
      | ok p0 =>
        obtain ⟨d, e'⟩ := p0
        rw [hl] at q
        intro v Z' H' Fs' F p
        have q : FinS G W B Z H σ env (InF Fs) (must (putS i d e') fun e => .ok (.nx e)) En := q
        cases hput : putS i d e' with
        | none => rw [hput] at q; exact q.elim
        | some e2 =>
          rw [hput] at q
          have s2 : Stp G B Z' H' σ e' (fun a => InF Fs' a ∨ a ∈ F) Z' H' (σ.set i (some v)) e2 (onF Fs' i F) := Stp.put p.st.good (fun a m => .inl m) (fun a m => .inr m) ⟨p.one, p.nd, p.dj, p.fr⟩ hput
          exact q _ _ _ _ (p.st.trans (fun a m => m.elim (p.st.new a) (p.new a)) s2)
    exact lc_run hbk (fun j m => by simpa using List.all_eq_true.mp hc j m) q1
theorem DX.blk {s : Shared} {H : Hp} {cenv : Env} {fp : List Addr} (d : DX X G) : DX (X.blk s H scope cenv fp) G := ⟨d.K, d.nd, d.un⟩
end
end DL
namespace DL
open PySem PySem.Spec PyProof.Rows L2
def D.ints : List D → Option (List Int)
  | [] => some []
  | d :: r => match d.toInt, D.ints r with
    | some i, some is => some (i :: is)
    | _, _ => none
def D.bls : List D → Option (List Bool)
  | [] => some []
  | d :: r => match d.toBl, D.bls r with
    | some i, some is => some (i :: is)
    | _, _ => none
section
variable {G : Gc} {Z H : Hp}
theorem ints_own : ∀ {ds : List D} {ns : List Int} {vs : List V} {F : List Addr}, D.ints ds = some ns → OwnL G Z H ds vs F → vs = ns.map V.int ∧ ds = ns.map D.int
  | [], ns, vs, F, e, h => by
    cases (show some ([] : List Int) = some ns from e)
    exact ⟨h.1, rfl⟩
  | d :: r, ns, vs, F, e, h => by
    obtain ⟨v, rest, F1, F2, rfl, rfl, h1, h2⟩ := h
    have e : (match d.toInt, D.ints r with
      | some i, some is => some (i :: is)
      | _, _ => none) = some ns := e
    cases hd : d.toInt with
    | none => rw [hd] at e; cases e
    | some i =>
      cases hr : D.ints r with
      | none => rw [hd, hr] at e; cases e
      | some is =>
        rw [hd, hr] at e
        cases e
        obtain rfl := D.toInt_some hd
        obtain ⟨e1, e2⟩ := ints_own hr h2
        rw [h1.1, e1]
        exact ⟨rfl, by rw [List.map_cons, ← e2]⟩
end
@[simp] theorem ints_map (ns : List Int) : D.ints (ns.map D.int) = some ns := by
  induction ns with
  | nil => rfl
  | cons i r ih => simp [D.ints, D.toInt, ih]
@[simp] theorem bls_map (ns : List Bool) : D.bls (ns.map D.bl) = some ns := by
  induction ns with
  | nil => rfl
  | cons i r ih => simp [D.bls, D.toBl, ih]
/-- len -/
def fLen (d : D) : Option D := match d with
  | .lst xs => some (.int xs.length)
  | .tupF _ xs => some (.int xs.length)
  | .scr ns => some (.int ns.length)
  | .str s => iff? (s.length ≤ 16777216) (.int s.length)
  | _ => none
def fAny (d : D) : Option D := match d.toLst with
  | some xs => (D.bls xs).map fun ns => .bl (ns.any id)
  | none => none
def fInt (d : D) : Option D := match d with
  | .int i => some (.int i)
  | .bl k => some (.int (if k then 1 else 0))
  | _ => none
def fTupOf (d : D) : Option D := match d with
  | .lst xs => iff? (D.pureL xs = true) (.tup xs)
  | .tupF f xs => iff? (D.pureL xs = true) (.tupF f xs)
  | _ => none
abbrev gLen := una fLen
abbrev gAny := una fAny
abbrev gInt := una fInt
abbrev gTupOf := una fTupOf
theorem pureL_ints (ns : List Int) : D.pureL (ns.map .int) = true := by
  induction ns with
  | nil => rfl
  | cons i r ih => exact ih
section
variable {G : Gc}
theorem rop_len : ROp G (fun xs H Q => ∃ x n, xs = [x] ∧ LenV G.K x H n ∧ Q (.int (n : Nat)) H) gLen := by
  intro ds vs H Q d h e q
  obtain ⟨a, rfl, e⟩ := una_some e
  obtain ⟨x, rfl, h1⟩ := own1 h
  cases a with
  | lst xs =>
    cases e
    obtain ⟨p, ws, rfl, hs, o⟩ := h1.lstR
    exact ⟨_, xs.length, rfl, .inl ⟨ws, hs, (OwnL.length o).symm⟩, done0 q fun Z => ⟨rfl, rfl⟩⟩
  | tupF f xs =>
    cases e
    obtain ⟨p, ws, rfl, hs, o⟩ := h1
    exact ⟨_, xs.length, rfl, .inr ⟨ws, hs.seq, (OwnL.length o).symm⟩, done0 q fun Z => ⟨rfl, rfl⟩⟩
  | scr ns =>
    cases e
    obtain ⟨_, p, rfl, hs⟩ := h1
    exact ⟨_, ns.length, rfl, .inl ⟨_, hs, by rw [List.length_map]⟩, done0 q fun Z => ⟨rfl, rfl⟩⟩
  | str s =>
    obtain ⟨hl, rfl⟩ := iff?_some e
    rw [h1.1]
    exact ⟨_, s.length, rfl, ⟨by rw [← size_line]; exact hl, rfl⟩, done0 q fun Z => ⟨rfl, rfl⟩⟩
  | _ => cases e
theorem pure_len : PureG gLen := by
  intro ds d e
  obtain ⟨a, rfl, e⟩ := una_some e
  cases a with
  | lst xs => cases e; rfl
  | tupF f xs => cases e; rfl
  | scr xs => cases e; rfl
  | str s => obtain ⟨_, rfl⟩ := iff?_some e; rfl
  | _ => cases e
theorem fAny_some {a d : D} (e : fAny a = some d) : ∃ xs ns, a = .lst xs ∧ D.bls xs = some ns ∧ d = .bl (ns.any id) := by
  unfold fAny at e
  cases hd : a.toLst with
  | none => rw [hd] at e; cases e
  | some xs =>
    rw [hd] at e
    obtain ⟨ns, hn, rfl⟩ := map_some' e
    exact ⟨xs, ns, D.toLst_some hd, hn, rfl⟩
theorem pure_any : PureG gAny := by
  intro ds d e
  obtain ⟨a, rfl, e⟩ := una_some e
  obtain ⟨xs, ns, rfl, hn, rfl⟩ := fAny_some e
  rfl
theorem rop_int1 : ROp G (fun xs H Q => (∃ i, xs = [.int i] ∧ Q (.int i) H) ∨ ∃ k, xs = [.bl k] ∧ Q (.int (if k then 1 else 0)) H) gInt := by
  intro ds vs H Q d h e q
  obtain ⟨a, rfl, e⟩ := una_some e
  obtain ⟨x, rfl, h1⟩ := own1 h
  cases a with
  | int i => cases e; exact .inl ⟨i, by rw [h1.1], done0 q fun Z => ⟨rfl, rfl⟩⟩
  | bl i => cases e; exact .inr ⟨i, by rw [h1.1], done0 q fun Z => ⟨rfl, rfl⟩⟩
  | _ => cases e
theorem pure_int1 : PureG gInt := by
  intro ds d e
  obtain ⟨a, rfl, e⟩ := una_some e
  cases a with
  | int i => cases e; rfl
  | bl i => cases e; rfl
  | _ => cases e
theorem one_nodup {a : Addr} : [a].Nodup := List.nodup_cons.mpr ⟨by simp, List.nodup_nil⟩
theorem fTupOf_some {a d : D} (e : fTupOf a = some d) : ∃ xs, D.pureL xs = true ∧ ((a = .lst xs ∧ d = .tup xs) ∨ ∃ f, a = .tupF f xs ∧ d = .tupF f xs) := by
  cases a with
  | lst xs => obtain ⟨h, rfl⟩ := iff?_some e; exact ⟨xs, h, .inl ⟨rfl, rfl⟩⟩
  | tupF f xs => obtain ⟨h, rfl⟩ := iff?_some e; exact ⟨xs, h, .inr ⟨f, rfl, rfl⟩⟩
  | _ => cases e
theorem rop_tupOf : ROp G (fun xs H Q => ∃ p ys, xs = [.ref p] ∧ ((SqL G.K H p ys ∧ ∀ l, H l = none → Q (.ref l) (upd H l (.tup ys))) ∨ (SqT G.K H p ys ∧ Q (.ref p) H))) gTupOf := by
  intro ds vs H Q d h e q
  obtain ⟨a, rfl, e⟩ := una_some e
  obtain ⟨x, rfl, h1⟩ := own1 h
  obtain ⟨xs, hp, ee⟩ := fTupOf_some e
  rcases ee with ⟨rfl, rfl⟩ | ⟨f, rfl, rfl⟩
  · obtain ⟨p, ys, rfl, hs, o⟩ := h1.lstR
    exact ⟨p, ys, rfl, .inl ⟨hs, fun l hn => q _ _ [] (same_upd hn) (fun Z => new_tup hp hn o Z) List.nodup_nil fun b m => by cases m⟩⟩
  · obtain ⟨p, ys, rfl, hs, o⟩ := h1
    exact ⟨p, ys, rfl, .inr ⟨hs.seq, done0 q fun Z => ⟨p, ys, rfl, hs, OwnL.pure_any hp o⟩⟩⟩
def D.ty : D → Option String
  | .non => some "NoneType"
  | .bl _ => some "bool"
  | .int _ => some "int"
  | .str _ => some "str"
  | .tupF _ _ => some "tuple"
  | .lst _ => some "list"
  | .dk _ _ => some "dict"
  | .dt _ _ => some "dict"
  | _ => none
theorem Own.ty {H : Hp} {d : D} {v : V} {T : String} (h : Own G H H d v []) (e : d.ty = some T) : TyX G.K H v (.type T) := by
  cases d with
  | non => cases e; rw [h.1]; exact .base .non
  | bl b => cases e; rw [h.1]; exact .base (.bl b)
  | int b => cases e; rw [h.1]; exact .base (.int b)
  | str b => cases e; rw [h.1]; exact .base (.str b)
  | tupF f xs =>
    cases e
    obtain ⟨a, vs, rfl, h1, _⟩ := h
    cases f with
    | false => exact .base (.tup h1)
    | true =>
      obtain ⟨o, _, h1⟩ := h1
      exact .fTuple h1
  | lst xs =>
    cases e
    obtain ⟨a, vs, F', rfl, n, _⟩ := h
    rcases n with ⟨h1 | ⟨o, h1⟩, _⟩ | ⟨z, _⟩
    · exact .base (.lst h1)
    · exact .base (.frz h1)
    · cases z
  | dk ks vs =>
    cases e
    obtain ⟨a, vs, F', rfl, _, n, _⟩ := h
    rcases n with ⟨h1, _⟩ | ⟨z, _⟩
    · exact .base (.dK h1)
    · cases z
  | dt ks vs =>
    cases e
    obtain ⟨a, vs, F', rfl, _, n, _⟩ := h
    rcases n with ⟨h1, _⟩ | ⟨z, _⟩
    · exact .base (.dT h1)
    · cases z
  | _ => cases e
def tyLe (a b : String) : Bool := a == b || (a == "bool" && b == "int")
theorem D.ty_in {d : D} {T : String} (h : d.ty = some T) : T ∈ ["NoneType", "bool", "int", "str", "tuple", "list", "dict"] := by
  cases d <;> cases h <;> decide
theorem kit_all {K : PySem.W.Frag} {a b : String} (ha : a ∈ ["NoneType", "bool", "int", "str", "tuple", "list", "dict"]) (hb : b ∈ ["bool", "int", "str", "tuple", "list", "dict"]) : PySem.W.kitOne K (.type a) (.type b) = some (tyLe a b) := by
  refine kit_ty ?_
  have key : ∀ a ∈ ["NoneType", "bool", "int", "str", "tuple", "list", "dict"], ∀ b ∈ ["bool", "int", "str", "tuple", "list", "dict"], kitB a b = some (tyLe a b) := by decide +kernel
  exact key a ha b hb
/-- is a value of the built-in type T -/
def gIsi (T : String) : List D → Option D := una fun d => d.ty.map fun t => .bl (tyLe t T)
variable {X : Cx} {W : Wsh} {e : Expr} {p p2 pos : Pos}
theorem p_isi {x : Str} {T : String} {s1 : SArg} (dx : DX X G) (hT : T ∈ ["bool", "int", "str", "tuple", "list", "dict"]) (hg : Gl X "isinstance") (hm : X.mg "isinstance" = none) (hg2 : Gl X x) (hm2 : X.mg x = none) (hv2 : bootBuiltins x = some (.type T)) (he : PE X e (s1.te G)) (hn2 : x ≠ "__name__" := by decide) (hd2 : (x == ("__debug__" : Str)) = false := by decide)
    (hv : bootBuiltins "isinstance" = some (.builtin "isinstance") := by rfl) (hs2 : starEach [.Name x p2] X.env = (false, eval (.Name x p2) X.env) :: starEach [] X.env := by rfl)
    (hs : starEach [e, .Name x p2] X.env = (false, eval e X.env) :: starEach [.Name x p2] X.env := by rfl) (hpl : (backTo pos (starEach [.Name x p2] X.env)).any (·.1) = false := by rfl) :
    PE X (.Call (.Name "isinstance" p) [e, .Name x p2] [] pos) (TPur G (hOp [s1] (gIsi T))) :=
  (pe_callB call_isi hg hm hv (pa_cons he (pa_cons (pe_bltn (v := .ty T) hg2 hm2 hv2 rfl hn2 hd2) pa_nil hs2) hs) (he := hs) (hpl := hpl)).imp fun σ H Q h => by
    have q := tpur_op (hs := [s1]) (r := l1 fun x H Q => rIsi X.K [x, .ty T] H Q) (g := gIsi T) (by
      intro ds vs H Q d h e q
      obtain ⟨a, rfl, e⟩ := una_some e
      obtain ⟨x, rfl, h1⟩ := own1 h
      obtain ⟨t, ht, rfl⟩ := map_some' e
      · refine ⟨x, .ty T, .type t, .type T, tyLe t T, rfl, .ty T, ?_, kit_all (D.ty_in ht) hT, done0 q fun Z => ⟨rfl, rfl⟩⟩
        rw [dx.K]
        exact h1.ty ht) (by
      intro ds d e
      obtain ⟨a, rfl, e⟩ := una_some e
      obtain ⟨t, ht, rfl⟩ := map_some' e
      rfl) σ H Q h
    exact q
end
end DL
namespace DL
open PySem PySem.Spec PyProof.Rows L2
section
variable {G : Gc} {W : Wsh} {B Z H : Hp} {σ : L2.St} {env : DEnv} {Fs : Nat → List Addr}
theorem Own.alive {ds : List D} {v : V} {F : List Addr} (z0 : ∀ a, Z a = none) (h : Own G Z H (.lst ds) v F) : ∃ a vs F', v = .ref a ∧ F = a :: F' ∧ H a = some (.lst vs) ∧ OwnL G Z H ds vs F' := by
  obtain ⟨a, vs, F', rfl, n, o⟩ := h
  rcases n with ⟨h1 | ⟨u, h1⟩, _⟩ | ⟨e, h1⟩
  · rw [z0] at h1; cases h1
  · rw [z0] at h1; cases h1
  · exact ⟨a, vs, F', rfl, e, h1, o⟩
theorem OwnL.one {d : D} {v : V} {F : List Addr} (h : Own G Z H d v F) : OwnL G Z H [d] [v] F := ⟨v, [], F, [], rfl, by simp, h, rfl, rfl⟩
theorem own_non : Own G Z H .non .non [] := ⟨rfl, rfl⟩
theorem mut_fin {T : List Addr} {Y : Hp} {its : List (Bool × D)} {vs : List V} (gd : Good G B Z H σ env Fs) (hd : Hand G B Z H Y Fs its vs T) {a : Addr} {ws ws2 : List V} {ds2 : List D} {F2 FR : List Addr} {d : D} {r : V} (ha : a ∈ T) (hH : H a = some (.lst ws)) (o2 : OwnL G Z H ds2 ws2 F2) (oR : Own G Z H d r FR) (nd : (FR ++ a :: F2).Nodup) (sub : ∀ b, b ∈ FR ++ a :: F2 → b ∈ T) {Q : VK}
    (hF : FinO G W B Z H σ env (PT_ Fs T) [.ref a] (.ok (d, [.lst ds2], env)) Q) : Q r (upd H a (.lst ws2)) := by
  have nn := List.nodup_append.mp nd
  have naR : a ∉ FR := fun m => nn.2.2 a m a List.mem_cons_self rfl
  have naF : a ∉ F2 := (List.nodup_cons.mp nn.2.1).1
  have sb : Same B (upd H a (.lst ws2)) := fun b u e => by
    rw [upd_ne (fun z => by rw [z, (hd.fr a ha).1] at e; cases e)]
    exact gd.sb b u e
  have sz : Same Z (upd H a (.lst ws2)) := fun b u e => by rw [gd.z0] at e; cases e
  have nt : ∀ (b : Addr) (u : HO), H b = some u → Still u → b ≠ a := fun b u e st z => by
    rw [z, hH] at e; cases e; exact st trivial
  have st : Stp G B Z H σ env (PT_ Fs T) Z (upd H a (.lst ws2)) σ env Fs := by
    refine ⟨Same.refl Z, fun b u e n => ?_, ⟨sb, sz, gd.len, fun i => (gd.sl i).keep gd.sb gd.sz sb sz (Same.refl Z) fun b u e m => ?_, gd.nd, gd.dj, gd.fr, gd.z0, gd.gb⟩, fun b m => .inr (.inl m), fun _ m => .inl m, fun j d e => ⟨⟨d, e⟩, rfl⟩, fun j d e => ⟨e, rfl⟩, fun j d e => ⟨e, rfl⟩, fun j d e => ⟨e, rfl⟩, rfl⟩
    · rw [upd_ne (fun z => n (.inr (by rw [z]; exact ha)))]
      exact e
    · rw [upd_ne (fun z => ?_)]
      · exact e
      · rcases m with m | nm
        · exact hd.dj a ha ⟨i, by rw [← z]; exact m⟩
        · exact nt b u e nm z
  refine hF r Z _ Fs (FR ++ a :: F2) ⟨st, ⟨r, [.ref a], FR, a :: F2, rfl, rfl, oR.priv naR hH, ⟨.ref a, [], a :: F2, [], rfl, by simp, ⟨a, ws2, F2, rfl, .inr ⟨rfl, upd_same⟩, o2.priv naF hH⟩, rfl, rfl⟩⟩, nd, fun b m => hd.dj b (sub b m), fun b m => hd.fr b (sub b m), fun b m => .inr (.inr (sub b m))⟩
theorem its2 {its : List (Bool × D)} {a b : Bool} (h : its.map (·.1) = [a, b]) : ∃ d e, its = [(a, d), (b, e)] := by
  match its, h with
  | [(_, d), (_, e)], h => cases h; exact ⟨d, e, rfl⟩
theorem its3 {its : List (Bool × D)} {a b c : Bool} (h : its.map (·.1) = [a, b, c]) : ∃ d e f, its = [(a, d), (b, e), (c, f)] := by
  match its, h with
  | [(_, d), (_, e), (_, f)], h => cases h; exact ⟨d, e, f, rfl⟩
theorem hand1 {Y : Hp} {d : D} {vs : List V} {T : List Addr} (h : OwnT G Y Z H [(true, d)] vs T) : ∃ v, vs = [v] ∧ Own G Z H d v T := by
  obtain ⟨v, r, F1, F2, rfl, rfl, h1, h2, rfl⟩ := h
  exact ⟨v, by rw [h2], by simpa using h1⟩
theorem hand2 {Y : Hp} {d e : D} {vs : List V} {T : List Addr} (h : OwnT G Y Z H [(true, d), (true, e)] vs T) : ∃ v w F1 F2, vs = [v, w] ∧ T = F1 ++ F2 ∧ Own G Z H d v F1 ∧ Own G Z H e w F2 := by
  obtain ⟨v, r, F1, F2, rfl, rfl, h1, h2⟩ := h
  obtain ⟨w, rfl, h3⟩ := hand1 h2
  exact ⟨v, w, F1, F2, rfl, rfl, h1, h3⟩
theorem hand3 {Y : Hp} {d e f : D} {vs : List V} {T : List Addr} (h : OwnT G Y Z H [(true, d), (true, e), (true, f)] vs T) : ∃ v w u F1 F2 F3, vs = [v, w, u] ∧ T = F1 ++ (F2 ++ F3) ∧ Own G Z H d v F1 ∧ Own G Z H e w F2 ∧ Own G Z H f u F3 := by
  obtain ⟨v, r, F1, F2, rfl, rfl, h1, h2⟩ := h
  obtain ⟨w, u, F3, F4, rfl, rfl, h3, h4⟩ := hand2 h2
  exact ⟨v, w, u, F1, F3, F4, rfl, rfl, h1, h3, h4⟩
theorem ioV_first {fl : List Bool} {v : V} {us : List V} (h : fl.any id = false) : ioV (true :: fl) (v :: us) = [v] := by
  show ioV fl us ++ [v] = [v]
  rw [ioV_none fl us h]; rfl
def rvM (r : V → List V → Hp → VK → Prop) : List V → Hp → VK → Prop := fun vs H Q => match vs with
  | x :: xs => r x xs H Q
  | [] => False
def appK : Kn := fun ds e => match ds with
  | [.lst xs, y] => if xs.length < 16777216 then .ok (.non, [.lst (xs ++ [y])], e) else .bad
  | _ => .bad
theorem k_app {fl : List Bool} (hfl : fl.any id = false) : KOk G W (true :: fl) [true, true] (rvM rAppend) appK := by
  intro B Z H σ env Fs its vs T ios Q gd hd hb hn hF
  obtain ⟨d1, y, rfl⟩ := its2 hb
  unfold appK at hF
  split at hF
  · rename_i xs y' e
    cases e
    split at hF
    · rename_i hl
      obtain ⟨v, w, F1, F2, rfl, rfl, h1, h2⟩ := hand2 hd.own
      obtain ⟨a, ws, F', rfl, rfl, hH, o⟩ := h1.alive gd.z0
      rw [ioV_first hfl] at hn
      subst hn
      have nd := hd.nd
      refine ⟨a, ws, w, rfl, rfl, hH, by rw [← size_line, OwnL.length o]; exact hl, ?_⟩
      exact mut_fin gd hd (F2 := F' ++ F2) (FR := []) (by simp) hH (OwnL.append o (OwnL.one h2)) own_non nd (fun b m => m) hF
    · exact hF.elim
  · exact hF.elim
def setK : Kn := fun ds e => match ds with
  | [x, .lst xs, .int i] => match ixN xs.length i with
    | some k => .ok (.non, [.lst (xs.set k x)], e)
    | none => .bad
  | _ => .bad
def rSetX : List V → Hp → VK → Prop := fun vs H Q => match vs with
  | [x, o, i] => rSetL o i x H (fun H2 => Q .non H2)
  | _ => False
theorem OwnL.setAt : ∀ {ds : List D} {vs : List V} {F : List Addr} {k : Nat} {d : D} {v : V} {F2 : List Addr}, OwnL G Z H ds vs F → Own G Z H d v F2 → k < ds.length → F.Nodup → F2.Nodup → (∀ a, a ∈ F2 → a ∉ F) → ∃ F3, OwnL G Z H (ds.set k d) (vs.set k v) F3 ∧ F3.Nodup ∧ ∀ a, a ∈ F3 → a ∈ F ∨ a ∈ F2
  | [], _, _, k, _, _, _, _, _, hk, _, _, _ => absurd hk (Nat.not_lt_zero k)
  | d0 :: r, vs, F, 0, d, v, F2, h, h2, _, nd, nd2, dj => by
    obtain ⟨v0, rest, G1, G2, rfl, rfl, o1, o2⟩ := h
    obtain ⟨n1, n2, n3⟩ := List.nodup_append.mp nd
    exact ⟨F2 ++ G2, ⟨v, rest, F2, G2, rfl, rfl, h2, o2⟩, List.nodup_append.mpr ⟨nd2, n2, fun a m b k e => dj a m (by rw [e]; exact List.mem_append_right _ k)⟩, fun a m => (List.mem_append.mp m).elim .inr fun m => .inl (List.mem_append_right _ m)⟩
  | d0 :: r, vs, F, k + 1, d, v, F2, h, h2, hk, nd, nd2, dj => by
    obtain ⟨v0, rest, G1, G2, rfl, rfl, o1, o2⟩ := h
    obtain ⟨n1, n2, n3⟩ := List.nodup_append.mp nd
    obtain ⟨F3, o3, n4, s3⟩ := OwnL.setAt (k := k) o2 h2 (by simpa using hk) n2 nd2 (fun a m n => dj a m (List.mem_append_right _ n))
    refine ⟨G1 ++ F3, ⟨v0, rest.set k v, G1, F3, rfl, rfl, o1, o3⟩, List.nodup_append.mpr ⟨n1, n4, fun a m b q e => ?_⟩, fun a m => ?_⟩
    · subst e
      rcases s3 a q with z | z
      · exact n3 a m a z rfl
      · exact dj a z (List.mem_append_left _ m)
    · rcases List.mem_append.mp m with m | m
      · exact .inl (List.mem_append_left _ m)
      · exact (s3 a m).imp (List.mem_append_right _) id
theorem k_set : KOk G W [false, true, false] [true, true, true] rSetX setK := by
  intro B Z H σ env Fs its vs T ios Q gd hd hb hn hF
  obtain ⟨x, d1, d2, rfl⟩ := its3 hb
  unfold setK at hF
  split at hF
  · rename_i x' xs i e
    cases e
    split at hF
    · rename_i k hk
      obtain ⟨u, v, w, F1, F2, F3, rfl, rfl, h3, h1, h2⟩ := hand3 hd.own
      obtain ⟨a, ws, F', rfl, rfl, hH, o⟩ := h1.alive gd.z0
      obtain ⟨rfl, rfl⟩ := h2
      have hn : ios = [.ref a] := hn
      subst hn
      have nd := hd.nd
      rw [List.append_nil] at nd
      obtain ⟨n1, n2, n3⟩ := List.nodup_append.mp nd
      obtain ⟨n4, n5⟩ := List.nodup_cons.mp n2
      have l := OwnL.length o
      have kl : k < xs.length := by
        have := (ixN_seq hk).2.1
        omega
      obtain ⟨F3, o3, n6, s3⟩ := OwnL.setAt (k := k) o h3 kl n5 n1 (fun b m q => n3 b m b (List.mem_cons_of_mem _ q) rfl)
      refine ⟨a, ws, i, k, rfl, rfl, hH, by rw [l]; exact hk, ?_⟩
      refine mut_fin gd hd (F2 := F3) (FR := []) (by simp) hH o3 own_non ?_ (fun b m => ?_) hF
      · rw [List.nil_append]
        refine List.nodup_cons.mpr ⟨fun m => ?_, n6⟩
        rcases s3 a m with z | z
        · exact n4 z
        · exact n3 a z a List.mem_cons_self rfl
      · simp only [List.nil_append, List.mem_cons, List.mem_append] at m ⊢
        rcases m with m | m
        · exact .inr (.inl (.inl m))
        · rcases s3 b m with z | z
          · exact .inr (.inl (.inr z))
          · exact .inl z
    · exact hF.elim
  · exact hF.elim

variable {X : Cx}
/-- slot j holds a list -/
def isL {α : Type} (j : Nat) (f : DEnv → Out α) : DEnv → Out α := fun env => match env[j]? with
  | some (some (_, .lst _)) => f env
  | _ => .bad
theorem isL_run {α : Type} {j : Nat} {f : DEnv → Out α} {env : DEnv} (h : isL j f env ≠ .bad) : (∃ m ds, env[j]? = some (some (m, D.lst ds))) ∧ isL j f env = f env := by
  unfold isL at h ⊢
  split
  · rename_i m ds e
    exact ⟨⟨m, ds, e⟩, rfl⟩
  · rename_i hx
    split at h
    · rename_i m ds e; exact absurd e (hx m ds)
    · exact absurd rfl h
theorem io_tyV {j : Nat} {m : Md} {ds : List D} (gd : Good G B Z H σ env Fs) (h : env[j]? = some (some (m, .lst ds))) : ∃ v, σ[j]? = some (some v) ∧ tyV G.K "list" v H := by
  obtain ⟨v, ev, ho⟩ := gd.read h
  have ho := Own.rep (gd.joi_in j) _ _ _ ho
  obtain ⟨a, ws, rfl, hs, o⟩ := ho.lstR
  exact ⟨_, ev, .inl ⟨rfl, ws, hs⟩⟩
theorem tv_io {σ : L2.St} {H : Hp} {Q : VK} {j : Nat} {c : Chn} {k : Kn} {r : V → List V → Hp → VK → Prop} {bs : List Bool} (hk : KOk G W (true :: c.iofs) bs (rvM r) k) (hb : (Chn.io j c).kinds = bs) (h : TV G W (isL j (eK (.io j c) k)) σ H Q) :
    ∃ v, σ[j]? = some (some v) ∧ tyV G.K "list" v H ∧ seqTE (c.tes G W) σ H fun us H1 => r v us H1 Q := by
  obtain ⟨B, Z, Fs, env, gd, q⟩ := h
  have nb : isL j (eK (.io j c) k) env ≠ .bad := fun e => by rw [e] at q; exact q
  obtain ⟨⟨m, ds, hs⟩, e⟩ := isL_run nb
  rw [e] at q
  obtain ⟨v, ev, ty⟩ := io_tyV gd hs
  obtain ⟨w, ew, q⟩ := tv_chn (c := .io j c) hk rfl hb σ H Q ⟨B, Z, Fs, env, gd, q⟩
  rw [ev] at ew
  obtain rfl : v = w := Option.some.inj (Option.some.inj ew)
  exact ⟨v, ev, ty, q⟩
theorem e_mt {o e : Expr} {es : List Expr} {t : TA} {name : Str} {apos cpos : Pos} {id : String} {r : V → List V → Hp → VK → Prop} {j : Nat} {k : Kn} {bs : List Bool} (dx : DX X G) (slot : PySem.Slot "list" name id) (hty : typeOf (.builtin id) = pure (.type "method_descriptor")) (hm : MtR X id r) (ho : PE X o (tVar j)) (c : Chn) (hk : KOk G W (true :: c.iofs) bs (rvM r) k) (ha : PA X (e :: es) t)
    (ht : t = seqTE (c.tes G W) := by rfl) (hb : (Chn.io j c).kinds = bs := by rfl) (hbase : attributeBase o name X.env (eval o X.env) = eval o X.env := by rfl)
    (hfew : ((backTo cpos (starEach (e :: es) X.env)).all (fun x => !x.1) && (backToKw cpos (keywordEach [] X.env)).all (fun x => x.1.isSome)
      && decide ((e :: es).length + ([] : List Keyword).length + (if ([] : List Keyword).isEmpty then 0 else 1) < 30)) = true := by rfl)
    (hline : (apos.endLine == cpos.line) = true := by rfl) (hs : starEach (e :: es) X.env = (false, eval e X.env) :: starEach es X.env := by rfl) (hplain : (backTo cpos (starEach es X.env)).any (·.1) = false := by rfl) :
    PE X (.Call (.Attribute o name apos) (e :: es) [] cpos) (TV G W (isL j (eK (.io j c) k))) :=
  (pe_bm F.plainAttrs_list slot hty hm ho ha hbase hfew hline hs hplain).imp fun σ H Q h => by
    subst ht
    obtain ⟨v, ev, ty, q⟩ := tv_io hk hb h
    exact ⟨v, ev, by rw [dx.K]; exact ty, q⟩
theorem e_append {o e : Expr} {t : TA} {apos cpos : Pos} {j : Nat} (dx : DX X G) (ho : PE X o (tVar j)) (c : Chn) (ha : PA X [e] t) (hn : c.iofs.any id = false := by rfl) (ht : t = seqTE (c.tes G W) := by rfl) (hb : c.kinds = [true] := by rfl) (hbase : attributeBase o "append" X.env (eval o X.env) = eval o X.env := by rfl)
    (hfew : ((backTo cpos (starEach [e] X.env)).all (fun x => !x.1) && (backToKw cpos (keywordEach [] X.env)).all (fun x => x.1.isSome)
      && decide ([e].length + ([] : List Keyword).length + (if ([] : List Keyword).isEmpty then 0 else 1) < 30)) = true := by rfl)
    (hline : (apos.endLine == cpos.line) = true := by rfl) (hs : starEach [e] X.env = (false, eval e X.env) :: starEach [] X.env := by rfl) (hplain : (backTo cpos (starEach [] X.env)).any (·.1) = false := by rfl) :
    PE X (.Call (.Attribute o "append" apos) [e] [] cpos) (TV G W (isL j (eK (.io j c) appK))) :=
  e_mt dx F.slot_list_append F.type_list_append mt_append ho c (k_app hn) ha ht (by show true :: c.kinds = _; rw [hb]) hbase hfew hline hs hplain
/-- x[i] = e -/
theorem s_setix {o i e : Expr} {to ti te : TE} {tpos pos : Pos} (c : Chn) (he : PE X e te) (ho : PE X o to) (hi : PE X i ti) (hc : c.tes G W = [te, to, ti] := by rfl) (hn : c.iofs = [false, true, false] := by rfl) (hb : c.kinds = [true, true, true] := by rfl)
    (ha : ∀ v, assign (.Subscript o i tpos) X.env v = (do
      let ov ← holding [v] (eval o X.env)
      let iv ← holding [v, ov] (eval i X.env)
      standAt tpos
      holding [v, ov, iv] (setItem ov iv v)
      release [v, ov, iv] []) := by intro _; rfl)
    (hs : swapsWithSole [.Subscript o i tpos] e pos.line X.env = pure false := by rfl) (hw : swappedStores [.Subscript o i tpos] e X.env = pure none := by rfl) (h1 : (assignEach [.Subscript o i tpos] X.env).map (·.2) = [assign (.Subscript o i tpos) X.env] := by rfl) :
    PS X (.Assign [.Subscript o i tpos] e pos) (TSt G W (sExpr (eK c setK))) :=
  (ps_asg he (pg_sub ho hi set_list ha) hs hw h1).imp fun En σ H ⟨B, Z, Fs, env, gd, q⟩ => by
    have q1 : TV G W (eK c setK) σ H (fun _ H1 => En.nx σ H1) := by
      refine ⟨B, Z, Fs, env, gd, ?_⟩
      unfold sExpr at q
      unfold FinV
      cases hf : eK c setK env with
      | bad => rw [hf] at q; exact q.elim
      | exc c => rw [hf] at q; exact q σ (AgL.refl gd)
      | ok p =>
        rw [hf] at q
        exact fun v Z' H' Fs' F p => q σ Z' H' Fs' p.st
    have q2 := tv_chn (c := c) k_set hn hb σ H _ q1
    rw [hc] at q2
    exact q2

/-- name op= e, whole numbers -/
def sAug (i : Nat) (g : List D → Option D) (f : DEnv → Out (D × DEnv)) : Stm := fun env => must (hVar i env) fun dx => f env >>= fun p => must (g [dx, p.1]) fun d => must (putS i d p.2) fun e => .ok (.nx e)
theorem s_aug {i : Nat} {x : Str} {e : Expr} {op : Operator} {h : Int → Int → Int} {f : DEnv → Out (D × DEnv)} {p' pos : Pos} (dx : DX X G) (hi : X.N[i]? = some x) (hx : Loc X.env.scope x) (ho : PIp X op (ipI h)) (he : PE X e (TV G W f)) (hf : X.fn x = true ∨ X.env.scope.names.lookup x = some .local := by first | exact .inl rfl | exact .inr rfl) :
    PS X (.AugAssign (.Name x p') op e pos) (TSt G W (sAug i (bin (bI fun a b => some (.int (h a b)))) f)) :=
  (ps_aug dx.nd hi hx he ho hf).imp fun En σ H ⟨B, Z, Fs, env, gd, q⟩ => by
    unfold sAug at q
    cases hv : hVar i env with
    | none => rw [hv] at q; exact q.elim
    | some d1 =>
      rw [hv, must_some] at q
      have hs : ∃ m, env[i]? = some (some (m, d1)) := by
        unfold hVar at hv
        split at hv
        · rename_i m d e
          split at hv
          · cases hv; exact ⟨m, e⟩
          · cases hv
        · cases hv
      obtain ⟨m, hs⟩ := hs
      obtain ⟨v, ev, ho1⟩ := gd.read hs
      refine ⟨v, ev, B, Z, Fs, env, gd, ?_⟩
      unfold FinV
      cases hf : f env with
      | bad => rw [hf] at q; exact q.elim
      | exc c => rw [hf] at q; exact q σ (AgL.refl gd)
      | ok p =>
        obtain ⟨d2, e2⟩ := p
        rw [hf] at q
        intro v2 Z2 H2 Fs2 F2 p2
        have q : FinS G W B Z H σ env (InF Fs) (must (bin (bI fun a b => some (.int (h a b))) [d1, d2]) fun d => must (putS i d e2) fun e => .ok (.nx e)) En := q
        cases hg : bin (bI fun a b => some (.int (h a b))) [d1, d2] with
        | none => rw [hg] at q; exact q.elim
        | some d3 =>
          rw [hg, must_some] at q
          obtain ⟨a, b, eab, hg⟩ := bin_some hg
          cases eab
          obtain ⟨n1, n2, rfl, rfl, e3⟩ := bI_some hg
          cases e3
          cases hput : putS i (.int (h n1 n2)) e2 with
          | none => rw [hput] at q; exact q.elim
          | some e4 =>
            rw [hput] at q
            have o2 := p2.one
            refine ⟨n1, n2, ho1.1, o2.1, ?_⟩
            have s2 : Stp G B Z2 H2 σ e2 (InF Fs2) Z2 H2 (σ.set i (some (.int (h n1 n2)))) e4 (onF Fs2 i []) := Stp.put p2.st.good (fun a m => m) (fun a m => by cases m) ⟨(show Own G Z2 H2 (.int (h n1 n2)) (.int (h n1 n2)) [] from ⟨rfl, rfl⟩), List.nodup_nil, fun a m => (by cases m), fun a m => (by cases m)⟩ hput
            exact q _ _ _ _ (p2.st.trans p2.st.new s2)

def D.fv : D → Option V
  | .non => some .non
  | .bl b => some (.bl b)
  | .int i => some (.int i)
  | .str s => some (.str s)
  | _ => none
def D.fvs : List D → Option (List V)
  | [] => some []
  | d :: r => match d.fv, D.fvs r with
    | some v, some vs => some (v :: vs)
    | _, _ => none
theorem fv_own {Z H : Hp} {d : D} {v w : V} {F : List Addr} (e : d.fv = some w) (h : Own G Z H d v F) : v = w ∧ flatV w = true := by
  cases d with
  | non => cases e; exact ⟨h.1, rfl⟩
  | bl b => cases e; exact ⟨h.1, rfl⟩
  | int b => cases e; exact ⟨h.1, rfl⟩
  | str b => cases e; exact ⟨h.1, rfl⟩
  | _ => cases e
theorem fvs_own {Z H : Hp} : ∀ {ds : List D} {vs ws : List V} {F : List Addr}, D.fvs ds = some ws → OwnL G Z H ds vs F → vs = ws ∧ ws.all flatV = true
  | [], vs, ws, F, e, h => by
    cases (show some ([] : List V) = some ws from e)
    exact ⟨h.1, rfl⟩
  | d :: r, vs, ws, F, e, h => by
    obtain ⟨v, rest, F1, F2, rfl, rfl, h1, h2⟩ := h
    have e : (match d.fv, D.fvs r with
      | some v, some vs => some (v :: vs)
      | _, _ => none) = some ws := e
    cases hd : d.fv with
    | none => rw [hd] at e; cases e
    | some w =>
      cases hr : D.fvs r with
      | none => rw [hd, hr] at e; cases e
      | some us =>
        rw [hd, hr] at e
        cases e
        obtain ⟨rfl, f1⟩ := fv_own hd h1
        obtain ⟨rfl, f2⟩ := fvs_own hr h2
        exact ⟨rfl, by rw [List.all_cons, f1, f2]; rfl⟩
def inB (x y : D) : Option Bool := match y with
  | .tupF _ ys => match x.fv, D.fvs ys with
    | some v, some vs => some (inV v vs)
    | _, _ => none
  | y => match x.py, y.py with
    | some d, some (.list ds) => iff? (SeqAt.shaped d = true ∧ SeqAt.shaped (.list ds) = true) (ds.any fun z => PyData.eqv z d)
    | _, _ => none
theorem inB_some {x y : D} {b : Bool} (h : inB x y = some b) : (∃ f ys v vs, y = .tupF f ys ∧ x.fv = some v ∧ D.fvs ys = some vs ∧ b = inV v vs) ∨ ∃ d ds, x.py = some d ∧ y.py = some (.list ds) ∧ SeqAt.shaped d = true ∧ SeqAt.shaped (.list ds) = true ∧ b = ds.any fun z => PyData.eqv z d := by
  unfold inB at h
  split at h
  · rename_i f ys
    split at h
    · rename_i v vs h1 h2
      cases h
      exact .inl ⟨f, ys, v, vs, rfl, h1, h2, rfl⟩
    · cases h
  · split at h
    · rename_i d ds h1 h2
      obtain ⟨hc, rfl⟩ := iff?_some h
      exact .inr ⟨d, ds, h1, h2, hc.1, hc.2, rfl⟩
    · cases h
abbrev gIn := bin fun a b => (inB a b).map .bl
abbrev gNotIn := bin fun a b => (inB a b).map fun k => .bl (!k)
def rInA (K : PySem.W.Frag) : R2 := fun x y H Q => rInD K x y H Q ∨ rIn K false x y H Q
def rNotInA (K : PySem.W.Frag) : R2 := fun x y H Q => rNotInD K x y H Q ∨ rIn K true x y H Q
theorem rop_in : ROp G (l2 (rInA G.K)) gIn := by
  intro ds vs H Q d h e q
  obtain ⟨a, b, rfl, e⟩ := bin_some e
  obtain ⟨x, y, rfl, h1, h2⟩ := own2 h
  obtain ⟨k, hk, rfl⟩ := map_some' e
  rcases inB_some hk with ⟨f, ys, v, vs, rfl, e1, e2, rfl⟩ | ⟨p, ps, e1, e2, s1, s2, rfl⟩
  · obtain ⟨w, ws, rfl, hH, o⟩ := h2
    obtain ⟨rfl, f1⟩ := fv_own e1 h1
    obtain ⟨rfl, f2⟩ := fvs_own e2 o
    exact .inr ⟨w, ws, rfl, .inr hH.seq, f1, f2, done0 q fun Z => ⟨rfl, rfl⟩⟩
  · exact .inl ⟨p, ps, Own.dp _ _ _ h1 e1, Own.dp _ _ _ h2 e2, s1, s2, done0 q fun Z => ⟨rfl, rfl⟩⟩
theorem rop_notIn : ROp G (l2 (rNotInA G.K)) gNotIn := by
  intro ds vs H Q d h e q
  obtain ⟨a, b, rfl, e⟩ := bin_some e
  obtain ⟨x, y, rfl, h1, h2⟩ := own2 h
  obtain ⟨k, hk, rfl⟩ := map_some' e
  rcases inB_some hk with ⟨f, ys, v, vs, rfl, e1, e2, rfl⟩ | ⟨p, ps, e1, e2, s1, s2, rfl⟩
  · obtain ⟨w, ws, rfl, hH, o⟩ := h2
    obtain ⟨rfl, f1⟩ := fv_own e1 h1
    obtain ⟨rfl, f2⟩ := fvs_own e2 o
    exact .inr ⟨w, ws, rfl, .inr hH.seq, f1, f2, done0 q fun Z => ⟨rfl, rfl⟩⟩
  · exact .inl ⟨p, ps, Own.dp _ _ _ h1 e1, Own.dp _ _ _ h2 e2, s1, s2, done0 q fun Z => ⟨rfl, rfl⟩⟩
theorem pure_in : PureG gIn := by
  intro ds d e
  obtain ⟨a, b, rfl, e⟩ := bin_some e
  obtain ⟨k, hk, rfl⟩ := map_some' e
  rfl
theorem pure_notIn : PureG gNotIn := by
  intro ds d e
  obtain ⟨a, b, rfl, e⟩ := bin_some e
  obtain ⟨k, hk, rfl⟩ := map_some' e
  rfl
theorem op_inA (dx : DX X G) : OpR X (compareOp .In) (rInA X.K) := OpR.or (op_inD (by have := dx.un; omega)) op_in_seq
theorem op_notInA (dx : DX X G) : OpR X (compareOp .NotIn) (rNotInA X.K) := OpR.or (op_notInD (by have := dx.un; omega)) op_notIn_seq
end
end DL
namespace DL
open PySem PySem.Spec PyProof.Rows L2
theorem DXW.blk {X : Cx} {G : Gc} {W : Wsh} {s : Shared} {H : Hp} {scope : Scope} {cenv : Env} {fp : List Addr} (d : DXW X G W) : DXW (X.blk s H scope cenv fp) G Wno :=
  ⟨d.dx.blk, fun _ _ _ h => h.elim, takes0.imp fun c d σ H h => by
    obtain ⟨_, _, _, _, _, h⟩ := h
    exact h.elim⟩
theorem bt_len : bootBuiltins "len" = some (.builtin "len") := by decide +kernel
theorem bt_sorted : bootBuiltins "sorted" = some (.builtin "sorted") := by decide +kernel
theorem bt_tuple : bootBuiltins "tuple" = some (.type "tuple") := by decide +kernel
theorem bt_int : bootBuiltins "int" = some (.type "int") := by decide +kernel
theorem bt_bool : bootBuiltins "bool" = some (.type "bool") := by decide +kernel
section
variable {G : Gc} {W : Wsh} {X : Cx} {e : Expr} {es : List Expr} {p pos : Pos} {t : TA} {hs : List SArg}
theorem p_len (dx : DX X G) (hg : Gl X "len") (hm : X.mg "len" = none) (ha : PA X (e :: es) t) (ht : t = seqTE (hs.map (SArg.te G)) := by rfl) (he : starEach (e :: es) X.env = (false, eval e X.env) :: starEach es X.env := by rfl) (hpl : (backTo pos (starEach es X.env)).any (·.1) = false := by rfl) :
    PE X (.Call (.Name "len" p) (e :: es) [] pos) (TPur G (hOp hs gLen)) :=
  p_callB call_len hg hm bt_len (by rw [dx.K]; exact rop_len) pure_len ha ht (by decide) (by decide) he hpl
theorem e_len (dx : DX X G) (hg : Gl X "len") (hm : X.mg "len" = none) (c : Chn) (ha : PA X (e :: es) t) (ht : t = seqTE (c.tes G W) := by rfl) (hio : c.iofs.any id = false := by rfl) (he : starEach (e :: es) X.env = (false, eval e X.env) :: starEach es X.env := by rfl) (hpl : (backTo pos (starEach es X.env)).any (·.1) = false := by rfl) :
    PE X (.Call (.Name "len" p) (e :: es) [] pos) (TV G W (eOp c gLen)) :=
  e_callB call_len hg hm bt_len (by rw [dx.K]; exact rop_len) c ha ht hio (by decide) (by decide) he hpl
theorem p_int1 (dx : DX X G) (hg : Gl X "int") (hm : X.mg "int" = none) (ha : PA X (e :: es) t) (ht : t = seqTE (hs.map (SArg.te G)) := by rfl) (he : starEach (e :: es) X.env = (false, eval e X.env) :: starEach es X.env := by rfl) (hpl : (backTo pos (starEach es X.env)).any (·.1) = false := by rfl) :
    PE X (.Call (.Name "int" p) (e :: es) [] pos) (TPur G (hOp hs gInt)) :=
  p_callT call_int1 hg hm bt_int rop_int1 pure_int1 ha ht (by decide) (by decide) he hpl
theorem e_tupOf (dx : DX X G) (hg : Gl X "tuple") (hm : X.mg "tuple" = none) (c : Chn) (ha : PA X (e :: es) t) (ht : t = seqTE (c.tes G W) := by rfl) (hio : c.iofs.any id = false := by rfl) (he : starEach (e :: es) X.env = (false, eval e X.env) :: starEach es X.env := by rfl) (hpl : (backTo pos (starEach es X.env)).any (·.1) = false := by rfl) :
    PE X (.Call (.Name "tuple" p) (e :: es) [] pos) (TV G W (eOp c gTupOf)) :=
  e_callT call_tuple_of hg hm bt_tuple (by rw [dx.K]; exact rop_tupOf) c ha ht hio (by decide) (by decide) he hpl
end
end DL
namespace DL
open PySem PySem.Spec PyProof.Rows L2
section
variable {G : Gc} {W : Wsh} {X : Cx} {a b e : Expr} {pos : Pos} {h k : DEnv → Option D} {g : List D → Option D} {r : R2} {op : Operator} {i j : Nat} {u v : DEnv → Option D} {cop : CmpOp}
theorem p_binPP (ho : OpR X (binaryOp op) r) (hr : ROp G (l2 r) g) (hp : PureG g) (ha : PE X a (TPur G h)) (hb : PE X b (TPur G k)) : PE X (.BinOp a op b pos) (TPur G (hOp [.pur h, .pur k] g)) := p_bin (s1 := .pur h) (s2 := .pur k) ho hr hp ha hb
theorem p_cmpPP (ho : OpR X (compareOp cop) r) (hr : ROp G (l2 r) g) (hp : PureG g) (ha : PE X a (TPur G h)) (hb : PE X b (TPur G k)) (hm : behindInMarks cop b = false := by first | exact nomark _ | rfl) : PE X (.Compare a [cop] [b] pos) (TPur G (hOp [.pur h, .pur k] g)) := p_cmp (s1 := .pur h) (s2 := .pur k) ho hr hp ha hb hm
theorem t_cmpPP (ho : OpR X (compareOp cop) r) (hr : ROp G (l2 r) g) (hp : PureG g) (ha : PE X a (TPur G h)) (hb : PE X b (TPur G k)) (hm : behindInMarks cop b = false := by first | exact nomark _ | rfl) : PT X (.Compare a [cop] [b] pos) (TBp G (hB (hOp [.pur h, .pur k] g))) := t_cmp (s1 := .pur h) (s2 := .pur k) ho hr hp ha hb hm
theorem t_cmpPL (ho : OpR X (compareOp cop) r) (hr : ROp G (l2 r) g) (hp : PureG g) (ha : PE X a (TPur G h)) (hb : PE X b (TPlc G j v)) (hm : behindInMarks cop b = false := by first | exact nomark _ | rfl) : PT X (.Compare a [cop] [b] pos) (TBp G (hB (hOp [.pur h, .plc j v] g))) := t_cmp (s1 := .pur h) (s2 := .plc j v) ho hr hp ha hb hm
theorem hu_eq1 (dx : DX X G) : X.A.units + 64 < cLine := by have := dx.un; omega
end
/-- the law's own promise -/
theorem cut_nil {H : Hp} : cut H [] = H := by
  funext a
  unfold cut
  rw [if_neg (by simp)]
end DL
namespace DL
open PySem PySem.Spec PyProof.Rows L2
/-- the built-in type whose methods the data have -/
def tyD (T : String) (d : D) : Bool := match d with
  | .str _ => T == "str"
  | .tupF true _ => T == "tuple"
  | .lst _ => T == "list"
  | .scr _ => T == "list"
  | .dk _ _ => T == "dict"
  | .dt _ _ => T == "dict"
  | _ => false
section
variable {G : Gc} {W : Wsh} {X : Cx}
theorem tyD_ok {H : Hp} {d : D} {v : V} {T : String} (h : Own G H H d v []) (t : tyD T d = true) : tyW G.K T v H := by
  cases d with
  | str s => rw [h.1]; exact .inl (beq_iff_eq.mp t)
  | tupF f xs =>
    cases f with
    | false => cases t
    | true =>
      obtain ⟨a, vs, rfl, ⟨o, hd, e⟩, _⟩ := h
      exact .inr ⟨beq_iff_eq.mp t, a, vs, rfl, o, hd, e⟩
  | lst xs =>
    obtain ⟨a, vs, rfl, hs, _⟩ := h.lstR
    exact .inl (.inl ⟨beq_iff_eq.mp t, vs, hs⟩)
  | scr ns =>
    obtain ⟨_, a, rfl, hs⟩ := h
    exact .inl (.inl ⟨beq_iff_eq.mp t, _, hs⟩)
  | dk ks vs =>
    obtain ⟨a, ws, F', rfl, _, n, _⟩ := h
    rcases n with ⟨e, _⟩ | ⟨z, _⟩
    · exact .inl (.inr (.inr (.inl ⟨beq_iff_eq.mp t, .inl ⟨_, e⟩⟩)))
    · cases z
  | dt ks vs =>
    obtain ⟨a, ws, F', rfl, _, n, _⟩ := h
    rcases n with ⟨e, _⟩ | ⟨z, _⟩
    · exact .inl (.inr (.inr (.inl ⟨beq_iff_eq.mp t, .inr ⟨_, e⟩⟩)))
    · cases z
  | _ => cases t
theorem put_ty {h : DEnv → Option D} {T : String} {σ : L2.St} {H : Hp} {Q : VK} (q : (SArg.put h (tyD T)).te G σ H Q) : TPur G h σ H fun v H1 => tyW G.K T v H1 ∧ Q v H1 := by
  obtain ⟨B, Z, Fs, env, g, d, hd, ht, q⟩ := q
  exact ⟨B, Z, Fs, env, g, d, hd, fun v H' hs hp ho => ⟨tyD_ok (ho H') ht, q v H' hs hp ho⟩⟩
variable {o e : Expr} {es : List Expr} {t : TA} {name : Str} {apos cpos : Pos} {T id' : String} {r : V → List V → Hp → VK → Prop} {h : DEnv → Option D} {i : Nat} {hs : List SArg} {g : List D → Option D}
theorem p_mtP (dx : DX X G) (pa : PlainAttrs T) (slot : PySem.Slot T name id') (hty : typeOf (.builtin id') = pure (.type "method_descriptor")) (hm : MtR X id' r) (hr : ROp G (rvM r) g) (hp : PureG g) (ho : PE X o (TPur G h)) (ha : PA X (e :: es) t)
    (ht : t = seqTE (hs.map (SArg.te G)) := by rfl) (hbase : attributeBase o name X.env (eval o X.env) = eval o X.env := by rfl)
    (hfew : ((backTo cpos (starEach (e :: es) X.env)).all (fun x => !x.1) && (backToKw cpos (keywordEach [] X.env)).all (fun x => x.1.isSome)
      && decide ((e :: es).length + ([] : List Keyword).length + (if ([] : List Keyword).isEmpty then 0 else 1) < 30)) = true := by rfl)
    (hline : (apos.endLine == cpos.line) = true := by rfl) (hst : starEach (e :: es) X.env = (false, eval e X.env) :: starEach es X.env := by rfl) (hplain : (backTo cpos (starEach es X.env)).any (·.1) = false := by rfl) :
    PE X (.Call (.Attribute o name apos) (e :: es) [] cpos) (TPur G (hOp (.put h (tyD T) :: hs) g)) :=
  (pe_bw pa slot hty hm ho ha hbase hfew hline hst hplain).imp fun σ H Q q => by
    have q := put_ty (tpur_op (hs := .put h (tyD T) :: hs) hr hp σ H Q q)
    rw [← dx.K] at q
    rw [ht]
    exact q
def D.strs : List D → Option (List Str)
  | [] => some []
  | .str s :: r => (D.strs r).map (s :: ·)
  | _ => none
theorem map_some2 {α β : Type} {x : Option α} {f : α → β} {b : β} (h : x.map f = some b) : ∃ a, x = some a ∧ f a = b := by
  cases x with
  | none => cases h
  | some a => exact ⟨a, rfl, Option.some.inj h⟩
theorem strs_own {Z H : Hp} : ∀ {ds : List D} {vs : List V} {zs : List Str} {F : List Addr}, D.strs ds = some zs → OwnL G Z H ds vs F → vs = zs.map V.str
  | [], _, _, _, e, h => by
    cases e
    rw [h.1]; rfl
  | d :: ds, vs, zs, F, e, h => by
    obtain ⟨v, r, F1, F2, rfl, _, h1, h2⟩ := h
    cases d with
    | str s =>
      obtain ⟨zs', e', rfl⟩ := map_some2 (show (D.strs ds).map (s :: ·) = some zs from e)
      rw [strs_own e' h2, h1.1]
      rfl
    | _ => cases e
theorem bind_some2 {α β : Type} {x : Option α} {f : α → Option β} {b : β} (h : x.bind f = some b) : ∃ a, x = some a ∧ f a = some b := by
  cases x with
  | none => cases h
  | some a => exact ⟨a, rfl, h⟩
def fTIx (a b : D) : Option D := match a, b with
  | .tupF true xs, .str z => (D.strs xs).bind fun ys => (ys.findIdx? (· == z)).map fun (j : Nat) => D.int (j : Int)
  | _, _ => none
abbrev gTIx := bin fTIx
theorem rop_tIx {Y : Cx} (hY : Y.K = G.K) : ROp G (rvM (fun x xs H Q => ∃ p, ∃ ys : List Str, ∃ z j, x = .ref p ∧ xs = [.str z] ∧ SqT Y.K H p (ys.map V.str) ∧ ys[j]? = some z ∧ (∀ m, m < j → ys[m]? ≠ some z) ∧ Q (.int (j : Nat)) H)) gTIx := by
  intro ds vs H Q d h e q
  obtain ⟨a, b, rfl, e⟩ := bin_some e
  obtain ⟨x, y, rfl, h1, h2⟩ := own2 h
  replace e : fTIx a b = some d := e
  unfold fTIx at e
  split at e
  · rename_i xs z _
    obtain ⟨ys, hy, e⟩ := bind_some2 e
    obtain ⟨j, hj, rfl⟩ := map_some2 e
    obtain ⟨hl, hz, hno⟩ := List.findIdx?_eq_some_iff_getElem.mp hj
    obtain ⟨p, ws, rfl, hs, o⟩ := h1
    have := strs_own hy o
    subst this
    refine ⟨p, ys, z, j, rfl, by rw [h2.1], by rw [hY]; exact hs.seq, by rw [List.getElem?_eq_getElem hl]; exact congrArg some (beq_iff_eq.mp hz), fun m hm e => ?_, done0 q fun Z => ⟨rfl, rfl⟩⟩
    obtain ⟨h3, h4⟩ := List.getElem?_eq_some_iff.mp e
    exact hno m hm (beq_iff_eq.mpr h4)
  · cases e
theorem pure_tIx : PureG gTIx := by
  intro ds d e
  obtain ⟨a, b, rfl, e⟩ := bin_some e
  replace e : fTIx a b = some d := e
  unfold fTIx at e
  split at e
  · obtain ⟨ys, hy, e⟩ := bind_some2 e
    obtain ⟨j, hj, rfl⟩ := map_some2 e
    rfl
  · cases e
theorem p_tIx (dx : DX X G) (ho : PE X o (TPur G h)) (ha : PA X (e :: es) t)
    (ht : t = seqTE (hs.map (SArg.te G)) := by rfl) (hbase : attributeBase o "index" X.env (eval o X.env) = eval o X.env := by rfl)
    (hfew : ((backTo cpos (starEach (e :: es) X.env)).all (fun x => !x.1) && (backToKw cpos (keywordEach [] X.env)).all (fun x => x.1.isSome)
      && decide ((e :: es).length + ([] : List Keyword).length + (if ([] : List Keyword).isEmpty then 0 else 1) < 30)) = true := by rfl)
    (hline : (apos.endLine == cpos.line) = true := by rfl) (hst : starEach (e :: es) X.env = (false, eval e X.env) :: starEach es X.env := by rfl) (hplain : (backTo cpos (starEach es X.env)).any (·.1) = false := by rfl) :
    PE X (.Call (.Attribute o "index" apos) (e :: es) [] cpos) (TPur G (hOp (.put h (tyD "tuple") :: hs) gTIx)) :=
  p_mtP dx F.plainAttrs_tuple F.slot_tuple_index F.type_tuple_index mt_tup_index (rop_tIx dx.K) pure_tIx ho ha ht hbase hfew hline hst hplain
def fTupX (d : D) : Option D := match d with
  | .lst xs => iff? (D.pureL xs = true) (.tupF true xs)
  | _ => none
abbrev gTupX := una fTupX
theorem fTupX_some {a d : D} (e : fTupX a = some d) : ∃ xs, D.pureL xs = true ∧ a = .lst xs ∧ d = .tupF true xs := by
  cases a with
  | lst xs => obtain ⟨h, rfl⟩ := iff?_some e; exact ⟨xs, h, rfl, rfl⟩
  | _ => cases e
theorem rop_tupX : ROp G (rTupX G.K) gTupX := by
  intro ds vs H Q d h e q
  obtain ⟨a, rfl, e⟩ := una_some e
  obtain ⟨x, rfl, h1⟩ := own1 h
  obtain ⟨xs, hp, rfl, rfl⟩ := fTupX_some e
  obtain ⟨p, ys, rfl, hs, o⟩ := h1.lstR
  refine ⟨p, ys, rfl, hs, fun l ob hn hd => q _ _ [] (same_upd hn) (fun Z => ?_) List.nodup_nil fun b m => by cases m⟩
  exact ⟨l, ys, rfl, ⟨ob, hd, upd_same⟩, OwnL.keep (Same.refl Z) xs ys [] (fun b u e _ => same_upd hn b u e) (OwnL.pure_any hp o)⟩
def encD (d : D) : PyData := (d.py).getD .none
def isTup1 : PyData → Bool
  | .tuple (_ :: _) => true
  | _ => false
def isOther : PyData → Bool
  | .none => false
  | .tuple _ => false
  | _ => true
def sortB (ps : List PyData) : Bool := (ps.all fun d => ps.all fun e => PySem.W.alike d e) && (ps.all isTup1 || ps.all isOther) && ps.all fun d => decide (d.depth ≤ 60)
def sortL (xs : List D) : List D := xs.mergeSort (PySem.W.dataLe false encD)
def fSorted (d : D) : Option D := match d with
  | .lst xs => iff? (D.pureL xs = true ∧ (xs.all fun x => x.py.isSome) = true ∧ sortB (xs.map encD) = true) (.lst (sortL xs))
  | _ => none
abbrev gSorted := una fSorted
theorem OwnL.each {Y H : Hp} : ∀ {ds : List D} {vs : List V}, OwnL G Y H ds vs [] → ∀ p ∈ vs.zip ds, Own G Y H p.2 p.1 []
  | [], vs, h => by rw [h.1]; intro p m; cases m
  | d :: ds, vs, h => by
    obtain ⟨v, r, rfl, h1, h2⟩ := OwnL.uncons h
    intro p m
    rcases List.mem_cons.mp m with rfl | m
    · exact h1
    · exact OwnL.each h2 p m
theorem OwnL.of_each {Y H : Hp} : ∀ {ps : List (V × D)}, (∀ p ∈ ps, Own G Y H p.2 p.1 []) → OwnL G Y H (ps.map (·.2)) (ps.map (·.1)) []
  | [], _ => ⟨rfl, rfl⟩
  | p :: ps, h => OwnL.cons_nil (h p List.mem_cons_self) (OwnL.of_each fun q m => h q (List.mem_cons_of_mem _ m))
theorem sortB_ok {ps : List PyData} (h : sortB ps = true) : PySem.W.AllAlike ps ∧ PySem.W.Sortable ps ∧ ∀ d ∈ ps, d.depth ≤ 60 := by
  unfold sortB at h
  simp only [Bool.and_eq_true, Bool.or_eq_true, List.all_eq_true, decide_eq_true_eq] at h
  obtain ⟨⟨h1, h2⟩, h3⟩ := h
  refine ⟨fun d hd e he => h1 d hd e he, ?_, h3⟩
  rcases h2 with h2 | h2
  · refine .inl fun d hd => ?_
    have := h2 d hd
    match d, this with
    | .tuple (x :: r), _ => exact ⟨x, r, rfl⟩
  · refine .inr fun d hd => ?_
    have := h2 d hd
    refine ⟨fun e => ?_, fun xs e => ?_⟩ <;> subst e <;> cases this
theorem pureL_perm {xs ys : List D} (hp : xs.Perm ys) (h : D.pureL xs = true) : D.pureL ys = true := by
  have key : ∀ l : List D, (D.pureL l = true ↔ ∀ d ∈ l, d.pure = true) := fun l => by
    induction l with
    | nil => exact ⟨fun _ d m => (nomatch m), fun _ => rfl⟩
    | cons d r ih =>
      show (d.pure && D.pureL r) = true ↔ _
      rw [Bool.and_eq_true, ih]
      exact ⟨fun ⟨a, b⟩ d m => (List.mem_cons.mp m).elim (fun e => e ▸ a) (b d), fun z => ⟨z d List.mem_cons_self, fun e m => z e (List.mem_cons_of_mem _ m)⟩⟩
  exact (key ys).mpr fun d m => (key xs).mp h d (hp.mem_iff.mpr m)
theorem sortL_perm (xs : List D) : (sortL xs).Perm xs := List.mergeSort_perm _ _
theorem rop_sorted : ROp G (rSortD G.K) gSorted := by
  intro ds vs H Q d h e q
  obtain ⟨a, rfl, e⟩ := una_some e
  obtain ⟨x, rfl, h1⟩ := own1 h
  replace e : fSorted a = some d := e
  unfold fSorted at e
  split at e
  · rename_i xs _
    obtain ⟨⟨hp, hy, hb⟩, rfl⟩ := iff?_some e
    obtain ⟨p, ys, hv, hs, o⟩ := h1.lstR
    subst hv
    have hl : ys.length = xs.length := OwnL.length o
    have e1 : (ys.zip xs).map (·.1) = ys := List.map_fst_zip (Nat.le_of_eq hl)
    have e2 : (ys.zip xs).map (·.2) = xs := List.map_snd_zip (Nat.le_of_eq hl.symm)
    have e3 : ((ys.zip xs).map fun b => encD b.2) = xs.map encD := by
      rw [show (fun b : V × D => encD b.2) = encD ∘ (·.2) from rfl, ← List.map_map, e2]
    obtain ⟨k1, k2, k3⟩ := sortB_ok hb
    have ho := OwnL.each o
    refine ⟨D, encD, p, List.zip ys xs, rfl, by rw [e1]; exact hs, fun b m => ?_, by rw [e3]; exact k1, by rw [e3]; exact k2, fun b m => k3 _ (by rw [← e3]; exact List.mem_map.mpr ⟨b, m, rfl⟩), fun l hn => ?_⟩
    · have hb2 : b.2 ∈ xs := by rw [← e2]; exact List.mem_map.mpr ⟨b, m, rfl⟩
      have := List.all_eq_true.mp hy _ hb2
      refine Own.dp _ _ _ (ho b m) ?_
      unfold encD
      cases hh : b.2.py with
      | none => rw [hh] at this; cases this
      | some z => rfl
    · have e4 : ((ys.zip xs).mergeSort (PySem.W.dataLe false fun b => encD b.2)).map (·.2) = sortL xs := by
        have e5 := List.map_mergeSort (r := PySem.W.dataLe false fun b : V × D => encD b.2) (s := PySem.W.dataLe false encD) (f := fun b : V × D => b.2) (l := List.zip ys xs) (fun a _ b _ => rfl)
        rw [e5, e2]
        rfl
      have o2 : OwnL G H H (sortL xs) (((ys.zip xs).mergeSort (PySem.W.dataLe false fun b => encD b.2)).map (·.1)) [] := by
        rw [← e4]
        exact OwnL.of_each fun b m => ho b (List.mem_mergeSort.mp m)
      exact q _ _ [l] (same_upd hn) (fun Z => new_lst (pureL_perm (sortL_perm xs).symm hp) hn o2 Z) one_nodup fun b m => by rw [List.mem_singleton.mp m]; exact hn
  · cases e
variable {p pos : Pos}
theorem e_tupX (dx : DX X G) (hg : Gl X "tuple") (hm : X.mg "tuple" = none) (c : Chn) (ha : PA X (e :: es) t) (ht : t = seqTE (c.tes G W) := by rfl) (hio : c.iofs.any id = false := by rfl) (he : starEach (e :: es) X.env = (false, eval e X.env) :: starEach es X.env := by rfl) (hpl : (backTo pos (starEach es X.env)).any (·.1) = false := by rfl) :
    PE X (.Call (.Name "tuple" p) (e :: es) [] pos) (TV G W (eOp c gTupX)) :=
  e_callT call_tupX hg hm bt_tuple (r := rTupX X.K) (by rw [dx.K]; exact rop_tupX) c ha ht hio (by decide) (by decide) he hpl
theorem e_sorted (dx : DX X G) (hg : Gl X "sorted") (hm : X.mg "sorted" = none) (c : Chn) (ha : PA X (e :: es) t) (ht : t = seqTE (c.tes G W) := by rfl) (hio : c.iofs.any id = false := by rfl) (he : starEach (e :: es) X.env = (false, eval e X.env) :: starEach es X.env := by rfl) (hpl : (backTo pos (starEach es X.env)).any (·.1) = false := by rfl) :
    PE X (.Call (.Name "sorted" p) (e :: es) [] pos) (TV G W (eOp c gSorted)) :=
  e_callB (cr_sortD (by have := dx.un; omega)) hg hm bt_sorted (r := rSortD X.K) (by rw [dx.K]; exact rop_sorted) c ha ht hio (by decide) (by decide) he hpl
end
end DL
namespace DL
open PySem PySem.Spec PyProof.Rows L2
section
variable {G : Gc} {W : Wsh} {X : Cx}
/-- values bound to names, one each, owned -/
def putsS : List Nat → List D → DEnv → Option DEnv
  | [], [], e => some e
  | i :: is, d :: ds, e => match putS i d e with
    | some e' => putsS is ds e'
    | none => none
  | _, _, _ => none
def gNames : List Nat → TGs
  | [] => gNil
  | i :: is => gCons (gName i) (gNames is)
theorem puts_len : ∀ {is : List Nat} {ds : List D} {e e' : DEnv}, putsS is ds e = some e' → ds.length = is.length
  | [], [], _, _, _ => rfl
  | [], _ :: _, _, _, h => by cases h
  | _ :: _, [], _, _, h => by cases h
  | i :: is, d :: ds, e, e', h => by
    unfold putsS at h
    split at h
    · rw [List.length_cons, List.length_cons, puts_len h]
    · cases h
theorem puts_ok {B Z H : Hp} : ∀ {is : List Nat} {ds : List D} {vs : List V} {F : List Addr} {σ : L2.St} {env e2 : DEnv} {Fs : Nat → List Addr} {Q : L2.St → Hp → Prop}, Good G B Z H σ env Fs → OwnL G Z H ds vs F → F.Nodup → (∀ a, a ∈ F → ¬ InF Fs a) → (∀ a, a ∈ F → B a = none ∧ Z a = none) → putsS is ds env = some e2 →
    (∀ σ2 Fs2, Stp G B Z H σ env (fun a => InF Fs a ∨ a ∈ F) Z H σ2 e2 Fs2 → Q σ2 H) → gNames is vs σ H Q
  | [], [], vs, F, σ, env, e2, Fs, Q, g, ho, nd, dj, fr, h, q => by
    cases h
    exact ⟨ho.1, q σ Fs (Stp.refl g fun a m => .inl m)⟩
  | [], _ :: _, _, _, _, _, _, _, _, _, _, _, _, _, h, _ => by cases h
  | _ :: _, [], _, _, _, _, _, _, _, _, _, _, _, _, h, _ => by cases h
  | i :: is, d :: ds, vs, F, σ, env, e2, Fs, Q, g, ho, nd, dj, fr, h, q => by
    obtain ⟨v, r, F1, F2, rfl, rfl, h1, h2⟩ := ho
    unfold putsS at h
    cases hp : putS i d env with
    | none => rw [hp] at h; cases h
    | some e1 =>
      rw [hp] at h
      obtain ⟨n1, n2, n3⟩ := List.nodup_append.mp nd
      have s1 : Stp G B Z H σ env (fun a => InF Fs a ∨ a ∈ F1 ++ F2) Z H (σ.set i (some v)) e1 (onF Fs i F1) := Stp.put g (fun a m => .inl m) (fun a m => .inr (List.mem_append_left _ m)) ⟨h1, n1, fun a m => dj a (List.mem_append_left _ m), fun a m => fr a (List.mem_append_left _ m)⟩ hp
      refine ⟨v, r, rfl, puts_ok (is := is) (ds := ds) s1.good h2 n2 (fun a m z => ?_) (fun a m => fr a (List.mem_append_right _ m)) h fun σ2 Fs2 s2 => q σ2 Fs2 ?_⟩
      · rcases inF_on z with z | z
        · exact n3 a z a m rfl
        · exact dj a (List.mem_append_right _ m) z
      · refine s1.trans (fun a m => .inr ?_) s2
        rcases m with m | m
        · rcases inF_on m with m | m
          · exact .inr (List.mem_append_left _ m)
          · exact .inl m
        · exact .inr (List.mem_append_right _ m)
def sUnp (is : List Nat) (f : DEnv → Out (D × DEnv)) : Stm := fun env => f env >>= fun p => match p.1.toTupA with
  | some ds => must (putsS is ds p.2) fun e => .ok (.nx e)
  | none => .bad
theorem s_unp {tg e : Expr} {pos : Pos} {n : Nat} {f : DEnv → Out (D × DEnv)} (is : List Nat) (dx : DX X G) (hn : n = is.length) (hg : PG X tg (gTup X.K n (gNames is))) (he : PE X e (TV G W f)) (hs : swapsWithSole [tg] e pos.line X.env = pure false := by rfl) (hw : swappedStores [tg] e X.env = pure none := by rfl)
    (h1 : (assignEach [tg] X.env).map (·.2) = [assign tg X.env] := by rfl) : PS X (.Assign [tg] e pos) (TSt G W (sUnp is f)) :=
  (ps_asg he hg hs hw h1).imp fun En σ H ⟨B, Z, Fs, env, gd, q⟩ => by
    refine ⟨B, Z, Fs, env, gd, ?_⟩
    unfold sUnp at q
    unfold FinV
    match f env, q with
    | .exc c, q => exact q σ (AgL.refl gd)
    | .ok (d, e'), q =>
      intro v Z' H' Fs' F p
      have q2 : FinS G W B Z H σ env (InF Fs) (match d.toTupA with
        | some ds => must (putsS is ds e') fun e => .ok (.nx e)
        | none => .bad) En := q
      clear q
      cases hd : d.toTupA with
      | none => rw [hd] at q2; exact q2.elim
      | some ds =>
        rw [hd] at q2
        cases hput : putsS is ds e' with
        | none => simp only [hput] at q2; exact q2.elim
        | some e2 =>
          simp only [hput] at q2
          replace q2 : FinS G W B Z H σ env (InF Fs) (.ok (.nx e2)) En := q2
          obtain ⟨fl, rfl⟩ := D.toTupA_some hd
          obtain ⟨a, vs, rfl, ht, o⟩ := p.one
          refine ⟨a, vs, rfl, by rw [dx.K]; exact ht.seq, by rw [OwnL.length o, puts_len hput, hn], ?_⟩
          refine puts_ok p.st.good o p.nd p.dj p.fr hput fun σ2 Fs2 s2 => ?_
          exact q2 _ _ _ _ (p.st.trans (fun a m => m.elim (p.st.new a) (p.new a)) s2)

def enumD : Nat → List D → List D
  | _, [] => []
  | i, x :: xs => .tup [.int (i : Int), x] :: enumD (i + 1) xs
theorem enumD_at : ∀ (k : Nat) (xs : List D) (i : Nat) (z : D), (enumD k xs)[i]? = some z → ∃ x, xs[i]? = some x ∧ z = .tup [.int ((k + i : Nat) : Int), x]
  | k, [], i, z, h => by cases i <;> cases h
  | k, x :: xs, 0, z, h => ⟨x, rfl, (Option.some.inj h).symm⟩
  | k, x :: xs, i + 1, z, h => by
    obtain ⟨y, h1, h2⟩ := enumD_at (k + 1) xs i z h
    exact ⟨y, h1, by rw [h2, show k + 1 + i = k + (i + 1) from by omega]⟩
theorem enumD_length : ∀ (k : Nat) (xs : List D), (enumD k xs).length = xs.length
  | _, [] => rfl
  | k, x :: xs => by show (enumD (k + 1) xs).length + 1 = _; rw [enumD_length]; rfl
def mkEnum : List D → Option (List D)
  | [.lst xs] => some (enumD 0 xs)
  | _ => none
theorem enum_fits : fits G (fun vs H R => ∃ a xs, vs = [.ref a] ∧ SqL G.K H a xs ∧ R (Ite G.K a) H) mkEnum := by
  intro ds vs Y H zs R ho hy hx q
  unfold mkEnum at hx
  split at hx
  · rename_i xs
    cases hx
    obtain ⟨v, r, rfl, h1, h2⟩ := OwnL.uncons ho
    obtain ⟨rfl, _⟩ := h2
    obtain ⟨a, ws, F', rfl, n, o⟩ := h1
    have hq : ∀ H' : Hp, Same Y H' → SqL G.K H' a ws := fun H' y => by
      rcases n with ⟨h1 | ⟨ob, h1⟩, _⟩ | ⟨z, _⟩
      · exact SqL.of (y _ _ h1)
      · exact .inl (.inr ⟨ob, y _ _ h1⟩)
      · cases z
    have hF : F' = [] := by
      rcases n with ⟨_, _, e⟩ | ⟨z, _⟩
      · exact e
      · cases z
    subst hF
    refine ⟨a, ws, rfl, hq H hy, q _ H (Same.refl H) fun i H' y t => ⟨fun z e => ?_, fun hl => ?_⟩⟩
    · obtain ⟨dx, e1, rfl⟩ := enumD_at _ _ _ _ e
      obtain ⟨vx, ex, hvx⟩ := OwnL.at o e1
      refine ⟨⟨ws, vx, hq H' y, ex⟩, fun w H2 yy => ?_⟩
      obtain ⟨T, x', rfl, hT, eH, f1⟩ := yy
      have q1 := f1 ws (hq H' y)
      rw [ex] at q1
      cases q1
      rw [Nat.zero_add]
      exact pair_new hT eH ⟨rfl, rfl⟩ (Own.keepT (Same.refl Y) t hvx)
    · rw [enumD_length] at hl
      exact ⟨ws, hq H' y, by rw [OwnL.length o]; exact Nat.le_of_eq hl.symm⟩
  · cases hx
theorem i_enum {elts : List Expr} {kk : Nat} {tpos : Pos} {e : Expr} {ta : TA} {p pos : Pos} (ops : List Opn) (dx : DX X G) (hg : Gl X "enumerate") (hm : X.mg "enumerate" = none) (ha : PA X [e] ta) (ht : ta = seqTE (ops.map (Opn.te G W)) := by rfl) (hs : starEach [e] X.env = [(false, eval e X.env)] := by rfl) :
    PI X (.Tuple elts kk tpos) (.Call (.Name "enumerate" p) [e] [] pos) (TSrc G W ops mkEnum) :=
  src_ok (r := fun vs H R => ∃ a xs, vs = [.ref a] ∧ SqL X.K H a xs ∧ R (Ite X.K a) H) (by rw [dx.K]; exact enum_fits) (by subst ht; exact pi_enum hg hm ha hs)

end
end DL
namespace DL
open PySem PySem.Spec PyProof.Rows L2
section
variable {G : Gc} {W : Wsh} {X : Cx}
end
end DL
namespace DL
open PySem PySem.Spec PyProof.Rows L2
section
variable {G : Gc} {W : Wsh} {X : Cx}
end
end DL
namespace DL
open PySem PySem.Spec PyProof.Rows L2
def keyD : D → Option Key
  | .int i => some (.inl i)
  | .str s => some (.inr s)
  | _ => none
def keysL : List D → Option (List Key)
  | [] => some []
  | d :: r => match keyD d, keysL r with
    | some k, some ks => some (k :: ks)
    | _, _ => none
def keysD : D → Option (List Key)
  | .tupF false xs => keysL xs
  | _ => none
section
variable {G : Gc} {W : Wsh} {X : Cx}
theorem keyD_own {Z H : Hp} {d : D} {v : V} {F : List Addr} {k : Key} (e : keyD d = some k) (h : Own G Z H d v F) : v = kV k := by
  cases d with
  | int i => cases e; exact h.1
  | str i => cases e; exact h.1
  | _ => cases e
theorem keysL_own {Z H : Hp} : ∀ {ds : List D} {vs : List V} {F : List Addr} {ks : List Key}, keysL ds = some ks → OwnL G Z H ds vs F → vs = ks.map kV
  | [], _, _, _, e, h => by cases e; exact h.1
  | d :: ds, vs, F, ks, e, h => by
    obtain ⟨v, r, F1, F2, rfl, rfl, h1, h2⟩ := h
    have e : (match keyD d, keysL ds with
      | some k, some ks => some (k :: ks)
      | _, _ => none) = some ks := e
    cases hk : keyD d with
    | none => rw [hk] at e; cases e
    | some k =>
      cases hs : keysL ds with
      | none => rw [hk, hs] at e; cases e
      | some ks2 =>
        rw [hk, hs] at e
        cases e
        rw [keyD_own hk h1, keysL_own hs h2]
        rfl
theorem keysD_own {Z H : Hp} {d : D} {v : V} {F : List Addr} {k : List Key} (e : keysD d = some k) (h : Own G Z H d v F) : ∃ a, v = .ref a ∧ H a = some (.tup (k.map kV)) := by
  unfold keysD at e
  split at e
  · rename_i xs
    obtain ⟨a, vs, rfl, h1, h2⟩ := h
    have := keysL_own e h2
    subst this
    exact ⟨a, rfl, h1⟩
  · cases e
theorem pureL_mem {l : List D} (h : ∀ d ∈ l, d.pure = true) : D.pureL l = true := by
  induction l with
  | nil => rfl
  | cons d r ih =>
    show (d.pure && D.pureL r) = true
    rw [h d List.mem_cons_self, ih fun e m => h e (List.mem_cons_of_mem _ m)]
    rfl
section
variable {κ : Type} [DecidableEq κ]
def lookP (ks : List κ) (ds : List D) (k : κ) : Option D := ((ks.zip ds).find? fun p => decide (p.1 = k)).map (·.2)
def putG {α : Type} (kvs : List (κ × α)) (k : κ) (v : α) : List (κ × α) :=
  if (kvs.any fun kv => decide (kv.1 = k)) = true then kvs.map (fun kv => if kv.1 = k then (kv.1, v) else kv) else kvs ++ [(k, v)]
theorem look_own {Y H : Hp} {k : κ} : ∀ {ks : List κ} {ds : List D} {vs : List V}, OwnL G Y H ds vs [] → ks.length = vs.length → (∀ d, lookP ks ds k = some d → ∃ v, valV (ks.zip vs) k = some v ∧ Own G Y H d v []) ∧ (lookP ks ds k = none → valV (ks.zip vs) k = none)
  | [], ds, vs, h, l => by
    have : vs = [] := List.eq_nil_of_length_eq_zero l.symm
    subst this
    exact ⟨fun d e => (nomatch (show (none : Option D) = some d from e)), fun _ => rfl⟩
  | k0 :: ks, ds, vs, h, l => by
    cases ds with
    | nil => rw [h.1] at l; cases l
    | cons d0 ds =>
      obtain ⟨v0, r, rfl, h1, h2⟩ := OwnL.uncons h
      have ih := look_own (k := k) h2 (by simpa using l)
      by_cases hk : k0 = k
      · refine ⟨fun d e => ?_, fun e => ?_⟩
        · have : lookP (k0 :: ks) (d0 :: ds) k = some d0 := by simp [lookP, hk]
          rw [this] at e
          cases e
          exact ⟨v0, by simp [valV, hk], h1⟩
        · have : lookP (k0 :: ks) (d0 :: ds) k = some d0 := by simp [lookP, hk]
          rw [this] at e
          cases e
      · have e1 : lookP (k0 :: ks) (d0 :: ds) k = lookP ks ds k := by simp [lookP, hk]
        have e2 : valV ((k0 :: ks).zip (v0 :: r)) k = valV (ks.zip r) k := by simp [valV, hk]
        rw [e1, e2]
        exact ih
theorem putG_map {α β : Type} (f : α → β) (L : List (κ × α)) (k : κ) (a : α) : (putG L k a).map (fun p => (p.1, f p.2)) = putG (L.map fun p => (p.1, f p.2)) k (f a) := by
  unfold putG
  have e : ((L.map fun p => (p.1, f p.2)).any fun kv => decide (kv.1 = k)) = L.any fun kv => decide (kv.1 = k) := by rw [List.any_map]; rfl
  rw [e]
  split
  · rw [List.map_map, List.map_map]
    refine List.map_congr_left fun p _ => ?_
    simp only [Function.comp]
    split <;> rfl
  · rw [List.map_append]; rfl
theorem putG_mem {α : Type} {L : List (κ × α)} {k : κ} {a : α} {p : κ × α} (h : p ∈ putG L k a) : p ∈ L ∨ p.2 = a := by
  unfold putG at h
  split at h
  · obtain ⟨q, hq, rfl⟩ := List.mem_map.mp h
    split
    · exact .inr rfl
    · exact .inl hq
  · rcases List.mem_append.mp h with h | h
    · exact .inl h
    · rw [List.mem_singleton.mp h]; exact .inr rfl
/-- keys and values behind d[k] = x -/
def putKs (ks : List κ) (ds : List D) (k : κ) (x : D) : List κ := (putG (ks.zip ds) k x).map (·.1)
def putVs (ks : List κ) (ds : List D) (k : κ) (x : D) : List D := (putG (ks.zip ds) k x).map (·.2)
theorem zip3 : ∀ (ks : List κ) (vs : List V) (ds : List D), vs.length = ds.length → ((ks.zip (vs.zip ds)).map fun p => (p.1, p.2.1)) = ks.zip vs ∧ ((ks.zip (vs.zip ds)).map fun p => (p.1, p.2.2)) = ks.zip ds
  | [], _, _, _ => ⟨rfl, rfl⟩
  | k :: ks, [], [], _ => ⟨rfl, rfl⟩
  | k :: ks, v :: vs, d :: ds, h => by
    obtain ⟨h1, h2⟩ := zip3 ks vs ds (by simpa using h)
    rw [List.zip_cons_cons, List.zip_cons_cons, List.map_cons, List.map_cons, h1, h2]
    exact ⟨rfl, rfl⟩
  | k :: ks, [], d :: ds, h => by cases h
  | k :: ks, v :: vs, [], h => by cases h
theorem put_own {Y H : Hp} {ks : List κ} {ds : List D} {vs : List V} {k : κ} {x : D} {v : V} (h : OwnL G Y H ds vs []) (hx : Own G Y H x v []) (l : ks.length = vs.length) : ∃ ws, OwnL G Y H (putVs ks ds k x) ws [] ∧ (putKs ks ds k x).length = ws.length ∧ putK (ks.zip vs) k v = (putKs ks ds k x).zip ws := by
  have ld := OwnL.length h
  generalize hL : ks.zip (vs.zip ds) = L
  have e1 : (L.map fun p => (p.1, p.2.1)) = ks.zip vs := by
    rw [← hL]; exact (zip3 ks vs ds ld).1
  have e2 : (L.map fun p => (p.1, p.2.2)) = ks.zip ds := by
    rw [← hL]; exact (zip3 ks vs ds ld).2
  have q1 := putG_map (fun p : V × D => p.1) L k (v, x)
  have q2 := putG_map (fun p : V × D => p.2) L k (v, x)
  rw [e1] at q1
  rw [e2] at q2
  have ho : ∀ p ∈ putG L k (v, x), Own G Y H p.2.2 p.2.1 [] := fun p hp => by
    rcases putG_mem hp with hp | hp
    · rw [← hL] at hp
      have := (List.of_mem_zip hp).2
      exact OwnL.each h p.2 this
    · rw [hp]; exact hx
  have ho2 := OwnL.of_each (ps := (putG L k (v, x)).map (·.2)) fun p hp => by
    obtain ⟨q, hq, rfl⟩ := List.mem_map.mp hp
    exact ho q hq
  rw [List.map_map, List.map_map] at ho2
  have k1 : putVs ks ds k x = (putG L k (v, x)).map ((·.2) ∘ (·.2)) := by
    unfold putVs
    rw [← q2, List.map_map]; rfl
  have k2 : putKs ks ds k x = (putG L k (v, x)).map (·.1) := by
    unfold putKs
    rw [← q2, List.map_map]; rfl
  refine ⟨_, by rw [k1]; exact ho2, by rw [k2]; simp, ?_⟩
  show putG (ks.zip vs) k v = _
  rw [k2, ← q1]
  generalize putG L k (v, x) = M
  induction M with
  | nil => rfl
  | cons p M ih => simp only [List.map_cons, List.zip_cons_cons, ih]; rfl
end
theorem dk_read {H : Hp} {ks : List Key} {ds : List D} {x : V} (h : Own G H H (.dk ks ds) x []) : ∃ a ws, x = .ref a ∧ ks.length = ws.length ∧ H a = some (.dK (ks.zip ws)) ∧ OwnL G H H ds ws [] := by
  obtain ⟨a, ws, F', rfl, l, n, o⟩ := h
  rcases n with ⟨h1, _, rfl⟩ | ⟨z, _⟩
  · exact ⟨a, ws, rfl, l, h1, o⟩
  · cases z
theorem dt_read {H : Hp} {ks : List (List Key)} {ds : List D} {x : V} (h : Own G H H (.dt ks ds) x []) : ∃ a ws, x = .ref a ∧ ks.length = ws.length ∧ H a = some (.dT (ks.zip ws)) ∧ OwnL G H H ds ws [] := by
  obtain ⟨a, ws, F', rfl, l, n, o⟩ := h
  rcases n with ⟨h1, _, rfl⟩ | ⟨z, _⟩
  · exact ⟨a, ws, rfl, l, h1, o⟩
  · cases z
def fLook (dd k : D) : Option (Option D) := match dd with
  | .dk ks vs => (keyD k).map fun k => lookP ks vs k
  | .dt ks vs => (keysD k).map fun k => lookP ks vs k
  | _ => none
theorem look_get {H : Hp} {dd k : D} {x y : V} {r : Option D} (e : fLook dd k = some r) (h1 : Own G H H dd x []) (h2 : Own G H H k y []) : ∃ a o, x = .ref a ∧ DGet H a y o ∧ (∀ d, r = some d → ∃ v, o = some v ∧ Own G H H d v []) ∧ (r = none → o = none) := by
  unfold fLook at e
  split at e
  · rename_i ks vs
    obtain ⟨k2, hk, rfl⟩ := map_some2 e
    obtain ⟨a, ws, rfl, l, hH, o⟩ := dk_read h1
    have := keyD_own hk h2
    subst this
    obtain ⟨q1, q2⟩ := look_own (k := k2) o l
    exact ⟨a, _, rfl, .inl ⟨_, k2, .inl hH, rfl, rfl⟩, fun d e => q1 d e, q2⟩
  · rename_i ks vs
    obtain ⟨k2, hk, rfl⟩ := map_some2 e
    obtain ⟨a, ws, rfl, l, hH, o⟩ := dt_read h1
    obtain ⟨b, rfl, hb⟩ := keysD_own hk h2
    obtain ⟨q1, q2⟩ := look_own (k := k2) o l
    exact ⟨a, _, rfl, .inr ⟨_, k2, b, .inl hH, rfl, hb, rfl⟩, fun d e => q1 d e, q2⟩
  · cases e
def fDGet (dd k : D) : Option D := match fLook dd k with
  | some (some d) => iff? (d.pure = true) d
  | _ => none
abbrev gDGet := bin fDGet
def fDIn (f : Bool → Bool) (k dd : D) : Option D := (fLook dd k).map fun r => .bl (f r.isSome)
abbrev gDNotIn := bin (fDIn not)
def rDGet : R2 := fun x y H Q => ∃ a v, x = .ref a ∧ DGet H a y (some v) ∧ Q v H
def rDNotIn : R2 := fun y x H Q => ∃ a o, x = .ref a ∧ DGet H a y o ∧ Q (.bl (!o.isSome)) H
theorem fDGet_some {dd k d : D} (h : fDGet dd k = some d) : fLook dd k = some (some d) ∧ d.pure = true := by
  unfold fDGet at h
  split at h
  · rename_i d2 e
    obtain ⟨hp, rfl⟩ := iff?_some h
    exact ⟨e, hp⟩
  · cases h
theorem rop_dget : ROp G (l2 rDGet) gDGet := by
  intro ds vs H Q d h e q
  obtain ⟨a, b, rfl, e⟩ := bin_some e
  obtain ⟨x, y, rfl, h1, h2⟩ := own2 h
  obtain ⟨e, hp⟩ := fDGet_some e
  obtain ⟨p, o, rfl, hg, k1, _⟩ := look_get e h1 h2
  obtain ⟨v, rfl, hv⟩ := k1 d rfl
  exact ⟨p, v, rfl, hg, done0 q fun Z => (Own.ofPure (Z' := Z) d v [] hp hv).2⟩
theorem pure_dget : PureG gDGet := by
  intro ds d e
  obtain ⟨a, b, rfl, e⟩ := bin_some e
  exact (fDGet_some e).2
theorem rop_dnotin : ROp G (l2 rDNotIn) gDNotIn := by
  intro ds vs H Q d h e q
  obtain ⟨a, b, rfl, e⟩ := bin_some e
  obtain ⟨y, x, rfl, h1, h2⟩ := own2 h
  obtain ⟨r, hr, rfl⟩ := map_some2 (show (fLook b a).map (fun r => D.bl (not r.isSome)) = some d from e)
  obtain ⟨p, o, rfl, hg, k1, k2⟩ := look_get hr h2 h1
  have hb : o.isSome = r.isSome := by
    cases r with
    | none => rw [k2 rfl]; rfl
    | some d => obtain ⟨v, rfl, _⟩ := k1 d rfl; rfl
  refine ⟨p, o, rfl, hg, ?_⟩
  rw [hb]
  exact done0 q fun Z => ⟨rfl, rfl⟩
theorem pure_dnotin : PureG gDNotIn := by
  intro ds d e
  obtain ⟨a, b, rfl, e⟩ := bin_some e
  obtain ⟨r, hr, rfl⟩ := map_some2 (show (fLook b a).map (fun r => D.bl (not r.isSome)) = some d from e)
  rfl
variable {o i : Expr} {pos : Pos} {s1 s2 : SArg}
theorem p_dget (dx : DX X G) (ho : PE X o (s1.te G)) (hi : PE X i (s2.te G)) (hs : NoSl i := by exact fun _ _ => rfl) : PE X (.Subscript o i pos) (TPur G (hOp [s1, s2] gDGet)) :=
  (pe_dget (by have := dx.un; omega) ho hi hs).imp fun σ H Q h => tpur_op (r := l2 rDGet) rop_dget pure_dget σ H Q h
theorem t_dnotin (dx : DX X G) (hi : PE X i (s1.te G)) (ho : PE X o (s2.te G)) (hm : behindInMarks .NotIn o = false := by first | exact nomark _ | rfl) : PT X (.Compare i [.NotIn] [o] pos) (TBp G (hB (hOp [s1, s2] gDNotIn))) :=
  (pt_cmp (pc_dnotin (by have := dx.un; omega) hi ho) hm).imp fun σ H Q ⟨B, Z, Fs, env, gd, k, hk, q⟩ => by
    have q1 : TPur G (hOp [s1, s2] gDNotIn) σ H (fun x H' => ∃ k, x = .bl k ∧ Q k H') := ⟨B, Z, Fs, env, gd, .bl k, hB_some hk, fun v H' hs _ ho => ⟨k, (ho Z).1, q H' hs⟩⟩
    exact tpur_op (r := l2 rDNotIn) rop_dnotin pure_dnotin σ H _ q1

variable {e : Expr} {es : List Expr} {t : TA} {hs : List SArg} {p : Pos}
end
section
variable {G : Gc} {W : Wsh} {B Z H : Hp} {σ : L2.St} {env : DEnv} {Fs : Nat → List Addr} {X : Cx}
/-- an owned node written -/
theorem mut_fin2 {T : List Addr} {Y : Hp} {its : List (Bool × D)} {vs : List V} (gd : Good G B Z H σ env Fs) (hd : Hand G B Z H Y Fs its vs T) {a : Addr} {u u2 : HO} {d2 : D} (ha : a ∈ T) (hH : H a = some u) (hM : Mut (some u)) (o2 : Own G Z (upd H a u2) d2 (.ref a) [a]) {Q : VK}
    (hF : FinO G W B Z H σ env (PT_ Fs T) [.ref a] (.ok (.non, [d2], env)) Q) : Q .non (upd H a u2) := by
  have sb : Same B (upd H a u2) := fun b u e => by
    rw [upd_ne (fun z => by rw [z, (hd.fr a ha).1] at e; cases e)]
    exact gd.sb b u e
  have sz : Same Z (upd H a u2) := fun b u e => by rw [gd.z0] at e; cases e
  have nt : ∀ (b : Addr) (w : HO), H b = some w → Still w → b ≠ a := fun b w e st z => by
    rw [z, hH] at e; cases e; exact st hM
  have st : Stp G B Z H σ env (PT_ Fs T) Z (upd H a u2) σ env Fs := by
    refine ⟨Same.refl Z, fun b u e n => ?_, ⟨sb, sz, gd.len, fun i => (gd.sl i).keep gd.sb gd.sz sb sz (Same.refl Z) fun b u e m => ?_, gd.nd, gd.dj, gd.fr, gd.z0, gd.gb⟩, fun b m => .inr (.inl m), fun _ m => .inl m, fun j d e => ⟨⟨d, e⟩, rfl⟩, fun j d e => ⟨e, rfl⟩, fun j d e => ⟨e, rfl⟩, fun j d e => ⟨e, rfl⟩, rfl⟩
    · rw [upd_ne (fun z => n (.inr (by rw [z]; exact ha)))]
      exact e
    · rw [upd_ne (fun z => ?_)]
      · exact e
      · rcases m with m | nm
        · exact hd.dj a ha ⟨i, by rw [← z]; exact m⟩
        · exact nt b u e nm z
  refine hF .non Z _ Fs [a] ⟨st, ⟨.non, [.ref a], [], [a], rfl, rfl, ⟨rfl, rfl⟩, ⟨.ref a, [], [a], [], rfl, by simp, o2, rfl, rfl⟩⟩, one_nodup, fun b m => by rw [List.mem_singleton.mp m]; exact hd.dj a ha, fun b m => by rw [List.mem_singleton.mp m]; exact hd.fr a ha, fun b m => by rw [List.mem_singleton.mp m]; exact .inr (.inr ha)⟩
def setDK : Kn := fun ds e => match ds with
  | [x, .dk ks vs, k] => match keyD k with
    | some k => if x.pure = true ∧ D.pureL vs = true ∧ ks.length < 16777216 then .ok (.non, [.dk (putKs ks vs k x) (putVs ks vs k x)], e) else .bad
    | none => .bad
  | [x, .dt ks vs, k] => match keysD k with
    | some k => if x.pure = true ∧ D.pureL vs = true ∧ ks.length < 16777216 then .ok (.non, [.dt (putKs ks vs k x) (putVs ks vs k x)], e) else .bad
    | none => .bad
  | _ => .bad
def rSetD : List V → Hp → VK → Prop := fun vs H Q => match vs with
  | [v, x, y] => ∃ a H4, x = .ref a ∧ DPut H a y v H4 ∧ Q .non H4
  | _ => False
theorem k_setD : KOk G W [false, true, false] [true, true, true] rSetD setDK := by
  intro B Z H σ env Fs its vs T ios Q gd hd hb hn hF
  obtain ⟨x, d1, d2, rfl⟩ := its3 hb
  unfold setDK at hF
  split at hF
  · rename_i x' ks ws k e
    cases e
    split at hF
    · rename_i kk hk
      split at hF
      · rename_i hc
        obtain ⟨u, v, w, F1, F2, F3, rfl, rfl, h3, h1, h2⟩ := hand3 hd.own
        obtain ⟨a, us, F', rfl, l, n, o⟩ := h1
        rcases n with ⟨z, _⟩ | ⟨rfl, hH⟩
        · rw [gd.z0] at z; cases z
        · have hn : ios = [.ref a] := hn
          subst hn
          have hky := keyD_own hk h2
          subst hky
          obtain ⟨q1, q2⟩ := OwnL.ofPure (Z' := H) ws us F' hc.2.1 o
          have hx := (Own.ofPure (Z' := H) x u F1 hc.1 h3).2
          obtain ⟨us2, o2, l2, e2⟩ := put_own (k := kk) q2 hx l
          have hp2 : D.pureL (putVs ks ws kk x) = true := pureL_mem fun d m => by
            obtain ⟨p, hp, rfl⟩ := List.mem_map.mp m
            rcases putG_mem hp with hp | hp
            · exact List.all_eq_true.mp (by
                have := hc.2.1
                revert this
                generalize ws = l
                intro h
                induction l with
                | nil => rfl
                | cons a l ih =>
                  have h : (a.pure && D.pureL l) = true := h
                  rw [Bool.and_eq_true] at h
                  rw [List.all_cons, h.1, ih h.2]; rfl : (ws.all fun d => d.pure) = true) _ (List.of_mem_zip hp).2
            · rw [hp]; exact hc.1
          refine ⟨a, _, rfl, .inl ⟨_, kk, hH, rfl, by rw [← size_line]; simpa [l] using hc.2.2, rfl⟩, ?_⟩
          rw [e2]
          refine mut_fin2 gd hd (by simp) hH trivial ?_ hF
          refine ⟨a, us2, [], rfl, l2, .inr ⟨rfl, upd_same⟩, ?_⟩
          refine OwnL.keep (fun b u e => by rw [gd.z0] at e; cases e) _ _ [] (fun b u e m => ?_) (OwnL.pure_any (Z' := Z) hp2 o2)
          rw [upd_ne (fun z => ?_)]
          · exact e
          · rcases m with m | m
            · cases m
            · rw [z, hH] at e; cases e; exact m trivial
      · exact hF.elim
    · exact hF.elim
  · rename_i x' ks ws k e
    cases e
    split at hF
    · rename_i kk hk
      split at hF
      · rename_i hc
        obtain ⟨u, v, w, F1, F2, F3, rfl, rfl, h3, h1, h2⟩ := hand3 hd.own
        obtain ⟨a, us, F', rfl, l, n, o⟩ := h1
        rcases n with ⟨z, _⟩ | ⟨rfl, hH⟩
        · rw [gd.z0] at z; cases z
        · have hn : ios = [.ref a] := hn
          subst hn
          obtain ⟨b, rfl, hb2⟩ := keysD_own hk h2
          obtain ⟨q1, q2⟩ := OwnL.ofPure (Z' := H) ws us F' hc.2.1 o
          have hx := (Own.ofPure (Z' := H) x u F1 hc.1 h3).2
          obtain ⟨us2, o2, l2, e2⟩ := put_own (k := kk) q2 hx l
          have hp2 : D.pureL (putVs ks ws kk x) = true := pureL_mem fun d m => by
            obtain ⟨p, hp, rfl⟩ := List.mem_map.mp m
            rcases putG_mem hp with hp | hp
            · exact List.all_eq_true.mp (by
                have := hc.2.1
                revert this
                generalize ws = l
                intro h
                induction l with
                | nil => rfl
                | cons a l ih =>
                  have h : (a.pure && D.pureL l) = true := h
                  rw [Bool.and_eq_true] at h
                  rw [List.all_cons, h.1, ih h.2]; rfl : (ws.all fun d => d.pure) = true) _ (List.of_mem_zip hp).2
            · rw [hp]; exact hc.1
          refine ⟨a, _, rfl, .inr ⟨_, kk, b, hH, rfl, hb2, by rw [← size_line]; simpa [l] using hc.2.2, rfl⟩, ?_⟩
          rw [e2]
          refine mut_fin2 gd hd (by simp) hH trivial ?_ hF
          refine ⟨a, us2, [], rfl, l2, .inr ⟨rfl, upd_same⟩, ?_⟩
          refine OwnL.keep (fun b u e => by rw [gd.z0] at e; cases e) _ _ [] (fun b u e m => ?_) (OwnL.pure_any (Z' := Z) hp2 o2)
          rw [upd_ne (fun z => ?_)]
          · exact e
          · rcases m with m | m
            · cases m
            · rw [z, hH] at e; cases e; exact m trivial
      · exact hF.elim
    · exact hF.elim
  · exact hF.elim
end
end DL
namespace DL
open PySem PySem.Spec PyProof.Rows L2
section
variable {G : Gc} {W : Wsh} {X : Cx}
variable {e dd : Expr} {te td : TE} {p pos kpos : Pos}
end
end DL
namespace DL
open PySem PySem.Spec PyProof.Rows L2
section
variable {G : Gc} {W : Wsh} {B Z H : Hp} {σ : L2.St} {env : DEnv} {Fs : Nat → List Addr} {X : Cx}
end
end DL
namespace DL
open PySem PySem.Spec PyProof.Rows L2
section
variable {G : Gc} {W : Wsh} {X : Cx}
variable {o e : Expr} {es : List Expr} {t : TA} {apos cpos : Pos} {h : DEnv → Option D} {hs : List SArg}
end
end DL
namespace DL
open PySem PySem.Spec PyProof.Rows L2
section
variable {G : Gc} {W : Wsh} {X : Cx}
end
end DL
namespace DL
open PySem PySem.Spec PyProof.Rows L2
section
variable {G : Gc}
end
end DL
namespace DL
open PySem PySem.Spec PyProof.Rows L2
section
variable {G : Gc} {W : Wsh} {X : Cx}
section
variable {e : Expr} {es : List Expr} {t : TA} {hs : List SArg} {p pos : Pos}
end
def hChI (p q : Int → Int → Bool) (a b c : DEnv → Option D) : DEnv → Option D := fun env => match a env, b env, c env with
  | some (.int i), some (.int j), some (.int k) => some (.bl (p i j && q j k))
  | _, _, _ => none
theorem hChI_some {p q : Int → Int → Bool} {a b c : DEnv → Option D} {env : DEnv} {d : D} (h : hChI p q a b c env = some d) : ∃ i j k, a env = some (.int i) ∧ b env = some (.int j) ∧ c env = some (.int k) ∧ d = .bl (p i j && q j k) := by
  unfold hChI at h
  split at h
  · rename_i i j k h1 h2 h3
    cases h
    exact ⟨i, j, k, h1, h2, h3, rfl⟩
  · cases h
theorem chI_run {p q : Int → Int → Bool} {h1 h2 h3 : DEnv → Option D} {σ : L2.St} {H : Hp} {Q : VK} (h : TPur G (hChI p q h1 h2 h3) σ H Q) : tChain (rI0 fun i j => V.bl (p i j)) (rI0 fun i j => V.bl (q i j)) (TPur G h1) (TPur G h2) (TPur G h3) σ H Q := by
  obtain ⟨B, Z, Fs, env, gd, d, hd, q0⟩ := h
  obtain ⟨i, j, k, e1, e2, e3, rfl⟩ := hChI_some hd
  refine ⟨B, Z, Fs, env, gd, _, e1, fun v H1 s1 _ o1 => ⟨B, Z, Fs, env, gd.grow s1, _, e2, fun v2 H2 s2 _ o2 => ⟨i, j, (o1 Z).1, (o2 Z).1, p i j, rfl, ?_⟩⟩⟩
  cases hp : p i j with
  | false =>
    rw [if_neg (by decide)]
    exact q0 _ H2 (s1.trans s2) rfl fun Z' => ⟨by rw [hp, Bool.false_and], rfl⟩
  | true =>
    rw [if_pos rfl]
    exact ⟨B, Z, Fs, env, (gd.grow s1).grow s2, _, e3, fun v3 H3 s3 _ o3 => ⟨j, k, (o2 Z).1, (o3 Z).1, q0 _ H3 ((s1.trans s2).trans s3) rfl fun Z' => ⟨by rw [hp, Bool.true_and], rfl⟩⟩⟩
variable {op op' : CmpOp} {p q : Int → Int → Bool} {a b c : Expr} {h1 h2 h3 : DEnv → Option D} {pos : Pos}
theorem t_chI (ho : OpR X (compareOp op) (rI0 fun i j => V.bl (p i j))) (ho' : OpR X (compareOp op') (rI0 fun i j => V.bl (q i j))) (ha : PE X a (TPur G h1)) (hb : PE X b (TPur G h2)) (hc : PE X c (TPur G h3)) (hm : lastMarks [op, op'] [b, c] = false := by with_unfolding_all rfl) : PT X (.Compare a [op, op'] [b, c] pos) (TBp G (hB (hChI p q h1 h2 h3))) :=
  (pt_chain ho ho' ha hb hc hm).imp fun σ H Q ⟨B, Z, Fs, env, gd, k, hk, q⟩ => chI_run ⟨B, Z, Fs, env, gd, .bl k, hB_some hk, fun v H' hs _ ho => ⟨k, (ho Z).1, q H' hs⟩⟩
abbrev leI (i j : Int) : Bool := decide (i ≤ j)
abbrev ltI (i j : Int) : Bool := decide (i < j)
end
end DL
namespace DL
open PySem PySem.Spec PyProof.Rows L2
section
variable {G : Gc} {W : Wsh} {X : Cx}
end
end DL
namespace DL
open PySem PySem.Spec PyProof.Rows L2
section
variable {G : Gc} {W : Wsh} {X : Cx}
end
end DL
namespace DL
open PySem PySem.Spec PyProof.Rows L2
section
variable {G : Gc} {W : Wsh} {X : Cx}
end
end DL
namespace DL
open PySem PySem.Spec PyProof.Rows L2
section
variable {G : Gc} {W : Wsh} {X : Cx}
end
end DL
namespace DL
open PySem PySem.Spec PyProof.Rows L2
section
variable {G : Gc} {W : Wsh} {X : Cx}
end
end DL
namespace DL
open PySem PySem.Spec PyProof.Rows L2
section
variable {G : Gc} {W : Wsh} {X : Cx}
end
end DL
namespace DL
open PySem PySem.Spec PyProof.Rows L2
section
variable {G : Gc} {W : Wsh} {X : Cx}
end
end DL
namespace DL
open PySem PySem.Spec PyProof.Rows L2
section
variable {G : Gc} {W : Wsh} {X : Cx} {B Z H B1 Z1 H1 : Hp} {σ : L2.St} {env env1 : DEnv} {P : Addr → Prop} {Fs1 : Nat → List Addr} {u : DEnv → DEnv}
end
end DL
namespace DL
open PySem PySem.Spec PyProof.Rows L2
def Pm.noIo : Pm → Pm
  | .io => .mv
  | m => m
def noOut (F : Fn) : Fn := fun ds => match F ds with
  | .ok (r, _) => .ok (r, [])
  | .exc c => .exc c
  | .bad => .bad
theorem noIo_any : ∀ ms : List Pm, ((ms.map Pm.noIo).map Pm.isIo).any id = false
  | [] => rfl
  | m :: r => by
    rw [List.map_cons, List.map_cons, List.any_cons, noIo_any r]
    cases m <;> rfl
theorem spD_noIo {G : Gc} {ms : List Pm} {F : Fn} {vs : List V} {H : Hp} {Q : VK} {E : XK} (h : spD G (ms.map Pm.noIo) (noOut F) vs H Q E) : spD G ms F vs H Q E := by
  obtain ⟨its, T, Z, h1, h2, h3, h4, h5, h6, hgb, h7⟩ := h
  have ho : (ms.map Pm.noIo).map Pm.own = ms.map Pm.own := by
    rw [List.map_map]
    exact List.map_congr_left fun m _ => by cases m <;> rfl
  refine ⟨its, T, Z, h1.trans ho, h2, h3, h4, h5, h6, hgb, ?_⟩
  unfold noOut at h7
  cases hF : F (its.map (·.2)) with
  | bad => rw [hF] at h7; exact h7.elim
  | exc c => rw [hF] at h7; exact h7
  | ok p =>
    obtain ⟨r, outs⟩ := p
    rw [hF] at h7
    intro v H' Z' A z0 zz sz ex ow nd fr nz
    obtain ⟨v1, r1, F1, F2, e1, e2, o1, o2⟩ := ow
    cases e1
    subst e2
    have hi : ioV ((ms.map Pm.noIo).map Pm.isIo) vs = [] := ioV_none _ _ (noIo_any ms)
    refine h7 v H' Z' F1 z0 zz sz ex ?_ (List.nodup_append.mp nd).1 (fun a m => fr a (List.mem_append_left _ m)) nz
    rw [hi]
    exact ⟨v, [], F1, [], rfl, (List.append_nil _).symm, o1, rfl, rfl⟩
theorem _root_.L2.FnOk.mv {P : Program} {w : World} {K : PySem.W.Frag} {mg : Str → Option Value} {base : Heap} {CX : CXT} {k : Nat} {f : Addr} {fd : FuncData} {ps : List Str} {G : Gc} {ms : List Pm} {F : Fn} (h : FnOk P w K mg base CX k f fd ps (spD G ms F)) : FnOk P w K mg base CX k f fd ps (spD G (ms.map Pm.noIo) (noOut F)) :=
  h.imp fun _ _ _ _ q => spD_noIo q
end DL
namespace DL
open PySem PySem.Spec PyProof.Rows L2
section
variable {G : Gc} {W : Wsh} {X : Cx} {e : Expr} {es : List Expr} {t : TA} {p pos : Pos}
end
end DL
namespace DL
open PySem PySem.Spec PyProof.Rows L2
/-- what is borrowed, as data -/
def unb : D → D
  | .bor d => d
  | d => d
def pUn (g : DEnv → Option D) : DEnv → Option D := fun env => (g env).map unb
section
variable {G : Gc} {W : Wsh} {X : Cx} {B Z H : Hp} {σ : L2.St} {env : DEnv} {Fs : Nat → List Addr}
theorem Own.unb {Y H : Hp} {d : D} {v : V} (hY : Same G.bo Y) (h : Own G Y H d v []) : Own G Y H (unb d) v [] := by
  cases d with
  | bor d => exact Own.keep hY d v [] (fun _ _ e _ => e) h.2.1
  | _ => exact h
theorem Good.bo_at (g : Good G B Z H σ env Fs) (i : Nat) : Same G.bo (joi (lockB B H Fs i) Z) := (g.gb.trans (lockB_up g i)).trans joi_left
theorem l_un {e : Expr} {i : Nat} {g : DEnv → Option D} (h : PE X e (TPlc G i g)) : PE X e (TPlc G i (pUn g)) :=
  h.imp fun σ H Q ⟨B, Z, Fs, env, gd, d, hd, q⟩ => by
    unfold pUn at hd
    obtain ⟨d0, h0, rfl⟩ := Option.map_eq_some_iff.mp hd
    exact ⟨B, Z, Fs, env, gd, d0, h0, fun v H' hs ho => q v H' hs (Own.unb ((gd.grow hs).bo_at i) ho)⟩
/-- an attribute of an instance of one of some classes -/
def dAt (cs : List Str) (d : D) (f : Str) : Option D := match d with
  | .obj c fs vs => if c ∈ cs then (fs.zip vs).lookup f else none
  | .fob c fs vs => if c ∈ cs then (fs.zip vs).lookup f else none
  | _ => none
def pAt (g : DEnv → Option D) (cs : List Str) (f : Str) : DEnv → Option D := fun env => match g env with
  | some d => dAt cs d f
  | none => none
theorem zip_look {Y H : Hp} : ∀ (fs : List Str) (ds : List D) (vs : List V) (f : Str) (d : D), OwnL G Y H ds vs [] → (fs.zip ds).lookup f = some d → ∃ v, (fs.zip vs).lookup f = some v ∧ Own G Y H d v []
  | [], ds, vs, f, d, _, e => by simp at e
  | g :: fs, [], vs, f, d, _, e => by simp at e
  | g :: fs, x :: ds, vs, f, d, h, e => by
    obtain ⟨v, r, rfl, h1, h2⟩ := OwnL.uncons h
    rw [List.zip_cons_cons, List.lookup_cons] at e ⊢
    cases hb : (f == g) with
    | true => rw [hb] at e; cases e; exact ⟨v, rfl, h1⟩
    | false => rw [hb] at e; exact zip_look fs ds r f d h2 e
theorem l_at {o : Expr} {i : Nat} {g : DEnv → Option D} {cs : List Str} {f : Str} {pos : Pos} (hcs : ∀ c ∈ cs, ∃ C, G.cl c = some C ∧ Cls X.K C ∧ NoAttr X.K C f) (h : PE X o (TPlc G i g)) (hb : attributeBase o f X.env (eval o X.env) = eval o X.env := by rfl) : PE X (.Attribute o f pos) (TPlc G i (pAt g cs f)) :=
  (pe_fld h hb).imp fun σ H Q ⟨B, Z, Fs, env, gd, d, hd, q⟩ => by
    unfold pAt at hd
    cases h0 : g env with
    | none => rw [h0] at hd; cases hd
    | some d0 =>
      rw [h0] at hd
      refine ⟨B, Z, Fs, env, gd, d0, h0, fun v H' hs ho => ?_⟩
      have up := (gd.grow hs).joi_in i
      have bo := (gd.grow hs).bo_at i
      cases d0 with
      | obj c fs ds =>
        have hd : (if c ∈ cs then (fs.zip ds).lookup f else none) = some d := hd
        split at hd
        · rename_i hc
          obtain ⟨C, ec, k1, k2⟩ := hcs c hc
          obtain ⟨a, vs, F', C', dx, rfl, ec', l, n, o⟩ := ho
          rw [ec] at ec'
          cases ec'
          rcases n with ⟨n, _, rfl⟩ | ⟨e, _⟩
          · obtain ⟨w, e1, o1⟩ := zip_look fs ds vs f d o hd
            exact ⟨a, C, dx, _, w, rfl, up _ _ n, k1, k2, e1, q w H' hs o1⟩
          · cases e
        · cases hd
      | fob c fs ds =>
        have hd : (if c ∈ cs then (fs.zip ds).lookup f else none) = some d := hd
        split at hd
        · rename_i hc
          obtain ⟨C, ec, k1, k2⟩ := hcs c hc
          obtain ⟨a, vs, C', dx, rfl, ec', l, n, o⟩ := ho
          rw [ec] at ec'
          cases ec'
          obtain ⟨w, e1, o1⟩ := zip_look fs ds vs f d o hd
          exact ⟨a, C, dx, _, w, rfl, up _ _ (bo _ _ n), k1, k2, e1, q w H' hs o1⟩
        · cases hd
      | _ => cases hd
end
end DL
namespace DL
open PySem PySem.Spec PyProof.Rows L2
def fobK (f : Str) (k : Kn) : Kn := fun ds e => match ds with
  | x :: .fob c fs vs :: rest => match fs.findIdx? fun g => f == g with
    | some n => match vs[n]? with
      | some d => k (x :: d :: rest) e >>= fun q => match q.2.1 with
        | [o] => .ok (q.1, [.fob c fs (vs.set n o)], q.2.2)
        | _ => .bad
      | none => .bad
    | none => .bad
  | _ => .bad
def rFob (G : Gc) (f : Str) (r : List V → Hp → VK → Prop) : List V → Hp → VK → Prop := fun vs H Q => match vs with
  | u :: x :: rest => ∃ a C dx fs w, x = .ref a ∧ G.bo a = some (.ins C dx fs) ∧ fs.lookup f = some w ∧ r (u :: w :: rest) H Q
  | _ => False
section
variable {G : Gc} {W : Wsh} {X : Cx} {B Z H : Hp} {σ : L2.St} {env : DEnv} {Fs : Nat → List Addr}
theorem zip_find {α : Type} : ∀ (fs : List Str) (us : List α) (f : Str) (n : Nat), (fs.findIdx? fun g => f == g) = some n → (fs.zip us).lookup f = us[n]?
  | [], us, f, n, h => by simp at h
  | g :: fs, [], f, n, h => by simp
  | g :: fs, u :: us, f, n, h => by
    rw [List.zip_cons_cons, List.lookup_cons]
    rw [List.findIdx?_cons] at h
    cases hb : (f == g) with
    | true => rw [hb] at h; cases h; rfl
    | false =>
      rw [hb] at h
      simp only [Bool.false_eq_true, if_false] at h
      obtain ⟨m, hm, rfl⟩ := Option.map_eq_some_iff.mp h
      exact zip_find fs us f m hm
theorem OwnL.cutAt : ∀ {ds : List D} {vs : List V} {F : List Addr} {n : Nat} {d : D}, OwnL G Z H ds vs F → ds[n]? = some d → ∃ w F1 Fd F2, vs[n]? = some w ∧ F = F1 ++ (Fd ++ F2) ∧ Own G Z H d w Fd ∧
    ∀ {Z' H' : Hp} {d' : D} {Fd' : List Addr}, Same Z Z' → (∀ b u, H b = some u → (b ∈ F1 ∨ b ∈ F2 ∨ Still u) → H' b = some u) → Own G Z' H' d' w Fd' → OwnL G Z' H' (ds.set n d') vs (F1 ++ (Fd' ++ F2))
  | [], vs, F, n, d, h, e => by cases e
  | x :: ds, vs, F, 0, d, h, e => by
    obtain ⟨v, r, F1, F2, rfl, rfl, h1, h2⟩ := h
    cases e
    exact ⟨v, [], F1, F2, rfl, rfl, h1, fun {Z' H' d' Fd'} hz k o => ⟨v, r, Fd', F2, rfl, rfl, o, OwnL.keep hz ds r F2 (fun b u e m => k b u e (m.elim (fun m => .inr (.inl m)) fun m => .inr (.inr m))) h2⟩⟩
  | x :: ds, vs, F, n + 1, d, h, e => by
    obtain ⟨v, r, F0, F3, rfl, rfl, h1, h2⟩ := h
    obtain ⟨w, F1, Fd, F2, e1, rfl, o, k0⟩ := OwnL.cutAt (n := n) h2 e
    refine ⟨w, F0 ++ F1, Fd, F2, e1, by rw [List.append_assoc], o, fun {Z' H' d' Fd'} hz k o' => ?_⟩
    rw [List.append_assoc]
    exact ⟨v, r, F0, _, rfl, rfl, Own.keep hz x v F0 (fun b u e m => k b u e (m.elim (fun m => .inl (List.mem_append_left _ m)) fun m => .inr (.inr m))) h1, k0 hz (fun b u e m => k b u e (m.elim (fun m => .inl (List.mem_append_right _ m)) .inr)) o'⟩
/-- an operation on an attribute -/
theorem fob_kok {f : Str} {k : Kn} {r : List V → Hp → VK → Prop} {bs : List Bool} {fl : List Bool} (hk : KOk G W (false :: true :: fl) (true :: true :: bs) r k) (hfl : fl.any id = false) (hbs : bs.all id = true) : KOk G W (false :: true :: fl) (true :: true :: bs) (rFob G f r) (fobK f k) := by
  intro B Z H σ env Fs its vs T ios Q gd hd hb hn hF
  match its, hb with
  | (b0, x) :: (b1, d1) :: rest, hb =>
    simp only [List.map_cons, List.cons.injEq] at hb
    obtain ⟨rfl, rfl, hb⟩ := hb
    simp only [List.map_cons] at hF
    unfold fobK at hF
    split at hF
    · rename_i x' c fs ds rest' e
      cases e
      split at hF
      · rename_i n hfi
        split at hF
        · rename_i d hdn
          obtain ⟨v0, r0, Tx, T1, rfl, rfl, o0, h1⟩ := hd.own
          obtain ⟨v1, vr, Tf, Tr, rfl, rfl, o1, h2⟩ := h1
          obtain ⟨a, us, C, dx, rfl, ec, l, nb, of⟩ := o1
          obtain ⟨w, F1, Fd, F2, ew, rfl, od, back⟩ := OwnL.cutAt of hdn
          have hlk : (fs.zip us).lookup f = some w := (zip_find fs us f n hfi).trans ew
          have hio : ios = [.ref a] := by
            rw [hn]
            show ioV (true :: fl) (V.ref a :: vr) = _
            exact ioV_first hfl
          subst hio
          refine ⟨a, C, dx, _, w, rfl, nb, hlk, ?_⟩
          have nd := hd.nd
          have ndA := List.nodup_append.mp nd
          have ndB := List.nodup_append.mp ndA.2.1
          have ndC := List.nodup_append.mp ndB.1
          have ndD := List.nodup_append.mp ndC.2.1
          have sub : ∀ b, b ∈ Tx ++ (Fd ++ Tr) → b ∈ Tx ++ ((F1 ++ (Fd ++ F2)) ++ Tr) := fun b m => by
            simp only [List.mem_append] at m ⊢
            rcases m with m | m | m
            · exact .inl m
            · exact .inr (.inl (.inr (.inl m)))
            · exact .inr (.inr m)
          have nd2 : (Tx ++ (Fd ++ Tr)).Nodup := by
            refine List.nodup_append.mpr ⟨ndA.1, List.nodup_append.mpr ⟨ndD.1, ndB.2.1, fun p hp q hq => ndB.2.2 p (by simp only [List.mem_append]; exact .inr (.inl hp)) q hq⟩, fun p hp q hq => ndA.2.2 p hp q ?_⟩
            simp only [List.mem_append] at hq ⊢
            rcases hq with hq | hq
            · exact .inl (.inr (.inl hq))
            · exact .inr hq
          have hall : ∀ p ∈ rest, p.1 = true := fun p hp => by
            have h3 : p.1 ∈ rest.map (·.1) := List.mem_map.mpr ⟨p, hp, rfl⟩
            rw [hb] at h3
            exact List.all_eq_true.mp hbs _ h3
          have hd2 : Hand G B Z H (cut H (Tx ++ (Fd ++ Tr))) Fs ((true, x) :: (true, d) :: rest) (v0 :: w :: vr) (Tx ++ (Fd ++ Tr)) := by
            refine ⟨⟨v0, _, Tx, _, rfl, rfl, o0, w, vr, Fd, Tr, rfl, rfl, od, ?_⟩, nd2, fun b m => hd.dj b (sub b m), fun b m => hd.fr b (sub b m)⟩
            have key : ∀ (l : List (Bool × D)) (vs : List V) (F : List Addr) {Y Y' : Hp}, (∀ p ∈ l, p.1 = true) → OwnT G Y Z H l vs F → OwnT G Y' Z H l vs F := fun l => by
              induction l with
              | nil => intro vs F Y Y' _ h; exact h
              | cons p l ih =>
                intro vs F Y Y' hp h
                obtain ⟨o, dd⟩ := p
                have : o = true := hp _ List.mem_cons_self
                subst this
                obtain ⟨v', r', Fa, Fb, q1, q2, q3, q4⟩ := h
                exact ⟨v', r', Fa, Fb, q1, q2, q3, ih r' Fb (fun p m => hp p (List.mem_cons_of_mem _ m)) q4⟩
            exact key rest vr Tr hall h2
          refine hk B Z H σ env Fs ((true, x) :: (true, d) :: rest) (v0 :: w :: vr) (Tx ++ (Fd ++ Tr)) [w] Q gd hd2 (by simp [hb]) (by
            show _ = ioV (true :: fl) (w :: vr)
            rw [ioV_first hfl]) ?_
          have ek : ((true, x) :: (true, d) :: rest).map (·.2) = x :: d :: rest.map (·.2) := rfl
          rw [ek]
          generalize k (x :: d :: rest.map (·.2)) env = ok at hF
          match ok, hF with
          | .bad, hF => exact hF.elim
          | .exc _, hF => exact hF
          | .ok (rv, [], e2), hF => exact hF.elim
          | .ok (rv, [o], e2), hF =>
            intro v Z' H' Fs' F p
            obtain ⟨q1, q2, Fa, Fb, e1, rfl, oa, ob⟩ := p.own
            cases e1
            obtain ⟨q3, q4, Fc, Fe, e2', rfl, oc, oe⟩ := ob
            cases e2'
            obtain ⟨_, rfl⟩ := oe
            rw [List.append_nil] at *
            have outP : ∀ b, (b ∈ F1 ∨ b ∈ F2) → ¬ PT_ Fs (Tx ++ (Fd ++ Tr)) b := fun b m z => by
              have hbm : b ∈ F1 ++ (Fd ++ F2) := by
                simp only [List.mem_append]
                exact m.elim .inl fun m => .inr (.inr m)
              rcases z with z | z
              · exact hd.dj b (List.mem_append_right _ (List.mem_append_left _ hbm)) z
              · rcases List.mem_append.mp z with z | z
                · exact ndA.2.2 b z b (List.mem_append_left _ hbm) rfl
                · rcases List.mem_append.mp z with z | z
                  · rcases m with m | m
                    · exact ndC.2.2 b m b (List.mem_append_left _ z) rfl
                    · exact ndD.2.2 b z b m rfl
                  · exact ndB.2.2 b hbm b z rfl
            have nold : ∀ b, (b ∈ F1 ∨ b ∈ F2) → ∃ u, H b = some u ∧ Mut (some u) := fun b m => by
              have hbm : b ∈ F1 ++ (Fd ++ F2) := by
                simp only [List.mem_append]
                exact m.elim .inl fun m => .inr (.inr m)
              exact OwnL.dom _ _ _ of b hbm
            have notNew : ∀ b, b ∈ Fa ++ Fc → (b ∈ F1 ∨ b ∈ F2) → False := fun b m z => by
              rcases p.new b m with h | h
              · obtain ⟨u, e, _⟩ := nold b z
                rw [h] at e; cases e
              · exact outP b z h
            have ndp := List.nodup_append.mp p.nd
            have pp : ∀ b, PT_ Fs (Tx ++ (Fd ++ Tr)) b → PT_ Fs (Tx ++ ((F1 ++ (Fd ++ F2)) ++ Tr)) b := fun b m => m.imp id (sub b)
            have ofob : Own G Z' H' (.fob c fs (ds.set n o)) (.ref a) (F1 ++ (Fc ++ F2)) := by
              refine ⟨a, us, C, dx, rfl, ec, l, nb, back p.st.zz (fun b u e m => p.st.ext b u e fun z => ?_) oc⟩
              rcases m with m | m | m
              · exact outP b (.inl m) z
              · exact outP b (.inr m) z
              · obtain ⟨u', e', mu⟩ : ∃ u', H b = some u' ∧ Mut (some u') := by
                  rcases z with z | z
                  · exact gd.dom z
                  · exact hd2.own.dom b z
                rw [e] at e'; cases e'
                exact m mu
            refine hF v Z' H' Fs' (Fa ++ (F1 ++ (Fc ++ F2))) ⟨p.st.more pp, ⟨v, [.ref a], Fa, _, rfl, rfl, oa, ⟨.ref a, [], _, [], rfl, by rw [List.append_nil], ofob, rfl, rfl⟩⟩, ?_, fun b m => ?_, fun b m => ?_, fun b m => ?_⟩
            · refine List.nodup_append.mpr ⟨ndp.1, List.nodup_append.mpr ⟨ndC.1, List.nodup_append.mpr ⟨ndp.2.1, ndD.2.1, fun p1 h1 p2 h2 e => ?_⟩, fun p1 h1 p2 h2 e => ?_⟩, fun p1 h1 p2 h2 e => ?_⟩
              · subst e; exact notNew p1 (List.mem_append_right _ h1) (.inr h2)
              · subst e
                rcases List.mem_append.mp h2 with h2 | h2
                · exact notNew p1 (List.mem_append_right _ h2) (.inl h1)
                · exact ndC.2.2 p1 h1 p1 (List.mem_append_right _ h2) rfl
              · subst e
                rcases List.mem_append.mp h2 with h2 | h2
                · exact notNew p1 (List.mem_append_left _ h1) (.inl h2)
                · rcases List.mem_append.mp h2 with h2 | h2
                  · exact ndp.2.2 p1 h1 p1 h2 rfl
                  · exact notNew p1 (List.mem_append_left _ h1) (.inr h2)
            · intro hin
              have old : (b ∈ F1 ∨ b ∈ F2) → False := fun z => by
                rcases p.st.new b hin with h | h
                · obtain ⟨u, e, _⟩ := nold b z
                  rw [h] at e; cases e
                · exact outP b z h
              simp only [List.mem_append] at m
              rcases m with m | m | m | m
              · exact p.dj b (List.mem_append_left _ m) hin
              · exact old (.inl m)
              · exact p.dj b (List.mem_append_right _ m) hin
              · exact old (.inr m)
            · have old : (b ∈ F1 ∨ b ∈ F2) → B b = none ∧ Z' b = none := fun z => by
                have hbm : b ∈ Tx ++ ((F1 ++ (Fd ++ F2)) ++ Tr) := by
                  simp only [List.mem_append]
                  exact .inr (.inl (z.elim .inl fun m => .inr (.inr m)))
                exact ⟨(hd.fr b hbm).1, p.st.good.z0 b⟩
              simp only [List.mem_append] at m
              rcases m with m | m | m | m
              · exact p.fr b (List.mem_append_left _ m)
              · exact old (.inl m)
              · exact p.fr b (List.mem_append_right _ m)
              · exact old (.inr m)
            · have old : (b ∈ F1 ∨ b ∈ F2) → H b = none ∨ PT_ Fs (Tx ++ ((F1 ++ (Fd ++ F2)) ++ Tr)) b := fun z => by
                refine .inr (.inr ?_)
                simp only [List.mem_append]
                exact .inr (.inl (z.elim .inl fun m => .inr (.inr m)))
              simp only [List.mem_append] at m
              rcases m with m | m | m | m
              · exact (p.new b (List.mem_append_left _ m)).imp id (pp b)
              · exact old (.inl m)
              · exact (p.new b (List.mem_append_right _ m)).imp id (pp b)
              · exact old (.inr m)
          | .ok (rv, _ :: _ :: _, e2), hF => exact hF.elim
        · exact hF.elim
      · exact hF.elim
    · exact hF.elim
end
end DL
namespace DL
open PySem PySem.Spec PyProof.Rows L2
def appY : Kn := fun ds e => match ds with
  | [y, .lst xs] => if xs.length < 16777216 then .ok (.non, [.lst (xs ++ [y])], e) else .bad
  | _ => .bad
def rAppY : List V → Hp → VK → Prop := fun vs H Q => match vs with
  | [y, x] => rAppend x [y] H Q
  | _ => False
/-- slot j holds an instance of one of some classes, whose own node stands; its attribute f is such -/
def isF {α : Type} (j : Nat) (cs : List Str) (f : Str) (T : D → Bool) (g : DEnv → Out α) : DEnv → Out α := fun env => match env[j]? with
  | some (some (_, .fob c fs vs)) => if c ∈ cs then match (fs.zip vs).lookup f with
    | some d => if T d = true then g env else .bad
    | none => .bad
    else .bad
  | _ => .bad
theorem isF_run {α : Type} {j : Nat} {cs : List Str} {f : Str} {T : D → Bool} {g : DEnv → Out α} {env : DEnv} (h : isF j cs f T g env ≠ .bad) : (∃ m c fs vs d, env[j]? = some (some (m, D.fob c fs vs)) ∧ c ∈ cs ∧ (fs.zip vs).lookup f = some d ∧ T d = true) ∧ isF j cs f T g env = g env := by
  unfold isF at h ⊢
  split
  · rename_i m c fs vs e
    rw [e] at h
    simp only at h
    split at h
    · rename_i hc
      rw [if_pos hc]
      cases hl : (fs.zip vs).lookup f with
      | none => rw [hl] at h; exact absurd rfl h
      | some d =>
        rw [hl] at h
        simp only at h ⊢
        split at h
        · rename_i ht
          exact ⟨⟨m, c, fs, vs, d, e, hc, hl, ht⟩, by rw [if_pos ht]⟩
        · exact absurd rfl h
    · exact absurd rfl h
  · rename_i hx
    split at h
    · rename_i m c fs vs e; exact absurd e (hx m c fs vs)
    · exact absurd rfl h
def isLstD : D → Bool
  | .lst _ => true
  | _ => false
def isDctD : D → Bool
  | .dk _ _ => true
  | .dt _ _ => true
  | _ => false
section
variable {G : Gc} {W : Wsh} {X : Cx} {B Z H : Hp} {σ : L2.St} {env : DEnv} {Fs : Nat → List Addr}
theorem k_appY : KOk G W [false, true] [true, true] rAppY appY := by
  intro B Z H σ env Fs its vs T ios Q gd hd hb hn hF
  obtain ⟨y, d1, rfl⟩ := its2 hb
  unfold appY at hF
  split at hF
  · rename_i y' xs e
    cases e
    split at hF
    · rename_i hl
      obtain ⟨w, v, F1, F2, rfl, rfl, h2, h1⟩ := hand2 hd.own
      obtain ⟨a, ws, F', rfl, rfl, hH, o⟩ := h1.alive gd.z0
      have hn : ios = [.ref a] := hn
      subst hn
      have nd := List.nodup_append.mp hd.nd
      have nd2 := List.nodup_cons.mp nd.2.1
      refine ⟨a, ws, w, rfl, rfl, hH, by rw [← size_line, OwnL.length o]; exact hl, ?_⟩
      refine mut_fin gd hd (F2 := F' ++ F1) (FR := []) (by simp) hH (OwnL.append o (OwnL.one h2)) own_non ?_ (fun b m => ?_) hF
      · rw [List.nil_append]
        refine List.nodup_cons.mpr ⟨fun m => ?_, List.nodup_append.mpr ⟨nd2.2, nd.1, fun p hp q hq e => nd.2.2 q hq p (List.mem_cons_of_mem _ hp) e.symm⟩⟩
        rcases List.mem_append.mp m with m | m
        · exact nd2.1 m
        · exact nd.2.2 a m a List.mem_cons_self rfl
      · simp only [List.nil_append, List.mem_cons, List.mem_append] at m ⊢
        rcases m with m | m | m
        · exact .inr (.inl m)
        · exact .inr (.inr m)
        · exact .inl m
    · exact hF.elim
  · exact hF.elim
/-- what a slot's instance tells of its own node -/
theorem fob_at {j : Nat} {m : Md} {c f : Str} {fs : List Str} {vs : List D} {d : D} (gd : Good G B Z H σ env Fs) (h : env[j]? = some (some (m, .fob c fs vs))) (hl : (fs.zip vs).lookup f = some d) : ∃ a C dx us w, σ[j]? = some (some (.ref a)) ∧ G.cl c = some C ∧ G.bo a = some (.ins C dx (fs.zip us)) ∧ (fs.zip us).lookup f = some w ∧ Own G H H d w [] := by
  obtain ⟨v, ev, ho⟩ := gd.read h
  have ho := Own.rep (gd.joi_in j) _ _ _ ho
  obtain ⟨a, us, C, dx, rfl, ec, l, nb, o⟩ := ho
  obtain ⟨w, e1, o1⟩ := zip_look fs vs us f d o hl
  exact ⟨a, C, dx, us, w, ev, ec, nb, e1, o1⟩
theorem e_appF {s e : Expr} {f : Str} {p1 apos cpos : Pos} {j : Nat} {cs : List Str} {fe : DEnv → Out (D × DEnv)} (dx : DX X G) (hcs : ∀ c ∈ cs, ∃ C, G.cl c = some C ∧ Cls X.K C ∧ NoAttr X.K C f) (ho : PE X s (tVar j)) (he : PE X e (TV G W fe))
    (hb1 : attributeBase s f X.env (eval s X.env) = eval s X.env := by rfl) (hbase : attributeBase (.Attribute s f p1) "append" X.env (eval (.Attribute s f p1) X.env) = eval (.Attribute s f p1) X.env := by rfl)
    (hfew : ((backTo cpos (starEach [e] X.env)).all (fun x => !x.1) && (backToKw cpos (keywordEach [] X.env)).all (fun x => x.1.isSome)
      && decide ([e].length + ([] : List Keyword).length + (if ([] : List Keyword).isEmpty then 0 else 1) < 30)) = true := by rfl)
    (hline : (apos.endLine == cpos.line) = true := by rfl) (hs : starEach [e] X.env = (false, eval e X.env) :: starEach [] X.env := by rfl) (hplain : (backTo cpos (starEach [] X.env)).any (·.1) = false := by rfl) :
    PE X (.Call (.Attribute (.Attribute s f p1) "append" apos) [e] [] cpos) (TV G W (isF j cs f isLstD (eK (.own fe (.io j (.fin []))) (fobK f appY)))) :=
  (pe_bm F.plainAttrs_list F.slot_list_append F.type_list_append mt_append (pe_fld ho hb1) (pa_cons (hs := hs) he pa_nil) hbase hfew hline hs hplain).imp fun σ H Q ⟨B, Z, Fs, env, gd, q⟩ => by
    have nb : isF j cs f isLstD (eK (.own fe (.io j (.fin []))) (fobK f appY)) env ≠ .bad := fun e => by rw [e] at q; exact q
    obtain ⟨⟨m, c, fs, vs, d, hs, hc, hl, ht⟩, e⟩ := isF_run nb
    rw [e] at q
    obtain ⟨a, C, dx1, us, w, ev, ec, nbo, ew, ow⟩ := fob_at gd hs hl
    obtain ⟨C', ec', k1, k2⟩ := hcs c hc
    rw [ec] at ec'
    cases ec'
    have q2 := tv_chn (c := .own fe (.io j (.fin []))) (fob_kok (f := f) k_appY rfl rfl) rfl rfl σ H Q ⟨B, Z, Fs, env, gd, q⟩
    refine ⟨.ref a, ev, a, C, dx1, _, w, rfl, (gd.gb.trans gd.sb) _ _ nbo, k1, k2, ew, ?_, ?_⟩
    · cases d with
      | lst xs =>
        obtain ⟨b, ws, rfl, hs, o⟩ := Own.lstR ow
        exact .inl ⟨rfl, ws, by rw [dx.K]; exact hs⟩
      | _ => cases ht
    · refine TV.mono (fun y H1 q3 => ?_) q2
      obtain ⟨v', ev', a', C2, dx2, fs2, w2, e1, e2, e3, e4⟩ := q3
      rw [ev] at ev'
      cases ev'
      cases e1
      rw [nbo] at e2
      cases e2
      rw [ew] at e3
      cases e3
      exact e4
theorem s_setDF {s i value : Expr} {f : Str} {p1 pos' pos : Pos} {j : Nat} {cs : List Str} {fe : DEnv → Out (D × DEnv)} {hk : DEnv → Option D} (dx : DX X G) (hcs : ∀ c ∈ cs, ∃ C, G.cl c = some C ∧ Cls X.K C ∧ NoAttr X.K C f) (hv : PE X value (TV G W fe)) (ho : PE X s (tVar j)) (hi : PE X i (TPur G hk))
    (hb1 : attributeBase s f X.env (eval s X.env) = eval s X.env := by rfl) (hs : swapsWith value (some (.Subscript (.Attribute s f p1) i pos')) pos.line X.env = pure false := by rfl) :
    PS X (.Assign [.Subscript (.Attribute s f p1) i pos'] value pos) (TSt G W (sExpr (isF j cs f isDctD (eK (.own fe (.io j (.fin [.pur hk]))) (fobK f setDK))))) :=
  (ps_dput (by have := dx.un; omega) (pe_fld ho hb1) hi hv hs).imp fun En σ H ⟨B, Z, Fs, env, gd, q⟩ => by
    have q1 : TV G W (isF j cs f isDctD (eK (.own fe (.io j (.fin [.pur hk]))) (fobK f setDK))) σ H (fun _ H1 => En.nx σ H1) := by
      refine ⟨B, Z, Fs, env, gd, ?_⟩
      unfold sExpr at q
      unfold FinV
      cases hf : isF j cs f isDctD (eK (.own fe (.io j (.fin [.pur hk]))) (fobK f setDK)) env with
      | bad => rw [hf] at q; exact q.elim
      | exc c => rw [hf] at q; exact q σ (AgL.refl gd)
      | ok p =>
        rw [hf] at q
        exact fun v Z' H' Fs' F p => q σ Z' H' Fs' p.st
    obtain ⟨B, Z, Fs, env, gd, q⟩ := q1
    have nb : isF j cs f isDctD (eK (.own fe (.io j (.fin [.pur hk]))) (fobK f setDK)) env ≠ .bad := fun e => by rw [e] at q; exact q
    obtain ⟨⟨m, c, fs, vs, d, hs, hc, hl, ht⟩, e⟩ := isF_run nb
    rw [e] at q
    obtain ⟨a, C, dx1, us, w, ev, ec, nbo, ew, ow⟩ := fob_at gd hs hl
    obtain ⟨C', ec', k1, k2⟩ := hcs c hc
    rw [ec] at ec'
    cases ec'
    have q2 := tv_chn (c := .own fe (.io j (.fin [.pur hk]))) (fob_kok (f := f) k_setD rfl rfl) rfl rfl σ H _ ⟨B, Z, Fs, env, gd, q⟩
    refine TV.mono (fun y H1 q3 => ?_) q2
    obtain ⟨v', ev', q4⟩ := q3
    rw [ev] at ev'
    cases ev'
    have hH1 : Same G.bo H1 := by
      obtain ⟨B1, Z1, Fs1, env1, g1, _⟩ := q4
      exact g1.gb.trans g1.sb
    refine ⟨.ref a, ev, a, C, dx1, _, w, rfl, hH1 _ _ nbo, k1, k2, ew, ?_⟩
    refine SArg.mono (a := .pur hk) (fun z H3 q5 => ?_) q4
    obtain ⟨a', C2, dx2, fs2, w2, e1, e2, e3, e4⟩ := q5
    cases e1
    rw [nbo] at e2
    cases e2
    rw [ew] at e3
    cases e3
    exact e4
end
end DL
namespace DL
open PySem PySem.Spec PyProof.Rows L2
/-- a def that refuses nothing -/
def noX (F : Fn) : Fn := fun ds => match F ds with
  | .ok p => .ok p
  | _ => .bad
theorem spD_noX {G : Gc} {ms : List Pm} {F : Fn} {vs : List V} {H : Hp} {Q : VK} {E : XK} (h : spD G ms (noX F) vs H Q E) : spD G ms F vs H Q E := by
  obtain ⟨its, T, Z, h1, h2, h3, h4, h5, h6, hgb, h7⟩ := h
  refine ⟨its, T, Z, h1, h2, h3, h4, h5, h6, hgb, ?_⟩
  unfold noX at h7
  cases hF : F (its.map (·.2)) with
  | bad => rw [hF] at h7; exact h7.elim
  | exc c => rw [hF] at h7; exact h7.elim
  | ok p => rw [hF] at h7; exact h7
/-- .. whatever is wished of refusals -/
theorem spD_noXE {G : Gc} {ms : List Pm} {F : Fn} {vs : List V} {H : Hp} {Q : VK} {E E' : XK} (h : spD G ms (noX F) vs H Q E) : spD G ms (noX F) vs H Q E' := by
  obtain ⟨its, T, Z, h1, h2, h3, h4, h5, h6, hgb, h7⟩ := h
  refine ⟨its, T, Z, h1, h2, h3, h4, h5, h6, hgb, ?_⟩
  unfold noX at h7 ⊢
  cases hF : F (its.map (·.2)) with
  | bad => rw [hF] at h7; exact h7.elim
  | exc c => rw [hF] at h7; exact h7.elim
  | ok p => rw [hF] at h7; exact h7
def XK0 : XK := fun _ _ _ => False
section
variable {G : Gc} {W : Wsh} {X : Cx} {B Z H : Hp} {σ : L2.St} {env : DEnv} {Fs : Nat → List Addr}
theorem pass00 : Passes (L2.CX X.prog X.w) X XK0 := fun pins σ H s e s' I c => by
  obtain ⟨_, _, _, _, _, _, _, _, _, _, _, _, h⟩ := c
  exact h.elim
theorem call_kok0 {ms : List Pm} {F : Fn} {bs : List Bool} (hf : fitB ms bs = true) (hwc : ∀ c σ H, W c σ H → ∃ C, G.cl c = some C) (σ : L2.St) : KOkS G W σ (ms.map Pm.isIo) bs (fun vs H Q => spD G ms (noX F) vs H Q XK0) (callK ms (noX F)) :=
  fun B Z H env Fs its vs T ios Q gd hd hb hn hF => spD_noXE (call_kok (F := noX F) hf hwc σ B Z H env Fs its vs T ios Q gd hd hb hn hF)
/-- the instance's class, and that the method's name is no attribute -/
def clsOk (c m : Str) : D → Bool
  | .obj c' fs vs => decide (c' = c) && decide (m ∉ fs) && decide (fs.length = vs.length)
  | .fob c' fs vs => decide (c' = c) && decide (m ∉ fs) && decide (fs.length = vs.length)
  | _ => false
theorem lookup_no {α : Type} : ∀ (fs : List Str) (us : List α) (m : Str), m ∉ fs → (fs.zip us).lookup m = none
  | [], us, m, _ => by simp
  | g :: fs, [], m, _ => by simp
  | g :: fs, u :: us, m, h => by
    rw [List.zip_cons_cons, List.lookup_cons]
    have : (m == g) = false := by
      rw [beq_eq_false_iff_ne]
      exact fun e => h (e ▸ List.mem_cons_self)
    rw [this]
    exact lookup_no fs us m fun q => h (List.mem_cons_of_mem _ q)
theorem cls_at {Y H : Hp} {c m : Str} {d : D} {v : V} {F : List Addr} {C : Addr} (ec : G.cl c = some C) (hY : Same Y H) (hbo : Same G.bo H) (h : Own G Y H d v F) (hc : clsOk c m d = true) : ∃ a dx fs, v = .ref a ∧ H a = some (.ins C dx fs) ∧ fs.lookup m = none := by
  cases d with
  | obj c' fs vs =>
    simp only [clsOk, Bool.and_eq_true, decide_eq_true_eq] at hc
    obtain ⟨a, us, F', C', dx, rfl, ec', l, n, o⟩ := h
    rw [hc.1.1, ec] at ec'
    cases ec'
    refine ⟨a, dx, _, rfl, ?_, lookup_no fs us m hc.1.2⟩
    rcases n with ⟨n, _⟩ | ⟨_, n⟩
    · exact hY _ _ n
    · exact n
  | fob c' fs vs =>
    simp only [clsOk, Bool.and_eq_true, decide_eq_true_eq] at hc
    obtain ⟨a, us, C', dx, rfl, ec', l, n, o⟩ := h
    rw [hc.1.1, ec] at ec'
    cases ec'
    exact ⟨a, dx, _, rfl, hbo _ _ n, lookup_no fs us m hc.1.2⟩
  | _ => cases hc
def isO {α : Type} (j : Nat) (c m : Str) (g : DEnv → Out α) : DEnv → Out α := fun env => match env[j]? with
  | some (some (_, d)) => if clsOk c m d = true then g env else .bad
  | _ => .bad
section
variable {s e : Expr} {es : List Expr} {t : TA} {c m : Str} {C f : Addr} {fd : FuncData} {ps : List Str} {k : Nat} {ms : List Pm} {F : Fn} {apos pos : Pos} {j i : Nat} {g : DEnv → Option D} {fs : DEnv → Out (D × DEnv)}
/-- a method of the instance in slot j, which it may change -/
theorem e_methI (dw : DXW X G W) (ec : G.cl c = some C) (hcl : Cls X.K C) (hm : Meth X.K C m f) (FO : FnOk X.prog X.w X.K X.mg X.base (L2.CX X.prog X.w) k f fd ps (spD G (.io :: ms) F)) (hr : Room k X.A) (hb : Binds X.K fd ps []) (ho : PE X s (tVar j)) (c2 : Chn)
    (ha : PA X (e :: es) t) (ht : t = seqTE (c2.tes G W) := by rfl) (hi : c2.iofs = ms.map Pm.isIo := by rfl) (hf : fitB ms c2.kinds = true := by rfl) (he : starEach (e :: es) X.env = (false, eval e X.env) :: starEach es X.env := by rfl) (hpl : (backTo pos (starEach es X.env)).any (·.1) = false := by rfl)
    {pl : Sem Bool} (hev : eval (.Call (.Attribute s m apos) (e :: es) [] pos) X.env = (do
      let ov ← eval s X.env
      standAt apos.atName
      let (f, first) ← holding [ov] (getMethod ov m pl)
      callWith pos f first (backTo pos (starEach (e :: es) X.env)) (backToKw pos (keywordEach [] X.env))) := by rfl) :
    PE X (.Call (.Attribute s m apos) (e :: es) [] pos) (TV G W (isO j c m (eK (.io j c2) (callK (.io :: ms) (noX F))))) :=
  (pe_meth (E := XK0) ho hcl hm (FO.imp fun _ _ _ _ h => spD_noX h) hr hb .nil pass00 ha he hpl hev).imp fun σ H Q ⟨B, Z, Fs, env, gd, q⟩ => by
    subst ht
    unfold isO at q
    split at q
    · rename_i md d hs
      split at q
      · rename_i hc
        obtain ⟨v, ev, hv⟩ := gd.read hs
        have bo := gd.gb.trans gd.sb
        obtain ⟨a, dx, fs, rfl, hH, hlk⟩ := cls_at ec (gd.joi_in j) bo hv hc
        have q2 := tv_chnS (c := .io j c2) (call_kok0 (ms := .io :: ms) (F := F) (bs := true :: c2.kinds) (by show ((!Pm.io.own || true) && fitB ms c2.kinds) = true; rw [hf]; rfl) dw.wc σ) (by show true :: c2.iofs = _; rw [hi]; rfl) rfl H Q ⟨B, Z, Fs, env, gd, q⟩
        obtain ⟨v', ev', q3⟩ := q2
        rw [ev] at ev'
        cases ev'
        refine ⟨_, ev, a, dx, fs, rfl, hH, hlk, ?_⟩
        simpa using q3
      · exact q.elim
    · exact q.elim
end
end
end DL
namespace DL
open PySem PySem.Spec PyProof.Rows L2
def stK (cs : List Str) (f : Str) : Kn := fun ds e => match ds with
  | [x, .obj c fs vs] => if c ∈ cs ∧ f ∉ fs ∧ fs.length = vs.length ∧ fs.length < 1000 then .ok (.non, [.obj c (fs ++ [f]) (vs ++ [x])], e) else .bad
  | _ => .bad
theorem putF_new (f : Str) (y : V) : ∀ (fs : List Str) (us : List V), f ∉ fs → fs.length = us.length → putF f y (fs.zip us) = (fs ++ [f]).zip (us ++ [y])
  | [], [], _, _ => rfl
  | [], _ :: _, _, h => by simp at h
  | _ :: _, [], _, h => by simp at h
  | g :: fs, u :: us, h, hl => by
    have hn : ¬ g = f := fun e => h (e ▸ List.mem_cons_self)
    show (if g = f then _ else _) = _
    rw [if_neg hn]
    have := putF_new f y fs us (fun q => h (List.mem_cons_of_mem _ q)) (by simpa using hl)
    exact congrArg (List.cons (g, u)) this
section
variable {G : Gc} {W : Wsh} {X : Cx} {B Z H : Hp} {σ : L2.St} {env : DEnv} {Fs : Nat → List Addr}
/-- an owned node written -/
theorem upd_fin {T : List Addr} {Y : Hp} {its : List (Bool × D)} {vs : List V} (gd : Good G B Z H σ env Fs) (hd : Hand G B Z H Y Fs its vs T) {a : Addr} {u u2 : HO} {d2 : D} {x : V} {A : List Addr} (ha : a ∈ T) (hH : H a = some u) (hM : Mut (some u)) (o2 : Own G Z (upd H a u2) d2 x A) (nd : A.Nodup) (sub : ∀ b, b ∈ A → b ∈ T) {Q : VK}
    (hF : FinO G W B Z H σ env (PT_ Fs T) [x] (.ok (.non, [d2], env)) Q) : Q .non (upd H a u2) := by
  have sb : Same B (upd H a u2) := fun b u e => by
    rw [upd_ne (fun z => by rw [z, (hd.fr a ha).1] at e; cases e)]
    exact gd.sb b u e
  have sz : Same Z (upd H a u2) := fun b u e => by rw [gd.z0] at e; cases e
  have nt : ∀ (b : Addr) (w : HO), H b = some w → Still w → b ≠ a := fun b w e st z => by
    rw [z, hH] at e; cases e; exact st hM
  have st : Stp G B Z H σ env (PT_ Fs T) Z (upd H a u2) σ env Fs := by
    refine ⟨Same.refl Z, fun b u e n => ?_, ⟨sb, sz, gd.len, fun i => (gd.sl i).keep gd.sb gd.sz sb sz (Same.refl Z) fun b u e m => ?_, gd.nd, gd.dj, gd.fr, gd.z0, gd.gb⟩, fun b m => .inr (.inl m), fun _ m => .inl m, fun j d e => ⟨⟨d, e⟩, rfl⟩, fun j d e => ⟨e, rfl⟩, fun j d e => ⟨e, rfl⟩, fun j d e => ⟨e, rfl⟩, rfl⟩
    · rw [upd_ne (fun z => n (.inr (by rw [z]; exact ha)))]
      exact e
    · rw [upd_ne (fun z => ?_)]
      · exact e
      · rcases m with m | nm
        · exact hd.dj a ha ⟨i, by rw [← z]; exact m⟩
        · exact nt b u e nm z
  exact hF .non Z _ Fs A ⟨st, ⟨.non, [x], [], A, rfl, rfl, ⟨rfl, rfl⟩, ⟨x, [], A, [], rfl, by simp, o2, rfl, rfl⟩⟩, nd, fun b m => hd.dj b (sub b m), fun b m => hd.fr b (sub b m), fun b m => .inr (.inr (sub b m))⟩
def rSt (K : PySem.W.Frag) (f : Str) : List V → Hp → VK → Prop := fun vs H Q => match vs with
  | [y, x] => ∃ a C dx fs, x = .ref a ∧ H a = some (.ins C dx fs) ∧ Cls K C ∧ NoAttr K C f ∧ fs.length < 1000 ∧ Q .non (upd H a (.ins C dx (putF f y fs)))
  | _ => False
theorem k_st {K : PySem.W.Frag} {cs : List Str} {f : Str} (hcs : ∀ c ∈ cs, ∃ C, G.cl c = some C ∧ Cls K C ∧ NoAttr K C f) : KOk G W [false, true] [true, true] (rSt K f) (stK cs f) := by
  intro B Z H σ env Fs its vs T ios Q gd hd hb hn hF
  obtain ⟨y, d1, rfl⟩ := its2 hb
  unfold stK at hF
  split at hF
  · rename_i y' c fs ds e
    cases e
    split at hF
    · rename_i hc
      obtain ⟨w, v, F1, F2, rfl, rfl, h2, h1⟩ := hand2 hd.own
      obtain ⟨a, us, F', C, dx, rfl, ec, l, n, o⟩ := h1
      obtain ⟨C', ec', k1, k2⟩ := hcs c hc.1
      rw [ec] at ec'
      cases ec'
      rcases n with ⟨z, _⟩ | ⟨rfl, hH⟩
      · rw [gd.z0] at z; cases z
      · have hn : ios = [.ref a] := hn
        subst hn
        have nd := List.nodup_append.mp hd.nd
        have nd2 := List.nodup_cons.mp nd.2.1
        have ul := OwnL.length o
        refine ⟨a, C, dx, _, rfl, hH, k1, k2, by rw [List.length_zip]; omega, ?_⟩
        rw [putF_new f w fs us hc.2.1 l]
        have ha : a ∈ F1 ++ a :: F' := by simp
        have keep : ∀ b u, H b = some u → (b ∈ F' ++ F1 ∨ Still u) → upd H a (.ins C dx ((fs ++ [f]).zip (us ++ [w]))) b = some u := fun b u e m => by
          rw [upd_ne (fun z => ?_)]
          · exact e
          · subst z
            rcases m with m | m
            · rcases List.mem_append.mp m with m | m
              · exact nd2.1 m
              · exact nd.2.2 b m b List.mem_cons_self rfl
            · rw [hH] at e; cases e; exact m trivial
        have oo : OwnL G Z (upd H a (.ins C dx ((fs ++ [f]).zip (us ++ [w])))) (ds ++ [y]) (us ++ [w]) (F' ++ F1) :=
          OwnL.keep (Same.refl Z) _ _ _ keep (OwnL.append o (OwnL.one h2))
        have oN : Own G Z (upd H a (.ins C dx ((fs ++ [f]).zip (us ++ [w])))) (.obj c (fs ++ [f]) (ds ++ [y])) (.ref a) (a :: (F' ++ F1)) := ⟨a, us ++ [w], F' ++ F1, C, dx, rfl, ec, by simp [l], .inr ⟨rfl, upd_same⟩, oo⟩
        refine upd_fin gd hd (A := a :: (F' ++ F1)) ha hH trivial oN ?_ (fun b m => ?_) hF
        · refine List.nodup_cons.mpr ⟨fun m => ?_, List.nodup_append.mpr ⟨nd2.2, nd.1, fun p hp q hq e => nd.2.2 q hq p (List.mem_cons_of_mem _ hp) e.symm⟩⟩
          rcases List.mem_append.mp m with m | m
          · exact nd2.1 m
          · exact nd.2.2 a m a List.mem_cons_self rfl
        · simp only [List.mem_cons, List.mem_append] at m ⊢
          rcases m with m | m | m
          · exact .inr (.inl m)
          · exact .inr (.inr m)
          · exact .inl m
    · exact hF.elim
  · exact hF.elim
theorem s_fld {s value : Expr} {f : Str} {pos' pos : Pos} {j : Nat} {cs : List Str} {fe : DEnv → Out (D × DEnv)} (hcs : ∀ c ∈ cs, ∃ C, G.cl c = some C ∧ Cls X.K C ∧ NoAttr X.K C f) (ho : PE X s (tVar j)) (hv : PE X value (TV G W fe)) (hs : swapsWith value (some (.Attribute s f pos')) pos.line X.env = pure false := by rfl) :
    PS X (.Assign [.Attribute s f pos'] value pos) (TSt G W (sExpr (eK (.own fe (.io j (.fin []))) (stK cs f)))) :=
  (ps_fld ho hv hs).imp fun En σ H ⟨B, Z, Fs, env, gd, q⟩ => by
    have q1 : TV G W (eK (.own fe (.io j (.fin []))) (stK cs f)) σ H (fun _ H1 => En.nx σ H1) := by
      refine ⟨B, Z, Fs, env, gd, ?_⟩
      unfold sExpr at q
      unfold FinV
      cases hf : eK (.own fe (.io j (.fin []))) (stK cs f) env with
      | bad => rw [hf] at q; exact q.elim
      | exc c => rw [hf] at q; exact q σ (AgL.refl gd)
      | ok p =>
        rw [hf] at q
        exact fun v Z' H' Fs' F p => q σ Z' H' Fs' p.st
    have q2 := tv_chn (c := .own fe (.io j (.fin []))) (k_st (K := X.K) (f := f) hcs) rfl rfl σ H _ q1
    refine TV.mono (fun y H1 q3 => ?_) q2
    obtain ⟨v, ev, a, C, dx, fs, rfl, h⟩ := q3
    exact ⟨_, ev, a, C, dx, fs, rfl, h⟩
def makeK (c : Str) (F : Fn) : Kn := fun ds e => match F (.obj c [] [] :: ds) with
  | .ok (.non, [o]) => .ok (o, [], e)
  | _ => .bad
theorem k_make {c : Str} {C : Addr} {ms : List Pm} {F : Fn} {fl bs : List Bool} (ec : G.cl c = some C) (hfl : fl = ms.map Pm.isIo) (hio : fl.any id = false) (hf : fitB ms bs = true) (hwc : ∀ c σ H, W c σ H → ∃ C, G.cl c = some C) (σ : L2.St) :
    KOkS G W σ fl bs (fun vs H Q => ∀ x dx, H x = none → H dx = none → dx ≠ x → spD G (.io :: ms) (noX F) (.ref x :: vs) (upd (upd H dx (.own x)) x (.ins C dx [])) (fun v H2 => v = .non ∧ Q (.ref x) H2) XK0) (makeK c F) := by
  intro B Z H env Fs its vs T ios Q gd hd hb hn hF x dx hx hdx hne
  have hs1 : Same H (upd (upd H dx (.own x)) x (.ins C dx [])) := fun b o e => by
    rw [upd_ne (ne_of_none e hx), upd_ne (ne_of_none e hdx)]
    exact e
  have g1 := gd.grow hs1
  obtain ⟨nx, bx, zx⟩ := none_of_free gd hx
  have xT : x ∉ T := fun m => by
    obtain ⟨u, e, _⟩ := hd.own.dom x m
    rw [hx] at e; cases e
  have hd1 : Hand G B Z (upd (upd H dx (.own x)) x (.ins C dx [])) (cut (upd (upd H dx (.own x)) x (.ins C dx [])) (x :: T)) Fs ((true, .obj c [] []) :: its) (.ref x :: vs) (x :: T) := by
    refine ⟨⟨.ref x, vs, [x], T, rfl, rfl, ⟨x, [], [], C, dx, rfl, ec, rfl, .inr ⟨rfl, upd_same⟩, rfl, rfl⟩, ?_⟩, List.nodup_cons.mpr ⟨xT, hd.nd⟩, fun a m => ?_, fun a m => ?_⟩
    · refine OwnT.keep (fun a u e => ?_) (Same.refl Z) (fun b u e _ => hs1 b u e) hd.own
      unfold cut at e ⊢
      split at e
      · cases e
      · rename_i n
        have hax : a ≠ x := ne_of_none e hx
        rw [if_neg (by simpa [hax] using n)]
        exact hs1 a u e
    · rcases List.mem_cons.mp m with rfl | m
      · exact nx
      · exact hd.dj a m
    · rcases List.mem_cons.mp m with rfl | m
      · exact ⟨bx, zx⟩
      · exact hd.fr a m
  have hn0 : ios = [] := by
    rw [hn]
    exact ioV_none fl vs hio
  have k := call_kok0 (ms := .io :: ms) (F := F) (bs := true :: bs) (by show ((!Pm.io.own || true) && fitB ms bs) = true; rw [hf]; rfl) hwc σ B Z _ env Fs ((true, .obj c [] []) :: its) (.ref x :: vs) (x :: T) [.ref x] (fun v H2 => v = .non ∧ Q (.ref x) H2) g1 hd1 (by simp [hb]) (by
    show _ = ioV (true :: ms.map Pm.isIo) (.ref x :: vs)
    rw [ioV_first (by rw [← hfl]; exact hio)])
  refine k ?_
  have e0 : ((true, D.obj c [] []) :: its).map (·.2) = .obj c [] [] :: its.map (·.2) := rfl
  rw [e0]
  unfold makeK at hF
  unfold callK noX
  generalize F (.obj c [] [] :: its.map (·.2)) = oF at hF ⊢
  match oF, hF with
  | .bad, hF => exact hF.elim
  | .exc _, hF => exact hF.elim
  | .ok (.non, [o]), hF =>
    intro v Z' H' Fs' F p
    obtain ⟨q1, q2, Fa, Fb, e1, rfl, oa, ob⟩ := p.own
    cases e1
    obtain ⟨rfl, rfl⟩ := oa
    refine ⟨rfl, ?_⟩
    have pp : ∀ a, PT_ Fs (x :: T) a → H a = none ∨ PT_ Fs T a := fun a m => by
      rcases m with m | m
      · exact .inr (.inl m)
      · rcases List.mem_cons.mp m with rfl | m
        · exact .inl hx
        · exact .inr (.inr m)
    have s0 : Stp G B Z H σ env (PT_ Fs T) Z (upd (upd H dx (.own x)) x (.ins C dx [])) σ env Fs := Stp.grow gd (fun a m => .inl m) hs1
    have st : Stp G B Z H σ env (PT_ Fs T) Z' H' σ env Fs' := s0.trans pp p.st
    subst hn0
    refine hF (.ref x) Z' H' Fs' Fb ⟨st, ob, (List.nodup_append.mp p.nd).2.1, fun a m => p.dj a (List.mem_append_right _ m), fun a m => p.fr a (List.mem_append_right _ m), fun a m => ?_⟩
    rcases p.new a (List.mem_append_right _ m) with h | h
    · exact .inl (by
        cases e : H a with
        | none => rfl
        | some u => rw [hs1 a u e] at h; cases h)
    · exact pp a h
theorem e_make {c : Str} {C f : Addr} {fd : FuncData} {ps : List Str} {k : Nat} {ms : List Pm} {F : Fn} {p pos : Pos} {e : Expr} {es : List Expr} {t : TA} (dw : DXW X G W) (ec : G.cl c = some C) (M : Mk X.K C f) (FO : FnOk X.prog X.w X.K X.mg X.base (L2.CX X.prog X.w) k f fd ps (spD G (.io :: ms) F)) (hr : Room (k + 1) X.A) (hg : Gl X c) (hm : X.mg c = some (.ref C)) (hb : Binds X.K fd ps []) (c2 : Chn)
    (ha : PA X (e :: es) t) (ht : t = seqTE (c2.tes G W) := by rfl) (hi : c2.iofs = ms.map Pm.isIo := by rfl) (hio : c2.iofs.any id = false := by rfl) (hf : fitB ms c2.kinds = true := by rfl) (hdb : (c == ("__debug__" : Str)) = false := by decide) (he : starEach (e :: es) X.env = (false, eval e X.env) :: starEach es X.env := by rfl) (hpl : (backTo pos (starEach es X.env)).any (·.1) = false := by rfl) :
    PE X (.Call (.Name c p) (e :: es) [] pos) (TV G W (eK c2 (makeK c F))) :=
  (pe_make (E := XK0) M (FO.imp fun _ _ _ _ h => spD_noX h) hr hg hm hb .nil pass00 ha hdb he hpl).imp fun σ H Q q => by
    subst ht
    have q2 := tv_chnS (c := c2) (k_make (F := F) ec hi hio hf dw.wc σ) rfl rfl H Q q
    simpa [tMake] using q2
end
end DL
namespace DL
open PySem PySem.Spec PyProof.Rows L2
def noLck (env : DEnv) : Bool := env.all fun s => match s with
  | some (.lck, _) => false
  | _ => true
def ioOnly (env : DEnv) : DEnv := env.map fun s => match s with
  | some (.io, d) => some (.io, d)
  | _ => none
def ioNob (env : DEnv) : Bool := env.all fun s => match s with
  | some (.io, d) => d.nob
  | _ => true
/-- a scope: the slots are taken otherwise, and nothing borrowed leaves -/
def sScp (cv : DEnv → Option DEnv) (f : Stm) : Stm := fun env => if noLck env = true then must (cv env) fun env1 => match f env1 with
    | .ok (.rt d e) => if d.nob = true ∧ ioNob e = true then .ok (.rt d (ioOnly e)) else .bad
    | .exc c => .exc c
    | _ => .bad
  else .bad
/-- what is only read, borrowed -/
def borP (j : Nat) (env : DEnv) : Option DEnv := match env[j]? with
  | some (some (.brw, d)) => if d.isNon = false then some (env.set j (some (.own, .bor d))) else none
  | _ => none
/-- an instance's own node stands -/
def frzO (j : Nat) (env : DEnv) : Option DEnv := match env[j]? with
  | some (some (.own, .obj c fs vs)) => some (env.set j (some (.own, .fob c fs vs)))
  | _ => none
section
variable {K : PySem.W.Frag} {cl : Str → Option Addr} {bo : Hp} {W : Wsh} {X : Cx} {B Z H : Hp} {σ : L2.St} {env : DEnv} {Fs : Nat → List Addr}
theorem joi_z0 (h : ∀ a, Z a = none) : joi B Z = B := by
  funext a
  unfold joi
  cases e : B a with
  | none => exact h a
  | some u => rfl
/-- a step into a scope -/
def ScpIn (K : PySem.W.Frag) (cl : Str → Option Addr) (bo : Hp) (cv : DEnv → Option DEnv) : Prop := ∀ (B Z H : Hp) (σ : L2.St) (env : DEnv) (Fs : Nat → List Addr) (env1 : DEnv), Good ⟨K, cl, bo⟩ B Z H σ env Fs → cv env = some env1 → ∃ B' Fs1, Same B B' ∧ Good ⟨K, cl, B'⟩ B' Z H σ env1 Fs1 ∧ (∀ a, InF Fs1 a → InF Fs a) ∧ ∀ (j : Nat) (d : D), env[j]? = some (some (Md.io, d)) → env1[j]? = some (some (Md.io, d))
theorem slot_bo {b' B' : Hp} {x : Option (Option V)} {s : Option Slot} {F : List Addr} (hb : Same bo b') (hB : Same B B') (sb' : Same B' H) (sz : Same Z H) (h : SlotOk ⟨K, cl, bo⟩ B Z H x s F) : SlotOk ⟨K, cl, b'⟩ B' Z H x s F := by
  have hj : Same (joi B Z) (joi B' Z) := joi_mono hB (Same.refl Z) sb' sz
  unfold SlotOk at h ⊢
  match s, h with
  | some (some (.own, d)), h => obtain ⟨v, e, h⟩ := h; exact ⟨v, e, Own.bo hb _ _ _ _ h⟩
  | some (some (.io, d)), h => obtain ⟨v, e, h⟩ := h; exact ⟨v, e, Own.bo hb _ _ _ _ h⟩
  | some (some (.shr, d)), h => obtain ⟨v, e, h, f⟩ := h; exact ⟨v, e, Own.bo hb _ _ _ _ h, f⟩
  | some (some (.brw, d)), h => obtain ⟨v, e, h, f⟩ := h; exact ⟨v, e, Own.bo hb _ _ _ _ (Own.keep hj d v [] (fun _ _ e _ => e) h), f⟩
  | some (some (.lck, d)), h => obtain ⟨v, e, h, f⟩ := h; exact ⟨v, e, Own.bo hb _ _ _ _ (Own.keep hj d v [] (fun _ _ e _ => e) h), f⟩
  | some none, h => exact h
  | none, h => exact h
theorem not_non {d : D} {v : V} {Y : Hp} {F : List Addr} {G : Gc} (h : Own G Y H d v F) (hn : d.isNon = false) : v ≠ .non := fun e => by
  have := h.isNon
  rw [decide_eq_true e, hn] at this
  cases this
theorem scp_brw (j : Nat) : ScpIn K cl bo (borP j) := by
  intro B Z H σ env Fs env1 g hc
  unfold borP at hc
  split at hc
  · rename_i d hs
    split at hc
    · rename_i hn
      cases hc
      have hj := g.sl j
      rw [hs] at hj
      obtain ⟨v, ev, ho, hF⟩ := hj
      have hl := (List.getElem?_eq_some_iff.mp hs).1
      rw [joi_z0 g.z0] at ho
      refine ⟨B, Fs, Same.refl B, ⟨g.sb, g.sz, by rw [List.length_set]; exact g.len, fun i => ?_, g.nd, g.dj, g.fr, g.z0, Same.refl B⟩, fun a m => m, fun i d' e => ?_⟩
      · by_cases h : i = j
        · subst h
          rw [List.getElem?_set_self hl]
          exact ⟨v, ev, hF, Own.bo g.gb _ _ _ _ ho, not_non ho hn⟩
        · rw [List.getElem?_set_ne fun z => h z.symm]
          exact slot_bo g.gb (Same.refl B) g.sb g.sz (g.sl i)
      · by_cases h : i = j
        · subst h; rw [hs] at e; cases e
        · rw [List.getElem?_set_ne fun z => h z.symm]; exact e
    · cases hc
  · cases hc
theorem scp_frz (j : Nat) : ScpIn K cl bo (frzO j) := by
  intro B Z H σ env Fs env1 g hc
  unfold frzO at hc
  split at hc
  · rename_i c fs vs hs
    cases hc
    have hj := g.sl j
    rw [hs] at hj
    obtain ⟨v, ev, a, us, F', C, dx, rfl, ec, l, n, o⟩ := hj
    have hl := (List.getElem?_eq_some_iff.mp hs).1
    rcases n with ⟨z, _⟩ | ⟨hF, hH⟩
    · rw [g.z0] at z; cases z
    · have nd := g.nd j
      rw [hF] at nd
      have nd2 := List.nodup_cons.mp nd
      have up : Same B (lay B H [a]) := lay_up g.sb
      have le : Same (lay B H [a]) H := lay_le g.sb
      have sub : ∀ b, b ∈ F' → b ∈ Fs j := fun b m => by rw [hF]; exact List.mem_cons_of_mem _ m
      have haj : a ∈ Fs j := by rw [hF]; exact List.mem_cons_self
      refine ⟨lay B H [a], onF Fs j F', up, ⟨le, g.sz, by rw [List.length_set]; exact g.len, fun i => ?_, fun i => ?_, fun i k b m n => ?_, fun i b m => ?_, g.z0, Same.refl _⟩, fun b m => ?_, fun i d' e => ?_⟩
      · by_cases h : i = j
        · subst h
          rw [List.getElem?_set_self hl]
          refine ⟨.ref a, ev, ?_⟩
          have : onF Fs i F' i = F' := by unfold onF; rw [if_pos rfl]
          rw [this]
          exact ⟨a, us, C, dx, rfl, ec, l, (lay_in (by simp)).trans hH, OwnL.bo (g.gb.trans up) _ _ _ _ o⟩
        · rw [List.getElem?_set_ne fun z => h z.symm]
          have : onF Fs j F' i = Fs i := by unfold onF; rw [if_neg h]
          rw [this]
          exact slot_bo (g.gb.trans up) up le g.sz (g.sl i)
      · unfold onF
        split
        · exact nd2.2
        · exact g.nd i
      · unfold onF at m n
        split at m
        · rename_i h1
          split at n
          · rename_i h2; rw [h1, h2]
          · rw [h1]; exact g.dj j k b (sub b m) n
        · split at n
          · rename_i h2; rw [h2]; exact g.dj i j b m (sub b n)
          · exact g.dj i k b m n
      · have hb : b ≠ a ∧ ∃ k, b ∈ Fs k := by
          unfold onF at m
          split at m
          · exact ⟨fun z => nd2.1 (z ▸ m), j, sub b m⟩
          · rename_i h1
            exact ⟨fun z => h1 (g.dj i j b m (z ▸ haj)), i, m⟩
        obtain ⟨h1, k, h2⟩ := hb
        rw [lay_out (by simpa using h1)]
        exact g.fr k b h2
      · rcases inF_on m with m | m
        · exact ⟨j, sub b m⟩
        · exact m
      · by_cases h : i = j
        · subst h; rw [hs] at e; cases e
        · rw [List.getElem?_set_ne fun z => h z.symm]; exact e
  · cases hc
theorem DXW.scp {bo' : Hp} (h : DXW X ⟨K, cl, bo⟩ W) : DXW X ⟨K, cl, bo'⟩ W := ⟨⟨h.dx.K, h.dx.nd, h.dx.un⟩, h.wc, h.tk⟩
theorem _root_.L2.PSs.ex {ι : Type} {b : List Stmt} {t : ι → TS} (h : ∀ i, PSs X b (t i)) : PSs X b (fun En σ H => ∃ i, t i En σ H) := ⟨fun pins s σ H D I ⟨i, q⟩ => (h i).run pins s σ H D I q⟩
theorem noLck_at (h : noLck env = true) {i : Nat} {d : D} : env[i]? ≠ some (some (.lck, d)) := fun e => by
  have := List.all_eq_true.mp h _ (List.mem_of_getElem? e)
  cases this
theorem ioOnly_at {e : DEnv} {i : Nat} : (ioOnly e)[i]? = match e[i]? with
    | some (some (.io, d)) => some (some (.io, d))
    | some _ => some none
    | none => none := by
  unfold ioOnly
  rw [List.getElem?_map]
  cases e[i]? with
  | none => rfl
  | some s =>
    match s with
    | some (.io, d) => rfl
    | some (.own, d) => rfl
    | some (.shr, d) => rfl
    | some (.brw, d) => rfl
    | some (.lck, d) => rfl
    | none => rfl
theorem s_scp {cv : DEnv → Option DEnv} {rest : List Stmt} {f : Stm} (hcv : ScpIn K cl bo cv) (h : ∀ bo', PSs X rest (TSt ⟨K, cl, bo'⟩ W f)) : PSs X rest (TSt ⟨K, cl, bo⟩ W (sScp cv f)) :=
  (PSs.ex h).imp fun En σ H ⟨B, Z, Fs, env, g, q⟩ => by
    unfold sScp at q
    split at q
    · rename_i hlk
      cases hc : cv env with
      | none => rw [hc] at q; exact q.elim
      | some env1 =>
        rw [hc] at q
        obtain ⟨B', Fs1, hB, g1, hsub, hio⟩ := hcv B Z H σ env Fs env1 g hc
        refine ⟨B', B', Z, Fs1, env1, g1, ?_⟩
        simp only [must_some] at q
        generalize f env1 = o at q
        match o, q with
        | .bad, q => exact q.elim
        | .exc c, q => exact fun σ' ag H' hs => q σ' ⟨ag.1.trans (g1.len.trans g.len.symm), fun j d e => absurd e (noLck_at hlk)⟩ H' (hB.trans hs)
        | .ok (.nx e), q => exact q.elim
        | .ok (.bk e), q => exact q.elim
        | .ok (.ct e), q => exact q.elim
        | .ok (.rt d e), q =>
          have q : FinS ⟨K, cl, bo⟩ W B Z H σ env (InF Fs) (if d.nob = true ∧ ioNob e = true then .ok (.rt d (ioOnly e)) else .bad) En := q
          split at q
          · rename_i hnb
            intro σ' v Z' H' Fs' F r
            have gd := r.st.good
            have sb' : Same B H' := hB.trans gd.sb
            refine q σ' v Z' H' (fun i => match e[i]? with | some (some (.io, _)) => Fs' i | _ => []) F ⟨⟨r.st.zz, fun a u e n => r.st.ext a u e fun m => n (hsub a m), ⟨sb', gd.sz, by unfold ioOnly; rw [List.length_map]; exact gd.len, fun i => ?_, fun i => ?_, fun i k a m n => ?_, fun i a m => ?_, gd.z0, g.gb⟩, fun a m => ?_, fun a m => ?_, fun i d' hd => ?_, fun i d' hd => ?_, fun i d' hd => ?_, fun i d' hd => ?_, ?_⟩, ?_, r.nd, fun a m n => ?_, fun a m => ?_, fun a m => ?_⟩
            · have hsl := gd.sl i
              rw [ioOnly_at]
              cases he : e[i]? with
              | none => rfl
              | some s =>
                match s, he with
                | some (.io, d'), he =>
                  rw [he] at hsl
                  obtain ⟨w, ew, ow⟩ := hsl
                  have hn : d'.nob = true := List.all_eq_true.mp hnb.2 _ (List.mem_of_getElem? he)
                  exact ⟨w, ew, Own.nob d' w _ hn ow⟩
                | some (.own, _), he => rfl
                | some (.shr, _), he => rfl
                | some (.brw, _), he => rfl
                | some (.lck, _), he => rfl
                | none, he => rfl
            · split
              · exact gd.nd i
              · exact List.nodup_nil
            · split at m
              · split at n
                · exact gd.dj i k a m n
                · cases n
              · cases m
            · split at m
              · refine ⟨?_, (gd.fr i a m).2⟩
                cases eb : B a with
                | none => rfl
                | some u =>
                  have := (gd.fr i a m).1
                  rw [hB a u eb] at this
                  cases this
              · cases m
            · obtain ⟨i, m⟩ := m
              dsimp only at m
              split at m
              · exact (r.st.new a ⟨i, m⟩).imp id (hsub a)
              · cases m
            · exact (r.st.newz a m).imp id fun z => z.imp id (hsub a)
            · obtain ⟨⟨d2, h2⟩, hσ⟩ := r.st.io i d' (hio i d' hd)
              exact ⟨⟨d2, by rw [ioOnly_at, h2]⟩, hσ⟩
            · exact absurd hd (noLck_at hlk)
            · rw [ioOnly_at] at hd
              split at hd <;> cases hd
            · rw [ioOnly_at] at hd
              split at hd <;> cases hd
            · unfold ioOnly
              rw [List.length_map, r.st.ln]
              have := g1.len
              have := g.len
              omega
            · exact Own.nob d v F hnb.1 r.own
            · obtain ⟨i, n⟩ := n
              dsimp only at n
              split at n
              · exact r.dj a m ⟨i, n⟩
              · cases n
            · refine ⟨?_, (r.fr a m).2⟩
              cases eb : B a with
              | none => rfl
              | some u =>
                have := (r.fr a m).1
                rw [hB a u eb] at this
                cases this
            · exact (r.new a m).imp id (hsub a)
          · exact q.elim
    · exact q.elim
end
end DL
namespace DL
open PySem PySem.Spec PyProof.Rows L2
theorem inC1 {P : Str → Prop} {c : Str} (h : P c) : ∀ c' ∈ [c], P c' := fun c' m => by rw [List.mem_singleton.mp m]; exact h
def eMovF (j : Nat) (cs : List Str) (f : Str) : DEnv → Out (D × DEnv) := fun env => match env[j]? with
  | some (some (.own, .fob c fs vs)) => if c ∈ cs then match fs.findIdx? fun g => f == g with
    | some n => match vs[n]? with
      | some d => .ok (d, env.set j none)
      | none => .bad
    | none => .bad
    else .bad
  | _ => .bad
section
variable {G : Gc} {W : Wsh} {X : Cx}
theorem e_movF {s : Expr} {f : Str} {pos : Pos} {j : Nat} {cs : List Str} (hcs : ∀ c ∈ cs, ∃ C, G.cl c = some C ∧ Cls X.K C ∧ NoAttr X.K C f) (ho : PE X s (tVar j)) (hb : attributeBase s f X.env (eval s X.env) = eval s X.env := by rfl) : PE X (.Attribute s f pos) (TV G W (eMovF j cs f)) :=
  (pe_fld ho hb).imp fun σ H Q ⟨B, Z, Fs, env, g, q⟩ => by
    unfold eMovF at q
    split at q
    · rename_i c fs ds hs
      split at q
      · rename_i hc
        split at q
        · rename_i n hfi
          split at q
          · rename_i d hdn
            have hj := g.sl j
            rw [hs] at hj
            obtain ⟨v, ev, a, us, C, dx, rfl, ec, l, nb, of⟩ := hj
            obtain ⟨C', ec', k1, k2⟩ := hcs c hc
            have ec : G.cl c = some C := ec
            rw [ec] at ec'
            cases ec'
            obtain ⟨w, F1, Fd, F2, ew, hF, od, _⟩ := OwnL.cutAt of hdn
            have hlk : (fs.zip us).lookup f = some w := (zip_find fs us f n hfi).trans ew
            have sub : ∀ b, b ∈ Fd → b ∈ Fs j := fun b m => by rw [hF]; simp [m]
            have nd := g.nd j
            rw [hF] at nd
            have ndd := (List.nodup_append.mp (List.nodup_append.mp nd).2.1).1
            refine ⟨_, ev, a, C, dx, _, w, rfl, (g.gb.trans g.sb) _ _ nb, k1, k2, hlk, ?_⟩
            refine q w Z H (offF Fs j) Fd ⟨Stp.take g hs, OwnL.one od, ndd, fun b m n => ?_, fun b m => g.fr j b (sub b m), fun b m => .inr ⟨j, sub b m⟩⟩
            obtain ⟨i, n⟩ := n
            unfold offF at n
            split at n
            · cases n
            · rename_i h
              exact h (g.dj i j b n (sub b m))
          · exact q.elim
        · exact q.elim
      · exact q.elim
    · exact q.elim
end
end DL
namespace L2
open PySem PySem.Spec PyProof.Rows
/-- {k: v}, k a tuple -/
def tDisp1T (tk tv : TE) : TE := fun σ H Q => ∀ p, H p = none → tk σ (upd H p (.dT [])) fun x H1 => tv σ H1 fun y H2 => H2 p = some (.dT []) ∧ ∃ b kk, x = .ref b ∧ H2 b = some (.tup (kk.map kV)) ∧ Q (.ref p) (upd H2 p (.dT [(kk, y)]))
theorem pe_disp1T {X : Cx} {pos : Pos} {k v : Expr} {tk tv : TE} (hu : X.A.units + 1 < cLine) (hk : PE X k tk) (hv : PE X v tv) : PE X (.Dict [some k] [v] pos) (tDisp1T tk tv) := by
  refine ⟨fun pins s σ H Q I q => ?_⟩
  have hn := I.hok.fresh (Nat.le_refl s.heap.objs.size)
  have I1 := I.laid (a := s.heap.objs.size) (o := .dT []) (h' := s.heap.push { cls := .type "dict", data := .dict #[] }) (t' := s.toks) (fun _ _ q => Heap.get?_push_of_some _ q) (Nat.le_refl _) (dt_empty s.heap I.big)
  have hsh := zip_pairTrees [some k] [v] X.env pos rfl rfl
  have hlen := pairTrees_length [some k] [v] X.env pos rfl rfl
  have h1 : [some k].length = 1 := rfl
  have h0 : pairTrees [some k] [v] X.env pos ≠ [] := fun e => by rw [e] at hlen; cases hlen
  have hroom : (tupleKind (mixKind X.prog X.w)).room X.A := show X.A.units < cLine by omega
  rw [arm_eval_Dict, hsh, dictDisplay_pairs _ h0 (by rw [hlen, h1]; decide)]
  refine wpAny_bind (wpAny_standAt (wpAny_bind (wpAny_subDictH (knd := tupleKind (mixKind X.prog X.w)) (Q := fun d s' => wpAny (model X.prog X.w) X.A (pure (Value.ref d)) (EP X pins σ Q) X.xe s') hroom (by rw [hlen, h1]; decide) ?_)))
  refine pairTrees_cons_walk (thn (hk.run pins _ σ _ _ I1 (q _ hn)) fun u s1 ⟨x, H1, J1, rx, q1⟩ => thn (hv.run pins s1 σ H1 _ J1 q1) fun w2 s2 ⟨y, H2, I2, ry, e, b, kk, ex, eb, q2⟩ => pairTrees_nil_walk ?_)
  subst ex
  cases (show u = Value.ref b from rx)
  obtain ⟨z, hd, xs, rel, dd⟩ := dt_of I2.hok e
  cases rel
  refine ⟨[(kk, b, w2)], ⟨rfl, rfl, key_of I2.hok eb, trivial⟩, dd, fun h' tk dd' hs => wpAny_pure ⟨.ref s.heap.objs.size, _, ?_, rfl, q2⟩⟩
  obtain ⟨q', es, ep, hq, h2, h3, h4, h6, h5⟩ := dd'
  refine d_write I2 (by rw [e]; exact True.intro) hs ⟨q', hq⟩ ⟨by rw [sizeLine_eq]; simp, hd, _, .cons ⟨rfl, ?_, ry⟩ .nil, q', es, ep, hq, h2, h3, h4, h5⟩
  show upd H2 s.heap.objs.size _ b = _
  rw [upd_ne (ne_of eb e (fun z => nomatch z))]
  exact eb
end L2
namespace DL
open PySem PySem.Spec PyProof.Rows L2
section
variable {G : Gc} {W : Wsh} {X : Cx}
def eMk (f : DEnv → Out (D × DEnv)) (mk : D → Option D) : DEnv → Out (D × DEnv) := fun env => f env >>= fun p => match mk p.1 with
  | some d => .ok (d, p.2)
  | none => .bad
theorem tv_mk {f : DEnv → Out (D × DEnv)} {mk : D → Option D} {σ : L2.St} {H : Hp} {Q : VK} {p : Addr} {o : HO} (hM : Mut (some o)) (hp : H p = none) (h : TV G W (eMk f mk) σ H Q) : TV G W f σ (upd H p o) fun v H2 => H2 p = some o ∧ ∃ d d2, mk d = some d2 ∧ Own G H2 H2 d v [] ∧ ∀ o2, Mut (some o2) → (∀ Z, Own G Z (upd H2 p o2) d2 (.ref p) [p]) → Q (.ref p) (upd H2 p o2) := by
  obtain ⟨B, Z, Fs, env, g, q⟩ := h
  have hs1 : Same H (upd H p o) := same_upd hp
  have g1 := g.grow hs1
  obtain ⟨np, bp, zp⟩ := none_of_free g hp
  have up : Same B (lay B (upd H p o) [p]) := lay_up g1.sb
  have le : Same (lay B (upd H p o) [p]) (upd H p o) := lay_le g1.sb
  have g2 : Good G (lay B (upd H p o) [p]) Z (upd H p o) σ env Fs := by
    refine ⟨le, g1.sz, g1.len, fun j => ?_, g1.nd, g1.dj, fun i a m => ⟨?_, (g1.fr i a m).2⟩, g1.z0, g1.gb.trans up⟩
    · have h := g1.sl j
      have j1 : Same (joi B Z) (joi (lay B (upd H p o) [p]) Z) := joi_mono up (Same.refl Z) le g1.sz
      unfold SlotOk at h ⊢
      match hs : env[j]?, h with
      | some (some (.own, d)), h => exact h
      | some (some (.io, d)), h => exact h
      | some (some (.shr, d)), h => exact h
      | some (some (.brw, d)), h => obtain ⟨v, e, h, f⟩ := h; exact ⟨v, e, Own.keep j1 d v [] (fun _ _ e _ => e) h, f⟩
      | some (some (.lck, d)), h => obtain ⟨v, e, h, f⟩ := h; exact ⟨v, e, Own.keep j1 d v [] (fun _ _ e _ => e) h, f⟩
      | some none, h => exact h
      | none, h => exact h
    · rw [lay_out (by simp; exact fun z => np (z ▸ ⟨i, m⟩))]
      exact (g1.fr i a m).1
  refine ⟨_, Z, Fs, env, g2, ?_⟩
  unfold eMk at q
  unfold FinV at q ⊢
  match hf : f env, q with
  | .exc c, q => exact fun H' hs => q H' (up.trans hs)
  | .ok (d, env'), q =>
    intro v Z' H' Fs' F po
    simp only [Out.bind_ok] at q
    cases hm : mk d with
    | none => rw [hm] at q; exact q.elim
    | some d2 =>
      rw [hm] at q
      have s0 : Stp G B Z H σ env (InF Fs) Z (upd H p o) σ env Fs := Stp.grow g (fun a m => m) hs1
      have s1 := po.st.unB g1 up g1.pm
      have s2 : Stp G B Z H σ env (InF Fs) Z' H' σ env' Fs' := s0.trans (fun a m => .inr m) s1
      have lp : lay B (upd H p o) [p] p = some o := (lay_in (by simp)).trans upd_same
      have hH' : H' p = some o := po.st.good.sb _ _ lp
      have npF : ¬ InF Fs' p := fun ⟨i, m⟩ => by
        have := (po.st.good.fr i p m).1
        rw [lp] at this; cases this
      refine ⟨hH', d, d2, hm, Own.rep po.st.good.sz d v F po.one, fun o2 hM2 ow => ?_⟩
      have gd := s2.good
      have sb : Same B (upd H' p o2) := fun b u e => by
        rw [upd_ne (fun z => by rw [z, bp] at e; cases e)]
        exact gd.sb b u e
      have sz : Same Z' (upd H' p o2) := fun b u e => by rw [gd.z0] at e; cases e
      have gd2 : Good G B Z' (upd H' p o2) σ env' Fs' := by
        refine ⟨sb, sz, gd.len, fun i => (gd.sl i).keep gd.sb gd.sz sb sz (Same.refl Z') fun b u e m => ?_, gd.nd, gd.dj, gd.fr, gd.z0, gd.gb⟩
        rw [upd_ne (fun z => ?_)]
        · exact e
        · subst z
          rcases m with m | m
          · exact npF ⟨i, m⟩
          · rw [hH'] at e; cases e; exact m hM
      refine q (.ref p) Z' (upd H' p o2) Fs' [p] ⟨⟨s2.zz, fun b u e n => ?_, gd2, s2.new, s2.newz, s2.io, s2.lk, s2.bw, s2.lb, s2.ln⟩, OwnL.one (ow Z'), one_nodup, fun b m => by rw [List.mem_singleton.mp m]; exact npF, fun b m => by rw [List.mem_singleton.mp m]; exact ⟨bp, gd.z0 p⟩, fun b m => by rw [List.mem_singleton.mp m]; exact .inl hp⟩
      rw [upd_ne (fun z => by rw [z, hp] at e; cases e)]
      exact s2.ext b u e n
theorem e_oneT {k v : Expr} {pos : Pos} {fk : DEnv → Out (D × DEnv)} {c : D} {w : V} (dx : DX X G) (hk : PE X k (TV G W fk)) (hv : PE X v (tC w)) (hd : ∀ Z H, Own G Z H c w []) : PE X (.Dict [some k] [v] pos) (TV G W (eMk fk fun d => (keysD d).map fun ks => .dt [ks] [c])) :=
  (pe_disp1T (by have := dx.un; omega) hk hv).imp fun σ H Q h => by
    intro p hp
    refine TV.mono (fun x H1 z => ?_) (tv_mk (o := .dT []) trivial hp h)
    obtain ⟨e, d, d2, hm, ho, q⟩ := z
    obtain ⟨ks, hks, rfl⟩ := Option.map_eq_some_iff.mp hm
    obtain ⟨b, rfl, hb⟩ := keysD_own hks ho
    refine ⟨e, b, ks, rfl, hb, q _ trivial fun Z => ⟨p, [w], [], rfl, rfl, .inr ⟨rfl, upd_same⟩, OwnL.cons_nil (hd _ _) ⟨rfl, rfl⟩⟩⟩
end
end DL
namespace DL
open PySem PySem.Spec PyProof.Rows L2
end DL
namespace DL
open PySem PySem.Spec PyProof.Rows L2
section
variable {G : Gc} {W : Wsh} {X : Cx}
def fJoin (a : Str) (d : D) : Option D := match d with
  | .lst xs => (D.strs xs).bind fun ys => iff? ((ys.map (·.length)).sum + ys.length * a.length ≤ 16777216) (.str (Txt.join a ys))
  | .tupF _ xs => (D.strs xs).bind fun ys => iff? ((ys.map (·.length)).sum + ys.length * a.length ≤ 16777216) (.str (Txt.join a ys))
  | _ => none
abbrev gJoin (a : Str) := una (fJoin a)
def rJoin (K : PySem.W.Frag) (s : Str) : V → Hp → VK → Prop := fun y H Q => ∃ a p, ∃ ys : List Str, V.str s = .str a ∧ [y] = [.ref p] ∧ (SqL K H p (ys.map V.str) ∨ SqT K H p (ys.map V.str)) ∧ (ys.map (·.length)).sum + ys.length * a.length ≤ 16777216 ∧ Q (.str (Txt.join a ys)) H
theorem rop_join (s : Str) : ROp G (l1 (rJoin G.K s)) (gJoin s) := by
  intro ds vs H Q d h e q
  obtain ⟨a, rfl, e3⟩ := una_some e
  replace e := e3
  obtain ⟨x, rfl, h1⟩ := own1 h
  unfold fJoin at e
  split at e
  · rename_i xs
    obtain ⟨ys, hy, e⟩ := bind_some2 e
    obtain ⟨hl, rfl⟩ := iff?_some e
    obtain ⟨p, ws, rfl, hs, o⟩ := h1.lstR
    have := strs_own hy o
    subst this
    exact ⟨s, p, ys, rfl, rfl, .inl hs, hl, done0 q fun Z => ⟨rfl, rfl⟩⟩
  · rename_i f xs
    obtain ⟨ys, hy, e⟩ := bind_some2 e
    obtain ⟨hl, rfl⟩ := iff?_some e
    cases f with
    | false =>
      obtain ⟨p, ws, rfl, e1, o⟩ := h1
      have := strs_own hy o
      subst this
      exact ⟨s, p, ys, rfl, rfl, .inr (SqT.of e1), hl, done0 q fun Z => ⟨rfl, rfl⟩⟩
    | true =>
      obtain ⟨p, ws, rfl, e1, o⟩ := h1
      have := strs_own hy o
      subst this
      exact ⟨s, p, ys, rfl, rfl, .inr e1.seq, hl, done0 q fun Z => ⟨rfl, rfl⟩⟩
  · cases e
theorem e_join {s : Str} {e : Expr} {te : TE} {kk : _} {p0 apos pos : Pos} (dx : DX X G) (c : Chn) (he : PE X e te) (hc : c.tes G W = [te] := by rfl) (hn : c.iofs.any id = false := by rfl) (hs : starEach [e] X.env = [(false, eval e X.env)] := by rfl) (hbase : attributeBase (.Constant (.str s) kk p0) "join" X.env (eval (.Constant (.str s) kk p0) X.env) = eval (.Constant (.str s) kk p0) X.env := by rfl) (hline : (apos.endLine == pos.line) = true := by rfl) :
    PE X (.Call (.Attribute (.Constant (.str s) kk p0) "join" apos) [e] [] pos) (TV G W (eOp c (gJoin s))) :=
  (pe_join pe_str he hs hbase hline).imp fun σ H Q h => by
    have q := tv_op (r := l1 (rJoin X.K s)) (by rw [dx.K]; exact rop_join s) hn σ H Q h
    rw [hc] at q
    exact ⟨⟨s, rfl⟩, q⟩
theorem p_gint {x : Str} {n : Int} {t : Tok} {pos : Pos} (hg : Gl X x) (hm : X.mg x = some (.int n t)) (hd : (x == ("__debug__" : Str)) = false := by decide) : PE X (.Name x pos) (TPur G (hC (.int n))) :=
  (pe_glob (v := .int n) hg hm ⟨t, rfl⟩ hd).imp fun σ H Q ⟨B, Z, Fs, env, gd, d, e, q⟩ => by
    cases e
    exact q (.int n) H (Same.refl H) rfl fun Z => ⟨rfl, rfl⟩
end
section
variable {G : Gc} {W : Wsh} {B Z H : Hp} {σ : L2.St} {env : DEnv} {Fs : Nat → List Addr} {X : Cx}
end
end DL
namespace DL
open PySem PySem.Spec PyProof.Rows L2
section
variable {G : Gc} {W : Wsh} {X : Cx}
end
end DL
namespace DL
open PySem PySem.Spec PyProof.Rows L2
section
variable {G : Gc} {W : Wsh} {X : Cx} {B Z H : Hp} {σ : L2.St} {env : DEnv} {Fs : Nat → List Addr}
end
end DL
namespace DL
open PySem PySem.Spec PyProof.Rows L2
section
variable {G : Gc} {W : Wsh} {X : Cx}
end
end DL
namespace DL
open PySem PySem.Spec PyProof.Rows L2
/-- what the top tells of an own refusal's class, made over ValueError -/
structure Ecl (K : PySem.W.Frag) (mg : Str → Option Value) (cl : Str → Option Addr) (c : Str) : Prop where
  ex : ∃ C, cl c = some C ∧ mg c = some (.ref C) ∧ PySem.W.excIn K C [.type "ValueError", .type "Exception", .type "BaseException", .type "object"] "ValueError.__new__" = true ∧ PySem.W.keepIn K (.ref C) = true ∧ PySem.W.subIn K (.ref C) (.type "BaseException") = some true ∧ PySem.W.typeIn K (.ref C) = some (.type "type")
def sRaise (c : Str) : Stm := fun _ => .exc c
section
variable {G : Gc} {W : Wsh} {X : Cx}
theorem s_raise {x m : Str} {j : _} {p p2 pos rpos : Pos} (dw : DXW X G W) (he : Ecl X.K X.mg G.cl x) (hcl : X.calm = true := by rfl) (hg : Gl X x := by rfl) (hdb : (x == ("__debug__" : Str)) = false := by decide) : PS X (.Raise (some (.Call (.Name x p) [.Constant (.str m) j p2] [] pos)) none rpos) (TSt G W (sRaise x)) := by
  obtain ⟨C, h1, h2, h3, h4, h5, h6⟩ := he.ex
  exact (ps_raise hcl dw.tk (pmk_own PySem.F.excBase_ValueError h3 h2 h4 (raises_own h5 h6) hg hdb)).imp fun En σ H ⟨B, Z, Fs, env, gd, q⟩ => ⟨rfl, x, C, rfl, h1, q σ (AgL.refl gd) H gd.sb⟩
end
mutual
/-- no caught refusal in it -/
def D.noE : D → Bool
  | .tupF _ ds => D.noEL ds
  | .lst ds => D.noEL ds
  | .dk _ ds => D.noEL ds
  | .dt _ ds => D.noEL ds
  | .obj c _ ds => decide (c ≠ exName) && D.noEL ds
  | .fob c _ ds => decide (c ≠ exName) && D.noEL ds
  | .exn _ => false
  | .bor d => D.noE d
  | .non => true
  | .bl _ => true
  | .int _ => true
  | .str _ => true
  | .scr _ => true
def D.noEL : List D → Bool
  | [] => true
  | d :: r => d.noE && D.noEL r
end
/-- the table with the caught one -/
def clE (cl : Str → Option Addr) (a : Addr) : Str → Option Addr := fun c => if c = exName then some a else cl c
theorem clE_up {cl : Str → Option Addr} {a : Addr} (h : cl exName = none) {c : Str} {C : Addr} (e : cl c = some C) : clE cl a c = some C := by
  unfold clE
  rw [if_neg (fun z => by rw [z, h] at e; cases e)]
  exact e
theorem clE_dn {cl : Str → Option Addr} {a : Addr} {c : Str} (h : c ≠ exName) : clE cl a c = cl c := if_neg h
section
variable {K : PySem.W.Frag} {cl : Str → Option Addr} {bo : Hp} {a : Addr}
mutual
theorem Own.clUp (hx : cl exName = none) {H : Hp} : ∀ (Z : Hp) (d : D) (v : V) (F : List Addr), Own ⟨K, cl, bo⟩ Z H d v F → Own ⟨K, clE cl a, bo⟩ Z H d v F
  | _, .non, _, _, h => h
  | _, .bl _, _, _, h => h
  | _, .int _, _, _, h => h
  | _, .str _, _, _, h => h
  | _, .scr _, _, _, h => h
  | Z, .tupF f ds, v, F, h => by
    obtain ⟨a, vs, e, h1, h2⟩ := h
    exact ⟨a, vs, e, h1, OwnL.clUp hx Z ds vs F h2⟩
  | Z, .lst ds, v, F, h => by
    obtain ⟨a, vs, F', e, n, h2⟩ := h
    exact ⟨a, vs, F', e, n, OwnL.clUp hx Z ds vs F' h2⟩
  | Z, .dk ks ds, v, F, h => by
    obtain ⟨a, vs, F', e, l, n, h2⟩ := h
    exact ⟨a, vs, F', e, l, n, OwnL.clUp hx Z ds vs F' h2⟩
  | Z, .dt ks ds, v, F, h => by
    obtain ⟨a, vs, F', e, l, n, h2⟩ := h
    exact ⟨a, vs, F', e, l, n, OwnL.clUp hx Z ds vs F' h2⟩
  | Z, .obj c fs ds, v, F, h => by
    obtain ⟨b, vs, F', C, dx, e, ec, l, n, h2⟩ := h
    exact ⟨b, vs, F', C, dx, e, clE_up hx ec, l, n, OwnL.clUp hx Z ds vs F' h2⟩
  | Z, .fob c fs ds, v, F, h => by
    obtain ⟨b, vs, C, dx, e, ec, l, n, h2⟩ := h
    exact ⟨b, vs, C, dx, e, clE_up hx ec, l, n, OwnL.clUp hx Z ds vs F h2⟩
  | _, .exn _, _, _, h => by
    obtain ⟨_, b, _, e⟩ := h
    rw [show (⟨K, cl, bo⟩ : Gc).cl exName = none from hx] at e
    cases e
  | _, .bor d, v, F, h => ⟨h.1, Own.clUp hx bo d v [] h.2.1, h.2.2⟩
theorem OwnL.clUp (hx : cl exName = none) {H : Hp} : ∀ (Z : Hp) (ds : List D) (vs : List V) (F : List Addr), OwnL ⟨K, cl, bo⟩ Z H ds vs F → OwnL ⟨K, clE cl a, bo⟩ Z H ds vs F
  | _, [], _, _, h => h
  | Z, d :: ds, vs, F, h => by
    obtain ⟨v, r, F1, F2, e1, e2, h1, h2⟩ := h
    exact ⟨v, r, F1, F2, e1, e2, Own.clUp hx Z d v F1 h1, OwnL.clUp hx Z ds r F2 h2⟩
end
mutual
theorem Own.clDn {H : Hp} : ∀ (Z : Hp) (d : D) (v : V) (F : List Addr), d.noE = true → Own ⟨K, clE cl a, bo⟩ Z H d v F → Own ⟨K, cl, bo⟩ Z H d v F
  | _, .non, _, _, _, h => h
  | _, .bl _, _, _, _, h => h
  | _, .int _, _, _, _, h => h
  | _, .str _, _, _, _, h => h
  | _, .scr _, _, _, _, h => h
  | Z, .tupF f ds, v, F, q, h => by
    obtain ⟨a, vs, e, h1, h2⟩ := h
    exact ⟨a, vs, e, h1, OwnL.clDn Z ds vs F q h2⟩
  | Z, .lst ds, v, F, q, h => by
    obtain ⟨a, vs, F', e, n, h2⟩ := h
    exact ⟨a, vs, F', e, n, OwnL.clDn Z ds vs F' q h2⟩
  | Z, .dk ks ds, v, F, q, h => by
    obtain ⟨a, vs, F', e, l, n, h2⟩ := h
    exact ⟨a, vs, F', e, l, n, OwnL.clDn Z ds vs F' q h2⟩
  | Z, .dt ks ds, v, F, q, h => by
    obtain ⟨a, vs, F', e, l, n, h2⟩ := h
    exact ⟨a, vs, F', e, l, n, OwnL.clDn Z ds vs F' q h2⟩
  | Z, .obj c fs ds, v, F, q, h => by
    have q : (decide (c ≠ exName) && D.noEL ds) = true := q
    rw [Bool.and_eq_true, decide_eq_true_eq] at q
    obtain ⟨b, vs, F', C, dx, e, ec, l, n, h2⟩ := h
    exact ⟨b, vs, F', C, dx, e, (clE_dn q.1).symm.trans ec, l, n, OwnL.clDn Z ds vs F' q.2 h2⟩
  | Z, .fob c fs ds, v, F, q, h => by
    have q : (decide (c ≠ exName) && D.noEL ds) = true := q
    rw [Bool.and_eq_true, decide_eq_true_eq] at q
    obtain ⟨b, vs, C, dx, e, ec, l, n, h2⟩ := h
    exact ⟨b, vs, C, dx, e, (clE_dn q.1).symm.trans ec, l, n, OwnL.clDn Z ds vs F q.2 h2⟩
  | _, .exn _, _, _, q, _ => by cases q
  | _, .bor d, v, F, q, h => ⟨h.1, Own.clDn bo d v [] q h.2.1, h.2.2⟩
theorem OwnL.clDn {H : Hp} : ∀ (Z : Hp) (ds : List D) (vs : List V) (F : List Addr), D.noEL ds = true → OwnL ⟨K, clE cl a, bo⟩ Z H ds vs F → OwnL ⟨K, cl, bo⟩ Z H ds vs F
  | _, [], _, _, _, h => h
  | Z, d :: ds, vs, F, q, h => by
    have q' : (d.noE && D.noEL ds) = true := q
    rw [Bool.and_eq_true] at q'
    obtain ⟨v, r, F1, F2, e1, e2, h1, h2⟩ := h
    exact ⟨v, r, F1, F2, e1, e2, Own.clDn Z d v F1 q'.1 h1, OwnL.clDn Z ds r F2 q'.2 h2⟩
end
end
end DL
namespace DL
open PySem PySem.Spec PyProof.Rows L2
/-- a slot that is kept over a try: one of ks, or one that is read elsewhere anyway -/
def kpB (ks : List Nat) (env : DEnv) (j : Nat) : Bool := match env[j]? with
  | some (some (.own, _)) => decide (j ∈ ks)
  | some (some (.brw, _)) => decide (j ∈ ks)
  | some (some (.lck, _)) => true
  | _ => false
def hold1 (k : Bool) : Slot → Slot
  | some (.own, d) => some (if k = true then .lck else .own, d)
  | some (.brw, d) => some (if k = true then .lck else .brw, d)
  | s => s
def hold (ks : List Nat) (env : DEnv) : DEnv := env.mapIdx fun j s => hold1 (decide (j ∈ ks)) s
def unhold (ks : List Nat) (env e : DEnv) : DEnv := e.mapIdx fun j s => if kpB ks env j = true then (env[j]?).getD none else s
def onlyK (ks : List Nat) (env : DEnv) : DEnv := env.mapIdx fun j s => if kpB ks env j = true then s else none
def noIoS (env : DEnv) : Bool := env.all fun s => match s with
  | some (.io, _) => false
  | some (.shr, _) => false
  | _ => true
def noEs (env : DEnv) : Bool := env.all fun s => match s with
  | some (_, d) => d.noE
  | none => true
section
variable {G : Gc} {B Z H : Hp} {σ : L2.St} {env : DEnv} {Fs : Nat → List Addr} {ks : List Nat}
theorem hold_at {j : Nat} : (hold ks env)[j]? = env[j]?.map (hold1 (decide (j ∈ ks))) := by
  unfold hold; rw [List.getElem?_mapIdx]
theorem unhold_at {e : DEnv} {j : Nat} : (unhold ks env e)[j]? = e[j]?.map fun s => if kpB ks env j = true then (env[j]?).getD none else s := by
  unfold unhold; rw [List.getElem?_mapIdx]
theorem onlyK_at {j : Nat} : (onlyK ks env)[j]? = env[j]?.map fun s => if kpB ks env j = true then s else none := by
  unfold onlyK; rw [List.getElem?_mapIdx]
/-- what a slot that is not kept owns -/
def Ow (ks : List Nat) (env : DEnv) (Fs : Nat → List Addr) (a : Addr) : Prop := ∃ i, kpB ks env i = false ∧ a ∈ Fs i
open Classical in
/-- all but that stands -/
noncomputable def holdB (B H : Hp) (ks : List Nat) (env : DEnv) (Fs : Nat → List Addr) : Hp := fun a => if Ow ks env Fs a then B a else H a
def holdF (ks : List Nat) (env : DEnv) (Fs : Nat → List Addr) : Nat → List Addr := fun i => if kpB ks env i = true then [] else Fs i
theorem holdF_sub {a : Addr} {i : Nat} (m : a ∈ holdF ks env Fs i) : a ∈ Fs i ∧ kpB ks env i = false := by
  unfold holdF at m
  split at m
  · cases m
  · rename_i h
    exact ⟨m, by simpa using h⟩
theorem holdB_ow {a : Addr} (h : Ow ks env Fs a) : holdB B H ks env Fs a = B a := by unfold holdB; rw [if_pos h]
theorem holdB_no {a : Addr} (h : ¬ Ow ks env Fs a) : holdB B H ks env Fs a = H a := by unfold holdB; rw [if_neg h]
theorem holdB_le (g : Good G B Z H σ env Fs) : Same (holdB B H ks env Fs) H := fun a o e => by
  by_cases h : Ow ks env Fs a
  · rw [holdB_ow h] at e; exact g.sb a o e
  · rw [holdB_no h] at e; exact e
theorem holdB_up (g : Good G B Z H σ env Fs) : Same B (holdB B H ks env Fs) := fun a o e => by
  by_cases h : Ow ks env Fs a
  · rw [holdB_ow h]; exact e
  · rw [holdB_no h]; exact g.sb a o e
theorem not_ow (g : Good G B Z H σ env Fs) {a : Addr} {j : Nat} (hk : kpB ks env j = true) (m : a ∈ Fs j) : ¬ Ow ks env Fs a := fun ⟨i, h1, h2⟩ => by
  have := g.dj i j a h2 m
  rw [this, hk] at h1
  cases h1
theorem not_ow_still (g : Good G B Z H σ env Fs) {a : Addr} {u : HO} (e : H a = some u) (st : Still u) : ¬ Ow ks env Fs a := fun ⟨i, _, h2⟩ => g.tup e st ⟨i, h2⟩
theorem noIo_at (h : noIoS env = true) {j : Nat} {d : D} : env[j]? ≠ some (some (.io, d)) ∧ env[j]? ≠ some (some (.shr, d)) := by
  constructor
  · intro e
    have := List.all_eq_true.mp h _ (List.mem_of_getElem? e)
    exact Bool.false_ne_true this
  · intro e
    have := List.all_eq_true.mp h _ (List.mem_of_getElem? e)
    exact Bool.false_ne_true this
theorem Good.hold (g : Good G B Z H σ env Fs) (hio : noIoS env = true) : Good G (holdB B H ks env Fs) Z H σ (hold ks env) (holdF ks env Fs) := by
  have le := holdB_le (ks := ks) g
  have up := holdB_up (ks := ks) g
  have jm : Same (joi B Z) (joi (holdB B H ks env Fs) Z) := joi_mono up (Same.refl Z) le g.sz
  have zr : Same Z (joi (holdB B H ks env Fs) Z) := joi_right le g.sz
  refine ⟨le, g.sz, by unfold DL.hold; rw [List.length_mapIdx]; exact g.len, fun i => ?_, fun i => ?_, fun i j a m n => g.dj i j a (holdF_sub m).1 (holdF_sub n).1, fun i a m => ?_, g.z0, g.gb.trans up⟩
  · have hs := g.sl i
    rw [hold_at]
    cases he : env[i]? with
    | none =>
      rw [he] at hs
      have : Fs i = [] := hs
      show holdF ks env Fs i = []
      unfold holdF
      rw [this]
      split <;> rfl
    | some s =>
      rw [he] at hs
      match s, he, hs with
      | none, he, hs =>
        have : Fs i = [] := hs
        show holdF ks env Fs i = []
        unfold holdF
        rw [this]
        split <;> rfl
      | some (.own, d), he, hs =>
        obtain ⟨v, ev, ho⟩ := hs
        have hk : kpB ks env i = decide (i ∈ ks) := by unfold kpB; rw [he]
        by_cases hm : i ∈ ks
        · rw [decide_eq_true hm]
          refine ⟨v, ev, ?_, ?_⟩
          · refine Own.freeze zr d v (Fs i) (fun b u m e => ?_) ho
            refine joi_left b u ?_
            rw [holdB_no (not_ow g (by rw [hk]; exact decide_eq_true hm) m)]
            exact e
          · unfold holdF
            rw [hk, decide_eq_true hm]
            rfl
        · rw [decide_eq_false hm]
          refine ⟨v, ev, ?_⟩
          have : holdF ks env Fs i = Fs i := by
            unfold holdF
            rw [hk, decide_eq_false hm]
            rfl
          rw [this]
          exact ho
      | some (.brw, d), he, hs =>
        obtain ⟨v, ev, ho, hf⟩ := hs
        have hF : holdF ks env Fs i = [] := by
          unfold holdF
          rw [hf]
          split <;> rfl
        have ho2 := Own.keep jm d v [] (fun _ _ e _ => e) ho
        by_cases hm : i ∈ ks
        · rw [decide_eq_true hm]; exact ⟨v, ev, ho2, hF⟩
        · rw [decide_eq_false hm]; exact ⟨v, ev, ho2, hF⟩
      | some (.lck, d), he, hs =>
        obtain ⟨v, ev, ho, hf⟩ := hs
        have hF : holdF ks env Fs i = [] := by
          unfold holdF
          rw [hf]
          split <;> rfl
        exact ⟨v, ev, Own.keep jm d v [] (fun _ _ e _ => e) ho, hF⟩
      | some (.io, d), he, hs => exact absurd he (noIo_at hio).1
      | some (.shr, d), he, hs => exact absurd he (noIo_at hio).2
  · unfold holdF
    split
    · exact List.nodup_nil
    · exact g.nd i
  · obtain ⟨m1, m2⟩ := holdF_sub m
    exact ⟨(holdB_ow ⟨i, m2, m1⟩).trans (g.fr i a m1).1, (g.fr i a m1).2⟩
theorem kp_slot {j : Nat} (h : kpB ks env j = true) : ∃ m d, env[j]? = some (some (m, d)) ∧ (hold ks env)[j]? = some (some (.lck, d)) ∧ (m = .own ∨ m = .brw ∨ m = .lck) := by
  unfold kpB at h
  split at h
  · rename_i d e
    exact ⟨.own, d, e, by rw [hold_at, e]; simp [hold1, h], .inl rfl⟩
  · rename_i d e
    exact ⟨.brw, d, e, by rw [hold_at, e]; simp [hold1, h], .inr (.inl rfl)⟩
  · rename_i d e
    exact ⟨.lck, d, e, by rw [hold_at, e]; simp [hold1], .inr (.inr rfl)⟩
  · cases h
/-- a kept slot at a heap where what was held stands -/
theorem kept_slot (g : Good G B Z H σ env Fs) {Z' H' : Hp} {σ' : L2.St} (hz : Same Z Z') (hH : Same (holdB B H ks env Fs) H') (sz' : Same Z' H') {j : Nat} (hk : kpB ks env j = true) (hσ : σ'[j]? = σ[j]?) : SlotOk G B Z' H' σ'[j]? env[j]? (Fs j) := by
  obtain ⟨m, d, e, _, hm⟩ := kp_slot hk
  have hs := g.sl j
  have sbH : Same B H' := (holdB_up g).trans hH
  have st : ∀ b u, H b = some u → Still u → H' b = some u := fun b u e s => hH b u (by rw [holdB_no (not_ow_still g e s)]; exact e)
  have jm : Same (joi B Z) (joi B Z') := joi_mono (Same.refl B) hz sbH sz'
  rw [e] at hs ⊢
  rw [hσ]
  rcases hm with rfl | rfl | rfl
  · obtain ⟨v, ev, ho⟩ := hs
    exact ⟨v, ev, Own.keep hz d v (Fs j) (fun b u e m => m.elim (fun m => hH b u (by rw [holdB_no (not_ow g hk m)]; exact e)) (st b u e)) ho⟩
  · obtain ⟨v, ev, ho, hf⟩ := hs
    exact ⟨v, ev, Own.keep jm d v [] (fun b u e m => m.elim (fun m => by cases m) (st b u e)) ho, hf⟩
  · obtain ⟨v, ev, ho, hf⟩ := hs
    exact ⟨v, ev, Own.keep jm d v [] (fun b u e m => m.elim (fun m => by cases m) (st b u e)) ho, hf⟩
def mixF (ks : List Nat) (env : DEnv) (Fs Fs' : Nat → List Addr) : Nat → List Addr := fun i => if kpB ks env i = true then Fs i else Fs' i
theorem mixF_k {Fs' : Nat → List Addr} {i : Nat} (h : kpB ks env i = true) : mixF ks env Fs Fs' i = Fs i := by unfold mixF; rw [if_pos h]
theorem mixF_n {Fs' : Nat → List Addr} {i : Nat} (h : kpB ks env i = false) : mixF ks env Fs Fs' i = Fs' i := by unfold mixF; rw [if_neg (by rw [h]; exact Bool.false_ne_true)]
theorem Stp.unhold (g : Good G B Z H σ env Fs) (hio : noIoS env = true) {Z' H' : Hp} {σ' : L2.St} {e : DEnv} {Fs' : Nat → List Addr} (s : Stp G (holdB B H ks env Fs) Z H σ (DL.hold ks env) (InF (holdF ks env Fs)) Z' H' σ' e Fs') : Stp G B Z H σ env (InF Fs) Z' H' σ' (DL.unhold ks env e) (mixF ks env Fs Fs') := by
  have gd := s.good
  have sub : ∀ a, InF (holdF ks env Fs) a → InF Fs a := fun a ⟨i, m⟩ => ⟨i, (holdF_sub m).1⟩
  have hlen : e.length = env.length := s.ln.trans (by unfold DL.hold; rw [List.length_mapIdx])
  have sbH : Same B H' := (holdB_up g).trans gd.sb
  have ke : ∀ j, kpB ks env j = true → (DL.unhold ks env e)[j]? = env[j]? ∧ σ'[j]? = σ[j]? := fun j hk => by
    obtain ⟨m, d, e1, e2, _⟩ := kp_slot hk
    obtain ⟨q1, q2⟩ := s.lk j d e2
    refine ⟨?_, q2⟩
    rw [unhold_at, q1, Option.map_some, if_pos hk, e1]
    rfl
  have ne : ∀ j, kpB ks env j = false → (DL.unhold ks env e)[j]? = e[j]? := fun j hk => by
    rw [unhold_at, hk]
    cases e[j]? <;> rfl
  -- what is new is nobody's that was kept
  have apart : ∀ a i j, kpB ks env j = true → a ∈ Fs j → a ∈ Fs' i → False := fun a i j hk m n => by
    obtain ⟨o, ho, _⟩ := g.dom ⟨j, m⟩
    rcases s.new a ⟨i, n⟩ with z | ⟨i', z⟩
    · rw [ho] at z; cases z
    · obtain ⟨z1, z2⟩ := holdF_sub z
      have := g.dj i' j a z1 m
      rw [this, hk] at z2
      cases z2
  refine ⟨s.zz, fun a o e1 n => s.ext a o e1 fun m => n (sub a m), ⟨sbH, gd.sz, by unfold DL.unhold; rw [List.length_mapIdx]; exact gd.len, fun j => ?_, fun j => ?_, fun i j a m n => ?_, fun i a m => ?_, gd.z0, g.gb⟩, fun a m => ?_, fun a m => ?_, fun j d h => absurd h (noIo_at hio).1, fun j d h => ?_, fun j d h => ?_, fun j d h => ?_, by unfold DL.unhold; rw [List.length_mapIdx]; exact hlen⟩
  · by_cases hk : kpB ks env j = true
    · obtain ⟨e1, e2⟩ := ke j hk
      rw [e1, mixF_k hk]
      exact kept_slot g s.zz gd.sb gd.sz hk e2
    · have hk : kpB ks env j = false := by simpa using hk
      rw [ne j hk, mixF_n hk]
      have hs := gd.sl j
      cases he : e[j]? with
      | none => rw [he] at hs; exact hs
      | some sl =>
        rw [he] at hs
        match sl, he, hs with
        | none, he, hs => exact hs
        | some (.own, d), he, hs => exact hs
        | some (.io, d), he, hs => exact hs
        | some (.shr, d), he, hs => exact hs
        | some (.brw, d), he, hs =>
          obtain ⟨q1, q2⟩ := s.bw j d he
          have hs0 := g.sl j
          have e1 : env[j]? = some (some (.brw, d)) := by
            rw [hold_at] at q1
            cases h : env[j]? with
            | none => rw [h] at q1; cases q1
            | some sl =>
              rw [h] at q1
              match sl, q1 with
              | some (.brw, d'), q1 =>
                simp only [Option.map_some, hold1, Option.some.injEq, Prod.mk.injEq] at q1
                rw [q1.2]
              | some (.own, d'), q1 =>
                simp only [Option.map_some, hold1, Option.some.injEq, Prod.mk.injEq] at q1
                have := q1.1
                split at this <;> cases this
              | some (.lck, d'), q1 => cases q1
              | some (.io, d'), q1 => cases q1
              | some (.shr, d'), q1 => cases q1
              | none, q1 => cases q1
          rw [e1] at hs0
          obtain ⟨v, ev, ho, hf⟩ := hs0
          obtain ⟨_, _, _, hf'⟩ := hs
          refine ⟨v, by rw [q2]; exact ev, Own.keep (joi_mono (Same.refl B) s.zz sbH gd.sz) d v [] (fun b u e m => m.elim (fun m => by cases m) fun st => gd.sb b u (by rw [holdB_no (not_ow_still g e st)]; exact e)) ho, hf'⟩
        | some (.lck, d), he, hs =>
          obtain ⟨q1, _⟩ := s.lb j d he
          exfalso
          rw [hold_at] at q1
          unfold kpB at hk
          cases h : env[j]? with
          | none => rw [h] at q1; cases q1
          | some sl =>
            rw [h] at q1 hk
            match sl, q1, hk with
            | some (.brw, d'), q1, hk => simp only [] at hk; rw [hk] at q1; cases q1
            | some (.own, d'), q1, hk => simp only [] at hk; rw [hk] at q1; cases q1
            | some (.lck, d'), q1, hk => cases hk
            | some (.io, d'), q1, hk => cases q1
            | some (.shr, d'), q1, hk => cases q1
            | none, q1, hk => cases q1
  · unfold mixF
    split
    · exact g.nd j
    · exact gd.nd j
  · unfold mixF at m n
    split at m
    · rename_i h1
      split at n
      · exact g.dj i j a m n
      · exact absurd (apart a j i h1 m n) id
    · split at n
      · rename_i h2
        exact absurd (apart a i j h2 n m) id
      · exact gd.dj i j a m n
  · unfold mixF at m
    split at m
    · exact ⟨(g.fr i a m).1, gd.z0 a⟩
    · refine ⟨?_, (gd.fr i a m).2⟩
      cases eb : B a with
      | none => rfl
      | some u =>
        have := (gd.fr i a m).1
        rw [holdB_up (ks := ks) g a u eb] at this
        cases this
  · obtain ⟨i, m⟩ := m
    unfold mixF at m
    split at m
    · exact .inr ⟨i, m⟩
    · exact (s.new a ⟨i, m⟩).imp id (sub a)
  · exact (s.newz a m).imp id fun z => z.imp id (sub a)
  · have hk : kpB ks env j = true := by unfold kpB; rw [h]
    obtain ⟨e1, e2⟩ := ke j hk
    exact ⟨e1.trans h, e2⟩
  · by_cases hk : kpB ks env j = true
    · obtain ⟨e1, e2⟩ := ke j hk
      rw [e1] at h
      exact ⟨h, e2⟩
    · have hk : kpB ks env j = false := by simpa using hk
      rw [ne j hk] at h
      obtain ⟨q1, q2⟩ := s.bw j d h
      refine ⟨?_, q2⟩
      rw [hold_at] at q1
      cases h2 : env[j]? with
      | none => rw [h2] at q1; cases q1
      | some sl =>
        rw [h2] at q1
        match sl, q1 with
        | some (.brw, d'), q1 =>
          simp only [Option.map_some, hold1, Option.some.injEq, Prod.mk.injEq] at q1
          rw [q1.2]
        | some (.own, d'), q1 =>
          simp only [Option.map_some, hold1, Option.some.injEq, Prod.mk.injEq] at q1
          have := q1.1
          split at this <;> cases this
        | some (.lck, d'), q1 => cases q1
        | some (.io, d'), q1 => cases q1
        | some (.shr, d'), q1 => cases q1
        | none, q1 => cases q1
  · by_cases hk : kpB ks env j = true
    · obtain ⟨e1, e2⟩ := ke j hk
      rw [e1] at h
      exact ⟨h, e2⟩
    · have hk : kpB ks env j = false := by simpa using hk
      rw [ne j hk] at h
      obtain ⟨q1, _⟩ := s.lb j d h
      exfalso
      rw [hold_at] at q1
      unfold kpB at hk
      cases h2 : env[j]? with
      | none => rw [h2] at q1; cases q1
      | some sl =>
        rw [h2] at q1 hk
        match sl, q1, hk with
        | some (.brw, d'), q1, hk => simp only [] at hk; rw [hk] at q1; cases q1
        | some (.own, d'), q1, hk => simp only [] at hk; rw [hk] at q1; cases q1
        | some (.lck, d'), q1, hk => cases hk
        | some (.io, d'), q1, hk => cases q1
        | some (.shr, d'), q1, hk => cases q1
        | none, q1, hk => cases q1
end
end DL
namespace DL
open PySem PySem.Spec PyProof.Rows L2
/-- behind the suite: the name is gone, no refusal is left -/
def endE (i : Nat) : Out Flw → Out Flw
  | .ok (.nx e) => if noEs (e.set i none) = true then .ok (.nx (e.set i none)) else .bad
  | .ok (.bk e) => if noEs (e.set i none) = true then .ok (.bk (e.set i none)) else .bad
  | .ok (.ct e) => if noEs (e.set i none) = true then .ok (.ct (e.set i none)) else .bad
  | .ok (.rt d e) => if d.noE = true ∧ noEs (e.set i none) = true then .ok (.rt d (e.set i none)) else .bad
  | _ => .bad
section
variable {K : PySem.W.Frag} {cl : Str → Option Addr} {bo : Hp} {W : Wsh} {X : Cx} {B Z H : Hp} {σ : L2.St} {env : DEnv} {Fs : Nat → List Addr} {ks : List Nat}
/-- the suite's start -/
def suiF (ks : List Nat) (env : DEnv) (Fs : Nat → List Addr) : Nat → List Addr := fun j => if kpB ks env j = true then Fs j else []
theorem suiF_sub {a : Addr} {j : Nat} (m : a ∈ suiF ks env Fs j) : a ∈ Fs j ∧ kpB ks env j = true := by
  unfold suiF at m
  split at m
  · rename_i h; exact ⟨m, h⟩
  · cases m
theorem Good.suite {i : Nat} {c : Str} {a : Addr} {H' : Hp} {σ' : L2.St} (g : Good ⟨K, cl, bo⟩ B Z H σ env Fs) (hx : cl exName = none) (hi : kpB ks env i = false) (hil : i < env.length) (hH : Same (holdB B H ks env Fs) H') (ag : AgL (DL.hold ks env) σ σ') : Good ⟨K, clE cl a, bo⟩ B Z H' (σ'.set i (some (.ref a))) ((onlyK ks env).set i (some (.own, .exn c))) (suiF ks env Fs) := by
  have sbH : Same B H' := (holdB_up g).trans hH
  have szH : Same Z H' := fun b u e => by rw [g.z0] at e; cases e
  refine ⟨sbH, szH, by rw [List.length_set, List.length_set, ag.1]; unfold onlyK DL.hold; rw [List.length_mapIdx, List.length_mapIdx], fun j => ?_, fun j => ?_, fun j k b m n => g.dj j k b (suiF_sub m).1 (suiF_sub n).1, fun j b m => g.fr j b (suiF_sub m).1, g.z0, g.gb⟩
  · by_cases hj : i = j
    · subst hj
      rw [List.getElem?_set_self (show i < σ'.length by rw [ag.1]; unfold DL.hold; rw [List.length_mapIdx]; exact hil), List.getElem?_set_self (show i < (onlyK ks env).length by unfold onlyK; rw [List.length_mapIdx]; exact hil)]
      refine ⟨.ref a, rfl, ?_, a, rfl, ?_⟩
      · unfold suiF
        rw [hi]
        rfl
      · show clE cl a exName = some a
        unfold clE
        rw [if_pos rfl]
    · rw [List.getElem?_set_ne hj, List.getElem?_set_ne hj, onlyK_at]
      by_cases hk : kpB ks env j = true
      · obtain ⟨m, d, e, e2, hm⟩ := kp_slot hk
        have hs := kept_slot (ks := ks) g (Same.refl Z) hH szH hk (ag.2 j d e2)
        have hF : suiF ks env Fs j = Fs j := by unfold suiF; rw [if_pos hk]
        rw [e] at hs ⊢
        rw [Option.map_some, if_pos hk, hF]
        rcases hm with rfl | rfl | rfl
        · obtain ⟨v, ev, ho⟩ := hs
          exact ⟨v, ev, Own.clUp hx _ _ _ _ ho⟩
        · obtain ⟨v, ev, ho, hf⟩ := hs
          exact ⟨v, ev, Own.clUp hx _ _ _ _ ho, hf⟩
        · obtain ⟨v, ev, ho, hf⟩ := hs
          exact ⟨v, ev, Own.clUp hx _ _ _ _ ho, hf⟩
      · have hF : suiF ks env Fs j = [] := by unfold suiF; rw [if_neg hk]
        rw [hF]
        cases env[j]? with
        | none => exact rfl
        | some s =>
          rw [Option.map_some, if_neg hk]
          exact rfl
  · unfold suiF
    split
    · exact g.nd j
    · exact List.nodup_nil
theorem noEs_at {e : DEnv} (h : noEs e = true) {j : Nat} {m : Md} {d : D} (he : e[j]? = some (some (m, d))) : d.noE = true := List.all_eq_true.mp h _ (List.mem_of_getElem? he)
/-- from the suite's start to its end, as a step of the try -/
theorem Stp.suite {i : Nat} {c : Str} {a : Addr} {H' Z2 H2 : Hp} {σ' σ2 : L2.St} {e2 : DEnv} {F2 : Nat → List Addr} (g : Good ⟨K, cl, bo⟩ B Z H σ env Fs) (hio : noIoS env = true) (hi : kpB ks env i = false) (hil : i < env.length) (hH : Same (holdB B H ks env Fs) H') (ag : AgL (DL.hold ks env) σ σ') (hn : noEs (e2.set i none) = true)
    (s : Stp ⟨K, clE cl a, bo⟩ B Z H' (σ'.set i (some (.ref a))) ((onlyK ks env).set i (some (.own, .exn c))) (InF (suiF ks env Fs)) Z2 H2 σ2 e2 F2) : Stp ⟨K, cl, bo⟩ B Z H σ env (InF Fs) Z2 H2 (σ2.set i none) (e2.set i none) (fun j => if j = i then [] else F2 j) := by
  have gd := s.good
  have old : ∀ b u, H b = some u → ¬ InF Fs b → H' b = some u := fun b u e n => hH b u (by
    rw [holdB_no (fun ⟨k, _, m⟩ => n ⟨k, m⟩)]; exact e)
  have sub : ∀ b, InF (suiF ks env Fs) b → InF Fs b := fun b ⟨j, m⟩ => ⟨j, (suiF_sub m).1⟩
  have back : ∀ b, H' b = none → H b = none ∨ InF Fs b := fun b z => by
    cases q : H b with
    | none => exact .inl rfl
    | some u =>
      refine .inr (Classical.byContradiction fun n => ?_)
      rw [old b u q n] at z
      cases z
  have hlen : e2.length = env.length := s.ln.trans (by rw [List.length_set]; unfold onlyK; rw [List.length_mapIdx])
  -- slots of the start
  have st1 : ∀ j, j ≠ i → ((onlyK ks env).set i (some (.own, .exn c)))[j]? = env[j]?.map (fun s => if kpB ks env j = true then s else none) := fun j hj => by
    rw [List.getElem?_set_ne (fun z => hj z.symm), onlyK_at]
  have stσ : ∀ j d, kpB ks env j = true → (DL.hold ks env)[j]? = some (some (.lck, d)) → j ≠ i → (σ'.set i (some (V.ref a)) : L2.St)[j]? = σ[j]? := fun j d hk e hj => by
    rw [List.getElem?_set_ne (fun z => hj z.symm)]
    exact ag.2 j d e
  refine ⟨s.zz, fun b u e n => s.ext b u (old b u e n) fun m => n (sub b m), ⟨gd.sb, gd.sz, by rw [List.length_set, List.length_set]; exact gd.len, fun j => ?_, fun j => ?_, fun j k b m n => ?_, fun j b m => ?_, gd.z0, g.gb⟩, fun b m => ?_, fun b m => ?_, fun j d h => absurd h (noIo_at hio).1, fun j d h => ?_, fun j d h => ?_, fun j d h => ?_, by rw [List.length_set]; exact hlen⟩
  · by_cases hj : j = i
    · subst hj
      simp only [if_pos]
      cases q : (e2.set j none)[j]? with
      | none => exact rfl
      | some sl =>
        have : sl = none := by
          rw [List.getElem?_set_self (by omega)] at q
          cases q; rfl
        subst this
        exact rfl
    · simp only [if_neg hj]
      have hs := gd.sl j
      rw [List.getElem?_set_ne (fun z => hj z.symm), List.getElem?_set_ne (fun z => hj z.symm)]
      cases he : e2[j]? with
      | none => rw [he] at hs; exact hs
      | some sl =>
        rw [he] at hs
        match sl, he, hs with
        | none, he, hs => exact hs
        | some (m, d), he, hs =>
          have hd : d.noE = true := noEs_at hn (j := j) (m := m) (by rw [List.getElem?_set_ne (fun z => hj z.symm)]; exact he)
          cases m with
          | own => obtain ⟨v, ev, ho⟩ := hs; exact ⟨v, ev, Own.clDn _ _ _ _ hd ho⟩
          | io => obtain ⟨v, ev, ho⟩ := hs; exact ⟨v, ev, Own.clDn _ _ _ _ hd ho⟩
          | shr => obtain ⟨v, ev, ho, hf⟩ := hs; exact ⟨v, ev, Own.clDn _ _ _ _ hd ho, hf⟩
          | brw => obtain ⟨v, ev, ho, hf⟩ := hs; exact ⟨v, ev, Own.clDn _ _ _ _ hd ho, hf⟩
          | lck => obtain ⟨v, ev, ho, hf⟩ := hs; exact ⟨v, ev, Own.clDn _ _ _ _ hd ho, hf⟩
  · show (if j = i then ([] : List Addr) else F2 j).Nodup
    split
    · exact List.nodup_nil
    · exact gd.nd j
  · split at m
    · cases m
    · split at n
      · cases n
      · exact gd.dj j k b m n
  · split at m
    · cases m
    · exact gd.fr j b m
  · obtain ⟨j, m⟩ := m
    have m : b ∈ (if j = i then ([] : List Addr) else F2 j) := m
    split at m
    · cases m
    · rcases s.new b ⟨j, m⟩ with z | z
      · exact back b z
      · exact .inr (sub b z)
  · rcases s.newz b m with z | z | z
    · exact .inl z
    · exact .inr (back b z)
    · exact .inr (.inr (sub b z))
  · have hk : kpB ks env j = true := by unfold kpB; rw [h]
    have hj : j ≠ i := fun z => by rw [z, hi] at hk; cases hk
    obtain ⟨m', d', q1, q2, _⟩ := kp_slot hk
    rw [h] at q1
    cases q1
    have h1 := st1 j hj
    rw [h, Option.map_some, if_pos hk] at h1
    obtain ⟨p1, p2⟩ := s.lk j d h1
    rw [List.getElem?_set_ne (fun z => hj z.symm), List.getElem?_set_ne (fun z => hj z.symm)]
    exact ⟨p1, p2.trans (stσ j d hk q2 hj)⟩
  · have hj : j ≠ i := fun z => by
      rw [z, List.getElem?_set_self (by omega)] at h
      cases h
    rw [List.getElem?_set_ne (fun z => hj z.symm)] at h
    obtain ⟨p1, p2⟩ := s.bw j d h
    rw [st1 j hj] at p1
    by_cases hk : kpB ks env j = true
    · obtain ⟨m', d', q1, q2, _⟩ := kp_slot hk
      rw [q1, Option.map_some, if_pos hk] at p1
      cases p1
      rw [List.getElem?_set_ne (fun z => hj z.symm)]
      exact ⟨q1, p2.trans (stσ j d hk q2 hj)⟩
    · cases q : env[j]? with
      | none => rw [q] at p1; cases p1
      | some sl => rw [q, Option.map_some, if_neg hk] at p1; cases p1
  · have hj : j ≠ i := fun z => by
      rw [z, List.getElem?_set_self (by omega)] at h
      cases h
    rw [List.getElem?_set_ne (fun z => hj z.symm)] at h
    obtain ⟨p1, p2⟩ := s.lb j d h
    rw [st1 j hj] at p1
    by_cases hk : kpB ks env j = true
    · obtain ⟨m', d', q1, q2, _⟩ := kp_slot hk
      rw [q1, Option.map_some, if_pos hk] at p1
      cases p1
      rw [List.getElem?_set_ne (fun z => hj z.symm)]
      exact ⟨q1, p2.trans (stσ j d hk q2 hj)⟩
    · cases q : env[j]? with
      | none => rw [q] at p1; cases p1
      | some sl => rw [q, Option.map_some, if_neg hk] at p1; cases p1
end
end DL
namespace DL
open PySem PySem.Spec PyProof.Rows L2
section
variable {K : PySem.W.Frag} {cl : Str → Option Addr} {bo : Hp} {W : Wsh} {X : Cx}
theorem DXW.tr {pn : List (Addr × Obj)} {xe : Value → Shared → Prop} {Wk : WX} (dw : DXW X ⟨K, cl, bo⟩ W) (tk : Takes (X.tr pn xe) Wk) : DXW (X.tr pn xe) ⟨K, cl, bo⟩ (fun c σ H => ∃ C, cl c = some C ∧ Wk (.ref C) none σ H) :=
  ⟨⟨dw.dx.K, dw.dx.nd, dw.dx.un⟩, fun c σ H ⟨C, e, _⟩ => ⟨C, e⟩, tk.imp fun cls d σ H' ⟨e, c, C, e2, e3, C', e4, w⟩ => by
    have e3 : cl c = some C := e3
    rw [e3] at e4
    cases e4
    subst e e2
    exact w⟩
/-- what a clause says of a class: taken, or not -/
def ClOf (K : PySem.W.Frag) (cl : Str → Option Addr) (CX : Addr) (b : Bool) (cs : List Str) : Prop := ∀ c ∈ cs, ∃ C, cl c = some C ∧ PySem.W.exmOne K (.ref C) (.ref CX) = some b
end
end DL
namespace DL
open PySem PySem.Spec PyProof.Rows L2
section
variable {K : PySem.W.Frag} {cl : Str → Option Addr} {bo : Hp} {X : Cx} {a DA : Addr} {oe : Obj} {pn : List (Addr × Obj)} {e cE : Expr} {p pos tpos : Pos} {i : Nat} {c : Str} {b : Bool}
end
end DL
namespace DL
open PySem PySem.Spec PyProof.Rows L2
section
variable {env : DEnv} {i j : Nat} {d e : D} {m : Md} {h k : DEnv → Option D}
@[simp] theorem z_var : hVar i env = match env[i]? with
  | some (some (_, d)) => if d.pure = true then some d else none
  | _ => none := rfl
@[simp] theorem z_pvar : pVar i env = match env[i]? with
  | some (some (_, d)) => some d
  | _ => none := rfl
@[simp] theorem z_c : hC d env = some d := rfl
@[simp] theorem z_rd {g : DEnv → Option D} : hRd g env = match g env with
  | some d => if d.pure = true then some d else none
  | none => none := rfl
@[simp] theorem z_pix {g : DEnv → Option D} : pIx g h env = match g env, h env with
  | some d, some k => gAt d k
  | _, _ => none := rfl
@[simp] theorem z_at {n : Int} : gAt d (.int n) = dIx d n := rfl
@[simp] theorem z_ixl {xs : List D} {n : Int} : dIx (.lst xs) n = atI xs n := rfl
@[simp] theorem z_ixt {xs : List D} {n : Int} {fl : Bool} : dIx (.tupF fl xs) n = atI xs n := rfl
@[simp] theorem z_hop {hs : List SArg} {g : List D → Option D} : hOp hs g env = match evS hs env with
  | some ds => g ds
  | none => none := rfl
@[simp] theorem z_s0 : evS [] env = some [] := rfl
@[simp] theorem z_s1 {a : SArg} {r : List SArg} : evS (a :: r) env = match a.val env with
  | some d => match evS r env with
    | some ds => some (d :: ds)
    | none => none
  | none => none := rfl
@[simp] theorem z_vpur : (SArg.pur h).val env = h env := rfl
@[simp] theorem z_vplc {g : DEnv → Option D} : (SArg.plc i g).val env = g env := rfl
@[simp] theorem z_vint : (SArg.int h).val env = match h env with
  | some d => onlyInt d
  | none => none := rfl
@[simp] theorem z_oi {n : Int} : onlyInt (.int n) = some (.int n) := rfl
@[simp] theorem z_vplt {g : DEnv → Option D} {T : D → Bool} : (SArg.plt i g T).val env = match g env with
  | some d => onlyT T d
  | none => none := rfl
@[simp] theorem z_vput {T : D → Bool} : (SArg.put h T).val env = match h env with
  | some d => onlyT T d
  | none => none := rfl
@[simp] theorem z_ep : eP h env = must (h env) fun d => .ok (d, env) := rfl
@[simp] theorem z_mov : eMov i env = match env[i]? with
  | some (some (m, d)) => if m = .own then .ok (d, env.set i none) else .bad
  | _ => .bad := rfl
@[simp] theorem z_cfin {hs : List SArg} {k : Kn} : evC (.fin hs) k env = must (evS hs env) fun ds => k ds env := rfl
@[simp] theorem z_cown {f : DEnv → Out (D × DEnv)} {c : Chn} {k : Kn} : evC (.own f c) k env = (f env >>= fun p => evC c (fun ds e => k (p.1 :: ds) e) p.2) := rfl
@[simp] theorem z_cpur {c : Chn} {k : Kn} : evC (.pur h c) k env = must (h env) fun d => evC c (fun ds e => k (d :: ds) e) env := rfl
@[simp] theorem z_cplc {g : DEnv → Option D} {c : Chn} {k : Kn} : evC (.plc i g c) k env = must (g env) fun d => evC c (fun ds e => k (d :: ds) e) (lock i env) >>= fun q => .ok (q.1, q.2.1, unlock env q.2.2) := rfl
@[simp] theorem z_cio {c : Chn} {k : Kn} : evC (.io j c) k env = match env[j]? with
  | some (some (m, d)) => if m.mut = true then evC c (fun ds e => k (d :: ds) e) (env.set j none) >>= fun q => match q.2.1 with
      | o :: os => .ok (q.1, os, q.2.2.set j (some (m, o)))
      | [] => .bad
    else .bad
  | _ => .bad := rfl
@[simp] theorem z_ek {c : Chn} {k : Kn} : eK c k env = (evC c k env >>= fun q => .ok (q.1, q.2.2)) := rfl
@[simp] theorem z_opk {g : List D → Option D} {ds : List D} : opK g ds env = must (g ds) fun d => .ok (d, [], env) := rfl
@[simp] theorem z_callk {ms : List Pm} {F : Fn} {ds : List D} : callK ms F ds env = match F ds with
  | .ok (r, o) => .ok (r, o, env)
  | .exc c => if ms.all (fun (m : Pm) => !m.own) = true then .exc c else .bad
  | .bad => .bad := rfl
@[simp] theorem z_mut1 : Md.mut .own = true := rfl
@[simp] theorem z_mut2 : Md.mut .io = true := rfl
@[simp] theorem z_lock0 {s : Slot} {r : DEnv} : lock 0 (s :: r) = lock1 s :: r := rfl
@[simp] theorem z_lock1 {s : Slot} {r : DEnv} : lock (i + 1) (s :: r) = s :: lock i r := rfl
@[simp] theorem z_l1 : lock1 (some (.own, d)) = some (.lck, d) := rfl
@[simp] theorem z_l2 : lock1 (some (.io, d)) = some (.lck, d) := rfl
@[simp] theorem z_l3 : lock1 (some (.brw, d)) = some (.brw, d) := rfl
@[simp] theorem z_l4 : lock1 (some (.lck, d)) = some (.lck, d) := rfl
@[simp] theorem z_l5 : lock1 none = none := rfl
@[simp] theorem z_un0 : unlock [] [] = [] := rfl
@[simp] theorem z_un1 {s t : Slot} {r u : DEnv} : unlock (s :: r) (t :: u) = unl1 s t :: unlock r u := rfl
@[simp] theorem z_u1 : unl1 (some (.own, d)) (some (.lck, e)) = some (.own, e) := rfl
@[simp] theorem z_u2 : unl1 (some (.io, d)) (some (.lck, e)) = some (.io, e) := rfl
@[simp] theorem z_u3 {s : Slot} : unl1 none s = s := rfl
@[simp] theorem z_u4 {s : Slot} : unl1 (some (.brw, d)) s = s := rfl
@[simp] theorem z_u5 {s : Slot} : unl1 (some (.lck, d)) s = s := rfl
@[simp] theorem z_u6 {s : Slot} : unl1 s none = none := by
  match s with
  | none => rfl
  | some (.own, _) => rfl
  | some (.io, _) => rfl
  | some (.shr, _) => rfl
  | some (.brw, _) => rfl
  | some (.lck, _) => rfl
@[simp] theorem z_u7 {s : Slot} : unl1 s (some (.own, d)) = some (.own, d) := by
  match s with
  | none => rfl
  | some (.own, _) => rfl
  | some (.io, _) => rfl
  | some (.shr, _) => rfl
  | some (.brw, _) => rfl
  | some (.lck, _) => rfl
@[simp] theorem z_u8 {s : Slot} : unl1 s (some (.io, d)) = some (.io, d) := by
  match s with
  | none => rfl
  | some (.own, _) => rfl
  | some (.io, _) => rfl
  | some (.shr, _) => rfl
  | some (.brw, _) => rfl
  | some (.lck, _) => rfl
@[simp] theorem z_u9 {s : Slot} : unl1 s (some (.brw, d)) = some (.brw, d) := by
  match s with
  | none => rfl
  | some (.own, _) => rfl
  | some (.io, _) => rfl
  | some (.shr, _) => rfl
  | some (.brw, _) => rfl
  | some (.lck, _) => rfl
-- statements
variable {f g : Stm} {fe : DEnv → Out (D × DEnv)} {c : DEnv → Option Bool} {ce : DEnv → Out (Bool × DEnv)}
@[simp] theorem z_nop : sNop env = .ok (.nx env) := rfl
@[simp] theorem z_seq : sSeq f g env = (f env >>= fun fl => match fl with
  | .nx e => g e
  | fl => .ok fl) := rfl
@[simp] theorem z_if : sIf c f g env = must (c env) fun b => if b = true then f env else g env := rfl
@[simp] theorem z_ife : sIfE ce f g env = (ce env >>= fun p => if p.1 = true then f p.2 else g p.2) := rfl
@[simp] theorem z_ret : sRet fe env = (fe env >>= fun p => .ok (.rt p.1 p.2)) := rfl
@[simp] theorem z_retn : sRetN env = .ok (.rt .non env) := rfl
@[simp] theorem z_expr : sExpr fe env = (fe env >>= fun p => .ok (.nx p.2)) := rfl
@[simp] theorem z_free : free? i env = match env[i]? with
  | some (some (.io, _)) => false
  | some (some (.lck, _)) => false
  | some _ => true
  | none => false := rfl
@[simp] theorem z_put : putS i d env = if free? i env = true then some (env.set i (some (.own, d))) else none := rfl
@[simp] theorem z_set : sSet i fe env = (fe env >>= fun p => must (putS i p.1 p.2) fun e => .ok (.nx e)) := rfl
@[simp] theorem z_dr0 : dropS [] env = some env := rfl
@[simp] theorem z_dr1 {r : List Nat} : dropS (i :: r) env = if free? i env = true then dropS r (env.set i none) else none := rfl
@[simp] theorem z_drop {is : List Nat} : sDrop is env = must (dropS is env) fun e => .ok (.nx e) := rfl
@[simp] theorem z_aug {o : List D → Option D} : sAug i o fe env = must (hVar i env) fun dx => fe env >>= fun p => must (o [dx, p.1]) fun d => must (putS i d p.2) fun e => .ok (.nx e) := rfl
@[simp] theorem z_isl {α : Type} {f : DEnv → Out α} : isL j f env = match env[j]? with
  | some (some (_, .lst _)) => f env
  | _ => .bad := rfl
-- tests
@[simp] theorem z_hb : hB h env = match h env with
  | some d => d.toBl
  | none => none := rfl
@[simp] theorem z_eb : eB fe env = (fe env >>= fun p => must p.1.toBl fun b => .ok (b, p.2)) := rfl
@[simp] theorem z_ebp : eBp c env = must (c env) fun b => .ok (b, env) := rfl
@[simp] theorem z_not : hNot c env = match c env with
  | some b => some (!b)
  | none => none := rfl
@[simp] theorem z_note : eNot ce env = (ce env >>= fun p => .ok (!p.1, p.2)) := rfl
@[simp] theorem z_or {c2 : DEnv → Option Bool} : hOr c c2 env = match c env with
  | some b => if b = true then some true else c2 env
  | none => none := rfl
@[simp] theorem z_ore {c2 : DEnv → Out (Bool × DEnv)} : eOr ce c2 env = (ce env >>= fun p => if p.1 = true then .ok (true, p.2) else c2 p.2) := rfl
@[simp] theorem z_andv : hAndV h k env = match hB h env with
  | some b => if b = true then k env else some (.bl false)
  | none => none := rfl
@[simp] theorem z_notv : hNotV h env = match hB h env with
  | some b => some (.bl (!b))
  | none => none := rfl
@[simp] theorem z_andve {f2 : DEnv → Out (D × DEnv)} : eAndV fe f2 env = (eB fe env >>= fun p => if p.1 = true then f2 p.2 else .ok (.bl false, p.2)) := rfl
variable {n n2 : Int} {b b2 : Bool} {xs ys : List D} {s t : Str}
@[simp] theorem z_bin {o : D → D → Option D} : bin o [d, e] = o d e := rfl
@[simp] theorem z_una {o : D → Option D} : una o [d] = o d := rfl
@[simp] theorem z_bi {o : Int → Int → Option D} : bI o (.int n) (.int n2) = o n n2 := rfl
@[simp] theorem z_addi : fAdd (.int n) (.int n2) = some (.int (n + n2)) := rfl
@[simp] theorem z_adds : fAdd (.str s) (.str t) = iff? (s.length + t.length ≤ 16777216) (.str (s ++ t)) := rfl
@[simp] theorem z_addt : fAdd (.tup xs) (.tup ys) = iff? (D.pureL xs = true ∧ D.pureL ys = true ∧ xs.length + ys.length ≤ 16777216) (.tup (xs ++ ys)) := rfl
@[simp] theorem z_lti : fLt (.int n) (.int n2) = some (.bl (decide (n < n2))) := rfl
@[simp] theorem z_lts : fLt (.str s) (.str t) = some (.bl (decide (s.cps.toList < t.cps.toList))) := rfl
@[simp] theorem z_tobl : D.toBl (.bl b) = some b := rfl
@[simp] theorem z_toint : D.toInt (.int n) = some n := rfl
@[simp] theorem z_tolst : D.toLst (.lst xs) = some xs := rfl
@[simp] theorem z_totup : D.toTup (.tup xs) = some xs := rfl
@[simp] theorem z_torow1 : D.toRow (.lst xs) = some xs := rfl
@[simp] theorem z_torow2 {ns : List Int} : D.toRow (.scr ns) = some (ns.map .int) := rfl
@[simp] theorem z_pint : D.pure (.int n) = true := rfl
@[simp] theorem z_pbl : D.pure (.bl b) = true := rfl
@[simp] theorem z_pstr : D.pure (.str s) = true := rfl
@[simp] theorem z_pnon : D.pure .non = true := rfl
@[simp] theorem z_ptup {fl : Bool} : D.pure (.tupF fl xs) = D.pureL xs := rfl
@[simp] theorem z_plst : D.pure (.lst xs) = false := rfl
@[simp] theorem z_pl0 : D.pureL [] = true := rfl
@[simp] theorem z_pl1 : D.pureL (d :: xs) = (d.pure && D.pureL xs) := rfl
@[simp] theorem z_pints (ns : List Int) : D.pureL (ns.map .int) = true := pureL_ints ns
theorem pureL_map {α : Type} {φ : α → D} (hp : ∀ a, (φ a).pure = true) : ∀ l : List α, D.pureL (l.map φ) = true
  | [] => rfl
  | a :: r => by rw [List.map_cons, z_pl1, hp a, pureL_map hp r]; rfl
@[simp] theorem z_lenl : fLen (.lst xs) = some (.int xs.length) := rfl
@[simp] theorem z_lent {fl : Bool} : fLen (.tupF fl xs) = some (.int xs.length) := rfl
@[simp] theorem z_lens {ns : List Int} : fLen (.scr ns) = some (.int ns.length) := rfl
@[simp] theorem z_lenstr : fLen (.str s) = iff? (s.length ≤ 16777216) (.int s.length) := rfl
@[simp] theorem z_to1 : fTupOf (.lst xs) = iff? (D.pureL xs = true) (.tup xs) := rfl
@[simp] theorem z_to2 {fl : Bool} : fTupOf (.tupF fl xs) = iff? (D.pureL xs = true) (.tupF fl xs) := rfl
@[simp] theorem z_ftup : fTup xs = iff? (D.pureL xs = true ∧ xs.length ≤ 16777216) (.tup xs) := rfl
@[simp] theorem z_dsp {mk : List D → D} : dspK mk xs env = if xs.length ≤ 16777216 then .ok (mk xs, [], env) else .bad := rfl
@[simp] theorem z_app : appK [.lst xs, d] env = if xs.length < 16777216 then .ok (.non, [.lst (xs ++ [d])], env) else .bad := rfl
@[simp] theorem z_setk : setK [d, .lst xs, .int n] env = match ixN xs.length n with
  | some k => .ok (.non, [.lst (xs.set k d)], env)
  | none => .bad := rfl
@[simp] theorem z_isi {T : String} : gIsi T [d] = d.ty.map fun t => .bl (tyLe t T) := rfl
@[simp] theorem z_slh {o : D → Option Int → Option Int → Option D} : slH o [d, .int n] = o d none (some n) := rfl
@[simp] theorem z_sll {o : D → Option Int → Option Int → Option D} : slL o [d, .int n] = o d (some n) none := rfl
@[simp] theorem z_iff_pos {α : Type} {p : Prop} [Decidable p] {a : α} (h : p) : iff? p a = some a := if_pos h
@[simp] theorem z_ty1 : D.ty (.int n) = some "int" := rfl
@[simp] theorem z_ty2 : D.ty (.bl b) = some "bool" := rfl
@[simp] theorem z_ty3 : D.ty (.str s) = some "str" := rfl
@[simp] theorem z_ty4 {fl : Bool} : D.ty (.tupF fl xs) = some "tuple" := rfl
@[simp] theorem z_ty5 : D.ty (.lst xs) = some "list" := rfl
@[simp] theorem z_ty6 : D.ty .non = some "NoneType" := rfl
-- loops
variable {bd : D → DEnv → Option DEnv} {ops : List Opn} {mk : List D → Option (List D)} {cl : List Nat} {elt : DEnv → Out (D × DEnv)} {vs : List Nat}
@[simp] theorem z_o0 : evO [] env = .ok ([], [], env) := rfl
@[simp] theorem z_o1 {r : List Opn} : evO (.pur h :: r) env = must (h env) fun d => evO r env >>= fun q => .ok (d :: q.1, q.2.1, q.2.2) := rfl
@[simp] theorem z_o2 {g : DEnv → Option D} {r : List Opn} : evO (.plc i g :: r) env = must (g env) fun d => evO r (lock i env) >>= fun q => .ok (d :: q.1, q.2.1 ++ [env], q.2.2) := rfl
@[simp] theorem z_o3 {r : List Opn} : evO (.own fe :: r) env = (fe env >>= fun p => evO r p.2 >>= fun q => .ok (p.1 :: q.1, q.2.1, q.2.2)) := rfl
@[simp] theorem z_ul0 : unlk [] env = env := rfl
@[simp] theorem z_ul1 {e0 : DEnv} {st : List DEnv} : unlk (e0 :: st) env = unlk st (unlock e0 env) := rfl
@[simp] theorem z_for : sFor ops mk bd cl f env = (evO ops env >>= fun q => must (mk q.1) fun xs => forD bd cl f xs q.2.2 >>= unS q.2.1) := rfl
@[simp] theorem z_uns1 {st : List DEnv} : unS st (.nx env) = .ok (.nx (unlk st env)) := rfl
@[simp] theorem z_uns2 {st : List DEnv} : unS st (.rt d env) = .ok (.rt d (unlk st env)) := rfl
@[simp] theorem z_lc : lcE ops mk bd ce elt vs env = (evO ops env >>= fun q => must (mk q.1) fun xs => must (hideS vs q.2.2) fun e0 => if xs.length < 16777216 then must (noEx (lcG bd ce elt vs xs e0)) fun r => .ok (.lst r.1, unlk q.2.1 (backS vs q.2.2 r.2)) else .bad) := rfl
@[simp] theorem z_yes : eYes env = .ok (true, env) := rfl
@[simp] theorem z_noex {α : Type} {a : α} : noEx (.ok a) = some a := rfl
@[simp] theorem z_hid0 : hideS [] env = some env := rfl
@[simp] theorem z_hid1 {v : Nat} {r : List Nat} : hideS (v :: r) env = match hideS r env with
  | some e => if hid? v e = true then some (e.set v none) else none
  | none => none := rfl
@[simp] theorem z_hid : hid? i env = match env[i]? with
  | some none => true
  | some (some (.own, d)) => d.pure
  | _ => false := rfl
@[simp] theorem z_bk0 {env0 : DEnv} : backS [] env0 env = env := rfl
@[simp] theorem z_bk1 {v : Nat} {r : List Nat} {env0 : DEnv} : backS (v :: r) env0 env = (backS r env0 env).set v (env0[v]?.getD none) := rfl
@[simp] theorem z_bname : bName i d env = if free? i env = true then some (env.set i (some (if d.pure = true then .own else .brw, d))) else none := rfl
@[simp] theorem z_btup {f : List D → DEnv → Option DEnv} {fl : Bool} : bTup f (.tupF fl xs) env = f xs env := rfl
@[simp] theorem z_bnil : bNil [] env = some env := rfl
@[simp] theorem z_bcons {f : D → DEnv → Option DEnv} {h : List D → DEnv → Option DEnv} : bCons f h (d :: xs) env = match f d env with
  | some e => h xs e
  | none => none := rfl
@[simp] theorem z_mkl : mkSeq [.lst xs] = some xs := rfl
@[simp] theorem z_mkt {fl : Bool} : mkSeq [.tupF fl xs] = some xs := rfl
@[simp] theorem z_mkz {a b : D} : mkZip [a, b] = match a.toSeq, b.toSeq with
  | some xs, some ys => some (zipD xs ys)
  | _, _ => none := rfl
@[simp] theorem z_seq1 : D.toSeq (.lst xs) = some xs := rfl
@[simp] theorem z_seq2 {fl : Bool} : D.toSeq (.tupF fl xs) = some xs := rfl
@[simp] theorem z_mkr1 : mkRange1 [.int n] = if inRng n = true then some (rngD 0 n.toNat) else none := rfl
@[simp] theorem z_run {N : Nat} {ms : List Pm} {body : Stm} {ds : List D} : runFn N ms body ds = if ds.length = ms.length then body (startD N ms ds) >>= fun fl => match fl with
    | .nx e => must (outsFrom ms 0 e) fun o => .ok (.non, o)
    | .rt d e => must (outsFrom ms 0 e) fun o => .ok (d, o)
    | _ => .bad
  else .bad := rfl
@[simp] theorem z_start {N : Nat} {ms : List Pm} {ds : List D} : startD N ms ds = slotsOf ms ds ++ List.replicate (N - ms.length) none := rfl
@[simp] theorem z_slots1 {m : Pm} {ms : List Pm} {ds : List D} : slotsOf (m :: ms) (d :: ds) = some (m.md, d) :: slotsOf ms ds := rfl
@[simp] theorem z_slots0 {ds : List D} : slotsOf [] ds = [] := by cases ds <;> rfl
@[simp] theorem z_md1 : Pm.md .b = .brw := rfl
@[simp] theorem z_md2 : Pm.md .io = .io := rfl
@[simp] theorem z_md3 : Pm.md .mv = .own := rfl
@[simp] theorem z_out0 : outsFrom [] j env = some [] := rfl
@[simp] theorem z_out1 {ms : List Pm} : outsFrom (.io :: ms) j env = match env[j]?, outsFrom ms (j + 1) env with
    | some (some (.io, d)), some r => some (r ++ [d])
    | _, _ => none := rfl
@[simp] theorem z_out2 {ms : List Pm} : outsFrom (.b :: ms) j env = outsFrom ms (j + 1) env := rfl
@[simp] theorem z_out3 {ms : List Pm} : outsFrom (.mv :: ms) j env = outsFrom ms (j + 1) env := rfl
end
section
variable {α β : Type} {bd : D → DEnv → Option DEnv} {cl : List Nat} {body : Stm} {elt : DEnv → Out (D × DEnv)} {ce : DEnv → Out (Bool × DEnv)}
/-- a turn that goes on -/
def Turn1 (bd : D → DEnv → Option DEnv) (cl : List Nat) (body : Stm) (x : D) (e e' : DEnv) : Prop := (must (bd x e) fun e1 => body e1 >>= fun fl => match fl with
    | .nx e2 => must (dropS cl e2) fun e3 => .ok (Flw.nx e3)
    | .ct e2 => must (dropS cl e2) fun e3 => .ok (Flw.nx e3)
    | .bk e2 => .bad
    | .rt d e2 => .bad) = .ok (.nx e')
theorem forD_cons {x : D} {xs : List D} {e e' : DEnv} (h : Turn1 bd cl body x e e') : forD bd cl body (x :: xs) e = forD bd cl body xs e' := by
  unfold Turn1 at h
  rw [forD]
  cases hb : bd x e with
  | none => rw [hb] at h; cases h
  | some e1 =>
    rw [hb, must_some] at h
    rw [must_some]
    cases hf : body e1 with
    | bad => rw [hf] at h; cases h
    | exc c => rw [hf] at h; cases h
    | ok fl =>
      rw [hf] at h
      cases fl with
      | nx e2 =>
        have h : (must (dropS cl e2) fun e3 => Out.ok (Flw.nx e3)) = .ok (.nx e') := h
        show (must (dropS cl e2) fun e => forD bd cl body xs e) = _
        cases hd : dropS cl e2 with
        | none => rw [hd] at h; cases h
        | some e3 => rw [hd] at h; cases h; rfl
      | ct e2 =>
        have h : (must (dropS cl e2) fun e3 => Out.ok (Flw.nx e3)) = .ok (.nx e') := h
        show (must (dropS cl e2) fun e => forD bd cl body xs e) = _
        cases hd : dropS cl e2 with
        | none => rw [hd] at h; cases h
        | some e3 => rw [hd] at h; cases h; rfl
      | bk e2 => cases h
      | rt d e2 => cases h
/-- .. the state staying -/
theorem lcG_map {e0 : DEnv} {g : β → D} {φ : β → D} : ∀ (xs : List β), (∀ x, x ∈ xs → (must (bd (φ x) e0) fun e => elt e >>= fun q => must (dropS cl q.2) fun e2 => Out.ok (q.1, e2)) = .ok (g x, e0)) → lcG bd eYes elt cl (xs.map φ) e0 = .ok (xs.map g, e0)
  | [], _ => rfl
  | x :: xs, h => by
    have h2 := h x List.mem_cons_self
    have h3 := lcG_map xs fun y hy => h y (List.mem_cons_of_mem _ hy)
    rw [List.map_cons, lcG]
    cases hb : bd (φ x) e0 with
    | none => rw [hb] at h2; cases h2
    | some e1 =>
      rw [hb, must_some] at h2
      rw [must_some]
      show (Out.ok (true, e1) >>= _) = _
      simp only [Out.bind_ok, if_true]
      cases he : elt e1 with
      | bad => rw [he] at h2; cases h2
      | exc c => rw [he] at h2; cases h2
      | ok q =>
        obtain ⟨d, e2⟩ := q
        rw [he] at h2
        have h2 : (must (dropS cl e2) fun e3 => Out.ok (d, e3)) = .ok (g x, e0) := h2
        simp only [Out.bind_ok]
        cases hd : dropS cl e2 with
        | none => rw [hd] at h2; cases h2
        | some e3 =>
          rw [hd] at h2
          cases h2
          rw [must_some, h3]
          rfl
/-- a loop as a fold, the turns counted -/
theorem forD_foldI {st : α → DEnv} {f : α → β → α} {φ : β → D} {I : Nat → α → Prop} : ∀ (xs : List β) (i : Nat) (a : α), I i a → (∀ j a x, xs[j]? = some x → I (i + j) a → I (i + j + 1) (f a x) ∧ Turn1 bd cl body (φ x) (st a) (st (f a x))) → forD bd cl body (xs.map φ) (st a) = .ok (.nx (st (xs.foldl f a))) ∧ I (i + xs.length) (xs.foldl f a)
  | [], i, a, hI, _ => ⟨rfl, hI⟩
  | x :: xs, i, a, hI, h => by
    obtain ⟨h1, h2⟩ := h 0 a x rfl hI
    rw [List.map_cons, forD_cons h2, List.foldl_cons, List.length_cons]
    have e : ∀ j, i + 1 + j = i + (j + 1) := fun j => by omega
    have r := forD_foldI xs (i + 1) (f a x) h1 fun j b y hy hb => by
      have q := h (j + 1) b y hy (by rw [← e]; exact hb)
      rw [e]
      exact q
    rw [e] at r
    exact r
end
end DL
namespace DL
open PySem PySem.Spec PyProof.Rows L2
structure EqOk {α : Type} [DecidableEq α] (φ : α → D) (n : Nat) : Prop where
  py : ∀ a, ∃ p, (φ a).py = some p ∧ p.canLay0 = true ∧ p.depth ≤ n
  eqv : ∀ a b p q, (φ a).py = some p → (φ b).py = some q → PyData.eqv p q = decide (a = b)
section
variable {α β : Type} [DecidableEq α] [DecidableEq β] {φ : α → D} {ψ : β → D} {n m : Nat}
theorem beq_dec {γ : Type} [BEq γ] [LawfulBEq γ] [DecidableEq γ] (a b : γ) : (a == b) = decide (a = b) := by
  rw [Bool.eq_iff_iff, beq_iff_eq, decide_eq_true_eq]
theorem EqOk.int : EqOk D.int 0 := ⟨fun a => ⟨_, rfl, rfl, Nat.le_refl _⟩, fun a b p q hp hq => by
  cases hp; cases hq
  simp only [PyData.eqv]
  exact beq_dec a b⟩
theorem EqOk.bl : EqOk D.bl 0 := ⟨fun a => ⟨_, rfl, rfl, Nat.le_refl _⟩, fun a b p q hp hq => by
  cases hp; cases hq
  simp only [PyData.eqv]
  exact beq_dec a b⟩
theorem EqOk.items (h : EqOk φ n) : ∀ xs : List α, ∃ ps, D.pyL (xs.map φ) = some ps ∧ PyData.canLayAll0 ps = true ∧ PyData.depthAll ps ≤ n
  | [] => ⟨[], rfl, rfl, Nat.zero_le _⟩
  | x :: r => by
    obtain ⟨p, h1, h2, h3⟩ := h.py x
    obtain ⟨ps, g1, g2, g3⟩ := EqOk.items h r
    refine ⟨p :: ps, ?_, ?_, ?_⟩
    · rw [List.map_cons, D.pyL, h1, g1]
    · rw [PyData.canLayAll0, h2, g2]; rfl
    · rw [PyData.depthAll]; exact Nat.max_le.mpr ⟨h3, g3⟩
theorem EqOk.itemsEq (h : EqOk φ n) : ∀ (xs ys : List α) (ps qs : List PyData), D.pyL (xs.map φ) = some ps → D.pyL (ys.map φ) = some qs → PyData.eqvAll ps qs = decide (xs = ys)
  | [], [], ps, qs, h1, h2 => by
    cases (show some ([] : List PyData) = some ps from h1)
    cases (show some ([] : List PyData) = some qs from h2)
    simp [PyData.eqvAll]
  | [], y :: ys, ps, qs, h1, h2 => by
    cases (show some ([] : List PyData) = some ps from h1)
    obtain ⟨q, e1, _⟩ := h.py y
    obtain ⟨qs', g1, _⟩ := h.items ys
    rw [List.map_cons, D.pyL, e1, g1] at h2
    cases h2
    simp [PyData.eqvAll]
  | x :: xs, [], ps, qs, h1, h2 => by
    cases (show some ([] : List PyData) = some qs from h2)
    obtain ⟨q, e1, _⟩ := h.py x
    obtain ⟨qs', g1, _⟩ := h.items xs
    rw [List.map_cons, D.pyL, e1, g1] at h1
    cases h1
    simp [PyData.eqvAll]
  | x :: xs, y :: ys, ps, qs, h1, h2 => by
    obtain ⟨p, e1, _⟩ := h.py x
    obtain ⟨ps', g1, _⟩ := h.items xs
    rw [List.map_cons, D.pyL, e1, g1] at h1
    cases h1
    obtain ⟨q, e2, _⟩ := h.py y
    obtain ⟨qs', g2, _⟩ := h.items ys
    rw [List.map_cons, D.pyL, e2, g2] at h2
    cases h2
    rw [PyData.eqvAll, h.eqv x y p q e1 e2, EqOk.itemsEq h xs ys _ _ g1 g2, ← Bool.decide_and]
    exact decide_eq_decide.mpr (by rw [List.cons.injEq])
theorem EqOk.lst (h : EqOk φ n) : EqOk (fun xs : List α => D.lst (xs.map φ)) (n + 1) := ⟨fun xs => by
    obtain ⟨ps, h1, h2, h3⟩ := h.items xs
    refine ⟨.list ps, ?_, ?_, ?_⟩
    · show (D.pyL (xs.map φ)).map PyData.list = _
      rw [h1]; rfl
    · rw [PyData.canLay0]; exact h2
    · rw [PyData.depth]; omega, fun xs ys p q hp hq => by
    obtain ⟨ps, h1, _⟩ := h.items xs
    obtain ⟨qs, h2, _⟩ := h.items ys
    have hp : (D.pyL (xs.map φ)).map PyData.list = some p := hp
    have hq : (D.pyL (ys.map φ)).map PyData.list = some q := hq
    rw [h1] at hp
    rw [h2] at hq
    cases hp
    cases hq
    simp only [PyData.eqv]
    exact h.itemsEq xs ys ps qs h1 h2⟩
theorem EqOk.tup (h : EqOk φ n) : EqOk (fun xs : List α => D.tup (xs.map φ)) (n + 1) := ⟨fun xs => by
    obtain ⟨ps, h1, h2, h3⟩ := h.items xs
    refine ⟨.tuple ps, ?_, ?_, ?_⟩
    · show (D.pyL (xs.map φ)).map PyData.tuple = _
      rw [h1]; rfl
    · rw [PyData.canLay0]; exact h2
    · rw [PyData.depth]; omega, fun xs ys p q hp hq => by
    obtain ⟨ps, h1, _⟩ := h.items xs
    obtain ⟨qs, h2, _⟩ := h.items ys
    have hp : (D.pyL (xs.map φ)).map PyData.tuple = some p := hp
    have hq : (D.pyL (ys.map φ)).map PyData.tuple = some q := hq
    rw [h1] at hp
    rw [h2] at hq
    cases hp
    cases hq
    simp only [PyData.eqv]
    exact h.itemsEq xs ys ps qs h1 h2⟩
theorem shaped_of {p : PyData} (h1 : p.canLay0 = true) (h2 : p.depth ≤ n) (hn : n ≤ 64) : SeqAt.shaped p = true := by
  unfold SeqAt.shaped
  rw [h1, decide_eq_true (by omega)]; rfl
theorem EqOk.eq (h : EqOk φ n) (a b : α) (hn : n ≤ 64 := by decide) : gEqB (φ a) (φ b) = some (decide (a = b)) := by
  obtain ⟨p, h1, h2, h3⟩ := h.py a
  obtain ⟨q, k1, k2, k3⟩ := h.py b
  unfold gEqB
  rw [h1, k1]
  show iff? (SeqAt.shaped p = true ∧ SeqAt.shaped q = true) (PyData.eqv p q) = _
  rw [iff?_pos ⟨shaped_of h2 h3 hn, shaped_of k2 k3 hn⟩, h.eqv a b p q h1 k1]
theorem EqOk.mem (h : EqOk φ n) (a : α) (xs : List α) (hn : n ≤ 63 := by decide) : inB (φ a) (.lst (xs.map φ)) = some (decide (a ∈ xs)) := by
  obtain ⟨p, h1, h2, h3⟩ := h.py a
  obtain ⟨ps, g1, g2, g3⟩ := h.items xs
  have e : (D.lst (xs.map φ)).py = some (.list ps) := by
    show (D.pyL (xs.map φ)).map PyData.list = _
    rw [g1]; rfl
  unfold inB
  simp only [h1, e]
  rw [iff?_pos ⟨shaped_of h2 h3 (Nat.le_succ_of_le hn), shaped_of (n := n + 1) (by rw [PyData.canLay0]; exact g2) (by rw [PyData.depth]; omega) (by omega)⟩]
  have key : ∀ (xs : List α) (ps : List PyData), D.pyL (xs.map φ) = some ps → (ps.any fun z => PyData.eqv z p) = decide (a ∈ xs) := fun xs => by
    induction xs with
    | nil =>
      intro ps g
      cases (show some ([] : List PyData) = some ps from g)
      simp
    | cons x r ih =>
      intro ps g
      obtain ⟨q, e1, _⟩ := h.py x
      obtain ⟨qs, e2, _⟩ := h.items r
      rw [List.map_cons, D.pyL, e1, e2] at g
      cases g
      rw [List.any_cons, h.eqv x a q p e1 h1, ih qs e2]
      by_cases hx : x = a
      · subst hx; simp
      · have : ¬ a = x := fun z => hx z.symm
        simp [hx, this]
  rw [key xs ps g1]
/-- what is compared with itself -/
theorem eq_same {d : D} {p : PyData} (h1 : d.py = some p) (h2 : p.canLay0 = true) (h3 : p.depth ≤ 64) : gEqB d d = some true := by
  unfold gEqB
  rw [h1]
  show iff? (SeqAt.shaped p = true ∧ SeqAt.shaped p = true) (PyData.eqv p p) = _
  rw [iff?_pos ⟨shaped_of h2 h3 (Nat.le_refl _), shaped_of h2 h3 (Nat.le_refl _)⟩, SeqAt.eqv_refl p h2]
end
@[simp] theorem eq_nil0 : gEqB (.lst []) (.lst []) = some true := (EqOk.int.lst.eq [] []).trans (by simp)
@[simp] theorem eq_int (a b : Int) : gEqB (.int a) (.int b) = some (decide (a = b)) := EqOk.int.eq a b
@[simp] theorem eq_nilI (ns : List Int) : gEqB (.lst (ns.map .int)) (.lst []) = some (decide (ns = [])) := EqOk.int.lst.eq ns []
theorem inRng_of {i : Int} (h : -1000000000 ≤ i ∧ i ≤ 1000000000) : inRng i = true := by
  unfold inRng
  exact decide_eq_true (by omega)
theorem log_lt {n k : Nat} (h : n < 2 ^ k) (hk : 0 < k) : n.log2 < k := by
  by_cases h0 : n = 0
  · rw [h0]; simpa using hk
  · exact (Nat.log2_lt h0).mpr h
@[simp] theorem log_9000 {n : Nat} (h : n < 18446744073709551616) : n.log2 < 9000 := Nat.lt_of_lt_of_le (log_lt (k := 64) (by simpa using h) (by decide)) (by decide)
@[simp] theorem log_1920 {n : Nat} (h : n < 18446744073709551616) : n.log2 < 1920 := Nat.lt_of_lt_of_le (log_lt (k := 64) (by simpa using h) (by decide)) (by decide)
/-- a number of less than k bits -/
def Bd (k : Nat) (n : Int) : Prop := n.natAbs < 2 ^ k
section
variable {j k : Nat} {a b : Int}
theorem Bd.mono (h : Bd j a) (hk : j ≤ k) : Bd k a := Nat.lt_of_lt_of_le h (Nat.pow_le_pow_right (by decide) hk)
theorem Bd.add (h : Bd k a) (h2 : Bd k b) : Bd (k + 1) (a + b) := by
  unfold Bd at *
  have := Int.natAbs_add_le a b
  rw [Nat.pow_succ]
  omega
theorem Bd.neg (h : Bd k a) : Bd k (-a) := by
  unfold Bd at *
  rw [Int.natAbs_neg]; exact h
theorem Bd.sub (h : Bd k a) (h2 : Bd k b) : Bd (k + 1) (a - b) := by
  rw [Int.sub_eq_add_neg]
  exact h.add h2.neg
theorem Bd.log (h : Bd k a) (hk : 0 < k) : a.natAbs.log2 < k := by
  unfold Bd at h
  by_cases h0 : a.natAbs = 0
  · rw [h0]; simpa using hk
  · exact (Nat.log2_lt h0).mpr h
theorem mulOk (h : Bd j a) (h2 : Bd k b) (hj : j < 30000000 := by decide) (hk : k < 30000000 := by decide) : MulOk a b := by
  unfold MulOk
  have h1 := (h.mono (Nat.le_succ j)).log (Nat.succ_pos j)
  have h3 := (h2.mono (Nat.le_succ k)).log (Nat.succ_pos k)
  omega
end
end DL
namespace DL
open PySem PySem.Spec PyProof.Rows L2
section
variable {env : DEnv} {xs ys : List D} {s t : Str} {d : D} {T : String}
@[simp] theorem z_onlyT {f : D → Bool} : onlyT f d = if f d = true then some d else none := rfl
@[simp] theorem z_tyS : tyD T (.str s) = (T == "str") := rfl
@[simp] theorem z_tyT : tyD T (.tupF true xs) = (T == "tuple") := rfl
@[simp] theorem z_tyL : tyD T (.lst xs) = (T == "list") := rfl
@[simp] theorem z_strs : ∀ l : List Str, D.strs (l.map .str) = some l
  | [] => rfl
  | a :: r => by
    show (D.strs (r.map .str)).map (a :: ·) = _
    rw [z_strs r]; rfl
@[simp] theorem z_tix {l : List Str} : fTIx (.tupF true (l.map .str)) (.str s) = (l.findIdx? (· == s)).map fun (j : Nat) => .int (j : Int) := by
  unfold fTIx
  simp
@[simp] theorem z_tupx : fTupX (.lst xs) = iff? (D.pureL xs = true) (.tupF true xs) := rfl
@[simp] theorem z_unp {is : List Nat} {f : DEnv → Out (D × DEnv)} : sUnp is f env = (f env >>= fun p => match p.1.toTupA with
  | some ds => must (putsS is ds p.2) fun e => .ok (.nx e)
  | none => .bad) := rfl
@[simp] theorem z_toTupA {fl : Bool} : D.toTupA (.tupF fl xs) = some xs := rfl
@[simp] theorem z_puts0 : putsS [] [] env = some env := rfl
@[simp] theorem z_puts1 {i : Nat} {is : List Nat} {ds : List D} : putsS (i :: is) (d :: ds) env = match putS i d env with
    | some e' => putsS is ds e'
    | none => none := rfl
@[simp] theorem z_sorted : fSorted (.lst xs) = iff? (D.pureL xs = true ∧ (xs.all fun x => x.py.isSome) = true ∧ sortB (xs.map encD) = true) (.lst (sortL xs)) := rfl
@[simp] theorem z_mkenum : mkEnum [.lst xs] = some (enumD 0 xs) := rfl
@[simp] theorem z_slps {lo hi : Option Int} : fSlP (.str s) lo hi = iff? (s.length ≤ 16777216) (.str (cutS s lo hi)) := rfl
@[simp] theorem z_slpt {lo hi : Option Int} : fSlP (.tup xs) lo hi = iff? (D.pureL xs = true) (.tup (cutD xs lo hi)) := rfl
@[simp] theorem z_ixs {n : Int} : fIx (.str s) (.int n) = match atI s.cps.toList n with
    | some c => iff? (s.length ≤ 16777216) (.str ⟨#[c]⟩)
    | none => none := rfl
@[simp] theorem z_ixlst {n : Int} : fIx (.lst xs) (.int n) = match atI xs n with
    | some e => iff? (e.pure = true) e
    | none => none := rfl
@[simp] theorem z_ixtup {n : Int} {fl : Bool} : fIx (.tupF fl xs) (.int n) = match atI xs n with
    | some e => iff? (e.pure = true) e
    | none => none := rfl
@[simp] theorem z_ixscr {n : Int} {ns : List Int} : fIx (.scr ns) (.int n) = match dIx (.scr ns) n with
    | some e => iff? (e.pure = true) e
    | none => none := rfl
@[simp] theorem z_fsl1 {lo hi : Option Int} : fSlL (.lst xs) lo hi = iff? (D.pureL xs = true) (.lst (cutD xs lo hi)) := rfl
@[simp] theorem z_fsl2 {ns : List Int} {lo hi : Option Int} : fSlL (.scr ns) lo hi = some (.lst (cutD (ns.map .int) lo hi)) := iff?_pos (pureL_ints ns) _
@[simp] theorem z_pstrs (l : List Str) : D.pureL (l.map .str) = true := pureL_map (fun _ => rfl) l
@[simp] theorem z_int1 {n : Int} : fInt (.int n) = some (.int n) := rfl
@[simp] theorem z_int2 {b : Bool} : fInt (.bl b) = some (.int (if b then 1 else 0)) := rfl
@[simp] theorem z_isnon0 : D.isNon .non = true := rfl
@[simp] theorem z_isnon1 {n : Int} : D.isNon (.int n) = false := rfl
@[simp] theorem z_isnon2 {b : Bool} : D.isNon (.bl b) = false := rfl
@[simp] theorem z_isnon3 : D.isNon (.str s) = false := rfl
@[simp] theorem z_isnon4 {fl : Bool} : D.isNon (.tupF fl xs) = false := rfl
@[simp] theorem z_isnon5 : D.isNon (.lst xs) = false := rfl
end
theorem pow_eq {b e : Int} {r : Int} (h : 0 ≤ e ∧ e ≤ 1000 ∧ b.natAbs < 1000000) (hr : b ^ e.toNat = r) : gPow [.int b, .int e] = some (.int r) := by
  simp only [z_bin, z_bi]
  rw [iff?_pos h, hr]
/-- data that are compared -/
def Lay (n : Nat) (d : D) : Prop := ∃ q, d.py = some q ∧ q.canLay0 = true ∧ q.depth ≤ n
theorem Lay.items {n : Nat} : ∀ {ds : List D}, (∀ d ∈ ds, Lay n d) → ∃ qs, D.pyL ds = some qs ∧ PyData.canLayAll0 qs = true ∧ PyData.depthAll qs ≤ n
  | [], _ => ⟨[], rfl, rfl, Nat.zero_le _⟩
  | d :: ds, h => by
    obtain ⟨q, h1, h2, h3⟩ := h d List.mem_cons_self
    obtain ⟨qs, g1, g2, g3⟩ := Lay.items fun e m => h e (List.mem_cons_of_mem _ m)
    refine ⟨q :: qs, ?_, ?_, ?_⟩
    · rw [D.pyL, h1, g1]
    · rw [PyData.canLayAll0, h2, g2]; rfl
    · rw [PyData.depthAll]; exact Nat.max_le.mpr ⟨h3, g3⟩
theorem Lay.tup {n : Nat} {f : Bool} {ds : List D} (h : ∀ d ∈ ds, Lay n d) : Lay (n + 1) (.tupF f ds) := by
  obtain ⟨qs, h1, h2, h3⟩ := Lay.items h
  refine ⟨.tuple qs, ?_, ?_, ?_⟩
  · show (D.pyL ds).map PyData.tuple = _
    rw [h1]; rfl
  · rw [PyData.canLay0]; exact h2
  · rw [PyData.depth]; omega
theorem Lay.lst {n : Nat} {ds : List D} (h : ∀ d ∈ ds, Lay n d) : Lay (n + 1) (.lst ds) := by
  obtain ⟨qs, h1, h2, h3⟩ := Lay.items h
  refine ⟨.list qs, ?_, ?_, ?_⟩
  · show (D.pyL ds).map PyData.list = _
    rw [h1]; rfl
  · rw [PyData.canLay0]; exact h2
  · rw [PyData.depth]; omega
theorem Lay.int {n : Nat} {i : Int} : Lay n (.int i) := ⟨_, rfl, rfl, Nat.zero_le _⟩
theorem Lay.bl {n : Nat} {i : Bool} : Lay n (.bl i) := ⟨_, rfl, rfl, Nat.zero_le _⟩
theorem Lay.str {n : Nat} {s : Str} (h : PyData.strOk s = true) : Lay n (.str s) := ⟨_, rfl, by rw [PyData.canLay0]; exact h, Nat.zero_le _⟩
theorem Lay.ints {n : Nat} {l : List Int} : ∀ d ∈ l.map D.int, Lay n d := fun d h => by
  obtain ⟨i, _, rfl⟩ := List.mem_map.mp h
  exact Lay.int
theorem Lay.same {n : Nat} {d : D} (h : Lay n d) (hn : n ≤ 64) : gEqB d d = some true := by
  obtain ⟨q, h1, h2, h3⟩ := h
  exact eq_same h1 h2 (by omega)
/-- a text of code points that are told apart -/
abbrev OStr := {s : Str // PyData.strOk s = true}
theorem EqOk.str : EqOk (fun s : OStr => D.str s.1) 0 := ⟨fun a => ⟨.str a.1, rfl, by rw [PyData.canLay0]; exact a.2, Nat.le_refl _⟩, fun a b p q hp hq => by
  cases hp; cases hq
  simp only [PyData.eqv]
  rw [beq_dec]
  exact decide_eq_decide.mpr ⟨fun e => Subtype.ext e, fun e => by rw [e]⟩⟩
theorem cutD_take' (xs : List D) (t : Nat) : cutD xs none (some (t : Int)) = xs.take t := by
  unfold cutD
  rw [HT.sIx_none, HT.sIx_nat]
  simp
theorem cutD_drop' (xs : List D) (t : Nat) : cutD xs (some (t : Int)) none = xs.drop t := by
  unfold cutD
  rw [HT.sIx_none, HT.sIx_nat]
  by_cases h : t ≤ xs.length
  · rw [Nat.min_eq_left h, List.take_of_length_le]
    simp
  · have h2 : xs.length ≤ t := by omega
    rw [Nat.min_eq_right h2, List.drop_of_length_le h2, List.drop_of_length_le (Nat.le_refl _)]
    simp
def WhR (c : DEnv → Out (Bool × DEnv)) (body : Stm) (e : DEnv) (o : Flw) : Prop := ∃ n, whileN c body n e = .ok o
theorem WhR.stop {c : DEnv → Out (Bool × DEnv)} {body : Stm} {e e2 : DEnv} (h : c e = .ok (false, e2)) : WhR c body e (.nx e2) := ⟨1, by
  show (c e >>= _) = _
  rw [h]
  rfl⟩
theorem WhR.step {c : DEnv → Out (Bool × DEnv)} {body : Stm} {e e1 e2 : DEnv} {o : Flw} (h : c e = .ok (true, e1)) (hb : body e1 = .ok (.nx e2) ∨ body e1 = .ok (.ct e2)) (k : WhR c body e2 o) : WhR c body e o := by
  obtain ⟨n, hn⟩ := k
  refine ⟨n + 1, ?_⟩
  rw [whileN, h]
  simp only [Out.bind_ok, if_true]
  rcases hb with hb | hb
  · rw [hb]; exact hn
  · rw [hb]; exact hn
theorem WhR.sw {c : DEnv → Out (Bool × DEnv)} {body : Stm} {e : DEnv} {o : Flw} (k : WhR c body e o) : sWhile c body e = .ok o := by
  obtain ⟨n, hn⟩ := k
  exact sWhile_of hn (by intro z; cases z)
section
variable {α β : Type} {bd : D → DEnv → Option DEnv} {cl : List Nat} {body : Stm} {elt : DEnv → Out (D × DEnv)} {ce : DEnv → Out (Bool × DEnv)}
theorem forD_exI {st : α → DEnv} {φ : β → D} {I : Nat → α → Prop} : ∀ (xs : List β) (i : Nat) (a : α), I i a → (∀ j a x, xs[j]? = some x → I (i + j) a → ∃ b, I (i + j + 1) b ∧ Turn1 bd cl body (φ x) (st a) (st b)) → ∃ b, I (i + xs.length) b ∧ forD bd cl body (xs.map φ) (st a) = .ok (.nx (st b))
  | [], i, a, hI, _ => ⟨a, hI, rfl⟩
  | x :: xs, i, a, hI, h => by
    obtain ⟨b, h1, h2⟩ := h 0 a x rfl hI
    rw [List.map_cons, forD_cons h2, List.length_cons]
    have e : ∀ j, i + 1 + j = i + (j + 1) := fun j => by omega
    have r := forD_exI xs (i + 1) b h1 fun j c y hy hb => by
      have q := h (j + 1) c y hy (by rw [← e]; exact hb)
      rw [e]
      exact q
    rw [e] at r
    exact r
/-- a loop that goes through, or returns d at the first turn at which c is not so -/
theorem forD_scan {st : α → DEnv} {f : α → β → α} {c : β → Bool} {d : D} {φ : β → D} : ∀ (xs : List β) (a : α), (∀ a x, x ∈ xs → c x = true → Turn1 bd cl body (φ x) (st a) (st (f a x))) → (∀ a x, x ∈ xs → c x = false → ∃ e1 e2 e3, bd (φ x) (st a) = some e1 ∧ body e1 = .ok (.rt d e2) ∧ dropS cl e2 = some e3) →
    (xs.all c = true → forD bd cl body (xs.map φ) (st a) = .ok (.nx (st (xs.foldl f a)))) ∧ (xs.all c = false → ∃ e, forD bd cl body (xs.map φ) (st a) = .ok (.rt d e))
  | [], a, _, _ => ⟨fun _ => rfl, fun h => (Bool.noConfusion (show true = false from h))⟩
  | x :: xs, a, h1, h2 => by
    have r := forD_scan xs (f a x) (fun b y hy => h1 b y (List.mem_cons_of_mem _ hy)) (fun b y hy => h2 b y (List.mem_cons_of_mem _ hy))
    cases hc : c x with
    | true =>
      rw [List.map_cons, forD_cons (h1 a x List.mem_cons_self hc), List.foldl_cons, List.all_cons, hc, Bool.true_and]
      exact r
    | false =>
      rw [List.all_cons, hc, Bool.false_and]
      refine ⟨fun h => Bool.noConfusion h, fun _ => ?_⟩
      obtain ⟨e1, e2, e3, g1, g2, g3⟩ := h2 a x List.mem_cons_self hc
      refine ⟨e3, ?_⟩
      rw [List.map_cons, forD, g1]
      simp only [must_some, g2, Out.bind_ok, g3]
/-- one turn of a comprehension with a test -/
def TurnC (bd : D → DEnv → Option DEnv) (ce : DEnv → Out (Bool × DEnv)) (elt : DEnv → Out (D × DEnv)) (cl : List Nat) (x : D) (e : DEnv) : Out (Option D × DEnv) := must (bd x e) fun e => ce e >>= fun p => if p.1 = true then elt p.2 >>= fun q => must (dropS cl q.2) fun e2 => .ok (some q.1, e2)
      else must (dropS cl p.2) fun e2 => .ok (none, e2)
theorem lcG_filt {e0 : DEnv} {c : β → Bool} {g : β → D} {φ : β → D} : ∀ (xs : List β), (∀ x, x ∈ xs → TurnC bd ce elt cl (φ x) e0 = .ok (if c x = true then some (g x) else none, e0)) → lcG bd ce elt cl (xs.map φ) e0 = .ok ((xs.filter c).map g, e0)
  | [], _ => rfl
  | x :: xs, h => by
    have h2 := h x List.mem_cons_self
    have h3 := lcG_filt xs fun y hy => h y (List.mem_cons_of_mem _ hy)
    rw [List.map_cons, lcG]
    unfold TurnC at h2
    cases hb : bd (φ x) e0 with
    | none => rw [hb] at h2; cases h2
    | some e1 =>
      rw [hb, must_some] at h2
      rw [must_some]
      cases hc : ce e1 with
      | bad => rw [hc] at h2; cases h2
      | exc k => rw [hc] at h2; cases h2
      | ok p =>
        obtain ⟨b, e2⟩ := p
        rw [hc] at h2
        simp only [Out.bind_ok] at h2 ⊢
        cases b with
        | false =>
          simp only [Bool.false_eq_true, if_false] at h2 ⊢
          cases hd : dropS cl e2 with
          | none => rw [hd] at h2; cases h2
          | some e3 =>
            rw [hd] at h2
            rw [must_some] at h2 ⊢
            by_cases hx : c x = true
            · rw [if_pos hx] at h2; cases h2
            · rw [if_neg hx] at h2
              cases h2
              rw [h3, List.filter_cons_of_neg hx]
        | true =>
          simp only [if_true] at h2 ⊢
          cases he : elt e2 with
          | bad => rw [he] at h2; cases h2
          | exc k => rw [he] at h2; cases h2
          | ok q =>
            obtain ⟨d, e3⟩ := q
            rw [he] at h2
            simp only [Out.bind_ok] at h2 ⊢
            cases hd : dropS cl e3 with
            | none => rw [hd] at h2; cases h2
            | some e4 =>
              rw [hd] at h2
              rw [must_some] at h2 ⊢
              by_cases hx : c x = true
              · rw [if_pos hx] at h2
                cases h2
                rw [h3, List.filter_cons_of_pos hx]
                rfl
              · rw [if_neg hx] at h2; cases h2
end
@[simp] theorem z_pcomp {α : Type} (f : α → Int) (l : List α) : D.pureL (l.map (D.int ∘ f)) = true := pureL_map (fun _ => rfl) l
theorem range_at {n j k : Nat} (h : (List.range n)[j]? = some k) : k = j ∧ j < n := by
  by_cases hj : j < n
  · rw [List.getElem?_range hj] at h
    exact ⟨(Option.some.inj h).symm, hj⟩
  · rw [List.getElem?_eq_none (by simpa using hj)] at h
    cases h
theorem zipD_map {α β : Type} {φ : α → D} {ψ : β → D} : ∀ (xs : List α) (ys : List β), zipD (xs.map φ) (ys.map ψ) = (xs.zip ys).map fun p => .tup [φ p.1, ψ p.2]
  | [], ys => by simp [zipD]
  | x :: xs, [] => by simp [zipD]
  | x :: xs, y :: ys => by
    rw [List.map_cons, List.map_cons, List.zip_cons_cons, List.map_cons, ← zipD_map xs ys]
    rfl
theorem at_map {α : Type} {φ : α → D} {l : List α} {k : Nat} (h : k < l.length) : atI (l.map φ) (k : Int) = some (φ l[k]) := atI_nat (by rw [List.getElem?_map, List.getElem?_eq_getElem h]; rfl)
theorem rng_map (n : Nat) : rngD 0 n = (List.range n).map fun k : Nat => D.int (k : Int) := by
  unfold rngD
  simp
theorem at_mapI {l : List Int} {k : Nat} (h : k < l.length) : atI (l.map D.int) (k : Int) = some (.int (l.getD k 0)) := by
  rw [at_map h]; simp [h]
@[simp] theorem at0 {α : Type} (a : α) (l : List α) : atI (a :: l) 0 = some a := atI_nat (j := 0) rfl
@[simp] theorem at1 {α : Type} (a b : α) (l : List α) : atI (a :: b :: l) 1 = some b := atI_nat (j := 1) rfl
@[simp] theorem at2 {α : Type} (a b c : α) (l : List α) : atI (a :: b :: c :: l) 2 = some c := atI_nat (j := 2) rfl
theorem ixN_lt {n k : Nat} (h : k < n) : ixN n (k : Int) = some k := by
  unfold ixN
  rw [if_pos (by omega), if_pos (by omega)]
  simp
theorem sort_strs (l : List Str) : ∃ l2 : List Str, fSorted (.lst (l.map .str)) = some (.lst (l2.map .str)) ∧ l2.Perm l := by
  have hp : (sortL (l.map D.str)).Perm (l.map D.str) := sortL_perm _
  have key : ∀ ds : List D, (∀ d ∈ ds, ∃ s, d = .str s) → ∃ l2 : List Str, ds = l2.map .str := fun ds => by
    induction ds with
    | nil => intro _; exact ⟨[], rfl⟩
    | cons d r ih =>
      intro h
      obtain ⟨s, rfl⟩ := h d List.mem_cons_self
      obtain ⟨l2, rfl⟩ := ih fun e m => h e (List.mem_cons_of_mem _ m)
      exact ⟨s :: l2, rfl⟩
  obtain ⟨l2, h2⟩ := key (sortL (l.map D.str)) fun d m => by
    obtain ⟨s, _, rfl⟩ := List.mem_map.mp (hp.mem_iff.mp m)
    exact ⟨s, rfl⟩
  refine ⟨l2, ?_, ?_⟩
  · rw [z_sorted, h2, iff?_pos]
    refine ⟨z_pstrs l, ?_, ?_⟩
    · simp [D.py]
    · unfold sortB
      simp only [List.map_map, List.all_map, Bool.and_eq_true, Bool.or_eq_true, List.all_eq_true, Function.comp]
      refine ⟨⟨fun a _ b _ => rfl, .inr fun a _ => rfl⟩, fun a _ => rfl⟩
  · rw [h2] at hp
    have := hp.map (fun d => match d with | D.str s => s | _ => default)
    simpa [List.map_map, Function.comp_def] using this
/-- the script's cells -/
def cv (ns : List Int) (k : Nat) : Int := ns.getD k 0
theorem scr_ix {ns : List Int} {k : Nat} (h : k < ns.length) : fIx (.scr ns) (.int k) = some (.int (cv ns k)) := by
  have e : dIx (.scr ns) k = some (.int (cv ns k)) := by
    show (atI ns (k : Int)).map D.int = _
    rw [atI_nat (j := k) (List.getElem?_eq_getElem h)]
    simp [cv, h]
  rw [z_ixscr, e]
  rfl
end DL
namespace DL
open PySem PySem.Spec PyProof.Rows L2
/-- a suite by the class of what is caught -/
def hTab : List (Str × Stm) → Str → Stm
  | [], _ => sNever
  | (c, f) :: t, x => if x = c then f else hTab t x
section
variable {K : PySem.W.Frag} {cl : Str → Option Addr} {bo : Hp} {W : Wsh} {X : Cx}
theorem clof_nil {CX : Addr} {b : Bool} : ClOf K cl CX b [] := fun c h => by cases h
theorem clof_cons {CX C : Addr} {b : Bool} {c : Str} {cs : List Str} (h1 : cl c = some C) (h2 : PySem.W.exmOne K (.ref C) (.ref CX) = some b) (h : ClOf K cl CX b cs) : ClOf K cl CX b (c :: cs) := fun x hx => by
  rcases List.mem_cons.mp hx with rfl | hx
  · exact ⟨C, h1, h2⟩
  · exact h x hx
end
/-- the law's promise, of one text -/
def spLaw (K : PySem.W.Frag) (F : Fn) : Sp := fun vs H Q _ => ∃ a ns, vs = [V.ref a] ∧ SqL K H a (ns.map V.int) ∧ F [.scr ns] = .ok (.bl true, []) ∧ ∀ H', Q (.bl true) H'
theorem sp_law {K : PySem.W.Frag} {cl : Str → Option Addr} {F : Fn} {vs : List V} {H : Hp} {Q : VK} {E : XK} (h : spLaw K F vs H Q E) : spD ⟨K, cl, fun _ => none⟩ [.b] F vs H Q E := by
  obtain ⟨a, ns, rfl, hS, hF, hQ⟩ := h
  refine ⟨[(false, .scr ns)], [], fun _ => none, rfl, ⟨.ref a, [], [], [], rfl, rfl, ⟨⟨rfl, a, rfl, by rw [cut_nil]; exact hS⟩, rfl⟩, rfl, rfl⟩, List.nodup_nil, (fun b u e => by cases e), (fun b m => by cases m), fun _ => rfl, (fun b u e => by cases e), ?_⟩
  show match F [.scr ns] with
    | .ok (r, outs) => _
    | .exc c => _
    | .bad => False
  rw [hF]
  intro v H' Z' A _ _ _ _ ho _ _ _
  obtain ⟨v', r, F1, F2, e1, e2, h1, h2⟩ := ho
  cases e1
  rw [h1.1]
  exact hQ H'
theorem law_sp0 {K : PySem.W.Frag} {F : Fn} {H : Hp} {a : Addr} {ns : List Int} (hS : SqL K H a (ns.map V.int)) (hF : F [.scr ns] = .ok (.bl true, [])) : spLaw K F [.ref a] H (fun v _ => v = .bl true) fun _ _ _ => False := ⟨a, ns, rfl, hS, hF, fun _ => rfl⟩
@[simp] theorem z_raise {c : Str} {env : DEnv} : sRaise c env = .exc c := rfl
end DL
namespace DL
open PySem PySem.Spec PyProof.Rows L2
section
variable {X : Cx}
end
section
variable {G : Gc} {W : Wsh} {X : Cx} {B Z H : Hp} {σ : L2.St} {env : DEnv} {Fs : Nat → List Addr}
end
end DL
namespace DL
open PySem PySem.Spec PyProof.Rows L2
section
variable {env : DEnv} {g : DEnv → Option D} {cs fs : List Str} {c f m : Str} {vs xs : List D} {d x : D} {j : Nat}
@[simp] theorem z_pun : pUn g env = (g env).map unb := rfl
@[simp] theorem z_unb1 : unb (.bor d) = d := rfl
@[simp] theorem z_unb2 {fl : Bool} : unb (.tupF fl xs) = .tupF fl xs := rfl
@[simp] theorem z_unb3 : unb (.lst xs) = .lst xs := rfl
@[simp] theorem z_pat : pAt g cs f env = match g env with
  | some d => dAt cs d f
  | none => none := rfl
/-- an instance's class and fields -/
def fAt (cs : List Str) (c : Str) (fs : List Str) (vs : List D) (f : Str) : Option D := if c ∈ cs then (fs.zip vs).lookup f else none
@[simp] theorem z_dat1 : dAt cs (.obj c fs vs) f = fAt cs c fs vs f := rfl
@[simp] theorem z_dat2 : dAt cs (.fob c fs vs) f = fAt cs c fs vs f := rfl
def isFT (T : D → Bool) : Option D → Bool
  | some d => T d
  | none => false
@[simp] theorem z_isft {T : D → Bool} : isFT T (some d) = T d := rfl
@[simp] theorem z_isf {α : Type} {T : D → Bool} {h : DEnv → Out α} : isF j cs f T h env = match env[j]? with
  | some (some (_, .fob c fs vs)) => if isFT T (fAt cs c fs vs f) = true then h env else .bad
  | _ => .bad := by
  unfold isF fAt
  cases env[j]? with
  | none => rfl
  | some s =>
    cases s with
    | none => rfl
    | some p =>
      obtain ⟨md, d⟩ := p
      cases d with
      | fob c fs vs =>
        simp only
        by_cases hc : c ∈ cs
        · rw [if_pos hc, if_pos hc]
          cases hl : (fs.zip vs).lookup f <;> rfl
        · rw [if_neg hc, if_neg hc]
          simp [isFT]
      | _ => rfl
@[simp] theorem z_lstd : isLstD (.lst xs) = true := rfl
@[simp] theorem z_dctk {ks : List Key} : isDctD (.dk ks vs) = true := rfl
@[simp] theorem z_dctt {ks : List (List Key)} : isDctD (.dt ks vs) = true := rfl
/-- the place of a field -/
def fIxO (fs : List Str) (f : Str) : Option Nat := fs.findIdx? fun g => f == g
@[simp] theorem z_fobk {k : Kn} {rest : List D} : fobK f k (x :: .fob c fs vs :: rest) env = match fIxO fs f with
  | some n => match vs[n]? with
    | some d => k (x :: d :: rest) env >>= fun q => match q.2.1 with
      | [o] => .ok (q.1, [.fob c fs (vs.set n o)], q.2.2)
      | _ => .bad
    | none => .bad
  | none => .bad := rfl
@[simp] theorem z_appy {y : D} : appY [y, .lst xs] env = if xs.length < 16777216 then .ok (.non, [.lst (xs ++ [y])], env) else .bad := rfl
@[simp] theorem z_iso {α : Type} {h : DEnv → Out α} : isO j c m h env = match env[j]? with
  | some (some (_, d)) => if clsOk c m d = true then h env else .bad
  | _ => .bad := rfl
@[simp] theorem z_nox {F : Fn} {ds : List D} : noX F ds = match F ds with
  | .ok p => .ok p
  | _ => .bad := rfl
@[simp] theorem z_make {F : Fn} {ds : List D} : makeK c F ds env = match F (.obj c [] [] :: ds) with
  | .ok (.non, [o]) => .ok (o, [], env)
  | _ => .bad := rfl
@[simp] theorem z_scp {cv : DEnv → Option DEnv} {h : Stm} : sScp cv h env = if noLck env = true then must (cv env) fun env1 => match h env1 with
    | .ok (.rt d e) => if d.nob = true ∧ ioNob e = true then .ok (.rt d (ioOnly e)) else .bad
    | .exc c => .exc c
    | _ => .bad
  else .bad := rfl
@[simp] theorem z_borp : borP j env = match env[j]? with
  | some (some (.brw, d)) => if d.isNon = false then some (env.set j (some (.own, .bor d))) else none
  | _ => none := rfl
@[simp] theorem z_frzo : frzO j env = match env[j]? with
  | some (some (.own, .obj c fs vs)) => some (env.set j (some (.own, .fob c fs vs)))
  | _ => none := rfl
@[simp] theorem z_movf : eMovF j cs f env = match env[j]? with
  | some (some (.own, .fob c fs vs)) => if c ∈ cs then match fIxO fs f with
    | some n => match vs[n]? with
      | some d => .ok (d, env.set j none)
      | none => .bad
    | none => .bad
    else .bad
  | _ => .bad := rfl
@[simp] theorem z_emk {fe : DEnv → Out (D × DEnv)} {mk : D → Option D} : eMk fe mk env = (fe env >>= fun p => match mk p.1 with
  | some d => .ok (d, p.2)
  | none => .bad) := rfl
@[simp] theorem z_nolck0 : noLck [] = true := rfl
@[simp] theorem z_nolck1 {r : DEnv} : noLck (none :: r) = noLck r := rfl
@[simp] theorem z_nolck2 {r : DEnv} : noLck (some (.own, d) :: r) = noLck r := rfl
@[simp] theorem z_nolck3 {r : DEnv} : noLck (some (.brw, d) :: r) = noLck r := rfl
@[simp] theorem z_nolck4 {r : DEnv} : noLck (some (.io, d) :: r) = noLck r := rfl
@[simp] theorem z_nolck5 {r : DEnv} : noLck (some (.shr, d) :: r) = noLck r := rfl
@[simp] theorem z_nolck6 {r : DEnv} : noLck (some (.lck, d) :: r) = false := rfl
@[simp] theorem z_ioo0 : ioOnly [] = [] := rfl
@[simp] theorem z_ioo1 {s : Slot} {r : DEnv} : ioOnly (s :: r) = (match s with
  | some (.io, d) => some (.io, d)
  | _ => none) :: ioOnly r := rfl
@[simp] theorem z_iob0 : ioNob [] = true := rfl
@[simp] theorem z_iob1 {s : Slot} {r : DEnv} : ioNob (s :: r) = ((match s with
  | some (.io, d) => d.nob
  | _ => true) && ioNob r) := rfl
/-- a field more -/
theorem st_step {e : DEnv} (h : (decide (c ∈ cs) && decide (f ∉ fs) && decide (fs.length < 1000)) = true) (hl : fs.length = vs.length) : stK cs f [x, .obj c fs vs] e = .ok (.non, [.obj c (fs ++ [f]) (vs ++ [x])], e) := by
  simp only [Bool.and_eq_true, decide_eq_true_eq] at h
  unfold stK
  simp only
  rw [if_pos ⟨h.1.1, h.1.2, hl, h.2⟩]
end
end DL
namespace DL
open PySem PySem.Spec PyProof.Rows L2
def noXs : Out Flw → Out Flw
  | .exc _ => .bad
  | o => o
def sTryO (ks : List Nat) (cs ns : List Str) (body f : Stm) : Stm := fun env => if noIoS env = true then match body (hold ks env) with
    | .ok (.nx e) => .ok (.nx (unhold ks env e))
    | .ok (.bk e) => .ok (.bk (unhold ks env e))
    | .ok (.ct e) => .ok (.ct (unhold ks env e))
    | .ok (.rt d e) => .ok (.rt d (unhold ks env e))
    | .exc c => if c ∈ cs then noXs (f (onlyK ks env)) else if c ∈ ns then .exc c else .bad
    | .bad => .bad
  else .bad
section
variable {K : PySem.W.Frag} {cl : Str → Option Addr} {bo : Hp} {W : Wsh} {X : Cx} {B Z H : Hp} {σ : L2.St} {env : DEnv} {Fs : Nat → List Addr} {ks : List Nat}
theorem Good.suiteO {H' : Hp} {σ' : L2.St} (g : Good ⟨K, cl, bo⟩ B Z H σ env Fs) (hH : Same (holdB B H ks env Fs) H') (ag : AgL (DL.hold ks env) σ σ') : Good ⟨K, cl, bo⟩ B Z H' σ' (onlyK ks env) (suiF ks env Fs) := by
  have sbH : Same B H' := (holdB_up g).trans hH
  have szH : Same Z H' := fun b u e => by rw [g.z0] at e; cases e
  refine ⟨sbH, szH, by rw [ag.1]; unfold onlyK DL.hold; rw [List.length_mapIdx, List.length_mapIdx], fun j => ?_, fun j => ?_, fun j k b m n => g.dj j k b (suiF_sub m).1 (suiF_sub n).1, fun j b m => g.fr j b (suiF_sub m).1, g.z0, g.gb⟩
  · rw [onlyK_at]
    by_cases hk : kpB ks env j = true
    · obtain ⟨m, d, e, e2, hm⟩ := kp_slot hk
      have hs := kept_slot (ks := ks) g (Same.refl Z) hH szH hk (ag.2 j d e2)
      have hF : suiF ks env Fs j = Fs j := by unfold suiF; rw [if_pos hk]
      rw [e] at hs ⊢
      rw [Option.map_some, if_pos hk, hF]
      rcases hm with rfl | rfl | rfl
      · exact hs
      · exact hs
      · exact hs
    · have hF : suiF ks env Fs j = [] := by unfold suiF; rw [if_neg hk]
      rw [hF]
      cases env[j]? with
      | none => exact rfl
      | some s =>
        rw [Option.map_some, if_neg hk]
        exact rfl
  · unfold suiF
    split
    · exact g.nd j
    · exact List.nodup_nil
theorem Stp.suiteO {H' Z2 H2 : Hp} {σ' σ2 : L2.St} {e2 : DEnv} {F2 : Nat → List Addr} (g : Good ⟨K, cl, bo⟩ B Z H σ env Fs) (hio : noIoS env = true) (hH : Same (holdB B H ks env Fs) H') (ag : AgL (DL.hold ks env) σ σ')
    (s : Stp ⟨K, cl, bo⟩ B Z H' σ' (onlyK ks env) (InF (suiF ks env Fs)) Z2 H2 σ2 e2 F2) : Stp ⟨K, cl, bo⟩ B Z H σ env (InF Fs) Z2 H2 σ2 e2 F2 := by
  have gd := s.good
  have old : ∀ b u, H b = some u → ¬ InF Fs b → H' b = some u := fun b u e n => hH b u (by
    rw [holdB_no (fun ⟨k, _, m⟩ => n ⟨k, m⟩)]; exact e)
  have sub : ∀ b, InF (suiF ks env Fs) b → InF Fs b := fun b ⟨j, m⟩ => ⟨j, (suiF_sub m).1⟩
  have back : ∀ b, H' b = none → H b = none ∨ InF Fs b := fun b z => by
    cases q : H b with
    | none => exact .inl rfl
    | some u =>
      refine .inr (Classical.byContradiction fun n => ?_)
      rw [old b u q n] at z
      cases z
  have hlen : e2.length = env.length := s.ln.trans (by unfold onlyK; rw [List.length_mapIdx])
  have key : ∀ (j : Nat) (m : Md) (d : D), (onlyK ks env)[j]? = some (some (m, d)) → kpB ks env j = true ∧ env[j]? = some (some (m, d)) := fun j m d p1 => by
    rw [onlyK_at] at p1
    by_cases hk : kpB ks env j = true
    · obtain ⟨m', d', q1, q2, _⟩ := kp_slot hk
      rw [q1, Option.map_some, if_pos hk] at p1
      cases p1
      exact ⟨hk, q1⟩
    · cases q : env[j]? with
      | none => rw [q] at p1; cases p1
      | some sl => rw [q, Option.map_some, if_neg hk] at p1; cases p1
  have stσ : ∀ (j : Nat), kpB ks env j = true → σ'[j]? = σ[j]? := fun j hk => by
    obtain ⟨m', d', q1, q2, _⟩ := kp_slot hk
    exact ag.2 j d' q2
  refine ⟨s.zz, fun b u e n => s.ext b u (old b u e n) fun m => n (sub b m), gd, fun b m => ?_, fun b m => ?_, fun j d h => absurd h (noIo_at hio).1, fun j d h => ?_, fun j d h => ?_, fun j d h => ?_, hlen⟩
  · rcases s.new b m with z | z
    · exact back b z
    · exact .inr (sub b z)
  · rcases s.newz b m with z | z | z
    · exact .inl z
    · exact .inr (back b z)
    · exact .inr (.inr (sub b z))
  · have hk : kpB ks env j = true := by unfold kpB; rw [h]
    obtain ⟨m', d', q1, q2, _⟩ := kp_slot hk
    rw [h] at q1
    cases q1
    have h1 : (onlyK ks env)[j]? = some (some (Md.lck, d)) := by rw [onlyK_at, h, Option.map_some, if_pos hk]
    obtain ⟨p1, p2⟩ := s.lk j d h1
    exact ⟨p1, p2.trans (stσ j hk)⟩
  · obtain ⟨p1, p2⟩ := s.bw j d h
    obtain ⟨hk, q1⟩ := key j _ d p1
    exact ⟨q1, p2.trans (stσ j hk)⟩
  · obtain ⟨p1, p2⟩ := s.lb j d h
    obtain ⟨hk, q1⟩ := key j _ d p1
    exact ⟨q1, p2.trans (stσ j hk)⟩
theorem DXW.suiO {a : Addr} {pn : List (Addr × Obj)} (dw : DXW X ⟨K, cl, bo⟩ W) : DXW (X.suite a pn) ⟨K, cl, bo⟩ (fun _ _ _ => False) :=
  ⟨⟨dw.dx.K, dw.dx.nd, dw.dx.un⟩, fun c σ H h => h.elim, fun u s' ⟨_, _, _, _, _, _, _, _, _, _, _, _, _, _, _, _, h⟩ => by
    obtain ⟨_, c, C, _, _, h⟩ := h
    exact h.elim⟩
theorem s_tryO {x : Str} {CX : Addr} {ks : List Nat} {cs ns : List Str} {body suite : List Stmt} {b₀ : Stmt} {np pos pos' : Pos} {fb fh : Stm} (dw : DXW X ⟨K, cl, bo⟩ W) (gC : X.mg x = some (.ref CX)) (hyes : ClOf X.K cl CX true cs) (hno : ClOf X.K cl CX false ns)
    (hb : ∀ (W' : Wsh) (pn : List (Addr × Obj)) (xe : Value → Shared → Prop), DXW (X.tr pn xe) ⟨K, cl, bo⟩ W' → PassesOwn (model X.prog X.w) X.A X.env xe → PSs (X.tr pn xe) body (TSt ⟨K, cl, bo⟩ W' fb))
    (hh : ∀ (a : Addr) (pn : List (Addr × Obj)), PSs (X.suite a pn) (b₀ :: suite) (TSt ⟨K, cl, bo⟩ (fun _ _ _ => False) fh))
    (hs : X.stack = X.env :: X.outer := by rfl) (hf : X.env.frame = some X.env.locals := by rfl) (hgl : Gl X x := by rfl) (hdb : (x == ("__debug__" : Str)) = false := by decide) :
    PS X (.Try body [.ExceptHandler (some (.Name x np)) none (b₀ :: suite) pos'] [] [] pos) (TSt ⟨K, cl, bo⟩ W (sTryO ks cs ns fb fh)) :=
  (ps_try_only (tb := fun Wk => TSt ⟨K, cl, bo⟩ (fun c σ H => ∃ C, cl c = some C ∧ Wk (.ref C) none σ H) fb)
    (ts := fun a cls d En σ H => TSt ⟨K, cl, bo⟩ (fun _ _ _ => False) fh En σ H)
    hs hf ⟨hgl, hdb, .inl gC⟩ dw.tk (fun Wk pn xe tk hp => hb _ pn xe (dw.tr tk) hp)
    (fun a oe cls d pn hz hf => hh a ((a, oe) :: pn))).imp fun En σ H ⟨B, Z, Fs, env, g, q⟩ => by
    unfold sTryO at q
    split at q
    · rename_i hio
      refine ⟨holdB B H ks env Fs, Z, holdF ks env Fs, hold ks env, g.hold hio, ?_⟩
      generalize hfb : fb (hold ks env) = ob at q ⊢
      match ob, q with
      | .bad, q => exact q.elim
      | .ok (.nx e), q => exact fun σ' Z' H' Fs' s => q σ' Z' H' _ (Stp.unhold g hio s)
      | .ok (.bk e), q => exact fun σ' Z' H' Fs' s => q σ' Z' H' _ (Stp.unhold g hio s)
      | .ok (.ct e), q => exact fun σ' Z' H' Fs' s => q σ' Z' H' _ (Stp.unhold g hio s)
      | .ok (.rt d e), q =>
        intro σ' v Z' H' Fs' F r
        have s2 := Stp.unhold g hio r.st
        have hF : ∀ a, a ∈ F → ∀ j, kpB ks env j = true → a ∉ Fs j := fun a m j hk n => by
          obtain ⟨o, ho, _⟩ := g.dom ⟨j, n⟩
          rcases r.new a m with z | ⟨i', z⟩
          · rw [ho] at z; cases z
          · obtain ⟨z1, z2⟩ := holdF_sub z
            have := g.dj i' j a z1 n
            rw [this, hk] at z2
            cases z2
        refine q σ' v Z' H' _ F ⟨s2, r.own, r.nd, fun a m ⟨j, n⟩ => ?_, fun a m => ⟨?_, (r.fr a m).2⟩, fun a m => (r.new a m).imp id fun ⟨j, n⟩ => ⟨j, (holdF_sub n).1⟩⟩
        · unfold mixF at n
          split at n
          · rename_i hk; exact hF a m j hk n
          · exact r.dj a m ⟨j, n⟩
        · cases eb : B a with
          | none => rfl
          | some u =>
            have := (r.fr a m).1
            rw [holdB_up (ks := ks) g a u eb] at this
            cases this
      | .exc c, q =>
        intro σ' ag H' hH
        have q : FinS ⟨K, cl, bo⟩ W B Z H σ env (InF Fs) (if c ∈ cs then noXs (fh (onlyK ks env)) else if c ∈ ns then .exc c else .bad) En := q
        split at q
        · rename_i hcs
          obtain ⟨C, e1, e2⟩ := hyes c hcs
          refine ⟨C, e1, true, e2, fun _ a na => ⟨B, Z, suiF ks env Fs, onlyK ks env, g.suiteO hH ag, ?_⟩, fun z => by cases z⟩
          generalize fh (onlyK ks env) = oh at q ⊢
          match oh, q with
          | .bad, q => exact q.elim
          | .exc c2, q => exact q.elim
          | .ok (.nx e), q => exact fun σ2 Z2 H2 F2 s => q _ Z2 H2 _ (Stp.suiteO g hio hH ag s)
          | .ok (.bk e), q => exact fun σ2 Z2 H2 F2 s => q _ Z2 H2 _ (Stp.suiteO g hio hH ag s)
          | .ok (.ct e), q => exact fun σ2 Z2 H2 F2 s => q _ Z2 H2 _ (Stp.suiteO g hio hH ag s)
          | .ok (.rt d e), q =>
            intro σ2 v Z2 H2 F2 F r
            refine q _ v Z2 H2 _ F ⟨Stp.suiteO g hio hH ag r.st, r.own, r.nd, r.dj, r.fr, fun b m => ?_⟩
            rcases r.new b m with z | ⟨j, z⟩
            · cases p : H b with
              | none => exact .inl rfl
              | some u =>
                refine .inr (Classical.byContradiction fun nn => ?_)
                rw [hH b u (by rw [holdB_no (fun ⟨k, _, m⟩ => nn ⟨k, m⟩)]; exact p)] at z
                cases z
            · exact .inr ⟨j, (suiF_sub z).1⟩
        · split at q
          · rename_i hns
            obtain ⟨C, e1, e2⟩ := hno c hns
            refine ⟨C, e1, false, e2, fun z => (by cases z), fun _ => ⟨rfl, c, C, rfl, e1, ?_⟩⟩
            refine q σ' ⟨ag.1.trans (by unfold hold; rw [List.length_mapIdx]), fun j d e => ?_⟩ H' ((holdB_up g).trans hH)
            have hk : kpB ks env j = true := by unfold kpB; rw [e]
            obtain ⟨m', d', q1, q2, _⟩ := kp_slot hk
            rw [e] at q1
            cases q1
            exact ag.2 j d q2
          · exact q.elim
    · exact q.elim
end
end DL
namespace DL
open PySem PySem.Spec PyProof.Rows L2
section
variable {G : Gc} {W : Wsh} {X : Cx}
end
end DL
namespace DL
open PySem PySem.Spec PyProof.Rows L2
/-- the way to the list, by values -/
def ptV (H : Hp) : List Int → V → V → Prop
  | [], v, w => v = w
  | i :: p, v, w => ∃ f a ws u, v = .ref a ∧ TupAt H f a ws ∧ atI ws i = some u ∧ ptV H p u w
section
variable {G : Gc} {W : Wsh} {X : Cx} {B Z H : Hp} {σ : L2.St} {env : DEnv} {Fs : Nat → List Addr}
theorem ptV.keep {H' : Hp} (k : ∀ b u, H b = some u → Still u → H' b = some u) : ∀ {p : List Int} {v w : V}, ptV H p v w → ptV H' p v w
  | [], _, _, h => h
  | _ :: _, _, _, ⟨f, a, ws, u, e, t, q, r⟩ => ⟨f, a, ws, u, e, t.keep k, q, r.keep k⟩
end
end DL
namespace DL
open PySem PySem.Spec PyProof.Rows L2
section
variable {G G' : Gc} {B Z H : Hp} {σ : L2.St} {env : DEnv} {Fs : Nat → List Addr}
end
section
variable {K : PySem.W.Frag} {cl : Str → Option Addr} {bo : Hp} {W : Wsh} {X : Cx} {B Z H : Hp} {σ : L2.St} {env : DEnv} {Fs : Nat → List Addr}
end
end DL
namespace DL
open PySem PySem.Spec PyProof.Rows L2
section
variable {G : Gc} {W : Wsh} {X : Cx} {B Z H : Hp} {σ : L2.St} {env : DEnv} {Fs : Nat → List Addr}
end
end DL
namespace DL
open PySem PySem.Spec PyProof.Rows L2
def FinA (G : Gc) (W : Wsh) (B Z H : Hp) (σ : L2.St) (env : DEnv) (P : Addr → Prop) (i : Nat) (o : Out (D × DEnv)) (En : Ends) : Prop := match o with
  | .ok (d, e) => ∀ v Z' H' Fs' F, Post G B Z H σ env P Z' H' e Fs' [d] [v] F → En.nx (σ.set i (some v)) H'
  | .exc c => ∀ H', Same B H' → W c σ H'
  | .bad => False
def tA (G : Gc) (W : Wsh) (i : Nat) (fe : DEnv → Out (D × DEnv)) : TS := fun En σ H => ∃ B Z Fs env, Good G B Z H σ env Fs ∧ FinA G W B Z H σ env (InF Fs) i (fe env) En
section
variable {K : PySem.W.Frag} {cl : Str → Option Addr} {bo : Hp} {W : Wsh} {X : Cx} {B Z H : Hp} {σ : L2.St} {env : DEnv} {Fs : Nat → List Addr} {ks : List Nat} {G : Gc}
end
end DL
namespace DL
open PySem PySem.Spec PyProof.Rows L2
section
variable {X : Cx} {G : Gc}
end
end DL
namespace DL
open PySem PySem.Spec PyProof.Rows L2
section
variable {X : Cx} {G : Gc}
end
end DL
namespace DL
open PySem PySem.Spec PyProof.Rows L2
section
variable {X : Cx} {G : Gc}
end
end DL
namespace DL
open PySem PySem.Spec PyProof.Rows L2
def distN {α : Type} [DecidableEq α] : List α → Nat
  | [] => 0
  | a :: l => if a ∈ l then distN l else distN l + 1
theorem dist_len {α : Type} [DecidableEq α] : ∀ (l L : List α), L.Nodup → (∀ x, x ∈ L ↔ x ∈ l) → L.length = distN l
  | [], L, _, h => by
    cases L with
    | nil => rfl
    | cons a L => exact absurd ((h a).mp List.mem_cons_self) (by simp)
  | a :: l, L, hn, h => by
    unfold distN
    by_cases ha : a ∈ l
    · rw [if_pos ha]
      refine dist_len l L hn fun x => ?_
      rw [h x, List.mem_cons]
      exact ⟨fun e => e.elim (fun e => by rw [e]; exact ha) id, .inr⟩
    · rw [if_neg ha]
      have hm : a ∈ L := (h a).mpr List.mem_cons_self
      have he := dist_len l (L.erase a) (hn.erase a) fun x => by
        rw [hn.mem_erase_iff, h x, List.mem_cons]
        constructor
        · rintro ⟨h1, h2 | h2⟩
          · exact absurd h2 h1
          · exact h2
        · exact fun h2 => ⟨fun e => ha (by rw [← e]; exact h2), .inr h2⟩
      rw [← he, List.length_erase_of_mem hm]
      have := List.length_pos_of_mem hm
      omega
theorem dist_nodup {α : Type} [DecidableEq α] {l : List α} (h : l.Nodup) : distN l = l.length := (dist_len l l h fun _ => Iff.rfl).symm
theorem dist_le {α : Type} [DecidableEq α] : ∀ l : List α, distN l ≤ l.length
  | [] => Nat.le_refl _
  | a :: l => by
    unfold distN
    have := dist_le l
    rw [List.length_cons]
    split <;> omega
theorem stepd_nodup {σ : List Int} {k : Int} (h : σ.Nodup) : (step_dedup σ k).Nodup := by
  unfold step_dedup
  split
  · exact h
  · rename_i hn
    rw [List.nodup_append]
    refine ⟨h, by simp, fun a ha b hb e => hn ?_⟩
    rw [List.mem_singleton.mp hb] at e
    exact List.any_eq_true.mpr ⟨a, ha, beq_iff_eq.mpr e⟩
theorem firstMet_nd (val : Nat → Int) : ∀ i, (firstMet val i).Nodup
  | 0 => List.nodup_nil
  | i + 1 => by rw [firstMet_succ]; exact stepd_nodup (firstMet_nd val i)
theorem firstMet_mem (val : Nat → Int) (i : Nat) (x : Int) : x ∈ firstMet val i ↔ x ∈ (List.range i).map val := by
  have h := firstMet_any val i x
  constructor
  · intro hx
    have : (firstMet val i).any (· == x) = true := List.any_eq_true.mpr ⟨x, hx, beq_iff_eq.mpr rfl⟩
    rw [h] at this
    obtain ⟨y, hy, e⟩ := List.any_eq_true.mp this
    rw [← beq_iff_eq.mp e]; exact hy
  · intro hx
    have : ((List.range i).map val).any (· == x) = true := List.any_eq_true.mpr ⟨x, hx, beq_iff_eq.mpr rfl⟩
    rw [← h] at this
    obtain ⟨y, hy, e⟩ := List.any_eq_true.mp this
    rw [← beq_iff_eq.mp e]; exact hy
theorem firstMet_dist (ns : List Int) : (firstMet (fun i => ns.getD i 0) ns.length).length = distN ns := by
  refine dist_len ns _ (firstMet_nd _ _) fun x => ?_
  rw [firstMet_mem]
  have : (List.range ns.length).map (fun i => ns.getD i 0) = ns := by
    apply List.ext_getElem
    · simp
    · intro i h1 h2
      simp [List.getD_eq_getElem?_getD, h2]
  rw [this]
def D.tups : List D → Option (List (List Int))
  | [] => some []
  | .tupF _ ds :: r => match D.ints ds, D.tups r with
    | some i, some is => some (i :: is)
    | _, _ => none
  | _ :: _ => none
def fDist : D → Option D
  | .lst ds => if ds.length < 64 then (match D.ints ds with
    | some ns => some (.int (distN ns : Nat))
    | none => (D.tups ds).map fun ks => .int (distN ks : Nat)) else none
  | _ => none
abbrev gDist := una fDist
theorem tups_map : ∀ (ks : List (List Int)), D.tups (ks.map fun k => .tup (k.map .int)) = some ks
  | [] => rfl
  | k :: ks => by
    rw [List.map_cons]
    unfold D.tups
    rw [ints_map, tups_map ks]
theorem tups_own {G : Gc} {Z H : Hp} : ∀ {ds : List D} {ks : List (List Int)} {vs : List V} {F : List Addr}, D.tups ds = some ks → OwnL G Z H ds vs F → ∃ ps : List (Addr × List Int), vs = ps.map (fun p => V.ref p.1) ∧ (∀ p ∈ ps, SqT G.K H p.1 (p.2.map V.int)) ∧ ps.map (·.2) = ks
  | [], ks, vs, F, e, h => by
    cases (show some ([] : List (List Int)) = some ks from e)
    exact ⟨[], h.1, fun p hp => (by cases hp), rfl⟩
  | d :: r, ks, vs, F, e, h => by
    obtain ⟨v, rest, F1, F2, rfl, rfl, h1, h2⟩ := h
    cases d with
    | tupF f ds =>
      have e : (match D.ints ds, D.tups r with
        | some i, some is => some (i :: is)
        | _, _ => none) = some ks := e
      cases hi : D.ints ds with
      | none => rw [hi] at e; cases e
      | some i =>
        cases hr : D.tups r with
        | none => rw [hi, hr] at e; cases e
        | some is =>
          rw [hi, hr] at e
          cases e
          obtain ⟨a, us, rfl, ht, ho⟩ := h1
          obtain ⟨e1, _⟩ := ints_own hi ho
          obtain ⟨ps, q1, q2, q3⟩ := tups_own hr h2
          refine ⟨(a, i) :: ps, by rw [q1]; rfl, fun p hp => ?_, by rw [List.map_cons, q3]⟩
          rcases List.mem_cons.mp hp with hp | hp
          · rw [hp]
            rw [← e1]
            exact ht.seq
          · exact q2 p hp
    | _ => cases e
def rLenSet (K : PySem.W.Frag) : List V → Hp → VK → Prop := l1 fun x H Q => ∃ l : Addr, x = V.ref l ∧ ((∃ ns : List Int, SqL K H l (ns.map V.int) ∧ ns.length < 64 ∧ Q (.int (distN ns : Nat)) H) ∨
  ∃ ks : List (Addr × List Int), SqL K H l (ks.map fun p => V.ref p.1) ∧ (∀ p ∈ ks, SqT K H p.1 (p.2.map V.int)) ∧ ks.length < 64 ∧ Q (.int (distN (ks.map (·.2)) : Nat)) H)
section
variable {X : Cx} {G : Gc}
theorem pe_lenSetQ {a : Expr} {ta : TE} {p p2 q pos : Pos} (hc : X.calm = true) (hu : X.A.units + 64 < cLine) (hg : Gl X "len") (hm : X.mg "len" = none) (hg2 : Gl X "set") (hm2 : X.mg "set" = none) (ha : PE X a ta)
    (na : starEach [a] X.env = (false, eval a X.env) :: starEach [] X.env := by rfl) : PE X (.Call (.Name "len" p) [.Call (.Name "set" p2) [a] [] q] [] pos) (fun σ H Q => ta σ H fun x H1 => rLenSet X.K [x] H1 Q) := by
  refine ⟨fun pins s σ H Q I h => ?_⟩
  refine Call_ (ld_blt I hg hm PySem.boot_len ?_)
  refine PyProof.Rows.callWith_builtin1 (PyProof.Rows.args_cons ?_ rfl) rfl rfl
  refine Call_ (ld_blt I hg2 hm2 PyProof.Rows.boot_set ?_)
  refine PyProof.Rows.callWith_type1 (PyProof.Rows.args_cons (thn (ha.run pins s σ H _ I h) fun v s1 ⟨x, H1, I1, r1, q1⟩ => PyProof.Rows.args_nil ?_) na) na rfl
  obtain ⟨l, rfl, ⟨ns, hq, h1, q1⟩ | ⟨ks, hq, hk, h1, q1⟩⟩ := q1
  · cases r1
    obtain ⟨its, r, pl, hz⟩ := I1.list hq
    have hl : its.toArray.size = ns.length := by rw [List.size_toArray, ← r.length, List.length_map]
    refine call_set_list (I1.ok.hd hc) pl.isList (ns := ns) (by simpa using r.ints) (by unfold scanBound; omega) fun h' tk hS hk => ?_
    rw [hl, firstMet_dist] at hS
    refine PyProof.Rows.args_nil ?_
    obtain ⟨o, es, ep, t, ho, hex, hd, _, _, _, hf, hn⟩ := hS
    have hdl := dist_le ns
    have I2 : Inv X pins σ H1 { s1 with heap := h', toks := tk } := I1.kept fun b o e => hk b o (Heap.lt_size e) e
    refine call_len_set ho hex hd hf (by rw [hn] <;> omega) ⟨.int (distN ns : Nat), H1, I2.tok _, ⟨_, by rw [hn]⟩, q1⟩
  · cases r1
    obtain ⟨its, r, pl, hz⟩ := I1.list hq
    refine call_set_tups (P := X.prog) (w := X.w) ks (I1.ok.hd hc) pl.isList (by simpa using refs_of_vals r) (fun p hp => I1.isT (hk p hp)) h1 (by omega) fun h' tk L es ep t R g k => ?_
    refine PyProof.Rows.args_nil ?_
    have I2 : Inv X pins σ H1 { s1 with heap := h', toks := tk } := I1.kept fun b o e => k b o e
    obtain ⟨o, ho, hex, hd⟩ := R.ob
    have hsz : es.size = L.length := SetTR.size (s := { s1 with heap := h', toks := tk }) R
    have hf : t.fits es.size = true := SetTR.fits (s := { s1 with heap := h', toks := tk }) R
    have hL : L.length = distN (ks.map (·.2)) := by
      have := dist_len (ks.map (·.2)) (L.map (·.2)) R.nd fun x => ⟨fun hx => ?_, fun hx => ?_⟩
      · rw [List.length_map] at this; exact this
      · obtain ⟨p, hp, rfl⟩ := List.mem_map.mp hx
        exact List.mem_map_of_mem (List.mem_of_mem_take (g.sub p hp))
      · obtain ⟨p, hp, rfl⟩ := List.mem_map.mp hx
        exact g.all p (by rw [List.take_length]; exact hp)
    have hfew := R.few
    refine call_len_set ho hex hd hf (by rw [hsz] <;> omega) ⟨.int (distN (ks.map (·.2)) : Nat), H1, I2.tok _, ⟨_, by rw [hsz, hL]⟩, q1⟩
theorem rop_dist : ROp G (rLenSet G.K) gDist := by
  intro ds vs H Q d h e q
  obtain ⟨a, rfl, e⟩ := una_some e
  obtain ⟨x, rfl, h1⟩ := own1 h
  cases a with
  | lst xs =>
    have e : (if xs.length < 64 then (match D.ints xs with
      | some ns => some (.int (distN ns : Nat))
      | none => (D.tups xs).map fun ks => .int (distN ks : Nat)) else none) = some d := e
    by_cases hl : xs.length < 64
    · rw [if_pos hl] at e
      obtain ⟨p, ys, rfl, hs, o⟩ := h1.lstR
      refine ⟨p, rfl, ?_⟩
      cases hi : D.ints xs with
      | some ns =>
        rw [hi] at e
        cases e
        obtain ⟨e1, e2⟩ := ints_own hi o
        rw [e1] at hs
        rw [e2, List.length_map] at hl
        exact .inl ⟨ns, hs, hl, done0 q fun Z => ⟨rfl, rfl⟩⟩
      | none =>
        rw [hi] at e
        obtain ⟨ks, hk, rfl⟩ := map_some' e
        obtain ⟨ps, q1, q2, q3⟩ := tups_own hk o
        rw [q1] at hs
        have hpl : ps.length < 64 := by
          have h2 := OwnL.length o
          rw [q1, List.length_map] at h2
          omega
        refine .inr ⟨ps, hs, q2, hpl, ?_⟩
        rw [q3]
        exact done0 q fun Z => ⟨rfl, rfl⟩
    · rw [if_neg hl] at e; cases e
  | _ => cases e
variable {W : Wsh} {e : Expr} {p p2 pos : Pos}
theorem e_dist {te : TE} {pos2 : Pos} (dx : DX X G) (c : Chn) (hg : Gl X "len") (hm : X.mg "len" = none) (hg2 : Gl X "set") (hm2 : X.mg "set" = none) (he : PE X e te) (hc : c.tes G W = [te] := by rfl) (hn : c.iofs.any id = false := by rfl)
    (hs : starEach [e] X.env = (false, eval e X.env) :: starEach [] X.env := by rfl) (hcl : X.calm = true := by rfl) :
    PE X (.Call (.Name "len" p) [.Call (.Name "set" p2) [e] [] pos2] [] pos) (TV G W (eOp c gDist)) :=
  (pe_lenSetQ hcl (hu_eq1 dx) hg hm hg2 hm2 he hs).imp fun σ H Q h => by
    have q := tv_op (r := rLenSet X.K) (by rw [dx.K]; exact rop_dist) hn σ H Q h
    rw [hc] at q
    exact q
end
@[simp] theorem z_dist {x : D} : gDist [x] = fDist x := rfl
theorem dist_tups {ks : List (List Int)} (h : ks.length < 64) : fDist (.lst (ks.map fun k => .tup (k.map .int))) = some (.int (distN ks : Nat)) := by
  show (if (ks.map fun k => D.tup (k.map .int)).length < 64 then _ else _) = _
  rw [if_pos (by rw [List.length_map]; exact h)]
  cases ks with
  | nil => rfl
  | cons k ks =>
    rw [tups_map]
    rfl
end DL
namespace DL
open PySem PySem.Spec PyProof.Rows L2
section
variable {X : Cx} {G : Gc} {W : Wsh}
end
end DL
namespace DL
open PySem PySem.Spec PySem.Calls PyProof.Rows L2
section
variable {prog : Program} {w : World} {A : Around} {E : Value → Shared → Prop} {s : Shared} {κ : PyProof.Rows.KeyKind}
end
section
variable {X : Cx} {G : Gc} {W : Wsh}
variable {e : Expr} {es : List Expr} {t : TA} {p pos : Pos}
end
end DL
namespace DL
open PySem PySem.Spec PyProof.Rows L2
section
variable {G : Gc} {W : Wsh} {X : Cx}
end
end DL
namespace DL
open PySem PySem.Spec PyProof.Rows L2
section
variable {X : Cx} {G : Gc} {W : Wsh}
variable {e : Expr} {t : TA} {hs : List SArg} {p p2 pos pos2 : Pos}
end
end DL
namespace DL
open PySem PySem.Spec PyProof.Rows L2
section
variable {X : Cx} {G : Gc} {W : Wsh}
end
end DL
namespace DL
open PySem PySem.Spec PyProof.Rows L2
section
variable {X : Cx} {CX : CXT} {k : Nat} {C f : Addr} {mc : Value} {fd : FuncData} {ps : List Str} {sp : Sp} {E : L2.St → XK} {m : Str} {pos apos : Pos} {o e : Expr} {es : List Expr} {t : TA}
end
section
variable {G : Gc} {W : Wsh} {X : Cx}
end
end DL
namespace DL
open PySem PySem.Spec PyProof.Rows L2
section
variable {G : Gc} {W : Wsh} {X : Cx} {B Z H H' : Hp} {σ : L2.St} {env : DEnv} {Fs : Nat → List Addr}
theorem Good.heap (g : Good G B Z H σ env Fs) (sb : Same B H') (k : ∀ b u i, H b = some u → (b ∈ Fs i ∨ Still u) → H' b = some u) : Good G B Z H' σ env Fs :=
  have sz : Same Z H' := fun b u e => by rw [g.z0] at e; cases e
  ⟨sb, sz, g.len, fun i => (g.sl i).keep g.sb g.sz sb sz (Same.refl Z) fun b u e m => k b u i e m, g.nd, g.dj, g.fr, g.z0, g.gb⟩
end
end DL
namespace DL
open PySem PySem.Spec PyProof.Rows L2
section
variable {G : Gc} {W : Wsh} {X : Cx} {B Z H : Hp} {σ : L2.St} {env : DEnv} {Fs : Nat → List Addr}
end
end DL
namespace DL
open PySem PySem.Spec PyProof.Rows L2
section
variable {G : Gc} {W : Wsh} {X : Cx}
end
end DL
namespace DL
open PySem PySem.Spec PyProof.Rows L2
section
variable {G : Gc} {W : Wsh} {X : Cx}
end
end DL
namespace DL
open PySem PySem.Spec PyProof.Rows L2
section
variable {G : Gc} {W : Wsh} {X : Cx}
end
end DL
namespace DL
open PySem PySem.Spec PyProof.Rows L2
section
variable {G : Gc} {W : Wsh} {X : Cx}
end
end DL
namespace DL
open PySem PySem.Spec PyProof.Rows L2
section
variable {X : Cx} {G : Gc}
end
end DL
namespace DL
open PySem PySem.Spec PyProof.Rows L2
section
variable {G : Gc} {W : Wsh} {X : Cx}
end
end DL
namespace DL
open PySem PySem.Spec PyProof.Rows L2
section
variable {K : PySem.W.Frag} {cl : Str → Option Addr} {bo : Hp} {W : Wsh} {X : Cx}
end
end DL
namespace DL
open PySem PySem.Spec PyProof.Rows L2
section
variable {G : Gc} {W : Wsh} {X : Cx}
end
end DL
namespace DL
open PySem PySem.Spec PyProof.Rows L2
section
variable {G : Gc} {W : Wsh} {X : Cx} {e : Expr} {es : List Expr} {t : TA} {p p2 pos : Pos}
end
end DL
namespace DL
open PySem PySem.Spec PyProof.Rows L2
section
variable {K : Type} [DecidableEq K]
end
section
variable {prog : Program} {w : World} {A : Around} {R : Result → Shared → Prop} {I : Addr} {fp wr : List Addr} {G : Array GenState → Array GenState → Prop} {n : Nat} {P : Nat → Value → Prop} {St : Nat → Shared → Prop}
end
section
variable {prog : Program} {w : World} {A : Around} {E : Value → Shared → Prop} {s : Shared}
end
section
variable {X : Cx} {G : Gc}
variable {W : Wsh} {e : Expr} {p p2 pos : Pos}
end
end DL
namespace DL
open PySem PySem.Spec PyProof.Rows L2
section
variable {X : Cx} {G : Gc} {W : Wsh}
variable {o e : Expr} {es : List Expr} {t : TA} {apos cpos : Pos} {h : DEnv → Option D} {i : Nat} {hs : List SArg}
end
end DL
namespace DL
open PySem PySem.Spec PyProof.Rows L2
section
variable {prog : Program} {w : World} {A : Around} {E : Value → Shared → Prop} {s : Shared} {z TI TO T i1 i2 i3 : Addr} {fp1 fp2 fp3 : List Addr} {n n1 n2 n3 i : Nat} {P1 P2 P3 : Nat → Value → Prop} {St1 St2 St3 : Nat → Heap → Prop}
variable {L b : Addr} {S0 : Shared} {acc : Array Value} {c : Nat}
variable {R : Result → Shared → Prop}
end
end DL
namespace DL
open PySem PySem.Spec PyProof.Rows L2
section
variable {prog : Program} {w : World} {A : Around} {E : Value → Shared → Prop} {s : Shared} {z TI TO i1 i2 i3 L b : Addr} {fp1 fp2 fp3 : List Addr} {n1 n2 n3 : Nat} {P1 P2 P3 : Nat → Value → Prop} {St1 St2 St3 : Nat → Heap → Prop} {R : Result → Shared → Prop}
end
section
variable {P : Program} {w : World} {H H' : Hp} {h h' : Heap} {fs ex : List Addr}
end
section
variable {X : Cx}
end
section
variable {G : Gc} {W : Wsh} {X : Cx}
end
end DL
namespace DL
open PySem PySem.Spec PyProof.Rows L2
section
variable {X : Cx} {pins : List (Addr × Obj)} {σ : L2.St} {H : Hp} {s : Shared}
end
section
variable {X : Cx} {x n : Str} {c : Value} {i : Nat} {body suite rest : List Stmt} {b₀ : Stmt} {np pos pos' : Pos} {tb : WX → TS} {ts tr : Addr → Value → Option Addr → TS} {Wout : WX}
end
end DL
namespace DL
open PySem PySem.Spec PyProof.Rows L2
section
variable {K : PySem.W.Frag} {cl : Str → Option Addr} {bo : Hp} {W : Wsh} {X : Cx}
end
end DL
namespace DL
open PySem PySem.Spec PyProof.Rows L2
section
variable {K : PySem.W.Frag} {cl : Str → Option Addr} {bo : Hp} {W : Wsh} {X : Cx}
theorem DXW.kp {a : Addr} {pn : List (Addr × Obj)} (dw : DXW X ⟨K, cl, bo⟩ W) : DXW (X.tr pn X.xe) ⟨K, clE cl a, bo⟩ (fun _ _ _ => False) :=
  ⟨⟨dw.dx.K, dw.dx.nd, dw.dx.un⟩, fun c σ H h => h.elim, fun u s' ⟨_, _, _, _, _, _, _, _, _, _, _, _, _, _, _, _, h⟩ => by
    obtain ⟨_, c, C, _, _, h⟩ := h
    exact h.elim⟩
end
end DL
namespace DL
open PySem PySem.Spec PyProof.Rows L2
section
variable {G : Gc} {W : Wsh} {X : Cx}
end
end DL
namespace DL
open PySem PySem.Spec PyProof.Rows L2
section
variable {X : Cx} {G : Gc} {W : Wsh}
end
end DL
namespace DL
open PySem PySem.Spec PyProof.Rows L2
section
variable {X : Cx} {G : Gc} {W : Wsh} {e hi : Expr} {pos p2 : Pos} {r : RS} {f : D → Option Int → Option Int → Option D} {te th : TE}
end
end DL
namespace DL
open PySem PySem.Spec PyProof.Rows L2
section
variable {G : Gc}
end
end DL
namespace DL
open PySem PySem.Spec PySem.Calls PyProof.Rows L2
section
variable {X : Cx} {G : Gc} {W : Wsh}
variable {e : Expr} {es : List Expr} {t : TA} {p pos : Pos}
end
end DL
namespace DL
open PySem PySem.Spec PyProof.Rows L2
section
variable {K : PySem.W.Frag} {cl : Str → Option Addr} {bo : Hp}
end
end DL
namespace DL
open PySem PySem.Spec PyProof.Rows L2
section
variable {G : Gc} {W : Wsh} {X : Cx}
end
end DL
namespace DL
open PySem PySem.Spec PyProof.Rows L2
section
variable {P : Program} {w : World} {A : Around} {E : Value → Shared → Prop} {s : Shared}
/-- a tuple of numbers and texts stands at b -/
abbrev MixT (P : Program) (w : World) (h : Heap) (ks : List Key) (b : Addr) : Prop := IsTupleKey (mixKind P w) h ks b
abbrev mHash (P : Program) (w : World) (ks : List Key) : Int := tupleKeyHash (mixKind P w) ks
def leafV : Value → Prop
  | .int _ _ => True
  | .str _ _ => True
  | _ => False
theorem mix_leaf : ∀ {ks : List Key} {vs : List Value}, ItemsAre (mixKind P w) ks vs → ∀ u ∈ vs, leafV u := fun h => by
  induction h with
  | nil => intro u hu; cases hu
  | cons h1 _ ih =>
    intro u hu
    rcases List.mem_cons.mp hu with rfl | hu
    · rcases keyIs_shape h1 with ⟨i, t, _, rfl⟩ | ⟨x, t, _, rfl⟩ <;> trivial
    · exact ih u hu
theorem leaf_cls (n : Nat) : ∀ {u : Value}, leafV u → ofAClassStatement n u = pure false
  | .int _ _, _ => by cases n <;> rfl
  | .str _ _, _ => by cases n <;> rfl
theorem leaf_hv (n : Nat) : ∀ {u : Value}, leafV u → ∃ b, hashByValue n u = pure b
  | .int _ _, _ => ⟨true, by cases n <;> rfl⟩
  | .str _ _, _ => ⟨false, by cases n <;> rfl⟩
theorem mix_cls {ks : List Key} {b : Addr} {Q : Bool → Shared → Prop} (hk : MixT P w s.heap ks b) (h : Q false s) : wpAny (model P w) A (ofAClassStatement 8 (.ref b)) Q E s := by
  have ty := hk.typeIs
  obtain ⟨ob, its, cap, h1, _, h2, h3⟩ := hk
  unfold ofAClassStatement
  refine wpAny_bind (wpAny_typeOf ty ?_)
  have tt : (("tuple" : String) == "tuple") = true := by decide
  simp only [tt, if_true, Bool.not_true, Bool.false_eq_true, if_false]
  try refine wpAny_bind (wpAny_pure ?_)
  try simp only [Bool.not_true, Bool.false_eq_true, if_false]
  refine wpAny_bind (wpAny_seqItems h1 h2 ?_)
  refine wpAny_bind ?_
  show wpAny _ _ (forIn its _ _) _ _ s
  rw [← Array.forIn_toList]
  refine wpAny_forIn_list _ (fun l z s2 => (z.1 = none ∧ s2 = s) ∧ ∀ u ∈ l, leafV u) _ (fun u l z s2 hz => ?_) (fun z s2 hz => ?_) _ _ ⟨⟨rfl, rfl⟩, mix_leaf h3⟩
  · obtain ⟨⟨z1, rfl⟩, z2⟩ := hz
    rw [leaf_cls _ (z2 u List.mem_cons_self)]
    refine wpAny_bind (wpAny_pure ?_)
    simp only [Bool.false_eq_true, if_false]
    exact wpAny_pure ⟨⟨rfl, rfl⟩, fun y hy => z2 y (List.mem_cons_of_mem _ hy)⟩
  · obtain ⟨z1, z3⟩ := z
    obtain ⟨⟨e, rfl⟩, _⟩ := hz
    dsimp only at e
    subst e
    exact wpAny_pure h
/-- whether its hash is by value is told one way or the other -/
theorem mix_hv {ks : List Key} {b : Addr} {Q : Bool → Shared → Prop} (hk : MixT P w s.heap ks b) (h : ∀ c, Q c s) : wpAny (model P w) A (hashByValue 8 (.ref b)) Q E s := by
  have ty := hk.typeIs
  obtain ⟨ob, its, cap, h1, _, h2, h3⟩ := hk
  unfold hashByValue
  refine wpAny_bind (wpAny_specialOf ty F.slot_tuple_hash.lookup ?_)
  refine wpAny_bind (wpAny_seqItems h1 h2 ?_)
  refine wpAny_bind ?_
  show wpAny _ _ (forIn its _ _) _ _ s
  rw [← Array.forIn_toList]
  refine wpAny_forIn_list _ (fun l z s2 => ((z.1 = none ∨ ∃ c, z.1 = some c) ∧ s2 = s) ∧ ∀ u ∈ l, leafV u) _ (fun u l z s2 hz => ?_) (fun z s2 hz => ?_) _ _ ⟨⟨.inl rfl, rfl⟩, mix_leaf h3⟩
  · obtain ⟨⟨_, rfl⟩, z2⟩ := hz
    obtain ⟨c, hc⟩ := leaf_hv 7 (z2 u List.mem_cons_self)
    rw [hc]
    refine wpAny_bind (wpAny_pure ?_)
    cases c with
    | true =>
      simp only [Bool.not_true, Bool.false_eq_true, if_false]
      exact wpAny_pure ⟨⟨.inl rfl, rfl⟩, fun y hy => z2 y (List.mem_cons_of_mem _ hy)⟩
    | false =>
      simp only [Bool.not_false, if_true]
      exact wpAny_pure (wpAny_pure (h _))
  · obtain ⟨z1, z3⟩ := z
    obtain ⟨⟨e, rfl⟩, _⟩ := hz
    dsimp only at e
    rcases e with rfl | ⟨c, rfl⟩
    · exact wpAny_pure (h _)
    · exact wpAny_pure (h _)
/-- a look among such tuples shows nothing of the table -/
theorem mix_seen {ks : List Key} {b : Addr} {Q : Bool → Shared → Prop} (hk : MixT P w s.heap ks b) {ys : List Value} (hy : ∀ y ∈ ys, ∃ ks2 c, y = Value.ref c ∧ MixT P w s.heap ks2 c) (h : Q false s) : wpAny (model P w) A (searchCouldBeSeen (.ref b) ys) Q E s := by
  unfold searchCouldBeSeen
  refine wpAny_bind ?_
  refine wpAny_forIn_list _ (fun l z s2 => (z.1 = none ∧ s2 = s) ∧ ∀ y ∈ l, ∃ ks2 c, y = Value.ref c ∧ MixT P w s.heap ks2 c) _ (fun u l z s2 hz => ?_) (fun z s2 hz => ?_) _ _ ⟨⟨rfl, rfl⟩, hy⟩
  · obtain ⟨⟨z1, rfl⟩, z2⟩ := hz
    obtain ⟨ks2, c, rfl, hc⟩ := z2 u List.mem_cons_self
    have more := fun y hy => z2 y (List.mem_cons_of_mem _ hy)
    dsimp only
    by_cases same : (b == c || (carriedByValue (.ref b) && carriedByValue (.ref c))) = true
    · exact wp_if_pos same (wpAny_pure ⟨⟨rfl, rfl⟩, more⟩)
    · refine wp_if_neg same (wpAny_bind (wpAny_eqIsQuiet_tuple hk ?_))
      simp only [Bool.not_true, Bool.false_eq_true, if_false]
      refine wpAny_bind (wpAny_eqIsQuiet_tuple hc ?_)
      simp only [Bool.not_true, Bool.false_eq_true, if_false]
      refine wpAny_bind (mix_cls hk ?_)
      simp only [Bool.false_eq_true, if_false]
      refine wpAny_bind (mix_cls hc ?_)
      simp only [Bool.false_eq_true, if_false]
      exact wpAny_pure ⟨⟨rfl, rfl⟩, more⟩
  · obtain ⟨z1, z3⟩ := z
    obtain ⟨⟨e, rfl⟩, _⟩ := hz
    dsimp only at e
    subst e
    exact wpAny_pure h
end
end DL
namespace DL
open PySem PySem.Spec PyProof.Rows L2
def rowsM (P : Program) (w : World) (L : List (Addr × List Key)) : List (Int × Value) := L.map fun p => (mHash P w p.2, Value.ref p.1)
/-- the set at a holds the tuples L -/
structure MSet (P : Program) (w : World) (h : Heap) (a : Addr) (L : List (Addr × List Key)) (es : Array (Int × Value)) (ep : Nat) (t : SetTable) : Prop where
  ob : ∃ o, h.get? a = some o ∧ o.ExactSet ∧ o.data = .set es ep t
  rows : es.toList = rowsM P w L
  tab : TabOk t (L.map fun p => mHash P w p.2)
  nd : (L.map (·.2)).Nodup
  tup : ∀ p ∈ L, MixT P w h p.2 p.1
  room : L.length * 5 < t.mask * 3
  few : L.length < 64
section
variable {P : Program} {w : World} {A : Around} {E : Value → Shared → Prop} {s : Shared} {a : Addr} {L : List (Addr × List Key)} {es : Array (Int × Value)} {ep : Nat} {t : SetTable}
theorem rowsM_len (P : Program) (w : World) (L : List (Addr × List Key)) : (rowsM P w L).length = L.length := List.length_map ..
theorem MSet.size (R : MSet P w s.heap a L es ep t) : es.size = L.length := by
  rw [← Array.length_toList, R.rows, rowsM_len]
theorem MSet.place (R : MSet P w s.heap a L es ep t) : t.place.size = L.length := by
  have := R.tab.sz
  rwa [List.length_map] at this
theorem MSet.fits (R : MSet P w s.heap a L es ep t) : t.fits es.size = true := by
  have h1 := R.place
  have h2 := R.size
  have h3 := R.room
  unfold SetTable.fits SetTable.fill
  rw [R.tab.dm]
  simp
  omega
theorem MSet.at (R : MSet P w s.heap a L es ep t) {i : Nat} {p : Addr × List Key} (h : L[i]? = some p) : es[i]? = some (mHash P w p.2, Value.ref p.1) := by
  rw [← Array.getElem?_toList, R.rows]
  show (L.map _)[i]? = _
  rw [List.getElem?_map, h]; rfl
theorem MSet.hashAt (R : MSet P w s.heap a L es ep t) {i : Nat} {p : Addr × List Key} (h : L[i]? = some p) : (es[i]?.map (·.1)).getD 0 = mHash P w p.2 := by
  rw [R.at h]; rfl
theorem MSet.whole (R : MSet P w s.heap a L es ep t) : ¬ t.gaveWay = true := by
  unfold SetTable.gaveWay
  rw [mask_odd R.tab.mok]
  decide
/-- the c-th step of the way of a hash -/
abbrev Wy (t : SetTable) (H : Int) (c : Nat) : SetTable.Probe := nth t.mask (runAt t.mask (SetTable.bits H % (t.mask + 1)) (SetTable.bits H)) c
theorem adv_dm {m : Nat} {p : SetTable.Probe} (h : p.dummy = none) : (adv m p).dummy = none := by
  unfold adv
  split <;> exact h
theorem nth_dm (m : Nat) : ∀ (n : Nat) (p : SetTable.Probe), p.dummy = none → (nth m p n).dummy = none
  | 0, _, h => h
  | n + 1, p, h => nth_dm m n (adv m p) (adv_dm h)
theorem Wy_on (t : SetTable) (H : Int) (c q : Nat) : nth t.mask (Wy t H c) q = Wy t H (c + q) := (nth_add t.mask c _ q).symm
theorem mix_search (R : MSet P w s.heap a L es ep t) {x : Addr} {ks : List Key} (hx : MixT P w s.heap ks x) (hu : A.units < cLine) {K : Nat} (hK1 : K < 10 * SetTable.turns t.mask)
    (hK2 : way t.mask (mHash P w ks) K ∉ t.place.toList) (hK3 : ∀ c, c < K → way t.mask (mHash P w ks) c ∈ t.place.toList) {Q : SetFound → Shared → Prop}
    (yes : ks ∈ L.map (·.2) → Q (.there none) s) (no : ks ∉ L.map (·.2) → Q (.free (way t.mask (mHash P w ks) K) false) s) :
    ∀ (f c : Nat) (st : Option SetTable.Probe), st.getD (t.probeStart (mHash P w ks)) = Wy t (mHash P w ks) c → c ≤ K → K - c < f →
      (∀ (i : Nat) (p : Addr × List Key), L[i]? = some p → p.2 = ks → ∃ c2, c ≤ c2 ∧ c2 < K ∧ t.place.toList[i]? = some (way t.mask (mHash P w ks) c2)) →
      wpAny (model P w) A (setSearchFrom a (.ref x) (mHash P w ks) true f st) Q E s := by
  intro f
  induction f with
  | zero => intro c st _ _ h; omega
  | succ f ih =>
    intro c st e hc hf ahead
    obtain ⟨o, ho, _, hd⟩ := R.ob
    generalize hH : mHash P w ks = H at *
    have step : ∀ q, (nth t.mask (Wy t H c) q).j = way t.mask H (c + q) := fun q => by rw [Wy_on]
    have word := go_spec t R.tab.ris R.tab.dm (fun i => (es[i]?.map (·.1)).getD 0) H (10 * SetTable.turns t.mask) (K - c) (Wy t H c) (nth_dm _ _ _ rfl) (by omega)
      (fun q hq => by rw [step]; exact hK3 _ (by omega)) (by rw [step, Nat.add_sub_cancel' hc]; exact hK2)
    rw [setSearchFrom_succ]
    refine wpAny_bind (wpAny_setState_of ho hd R.fits ?_)
    dsimp only
    refine wp_if_neg R.whole ?_
    try refine wpAny_bind (wpAny_pure ?_)
    rcases word with ⟨q, i, hq, hi, heq, hno, hw⟩ | ⟨hno, hw⟩
    · rw [step] at hi
      have hw2 : t.probe (fun i => (es[i]?.map (·.1)).getD 0) H (st.getD (t.probeStart H)) = some (.candidate (way t.mask H (c + q)) i (Wy t H (c + (q + 1)))) := by
        rw [e, ← step, ← Wy_on]; exact hw
      rw [hw2]
      dsimp only
      have hiL : i < L.length := by
        have h1 := (List.getElem?_eq_some_iff.mp hi).1
        have h2 := R.place
        rw [Array.length_toList] at h1
        omega
      obtain ⟨p, hp⟩ : ∃ p, L[i]? = some p := ⟨_, List.getElem?_eq_getElem hiL⟩
      have hpL := List.mem_of_getElem? hp
      have hlive : t.slot (way t.mask H (c + q)) = .live i := slot_live R.tab.ris hi
      have rest : wpAny (model P w) A (searchRest a (.ref x) H true f es t (way t.mask H (c + q)) i (Wy t H (c + (q + 1)))) Q E s := by
        unfold searchRest
        rw [R.at hp]
        dsimp only
        refine wpAny_bind (wpAny_holding (wpAny_eqBool_tuple hu (R.tup p hpL) hx ?_))
        refine wpAny_bind (wpAny_setState_of ho hd R.fits ?_)
        dsimp only
        by_cases hks : p.2 = ks
        · exact wp_if_pos (by simp [hks]) (wpAny_pure (yes (List.mem_map.mpr ⟨p, hpL, hks⟩)))
        · refine wp_if_neg (by simp [hks]) ?_
          try refine wpAny_bind (wpAny_pure ?_)
          rw [sameMem]
          simp only [if_true, hlive, R.at hp]
          refine wpAny_bind (wpAny_isSame_ref_self (wpAny_bind (wpAny_pure ?_)))
          simp only [if_true]
          refine wp_if_neg (by simp [hks]) (ih (c + (q + 1)) _ rfl (by omega) (by omega) fun i2 p2 g1 g2 => ?_)
          obtain ⟨c2, k1, k2, k3⟩ := ahead i2 p2 g1 g2
          refine ⟨c2, ?_, k2, k3⟩
          have hh2 : (es[i2]?.map (·.1)).getD 0 = H := by rw [R.hashAt g1, g2, hH]
          by_cases lt : c2 < c + q
          · exact absurd hh2 (hno (c2 - c) i2 (by omega) (by rw [step, Nat.add_sub_cancel' k1]; exact k3))
          · by_cases same : c2 = c + q
            · rw [same] at k3
              have l2 := slot_live R.tab.ris k3
              rw [hlive] at l2
              cases l2
              rw [hp] at g1
              cases g1
              exact absurd g2 hks
            · omega
      by_cases led : t.led = true
      · refine wp_if_neg (by simp [led]) ?_
        try refine wpAny_bind (wpAny_pure ?_)
        exact rest
      · refine wp_if_pos (by simp [led]) (wpAny_bind (mix_seen hx (fun y hy => ?_) ?_))
        · obtain ⟨u, hu1, rfl⟩ := List.mem_map.mp hy
          have hu2 : u ∈ es.toList := by
            have : u ∈ es ∧ u.1 = H := by simpa using hu1
            simpa using this.1
          rw [R.rows] at hu2
          obtain ⟨p2, g1, rfl⟩ := List.mem_map.mp hu2
          exact ⟨p2.2, p2.1, rfl, R.tup p2 g1⟩
        · refine wp_if_neg (by decide) ?_
          try refine wpAny_bind (wpAny_pure ?_)
          exact rest
    · have hw2 : t.probe (fun i => (es[i]?.map (·.1)).getD 0) H (st.getD (t.probeStart H)) = some (.empty (way t.mask H K) none) := by
        have := step (K - c)
        rw [Nat.add_sub_cancel' hc] at this
        rw [e, ← this]; exact hw
      rw [hw2]
      dsimp only
      refine wpAny_pure (no fun hm => ?_)
      obtain ⟨p, g1, g2⟩ := List.mem_map.mp hm
      obtain ⟨i, hi⟩ := List.mem_iff_getElem?.mp g1
      obtain ⟨c2, k1, k2, k3⟩ := ahead i p hi g2
      exact hno (c2 - c) i (by omega) (by rw [step, Nat.add_sub_cancel' k1]; exact k3) (by rw [R.hashAt hi, g2, hH])
end
end DL
namespace DL
open PySem PySem.Spec PyProof.Rows L2
section
variable {P : Program} {w : World} {A : Around} {E : Value → Shared → Prop} {s : Shared} {a : Addr} {L : List (Addr × List Key)} {es : Array (Int × Value)} {ep : Nat} {t : SetTable}
theorem mix_find (R : MSet P w s.heap a L es ep t) {x : Addr} {ks : List Key} (hx : MixT P w s.heap ks x) (hu : A.units < cLine) {Q : SetFound → Shared → Prop} (yes : ks ∈ L.map (·.2) → Q (.there none) s)
    (no : ∀ K, ks ∉ L.map (·.2) → way t.mask (mHash P w ks) K ∉ t.place.toList → (∀ c, c < K → way t.mask (mHash P w ks) c ∈ t.place.toList) → Q (.free (way t.mask (mHash P w ks) K) false) s) :
    wpAny (model P w) A (setSearch a (.ref x) (mHash P w ks) true) Q E s := by
  have hr := R.room
  obtain ⟨K, k1, k2, k3⟩ := R.tab.first (by rw [List.length_map]; omega) (mHash P w ks)
  have few : K < 100000 := by
    have : 10 * SetTable.turns t.mask ≤ 1420 := by
      unfold SetTable.turns
      rcases R.tab.mok with e | e | e <;> omega
    omega
  unfold setSearch
  refine mix_search R hx hu k1 k2 k3 yes (fun hn => no K hn k2 k3) 100000 0 none rfl (Nat.zero_le _) (by omega) fun i p hp hk => ?_
  have h1 : (L.map fun p => mHash P w p.2)[i]? = some (mHash P w ks) := by rw [List.getElem?_map, hp, ← hk]; rfl
  have h2 : i < t.place.toList.length := by
    have g1 := (List.getElem?_eq_some_iff.mp hp).1
    have g2 := R.place
    rw [Array.length_toList]; omega
  have h3 := List.getElem?_eq_getElem h2
  obtain ⟨c, c1, c2⟩ := R.tab.before k2 h1 h3
  exact ⟨c, Nat.zero_le _, c1, by rw [h3, c2]⟩
theorem mix_same {h h' : Heap} {ks : List Key} {b : Addr} {o : Obj} (hb : MixT P w h ks b) (ho : h.get? a = some o) (hd : o.data = .set es ep t) (hs : Heap.SameBut a h h') : MixT P w h' ks b := by
  obtain ⟨o2, its, cap, g1, g2, g3, g4⟩ := hb
  refine ⟨o2, its, cap, (hs.2 b fun e => ?_).trans g1, g2, g3, g4⟩
  subst e
  rw [ho] at g1
  cases g1
  rw [hd] at g3
  cases g3
/-- the entries, in another order -/
theorem rows_order {L : List (Addr × List Key)} {es : Array (Int × Value)} {od : Array Nat} (hr : es.toList = rowsM P w L) (hp : od.toList.Perm (List.range L.length)) :
    ∃ M, (od.filterMap (es[·]?)).toList = rowsM P w M ∧ M.Perm L ∧ (M.map fun p => mHash P w p.2) = od.toList.map fun i => (es.map (·.1)).getD i 0 := by
  have hin : ∀ i ∈ od.toList, i < L.length := fun i hi => List.mem_range.mp (hp.mem_iff.mp hi)
  have hes : ∀ i, es[i]? = L[i]?.map (fun p : Addr × List Key => (mHash P w p.2, Value.ref p.1)) := fun i => by
    rw [← Array.getElem?_toList, hr]
    exact List.getElem?_map
  refine ⟨od.toList.filterMap (L[·]?), ?_, ?_, ?_⟩
  · rw [Array.toList_filterMap]
    unfold rowsM
    rw [List.map_filterMap]
    exact congrArg (fun f => List.filterMap f od.toList) (funext fun i => hes i)
  · refine (hp.filterMap _).trans ?_
    have all : ∀ n, n ≤ L.length → (List.range n).filterMap (L[·]?) = L.take n := fun n => by
      induction n with
      | zero => intro _; rfl
      | succ n ih =>
        intro hn
        rw [List.range_succ, List.filterMap_append, ih (by omega), List.take_succ]
        congr 1
    rw [all L.length (Nat.le_refl _), List.take_length]
  · generalize od.toList = l at hin
    induction l with
    | nil => rfl
    | cons i l ih =>
      have hi := hin i List.mem_cons_self
      rw [List.filterMap_cons_some (List.getElem?_eq_getElem hi), List.map_cons, List.map_cons, ih fun j hj => hin j (List.mem_cons_of_mem _ hj)]
      congr 1
      have := hes i
      rw [List.getElem?_eq_getElem hi] at this
      simp [Array.getD_eq_getD_getElem?, this]
end
end DL
namespace DL
open PySem PySem.Spec PyProof.Rows L2
section
variable {P : Program} {w : World} {A : Around} {E : Value → Shared → Prop} {s : Shared} {a : Addr} {L : List (Addr × List Key)} {es : Array (Int × Value)} {ep : Nat} {t : SetTable}
theorem mix_relay {o : Obj} (ho : s.heap.get? a = some o) (hex : o.ExactSet) (hd : o.data = .set es ep t) (hr : es.toList = rowsM P w L) (hp : t.place.size = es.size) (hm : t.dummies = #[]) (hle : es.size ≤ t.mask) (nd : (L.map (·.2)).Nodup) (tup : ∀ p ∈ L, MixT P w s.heap p.2 p.1) (few : L.length < 64)
    {want M : Nat} (h1 : SetTable.sizeAbove want - 1 = M) (h2 : MaskOk M) (h3 : SetTable.sizeAbove want ≤ 128) (h4 : L.length * 5 < M * 3) {Q : Unit → Shared → Prop}
    (hQ : ∀ h' L' es' ep' t', Heap.SameBut a s.heap h' → MSet P w h' a L' es' ep' t' → L'.Perm L → Q () { s with heap := h' }) : wpAny (model P w) A (setRelay a want) Q E s := by
  have hsz : es.size = L.length := by rw [← Array.length_toList, hr, rowsM_len]
  have fit : t.fits es.size = true := by
    unfold SetTable.fits SetTable.fill
    rw [hm]
    simp
    omega
  obtain ⟨t2, od, e1, e2, e3, e4, _, _, _⟩ := relaid_ok t (hs := es.map (·.1)) (wanted := want) h1 h2 (by rw [Array.size_map]; omega)
  rw [Array.size_map, hsz] at e2
  obtain ⟨N, n1, n2, n3⟩ := rows_order hr e2
  rw [← n3] at e3
  have sz2 : (od.filterMap (es[·]?)).size = es.size := by rw [← Array.length_toList, n1, rowsM_len, n2.length_eq, hsz]
  rw [setRelay_eq]
  refine wpAny_bind (wpAny_setState_of ho hd fit ?_)
  dsimp only
  refine wp_if_neg (by rw [sizeLine_eq]; omega) ?_
  try refine wpAny_bind (wpAny_pure ?_)
  rw [e1]
  refine wpAny_bind (wp_if_neg (by rw [sz2]; simp) ?_)
  try refine wpAny_bind (wpAny_pure ?_)
  refine wpAny_pure ?_
  dsimp only
  refine wpAny_storeSet_of ho hd ?_ (by rw [sz2, hsz, sizeLine_eq]; omega)
  have sb : Heap.SameBut a s.heap (s.heap.update a (Obj.putSet (od.filterMap (es[·]?)) t2)) := Heap.SameBut.update ..
  exact hQ _ N _ (ep + 1) t2 sb ⟨⟨_, store_at ho hd, ⟨hex.1, hex.2.1, hex.2.2⟩, rfl⟩, n1, e3, (n2.map (·.2)).nodup_iff.mpr nd, fun p hp => mix_same (tup p (n2.mem_iff.mp hp)) ho hd sb, by rw [n2.length_eq, e4]; exact h4, by rw [n2.length_eq]; exact few⟩ n2
end
end DL
namespace DL
open PySem PySem.Spec PyProof.Rows L2
section
variable {P : Program} {w : World} {A : Around} {E : Value → Shared → Prop} {s : Shared} {a : Addr} {L : List (Addr × List Key)} {es : Array (Int × Value)} {ep : Nat} {t : SetTable}
theorem TabOk.unplain {t : SetTable} {hs : List Int} (T : TabOk t hs) : TabOk { t with plain := false } hs := ⟨T.ris, T.dm, T.sz, T.mok, T.bd, T.reach⟩
theorem mix_add (R : MSet P w s.heap a L es ep t) {x : Addr} {ks : List Key} (hx : MixT P w s.heap ks x) (hu : A.units < cLine) (hfew : L.length + 1 < 64) {Q : Bool → Shared → Prop}
    (hQ : ∀ b h' L' es' ep' t', Heap.SameBut a s.heap h' → MSet P w h' a L' es' ep' t' → (ks ∈ L.map (·.2) → L' = L) → (ks ∉ L.map (·.2) → L'.Perm ((x, ks) :: L)) → Q b { s with heap := h' }) :
    wpAny (model P w) A (setAddHashed a (.ref x) (mHash P w ks)) Q E s := by
  obtain ⟨o, ho, hex, hd⟩ := R.ob
  have hroom := R.room
  unfold setAddHashed
  refine wpAny_holding ?_
  rw [show (100000 : Nat) = 99999 + 1 from rfl, setAddHashedIn_succ]
  refine wpAny_bind (wpAny_setState_of ho hd R.fits ?_)
  dsimp only
  refine wp_if_neg (by simp [byScan, Value.scannable]) ?_
  try refine wpAny_bind (wpAny_pure ?_)
  refine wpAny_bind (mix_find R hx hu (fun hin => ?_) fun K hout hK hb => ?_)
  · exact wpAny_pure (hQ false s.heap L es ep t (Heap.SameBut.refl a s.heap) R (fun _ => rfl) fun z => absurd hin z)
  · dsimp only
    refine wpAny_bind (wpAny_setState_of ho hd R.fits ?_)
    dsimp only
    obtain ⟨q1, q2, q3, q4, _, _, _, _, q9⟩ := R.tab.put hK hb
    rw [List.length_map] at q9
    generalize hpt : t.put (way t.mask (mHash P w ks) K) = pt at q1 q3 q4 q9 ⊢
    obtain ⟨t1, p⟩ := pt
    dsimp only at q1 q3 q4 q9 ⊢
    subst q1
    -- what comes behind the question whether the hash is by value
    have rest : ∀ t2 : SetTable, (t2 = t1 ∨ t2 = { t1 with plain := false }) → wpAny (model P w) A (do
        storeSet a (SetTable.insertAt es (SetTable.below t.place (way t.mask (mHash P w ks) K)) (mHash P w ks, Value.ref x)) t2
        if !false && t2.tooFull then setRelay a (SetTable.grown (es.size + 1))
        return true) Q E s := fun t2 ht2 => by
      have m2 : t2.mask = t.mask := by rcases ht2 with rfl | rfl <;> exact q4
      have f2 : t2.fill = L.length + 1 := by rcases ht2 with rfl | rfl <;> exact q9
      have T2 : TabOk t2 ((L.map fun p => mHash P w p.2).take (SetTable.below t.place (way t.mask (mHash P w ks) K)) ++ mHash P w ks :: (L.map fun p => mHash P w p.2).drop (SetTable.below t.place (way t.mask (mHash P w ks) K))) := by
        rcases ht2 with rfl | rfl
        · exact q3
        · exact TabOk.unplain q3
      generalize SetTable.below t.place (way t.mask (mHash P w ks) K) = b at T2 ⊢
      obtain ⟨M, hM⟩ : ∃ M, M = L.take b ++ (x, ks) :: L.drop b := ⟨_, rfl⟩
      have pm : M.Perm ((x, ks) :: L) := by rw [hM]; exact put_perm L b (x, ks)
      have hMl : M.length = L.length + 1 := pm.length_eq
      have rM : (SetTable.insertAt es b (mHash P w ks, Value.ref x)).toList = rowsM P w M := by
        rw [SetTable.toList_insertAt, R.rows, hM]
        unfold rowsM
        rw [List.map_append, List.map_cons, List.map_take, List.map_drop]
      have T3 : TabOk t2 (M.map fun p => mHash P w p.2) := by
        rw [hM, List.map_append, List.map_cons, List.map_take, List.map_drop]; exact T2
      have nM : (M.map (·.2)).Nodup := by
        refine (pm.map (·.2)).nodup_iff.mpr ?_
        rw [List.map_cons]
        exact List.nodup_cons.mpr ⟨hout, R.nd⟩
      have sM : (SetTable.insertAt es b (mHash P w ks, Value.ref x)).size = L.length + 1 := by rw [← Array.length_toList, rM, rowsM_len, hMl]
      generalize SetTable.insertAt es b (mHash P w ks, Value.ref x) = es1 at rM sM ⊢
      refine wpAny_bind (wpAny_storeSet_of ho hd ?_ (by rw [sM, sizeLine_eq]; omega))
      have sb : Heap.SameBut a s.heap (s.heap.update a (Obj.putSet es1 t2)) := Heap.SameBut.update ..
      have ho1 := store_at (es' := es1) (t' := t2) ho hd
      generalize s.heap.update a (Obj.putSet es1 t2) = h1 at sb ho1 ⊢
      have tM : ∀ p ∈ M, MixT P w h1 p.2 p.1 := fun p hp => by
        rcases List.mem_cons.mp (pm.mem_iff.mp hp) with rfl | hp
        · exact mix_same hx ho hd sb
        · exact mix_same (R.tup p hp) ho hd sb
      have pl : t2.place.size = es1.size := by
        have := T3.sz
        rw [List.length_map, hMl] at this
        rw [this, sM]
      have full : t2.tooFull = decide ((L.length + 1) * 5 ≥ t.mask * 3) := by
        unfold SetTable.tooFull
        rw [f2, m2]
      by_cases hf : t2.tooFull = true
      · have hf2 : (L.length + 1) * 5 ≥ t.mask * 3 := by rw [full] at hf; exact of_decide_eq_true hf
        have go : ∀ N, SetTable.sizeAbove (SetTable.grown (es.size + 1)) - 1 = N → MaskOk N → SetTable.sizeAbove (SetTable.grown (es.size + 1)) ≤ 128 → (L.length + 1) * 5 < N * 3 → wpAny (model P w) A (setRelay a (SetTable.grown (es.size + 1))) (fun _ s2 => wpAny (model P w) A (pure true) Q E s2) E { s with heap := h1 } := fun N n1 n2 n3 n4 =>
          mix_relay (s := { s with heap := h1 }) ho1 ⟨hex.1, hex.2.1, hex.2.2⟩ rfl rM pl T3.dm (by rw [sM, m2]; omega) nM tM (by rw [hMl]; exact hfew) n1 n2 n3 (by rw [hMl]; exact n4) fun h2 L2 es2 ep2 t3 sb2 R2 pm2 =>
            wpAny_pure (hQ true h2 L2 es2 ep2 t3 (sb.trans sb2) R2 (fun z => absurd z hout) fun _ => pm2.trans pm)
        have run : wpAny (model P w) A (setRelay a (SetTable.grown (es.size + 1))) (fun _ s2 => wpAny (model P w) A (pure true) Q E s2) E { s with heap := h1 } := by
          rw [R.size] at go ⊢
          rcases R.tab.mok with e | e | e
          · rw [e] at hf2 hroom
            have : L.length = 4 := by omega
            exact go 31 (by rw [this, size_20]) (.inr (.inl rfl)) (by rw [this, size_20]; decide) (by omega)
          · rw [e] at hf2 hroom
            have : L.length = 18 := by omega
            exact go 127 (by rw [this, size_76]) (.inr (.inr rfl)) (by rw [this, size_76]; decide) (by omega)
          · rw [e] at hf2
            omega
        first
          | exact wpAny_bind (wp_if_pos (by simp [hf]) run)
          | exact wp_if_pos (by simp [hf]) (wpAny_bind run)
      · have hf2 : (L.length + 1) * 5 < t.mask * 3 := by
          rw [full] at hf
          have := of_decide_eq_false (Bool.eq_false_iff.mpr hf)
          omega
        have last : Q true { s with heap := h1 } := hQ true h1 M es1 (ep + 1) t2 sb ⟨⟨_, ho1, ⟨hex.1, hex.2.1, hex.2.2⟩, rfl⟩, rM, T3, nM, tM, by rw [hMl, m2]; exact hf2, by rw [hMl]; exact hfew⟩ (fun z => absurd z hout) fun _ => pm
        first
          | exact wp_if_neg (by simp [hf]) (wpAny_pure last)
          | exact wpAny_bind (wp_if_neg (by simp [hf]) (wpAny_pure (wpAny_pure last)))
    by_cases hpl : t1.plain = true
    · first
        | (refine wpAny_bind ?_; refine wp_if_pos hpl (mix_hv hx fun c => ?_))
        | refine wp_if_pos hpl (wpAny_bind (mix_hv hx fun c => ?_))
      cases c with
      | true => exact rest t1 (.inl rfl)
      | false => exact rest _ (.inr rfl)
    · first
        | (refine wpAny_bind ?_; refine wp_if_neg hpl (wpAny_pure ?_))
        | refine wp_if_neg hpl (wpAny_bind (wpAny_pure ?_))
      exact rest t1 (.inl rfl)
end
end DL
namespace DL
open PySem PySem.Spec PyProof.Rows L2
section
variable {P : Program} {w : World}
theorem mix_keep {h h' : Heap} {ks : List Key} {b : Addr} (x : MixT P w h ks b) (hk : ∀ o, h.get? b = some o → h'.get? b = some o) : MixT P w h' ks b := by
  obtain ⟨o, its, cap, g1, g2, g3, g4⟩ := x
  exact ⟨o, its, cap, hk o g1, g2, g3, g4⟩
theorem MSet.keep {h h' : Heap} {a : Addr} {L : List (Addr × List Key)} {es : Array (Int × Value)} {ep : Nat} {t : SetTable} (R : MSet P w h a L es ep t) (ha : ∀ o, h.get? a = some o → h'.get? a = some o) (ht : ∀ p ∈ L, ∀ o, h.get? p.1 = some o → h'.get? p.1 = some o) : MSet P w h' a L es ep t := by
  obtain ⟨o, g1, g2, g3⟩ := R.ob
  exact ⟨⟨o, ha o g1, g2, g3⟩, R.rows, R.tab, R.nd, fun p hp => mix_keep (R.tup p hp) (ht p hp), R.room, R.few⟩
/-- what the set has of the first i -/
def Has (P : Program) (w : World) (h : Heap) (a : Addr) (xs : List (Addr × List Key)) (i : Nat) : Prop := ∃ L es ep t, MSet P w h a L es ep t ∧ (∀ p ∈ L, p ∈ xs.take i) ∧ ∀ p ∈ xs.take i, p.2 ∈ L.map (·.2)
theorem Has.len {h : Heap} {a : Addr} {xs : List (Addr × List Key)} (H : Has P w h a xs xs.length) : ∃ L es ep t, MSet P w h a L es ep t ∧ L.length = distN (xs.map (·.2)) := by
  obtain ⟨L, es, ep, t, R, h1, h2⟩ := H
  rw [List.take_length] at h1 h2
  refine ⟨L, es, ep, t, R, ?_⟩
  have := dist_len (xs.map (·.2)) (L.map (·.2)) R.nd fun k => ⟨fun hk => by
    obtain ⟨p, hp, rfl⟩ := List.mem_map.mp hk
    exact List.mem_map.mpr ⟨p, h1 p hp, rfl⟩, fun hk => by
    obtain ⟨p, hp, rfl⟩ := List.mem_map.mp hk
    exact h2 p hp⟩
  rwa [List.length_map] at this
end
section
variable {prog : Program} {w : World} {A : Around} {R : Result → Shared → Prop} {I : Addr} {fp wr : List Addr} {G : Array GenState → Array GenState → Prop} {n : Nat} {P : Nat → Value → Prop} {St : Nat → Shared → Prop}
theorem fillM (W : WalksS prog w A.in1 I fp wr G n P St) (S : Addr) (hSf : S ∉ fp) (xs : List (Addr × List Key)) (hsz : xs.length = n) (hb : n < 63) (hu : A.units + 64 < cLine)
    (hap : ∀ p ∈ xs, p.1 ∉ S :: wr) (hval : ∀ i v, P i v → ∃ p, xs[i]? = some p ∧ v = .ref p.1) :
    ∀ (k i : Nat) (s : Shared), n - i = k → i ≤ n → St i s → (∀ p ∈ xs, MixT prog w s.heap p.2 p.1) → Has prog w s.heap S xs i →
      (∀ s', Moved (S :: wr) G s s' → Has prog w s'.heap S xs n → R (.ok (.ret .none)) s') →
      codeAny (model prog w) A (.builtin "set.update.loop" ⟨[.ref S, .ref I], []⟩) R s := by
  have hSw : S ∉ wr := fun h => hSf (W.sub _ h)
  have hsub : ∀ b ∈ wr, b ∈ S :: wr := fun b hb => List.mem_cons_of_mem _ hb
  intro k
  induction k with
  | zero =>
    intro i s hk hi hst hT hS hR
    have hin : i = n := by omega
    subst hin
    refine codeAny_builtin PyProof.Rows.F.entry_set_update_loop ?_
    rw [Around.under_plainId PyProof.Rows.F.plain_set_update_loop _]
    show wpAny _ A.in1 (pyNext (.ref I) >>= _) _ _ s
    refine wpAny_bind (W.done s _ _ hst fun s' hm => wpAny_pure (hR s' (hm.mono hsub) ?_))
    obtain ⟨L, es, ep, t, M, h1, h2⟩ := hS
    exact ⟨L, es, ep, t, M.keep (fun o e => hm.heap S _ hSw e) (fun p hp o e => hm.heap _ _ (fun z => hap p (List.mem_of_mem_take (h1 p hp)) (hsub _ z)) e), h1, h2⟩
  | succ k ih =>
    intro i s hk hi hst hT hS hR
    have hlt : i < n := by omega
    refine codeAny_builtin PyProof.Rows.F.entry_set_update_loop ?_
    rw [Around.under_plainId PyProof.Rows.F.plain_set_update_loop _]
    show wpAny _ A.in1 (pyNext (.ref I) >>= _) _ _ s
    refine wpAny_bind (W.item i s _ _ hlt hst fun v s' hP hst' hm => ?_)
    obtain ⟨p, hp, rfl⟩ := hval i v hP
    have hpx := List.mem_of_getElem? hp
    have hT' : ∀ q ∈ xs, MixT prog w s'.heap q.2 q.1 := fun q hq => mix_keep (hT q hq) fun o e => hm.heap _ _ (fun z => hap q hq (hsub _ z)) e
    obtain ⟨L, es, ep, t, M0, h1, h2⟩ := hS
    have M : MSet prog w s'.heap S L es ep t := M0.keep (fun o e => hm.heap S _ hSw e) (fun q hq o e => hm.heap _ _ (fun z => hap q (List.mem_of_mem_take (h1 q hq)) (hsub _ z)) e)
    show wpAny _ A.in1 (holding [Value.ref p.1] (setAdd S (.ref p.1)) >>= _) _ _ s'
    refine wpAny_bind (wpAny_holding ?_)
    unfold setAdd
    refine wpAny_holding ?_
    have hLi : L.length ≤ i := by
      have := dist_len ((xs.take i).map (·.2)) (L.map (·.2)) M.nd fun k => ⟨fun hk => by
        obtain ⟨q, hq, rfl⟩ := List.mem_map.mp hk
        exact List.mem_map.mpr ⟨q, h1 q hq, rfl⟩, fun hk => by
        obtain ⟨q, hq, rfl⟩ := List.mem_map.mp hk
        exact h2 q hq⟩
      have h3 := dist_le ((xs.take i).map (·.2))
      rw [List.length_map] at this h3
      rw [List.length_take] at h3
      omega
    refine wpAny_bind (wpAny_pyHash_tuple (tupleKind_room_in1 (knd := mixKind prog w) (by omega)) (hT' p hpx) ?_)
    refine mix_add (s := { s' with toks := s'.toks + (p.2.length + 1) }) M (hT' p hpx) (tupleKind_room_in1 (knd := mixKind prog w) (by omega)) (by omega) fun b h' L' es' ep' t' sb M' e1 e2 => ?_
    have tk : xs.take (i + 1) = xs.take i ++ [p] := by rw [List.take_succ, hp]; rfl
    have hH : Has prog w h' S xs (i + 1) := by
      refine ⟨L', es', ep', t', M', ?_, ?_⟩
      · intro q hq
        rw [tk]
        by_cases hin : p.2 ∈ L.map (·.2)
        · rw [e1 hin] at hq; exact List.mem_append_left _ (h1 q hq)
        · rcases List.mem_cons.mp ((e2 hin).mem_iff.mp hq) with rfl | hq
          · exact List.mem_append_right _ (List.mem_singleton.mpr rfl)
          · exact List.mem_append_left _ (h1 q hq)
      · intro q hq
        rw [tk] at hq
        by_cases hin : p.2 ∈ L.map (·.2)
        · rw [e1 hin]
          rcases List.mem_append.mp hq with hq | hq
          · exact h2 q hq
          · rw [List.mem_singleton.mp hq]; exact hin
        · refine ((e2 hin).map (·.2)).mem_iff.mpr ?_
          rw [List.map_cons]
          rcases List.mem_append.mp hq with hq | hq
          · exact List.mem_cons_of_mem _ (h2 q hq)
          · rw [List.mem_singleton.mp hq]; exact List.mem_cons_self
    have stay : ∀ c, c ≠ S → ∀ o, s'.heap.get? c = some o → h'.get? c = some o := fun c hc o e => (sb.2 c hc).trans e
    refine wpAny_pure ⟨plainId_quiet PyProof.Rows.F.plain_set_update_loop _, ih (i + 1) _ (by omega) hlt (W.frame _ s' _ _ hst' (Nat.le_succ_of_le (Nat.le_add_right _ _)) fun c hc o e => stay c (fun z => hSf (z ▸ hc)) o e) (fun q hq => mix_keep (hT' q hq) (stay _ fun z => hap q hq (z ▸ List.mem_cons_self))) hH fun s'' hm'' hS'' => ?_⟩
    refine hR s'' (Moved.trans W.gtrans ((hm.mono hsub).then_heap (Nat.le_add_right _ _) fun c o hc e => ?_) hm'') hS''
    exact stay c (fun z => hc (z ▸ List.mem_cons_self)) o e
end
end DL
namespace DL
open PySem PySem.Spec PyProof.Rows L2
theorem fresh_tab (led : Bool) : TabOk (.fresh 0 0 led) [] where
  ris := by
    show Ris []
    constructor
  dm := rfl
  sz := rfl
  mok := .inl rfl
  bd := fun x hx => by cases hx
  reach := fun i h j hi _ => by simp at hi
section
variable {prog : Program} {w : World} {A : Around} {E : Value → Shared → Prop} {s : Shared}
set_option maxHeartbeats 3200000 in
theorem set_mix {l : Addr} {items : Array Value} {xs : List (Addr × List Key)} {Q : Value → Shared → Prop}
    (hh : A.handled = none) (hl : s.heap.IsList l items) (hi : items.toList = xs.map fun p => Value.ref p.1) (hX : ∀ p ∈ xs, MixT prog w s.heap p.2 p.1) (hb : xs.length < 63) (hu : A.units + 68 < cLine)
    (h : ∀ (h' : Heap) (tk : Nat), (∃ L es ep t, MSet prog w h' s.heap.objs.size L es ep t ∧ L.length = distN (xs.map (·.2))) →
      (∀ b o, b < s.heap.objs.size → s.heap.get? b = some o → h'.get? b = some o) → Q (.ref s.heap.objs.size) { s with heap := h', toks := tk }) :
    wpAny (model prog w) A (call (.type "set") [.ref l]) Q E s := by
  have hsz : xs.length = items.size := by rw [← Array.length_toList, hi, List.length_map]
  obtain ⟨c, tl, hmro⟩ := PySem.F.called_set.mro
  have hmade := PySem.F.called_set.made
  have hsub := PySem.F.called_set.sub
  refine wpAny_call (codeAny_of_tree ?_)
  show wpAny _ _ (callAny (.type "set") _) _ _ _
  refine wpAny_pure ⟨Code.quiet_builtin _ (by decide +kernel), codeAny_builtin PySem.F.entry_type_call ?_⟩
  rw [Around.under_plain (weight_type_call_type "set" [.ref l] []) rfl]
  have h1 := PySem.F.called_set.notType
  have h2 := PySem.F.called_set.canCreate
  have hct := PySem.F.typeCall_set_1 (.ref l)
  repeat (any_goals (first | assumption | wp_step))
  refine codeAny_mono (code_set_new_1 (.ref l) (E := E) (Q₁ := fun obj s₁ => ∃ led : Bool, obj = .ref s.heap.objs.size ∧ s₁ = { s with heap := s.heap.push { cls := .type "set", dict := none, data := .set #[] 0 (.fresh 0 0 led) } }) fun led => ⟨led, rfl, rfl⟩) fun r s₁ hr => ?_
  cases r with
  | error e => exact hr
  | ok fl =>
    cases fl with
    | ret obj =>
      obtain ⟨led, rfl, rfl⟩ := hr
      have hS : (s.heap.push { cls := .type "set", dict := none, data := .set #[] 0 (.fresh 0 0 led) }).get? s.heap.objs.size = some { cls := .type "set", dict := none, data := .set #[] 0 (.fresh 0 0 led) } := Heap.get?_push_size _ rfl
      have hT : Shared.TypeIs { s with heap := s.heap.push { cls := .type "set", dict := none, data := .set #[] 0 (.fresh 0 0 led) } } (.ref s.heap.objs.size) "set" := ⟨_, hS, rfl⟩
      have hli := PySem.F.called_set.init.lookup
      have hbi := PySem.F.called_set.init.bind (.ref s.heap.objs.size)
      repeat (any_goals (first | assumption | wp_step))
      refine codeAny_mono (codeAny_call_builtin (R := wants (fun r s₂ => r = .none ∧ ∃ h' tk, s₂ = { s with heap := h', toks := tk } ∧
          (∃ L es ep t, MSet prog w h' s.heap.objs.size L es ep t ∧ L.length = distN (xs.map (·.2))) ∧
          (∀ b o, b < s.heap.objs.size → s.heap.get? b = some o → h'.get? b = some o)) E) PySem.F.called_set.init.plain PySem.F.entry_set_init (check_set_init_1 hT ?_)) fun r₂ s₂ hr₂ => ?_
      · obtain ⟨ol, hol, hcl, nl, hdl⟩ := hl
        obtain ⟨ocls, odict, odata, oslots⟩ := ol
        simp only at hcl hdl
        subst hcl; subst hdl
        have hol' : (s.heap.push { cls := .type "set", dict := none, data := .set #[] 0 (.fresh 0 0 led) }).get? l = some { cls := .type "list", dict := odict, data := .seq items nl, slots := oslots } := Heap.get?_push_of_some _ hol
        have hsls := PySem.F.sub_list_set
        have hslf := PySem.F.sub_list_frozenset
        have hne : (Value.type "list" == Value.type "dict") = false := by decide
        have hl1 : (s.heap.push { cls := .type "set", dict := none, data := .set #[] 0 (.fresh 0 0 led) }).IsList l items := ⟨_, hol', rfl, nl, rfl⟩
        unfold Builtin.«set.__init__» noKeywords Builtin.Frozenset.updateFrom
        generalize hPI : pyIter = PI
        wp_walk
        subst hPI
        refine wpAny_pyIter_list hl1 ?_
        refine wpAny_bind (wpAny_runValue ?_)
        have hlS : l < s.heap.objs.size := Heap.lt_size hol
        have hh3 : A.in1.in1.in1.handled = none := by simp [hh]
        have hneI : l ≠ (s.heap.push { cls := .type "set", dict := none, data := .set #[] 0 (.fresh 0 0 led) }).objs.size := by
          rw [Heap.size_push]; exact Nat.ne_of_lt (Nat.lt_succ_of_lt hlS)
        have hSf : s.heap.objs.size ∉ [(s.heap.push { cls := .type "set", dict := none, data := .set #[] 0 (.fresh 0 0 led) }).objs.size, l] := by
          rw [Heap.size_push]; simp only [List.mem_cons, List.mem_singleton, List.not_mem_nil, or_false, not_or]
          exact ⟨Nat.ne_of_lt (Nat.lt_succ_self _), Nat.ne_of_gt hlS⟩
        have hval : ∀ (i : Nat) (v : Value), items[i]? = some v → ∃ p, xs[i]? = some p ∧ v = .ref p.1 := fun i v hv => by
          rw [← Array.getElem?_toList, hi, List.getElem?_map] at hv
          obtain ⟨p, hp, rfl⟩ := Option.map_eq_some_iff.mp hv
          exact ⟨p, hp, rfl⟩
        have hlt : ∀ p ∈ xs, p.1 < s.heap.objs.size := fun p hp => by
          obtain ⟨o, its, cap, g1, _⟩ := hX p hp
          exact Heap.lt_size g1
        refine fillM ((Walks.list hh3 _ l hneI items).toS) s.heap.objs.size
          hSf xs hsz (by rw [← hsz]; exact hb) (by show A.units + 1 + 1 + 64 < cLine; omega) (fun p hp z => ?hap) hval (items.size - 0) 0 _ (by omega) (Nat.zero_le _)
          ⟨⟨_, Heap.get?_push_size _ rfl, rfl, rfl⟩, (hl1.push _)⟩ (fun p hp => mix_keep (hX p hp) fun o e => Heap.get?_push_of_some _ (Heap.get?_push_of_some _ e)) ?hS0 ?hR
        case hap =>
          have h1 := hlt p hp
          have h2 : p.1 = s.heap.objs.size ∨ p.1 = (s.heap.push { cls := .type "set", dict := none, data := .set #[] 0 (.fresh 0 0 led) }).objs.size := by simpa using z
          rw [Heap.size_push] at h2
          rcases h2 with e | e
          · rw [e] at h1; exact Nat.lt_irrefl _ h1
          · rw [e] at h1; exact Nat.lt_irrefl _ (Nat.lt_trans (Nat.lt_succ_self _) h1)
        case hS0 =>
          have hget : ((s.heap.push { cls := .type "set", dict := none, data := .set #[] 0 (.fresh 0 0 led) }).push { cls := .type "list_iterator", data := .fields #[.ref l, .int 0 0] }).get? s.heap.objs.size
              = some { cls := .type "set", dict := none, data := .set #[] 0 (.fresh 0 0 led) } := Heap.get?_push_of_some _ hS
          exact ⟨[], #[], 0, .fresh 0 0 led, ⟨⟨_, hget, ⟨rfl, rfl, rfl⟩, rfl⟩, rfl, fresh_tab led, List.nodup_nil, fun p hp => (by cases hp), (by show 0 * 5 < 7 * 3; decide), by decide⟩, fun p hp => (by cases hp), fun p hp => (by simp at hp)⟩
        case hR =>
          intro s' hm hS'
          obtain ⟨h', g', d', tk', os'⟩ := s'
          have eg : g' = s.gens := hm.gens
          have ed : d' = s.drawn := hm.drawn
          have eo : os' = s.os := hm.os
          subst eg; subst ed; subst eo
          show wpAny _ _ _ _ _ _
          refine wpAny_pure ?_
          show wpAny _ _ (ret Value.none) _ _ _
          rw [← hsz] at hS'
          replace hS' := Has.len hS'
          refine wpAny_pure ⟨rfl, h', tk', rfl, hS', fun b o hb e => ?_⟩
          have hb1 : b ≠ s.heap.objs.size := Nat.ne_of_lt hb
          have hb2 : b ≠ (s.heap.push { cls := .type "set", dict := none, data := .set #[] 0 (.fresh 0 0 led) }).objs.size := by
            rw [Heap.size_push]; exact Nat.ne_of_lt (Nat.lt_succ_of_lt hb)
          exact hm.heap b o (by simp only [List.mem_cons, List.mem_singleton, List.not_mem_nil, or_false, not_or]; exact ⟨hb1, hb2⟩) (Heap.get?_push_of_some _ (Heap.get?_push_of_some _ e))
      · cases r₂ with
        | error e => exact hr₂
        | ok fl₂ =>
          cases fl₂ with
          | ret r =>
            obtain ⟨rfl, h', tk, rfl, hS', hk'⟩ := hr₂
            repeat (any_goals (first | assumption | wp_step))
            exact h _ _ hS' hk'
          | _ => exact hr₂.elim
    | _ => exact hr.elim
end
end DL
namespace DL
open PySem PySem.Spec PyProof.Rows L2
def rLenSetM (K : PySem.W.Frag) : List V → Hp → VK → Prop := l1 fun x H Q => ∃ (l : Addr) (xs : List (Addr × List Key)), x = V.ref l ∧ SqL K H l (xs.map fun p => V.ref p.1) ∧ (∀ p ∈ xs, SqT K H p.1 (p.2.map kV)) ∧ xs.length < 63 ∧ Q (.int (distN (xs.map (·.2)) : Nat)) H
section
variable {X : Cx} {G : Gc}
theorem mixT_inv {pins : List (Addr × Obj)} {σ : L2.St} {H : Hp} {s : Shared} {b : Addr} {ks : List Key} (I : Inv X pins σ H s) (h : SqT X.K H b (ks.map kV)) : MixT X.prog X.w s.heap ks b := by
  obtain ⟨its, r, ⟨o, ho, hc, n, hd⟩, _⟩ := I.tuple h
  exact ⟨o, its.toArray, n, ho, hc, hd, by simpa using items_are r⟩
theorem refs_are : ∀ {xs : List (Addr × List Key)} {us : List Value}, Vals (xs.map fun p => V.ref p.1) us → us = xs.map fun p => Value.ref p.1
  | [], _, .nil => rfl
  | p :: xs, _, .cons r t => by
    cases r
    rw [refs_are t]; rfl
theorem pe_lenSetM {a : Expr} {ta : TE} {p p2 q pos : Pos} (hc : X.calm = true) (hu : X.A.units + 70 < cLine) (hg : Gl X "len") (hm : X.mg "len" = none) (hg2 : Gl X "set") (hm2 : X.mg "set" = none) (ha : PE X a ta)
    (na : starEach [a] X.env = (false, eval a X.env) :: starEach [] X.env := by rfl) : PE X (.Call (.Name "len" p) [.Call (.Name "set" p2) [a] [] q] [] pos) (fun σ H Q => ta σ H fun x H1 => rLenSetM X.K [x] H1 Q) := by
  refine ⟨fun pins s σ H Q I h => ?_⟩
  refine Call_ (ld_blt I hg hm PySem.boot_len ?_)
  refine PyProof.Rows.callWith_builtin1 (PyProof.Rows.args_cons ?_ rfl) rfl rfl
  refine Call_ (ld_blt I hg2 hm2 PyProof.Rows.boot_set ?_)
  refine PyProof.Rows.callWith_type1 (PyProof.Rows.args_cons (thn (ha.run pins s σ H _ I h) fun v s1 ⟨x, H1, I1, r1, q1⟩ => PyProof.Rows.args_nil ?_) na) na rfl
  obtain ⟨l, xs, rfl, hq, hx, h1, q1⟩ := q1
  cases r1
  obtain ⟨its, r, pl, hz⟩ := I1.list hq
  refine set_mix (I1.ok.hd hc) pl.isList (xs := xs) (by simpa using refs_are r) (fun p hp => mixT_inv I1 (hx p hp)) (by omega) (by omega) fun h' tk hS hk => ?_
  refine PyProof.Rows.args_nil ?_
  obtain ⟨L, es, ep, t, M, hL⟩ := hS
  obtain ⟨o, ho, hex, hd⟩ := M.ob
  have hn : es.size = distN (xs.map (·.2)) := by rw [← hL, ← Array.length_toList, M.rows, rowsM_len]
  have hdl := dist_le (xs.map (·.2))
  rw [List.length_map] at hdl
  have I2 : Inv X pins σ H1 { s1 with heap := h', toks := tk } := I1.kept fun b o e => hk b o (Heap.lt_size e) e
  have hf : t.fits es.size = true := MSet.fits (s := { s1 with heap := h', toks := tk }) M
  refine call_len_set ho hex hd hf (by rw [hn] <;> omega) ⟨.int (distN (xs.map (·.2)) : Nat), H1, I2.tok _, ⟨_, by rw [hn]⟩, q1⟩
end
end DL
namespace DL
open PySem PySem.Spec PyProof.Rows L2
def D.leaf : D → Option Key
  | .int i => some (.inl i)
  | .str x => some (.inr x)
  | _ => none
def D.leafs : List D → Option (List Key)
  | [] => some []
  | d :: r => match D.leaf d, D.leafs r with
    | some k, some ks => some (k :: ks)
    | _, _ => none
def D.mixs : List D → Option (List (List Key))
  | [] => some []
  | .tupF _ ds :: r => match D.leafs ds, D.mixs r with
    | some k, some ks => some (k :: ks)
    | _, _ => none
  | _ :: _ => none
def fDistM : D → Option D
  | .lst ds => if ds.length < 63 then (D.mixs ds).map fun ks => .int (distN ks : Nat) else none
  | _ => none
abbrev gDistM := una fDistM
theorem leafs_own {G : Gc} {Z H : Hp} : ∀ {ds : List D} {ks : List Key} {vs : List V} {F : List Addr}, D.leafs ds = some ks → OwnL G Z H ds vs F → vs = ks.map kV
  | [], ks, vs, F, e, h => by
    cases (show some ([] : List Key) = some ks from e)
    exact h.1
  | d :: r, ks, vs, F, e, h => by
    obtain ⟨v, rest, F1, F2, rfl, rfl, h1, h2⟩ := h
    have e : (match D.leaf d, D.leafs r with
      | some k, some ks => some (k :: ks)
      | _, _ => none) = some ks := e
    cases hr : D.leafs r with
    | none => rw [hr] at e; cases hd : D.leaf d <;> rw [hd] at e <;> cases e
    | some ks2 =>
      cases d with
      | int i => rw [hr] at e; cases e; rw [leafs_own hr h2, h1.1]; rfl
      | str x => rw [hr] at e; cases e; rw [leafs_own hr h2, h1.1]; rfl
      | _ => cases e
theorem mixs_own {G : Gc} {Z H : Hp} : ∀ {ds : List D} {ks : List (List Key)} {vs : List V} {F : List Addr}, D.mixs ds = some ks → OwnL G Z H ds vs F → ∃ ps : List (Addr × List Key), vs = ps.map (fun p => V.ref p.1) ∧ (∀ p ∈ ps, SqT G.K H p.1 (p.2.map kV)) ∧ ps.map (·.2) = ks
  | [], ks, vs, F, e, h => by
    cases (show some ([] : List (List Key)) = some ks from e)
    exact ⟨[], h.1, fun p hp => (by cases hp), rfl⟩
  | d :: r, ks, vs, F, e, h => by
    obtain ⟨v, rest, F1, F2, rfl, rfl, h1, h2⟩ := h
    cases d with
    | tupF f ds =>
      have e : (match D.leafs ds, D.mixs r with
        | some i, some is => some (i :: is)
        | _, _ => none) = some ks := e
      cases hi : D.leafs ds with
      | none => rw [hi] at e; cases e
      | some i =>
        cases hr : D.mixs r with
        | none => rw [hi, hr] at e; cases e
        | some is =>
          rw [hi, hr] at e
          cases e
          obtain ⟨a, us, rfl, ht, ho⟩ := h1
          have e1 := leafs_own hi ho
          obtain ⟨ps, q1, q2, q3⟩ := mixs_own hr h2
          refine ⟨(a, i) :: ps, by rw [q1]; rfl, fun p hp => ?_, by rw [List.map_cons, q3]⟩
          rcases List.mem_cons.mp hp with hp | hp
          · rw [hp]
            rw [← e1]
            exact ht.seq
          · exact q2 p hp
    | _ => cases e
section
variable {X : Cx} {G : Gc}
theorem rop_distM : ROp G (rLenSetM G.K) gDistM := by
  intro ds vs H Q d h e q
  obtain ⟨a, rfl, e⟩ := una_some e
  obtain ⟨x, rfl, h1⟩ := own1 h
  cases a with
  | lst xs =>
    have e : (if xs.length < 63 then (D.mixs xs).map fun ks => D.int (distN ks : Nat) else none) = some d := e
    by_cases hl : xs.length < 63
    · rw [if_pos hl] at e
      obtain ⟨p, ys, rfl, hs, o⟩ := h1.lstR
      obtain ⟨ks, hk, rfl⟩ := map_some' e
      obtain ⟨ps, q1, q2, q3⟩ := mixs_own hk o
      rw [q1] at hs
      have hpl : ps.length < 63 := by
        have h2 := OwnL.length o
        rw [q1, List.length_map] at h2
        omega
      refine ⟨p, ps, rfl, hs, q2, hpl, ?_⟩
      rw [q3]
      exact done0 q fun Z => ⟨rfl, rfl⟩
    · rw [if_neg hl] at e; cases e
  | _ => cases e
variable {W : Wsh} {e : Expr} {p p2 pos : Pos}
theorem e_distM {te : TE} {pos2 : Pos} (dx : DX X G) (c : Chn) (hg : Gl X "len") (hm : X.mg "len" = none) (hg2 : Gl X "set") (hm2 : X.mg "set" = none) (he : PE X e te) (hc : c.tes G W = [te] := by rfl) (hn : c.iofs.any id = false := by rfl)
    (hs : starEach [e] X.env = (false, eval e X.env) :: starEach [] X.env := by rfl) (hcl : X.calm = true := by rfl) :
    PE X (.Call (.Name "len" p) [.Call (.Name "set" p2) [e] [] pos2] [] pos) (TV G W (eOp c gDistM)) :=
  (pe_lenSetM hcl dx.un hg hm hg2 hm2 he hs).imp fun σ H Q h => by
    have q := tv_op (r := rLenSetM X.K) (by rw [dx.K]; exact rop_distM) hn σ H Q h
    rw [hc] at q
    exact q
end
@[simp] theorem z_distM {x : D} : gDistM [x] = fDistM x := rfl
/-- rows of a number, a text and a number -/
theorem mixs_arcs : ∀ xs : List (Int × Str × Int), D.mixs (xs.map fun a => .tup [.int a.1, .str a.2.1, .int a.2.2]) = some (xs.map fun a => [.inl a.1, .inr a.2.1, .inl a.2.2])
  | [] => rfl
  | a :: xs => by
    rw [List.map_cons]
    show (match D.leafs [.int a.1, .str a.2.1, .int a.2.2], D.mixs (xs.map fun a => .tup [.int a.1, .str a.2.1, .int a.2.2]) with
        | some i, some is => some (i :: is)
        | _, _ => none) = _
    rw [mixs_arcs xs]; rfl
theorem distM_arcs {xs : List (Int × Str × Int)} (h : xs.length < 63) : fDistM (.lst (xs.map fun a => .tup [.int a.1, .str a.2.1, .int a.2.2])) = some (.int (distN (xs.map fun a => ([.inl a.1, .inr a.2.1, .inl a.2.2] : List Key)) : Nat)) := by
  show (if (xs.map fun a => D.tup [.int a.1, .str a.2.1, .int a.2.2]).length < 63 then _ else _) = _
  rw [if_pos (by rw [List.length_map]; exact h), mixs_arcs]; rfl
theorem distM_nodup {xs : List (Int × Str × Int)} (h : xs.Nodup) (hl : xs.length < 63) : fDistM (.lst (xs.map fun a => .tup [.int a.1, .str a.2.1, .int a.2.2])) = some (.int xs.length) := by
  rw [distM_arcs hl, dist_nodup, List.length_map]
  rw [List.nodup_iff_pairwise_ne] at h ⊢
  rw [List.pairwise_map]
  refine h.imp fun {a b} hab e => hab ?_
  obtain ⟨a1, a2, a3⟩ := a
  obtain ⟨b1, b2, b3⟩ := b
  simp only [List.cons.injEq, Sum.inl.injEq, Sum.inr.injEq, and_true] at e
  obtain ⟨rfl, rfl, rfl⟩ := e
  rfl
end DL
namespace DL
open PySem PySem.Spec PyProof.Rows L2
noncomputable section
/-- first_marking(net) -/
def b_first_marking : Stm := (sSeq (sRet (eOp (.own (lcE [.plc 0 (pIx (pVar 0) (hC (.int 1)))] mkSeq (bTup (bCons (bName 1) (bCons (bName 2) (bCons (bName 3) bNil)))) eYes (eP (hVar 1)) [1, 2, 3]) (.fin [])) gTupOf))
  sNop)
def fn_first_marking : Fn := runFn 4 [.b] b_first_marking

/-- can_go(net, marking, move) -/
def b_can_go : Stm := (sSeq (sSet 3 (eP (hOp [.put (hRd (pIx (pVar 0) (hC (.int 0)))) (tyD "tuple"), .pur (hVar 2)] gTIx)))
  (sSeq (sFor [.pur (hVar 1), .plc 0 (pIx (pVar 0) (hC (.int 1)))] mkZip (bTup (bCons (bName 4) (bCons (bName 5) bNil))) [4, 5] (sSeq (sIf (hB (hOp [.pur (hVar 4), .pur (hRd (pIx (pIx (pVar 5) (hC (.int 1))) (hVar 3)))] gLt)) (sSeq (sRet (eP (hC (.bl false))))
  sNop) sNop)
  sNop))
  (sSeq (sRet (eP (hC (.bl true))))
  sNop)))
def fn_can_go : Fn := runFn 6 [.b, .b, .b] b_can_go

/-- moved(net, marking, move) -/
def b_moved : Stm := (sSeq (sIfE (eNot (eB (eK (.fin [.plc 0 (pVar 0), .pur (hVar 1), .pur (hVar 2)]) (callK [.b, .b, .b] fn_can_go)))) (sSeq (sRet (eP (hC .non)))
  sNop) sNop)
  (sSeq (sSet 3 (eP (hOp [.put (hRd (pIx (pVar 0) (hC (.int 0)))) (tyD "tuple"), .pur (hVar 2)] gTIx)))
  (sSeq (sRet (eOp (.own (lcE [.pur (hVar 1), .plc 0 (pIx (pVar 0) (hC (.int 1)))] mkZip (bTup (bCons (bName 4) (bCons (bName 5) bNil))) eYes (eP (hOp [.pur (hOp [.pur (hVar 4), .pur (hRd (pIx (pIx (pVar 5) (hC (.int 1))) (hVar 3)))] gSub), .pur (hRd (pIx (pIx (pVar 5) (hC (.int 2))) (hVar 3)))] gAdd)) [4, 5]) (.fin [])) gTupOf))
  sNop)))
def fn_moved : Fn := runFn 6 [.b, .b, .b] b_moved

/-- Meeting.__init__(self, net) -/
def b_Meeting___init__ : Stm := (sSeq (sExpr (eK (.own (eP (hVar 1)) (.io 0 (.fin []))) (stK ["Meeting"] "net")))
  (sSeq (sExpr (eK (.own (eK (.own (eK (.fin [.plc 1 (pUn (pVar 1))]) (callK [.b] fn_first_marking)) (.fin [])) (dspK .lst)) (.io 0 (.fin []))) (stK ["Meeting"] "markings")))
  (sSeq (sExpr (eK (.own (eMk (eK (.fin [.plc 1 (pUn (pVar 1))]) (callK [.b] fn_first_marking)) fun d => (keysD d).map fun ks => .dt [ks] [(.int 0)]) (.io 0 (.fin []))) (stK ["Meeting"] "numbers")))
  (sSeq (sExpr (eK (.own (eK (.fin [.pur (hC .non)]) (dspK .lst)) (.io 0 (.fin []))) (stK ["Meeting"] "ahead")))
  (sSeq (sExpr (eK (.own (eK (.fin [.pur (hOp [] fTup)]) (dspK .lst)) (.io 0 (.fin []))) (stK ["Meeting"] "ways")))
  (sSeq (sExpr (eK (.own (eK (.fin []) (dspK .lst)) (.io 0 (.fin []))) (stK ["Meeting"] "arcs")))
  sNop))))))
def fn_Meeting___init__ : Fn := runFn 2 [.io, .b] b_Meeting___init__

/-- Meeting.number_of(self, marking, here, move) -/
def b_Meeting_number_of : Stm := (sSeq (sIf (hB (hOp [.pur (hVar 1), .plc 0 (pAt (pVar 0) ["Meeting"] "numbers")] gDNotIn)) (sSeq (sExpr (isF 0 ["Meeting"] "numbers" isDctD (eK (.own (eP (hOp [.plc 0 (pAt (pVar 0) ["Meeting"] "markings")] gLen)) (.io 0 (.fin [.pur (hVar 1)]))) (fobK "numbers" setDK))))
  (sSeq (sExpr (isF 0 ["Meeting"] "markings" isLstD (eK (.own (eP (hVar 1)) (.io 0 (.fin []))) (fobK "markings" appY))))
  (sSeq (sExpr (isF 0 ["Meeting"] "ahead" isLstD (eK (.own (eP (hVar 2)) (.io 0 (.fin []))) (fobK "ahead" appY))))
  (sSeq (sExpr (isF 0 ["Meeting"] "ways" isLstD (eK (.own (eP (hOp [.pur (hRd (pIx (pAt (pVar 0) ["Meeting"] "ways") (hVar 2))), .pur (hOp [.pur (hVar 3)] fTup)] gAdd)) (.io 0 (.fin []))) (fobK "ways" appY))))
  sNop)))) sNop)
  (sSeq (sRet (eP (hOp [.plc 0 (pAt (pVar 0) ["Meeting"] "numbers"), .pur (hVar 1)] gDGet)))
  sNop))
def fn_Meeting_number_of : Fn := runFn 4 [.io, .b, .b, .b] b_Meeting_number_of

/-- Meeting.meet(self, most) -/
def b_Meeting_meet : Stm := (sSeq (sSet 2 (eP (hC (.int 0))))
  (sSeq (sWhile (eBp (hB (hOp [.pur (hVar 2), .pur (hOp [.plc 0 (pAt (pVar 0) ["Meeting"] "markings")] gLen)] gLt))) (sSeq (sSeq (sFor [.pur (hRd (pIx (pUn (pAt (pVar 0) ["Meeting"] "net")) (hC (.int 0))))] mkSeq (bName 3) [3, 4] (sSeq (sSet 4 (eK (.fin [.plc 0 (pUn (pAt (pVar 0) ["Meeting"] "net")), .pur (hRd (pIx (pAt (pVar 0) ["Meeting"] "markings") (hVar 2))), .pur (hVar 3)]) (callK [.b, .b, .b] fn_moved)))
  (sSeq (sIf (hB (hOp [.pur (hVar 4), .pur (hC .non)] gNotN)) (sSeq (sExpr (isF 0 ["Meeting"] "arcs" isLstD (eK (.own (eK (.pur (hVar 2) (.pur (hVar 3) (.own (isO 0 "Meeting" "number_of" (eK (.io 0 (.fin [.pur (hVar 4), .pur (hVar 2), .pur (hVar 3)])) (callK [.io, .b, .b, .b] (noX fn_Meeting_number_of)))) (.fin [])))) (dspK .tup)) (.io 0 (.fin []))) (fobK "arcs" appY))))
  (sSeq (sIf (hB (hOp [.pur (hOp [.plc 0 (pAt (pVar 0) ["Meeting"] "markings")] gLen), .pur (hVar 1)] gEq)) (sSeq sRetN
  sNop) sNop)
  sNop)) sNop)
  sNop)))
  (sSeq (sAug 2 (bin (bI fun a b => some (.int (a + b)))) (eP (hC (.int 1))))
  sNop)) (sDrop [3, 4])))
  sNop))
def fn_Meeting_meet : Fn := runFn 5 [.io, .b] b_Meeting_meet

/-- run_of(net) -/
def b_run_of : Stm := (sScp (borP 0)
  (sSeq (sSet 1 (eK (.fin [.pur (hVar 0)]) (makeK "Meeting" fn_Meeting___init__)))
  (sScp (frzO 1)
  (sSeq (sExpr (isO 1 "Meeting" "meet" (eK (.io 1 (.fin [.pur (hOp [.pur (hC (.int 12)), .pur (hC (.int 1))] gAdd)])) (callK [.io, .b] (noX fn_Meeting_meet)))))
  (sSeq (sIf (hB (hOp [.pur (hOp [.plc 1 (pAt (pVar 1) ["Meeting"] "markings")] gLen), .pur (hC (.int 12))] gGt)) (sSeq (sRaise "TooGreat")
  sNop) sNop)
  (sSeq (sRet (eK (.own (eK (.pur (hRd (pIx (pUn (pVar 0)) (hC (.int 0)))) (.own (eOp (.fin [.plc 1 (pAt (pVar 1) ["Meeting"] "arcs")]) gSorted) (.fin []))) (dspK .tup)) (.own (eMovF 1 ["Meeting"] "markings") (.fin []))) (dspK .tup)))
  sNop))))))
def fn_run_of : Fn := runFn 2 [.b] b_run_of

/-- is_over(marking, other) -/
def b_is_over : Stm := (sSeq (sFor [.pur (hVar 0), .pur (hVar 1)] mkZip (bTup (bCons (bName 2) (bCons (bName 3) bNil))) [2, 3] (sSeq (sIf (hB (hOp [.pur (hVar 2), .pur (hVar 3)] gLt)) (sSeq (sRet (eP (hC (.bl false))))
  sNop) sNop)
  sNop))
  (sSeq (sRet (eP (hC (.bl true))))
  sNop))
def fn_is_over : Fn := runFn 4 [.b, .b] b_is_over

/-- growth_of(net) -/
def b_growth_of : Stm := (sScp (borP 0)
  (sSeq (sSet 1 (eK (.fin [.pur (hVar 0)]) (makeK "Meeting" fn_Meeting___init__)))
  (sScp (frzO 1)
  (sSeq (sExpr (isO 1 "Meeting" "meet" (eK (.io 1 (.fin [.pur (hOp [.pur (hC (.int 12)), .pur (hC (.int 1))] gAdd)])) (callK [.io, .b] (noX fn_Meeting_meet)))))
  (sSeq (sIf (hB (hOp [.pur (hOp [.plc 1 (pAt (pVar 1) ["Meeting"] "markings")] gLen), .pur (hC (.int 12))] gLe)) (sSeq (sRet (eP (hOp [.pur (hC (.str "ends")), .pur (hOp [.plc 1 (pAt (pVar 1) ["Meeting"] "markings")] gLen)] fTup)))
  sNop) sNop)
  (sSeq (sFor [.plc 1 (pAt (pVar 1) ["Meeting"] "markings")] mkEnum (bTup (bCons (bName 2) (bCons (bName 3) bNil))) [2, 3, 4, 5] (sSeq (sSet 4 (eP (hRd (pIx (pAt (pVar 1) ["Meeting"] "ahead") (hVar 2)))))
  (sSeq (sWhile (eBp (hB (hOp [.pur (hVar 4), .pur (hC .non)] gNotN))) (sSeq (sSeq (sIfE (eB (eK (.fin [.pur (hVar 3), .pur (hRd (pIx (pAt (pVar 1) ["Meeting"] "markings") (hVar 4)))]) (callK [.b, .b] fn_is_over))) (sSeq (sSet 5 (eP (hRd (pIx (pAt (pVar 1) ["Meeting"] "ways") (hVar 4)))))
  (sSeq (sRet (eP (hOp [.pur (hC (.str "grows")), .pur (hVar 5), .pur (hOp [.pur (hRd (pIx (pAt (pVar 1) ["Meeting"] "ways") (hVar 2))), .int (hOp [.pur (hVar 5)] gLen)] (slL fSlP))] fTup)))
  sNop)) sNop)
  (sSeq (sSet 4 (eP (hRd (pIx (pAt (pVar 1) ["Meeting"] "ahead") (hVar 4)))))
  sNop)) (sDrop [5])))
  sNop)))
  (sSeq (sRet (eP (hOp [.pur (hC (.str "beyond"))] fTup)))
  sNop)))))))
def fn_growth_of : Fn := runFn 6 [.b] b_growth_of

/-- _law_cell_at(_law_script, _law_k) -/
def b_law_cell_at : Stm := (sSeq (sIf (hB (hOp [.pur (hVar 1), .pur (hOp [.plc 0 (pVar 0)] gLen)] gLt)) (sSeq (sRet (eP (hOp [.plc 0 (pVar 0), .pur (hVar 1)] gIx)))
  sNop) sNop)
  (sSeq (sRet (eP (hC (.int 0))))
  sNop))
def fn_law_cell_at : Fn := runFn 2 [.b, .b] b_law_cell_at

/-- _law_mixed(_law_cell, _law_k) -/
def b_law_mixed : Stm := (sSeq (sSet 2 (eP (hOp [.pur (hOp [.pur (hVar 0), .pur (hC (.int 2147483647))] gMod), .pur (hOp [.pur (hC (.int 48271)), .pur (hOp [.pur (hVar 1), .pur (hC (.int 1))] gAdd)] gMul)] gAdd)))
  (sSeq (sSet 2 (eP (hOp [.pur (hOp [.pur (hOp [.pur (hVar 2), .pur (hVar 2)] gMul), .pur (hOp [.pur (hC (.int 69621)), .pur (hVar 1)] gMul)] gAdd), .pur (hC (.int 2147483647))] gMod)))
  (sSeq (sRet (eP (hOp [.pur (hOp [.pur (hOp [.pur (hOp [.pur (hVar 2), .pur (hVar 2)] gMul), .pur (hOp [.pur (hC (.int 16807)), .pur (hVar 1)] gMul)] gAdd), .pur (hC (.int 1))] gAdd), .pur (hC (.int 2147483647))] gMod)))
  sNop)))
def fn_law_mixed : Fn := runFn 3 [.b, .b] b_law_mixed

/-- _law_names(_law_cell) -/
def b_law_names : Stm := (sSeq (sSet 1 (eP (hC (.str "abcdefghijklmnopqrstuvwxyz"))))
  (sSeq (sSet 2 (lcE [.pur (hC (.int 8))] mkRange1 (bName 8) eYes (eOp (.own (eK (.fin [.pur (hVar 0), .pur (hVar 8)]) (callK [.b, .b] fn_law_mixed)) (.fin [.pur (hC (.int 26))])) gMod) [8]))
  (sSeq (sSet 3 (eP (hOp [.pur (hC (.int 1)), .pur (hOp [.pur (hVar 0), .pur (hC (.int 8))] gMod)] gAdd)))
  (sSeq (sSet 4 (eP (hOp [.pur (hOp [.pur (hVar 0), .pur (hC (.int 8))] gDiv), .pur (hVar 3)] gMod)))
  (sSeq (sSet 5 (eK (.fin []) (dspK .lst)))
  (sSeq (sFor [.pur (hC (.int 5))] mkRange1 (bName 6) [6, 7] (sSeq (sSet 7 (eOp (.fin [.plc 2 (pVar 2), .int (hVar 3)]) (slH fSlL)))
  (sSeq (sExpr (eK (.pur (hOp [.pur (hOp [.pur (hRd (pIx (pVar 7) (hVar 4))), .pur (hVar 6)] gAdd), .pur (hC (.int 26))] gMod) (.io 7 (.fin [.pur (hVar 4)]))) setK))
  (sSeq (sIf (hB (hOp [.pur (hOp [.pur (hOp [.pur (hVar 0), .pur (hC (.int 64))] gDiv), .pur (hC (.int 4))] gMod), .pur (hC (.int 1))] gEq)) (sSeq (sSet 7 (eOp (.fin [.plc 2 (pVar 2), .int (hOp [.pur (hVar 6), .pur (hC (.int 1))] gAdd)]) (slH fSlL)))
  sNop) sNop)
  (sSeq (sExpr (isL 5 (eK (.io 5 (.own (eOp (.own (lcE [.plc 7 (pVar 7)] mkSeq (bName 8) eYes (eP (hOp [.pur (hVar 1), .pur (hVar 8)] gIx)) [8]) (.fin [])) (gJoin "")) (.fin []))) appK)))
  sNop)))))
  (sSeq (sIf (hB (hOp [.pur (hC (.str "moves")), .plc 5 (pVar 5)] gIn)) (sSeq (sSet 5 (lcE [.plc 5 (pVar 5)] mkSeq (bName 9) eYes (eP (hOp [.pur (hC (.str "s")), .pur (hVar 9)] gAdd)) [9]))
  sNop) sNop)
  (sSeq (sRet (eOp (.fin [.plc 5 (pVar 5)]) gSorted))
  sNop))))))))
def fn_law_names : Fn := runFn 10 [.b] b_law_names

/-- _law_whole(_law_found) -/
def b_law_whole : Stm := (sSeq (sRet (eP (hAndV (hOp [.pur (hVar 0)] (gIsi "int")) (hNotV (hOp [.pur (hVar 0)] (gIsi "bool"))))))
  sNop)
def fn_law_whole : Fn := runFn 1 [.b] b_law_whole

/-- _law_net(_law_script, _law_moves, _law_goings) -/
def b_law_net : Stm := (sSeq (sSet 3 (eK (.fin []) (dspK .lst)))
  (sSeq (sFor [.pur (hOp [.pur (hVar 1)] gLen)] mkRange1 (bName 4) [4, 5, 6, 7] (sSeq (sSet 5 (eOp (.pur (hC (.int 1)) (.own (eOp (.own (eK (.fin [.plc 0 (pVar 0), .pur (hOp [.pur (hC (.int 6)), .pur (hVar 4)] gAdd)]) (callK [.b, .b] fn_law_cell_at)) (.fin [.pur (hOp [.pur (hC (.int 10)), .pur (hC (.int 50))] gPow)])) gMod) (.fin []))) gAdd))
  (sSeq (sSet 6 (eOp (.own (lcE [.pur (hOp [.pur (hVar 1)] gLen)] mkRange1 (bName 8) eYes (eP (hOp [.pur (hVar 5), .pur (hOp [.pur (hOp [.pur (hVar 8), .pur (hVar 4)] gEq)] gInt)] gMul)) [8]) (.fin [])) gTupOf))
  (sSeq (sSet 7 (eOp (.pur (hOp [.pur (hVar 5), .pur (hRd (pIx (pVar 2) (hVar 4)))] gMul) (.own (eOp (.own (eK (.fin [.plc 0 (pVar 0), .pur (hOp [.pur (hC (.int 10)), .pur (hVar 4)] gAdd)]) (callK [.b, .b] fn_law_cell_at)) (.fin [.pur (hVar 5)])) gMod) (.fin []))) gAdd))
  (sSeq (sExpr (isL 3 (eK (.io 3 (.own (eK (.pur (hVar 7) (.pur (hVar 6) (.own (eOp (.own (lcE [.pur (hOp [.pur (hVar 1)] gLen)] mkRange1 (bName 8) eYes (eP (hC (.int 0))) [8]) (.fin [])) gTupOf) (.fin [])))) (dspK .tup)) (.fin []))) appK)))
  sNop)))))
  (sSeq (sRet (eK (.pur (hVar 1) (.own (eMov 3) (.fin []))) (dspK .tup)))
  sNop)))
def fn_law_net : Fn := runFn 9 [.b, .b, .b] b_law_net

/-- _law_arc_right(_law_net_here, _law_markings, _law_arc) -/
def b_law_arc_right : Stm := (sSeq (sIf (hOr (hNot (hB (hOp [.pur (hVar 2)] (gIsi "tuple")))) (hOr (hB (hOp [.pur (hOp [.pur (hVar 2)] gLen), .pur (hC (.int 3))] gNe)) (hB (hOp [.pur (hRd (pIx (pVar 2) (hC (.int 1)))), .pur (hRd (pIx (pVar 0) (hC (.int 0))))] gNotIn)))) (sSeq (sRet (eP (hC (.bl false))))
  sNop) sNop)
  (sSeq (sSet 3 (eP (hOp [.put (hRd (pIx (pVar 0) (hC (.int 0)))) (tyD "tuple"), .pur (hRd (pIx (pVar 2) (hC (.int 1))))] gTIx)))
  (sSeq (sFor [.pur (hOp [.plc 0 (pIx (pVar 0) (hC (.int 1)))] gLen)] mkRange1 (bName 4) [4, 5] (sSeq (sSet 5 (eP (hOp [.pur (hRd (pIx (pIx (pIx (pIx (pVar 0) (hC (.int 1))) (hVar 4)) (hC (.int 1))) (hVar 4))), .pur (hOp [.pur (hOp [.pur (hVar 4), .pur (hVar 3)] gEq)] gInt)] gMul)))
  (sSeq (sIf (hOr (hB (hOp [.pur (hRd (pIx (pIx (pVar 1) (hRd (pIx (pVar 2) (hC (.int 0))))) (hVar 4))), .pur (hVar 5)] gLt)) (hB (hOp [.pur (hRd (pIx (pIx (pVar 1) (hRd (pIx (pVar 2) (hC (.int 2))))) (hVar 4))), .pur (hOp [.pur (hRd (pIx (pIx (pVar 1) (hRd (pIx (pVar 2) (hC (.int 0))))) (hVar 4))), .pur (hVar 5)] gSub)] gNe))) (sSeq (sRet (eP (hC (.bl false))))
  sNop) sNop)
  sNop)))
  (sSeq (sRet (eP (hC (.bl true))))
  sNop))))
def fn_law_arc_right : Fn := runFn 6 [.b, .b, .b] b_law_arc_right

/-- _law_refused(_law_net_here) -/
def b_law_refused : Stm := (sSeq (sSet 1 (eP (hC (.bl false))))
  (sSeq (sTryO [0, 1] ["TooGreat"] [] (sSeq (sExpr (eK (.fin [.plc 0 (pVar 0)]) (callK [.b] fn_run_of)))
  sNop) (sSeq (sSet 1 (eP (hC (.bl true))))
  sNop))
  (sSeq (sRet (eP (hVar 1)))
  sNop)))
def fn_law_refused : Fn := runFn 2 [.b] b_law_refused

/-- law(_law_script) -/
def b_law : Stm := (sSeq (sSet 1 (eOp (.pur (hC (.int 1)) (.own (eOp (.own (eK (.fin [.plc 0 (pVar 0), .pur (hC (.int 1))]) (callK [.b, .b] fn_law_cell_at)) (.fin [.pur (hC (.int 4))])) gMod) (.fin []))) gAdd))
  (sSeq (sSet 2 (eOp (.own (eOp (.own (eK (.own (eK (.fin [.plc 0 (pVar 0), .pur (hC (.int 0))]) (callK [.b, .b] fn_law_cell_at)) (.fin [])) (callK [.b] fn_law_names)) (.fin [.int (hVar 1)])) (slH fSlL)) (.fin [])) gTupX))
  (sSeq (sSet 3 (lcE [.pur (hVar 1)] mkRange1 (bName 13) eYes (eOp (.own (eK (.fin [.plc 0 (pVar 0), .pur (hOp [.pur (hC (.int 2)), .pur (hVar 13)] gAdd)]) (callK [.b, .b] fn_law_cell_at)) (.fin [.pur (hC (.int 5))])) gMod) [13]))
  (sSeq (sSet 4 (eK (.fin [.plc 0 (pVar 0), .pur (hVar 2), .plc 3 (pVar 3)]) (callK [.b, .b, .b] fn_law_net)))
  (sSeq (sSet 5 (eP (hC (.int 1))))
  (sSeq (sFor [.plc 3 (pVar 3)] mkSeq (bName 6) [6] (sSeq (sSet 5 (eP (hOp [.pur (hVar 5), .pur (hOp [.pur (hVar 6), .pur (hC (.int 1))] gAdd)] gMul)))
  sNop))
  (sSeq (sIf (hB (hOp [.pur (hVar 5), .pur (hC (.int 12))] gGt)) (sSeq (sRet (eAndV (eK (.fin [.plc 4 (pVar 4)]) (callK [.b] fn_law_refused)) (eOp (.own (eK (.fin [.plc 4 (pVar 4)]) (callK [.b] fn_growth_of)) (.fin [.pur (hOp [.pur (hC (.str "beyond"))] fTup)])) gEq)))
  sNop) sNop)
  (sSeq (sUnp [7, 8] (eK (.fin [.plc 4 (pVar 4)]) (callK [.b] fn_run_of)))
  (sSeq (sIfE (eOr (eB (eOp (.own (eK (.fin [.plc 4 (pVar 4)]) (callK [.b] fn_growth_of)) (.fin [.pur (hOp [.pur (hC (.str "ends")), .pur (hVar 5)] fTup)])) gNe)) (eOr (eBp (hB (hOp [.pur (hOp [.plc 8 (pVar 8)] gLen), .pur (hVar 5)] gNe))) (eB (eOp (.own (eOp (.fin [.plc 8 (pVar 8)]) gDist) (.fin [.pur (hVar 5)])) gNe)))) (sSeq (sRet (eP (hC (.bl false))))
  sNop) sNop)
  (sSeq (sIfE (eOr (eBp (hB (hOp [.pur (hRd (pIx (pVar 7) (hC (.int 0)))), .pur (hVar 2)] gNe))) (eOr (eB (eOp (.plc 7 (pIx (pVar 7) (hC (.int 1))) (.own (eOp (.fin [.plc 7 (pIx (pVar 7) (hC (.int 1)))]) gSorted) (.fin []))) gNe)) (eB (eOp (.own (eOp (.fin [.plc 7 (pIx (pVar 7) (hC (.int 1)))]) gDistM) (.fin [.pur (hOp [.plc 7 (pIx (pVar 7) (hC (.int 1)))] gLen)])) gNe)))) (sSeq (sRet (eP (hC (.bl false))))
  sNop) sNop)
  (sSeq (sFor [.plc 8 (pVar 8)] mkSeq (bName 9) [9, 10] (sSeq (sFor [.pur (hVar 9)] mkSeq (bName 10) [10] (sSeq (sIfE (eNot (eB (eK (.fin [.pur (hVar 10)]) (callK [.b] fn_law_whole)))) (sSeq (sRet (eP (hC (.bl false))))
  sNop) sNop)
  sNop))
  sNop))
  (sSeq (sFor [.plc 7 (pIx (pVar 7) (hC (.int 1)))] mkSeq (bName 11) [11] (sSeq (sIfE (eOr (eNot (eB (eK (.fin [.pur (hRd (pIx (pVar 11) (hC (.int 0))))]) (callK [.b] fn_law_whole)))) (eOr (eBp (hNot (hB (hChI leI ltI (hC (.int 0)) (hRd (pIx (pVar 11) (hC (.int 0)))) (hVar 5))))) (eBp (hNot (hB (hChI leI ltI (hC (.int 0)) (hRd (pIx (pVar 11) (hC (.int 2)))) (hVar 5))))))) (sSeq (sRet (eP (hC (.bl false))))
  sNop) sNop)
  (sSeq (sIfE (eNot (eB (eK (.fin [.plc 4 (pVar 4), .plc 8 (pVar 8), .pur (hVar 11)]) (callK [.b, .b, .b] fn_law_arc_right)))) (sSeq (sRet (eP (hC (.bl false))))
  sNop) sNop)
  sNop)))
  (sSeq (sSet 12 (eP (hC (.int 0))))
  (sSeq (sFor [.plc 8 (pVar 8)] mkSeq (bName 9) [9] (sSeq (sSet 12 (eOp (.pur (hVar 12) (.own (eOp (.own (lcE [.pur (hVar 1)] mkRange1 (bName 13) (eBp (hB (hOp [.pur (hRd (pIx (pVar 9) (hVar 13))), .pur (hRd (pIx (pIx (pIx (pIx (pVar 4) (hC (.int 1))) (hVar 13)) (hC (.int 1))) (hVar 13)))] gGe))) (eP (hVar 13)) [13]) (.fin [])) gLen) (.fin []))) gAdd))
  sNop))
  (sSeq (sRet (eAndV (eP (hOp [.pur (hVar 12), .pur (hOp [.plc 7 (pIx (pVar 7) (hC (.int 1)))] gLen)] gEq)) (eOp (.pur (hRd (pIx (pVar 8) (hC (.int 0)))) (.own (eOp (.own (lcE [.plc 4 (pIx (pVar 4) (hC (.int 1)))] mkSeq (bTup (bCons (bName 10) (bCons (bName 14) (bCons (bName 15) bNil)))) eYes (eP (hVar 10)) [10, 14, 15]) (.fin [])) gTupOf) (.fin []))) gEq)))
  sNop)))))))))))))))
def fn_law : Fn := runFn 16 [.b] b_law
end
end DL
namespace DL
open PySem PySem.Spec PyProof.Rows L2
section
variable {env : DEnv} {ks : List Key} {kt : List (List Key)} {vs xs : List D} {d x : D} {k : Key} {n : Int} {s : Str}
@[simp] theorem z_keyi : keyD (.int n) = some (.inl n) := rfl
@[simp] theorem z_keys : keyD (.str s) = some (.inr s) := rfl
@[simp] theorem z_keysd : keysD (.tupF false xs) = keysL xs := rfl
@[simp] theorem z_keysl0 : keysL [] = some [] := rfl
@[simp] theorem z_keysl1 : keysL (d :: xs) = match keyD d, keysL xs with
    | some k, some ks => some (k :: ks)
    | _, _ => none := rfl
@[simp] theorem z_din {f : Bool → Bool} : fDIn f x d = (fLook d x).map fun r => .bl (f r.isSome) := rfl
@[simp] theorem z_dget : fDGet d x = match fLook d x with
    | some (some e) => iff? (e.pure = true) e
    | _ => none := rfl
@[simp] theorem z_look1 : fLook (.dk ks vs) x = (keyD x).map fun k => lookP ks vs k := rfl
@[simp] theorem z_look2 : fLook (.dt kt vs) x = (keysD x).map fun k => lookP kt vs k := rfl
@[simp] theorem z_setd1 : setDK [x, .dk ks vs, d] env = match keyD d with
    | some k => if x.pure = true ∧ D.pureL vs = true ∧ ks.length < 16777216 then .ok (.non, [.dk (putKs ks vs k x) (putVs ks vs k x)], env) else .bad
    | none => .bad := rfl
@[simp] theorem z_setd2 : setDK [x, .dt kt vs, d] env = match keysD d with
    | some k => if x.pure = true ∧ D.pureL vs = true ∧ kt.length < 16777216 then .ok (.non, [.dt (putKs kt vs k x) (putVs kt vs k x)], env) else .bad
    | none => .bad := rfl
@[simp] theorem z_notn1 : D.toBl (.bl true) = some true := rfl
end
section
variable {κ : Type} [DecidableEq κ] {α : Type}
theorem look_none {L : List α} {f : α → κ} {g : α → D} {k : κ} (h : ∀ a ∈ L, f a ≠ k) : lookP (L.map f) (L.map g) k = none := by
  unfold lookP
  have e : (L.map f).zip (L.map g) = L.map fun a => (f a, g a) := by
    induction L with
    | nil => rfl
    | cons a r ih => simp [ih fun b m => h b (List.mem_cons_of_mem _ m)]
  rw [e, Option.map_eq_none_iff, List.find?_eq_none]
  intro p hp
  obtain ⟨a, ha, rfl⟩ := List.mem_map.mp hp
  simpa using h a ha
theorem zip_maps (L : List α) (f : α → κ) (g : α → D) : (L.map f).zip (L.map g) = L.map fun a => (f a, g a) := by
  induction L with
  | nil => rfl
  | cons a r ih => simp [ih]
theorem look_some {L : List α} {f : α → κ} {g : α → D} {a : α} (ha : a ∈ L) (h : ∀ b ∈ L, f b = f a → g b = g a) : lookP (L.map f) (L.map g) (f a) = some (g a) := by
  unfold lookP
  rw [zip_maps]
  cases hf : (L.map fun a => (f a, g a)).find? fun p => decide (p.1 = f a) with
  | none =>
    rw [List.find?_eq_none] at hf
    exact absurd (by simp) (hf _ (List.mem_map.mpr ⟨a, ha, rfl⟩))
  | some p =>
    have h1 := List.find?_some hf
    have h2 := List.mem_of_find?_eq_some hf
    obtain ⟨b, hb, rfl⟩ := List.mem_map.mp h2
    simp only [decide_eq_true_eq] at h1
    show some (g b) = _
    rw [h b hb h1]
theorem put_new {L : List α} {f : α → κ} {g : α → D} {k : κ} {x : D} (h : ∀ a ∈ L, f a ≠ k) : putKs (L.map f) (L.map g) k x = L.map f ++ [k] ∧ putVs (L.map f) (L.map g) k x = L.map g ++ [x] := by
  have e : putG ((L.map f).zip (L.map g)) k x = (L.map fun a => (f a, g a)) ++ [(k, x)] := by
    unfold putG
    rw [zip_maps, if_neg]
    intro h2
    obtain ⟨p, hp, h3⟩ := List.any_eq_true.mp h2
    obtain ⟨a, ha, rfl⟩ := List.mem_map.mp hp
    exact h a ha (by simpa using h3)
  unfold putKs putVs
  rw [e]
  simp [List.map_map, Function.comp_def]
/-- a set, kept as a dict -/
def ins (L : List α) [DecidableEq α] (a : α) : List α := if a ∈ L then L else L ++ [a]
end
end DL
namespace DL
open PySem PySem.Spec PyProof.Rows L2
def ltr : List Nat := (List.range 26).map (97 + ·)
theorem alpha_eq : ("abcdefghijklmnopqrstuvwxyz" : Str) = SX.S ltr := by decide +kernel
theorem nil_eq : ("" : Str) = SX.S [] := by decide +kernel
theorem ltr_at (i : Int) : atI ltr (i % 26) = some (97 + (i % 26).toNat) := by
  have h1 := Int.emod_nonneg i (show (26 : Int) ≠ 0 by decide)
  have h2 := Int.emod_lt_of_pos i (show (0 : Int) < 26 by decide)
  obtain ⟨j, hj⟩ := Int.eq_ofNat_of_zero_le h1
  rw [hj]
  have hj2 : j < 26 := by omega
  rw [atI_nat (j := j) (v := 97 + j)]
  · rfl
  · unfold ltr
    rw [List.getElem?_map, List.getElem?_range hj2]
    rfl
theorem ltr_len : ltr.length = 26 := by decide
def isLo (c : Nat) : Prop := 97 ≤ c ∧ c < 123
theorem strOk_of {l : List Nat} (h : ∀ c ∈ l, isLo c) : PyData.strOk (SX.S l) = true := by
  show (SX.S l).cps.all (fun c => decide (c < 0x110000)) = true
  simp only [SX.S, List.all_toArray, List.all_eq_true, decide_eq_true_eq]
  intro c hc
  have := h c hc
  unfold isLo at this
  omega
theorem okMoves : PyData.strOk "moves" = true := by decide +kernel
theorem sortLe_pw {β : Type} (k : β → PyData) (l : List β) : (l.mergeSort (PySem.W.dataLe false k)).Pairwise fun a b => PySem.W.dataLe false k a b = true :=
  List.pairwise_mergeSort (PySem.W.sortLe_total _ _ _).trans (fun a b => by
    rcases (PySem.W.sortLe_total _ _ _).total a b with h | h
    · exact Bool.or_eq_true_iff.mpr (.inl h)
    · exact Bool.or_eq_true_iff.mpr (.inr h)) l
theorem le_strs (a b : Str) : PySem.W.dataLe false encD (.str a) (.str b) = decide (a.cps.toList ≤ b.cps.toList) := by
  show (!PySem.W.dataLt (.str b) (.str a)) = _
  rw [PySem.W.dataLt_str, PySem.W.not_lt_str]
theorem sort_strs2 (l : List Str) : ∃ l2 : List Str, fSorted (.lst (l.map .str)) = some (.lst (l2.map .str)) ∧ l2.Perm l ∧ l2.Pairwise fun a b => a.cps.toList ≤ b.cps.toList := by
  obtain ⟨l2, h1, h2⟩ := sort_strs l
  refine ⟨l2, h1, h2, ?_⟩
  rw [z_sorted] at h1
  unfold iff? at h1
  split at h1
  · have h3 : sortL (l.map D.str) = l2.map .str := by
      have := Option.some.inj h1
      injection this
    have h4 := sortLe_pw encD (l.map D.str)
    have h5 : ((l2.map D.str).Pairwise fun a b => PySem.W.dataLe false encD a b = true) := by
      rw [← h3]; exact h4
    rw [List.pairwise_map] at h5
    exact h5.imp fun {a b} h => by
      rw [le_strs] at h
      exact of_decide_eq_true h
  · cases h1
end DL
namespace DL
open PySem PySem.Spec PyProof.Rows L2
section
variable {env : DEnv} {ks : List Key} {vs xs : List D} {d x : D} {k : Key} {n : Int} {s : Str}
@[simp] theorem z_join1 : fJoin s (.lst xs) = (D.strs xs).bind fun ys => iff? ((ys.map (·.length)).sum + ys.length * s.length ≤ 16777216) (.str (Txt.join s ys)) := rfl
end
theorem txt_join (a : Str) (l : List Str) : Txt.join a l = Str.join a l := eq_of_beq (join_plain_closes a l)
theorem join_signs : ∀ l : List Nat, Txt.join "" (l.map fun c => (⟨#[c]⟩ : Str)) = SX.S l
  | [] => by rw [txt_join]; rfl
  | [c] => by rw [txt_join]; rfl
  | c :: b :: r => by
    have ih := join_signs (b :: r)
    rw [txt_join] at ih ⊢
    show (⟨#[c]⟩ : Str) ++ "" ++ Str.join "" ((b :: r).map fun c => (⟨#[c]⟩ : Str)) = _
    rw [ih, nil_eq]
    have e1 : (⟨#[c]⟩ : Str) = SX.S [c] := rfl
    rw [e1, SX.S_cat, SX.S_cat]
    rfl
def mx (c k : Int) : Int := (((c % 2147483647 + 48271 * (k + 1)) * (c % 2147483647 + 48271 * (k + 1)) + 69621 * k) % 2147483647 * (((c % 2147483647 + 48271 * (k + 1)) * (c % 2147483647 + 48271 * (k + 1)) + 69621 * k) % 2147483647) + 16807 * k + 1) % 2147483647
theorem mixed_ok (c k : Int) (h : 0 ≤ k ∧ k < 100000) : fn_law_mixed [.int c, .int k] = .ok (.int (mx c k), []) := by
  have h1 := Int.emod_nonneg c (show (2147483647 : Int) ≠ 0 by decide)
  have h2 := Int.emod_lt_of_pos c (show (0 : Int) < 2147483647 by decide)
  generalize hx : mx c k = r
  unfold mx at hx
  generalize hm : c % 2147483647 = m at h1 h2 hx
  have m0 : MulOk 48271 (k + 1) := mulOk (j := 40) (k := 40) (by unfold Bd; decide) (by unfold Bd; omega)
  have m1 : MulOk (m + 48271 * (k + 1)) (m + 48271 * (k + 1)) := mulOk (j := 40) (k := 40) (by unfold Bd; omega) (by unfold Bd; omega)
  have m2 : MulOk 69621 k := mulOk (j := 40) (k := 40) (by unfold Bd; decide) (by unfold Bd; omega)
  have m4 : MulOk 16807 k := mulOk (j := 40) (k := 40) (by unfold Bd; decide) (by unfold Bd; omega)
  have b3 : Bd 40 (((m + 48271 * (k + 1)) * (m + 48271 * (k + 1)) + 69621 * k) % 2147483647) := by
    have h3 := Int.emod_nonneg ((m + 48271 * (k + 1)) * (m + 48271 * (k + 1)) + 69621 * k) (show (2147483647 : Int) ≠ 0 by decide)
    have h4 := Int.emod_lt_of_pos ((m + 48271 * (k + 1)) * (m + 48271 * (k + 1)) + 69621 * k) (show (0 : Int) < 2147483647 by decide)
    unfold Bd; omega
  have m3 : MulOk (((m + 48271 * (k + 1)) * (m + 48271 * (k + 1)) + 69621 * k) % 2147483647) (((m + 48271 * (k + 1)) * (m + 48271 * (k + 1)) + 69621 * k) % 2147483647) := mulOk (j := 40) (k := 40) b3 b3
  simp [fn_law_mixed, b_law_mixed, m0, m1, m2, m3, m4, hm, hx]
end DL
namespace DL
open PySem PySem.Spec PyProof.Rows L2
/-- small letters, at least one, at most nine -/
def Nm (n : Nat) (s : Str) : Prop := ∃ l : List Nat, s = SX.S l ∧ l.length ≤ n ∧ ∀ c ∈ l, isLo c
theorem Nm.ok {n : Nat} {s : Str} (h : Nm n s) : PyData.strOk s = true := by
  obtain ⟨l, rfl, _, h⟩ := h
  exact strOk_of h
def ltE : DEnv → Out (D × DEnv) := lcE [.plc 7 (pVar 7)] mkSeq (bName 8) eYes (eP (hOp [.pur (hVar 1), .pur (hVar 8)] gIx)) [8]
def nnBody : Stm := (sSeq (sSet 7 (eOp (.fin [.plc 2 (pVar 2), .int (hVar 3)]) (slH fSlL)))
  (sSeq (sExpr (eK (.pur (hOp [.pur (hOp [.pur (hRd (pIx (pVar 7) (hVar 4))), .pur (hVar 6)] gAdd), .pur (hC (.int 26))] gMod) (.io 7 (.fin [.pur (hVar 4)]))) setK))
  (sSeq (sIf (hB (hOp [.pur (hOp [.pur (hOp [.pur (hVar 0), .pur (hC (.int 64))] gDiv), .pur (hC (.int 4))] gMod), .pur (hC (.int 1))] gEq)) (sSeq (sSet 7 (eOp (.fin [.plc 2 (pVar 2), .int (hOp [.pur (hVar 6), .pur (hC (.int 1))] gAdd)]) (slH fSlL)))
  sNop) sNop)
  (sSeq (sExpr (isL 5 (eK (.io 5 (.own (eOp (.own ltE (.fin [])) (gJoin "")) (.fin []))) appK)))
  sNop))))
theorem nn_eq : b_law_names = (sSeq (sSet 1 (eP (hC (.str "abcdefghijklmnopqrstuvwxyz"))))
  (sSeq (sSet 2 (lcE [.pur (hC (.int 8))] mkRange1 (bName 8) eYes (eOp (.own (eK (.fin [.pur (hVar 0), .pur (hVar 8)]) (callK [.b, .b] fn_law_mixed)) (.fin [.pur (hC (.int 26))])) gMod) [8]))
  (sSeq (sSet 3 (eP (hOp [.pur (hC (.int 1)), .pur (hOp [.pur (hVar 0), .pur (hC (.int 8))] gMod)] gAdd)))
  (sSeq (sSet 4 (eP (hOp [.pur (hOp [.pur (hVar 0), .pur (hC (.int 8))] gDiv), .pur (hVar 3)] gMod)))
  (sSeq (sSet 5 (eK (.fin []) (dspK .lst)))
  (sSeq (sFor [.pur (hC (.int 5))] mkRange1 (bName 6) [6, 7] nnBody)
  (sSeq (sIf (hB (hOp [.pur (hC (.str "moves")), .plc 5 (pVar 5)] gIn)) (sSeq (sSet 5 (lcE [.plc 5 (pVar 5)] mkSeq (bName 9) eYes (eP (hOp [.pur (hC (.str "s")), .pur (hVar 9)] gAdd)) [9]))
  sNop) sNop)
  (sSeq (sRet (eOp (.fin [.plc 5 (pVar 5)]) gSorted))
  sNop)))))))) := rfl
abbrev nnSt (c : Int) (A : Str) (b : List Int) (w t : Int) (l : List Str) (s6 s7 : Slot) : DEnv := [some (.brw, .int c), some (.own, .str A), some (.own, .lst (b.map .int)), some (.own, .int w), some (.own, .int t), some (.own, .lst (l.map .str)), s6, s7, none, none]
def In26 (x : Int) : Prop := 0 ≤ x ∧ x < 26
theorem mod26 (x : Int) : In26 (x % 26) := ⟨Int.emod_nonneg _ (by decide), Int.emod_lt_of_pos _ (by decide)⟩
theorem lts_run {c : Int} {b m : List Int} {w t : Int} {k6 : Int} (hm : ∀ x ∈ m, In26 x) (hl : m.length ≤ 8) :
    ltE ([some (.brw, .int c), some (.own, .str (SX.S ltr)), some (.own, .lst (b.map .int)), some (.own, .int w), some (.own, .int t), none, some (.own, .int k6), some (.own, .lst (m.map .int)), none, none]) = .ok (.lst ((m.map fun x => (97 + x.toNat)).map fun c => D.str ⟨#[c]⟩), [some (.brw, .int c), some (.own, .str (SX.S ltr)), some (.own, .lst (b.map .int)), some (.own, .int w), some (.own, .int t), none, some (.own, .int k6), some (.own, .lst (m.map .int)), none, none]) := by
  have s2 : (SX.S ltr).length ≤ 16777216 := by rw [SX.S_len, ltr_len]; decide
  have hf := lcG_map (bd := bName 8) (cl := [8]) (elt := eP (hOp [.pur (hVar 1), .pur (hVar 8)] gIx)) (e0 := [some (.brw, .int c), some (.own, .str (SX.S ltr)), some (.own, .lst (b.map .int)), some (.own, .int w), some (.own, .int t), none, some (.own, .int k6), some (.lck, .lst (m.map .int)), none, none]) (g := fun x : Int => D.str ⟨#[97 + x.toNat]⟩) (φ := D.int) m fun x hx => by
    have h := hm x hx
    have e := ltr_at x
    rw [show x % 26 = x from Int.emod_eq_of_lt h.1 h.2] at e
    simp [e, s2]
  have hl2 : m.length < 16777216 := by omega
  simp [ltE, hf, hl2]
def mvd (c : Int) (b : List Int) (w t k : Nat) : List Int := if c / 64 % 4 = 1 then b.take (k + 1) else (b.take w).set t (((b.take w).getD t 0 + k) % 26)
def rawN (c : Int) (b : List Int) (w t k : Nat) : Str := SX.S ((mvd c b w t k).map fun x => 97 + x.toNat)
theorem mvd_in {c : Int} {b : List Int} {w t k : Nat} (hb : ∀ x ∈ b, In26 x) : ∀ x ∈ mvd c b w t k, In26 x := by
  unfold mvd
  split
  · exact fun x hx => hb x (List.mem_of_mem_take hx)
  · intro x hx
    rcases List.mem_or_eq_of_mem_set hx with h | h
    · exact hb x (List.mem_of_mem_take h)
    · rw [h]; exact mod26 _
theorem map97 : ∀ {l m : List Int}, (∀ x ∈ l, In26 x) → (∀ x ∈ m, In26 x) → (l.map fun x => 97 + x.toNat) = (m.map fun x => 97 + x.toNat) → l = m
  | [], [], _, _, _ => rfl
  | [], _ :: _, _, _, h => by cases h
  | _ :: _, [], _, _, h => by cases h
  | x :: l, y :: m, hl, hm, h => by
    rw [List.map_cons, List.map_cons, List.cons.injEq] at h
    have h1 := hl x List.mem_cons_self
    have h2 := hm y List.mem_cons_self
    unfold In26 at h1 h2
    rw [map97 (fun z hz => hl z (List.mem_cons_of_mem _ hz)) (fun z hz => hm z (List.mem_cons_of_mem _ hz)) h.2, show x = y by have := h.1; omega]
theorem raw_inj {c : Int} {b : List Int} {w t j k : Nat} (hb : ∀ x ∈ b, In26 x) (hbl : b.length = 8) (hw : w ≤ 8) (ht : t < w) (hj : j < 5) (hk : k < 5) (h : rawN c b w t j = rawN c b w t k) : j = k := by
  have h1 := map97 (mvd_in hb) (mvd_in hb) (SX.S_inj h)
  unfold mvd at h1
  split at h1
  · have := congrArg List.length h1
    rw [List.length_take, List.length_take] at this
    omega
  · have := congrArg (fun l => l[t]?) h1
    have hl : t < (b.take w).length := by rw [List.length_take]; omega
    simp only [List.getElem?_set_self hl] at this
    generalize (b.take w).getD t 0 = y at this
    have := Option.some.inj this
    omega
theorem nn_turn {c : Int} {b : List Int} {w t k : Nat} {l : List Str} (hb : ∀ x ∈ b, In26 x) (hbl : b.length = 8) (hw : w ≤ 8) (ht : t < w) (hk : k < 5) (hl : l.length < 100) :
    Nm 8 (rawN c b w t k) ∧ Turn1 (bName 6) [6, 7] nnBody (.int (k : Int)) (nnSt c (SX.S ltr) b w t l none none) (nnSt c (SX.S ltr) b w t (l ++ [rawN c b w t k]) none none) := by
  unfold rawN
  obtain ⟨m, hm, hml, hmv, hT⟩ : ∃ m : List Int, (∀ x ∈ m, In26 x) ∧ m.length ≤ 8 ∧ mvd c b w t k = m ∧ m = if c / 64 % 4 = 1 then b.take (k + 1) else (b.take w).set t (((b.take w).getD t 0 + k) % 26) := by
    refine ⟨_, mvd_in hb, ?_, rfl, rfl⟩
    unfold mvd
    split
    · rw [List.length_take]; omega
    · rw [List.length_set, List.length_take]; omega
  rw [hmv]
  clear hmv
  refine ⟨⟨_, rfl, by simpa using hml, fun x hx => ?_⟩, ?_⟩
  · obtain ⟨y, hy, rfl⟩ := List.mem_map.mp hx
    have := hm y hy
    unfold In26 at this
    unfold isLo
    omega
  · have hr := lts_run (c := c) (b := b) (m := m) (w := w) (t := t) (k6 := k) hm hml
    have hj := join_signs (m.map fun x => 97 + x.toNat)
    have hz := z_strs ((m.map fun x => 97 + x.toNat).map fun c => (⟨#[c]⟩ : Str))
    rw [List.map_map] at hz
    have hsum : ((((m.map fun x => 97 + x.toNat).map fun c => (⟨#[c]⟩ : Str)).map (·.length)).sum + ((m.map fun x => 97 + x.toNat).map fun c => (⟨#[c]⟩ : Str)).length * ("" : Str).length) ≤ 16777216 := by
      have e0 : ("" : Str).length = 0 := rfl
      rw [e0, Nat.mul_zero, Nat.add_zero]
      have : ∀ L : List Nat, ((L.map fun c => (⟨#[c]⟩ : Str)).map (·.length)).sum = L.length := fun L => by
        induction L with
        | nil => rfl
        | cons a L ih => rw [List.map_cons, List.map_cons, List.sum_cons, ih, List.length_cons]; show 1 + _ = _; omega
      rw [this, List.length_map]
      omega
    have hbt : atI ((b.take w).map D.int) (t : Int) = some (.int ((b.take w).getD t 0)) := at_mapI (by rw [List.length_take]; omega)
    have hix : ixN ((b.take w).map D.int).length (t : Int) = some t := ixN_lt (by rw [List.length_map, List.length_take]; omega)
    have ll : l.length < 16777216 := by omega
    have c1 : cutD (b.map D.int) none (some (w : Int)) = (b.take w).map D.int := by rw [cutD_take', List.map_take]
    have c2 : cutD (b.map D.int) none (some ((k : Int) + 1)) = (b.take (k + 1)).map D.int := by
      rw [show (k : Int) + 1 = ((k + 1 : Nat) : Int) by omega, cutD_take', List.map_take]
    have h0 : fJoin "" (.lst ((m.map fun x => 97 + x.toNat).map fun c => D.str ⟨#[c]⟩)) = some (.str (SX.S (m.map fun x => 97 + x.toNat))) := by
      rw [z_join1, show ((m.map fun x => 97 + x.toNat).map fun c => D.str ⟨#[c]⟩) = ((m.map fun x => 97 + x.toNat).map fun c => (⟨#[c]⟩ : Str)).map D.str by simp [List.map_map, Function.comp_def], z_strs]
      show iff? _ _ = _
      rw [iff?_pos hsum, hj]
    have hp := pureL_ints b
    generalize ((m.map fun x => 97 + x.toNat).map fun c => D.str ⟨#[c]⟩) = js at hr h0
    generalize SX.S (m.map fun x => 97 + x.toNat) = nm at h0
    have hbl2 : (b.take w).length = w := by rw [List.length_take]; omega
    generalize b.take w = bt at hbt hix c1 hT hbl2
    generalize b.take (k + 1) = b2 at c2 hT
    generalize bt.getD t 0 = y at hbt hT
    have hix2 : ixN w (t : Int) = some t := ixN_lt ht
    have hms : (bt.set t ((y + k) % 26)).map D.int = (bt.map D.int).set t (.int ((y + k) % 26)) := List.map_set
    unfold Turn1 nnBody
    by_cases h64 : c / 64 % 4 = 1
    · rw [if_pos h64] at hT
      subst hT
      simp [c1, c2, hbt, hbl2, hix2, hr, h0, ll, h64, hp]
    · rw [if_neg h64] at hT
      subst hT
      rw [hms] at hr
      simp [c1, c2, hbt, hbl2, hix2, hr, h0, ll, h64, hp]
theorem ostrs : ∀ {l : List Str}, (∀ s ∈ l, PyData.strOk s = true) → ∃ os : List OStr, l = os.map (·.1)
  | [], _ => ⟨[], rfl⟩
  | s :: l, h => by
    obtain ⟨os, e⟩ := ostrs (l := l) fun x hx => h x (List.mem_cons_of_mem _ hx)
    exact ⟨⟨s, h s List.mem_cons_self⟩ :: os, by rw [List.map_cons, ← e]⟩
theorem in_strs {l : List Str} (h : ∀ s ∈ l, PyData.strOk s = true) {x : Str} (hx : PyData.strOk x = true) : inB (.str x) (.lst (l.map .str)) = some (decide (x ∈ l)) := by
  obtain ⟨os, rfl⟩ := ostrs h
  have := EqOk.str.mem ⟨x, hx⟩ os
  rw [List.map_map]
  refine this.trans ?_
  congr 1
  have : (⟨x, hx⟩ ∈ os) ↔ x ∈ os.map (·.1) := by
    rw [List.mem_map]
    exact ⟨fun h => ⟨_, h, rfl⟩, fun ⟨a, h, e⟩ => by cases a; cases e; exact h⟩
  simp only [this]
theorem names_ok (c : Int) : ∃ names : List Str, fn_law_names [.int c] = .ok (.lst (names.map .str), []) ∧ names.length = 5 ∧ (∀ s ∈ names, Nm 9 s) ∧ names.Nodup ∧ names.Pairwise fun a b => a.cps.toList ≤ b.cps.toList := by
  obtain ⟨w, hw, hw1⟩ : ∃ w : Nat, 1 + c % 8 = (w : Int) ∧ 1 ≤ w ∧ w ≤ 8 := ⟨(1 + c % 8).toNat, by omega, by omega⟩
  obtain ⟨t, ht⟩ : ∃ t : Nat, c / 8 % (w : Int) = (t : Int) := ⟨(c / 8 % (w : Int)).toNat, by
    have := Int.emod_nonneg (c / 8) (show (w : Int) ≠ 0 by omega)
    omega⟩
  have htl : t < w := by
    have := Int.emod_lt_of_pos (c / 8) (show (0 : Int) < w by omega)
    omega
  have hbase := lcG_map (bd := bName 8) (cl := [8]) (elt := (eOp (.own (eK (.fin [.pur (hVar 0), .pur (hVar 8)]) (callK [.b, .b] fn_law_mixed)) (.fin [.pur (hC (.int 26))])) gMod)) (e0 := [some (.brw, .int c), some (.own, .str (SX.S ltr)), none, none, none, none, none, none, none, none]) (g := fun j : Nat => D.int (mx c j % 26)) (φ := fun j : Nat => D.int (j : Int)) (List.range 8) fun j hj => by
    have hj := List.mem_range.mp hj
    have hm := mixed_ok c j ⟨by omega, by omega⟩
    simp [hm]
  have hbm : (List.range 8).map (fun j : Nat => D.int (mx c j % 26)) = ((List.range 8).map fun j : Nat => mx c j % 26).map D.int := by rw [List.map_map]; rfl
  rw [hbm] at hbase
  have hb26 : ∀ x ∈ (List.range 8).map fun j : Nat => mx c j % 26, In26 x := fun x hx => by
    obtain ⟨j, _, rfl⟩ := List.mem_map.mp hx
    exact mod26 _
  have hbl : ((List.range 8).map fun j : Nat => mx c j % 26).length = 8 := by simp
  generalize ((List.range 8).map fun j : Nat => mx c j % 26) = b at hbase hb26 hbl
  obtain ⟨l, ⟨hl1, hl2, hl3⟩, hf⟩ := forD_exI (bd := bName 6) (cl := [6, 7]) (body := nnBody) (st := fun l : List Str => nnSt c (SX.S ltr) b w t l none none) (φ := fun k : Nat => D.int (k : Int)) (I := fun j l => l.length = j ∧ (∀ s ∈ l, Nm 8 s) ∧ l = (List.range j).map (rawN c b w t)) (List.range 5) 0 [] ⟨rfl, fun s h => (by cases h), rfl⟩ fun i l k hk hI => by
    obtain ⟨rfl, hkn⟩ := range_at hk
    obtain ⟨h1, h2⟩ := nn_turn (c := c) (b := b) (w := w) (t := t) (k := k) (l := l) hb26 hbl hw1.2 htl hkn (by omega)
    refine ⟨l ++ [rawN c b w t k], ⟨by simp [hI.1], fun x hx => ?_, by rw [hI.2.2, Nat.zero_add, List.range_succ, List.map_append]; rfl⟩, h2⟩
    rcases List.mem_append.mp hx with h | h
    · exact hI.2.1 x h
    · rw [List.mem_singleton.mp h]; exact h1
  have hND : l.Nodup := by
    rw [hl3, List.nodup_iff_pairwise_ne, List.pairwise_map]
    refine List.Pairwise.imp_of_mem (fun {x y} hx hy hne he => hne ?_) List.nodup_range
    exact raw_inj hb26 hbl hw1.2 htl (by have := List.mem_range.mp hx; simpa using this) (by have := List.mem_range.mp hy; simpa using this) he
  clear hl3
  rw [List.length_range, Nat.zero_add] at hl1
  dsimp only [nnSt] at hf
  simp only [List.map_nil] at hf
  have hin := in_strs (fun s hs => (hl2 s hs).ok) okMoves
  have hn0 : 0 < w := by omega
  have hnl2 : w.log2 < 9000 := log_9000 (by omega)
  have hnl : (w : Int).natAbs.log2 < 9000 := log_9000 (by omega)
  have r8 : rngD 0 8 = (List.range 8).map fun k : Nat => D.int (k : Int) := rng_map 8
  have r5 : rngD 0 5 = (List.range 5).map fun k : Nat => D.int (k : Int) := rng_map 5
  have i8 : inRng 8 = true := inRng_of (by omega)
  have i5 : inRng 5 = true := inRng_of (by omega)
  by_cases hmv : ("moves" : Str) ∈ l
  · have hs := lcG_map (bd := bName 9) (cl := [9]) (elt := (eP (hOp [.pur (hC (.str "s")), .pur (hVar 9)] gAdd))) (e0 := [some (.brw, .int c), some (.own, .str (SX.S ltr)), some (.own, .lst (b.map .int)), some (.own, .int w), some (.own, .int t), some (.lck, .lst (l.map .str)), none, none, none, none]) (g := fun s : Str => D.str ("s" ++ s)) (φ := fun s : Str => D.str s) l fun s hs => by
      obtain ⟨cs, rfl, h1, h2⟩ := hl2 s hs
      have e0 : ("s" : Str).length = 1 := rfl
      have h3 : ("s" : Str).length + (SX.S cs).length ≤ 16777216 := by rw [e0, SX.S_len]; omega
      simp [h3]
    have e2 : l.map (fun s : Str => D.str ("s" ++ s)) = (l.map fun s : Str => "s" ++ s).map D.str := by rw [List.map_map]; rfl
    rw [e2] at hs
    obtain ⟨l2, hs1, hs2, hs3⟩ := sort_strs2 (l.map fun s : Str => "s" ++ s)
    have ll : l.length < 16777216 := by omega
    refine ⟨l2, ?_, by rw [hs2.length_eq]; simpa using hl1, fun s h => ?_, ?_, hs3⟩
    · have hl0 : (l.map fun s : Str => "s" ++ s).length = l.length := by simp
      generalize (l.map fun s : Str => "s" ++ s) = raw at hs hs1 hl0
      simp [fn_law_names, nn_eq, alpha_eq, hw, ht, i8, i5, r8, r5, hbase, hf, hin, hmv, hs, hs1, hn0, hnl, hnl2, ll]
    · obtain ⟨x, hx, rfl⟩ := List.mem_map.mp (hs2.mem_iff.mp h)
      obtain ⟨cs, rfl, h1, h2⟩ := hl2 x hx
      refine ⟨115 :: cs, ?_, by simp; omega, fun y hy => ?_⟩
      · have e0 : ("s" : Str) = SX.S [115] := by decide +kernel
        rw [e0, SX.S_cat]; rfl
      · rcases List.mem_cons.mp hy with h | h
        · rw [h]; unfold isLo; omega
        · exact h2 y h
    · refine hs2.nodup_iff.mpr ?_
      rw [List.nodup_iff_pairwise_ne, List.pairwise_map]
      refine List.Pairwise.imp_of_mem (fun {x y} hx hy hne he => hne ?_) (List.nodup_iff_pairwise_ne.mp hND)
      obtain ⟨c1, rfl, _⟩ := hl2 x hx
      obtain ⟨c2, rfl, _⟩ := hl2 y hy
      have e0 : ("s" : Str) = SX.S [115] := by decide +kernel
      rw [e0, SX.S_cat, SX.S_cat] at he
      have := SX.S_inj he
      rw [List.cons_append, List.cons_append, List.cons.injEq] at this
      rw [show c1 = c2 from this.2]
  · obtain ⟨l2, hs1, hs2, hs3⟩ := sort_strs2 l
    refine ⟨l2, ?_, by rw [hs2.length_eq]; exact hl1, fun s h => ?_, hs2.nodup_iff.mpr hND, hs3⟩
    · simp [fn_law_names, nn_eq, alpha_eq, hw, ht, i8, i5, r8, r5, hbase, hf, hin, hmv, hs1, hn0, hnl, hnl2]
    · obtain ⟨cs, e, h1, h2⟩ := hl2 s (hs2.mem_iff.mp h)
      exact ⟨cs, e, by omega, h2⟩
end DL
namespace DL
open PySem PySem.Spec PyProof.Rows L2
/-- beads, takes, gives -/
abbrev Plc := Int × List Int × List Int
def dPl (p : Plc) : D := .tup [.int p.1, .tup (p.2.1.map .int), .tup (p.2.2.map .int)]
/-- m takes and m gives, none below 0, none above b -/
structure PWF (m : Nat) (p : Plc) : Prop where
  st : 0 ≤ p.1
  tl : p.2.1.length = m
  gl : p.2.2.length = m
  t0 : ∀ x ∈ p.2.1, 0 ≤ x
  g0 : ∀ x ∈ p.2.2, 0 ≤ x
def tk (p : Plc) (k : Nat) : Int := p.2.1.getD k 0
def gv (p : Plc) (k : Nat) : Int := p.2.2.getD k 0
def stepF (k : Nat) (ps : List Plc) (M : List Int) : Option (List Int) := if ((M.zip ps).all fun z => decide (tk z.2 k ≤ z.1)) = true then some ((M.zip ps).map fun z => z.1 - tk z.2 k + gv z.2 k) else none
/-- what stands of a move's place -/
def ixOf (ms : List Str) (s : Str) : Nat := (ms.findIdx? (· == s)).getD 0
theorem ixOf_some {ms : List Str} {s : Str} (h : s ∈ ms) : ms.findIdx? (· == s) = some (ixOf ms s) ∧ ixOf ms s < ms.length := by
  unfold ixOf
  cases e : ms.findIdx? (· == s) with
  | none =>
    rw [List.findIdx?_eq_none_iff] at e
    have := e s h
    simp at this
  | some j =>
    refine ⟨rfl, ?_⟩
    obtain ⟨hl, _⟩ := List.findIdx?_eq_some_iff_getElem.mp e
    exact hl
def dNet (ms : List Str) (ps : List Plc) : D := .tup [.tupF true (ms.map .str), .lst (ps.map dPl)]
def dMk (M : List Int) : D := .tup (M.map .int)
def dStep : Option (List Int) → D
  | some M => dMk M
  | none => .non
abbrev Arc := Nat × Str × Nat
def arcK (x : Arc) : List Key := [.inl (x.1 : Int), .inr x.2.1, .inl (x.2.2 : Int)]
abbrev arcD (x : Arc) : D := .tup [.int x.1, .str x.2.1, .int x.2.2]
/-- come to from 0 -/
inductive Rch (B : List Arc) : Nat → Prop
  | zero : Rch B 0
  | arc {x : Arc} : x ∈ B → Rch B x.1 → Rch B x.2.2
theorem Rch.mono {A B : List Arc} (h : ∀ x ∈ A, x ∈ B) {s : Nat} (r : Rch A s) : Rch B s := by
  induction r with
  | zero => exact .zero
  | arc hx _ ih => exact .arc (h _ hx) ih
theorem arc_le {x y : Arc} (h : PySem.W.dataLe false keyPy (arcK x) (arcK y) = true) (e : x.1 = y.1) : x.2.1.cps.toList ≤ y.2.1.cps.toList := by
  replace h : (!PySem.W.dataLt (.tuple [.int (y.1 : Int), .str y.2.1, .int (y.2.2 : Int)]) (.tuple [.int (x.1 : Int), .str x.2.1, .int (x.2.2 : Int)])) = true := h
  refine Classical.byContradiction fun hn => ?_
  have hlt : y.2.1.cps.toList < x.2.1.cps.toList := List.not_le.mp hn
  have hne : ¬ y.2.1 = x.2.1 := fun z => by
    rw [z] at hlt
    exact List.lt_irrefl _ hlt
  rw [PySem.W.dataLt_tuple, PySem.W.dataLt_cons (by simp [PySem.W.alike]), PySem.W.dataLt_cons (by simp [PySem.W.alike]), PySem.W.dataLt_str, e] at h
  simp only [PyData.eqv, beq_self_eq_true, if_true, beq_iff_eq, hne, if_false, decide_eq_true hlt, Bool.not_true] at h
  cases h
theorem arc_leL {x y : Arc} (h : PySem.W.dataLe false encD (arcD x) (arcD y) = true) (e : x.1 = y.1) : x.2.1.cps.toList ≤ y.2.1.cps.toList :=
  arc_le (x := x) (y := y) h e
theorem sort_arcsL (A : List Arc) : ∃ B : List Arc, fSorted (.lst (A.map arcD)) = some (.lst (B.map arcD)) ∧ B.Perm A ∧ B.Pairwise fun x y => x.1 = y.1 → x.2.1.cps.toList ≤ y.2.1.cps.toList := by
  have hp : (sortL (A.map arcD)).Perm (A.map arcD) := sortL_perm _
  have hpw := sortLe_pw encD (A.map arcD)
  have key : ∀ ds : List D, (∀ d ∈ ds, ∃ s, d = arcD s) → ∃ l2 : List Arc, ds = l2.map arcD := fun ds => by
    induction ds with
    | nil => intro _; exact ⟨[], rfl⟩
    | cons d r ih =>
      intro h
      obtain ⟨s, rfl⟩ := h d List.mem_cons_self
      obtain ⟨l2, rfl⟩ := ih fun e m => h e (List.mem_cons_of_mem _ m)
      exact ⟨s :: l2, rfl⟩
  obtain ⟨B, hB⟩ := key _ fun d m => by
    obtain ⟨s, _, rfl⟩ := List.mem_map.mp (hp.mem_iff.mp m)
    exact ⟨s, rfl⟩
  refine ⟨B, ?_, ?_, ?_⟩
  · rw [z_sorted, hB, iff?_pos]
    refine ⟨pureL_map (φ := fun x : Arc => arcD x) (fun _ => rfl) A, ?_, ?_⟩
    · simp [D.py, D.pyL]
    · unfold sortB
      simp only [List.map_map, List.all_map, Bool.and_eq_true, Bool.or_eq_true, List.all_eq_true, Function.comp]
      exact ⟨⟨fun a _ b _ => rfl, .inl fun a _ => rfl⟩, fun a _ => rfl⟩
  · rw [hB] at hp
    have := hp.map (fun d => match d with
      | D.tupF _ [.int a, .str m, .int b] => (a.toNat, m, b.toNat)
      | _ => ((0, default, 0) : Arc))
    simpa [List.map_map, Function.comp_def] using this
  · have hpw2 : (B.map arcD).Pairwise fun a b => PySem.W.dataLe false encD a b = true := by rw [← hB]; exact hpw
    rw [List.pairwise_map] at hpw2
    exact hpw2.imp fun {x y} h e => arc_leL h e
section
variable {α β : Type} {bd : D → DEnv → Option DEnv} {cl : List Nat} {body : Stm}
theorem WhR.ret {c : DEnv → Out (Bool × DEnv)} {body : Stm} {e e1 e2 : DEnv} {d : D} (h : c e = .ok (true, e1)) (hb : body e1 = .ok (.rt d e2)) : WhR c body e (.rt d e2) := ⟨1, by
  rw [whileN, h]
  simp only [Out.bind_ok, if_true]
  rw [hb]; rfl⟩
end
abbrev mkE : EqOk dMk 1 := EqOk.int.tup
theorem stepF_len {k : Nat} {ps : List Plc} {M M' : List Int} (h : stepF k ps M = some M') (hM : M.length = ps.length) : M'.length = ps.length := by
  unfold stepF at h
  split at h
  · cases h
    rw [List.length_map, List.length_zip]; omega
  · cases h
theorem fi_app {P : List (List Int)} {q : List Int} (h : q ∉ P) : (P ++ [q]).findIdx? (fun z => decide (z = q)) = some P.length := by
  rw [List.findIdx?_append, List.findIdx?_eq_none_iff.mpr]
  · simp
  · intro z hz
    simp only [decide_eq_false_iff_not]
    intro e
    exact h (e ▸ hz)
theorem fi_mem {P : List (List Int)} {q : List Int} (h : q ∈ P) : ∃ i, P.findIdx? (fun z => decide (z = q)) = some i ∧ i < P.length ∧ P[i]? = some q := by
  cases hf : P.findIdx? fun z => decide (z = q) with
  | none =>
    rw [List.findIdx?_eq_none_iff] at hf
    exact absurd (hf q h) (by simp)
  | some i =>
    obtain ⟨hl, h2, _⟩ := List.findIdx?_eq_some_iff_getElem.mp hf
    exact ⟨i, rfl, hl, by rw [List.getElem?_eq_getElem hl]; exact congrArg some (of_decide_eq_true h2)⟩
end DL
namespace DL
open PySem PySem.Spec PyProof.Rows L2
theorem cell_ok (ns : List Int) (k : Int) (h : 0 ≤ k) : fn_law_cell_at [.scr ns, .int k] = .ok (.int (cv ns k.toNat), []) := by
  obtain ⟨n, rfl⟩ := Int.eq_ofNat_of_zero_le h
  by_cases hn : n < ns.length
  · have e := scr_ix hn
    simp only [z_ixscr] at e
    simp [fn_law_cell_at, b_law_cell_at, hn, e]
  · have e : cv ns n = 0 := by simp [cv, List.getD_eq_getElem?_getD, List.getElem?_eq_none (Nat.le_of_not_lt hn)]
    simp [fn_law_cell_at, b_law_cell_at, hn, e]
end DL
namespace DL
open PySem PySem.Spec PyProof.Rows L2
theorem fm_ok {ms : List Str} {ps : List Plc} (hl : ps.length < 1000) : fn_first_marking [dNet ms ps] = .ok (dMk (ps.map (·.1)), []) := by
  have hc := lcG_map (bd := bTup (bCons (bName 1) (bCons (bName 2) (bCons (bName 3) bNil)))) (cl := [1, 2, 3]) (elt := eP (hVar 1)) (e0 := [some (.brw, dNet ms ps), none, none, none]) (g := fun p : Plc => D.int p.1) (φ := dPl) ps fun p hp => by
    simp [dPl]
  have e0 : ps.map (fun p : Plc => D.int p.1) = (ps.map (·.1)).map D.int := by rw [List.map_map]; rfl
  rw [e0] at hc
  have hPL : (ps.map dPl).length < 16777216 := by rw [List.length_map]; omega
  have hM2 : D.pureL ((ps.map (·.1)).map D.int) = true := pureL_ints _
  dsimp only [dNet, dMk] at hc ⊢
  clear e0
  generalize (ps.map (·.1)).map D.int = M0 at *
  generalize ps.map dPl = PLD at *
  generalize ms.map D.str = ND at *
  simp [fn_first_marking, b_first_marking, hc, hPL, hM2]
def cgBody : Stm := (sSeq (sIf (hB (hOp [.pur (hVar 4), .pur (hRd (pIx (pIx (pVar 5) (hC (.int 1))) (hVar 3)))] gLt)) (sSeq (sRet (eP (hC (.bl false))))
  sNop) sNop)
  sNop)
theorem cg_eq : b_can_go = (sSeq (sSet 3 (eP (hOp [.put (hRd (pIx (pVar 0) (hC (.int 0)))) (tyD "tuple"), .pur (hVar 2)] gTIx)))
  (sSeq (sFor [.pur (hVar 1), .plc 0 (pIx (pVar 0) (hC (.int 1)))] mkZip (bTup (bCons (bName 4) (bCons (bName 5) bNil))) [4, 5] cgBody)
  (sSeq (sRet (eP (hC (.bl true))))
  sNop))) := rfl
abbrev goesB (k : Nat) (ps : List Plc) (M : List Int) : Bool := (M.zip ps).all fun z => decide (tk z.2 k ≤ z.1)
theorem cango_ok {ms : List Str} {ps : List Plc} {M : List Int} {s : Str} (hs : s ∈ ms) (hp : ∀ p ∈ ps, PWF ms.length p) : fn_can_go [dNet ms ps, dMk M, .str s] = .ok (.bl (goesB (ixOf ms s) ps M), []) := by
  obtain ⟨h1, h2⟩ := ixOf_some hs
  generalize ixOf ms s = k at h1 h2
  have hz := zipD_map (φ := D.int) (ψ := dPl) M ps
  have hmem : ∀ z ∈ M.zip ps, PWF ms.length z.2 := fun z hz => hp _ (List.of_mem_zip hz).2
  have hscan := forD_scan (bd := bTup (bCons (bName 4) (bCons (bName 5) bNil))) (cl := [4, 5]) (body := cgBody) (d := .bl false) (st := fun _ : Unit => [some (.brw, dNet ms ps), some (.brw, dMk M), some (.brw, .str s), some (.own, .int k), none, none]) (f := fun a (z : Int × Plc) => a) (c := fun z : Int × Plc => decide (tk z.2 k ≤ z.1)) (φ := fun z : Int × Plc => D.tup [.int z.1, dPl z.2]) (M.zip ps) () (fun a z hz hc => by
      have hw := hmem z hz
      have hc : tk z.2 k ≤ z.1 := of_decide_eq_true hc
      have e1 : atI (z.2.2.1.map D.int) (k : Int) = some (.int (tk z.2 k)) := at_mapI (by rw [hw.tl]; exact h2)
      have hn : ¬ z.1 < tk z.2 k := by omega
      unfold Turn1 cgBody
      simp [dPl, e1, hn]) (fun a z hz hc => by
      have hw := hmem z hz
      have hc : ¬ tk z.2 k ≤ z.1 := of_decide_eq_false hc
      have e1 : atI (z.2.2.1.map D.int) (k : Int) = some (.int (tk z.2 k)) := at_mapI (by rw [hw.tl]; exact h2)
      have hn : z.1 < tk z.2 k := by omega
      refine ⟨[some (.brw, dNet ms ps), some (.brw, dMk M), some (.brw, .str s), some (.own, .int k), some (.own, .int z.1), some (.own, dPl z.2)], [some (.brw, dNet ms ps), some (.brw, dMk M), some (.brw, .str s), some (.own, .int k), some (.own, .int z.1), some (.own, dPl z.2)], [some (.brw, dNet ms ps), some (.brw, dMk M), some (.brw, .str s), some (.own, .int k), none, none], ?_, ?_, by simp⟩
      · simp [dPl]
      · unfold cgBody
        simp [dPl, e1, hn])
  obtain ⟨g1, g2⟩ := hscan
  unfold goesB
  by_cases hall : ((M.zip ps).all fun z => decide (tk z.2 k ≤ z.1)) = true
  · have g := g1 hall
    rw [hall]
    simp only [dNet, dMk] at g
    simp [fn_can_go, cg_eq, dNet, dMk, h1, hz, g]
  · have hall2 : ((M.zip ps).all fun z => decide (tk z.2 k ≤ z.1)) = false := by simpa using hall
    obtain ⟨e, g⟩ := g2 hall2
    rw [hall2]
    simp only [dNet, dMk] at g
    simp [fn_can_go, cg_eq, dNet, dMk, h1, hz, g]
theorem moved_ok {ms : List Str} {ps : List Plc} {M : List Int} {s : Str} (hs : s ∈ ms) (hp : ∀ p ∈ ps, PWF ms.length p) (hM : M.length = ps.length) (hl : ps.length < 1000) : fn_moved [dNet ms ps, dMk M, .str s] = .ok (dStep (stepF (ixOf ms s) ps M), []) := by
  have hg := cango_ok (M := M) hs hp
  obtain ⟨h1, h2⟩ := ixOf_some hs
  generalize ixOf ms s = k at h1 h2 hg
  have hz := zipD_map (φ := D.int) (ψ := dPl) M ps
  have hmem : ∀ z ∈ M.zip ps, PWF ms.length z.2 := fun z hz => hp _ (List.of_mem_zip hz).2
  have hc := lcG_map (bd := bTup (bCons (bName 4) (bCons (bName 5) bNil))) (cl := [4, 5]) (elt := eP (hOp [.pur (hOp [.pur (hVar 4), .pur (hRd (pIx (pIx (pVar 5) (hC (.int 1))) (hVar 3)))] gSub), .pur (hRd (pIx (pIx (pVar 5) (hC (.int 2))) (hVar 3)))] gAdd)) (e0 := [some (.brw, dNet ms ps), some (.brw, dMk M), some (.brw, .str s), some (.own, .int k), none, none]) (g := fun z : Int × Plc => D.int (z.1 - tk z.2 k + gv z.2 k)) (φ := fun z : Int × Plc => D.tup [.int z.1, dPl z.2]) (M.zip ps) fun z hz => by
    have hw := hmem z hz
    have e1 : atI (z.2.2.1.map D.int) (k : Int) = some (.int (tk z.2 k)) := at_mapI (by rw [hw.tl]; exact h2)
    have e2 : atI (z.2.2.2.map D.int) (k : Int) = some (.int (gv z.2 k)) := at_mapI (by rw [hw.gl]; exact h2)
    simp [dPl, e1, e2]
  have e0 : (M.zip ps).map (fun z : Int × Plc => D.int (z.1 - tk z.2 k + gv z.2 k)) = ((M.zip ps).map fun z => z.1 - tk z.2 k + gv z.2 k).map D.int := by rw [List.map_map]; rfl
  rw [e0] at hc
  have hzl : ((M.zip ps).map fun z : Int × Plc => D.tup [.int z.1, dPl z.2]).length < 16777216 := by rw [List.length_map, List.length_zip]; omega
  have hp3 : D.pureL (M.map D.int) = true := pureL_ints M
  have hp2 : D.pureL (((M.zip ps).map fun z => z.1 - tk z.2 k + gv z.2 k).map D.int) = true := pureL_ints _
  unfold stepF
  by_cases hall : ((M.zip ps).all fun z => decide (tk z.2 k ≤ z.1)) = true
  · have hg' : fn_can_go [dNet ms ps, dMk M, .str s] = .ok (.bl true, []) := by rw [hg]; unfold goesB; rw [hall]
    rw [if_pos hall]
    simp only [dNet, dMk, dStep] at *
    clear hg hall hmem e0
    generalize ((M.zip ps).map fun z => z.1 - tk z.2 k + gv z.2 k).map D.int = R at *
    generalize (M.zip ps).map (fun z : Int × Plc => D.tup [.int z.1, dPl z.2]) = ZD at *
    generalize M.map D.int = MD at *
    generalize ps.map dPl = PD at *
    simp [fn_moved, b_moved, hg', h1, hz, hc, hzl, hp2, hp3]
  · have hall2 : ((M.zip ps).all fun z => decide (tk z.2 k ≤ z.1)) = false := by simpa using hall
    have hg' : fn_can_go [dNet ms ps, dMk M, .str s] = .ok (.bl false, []) := by rw [hg]; unfold goesB; rw [hall2]
    rw [if_neg hall]
    simp only [dNet, dMk, dStep] at *
    simp [fn_moved, b_moved, hg']
end DL
namespace DL
open PySem PySem.Spec PyProof.Rows L2
structure MS where
  P : List (List Int)
  A : List Arc
  H : List (Option Nat)
  W : List (List Str)
def ahD : Option Nat → D
  | none => .non
  | some n => .int n
def wyD (w : List Str) : D := .tup (w.map .str)
def kM (M : List Int) : List Key := M.map .inl
def ixM (P : List (List Int)) (M : List Int) : Nat := (P.findIdx? fun z => decide (z = M)).getD 0
def mtF : List Str := ["net", "markings", "numbers", "ahead", "ways", "arcs"]
def nuV (P : List (List Int)) : List D := P.map fun M => .int (ixM P M)
abbrev mtO (nd : D) (s : MS) : D := .fob "Meeting" mtF [.bor nd, .lst (s.P.map dMk), .dt (s.P.map kM) (nuV s.P), .lst (s.H.map ahD), .lst (s.W.map wyD), .lst (s.A.map arcD)]
def ms0 (M : List Int) : MS := ⟨[M], [], [none], [[]]⟩
@[simp] theorem z_pbor {d : D} : D.pure (.bor d) = true := rfl
section
variable {x a b c d e f : D} {en : DEnv}
@[simp] theorem mt_s1 : stK ["Meeting"] "net" [x, .obj "Meeting" [] []] en = .ok (.non, [.obj "Meeting" ["net"] [x]], en) := st_step (by decide +kernel) rfl
@[simp] theorem mt_s2 : stK ["Meeting"] "markings" [x, .obj "Meeting" ["net"] [a]] en = .ok (.non, [.obj "Meeting" ["net", "markings"] [a, x]], en) := st_step (by decide +kernel) rfl
@[simp] theorem mt_s3 : stK ["Meeting"] "numbers" [x, .obj "Meeting" ["net", "markings"] [a, b]] en = .ok (.non, [.obj "Meeting" ["net", "markings", "numbers"] [a, b, x]], en) := st_step (by decide +kernel) rfl
@[simp] theorem mt_s4 : stK ["Meeting"] "ahead" [x, .obj "Meeting" ["net", "markings", "numbers"] [a, b, c]] en = .ok (.non, [.obj "Meeting" ["net", "markings", "numbers", "ahead"] [a, b, c, x]], en) := st_step (by decide +kernel) rfl
@[simp] theorem mt_s5 : stK ["Meeting"] "ways" [x, .obj "Meeting" ["net", "markings", "numbers", "ahead"] [a, b, c, d]] en = .ok (.non, [.obj "Meeting" ["net", "markings", "numbers", "ahead", "ways"] [a, b, c, d, x]], en) := st_step (by decide +kernel) rfl
@[simp] theorem mt_s6 : stK ["Meeting"] "arcs" [x, .obj "Meeting" ["net", "markings", "numbers", "ahead", "ways"] [a, b, c, d, e]] en = .ok (.non, [.obj "Meeting" mtF [a, b, c, d, e, x]], en) := st_step (by decide +kernel) rfl
theorem mt_lk (vs : List D) (g : Str) (n : Nat) (h : (decide (("Meeting" : Str) ∈ (["Meeting"] : List Str)) && decide ((mtF.zip (List.range 6)).lookup g = some n)) = true) (hl : vs.length = 6) : fAt ["Meeting"] "Meeting" mtF vs g = vs[n]? := by
  simp only [Bool.and_eq_true, decide_eq_true_eq] at h
  unfold fAt
  rw [if_pos h.1]
  obtain ⟨a, b, c, d, e, f, rfl⟩ : ∃ a b c d e f, vs = [a, b, c, d, e, f] := by
    match vs, hl with
    | [a, b, c, d, e, f], _ => exact ⟨a, b, c, d, e, f, rfl⟩
  have e1 : [a, b, c, d, e, f] = (List.range 6).map fun i => ([a, b, c, d, e, f] : List D).getD i a := rfl
  have key : ∀ (fs : List Str) (l : List Nat) (F : Nat → D), (fs.zip (l.map F)).lookup g = ((fs.zip l).lookup g).map F := fun fs => by
    induction fs with
    | nil => intro l F; rfl
    | cons s r ih =>
      intro l F
      cases l with
      | nil => rfl
      | cons k l =>
        rw [List.map_cons, List.zip_cons_cons, List.zip_cons_cons, List.lookup_cons, List.lookup_cons]
        cases (g == s) with
        | true => rfl
        | false => exact ih l F
  rw [e1, key, h.2]
  have hn : n < 6 := by
    have hz := h.2
    have : ∀ (fs : List Str) (l : List Nat) (n : Nat), (fs.zip l).lookup g = some n → n ∈ l := fun fs => by
      induction fs with
      | nil => intro l n h; cases h
      | cons s r ih =>
        intro l n h
        cases l with
        | nil => cases h
        | cons k l =>
          rw [List.zip_cons_cons, List.lookup_cons] at h
          cases hb : (g == s) with
          | true => rw [hb] at h; cases h; exact List.mem_cons_self
          | false => rw [hb] at h; exact List.mem_cons_of_mem _ (ih l n h)
    exact List.mem_range.mp (this _ _ _ hz)
  rw [List.getElem?_map, List.getElem?_range hn]
@[simp] theorem mt_a0 : fAt ["Meeting"] "Meeting" mtF [a, b, c, d, e, f] "net" = some a := mt_lk _ _ 0 (by decide +kernel) rfl
@[simp] theorem mt_a1 : fAt ["Meeting"] "Meeting" mtF [a, b, c, d, e, f] "markings" = some b := mt_lk _ _ 1 (by decide +kernel) rfl
@[simp] theorem mt_a2 : fAt ["Meeting"] "Meeting" mtF [a, b, c, d, e, f] "numbers" = some c := mt_lk _ _ 2 (by decide +kernel) rfl
@[simp] theorem mt_a3 : fAt ["Meeting"] "Meeting" mtF [a, b, c, d, e, f] "ahead" = some d := mt_lk _ _ 3 (by decide +kernel) rfl
@[simp] theorem mt_a4 : fAt ["Meeting"] "Meeting" mtF [a, b, c, d, e, f] "ways" = some e := mt_lk _ _ 4 (by decide +kernel) rfl
@[simp] theorem mt_a5 : fAt ["Meeting"] "Meeting" mtF [a, b, c, d, e, f] "arcs" = some f := mt_lk _ _ 5 (by decide +kernel) rfl
@[simp] theorem mt_i1 : fIxO mtF "markings" = some 1 := by decide +kernel
@[simp] theorem mt_i2 : fIxO mtF "numbers" = some 2 := by decide +kernel
@[simp] theorem mt_i3 : fIxO mtF "ahead" = some 3 := by decide +kernel
@[simp] theorem mt_i4 : fIxO mtF "ways" = some 4 := by decide +kernel
@[simp] theorem mt_i5 : fIxO mtF "arcs" = some 5 := by decide +kernel
theorem mt_c (m : Str) (h : (decide (m ∉ mtF) && decide (mtF.length = 6)) = true) : clsOk "Meeting" m (.fob "Meeting" mtF [a, b, c, d, e, f]) = true := by
  simp only [Bool.and_eq_true, decide_eq_true_eq] at h
  unfold clsOk
  simp only [Bool.and_eq_true, decide_eq_true_eq]
  exact ⟨⟨trivial, h.1⟩, h.2⟩
@[simp] theorem mt_c1 : clsOk "Meeting" "number_of" (.fob "Meeting" mtF [a, b, c, d, e, f]) = true := mt_c _ (by decide +kernel)
@[simp] theorem mt_c2 : clsOk "Meeting" "meet" (.fob "Meeting" mtF [a, b, c, d, e, f]) = true := mt_c _ (by decide +kernel)
end
theorem keysL_ints : ∀ l : List Int, keysL (l.map D.int) = some (l.map Sum.inl)
  | [] => rfl
  | a :: l => by
    rw [List.map_cons, z_keysl1, z_keyi, keysL_ints l]
    rfl
theorem keys_mk (M : List Int) : keysD (dMk M) = some (kM M) := keysL_ints M
theorem kM_inj (a b : List Int) (h : kM a = kM b) : a = b := by
  unfold kM at h
  have := congrArg (fun l => l.map fun k : Key => match k with
    | .inl i => i
    | .inr _ => 0) h
  simpa [List.map_map, Function.comp_def] using this
theorem init_ok {ms : List Str} {ps : List Plc} (hl : ps.length < 1000) : fn_Meeting___init__ [.obj "Meeting" [] [], .bor (dNet ms ps)] = .ok (.non, [.obj "Meeting" mtF [.bor (dNet ms ps), .lst [dMk (ps.map (·.1))], .dt [kM (ps.map (·.1))] [.int 0], .lst [.non], .lst [wyD []], .lst []]]) := by
  have h1 := fm_ok (ms := ms) hl
  have hk := keys_mk (ps.map (·.1))
  have hun : unb (dNet ms ps) = dNet ms ps := rfl
  have hw : wyD [] = .tup [] := rfl
  generalize dMk (ps.map (·.1)) = md at *
  generalize dNet ms ps = nd at *
  simp [fn_Meeting___init__, b_Meeting___init__, h1, hk, hw, hun]
def mNum (s : MS) (d : Nat) (x : Str) (q : List Int) : MS := if q ∈ s.P then s else ⟨s.P ++ [q], s.A, s.H ++ [some d], s.W ++ [s.W.getD d [] ++ [x]]⟩
theorem ixM_app {P : List (List Int)} {M q : List Int} (h : M ∈ P) : ixM (P ++ [q]) M = ixM P M := by
  unfold ixM
  obtain ⟨i, hi, _, _⟩ := fi_mem h
  rw [List.findIdx?_append, hi]
  rfl
theorem ixM_new {P : List (List Int)} {q : List Int} (h : q ∉ P) : ixM (P ++ [q]) q = P.length := by
  unfold ixM
  rw [fi_app h]
  rfl
theorem nuV_app {P : List (List Int)} {q : List Int} (h : q ∉ P) : nuV (P ++ [q]) = nuV P ++ [.int P.length] := by
  unfold nuV
  rw [List.map_append, List.map_cons, List.map_nil, ixM_new h]
  congr 1
  exact List.map_congr_left fun M hM => by rw [ixM_app hM]
theorem num_look (P : List (List Int)) (q : List Int) (h : q ∈ P) : lookP (P.map kM) (nuV P) (kM q) = some (.int (ixM P q)) := look_some h fun b hb e => by rw [kM_inj _ _ e]
theorem num_none (P : List (List Int)) (q : List Int) (h : q ∉ P) : lookP (P.map kM) (nuV P) (kM q) = none := look_none fun a ha e => h (kM_inj _ _ e ▸ ha)
structure MI (n : Nat) (s : MS) : Prop where
  h : s.H.length = s.P.length
  w : s.W.length = s.P.length
  wl : ∀ w ∈ s.W, w.length ≤ s.W.length
  p : s.P.length ≤ 1000
  a : s.A.length ≤ 1000
  ml : ∀ M ∈ s.P, M.length = n
  hd : ∀ (i a : Nat), s.H[i]? = some (some a) → a < i
theorem pureL_nuV (P : List (List Int)) : D.pureL (nuV P) = true := pureL_map (fun _ => rfl) P
theorem pureL_strs (P : List Str) : D.pureL (P.map D.str) = true := pureL_map (fun _ => rfl) P
theorem number_ok {nd : D} {s : MS} {n d : Nat} {x : Str} {q : List Int} (hI : MI n s) (hd : d < s.P.length) : fn_Meeting_number_of [mtO nd s, dMk q, .int d, .str x] = .ok (.int (ixM (mNum s d x q).P q), [mtO nd (mNum s d x q)]) := by
  have hk := keys_mk q
  have hq : (dMk q).pure = true := pureL_ints q
  have hat : atI (s.W.map wyD) (d : Int) = some (wyD (s.W.getD d [])) := by
    have hdw : d < s.W.length := by rw [hI.w]; exact hd
    rw [atI_nat (j := d) (v := wyD (s.W.getD d []))]
    rw [List.getElem?_map, List.getElem?_eq_getElem hdw, List.getD_eq_getElem?_getD, List.getElem?_eq_getElem hdw]
    rfl
  have hp1 := pureL_nuV s.P
  have hPl : s.P.length < 16777216 := by have := hI.p; omega
  have hHl : s.H.length < 16777216 := by have := hI.p; have := hI.h; omega
  have hWl : s.W.length < 16777216 := by have := hI.p; have := hI.w; omega
  by_cases hm : q ∈ s.P
  · have h1 := num_look s.P q hm
    unfold mNum
    rw [if_pos hm]
    dsimp only [mtO]
    generalize s.P.map kM = KD at *
    generalize nuV s.P = VD at *
    generalize s.P.map dMk = PD at *
    generalize s.H.map ahD = HD at *
    generalize s.W.map wyD = WD at *
    generalize s.A.map arcD = AD at *
    generalize dMk q = qd at *
    simp [fn_Meeting_number_of, b_Meeting_number_of, hk, hq, h1]
  · have h1 := num_none s.P q hm
    obtain ⟨p1, p2⟩ := put_new (L := s.P) (f := kM) (g := fun M => D.int (ixM s.P M)) (k := kM q) (x := .int s.P.length) fun a ha e => hm (kM_inj _ _ e ▸ ha)
    have h2 : lookP ((s.P ++ [q]).map kM) (nuV (s.P ++ [q])) (kM q) = some (.int (ixM (s.P ++ [q]) q)) := num_look _ q (by simp)
    rw [nuV_app hm, ixM_new hm] at h2
    have hw1 : ∀ w : List Str, w ∈ s.W → w.length ≤ 1000 := fun w hw => by have := hI.wl w hw; have := hI.w; have := hI.p; omega
    have hwd : s.W.getD d [] ∈ s.W := by
      have hdw : d < s.W.length := by rw [hI.w]; exact hd
      rw [List.getD_eq_getElem?_getD, List.getElem?_eq_getElem hdw]
      exact List.getElem_mem hdw
    have hwl := hw1 _ hwd
    have hwp := pureL_strs (s.W.getD d [])
    have hwl2 : ((s.W.getD d []).map D.str).length + 1 ≤ 16777216 := by rw [List.length_map]; omega
    unfold mNum
    rw [if_neg hm]
    have e1 : (s.W ++ [s.W.getD d [] ++ [x]]).map wyD = s.W.map wyD ++ [.tup ((s.W.getD d []).map D.str ++ [.str x])] := by
      simp [wyD]
    have e2 : (s.H ++ [some d]).map ahD = s.H.map ahD ++ [.int d] := by simp [ahD]
    have e3 : (s.P ++ [q]).map dMk = s.P.map dMk ++ [dMk q] := by simp
    have e4 : (s.P ++ [q]).map kM = s.P.map kM ++ [kM q] := by simp
    have p2' : putVs (s.P.map kM) (nuV s.P) (kM q) (.int s.P.length) = nuV s.P ++ [.int s.P.length] := p2
    have p1' : putKs (s.P.map kM) (nuV s.P) (kM q) (.int s.P.length) = s.P.map kM ++ [kM q] := p1
    dsimp only [mtO]
    rw [e1, e2, e3, e4, nuV_app hm, ixM_new hm]
    rw [e4] at h2
    have hat2 : atI (s.W.map wyD) (d : Int) = some (.tup ((s.W.getD d []).map D.str)) := hat
    have lK : (s.P.map kM).length = s.P.length := List.length_map ..
    have lP : (s.P.map dMk).length = s.P.length := List.length_map ..
    have lH : (s.H.map ahD).length = s.H.length := List.length_map ..
    have lW : (s.W.map wyD).length = s.W.length := List.length_map ..
    clear p1 p2 hat e1 e2 e3 e4 hw1 hwd hI
    generalize (s.W.getD d []).map D.str = wd at *
    generalize s.P.map kM = KD at *
    generalize nuV s.P = VD at *
    generalize s.P.map dMk = PD at *
    generalize s.H.map ahD = HD at *
    generalize s.W.map wyD = WD at *
    generalize s.A.map arcD = AD at *
    generalize dMk q = qd at *
    simp [fn_Meeting_number_of, b_Meeting_number_of, hk, hq, h1, h2, hp1, hPl, hHl, hWl, lP, lK, lH, lW, p1', p2', hat2, hwp, hwl2]
end DL
namespace DL
open PySem PySem.Spec PyProof.Rows L2
section
variable {bd : D → DEnv → Option DEnv} {cl : List Nat} {body : Stm} {α β : Type}
/-- a loop that may return, with what it leaves -/
theorem forD_stop {st : α → DEnv} {d : D} {φ : β → D} {f : α → β → Except α α} {I : Nat → α → Prop} {Er : α → Prop} : ∀ (xs : List β) (i : Nat) (a : α), I i a → (∀ j a x, xs[j]? = some x → I (i + j) a → match f a x with
      | .ok b => I (i + j + 1) b ∧ Turn1 bd cl body (φ x) (st a) (st b)
      | .error b => Er b ∧ ∃ e1 e2, bd (φ x) (st a) = some e1 ∧ body e1 = .ok (.rt d e2) ∧ dropS cl e2 = some (st b)) →
    match xs.foldlM f a with
      | .ok b => I (i + xs.length) b ∧ forD bd cl body (xs.map φ) (st a) = .ok (.nx (st b))
      | .error b => Er b ∧ forD bd cl body (xs.map φ) (st a) = .ok (.rt d (st b))
  | [], i, a, hI, _ => ⟨hI, rfl⟩
  | x :: xs, i, a, hI, h => by
    have h0 := h 0 a x rfl hI
    rw [List.foldlM_cons]
    cases hf : f a x with
    | error b =>
      rw [hf] at h0
      obtain ⟨hE, e1, e2, q1, q2, q3⟩ := h0
      show Er b ∧ forD bd cl body ((x :: xs).map φ) (st a) = .ok (.rt d (st b))
      refine ⟨hE, ?_⟩
      rw [List.map_cons, forD, q1]
      simp only [must_some, q2, Out.bind_ok, q3]
    | ok b =>
      rw [hf] at h0
      obtain ⟨h1, h2⟩ := h0
      have ih := forD_stop xs (i + 1) b h1 fun j c y hy hc => by
        have := h (j + 1) c y hy (by rw [show i + (j + 1) = i + 1 + j by omega]; exact hc)
        rw [show i + (j + 1) + 1 = i + 1 + j + 1 by omega] at this
        exact this
      rw [List.map_cons, forD_cons h2]
      show match xs.foldlM f b with
        | .ok b => _
        | .error b => _
      rw [show i + (x :: xs).length = i + 1 + xs.length by rw [List.length_cons]; omega]
      exact ih
end
def mStepE (most : Nat) (ms : List Str) (ps : List Plc) (d : Nat) (p : List Int) (s : MS) (x : Str) : Except MS MS := match stepF (ixOf ms x) ps p with
  | none => .ok s
  | some q => if (mNum s d x q).P.length = most then .error ⟨(mNum s d x q).P, (mNum s d x q).A ++ [(d, x, ixM (mNum s d x q).P q)], (mNum s d x q).H, (mNum s d x q).W⟩ else .ok ⟨(mNum s d x q).P, (mNum s d x q).A ++ [(d, x, ixM (mNum s d x q).P q)], (mNum s d x q).H, (mNum s d x q).W⟩
def mPass (most : Nat) (ms : List Str) (ps : List Plc) (d : Nat) (s : MS) : Except MS MS := ms.foldlM (mStepE most ms ps d (s.P.getD d [])) s
def mAll (most : Nat) (ms : List Str) (ps : List Plc) : Nat → Nat → MS → Except MS MS
  | 0, _, s => .ok s
  | n + 1, d, s => if d < s.P.length then (mPass most ms ps d s).bind (mAll most ms ps n (d + 1)) else .ok s
def mIn : Stm := (sSeq (sSet 4 (eK (.fin [.plc 0 (pUn (pAt (pVar 0) ["Meeting"] "net")), .pur (hRd (pIx (pAt (pVar 0) ["Meeting"] "markings") (hVar 2))), .pur (hVar 3)]) (callK [.b, .b, .b] fn_moved)))
  (sSeq (sIf (hB (hOp [.pur (hVar 4), .pur (hC .non)] gNotN)) (sSeq (sExpr (isF 0 ["Meeting"] "arcs" isLstD (eK (.own (eK (.pur (hVar 2) (.pur (hVar 3) (.own (isO 0 "Meeting" "number_of" (eK (.io 0 (.fin [.pur (hVar 4), .pur (hVar 2), .pur (hVar 3)])) (callK [.io, .b, .b, .b] (noX fn_Meeting_number_of)))) (.fin [])))) (dspK .tup)) (.io 0 (.fin []))) (fobK "arcs" appY))))
  (sSeq (sIf (hB (hOp [.pur (hOp [.plc 0 (pAt (pVar 0) ["Meeting"] "markings")] gLen), .pur (hVar 1)] gEq)) (sSeq sRetN
  sNop) sNop)
  sNop)) sNop)
  sNop))
def mWh : Stm := (sSeq (sSeq (sFor [.pur (hRd (pIx (pUn (pAt (pVar 0) ["Meeting"] "net")) (hC (.int 0))))] mkSeq (bName 3) [3, 4] mIn)
  (sSeq (sAug 2 (bin (bI fun a b => some (.int (a + b)))) (eP (hC (.int 1))))
  sNop)) (sDrop [3, 4]))
abbrev mC : DEnv → Out (Bool × DEnv) := (eBp (hB (hOp [.pur (hVar 2), .pur (hOp [.plc 0 (pAt (pVar 0) ["Meeting"] "markings")] gLen)] gLt)))
theorem meet_eq : b_Meeting_meet = (sSeq (sSet 2 (eP (hC (.int 0))))
  (sSeq (sWhile mC mWh)
  sNop)) := rfl
abbrev mSt (ms : List Str) (ps : List Plc) (most : Nat) (s : MS) (d : Nat) : DEnv := [some (.io, mtO (dNet ms ps) s), some (.brw, .int most), some (.own, .int d), none, none]
theorem mNum_I {n d : Nat} {s : MS} {x : Str} {q : List Int} (hI : MI n s) (hd : d < s.P.length) (hp : s.P.length < 1000) (hq : q.length = n) : MI n (mNum s d x q) := by
  unfold mNum
  split
  · exact hI
  · refine ⟨by simp [hI.h], by simp [hI.w], fun w hw => ?_, by simp; omega, hI.a, fun M hM => ?_, fun i a hi => ?_⟩
    · rw [List.length_append, List.length_singleton]
      rcases List.mem_append.mp hw with h | h
      · have := hI.wl w h; omega
      · rw [List.mem_singleton.mp h, List.length_append, List.length_singleton]
        have hdw : d < s.W.length := by rw [hI.w]; exact hd
        have : s.W.getD d [] ∈ s.W := by
          rw [List.getD_eq_getElem?_getD, List.getElem?_eq_getElem hdw]
          exact List.getElem_mem hdw
        have := hI.wl _ this
        omega
    · rcases List.mem_append.mp hM with h | h
      · exact hI.ml M h
      · rw [List.mem_singleton.mp h]; exact hq
    · by_cases hil : i < s.H.length
      · rw [List.getElem?_append_left hil] at hi; exact hI.hd i a hi
      · rw [List.getElem?_append_right (by omega)] at hi
        have h0 : i - s.H.length = 0 := by
          have := (List.getElem?_eq_some_iff.mp hi).1
          simpa using this
        rw [h0] at hi
        have : d = a := by simpa using hi
        have := hI.h
        omega
theorem mNum_at {d : Nat} {s : MS} {x : Str} {q p : List Int} {e : Nat} (h : s.P[e]? = some p) : (mNum s d x q).P[e]? = some p := by
  unfold mNum
  split
  · exact h
  · show (s.P ++ [q])[e]? = some p
    rw [List.getElem?_append_left (List.getElem?_eq_some_iff.mp h).1]; exact h
theorem mNum_len {d : Nat} {s : MS} {x : Str} {q : List Int} : s.P.length ≤ (mNum s d x q).P.length ∧ (mNum s d x q).P.length ≤ s.P.length + 1 := by
  unfold mNum
  split
  · omega
  · show s.P.length ≤ (s.P ++ [q]).length ∧ (s.P ++ [q]).length ≤ _
    rw [List.length_append, List.length_singleton]; omega
theorem mNum_A {d : Nat} {s : MS} {x : Str} {q : List Int} : (mNum s d x q).A = s.A := by
  unfold mNum
  split <;> rfl
theorem m_turn {ms : List Str} {ps : List Plc} {most : Nat} {s : MS} {d : Nat} {p : List Int} (x : Str) (hx : x ∈ ms) (hps : ∀ p ∈ ps, PWF ms.length p) (hl : ps.length < 1000) (hI : MI ps.length s) (hp : s.P[d]? = some p) (hP : s.P.length < 900) (hA : s.A.length < 900) : match mStepE most ms ps d p s x with
    | .ok t => Turn1 (bName 3) [3, 4] mIn (.str x) (mSt ms ps most s d) (mSt ms ps most t d)
    | .error t => ∃ e1 e2, bName 3 (.str x) (mSt ms ps most s d) = some e1 ∧ mIn e1 = .ok (.rt .non e2) ∧ dropS [3, 4] e2 = some (mSt ms ps most t d) := by
  have hat : atI (s.P.map dMk) (d : Int) = some (dMk p) := atI_nat (by rw [List.getElem?_map, hp]; rfl)
  have hpm := List.mem_of_getElem? hp
  have hdl := (List.getElem?_eq_some_iff.mp hp).1
  have hg := moved_ok (M := p) hx hps (hI.ml p hpm) hl
  have hpp : (dMk p).pure = true := pureL_ints p
  unfold mStepE
  cases hq : stepF (ixOf ms x) ps p with
  | none =>
    rw [hq] at hg
    simp only [dStep, dNet] at hg
    dsimp only [mSt, mtO, dNet]
    generalize s.P.map dMk = PD at *
    generalize s.P.map kM = KD at *
    generalize nuV s.P = VD at *
    generalize s.H.map ahD = HD at *
    generalize s.W.map wyD = WD at *
    generalize s.A.map arcD = AD at *
    generalize dMk p = pd at *
    unfold Turn1 mIn
    simp [hat, hg, hpp]
  | some q =>
    rw [hq] at hg
    have hn := number_ok (nd := dNet ms ps) (x := x) (q := q) hI hdl
    have hqp : (dMk q).pure = true := pureL_ints q
    have hqn : (dMk q).isNon = false := rfl
    have hAl : (s.A.map arcD).length < 16777216 := by rw [List.length_map]; omega
    have eA := mNum_A (d := d) (s := s) (x := x) (q := q)
    simp only
    generalize mNum s d x q = t at *
    have e1 : (t.A ++ [(d, x, ixM t.P q)]).map arcD = s.A.map arcD ++ [arcD (d, x, ixM t.P q)] := by simp [eA]
    have lP : ((t.P.map dMk).length : Int) = (t.P.length : Int) := by rw [List.length_map]
    dsimp only [mtO] at hn
    rw [eA] at hn
    by_cases hm : t.P.length = most
    · rw [if_pos hm]
      dsimp only [mSt, mtO] at *
      rw [e1]
      clear e1 eA
      subst hm
      dsimp only [dStep, dNet] at *
      generalize s.P.map dMk = PD at *
      generalize s.P.map kM = KD at *
      generalize nuV s.P = VD at *
      generalize s.H.map ahD = HD at *
      generalize s.W.map wyD = WD at *
      generalize s.A.map arcD = AD at *
      generalize t.P.map dMk = PD2 at *
      generalize t.P.map kM = KD2 at *
      generalize nuV t.P = VD2 at *
      generalize t.H.map ahD = HD2 at *
      generalize t.W.map wyD = WD2 at *
      generalize dMk p = pd at *
      generalize dMk q = qd at *
      generalize ixM t.P q = j at *
      generalize t.P.length = most at *
      refine ⟨_, [some (.io, .fob "Meeting" mtF [(D.tup [.tupF true (ms.map .str), .lst (ps.map dPl)]).bor, .lst PD2, .dt KD2 VD2, .lst HD2, .lst WD2, .lst (AD ++ [arcD (d, x, j)])]), some (.brw, .int most), some (.own, .int d), some (.own, .str x), some (.own, qd)], rfl, ?_, by simp⟩
      unfold mIn
      simp [hat, hg, hpp, hqp, hqn, hn, hAl, lP]
    · rw [if_neg hm]
      have hm2 : ¬ (t.P.length : Int) = (most : Int) := by omega
      dsimp only [mSt, mtO] at *
      rw [e1]
      clear e1 eA
      dsimp only [dStep, dNet] at *
      generalize s.P.map dMk = PD at *
      generalize s.P.map kM = KD at *
      generalize nuV s.P = VD at *
      generalize s.H.map ahD = HD at *
      generalize s.W.map wyD = WD at *
      generalize s.A.map arcD = AD at *
      generalize t.P.map dMk = PD2 at *
      generalize t.P.map kM = KD2 at *
      generalize nuV t.P = VD2 at *
      generalize t.H.map ahD = HD2 at *
      generalize t.W.map wyD = WD2 at *
      generalize dMk p = pd at *
      generalize dMk q = qd at *
      generalize ixM t.P q = j at *
      unfold Turn1 mIn
      simp [hat, hg, hpp, hqp, hqn, hn, hAl, lP, hm2]
end DL
namespace DL
open PySem PySem.Spec PyProof.Rows L2
theorem mStep_I {ms : List Str} {ps : List Plc} {most d : Nat} {s : MS} {p : List Int} {x : Str} (hI : MI ps.length s) (hP : s.P.length < most) (hm : most ≤ 900) (hA : s.A.length < 900) (hp : s.P[d]? = some p) : match mStepE most ms ps d p s x with
    | .ok t => MI ps.length t ∧ t.P.length < most ∧ t.A.length ≤ s.A.length + 1 ∧ t.P[d]? = some p
    | .error t => MI ps.length t ∧ t.P.length = most ∧ t.A.length ≤ s.A.length + 1 := by
  unfold mStepE
  cases hq : stepF (ixOf ms x) ps p with
  | none => exact ⟨hI, hP, Nat.le_succ _, hp⟩
  | some q =>
    have hql := stepF_len hq (hI.ml p (List.mem_of_getElem? hp))
    have hd := (List.getElem?_eq_some_iff.mp hp).1
    have h1 := mNum_I (d := d) (x := x) (q := q) hI hd (by omega) hql
    have h2 := mNum_len (d := d) (s := s) (x := x) (q := q)
    have h3 := mNum_at (d := d) (x := x) (q := q) hp
    have h4 := mNum_A (d := d) (s := s) (x := x) (q := q)
    simp only
    generalize mNum s d x q = t at *
    have hal : (t.A ++ [(d, x, ixM t.P q)]).length = s.A.length + 1 := by rw [List.length_append, h4]; rfl
    have hI2 : MI ps.length ⟨t.P, t.A ++ [(d, x, ixM t.P q)], t.H, t.W⟩ := ⟨h1.h, h1.w, h1.wl, h1.p, by show (t.A ++ _).length ≤ 1000; omega, h1.ml, h1.hd⟩
    by_cases hm2 : t.P.length = most
    · rw [if_pos hm2]
      exact ⟨hI2, hm2, by show (t.A ++ _).length ≤ _; omega⟩
    · rw [if_neg hm2]
      exact ⟨hI2, by show t.P.length < most; omega, by show (t.A ++ _).length ≤ _; omega, h3⟩
theorem m_wh {ms : List Str} {ps : List Plc} {most d : Nat} {s : MS} (hm3 : ms.length ≤ 5) (hmo : most ≤ 20) (hps : ∀ p ∈ ps, PWF ms.length p) (hl : ps.length < 1000) (hI : MI ps.length s) (hP : s.P.length < most) (hA : s.A.length ≤ 5 * d) (hd : d < s.P.length) : match mPass most ms ps d s with
    | .ok t => (MI ps.length t ∧ t.P.length < most ∧ t.A.length ≤ 5 * (d + 1) ∧ d + 1 ≤ t.P.length) ∧ mWh (mSt ms ps most s d) = .ok (.nx (mSt ms ps most t (d + 1)))
    | .error t => (MI ps.length t ∧ t.P.length = most) ∧ mWh (mSt ms ps most s d) = .ok (.rt .non (mSt ms ps most t d)) := by
  obtain ⟨p, hp⟩ : ∃ p, s.P[d]? = some p := ⟨_, List.getElem?_eq_getElem hd⟩
  have hpg : s.P.getD d [] = p := by rw [List.getD_eq_getElem?_getD, hp]; rfl
  have key := forD_stop (bd := bName 3) (cl := [3, 4]) (body := mIn) (d := .non) (st := fun t : MS => mSt ms ps most t d) (φ := fun x : Str => .str x) (f := mStepE most ms ps d p) (I := fun j t => (MI ps.length t ∧ t.P.length < most ∧ t.A.length ≤ 5 * d + j) ∧ t.P[d]? = some p) (Er := fun t => MI ps.length t ∧ t.P.length = most) ms 0 s ⟨⟨hI, hP, hA⟩, hp⟩ fun j t x hx hJ => by
    obtain ⟨⟨tI, tP, tA⟩, tp⟩ := hJ
    rw [Nat.zero_add] at tA ⊢
    have hjl := (List.getElem?_eq_some_iff.mp hx).1
    have h1 := mStep_I (ms := ms) (x := x) tI tP (by omega) (by omega) tp
    have h2 := m_turn (most := most) x (List.mem_of_getElem? hx) hps hl tI tp (by omega) (by omega)
    cases hf : mStepE most ms ps d p t x with
    | ok u =>
      rw [hf] at h1 h2
      exact ⟨⟨⟨h1.1, h1.2.1, by have := h1.2.2.1; omega⟩, h1.2.2.2⟩, h2⟩
    | error u =>
      rw [hf] at h1 h2
      exact ⟨⟨h1.1, h1.2.1⟩, h2⟩
  unfold mPass
  rw [hpg]
  have hnp := pureL_strs ms
  have lc : ∀ t : MS, (mSt ms ps most t d) = [some (.io, mtO (.tup [.tupF true (ms.map .str), .lst (ps.map dPl)]) t), some (.brw, .int most), some (.own, .int d), none, none] := fun t => rfl
  cases hfo : ms.foldlM (mStepE most ms ps d p) s with
  | ok t =>
    rw [hfo] at key
    obtain ⟨⟨⟨tI, tP, tA⟩, tp⟩, hf⟩ := key
    refine ⟨⟨tI, tP, by omega, (List.getElem?_eq_some_iff.mp tp).1⟩, ?_⟩
    have e1 : ((d + 1 : Nat) : Int) = (d : Int) + 1 := by omega
    dsimp only [mSt, mtO, dNet] at hf ⊢
    rw [e1]
    generalize s.P.map dMk = PD at *
    generalize s.P.map kM = KD at *
    generalize nuV s.P = VD at *
    generalize s.H.map ahD = HD at *
    generalize s.W.map wyD = WD at *
    generalize s.A.map arcD = AD at *
    generalize t.P.map dMk = PD2 at *
    generalize t.P.map kM = KD2 at *
    generalize nuV t.P = VD2 at *
    generalize t.H.map ahD = HD2 at *
    generalize t.W.map wyD = WD2 at *
    generalize t.A.map arcD = AD2 at *
    generalize ms.map D.str = ND at *
    generalize ps.map dPl = PLD at *
    unfold mWh
    simp [hf, hnp]
  | error t =>
    rw [hfo] at key
    obtain ⟨hE, hf⟩ := key
    refine ⟨hE, ?_⟩
    dsimp only [mSt, mtO, dNet] at hf ⊢
    generalize s.P.map dMk = PD at *
    generalize s.P.map kM = KD at *
    generalize nuV s.P = VD at *
    generalize s.H.map ahD = HD at *
    generalize s.W.map wyD = WD at *
    generalize s.A.map arcD = AD at *
    generalize t.P.map dMk = PD2 at *
    generalize t.P.map kM = KD2 at *
    generalize nuV t.P = VD2 at *
    generalize t.H.map ahD = HD2 at *
    generalize t.W.map wyD = WD2 at *
    generalize t.A.map arcD = AD2 at *
    generalize ms.map D.str = ND at *
    generalize ps.map dPl = PLD at *
    unfold mWh
    simp [hf, hnp]
theorem m_loop {ms : List Str} {ps : List Plc} {most : Nat} (hm3 : ms.length ≤ 5) (hmo : most ≤ 20) (hps : ∀ p ∈ ps, PWF ms.length p) (hl : ps.length < 1000) : ∀ (n d : Nat) (s : MS), most ≤ d + n → d ≤ s.P.length → MI ps.length s → s.P.length < most → s.A.length ≤ 5 * d →
    match mAll most ms ps n d s with
      | .ok t => (MI ps.length t ∧ t.P.length < most) ∧ WhR mC mWh (mSt ms ps most s d) (.nx (mSt ms ps most t t.P.length))
      | .error t => (MI ps.length t ∧ t.P.length = most) ∧ ∃ e, WhR mC mWh (mSt ms ps most s d) (.rt .non (mSt ms ps most t e)) := by
  have hcn : ∀ (s : MS) (d : Nat), mC (mSt ms ps most s d) = .ok (decide (d < s.P.length), mSt ms ps most s d) := fun s d => by
    have hl : ((s.P.map dMk).length : Int) = s.P.length := by rw [List.length_map]
    have hd : decide ((d : Int) < (s.P.length : Int)) = decide (d < s.P.length) := by
      by_cases h : d < s.P.length
      · rw [decide_eq_true h, decide_eq_true (by omega)]
      · rw [decide_eq_false h, decide_eq_false (by omega)]
    dsimp only [mSt, mtO]
    generalize s.P.map dMk = PD at *
    simp [mC, hl, ← hd]
  intro n
  induction n with
  | zero =>
    intro d s hdn hd hI hP hA
    exact absurd hd (by omega)
  | succ n ih =>
    intro d s hdn hd hI hP hA
    unfold mAll
    by_cases h3 : d < s.P.length
    · have hc := hcn s d
      rw [decide_eq_true h3] at hc
      rw [if_pos h3]
      have hw := m_wh hm3 hmo hps hl hI hP hA h3
      cases hp : mPass most ms ps d s with
      | error t =>
        rw [hp] at hw
        exact ⟨hw.1, d, WhR.ret hc hw.2⟩
      | ok t =>
        rw [hp] at hw
        obtain ⟨⟨w1, w2, w3, w4⟩, w5⟩ := hw
        have ih2 := ih (d + 1) t (by omega) w4 w1 w2 w3
        show match mAll most ms ps n (d + 1) t with
          | .ok t => _
          | .error t => _
        cases hq : mAll most ms ps n (d + 1) t with
        | ok u =>
          rw [hq] at ih2
          exact ⟨ih2.1, WhR.step hc (.inl w5) ih2.2⟩
        | error u =>
          rw [hq] at ih2
          obtain ⟨g, e, g2⟩ := ih2
          exact ⟨g, e, WhR.step hc (.inl w5) g2⟩
    · have : d = s.P.length := by omega
      subst this
      have hc := hcn s s.P.length
      rw [decide_eq_false (by omega)] at hc
      rw [if_neg h3]
      exact ⟨⟨hI, hP⟩, WhR.stop hc⟩
def exMS : Except MS MS → MS
  | .ok t => t
  | .error t => t
/-- what is met -/
def metX (most : Nat) (ms : List Str) (ps : List Plc) : Except MS MS := mAll most ms ps most 0 (ms0 (ps.map (·.1)))
theorem ms0_I (ps : List Plc) : MI ps.length (ms0 (ps.map (·.1))) := ⟨rfl, rfl, fun w hw => by
  rw [List.mem_singleton.mp hw]; exact Nat.zero_le _, by show 1 ≤ 1000; omega, by show 0 ≤ 1000; omega, fun M hM => by rw [List.mem_singleton.mp hM]; simp, fun i a h => by
  cases i with
  | zero => cases h
  | succ i => cases h⟩
theorem met_I {ms : List Str} {ps : List Plc} {most : Nat} (hm3 : ms.length ≤ 5) (hmo : 2 ≤ most ∧ most ≤ 20) (hps : ∀ p ∈ ps, PWF ms.length p) (hl : ps.length < 1000) : match metX most ms ps with
    | .ok t => (MI ps.length t ∧ t.P.length < most) ∧ fn_Meeting_meet [mtO (dNet ms ps) (ms0 (ps.map (·.1))), .int most] = .ok (.non, [mtO (dNet ms ps) t])
    | .error t => (MI ps.length t ∧ t.P.length = most) ∧ fn_Meeting_meet [mtO (dNet ms ps) (ms0 (ps.map (·.1))), .int most] = .ok (.non, [mtO (dNet ms ps) t]) := by
  have h := m_loop hm3 hmo.2 hps hl most 0 (ms0 (ps.map (·.1))) (by omega) (Nat.zero_le _) (ms0_I ps) (by show 1 < most; omega) (Nat.zero_le _)
  unfold metX
  have i0 : ((0 : Nat) : Int) = 0 := rfl
  cases hm : mAll most ms ps most 0 (ms0 (ps.map (·.1))) with
  | ok t =>
    rw [hm] at h
    refine ⟨h.1, ?_⟩
    have h2 := h.2.sw
    clear h hm
    dsimp only [mSt] at h2
    rw [i0] at h2
    generalize mtO (dNet ms ps) (ms0 (ps.map (·.1))) = o1 at *
    generalize mtO (dNet ms ps) t = o2 at *
    simp [fn_Meeting_meet, meet_eq, h2]
  | error t =>
    rw [hm] at h
    obtain ⟨g, e, h2⟩ := h
    refine ⟨g, ?_⟩
    have h2 := h2.sw
    clear hm
    dsimp only [mSt] at h2
    rw [i0] at h2
    generalize mtO (dNet ms ps) (ms0 (ps.map (·.1))) = o1 at *
    generalize mtO (dNet ms ps) t = o2 at *
    simp [fn_Meeting_meet, meet_eq, h2]
end DL
namespace DL
open PySem PySem.Spec PyProof.Rows L2
section
variable {fl : Bool} {xs : List D} {d : D}
@[simp] theorem z_nob1 : (D.tupF fl xs).nob = D.nobL xs := rfl
@[simp] theorem z_nob2 : (D.lst xs).nob = D.nobL xs := rfl
@[simp] theorem z_nob3 {i : Int} : (D.int i).nob = true := rfl
@[simp] theorem z_nob4 {s : Str} : (D.str s).nob = true := rfl
@[simp] theorem z_nob5 : D.non.nob = true := rfl
@[simp] theorem z_nob6 {b : Bool} : (D.bl b).nob = true := rfl
@[simp] theorem z_nobl0 : D.nobL [] = true := rfl
@[simp] theorem z_nobl1 : D.nobL (d :: xs) = (d.nob && D.nobL xs) := rfl
@[simp] theorem z_isnonT : ((D.bor d).isNon = false) = True := eq_true rfl
end
theorem nobL_map {α : Type} {φ : α → D} (h : ∀ x, (φ x).nob = true) : ∀ l : List α, D.nobL (l.map φ) = true
  | [] => rfl
  | x :: l => by rw [List.map_cons, z_nobl1, h x, nobL_map h l]; rfl
theorem nob_mk (M : List Int) : (dMk M).nob = true := nobL_map (φ := D.int) (fun _ => rfl) M
theorem ms0_D (nd : D) (M : List Int) : mtO nd (ms0 M) = .fob "Meeting" mtF [.bor nd, .lst [dMk M], .dt [kM M] [.int 0], .lst [.non], .lst [wyD []], .lst []] := by
  have : nuV [M] = [.int 0] := by unfold nuV ixM; simp
  unfold mtO ms0
  simp only [this, List.map_cons, List.map_nil]
  rfl
end DL
namespace DL
open PySem PySem.Spec PyProof.Rows L2
def overB (M N : List Int) : Bool := (M.zip N).all fun z => !decide (z.1 < z.2)
def ovBody : Stm := (sSeq (sIf (hB (hOp [.pur (hVar 2), .pur (hVar 3)] gLt)) (sSeq (sRet (eP (hC (.bl false))))
  sNop) sNop)
  sNop)
theorem ov_eq : b_is_over = (sSeq (sFor [.pur (hVar 0), .pur (hVar 1)] mkZip (bTup (bCons (bName 2) (bCons (bName 3) bNil))) [2, 3] ovBody)
  (sSeq (sRet (eP (hC (.bl true))))
  sNop)) := rfl
theorem over_ok (M N : List Int) : fn_is_over [dMk M, dMk N] = .ok (.bl (overB M N), []) := by
  have hz := zipD_map (φ := D.int) (ψ := D.int) M N
  have p1 : D.pureL (M.map D.int) = true := pureL_ints M
  have p2 : D.pureL (N.map D.int) = true := pureL_ints N
  have hscan := forD_scan (bd := bTup (bCons (bName 2) (bCons (bName 3) bNil))) (cl := [2, 3]) (body := ovBody) (d := .bl false) (st := fun _ : Unit => [some (.brw, dMk M), some (.brw, dMk N), none, none]) (f := fun a (z : Int × Int) => a) (c := fun z : Int × Int => !decide (z.1 < z.2)) (φ := fun z : Int × Int => D.tup [.int z.1, .int z.2]) (M.zip N) () (fun a z hz hc => by
      have hn : ¬ z.1 < z.2 := by simpa using hc
      have hn2 : z.2 ≤ z.1 := by omega
      unfold Turn1 ovBody
      simp [hn, hn2]) (fun a z hz hc => by
      have hn : z.1 < z.2 := by simpa using hc
      refine ⟨[some (.brw, dMk M), some (.brw, dMk N), some (.own, .int z.1), some (.own, .int z.2)], [some (.brw, dMk M), some (.brw, dMk N), some (.own, .int z.1), some (.own, .int z.2)], [some (.brw, dMk M), some (.brw, dMk N), none, none], ?_, ?_, by simp⟩
      · simp
      · unfold ovBody
        simp [hn])
  obtain ⟨g1, g2⟩ := hscan
  unfold overB
  cases hall : (M.zip N).all fun z : Int × Int => !decide (z.1 < z.2) with
  | true =>
    have g := g1 hall
    simp only [dMk] at g ⊢
    generalize (M.zip N).map (fun z : Int × Int => D.tup [.int z.1, .int z.2]) = ZD at *
    generalize M.map D.int = MD at *
    generalize N.map D.int = ND at *
    simp [fn_is_over, ov_eq, hz, g, p1, p2]
  | false =>
    obtain ⟨e, g⟩ := g2 hall
    simp only [dMk] at g ⊢
    generalize (M.zip N).map (fun z : Int × Int => D.tup [.int z.1, .int z.2]) = ZD at *
    generalize M.map D.int = MD at *
    generalize N.map D.int = ND at *
    simp [fn_is_over, ov_eq, hz, g, p1, p2]
/-- the markings ahead, the nearest first -/
def ancs (H : List (Option Nat)) : Nat → Option Nat → List Nat
  | 0, _ => []
  | _ + 1, none => []
  | f + 1, some a => a :: ancs H f (H.getD a none)
/-- the nearest ahead that a marking is over -/
def growAt (t : MS) (i : Nat) : Option Nat := (ancs t.H t.P.length (t.H.getD i none)).find? fun a => overB (t.P.getD i []) (t.P.getD a [])
def gD (t : MS) (i a : Nat) : D := .tup [.str "grows", wyD (t.W.getD a []), wyD ((t.W.getD i []).drop (t.W.getD a []).length)]
def growD (t : MS) : D := match (List.range t.P.length).findSome? fun i => (growAt t i).map (gD t i) with
  | some d => d
  | none => .tup [.str "beyond"]
def gWh : Stm := (sSeq (sSeq (sIfE (eB (eK (.fin [.pur (hVar 3), .pur (hRd (pIx (pAt (pVar 1) ["Meeting"] "markings") (hVar 4)))]) (callK [.b, .b] fn_is_over))) (sSeq (sSet 5 (eP (hRd (pIx (pAt (pVar 1) ["Meeting"] "ways") (hVar 4)))))
  (sSeq (sRet (eP (hOp [.pur (hC (.str "grows")), .pur (hVar 5), .pur (hOp [.pur (hRd (pIx (pAt (pVar 1) ["Meeting"] "ways") (hVar 2))), .int (hOp [.pur (hVar 5)] gLen)] (slL fSlP))] fTup)))
  sNop)) sNop)
  (sSeq (sSet 4 (eP (hRd (pIx (pAt (pVar 1) ["Meeting"] "ahead") (hVar 4)))))
  sNop)) (sDrop [5]))
abbrev gC : DEnv → Out (Bool × DEnv) := (eBp (hB (hOp [.pur (hVar 4), .pur (hC .non)] gNotN)))
noncomputable def gFr : Stm := (sSeq (sSet 4 (eP (hRd (pIx (pAt (pVar 1) ["Meeting"] "ahead") (hVar 2)))))
     (sSeq (sWhile gC gWh)
  sNop))
noncomputable def gTl : Stm := (sSeq (sFor [.plc 1 (pAt (pVar 1) ["Meeting"] "markings")] mkEnum (bTup (bCons (bName 2) (bCons (bName 3) bNil))) [2, 3, 4, 5] gFr)
  (sSeq (sRet (eP (hOp [.pur (hC (.str "beyond"))] fTup)))
  sNop))
theorem growth_eq : b_growth_of = (sScp (borP 0)
  (sSeq (sSet 1 (eK (.fin [.pur (hVar 0)]) (makeK "Meeting" fn_Meeting___init__)))
  (sScp (frzO 1)
  (sSeq (sExpr (isO 1 "Meeting" "meet" (eK (.io 1 (.fin [.pur (hOp [.pur (hC (.int 12)), .pur (hC (.int 1))] gAdd)])) (callK [.io, .b] (noX fn_Meeting_meet)))))
  (sSeq (sIf (hB (hOp [.pur (hOp [.plc 1 (pAt (pVar 1) ["Meeting"] "markings")] gLen), .pur (hC (.int 12))] gLe)) (sSeq (sRet (eP (hOp [.pur (hC (.str "ends")), .pur (hOp [.plc 1 (pAt (pVar 1) ["Meeting"] "markings")] gLen)] fTup)))
  sNop) sNop)
  gTl))))) := rfl
abbrev gSt (nd : D) (t : MS) (i : Nat) (M : List Int) (o : Option Nat) (w : Slot) : DEnv := [some (.own, .bor nd), some (.lck, mtO nd t), some (.own, .int i), some (.own, dMk M), some (.own, ahD o), w]
theorem at_getD {α : Type} {φ : α → D} {l : List α} {k : Nat} {d : α} (h : k < l.length) : atI (l.map φ) (k : Int) = some (φ (l.getD k d)) := by
  rw [at_map h, List.getD_eq_getElem?_getD, List.getElem?_eq_getElem h]
  rfl
theorem wy_at {t : MS} {n a : Nat} (hI : MI n t) (ha : a < t.P.length) : atI (t.W.map wyD) (a : Int) = some (wyD (t.W.getD a [])) ∧ (t.W.getD a []).length ≤ 1000 := by
  have h : a < t.W.length := by rw [hI.w]; exact ha
  refine ⟨at_getD h, ?_⟩
  have h2 : t.W.getD a [] ∈ t.W := by
    rw [List.getD_eq_getElem?_getD, List.getElem?_eq_getElem h]
    exact List.getElem_mem h
  have := hI.wl _ h2
  have := hI.w
  have := hI.p
  omega
theorem ah_lt {t : MS} {n i a : Nat} (hI : MI n t) (h : t.H.getD i none = some a) : a < i ∧ i < t.P.length := by
  rw [List.getD_eq_getElem?_getD] at h
  cases e : t.H[i]? with
  | none => rw [e] at h; cases h
  | some o =>
    rw [e] at h
    have h : o = some a := h
    subst h
    have := (List.getElem?_eq_some_iff.mp e).1
    have := hI.h
    exact ⟨hI.hd i a e, by omega⟩
theorem wy_drop (l : List Str) (k : Nat) : cutD (l.map D.str) (some (k : Int)) none = (l.drop k).map D.str := by
  rw [cutD_drop', List.map_drop]
theorem g_wh {nd : D} {t : MS} {n i : Nat} (M : List Int) (hI : MI n t) (hi : i < t.P.length) : ∀ (f : Nat) (o : Option Nat), (∀ a, o = some a → a < t.P.length ∧ a < f) →
    match (ancs t.H f o).find? (fun a => overB M (t.P.getD a [])) with
      | none => WhR gC gWh (gSt nd t i M o none) (.nx (gSt nd t i M none none))
      | some a => WhR gC gWh (gSt nd t i M o none) (.rt (gD t i a) (gSt nd t i M (some a) (some (.own, wyD (t.W.getD a []))))) := by
  have stop : WhR gC gWh (gSt nd t i M none none) (.nx (gSt nd t i M none none)) := WhR.stop (by
    dsimp only [gSt, mtO, ahD]
    simp [gC])
  intro f
  induction f with
  | zero =>
    intro o ho
    cases o with
    | none => exact stop
    | some a => exact absurd (ho a rfl).2 (by omega)
  | succ f ih =>
    intro o ho
    cases o with
    | none => exact stop
    | some a =>
      obtain ⟨ha, haf⟩ := ho a rfl
      have hv := over_ok M (t.P.getD a [])
      have hat := at_getD (φ := dMk) (d := []) ha
      have hah : atI (t.H.map ahD) (a : Int) = some (ahD (t.H.getD a none)) := at_getD (by rw [hI.h]; exact ha)
      obtain ⟨hw1, hw2⟩ := wy_at hI ha
      obtain ⟨hw3, hw4⟩ := wy_at hI hi
      have hpM : (dMk M).pure = true := pureL_ints M
      have hpN : (dMk (t.P.getD a [])).pure = true := pureL_ints _
      have hah2 : (ahD (t.H.getD a none)).pure = true := by cases t.H.getD a none <;> rfl
      have hc : gC (gSt nd t i M (some a) none) = .ok (true, gSt nd t i M (some a) none) := by
        dsimp only [gSt, mtO, ahD]
        simp [gC]
      show match (a :: ancs t.H f (t.H.getD a none)).find? (fun a => overB M (t.P.getD a [])) with
        | none => _
        | some b => _
      rw [List.find?_cons]
      cases hov : overB M (t.P.getD a []) with
      | true =>
        rw [hov] at hv
        refine WhR.ret hc ?_
        have l1 : ((t.W.getD a []).map D.str).length = (t.W.getD a []).length := List.length_map ..
        have p1 := pureL_strs (t.W.getD a [])
        have p2 := pureL_strs (t.W.getD i [])
        have p3 := pureL_strs ((t.W.getD i []).drop (t.W.getD a []).length)
        have hdr := wy_drop (t.W.getD i []) (t.W.getD a []).length
        have hw1' : atI (t.W.map wyD) (a : Int) = some (.tup ((t.W.getD a []).map D.str)) := hw1
        have hw3' : atI (t.W.map wyD) (i : Int) = some (.tup ((t.W.getD i []).map D.str)) := hw3
        have eg : gD t i a = .tup [.str "grows", .tup ((t.W.getD a []).map D.str), .tup (((t.W.getD i []).drop (t.W.getD a []).length).map D.str)] := rfl
        have ew : wyD (t.W.getD a []) = .tup ((t.W.getD a []).map D.str) := rfl
        dsimp only [gSt, mtO]
        rw [show ahD (some a) = .int a from rfl, eg, ew]
        clear hw1 hw3 ih hah hah2 hw2 hw4 hov hc stop ho eg ew
        generalize ((t.W.getD i []).drop (t.W.getD a []).length).map D.str = X3 at *
        generalize (t.W.getD i []).map D.str = X2 at *
        generalize (t.W.getD a []).map D.str = X1 at *
        generalize (t.W.getD a []).length = L1 at *
        generalize dMk (t.P.getD a []) = nd2 at *
        generalize dMk M = md at *
        generalize t.P.map dMk = PD2 at *
        generalize t.P.map kM = KD2 at *
        generalize nuV t.P = VD2 at *
        generalize t.H.map ahD = HD2 at *
        generalize t.W.map wyD = WD2 at *
        generalize t.A.map arcD = AD2 at *
        unfold gWh
        simp [hv, hat, hw1', hw3', hpM, hpN, p1, p2, p3, l1, hdr]
      | false =>
        rw [hov] at hv
        have key := ih (t.H.getD a none) fun b hb => by
          have := ah_lt hI hb
          omega
        have hstep : gWh (gSt nd t i M (some a) none) = .ok (.nx (gSt nd t i M (t.H.getD a none) none)) := by
          dsimp only [gSt, mtO]
          rw [show ahD (some a) = .int a from rfl]
          clear key ih stop hw1 hw2 hw3 hw4 ho hc
          generalize ahD (t.H.getD a none) = hdd at *
          generalize dMk (t.P.getD a []) = nd2 at *
          generalize dMk M = md at *
          generalize t.P.map dMk = PD2 at *
          generalize t.P.map kM = KD2 at *
          generalize nuV t.P = VD2 at *
          generalize t.H.map ahD = HD2 at *
          generalize t.W.map wyD = WD2 at *
          generalize t.A.map arcD = AD2 at *
          unfold gWh
          simp [hv, hat, hpM, hpN, hah, hah2]
        show match (ancs t.H f (t.H.getD a none)).find? (fun a => overB M (t.P.getD a [])) with
          | none => _
          | some b => _
        cases hq : (ancs t.H f (t.H.getD a none)).find? (fun a => overB M (t.P.getD a [])) with
        | none => rw [hq] at key; exact WhR.step hc (.inl hstep) key
        | some b => rw [hq] at key; exact WhR.step hc (.inl hstep) key
end DL
namespace DL
open PySem PySem.Spec PyProof.Rows L2
section
variable {bd : D → DEnv → Option DEnv} {cl : List Nat} {body : Stm} {β : Type}
theorem forD_first {env : DEnv} {r : β → Option D} {φ : β → D} : ∀ (xs : List β), (∀ x ∈ xs, match r x with
      | none => Turn1 bd cl body (φ x) env env
      | some d => ∃ e1 e2, bd (φ x) env = some e1 ∧ body e1 = .ok (.rt d e2) ∧ dropS cl e2 = some env) →
    forD bd cl body (xs.map φ) env = match xs.findSome? r with
      | some d => .ok (.rt d env)
      | none => .ok (.nx env)
  | [], _ => rfl
  | x :: xs, h => by
    have h0 := h x List.mem_cons_self
    have ih := forD_first xs fun y hy => h y (List.mem_cons_of_mem _ hy)
    rw [List.findSome?_cons]
    cases hr : r x with
    | none =>
      rw [hr] at h0
      rw [List.map_cons, forD_cons h0, ih]
    | some d =>
      rw [hr] at h0
      obtain ⟨e1, e2, q1, q2, q3⟩ := h0
      rw [List.map_cons, forD, q1]
      simp only [must_some, q2, Out.bind_ok, q3]
end
theorem enum_gr {α : Type} (φ : α → D) (d : α) : ∀ (xs : List α) (k : Nat), enumD k (xs.map φ) = (List.range xs.length).map fun i : Nat => .tup [.int ((k + i : Nat) : Int), φ (xs.getD i d)]
  | [], k => rfl
  | x :: xs, k => by
    rw [List.map_cons, enumD, enum_gr φ d xs (k + 1), List.length_cons, List.range_succ_eq_map, List.map_cons, List.map_map]
    congr 1
    refine List.map_congr_left fun i _ => ?_
    show D.tup [.int ((k + 1 + i : Nat) : Int), φ (xs.getD i d)] = .tup [.int ((k + (i + 1) : Nat) : Int), φ ((x :: xs).getD (i + 1) d)]
    rw [List.getD_cons_succ, show k + 1 + i = k + (i + 1) by omega]
abbrev gS0 (nd : D) (t : MS) : DEnv := [some (.own, .bor nd), some (.lck, mtO nd t), none, none, none, none]
theorem g_turn {nd : D} {t : MS} {n i : Nat} (hI : MI n t) (hi : i < t.P.length) : match (growAt t i).map (gD t i) with
    | none => Turn1 (bTup (bCons (bName 2) (bCons (bName 3) bNil))) [2, 3, 4, 5] gFr (.tup [.int ((0 + i : Nat) : Int), dMk (t.P.getD i [])]) (gS0 nd t) (gS0 nd t)
    | some d => ∃ e1 e2, bTup (bCons (bName 2) (bCons (bName 3) bNil)) (.tup [.int ((0 + i : Nat) : Int), dMk (t.P.getD i [])]) (gS0 nd t) = some e1 ∧ gFr e1 = .ok (.rt d e2) ∧ dropS [2, 3, 4, 5] e2 = some (gS0 nd t) := by
  have hah : atI (t.H.map ahD) (i : Int) = some (ahD (t.H.getD i none)) := at_getD (by rw [hI.h]; exact hi)
  have hah2 : (ahD (t.H.getD i none)).pure = true := by cases t.H.getD i none <;> rfl
  have hpM : (dMk (t.P.getD i [])).pure = true := pureL_ints _
  have key := g_wh (nd := nd) (t.P.getD i []) hI hi t.P.length (t.H.getD i none) fun a ha => by
    have := ah_lt hI ha
    omega
  unfold growAt
  rw [Nat.zero_add]
  have hs : ∀ fl, sWhile gC gWh (gSt nd t i (t.P.getD i []) (t.H.getD i none) none) = .ok fl → gFr [some (.own, .bor nd), some (.lck, mtO nd t), some (.own, .int i), some (.own, dMk (t.P.getD i [])), none, none] = (match fl with
      | .nx e => .ok (.nx e)
      | fl => .ok fl) := fun fl h => by
    dsimp only [gSt, mtO] at h ⊢
    generalize ahD (t.H.getD i none) = hdd at *
    generalize dMk (t.P.getD i []) = md at *
    generalize t.P.map dMk = PD2 at *
    generalize t.P.map kM = KD2 at *
    generalize nuV t.P = VD2 at *
    generalize t.H.map ahD = HD2 at *
    generalize t.W.map wyD = WD2 at *
    generalize t.A.map arcD = AD2 at *
    unfold gFr
    simp only [z_seq, z_set, z_ep, z_rd, z_pix, z_pat, z_pvar, z_var, z_at, List.getElem?_cons_succ, List.getElem?_cons_zero, z_dat2, mt_a3, z_ixl, hah, hah2, if_true, must_some, Out.bind_ok, z_put, z_free, List.set_cons_succ, List.set_cons_zero, z_pint, h]
    cases fl <;> rfl
  cases hq : (ancs t.H t.P.length (t.H.getD i none)).find? fun a => overB (t.P.getD i []) (t.P.getD a []) with
  | none =>
    rw [hq] at key
    have h2 := hs _ key.sw
    show Turn1 _ _ _ _ _ _
    unfold Turn1
    clear hs key hah
    dsimp only [gSt, gS0] at h2 ⊢
    generalize dMk (t.P.getD i []) = md at *
    generalize mtO nd t = ob at *
    simp [hpM, h2, ahD]
  | some a =>
    rw [hq] at key
    have h2 := hs _ key.sw
    refine ⟨_, _, ?_, h2, ?_⟩
    · generalize dMk (t.P.getD i []) = md at *
      simp [hpM]
    · simp [ahD]
theorem growD_nob (t : MS) : (growD t).nob = true := by
  unfold growD
  have hs : ∀ l : List Str, D.nobL (l.map D.str) = true := fun l => nobL_map (φ := D.str) (fun _ => rfl) l
  split
  · rename_i d e
    obtain ⟨i, _, hi⟩ := List.exists_of_findSome?_eq_some e
    obtain ⟨a, _, rfl⟩ := Option.map_eq_some_iff.mp hi
    show (D.nobL [D.str "grows", .tup ((t.W.getD a []).map .str), .tup (((t.W.getD i []).drop (t.W.getD a []).length).map .str)]) = true
    have h1 := hs (t.W.getD a [])
    have h2 := hs ((t.W.getD i []).drop (t.W.getD a []).length)
    generalize (t.W.getD a []).map D.str = X1 at *
    generalize ((t.W.getD i []).drop (t.W.getD a []).length).map D.str = X2 at *
    simp [h1, h2]
  · rfl
theorem g_tail {nd : D} {t : MS} {n : Nat} (hI : MI n t) : gTl [some (.own, .bor nd), some (.own, mtO nd t), none, none, none, none] = .ok (.rt (growD t) [some (.own, .bor nd), some (.own, mtO nd t), none, none, none, none]) := by
  have hf := forD_first (bd := bTup (bCons (bName 2) (bCons (bName 3) bNil))) (cl := [2, 3, 4, 5]) (body := gFr) (env := gS0 nd t) (r := fun i => (growAt t i).map (gD t i)) (φ := fun i : Nat => D.tup [.int ((0 + i : Nat) : Int), dMk (t.P.getD i [])]) (List.range t.P.length) fun i hi => g_turn hI (List.mem_range.mp hi)
  rw [← enum_gr dMk [] t.P 0] at hf
  unfold growD
  cases hq : (List.range t.P.length).findSome? fun i => (growAt t i).map (gD t i) with
  | none =>
    rw [hq] at hf
    dsimp only [gS0, mtO] at hf ⊢
    generalize t.P.map dMk = PD2 at *
    generalize t.P.map kM = KD2 at *
    generalize nuV t.P = VD2 at *
    generalize t.H.map ahD = HD2 at *
    generalize t.W.map wyD = WD2 at *
    generalize t.A.map arcD = AD2 at *
    unfold gTl
    simp [hf]
  | some d =>
    rw [hq] at hf
    dsimp only [gS0, mtO] at hf ⊢
    generalize t.P.map dMk = PD2 at *
    generalize t.P.map kM = KD2 at *
    generalize nuV t.P = VD2 at *
    generalize t.H.map ahD = HD2 at *
    generalize t.W.map wyD = WD2 at *
    generalize t.A.map arcD = AD2 at *
    unfold gTl
    simp [hf]
theorem growth_ok {ms : List Str} {ps : List Plc} (hm3 : ms.length ≤ 5) (hps : ∀ p ∈ ps, PWF ms.length p) (hl : ps.length < 1000) : match metX 13 ms ps with
    | .ok t => fn_growth_of [dNet ms ps] = .ok (.tup [.str "ends", .int t.P.length], [])
    | .error t => fn_growth_of [dNet ms ps] = .ok (growD t, []) := by
  have hm := met_I (most := 13) hm3 (by omega) hps hl
  have hi := init_ok (ms := ms) hl
  rw [ms0_D] at hm
  have i13 : ((13 : Nat) : Int) = 13 := rfl
  rw [i13] at hm
  have hnp := pureL_strs ms
  cases hx : metX 13 ms ps with
  | ok t =>
    rw [hx] at hm
    obtain ⟨⟨hI, hlt⟩, hf⟩ := hm
    show fn_growth_of [dNet ms ps] = _
    have lP : ((t.P.map dMk).length : Int) = (t.P.length : Int) := by rw [List.length_map]
    have hgt : (t.P.length : Int) ≤ 12 := by omega
    dsimp only [dNet, mtO] at *
    generalize t.P.map dMk = PD2 at *
    generalize t.P.map kM = KD2 at *
    generalize nuV t.P = VD2 at *
    generalize t.H.map ahD = HD2 at *
    generalize t.W.map wyD = WD2 at *
    generalize t.A.map arcD = AD2 at *
    generalize ms.map D.str = ND at *
    generalize ps.map dPl = PLD at *
    generalize dMk (ps.map (·.1)) = M0 at *
    generalize kM (ps.map (·.1)) = K0 at *
    generalize wyD [] = W0 at *
    simp [fn_growth_of, growth_eq, hi, hf, lP, hgt]
  | error t =>
    rw [hx] at hm
    obtain ⟨⟨hI, hlt⟩, hf⟩ := hm
    have hg := g_tail (nd := dNet ms ps) hI
    have hnb := growD_nob t
    show fn_growth_of [dNet ms ps] = _
    have lP : ((t.P.map dMk).length : Int) = 13 := by rw [List.length_map, hlt]; rfl
    dsimp only [dNet, mtO] at *
    generalize growD t = gd at *
    generalize t.P.map dMk = PD2 at *
    generalize t.P.map kM = KD2 at *
    generalize nuV t.P = VD2 at *
    generalize t.H.map ahD = HD2 at *
    generalize t.W.map wyD = WD2 at *
    generalize t.A.map arcD = AD2 at *
    generalize ms.map D.str = ND at *
    generalize ps.map dPl = PLD at *
    generalize dMk (ps.map (·.1)) = M0 at *
    generalize kM (ps.map (·.1)) = K0 at *
    generalize wyD [] = W0 at *
    simp [fn_growth_of, growth_eq, hi, hf, lP, hg, hnb]
end DL
namespace DL
open PySem PySem.Spec PyProof.Rows L2
theorem run_of_ok {ms : List Str} {ps : List Plc} (hm3 : ms.length ≤ 5) (hps : ∀ p ∈ ps, PWF ms.length p) (hl : ps.length < 1000) : match metX 13 ms ps with
    | .ok t => ∀ B : List Arc, fSorted (.lst (t.A.map arcD)) = some (.lst (B.map arcD)) → fn_run_of [dNet ms ps] = .ok (.tup [.tup [.tupF true (ms.map .str), .lst (B.map arcD)], .lst (t.P.map dMk)], [])
    | .error t => fn_run_of [dNet ms ps] = .exc "TooGreat" := by
  have hm := met_I (most := 13) hm3 (by omega) hps hl
  have hi := init_ok (ms := ms) hl
  rw [ms0_D] at hm
  have i13 : ((13 : Nat) : Int) = 13 := rfl
  rw [i13] at hm
  have hnp := pureL_strs ms
  have hn1 : D.nobL (ms.map D.str) = true := nobL_map (φ := D.str) (fun _ => rfl) ms
  cases hx : metX 13 ms ps with
  | ok t =>
    rw [hx] at hm
    intro B hB
    obtain ⟨⟨hI, hlt⟩, hf⟩ := hm
    have hn2 : D.nobL (B.map arcD) = true := nobL_map (φ := fun x : Arc => arcD x) (fun _ => rfl) B
    have hn3 : D.nobL (t.P.map dMk) = true := nobL_map (φ := dMk) nob_mk t.P
    have lP : ((t.P.map dMk).length : Int) = (t.P.length : Int) := by rw [List.length_map]
    have hgt : ¬ (12 : Int) < (t.P.length : Int) := by omega
    dsimp only [dNet, mtO] at *
    generalize t.P.map dMk = PD2 at *
    generalize t.P.map kM = KD2 at *
    generalize nuV t.P = VD2 at *
    generalize t.H.map ahD = HD2 at *
    generalize t.W.map wyD = WD2 at *
    generalize t.A.map arcD = AD2 at *
    generalize ms.map D.str = ND at *
    generalize ps.map dPl = PLD at *
    generalize B.map arcD = BD at *
    generalize dMk (ps.map (·.1)) = M0 at *
    generalize kM (ps.map (·.1)) = K0 at *
    generalize wyD [] = W0 at *
    simp [fn_run_of, b_run_of, hi, hf, lP, hgt, hB, hnp, hn1, hn2, hn3]
  | error t =>
    rw [hx] at hm
    obtain ⟨⟨hI, hlt⟩, hf⟩ := hm
    show fn_run_of [dNet ms ps] = .exc "TooGreat"
    have lP : ((t.P.map dMk).length : Int) = 13 := by rw [List.length_map, hlt]; rfl
    dsimp only [dNet, mtO] at *
    generalize t.P.map dMk = PD2 at *
    generalize t.P.map kM = KD2 at *
    generalize nuV t.P = VD2 at *
    generalize t.H.map ahD = HD2 at *
    generalize t.W.map wyD = WD2 at *
    generalize t.A.map arcD = AD2 at *
    generalize ms.map D.str = ND at *
    generalize ps.map dPl = PLD at *
    generalize dMk (ps.map (·.1)) = M0 at *
    generalize kM (ps.map (·.1)) = K0 at *
    generalize wyD [] = W0 at *
    simp [fn_run_of, b_run_of, hi, hf, lP]
end DL
namespace DL
open PySem PySem.Spec PyProof.Rows L2
structure WI (ms : List Str) (ps : List Plc) (M0 : List Int) (s : MS) : Prop where
  hl : s.H.length = s.P.length
  wl : s.W.length = s.P.length
  nd : s.P.Nodup
  p0 : s.P[0]? = some M0
  w0 : s.W[0]? = some []
  h0 : s.H[0]? = some none
  st : ∀ i, 0 < i → i < s.P.length → ∃ a x, s.H[i]? = some (some a) ∧ x ∈ ms ∧ s.W[i]? = some (s.W.getD a [] ++ [x]) ∧ a < i ∧ stepF (ixOf ms x) ps (s.P.getD a []) = some (s.P.getD i [])
theorem getD_app {α : Type} {l r : List α} {k : Nat} {d : α} (h : k < l.length) : (l ++ r).getD k d = l.getD k d := by
  rw [List.getD_eq_getElem?_getD, List.getElem?_append_left h, ← List.getD_eq_getElem?_getD]
theorem WI.A {ms : List Str} {ps : List Plc} {M0 : List Int} {s : MS} (h : WI ms ps M0 s) (A : List Arc) : WI ms ps M0 ⟨s.P, A, s.H, s.W⟩ := ⟨h.hl, h.wl, h.nd, h.p0, h.w0, h.h0, h.st⟩
theorem WI.num {ms : List Str} {ps : List Plc} {M0 : List Int} {s : MS} {d : Nat} {x : Str} {p q : List Int} (h : WI ms ps M0 s) (hp : s.P[d]? = some p) (hx : x ∈ ms) (hq : stepF (ixOf ms x) ps p = some q) : WI ms ps M0 (mNum s d x q) := by
  have hd := (List.getElem?_eq_some_iff.mp hp).1
  have hpg : s.P.getD d [] = p := by rw [List.getD_eq_getElem?_getD, hp]; rfl
  unfold mNum
  split
  · exact h
  · rename_i hm
    have l0 : 0 < s.P.length := by omega
    refine ⟨by simp [h.hl], by simp [h.wl], ?_, ?_, ?_, ?_, fun i hi hil => ?_⟩
    · show (s.P ++ [q]).Nodup
      rw [List.nodup_append]
      exact ⟨h.nd, by simp, fun a ha b hb e => hm (by rw [List.mem_singleton.mp hb] at e; exact e ▸ ha)⟩
    · show (s.P ++ [q])[0]? = some M0
      rw [List.getElem?_append_left l0]; exact h.p0
    · show (s.W ++ _)[0]? = some []
      rw [List.getElem?_append_left (by rw [h.wl]; exact l0)]; exact h.w0
    · show (s.H ++ _)[0]? = some none
      rw [List.getElem?_append_left (by rw [h.hl]; exact l0)]; exact h.h0
    · show ∃ a y, (s.H ++ [some d])[i]? = some (some a) ∧ y ∈ ms ∧ (s.W ++ [s.W.getD d [] ++ [x]])[i]? = some ((s.W ++ [s.W.getD d [] ++ [x]]).getD a [] ++ [y]) ∧ a < i ∧ stepF (ixOf ms y) ps ((s.P ++ [q]).getD a []) = some ((s.P ++ [q]).getD i [])
      have hil : i < (s.P ++ [q]).length := hil
      rw [List.length_append, List.length_singleton] at hil
      by_cases hi2 : i < s.P.length
      · obtain ⟨a, y, e1, e2, e3, e4, e5⟩ := h.st i hi hi2
        refine ⟨a, y, ?_, e2, ?_, e4, ?_⟩
        · rw [List.getElem?_append_left (by rw [h.hl]; exact hi2)]; exact e1
        · rw [List.getElem?_append_left (by rw [h.wl]; exact hi2), getD_app (by rw [h.wl]; omega)]; exact e3
        · rw [getD_app (by omega), getD_app hi2]; exact e5
      · have hie : i = s.P.length := by omega
        subst hie
        refine ⟨d, x, ?_, hx, ?_, hd, ?_⟩
        · rw [List.getElem?_append_right (by rw [h.hl]; exact Nat.le_refl _), h.hl, Nat.sub_self]; rfl
        · rw [List.getElem?_append_right (by rw [h.wl]; exact Nat.le_refl _), h.wl, Nat.sub_self, getD_app (by rw [h.wl]; exact hd)]; rfl
        · rw [getD_app hd, hpg, hq, List.getD_eq_getElem?_getD, List.getElem?_append_right (Nat.le_refl _), Nat.sub_self]
          rfl
section
variable {J : MS → Prop} {most : Nat} {ms : List Str} {ps : List Plc}
theorem pass_ind {d : Nat} {p : List Int} (hA : ∀ (s : MS) (A : List Arc), J s → J ⟨s.P, A, s.H, s.W⟩) (hJ : ∀ (s : MS) (x : Str) (q : List Int), J s → s.P[d]? = some p → x ∈ ms → stepF (ixOf ms x) ps p = some q → J (mNum s d x q)) : ∀ (xs : List Str) (s : MS), (∀ x ∈ xs, x ∈ ms) → J s → s.P[d]? = some p → J (exMS (xs.foldlM (mStepE most ms ps d p) s))
  | [], s, _, h, _ => h
  | x :: xs, s, hm, h, hp => by
    rw [List.foldlM_cons]
    unfold mStepE
    cases hq : stepF (ixOf ms x) ps p with
    | none => exact pass_ind hA hJ xs s (fun y hy => hm y (List.mem_cons_of_mem _ hy)) h hp
    | some q =>
      have h1 := hA _ ((mNum s d x q).A ++ [(d, x, ixM (mNum s d x q).P q)]) (hJ s x q h hp (hm x List.mem_cons_self) hq)
      have h2 := mNum_at (d := d) (x := x) (q := q) hp
      simp only
      split
      · exact h1
      · exact pass_ind hA hJ xs _ (fun y hy => hm y (List.mem_cons_of_mem _ hy)) h1 h2
theorem all_ind (hA : ∀ (s : MS) (A : List Arc), J s → J ⟨s.P, A, s.H, s.W⟩) (hJ : ∀ (s : MS) (d : Nat) (p : List Int) (x : Str) (q : List Int), J s → s.P[d]? = some p → x ∈ ms → stepF (ixOf ms x) ps p = some q → J (mNum s d x q)) : ∀ (n d : Nat) (s : MS), J s → J (exMS (mAll most ms ps n d s))
  | 0, d, s, h => h
  | n + 1, d, s, h => by
    unfold mAll
    by_cases hd : d < s.P.length
    · rw [if_pos hd]
      obtain ⟨p, hp⟩ : ∃ p, s.P[d]? = some p := ⟨_, List.getElem?_eq_getElem hd⟩
      have hpg : s.P.getD d [] = p := by rw [List.getD_eq_getElem?_getD, hp]; rfl
      have key := pass_ind (J := J) (most := most) hA (fun s x q h1 h2 h3 h4 => hJ s d p x q h1 h2 h3 h4) ms s (fun x hx => hx) h hp
      unfold mPass
      rw [hpg]
      cases hf : ms.foldlM (mStepE most ms ps d p) s with
      | ok t =>
        rw [hf] at key
        exact all_ind hA hJ n (d + 1) t key
      | error t =>
        rw [hf] at key
        exact key
    · rw [if_neg hd]
      exact h
end
theorem met_W (most : Nat) (ms : List Str) (ps : List Plc) : WI ms ps (ps.map (·.1)) (exMS (metX most ms ps)) :=
  all_ind (fun s A h => h.A A) (fun s d p x q h hp hx hq => h.num hp hx hq) most 0 _ ⟨rfl, rfl, by show [ps.map (·.1)].Nodup; simp, rfl, rfl, rfl, fun i hi hil => by
    have : i < 1 := hil
    omega⟩
/-- gone along a way -/
def goneF (ms : List Str) (ps : List Plc) : List Str → List Int → Option (List Int)
  | [], M => some M
  | x :: r, M => (stepF (ixOf ms x) ps M).bind (goneF ms ps r)
theorem goneF_app {ms : List Str} {ps : List Plc} : ∀ (a b : List Str) (M : List Int), goneF ms ps (a ++ b) M = (goneF ms ps a M).bind (goneF ms ps b)
  | [], b, M => rfl
  | x :: a, b, M => by
    show (stepF (ixOf ms x) ps M).bind (goneF ms ps (a ++ b)) = ((stepF (ixOf ms x) ps M).bind (goneF ms ps a)).bind _
    cases stepF (ixOf ms x) ps M with
    | none => rfl
    | some q => exact goneF_app a b q
/-- the way from one to another -/
def Pth (ms : List Str) (ps : List Plc) (s : MS) (a i : Nat) : Prop := ∃ r, (∀ x ∈ r, x ∈ ms) ∧ s.W.getD i [] = s.W.getD a [] ++ r ∧ goneF ms ps r (s.P.getD a []) = some (s.P.getD i [])
theorem Pth.trans {ms : List Str} {ps : List Plc} {s : MS} {a b i : Nat} (h : Pth ms ps s a b) (k : Pth ms ps s b i) : Pth ms ps s a i := by
  obtain ⟨r, r0, r1, r2⟩ := h
  obtain ⟨u, u0, u1, u2⟩ := k
  refine ⟨r ++ u, fun x hx => (List.mem_append.mp hx).elim (r0 x) (u0 x), by rw [u1, r1, List.append_assoc], by rw [goneF_app, r2]; exact u2⟩
theorem WI.up {ms : List Str} {ps : List Plc} {M0 : List Int} {s : MS} (h : WI ms ps M0 s) {i a : Nat} (hi : i < s.P.length) (ha : s.H.getD i none = some a) : Pth ms ps s a i ∧ a < i := by
  have h0 : 0 < i := by
    rcases Nat.eq_zero_or_pos i with e | e
    · rw [e, List.getD_eq_getElem?_getD, h.h0] at ha; cases ha
    · exact e
  obtain ⟨b, x, e1, e2, e3, e4, e5⟩ := h.st i h0 hi
  rw [List.getD_eq_getElem?_getD, e1] at ha
  cases ha
  refine ⟨⟨[x], fun y hy => by rw [List.mem_singleton.mp hy]; exact e2, ?_, ?_⟩, e4⟩
  · rw [List.getD_eq_getElem?_getD, e3]; rfl
  · show (stepF (ixOf ms x) ps _).bind _ = _
    rw [e5]; rfl
theorem WI.anc {ms : List Str} {ps : List Plc} {M0 : List Int} {s : MS} (h : WI ms ps M0 s) : ∀ (f i : Nat), i < s.P.length → ∀ a ∈ ancs s.H f (s.H.getD i none), Pth ms ps s a i ∧ a < i
  | 0, i, hi, a, ha => by cases ha
  | f + 1, i, hi, a, ha => by
    cases e : s.H.getD i none with
    | none => rw [e] at ha; cases ha
    | some b =>
      rw [e] at ha
      obtain ⟨p1, p2⟩ := h.up hi e
      rcases List.mem_cons.mp ha with rfl | ha
      · exact ⟨p1, p2⟩
      · obtain ⟨q1, q2⟩ := WI.anc h f b (by omega) a ha
        exact ⟨q1.trans p1, by omega⟩
end DL
namespace DL
open PySem PySem.Spec PyProof.Rows L2
def rnStep (ms : List Str) (ps : List Plc) (d : Nat) (p : List Int) (PA : List (List Int) × List Arc) (x : Str) : List (List Int) × List Arc := match stepF (ixOf ms x) ps p with
  | none => PA
  | some q => if q ∈ PA.1 then (PA.1, PA.2 ++ [(d, x, (PA.1.findIdx? fun z => decide (z = q)).getD 0)]) else (PA.1 ++ [q], PA.2 ++ [(d, x, PA.1.length)])
structure RnI (ms : List Str) (ps : List Plc) (M0 : List Int) (mo : Nat) (P : List (List Int)) (A : List Arc) (d j : Nat) : Prop where
  nd : P.Nodup
  hd : P[0]? = some M0
  le : P.length ≤ mo
  ml : ∀ M ∈ P, M.length = ps.length
  so : ∀ x ∈ A, (x.1 < d ∨ x.1 = d ∧ x.2.1 ∈ ms.take j) ∧ x.2.1 ∈ ms ∧ ∃ M M', P[x.1]? = some M ∧ stepF (ixOf ms x.2.1) ps M = some M' ∧ P[x.2.2]? = some M'
  cl : ∀ (i : Nat) (mv : Str) (M M' : List Int), (i < d ∧ mv ∈ ms ∨ i = d ∧ mv ∈ ms.take j) → P[i]? = some M → stepF (ixOf ms mv) ps M = some M' → ∃ k, P[k]? = some M' ∧ (i, mv, k) ∈ A
  an : A.Nodup
  rch : ∀ s, s < P.length → Rch A s
  la : A.length ≤ ms.length * d + j
theorem RnI.pos {ms : List Str} {ps : List Plc} {M0 : List Int} {mo : Nat} {P : List (List Int)} {A : List Arc} {d j : Nat} (h : RnI ms ps M0 mo P A d j) : 0 < P.length := (List.getElem?_eq_some_iff.mp h.hd).1
theorem app_at {α : Type} {P Q : List α} {i : Nat} {x : α} (h : P[i]? = some x) : (P ++ Q)[i]? = some x := by
  rw [List.getElem?_append_left (List.getElem?_eq_some_iff.mp h).1]; exact h
theorem RnI.step {ms : List Str} {ps : List Plc} {M0 : List Int} {mo : Nat} {P : List (List Int)} {A : List Arc} {d j : Nat} {p : List Int} {x : Str} (h : RnI ms ps M0 mo P A d j) (hn : ms.Nodup) (hp : P[d]? = some p) (hx : ms[j]? = some x) (hf : ∀ q, stepF (ixOf ms x) ps p = some q → q ∉ P → P.length ≠ mo) : RnI ms ps M0 mo (rnStep ms ps d p (P, A) x).1 (rnStep ms ps d p (P, A) x).2 d (j + 1) ∧ (rnStep ms ps d p (P, A) x).1[d]? = some p := by
  have hdl := (List.getElem?_eq_some_iff.mp hp).1
  have hjl := (List.getElem?_eq_some_iff.mp hx).1
  have hxm : x ∈ ms := List.mem_of_getElem? hx
  have htk : ms.take (j + 1) = ms.take j ++ [x] := by rw [List.take_succ, hx]; rfl
  have hnt : x ∉ ms.take j := fun hm => by
    obtain ⟨i, hi⟩ := List.mem_iff_getElem?.mp hm
    rw [List.getElem?_take] at hi
    split at hi
    · have e := (List.getElem?_inj (by omega) hn).mp (hi.trans hx.symm)
      omega
    · cases hi
  have hnew : ∀ b, (d, x, b) ∉ A := fun b hb => by
    rcases (h.so _ hb).1 with q | q
    · simp at q
    · exact hnt q.2
  have up : ∀ y : Str, y ∈ ms.take j → y ∈ ms.take (j + 1) := fun y hy => by rw [htk]; exact List.mem_append_left _ hy
  have hla := h.la
  unfold rnStep
  cases hq : stepF (ixOf ms x) ps p with
  | none =>
    refine ⟨⟨h.nd, h.hd, h.le, h.ml, fun y hy => ⟨(h.so y hy).1.imp id fun q => ⟨q.1, up _ q.2⟩, (h.so y hy).2⟩, fun i mv M M' hi hM hs => ?_, h.an, h.rch, by show A.length ≤ _; omega⟩, hp⟩
    rcases hi with hi | ⟨rfl, hi⟩
    · exact h.cl i mv M M' (.inl hi) hM hs
    · rw [htk] at hi
      rcases List.mem_append.mp hi with hi | hi
      · exact h.cl i mv M M' (.inr ⟨rfl, hi⟩) hM hs
      · rw [List.mem_singleton.mp hi] at hs
        rw [hp] at hM
        cases hM
        rw [hq] at hs
        cases hs
  | some q =>
    by_cases hm : q ∈ P
    · simp only [if_pos hm]
      obtain ⟨k, hk, hkl, hkq⟩ := fi_mem hm
      rw [hk]
      simp only [Option.getD_some]
      have m1 : ∀ y ∈ A, y ∈ A ++ [(d, x, k)] := fun y hy => List.mem_append_left _ hy
      refine ⟨⟨h.nd, h.hd, h.le, h.ml, fun y hy => ?_, fun i mv M M' hi hM hs => ?_, ?_, fun s hs => (h.rch s hs).mono m1, by simp; omega⟩, hp⟩
      · rcases List.mem_append.mp hy with hy | hy
        · exact ⟨(h.so y hy).1.imp id fun q => ⟨q.1, up _ q.2⟩, (h.so y hy).2⟩
        · rw [List.mem_singleton.mp hy]
          exact ⟨.inr ⟨rfl, by rw [htk]; exact List.mem_append_right _ List.mem_cons_self⟩, hxm, p, q, hp, hq, hkq⟩
      · rcases hi with hi | ⟨rfl, hi⟩
        · obtain ⟨k2, h1, h2⟩ := h.cl i mv M M' (.inl hi) hM hs
          exact ⟨k2, h1, m1 _ h2⟩
        · rw [htk] at hi
          rcases List.mem_append.mp hi with hi | hi
          · obtain ⟨k2, h1, h2⟩ := h.cl i mv M M' (.inr ⟨rfl, hi⟩) hM hs
            exact ⟨k2, h1, m1 _ h2⟩
          · rw [List.mem_singleton.mp hi] at hs ⊢
            rw [hp] at hM
            cases hM
            rw [hq] at hs
            cases hs
            exact ⟨k, hkq, List.mem_append_right _ List.mem_cons_self⟩
      · rw [List.nodup_append]
        exact ⟨h.an, by simp, fun a ha b hb e => hnew _ (by rw [List.mem_singleton.mp hb] at e; exact e ▸ ha)⟩
    · simp only [if_neg hm]
      have hfl := hf q hq hm
      have m1 : ∀ y ∈ A, y ∈ A ++ [(d, x, P.length)] := fun y hy => List.mem_append_left _ hy
      have hql : (P ++ [q])[P.length]? = some q := by simp
      have hPd : (P ++ [q])[d]? = some p := app_at hp
      have old : ∀ {i : Nat} {M : List Int}, i ≤ d → (P ++ [q])[i]? = some M → P[i]? = some M := fun {i M} hi e => by
        rw [List.getElem?_append_left (by omega)] at e; exact e
      refine ⟨⟨?_, app_at h.hd, by have := h.le; simp; omega, fun M hM => ?_, fun y hy => ?_, fun i mv M M' hi hM hs => ?_, ?_, fun s hs => ?_, by simp; omega⟩, hPd⟩
      · rw [List.nodup_append]
        exact ⟨h.nd, by simp, fun a ha b hb e => hm (by rw [List.mem_singleton.mp hb] at e; exact e ▸ ha)⟩
      · rcases List.mem_append.mp hM with hM | hM
        · exact h.ml M hM
        · rw [List.mem_singleton.mp hM]
          exact stepF_len hq (h.ml p (List.mem_of_getElem? hp))
      · rcases List.mem_append.mp hy with hy | hy
        · obtain ⟨M, M', e1, e2, e3⟩ := (h.so y hy).2.2
          exact ⟨(h.so y hy).1.imp id fun q => ⟨q.1, up _ q.2⟩, (h.so y hy).2.1, M, M', app_at e1, e2, app_at e3⟩
        · rw [List.mem_singleton.mp hy]
          exact ⟨.inr ⟨rfl, by rw [htk]; exact List.mem_append_right _ List.mem_cons_self⟩, hxm, p, q, hPd, hq, hql⟩
      · rcases hi with hi | ⟨rfl, hi⟩
        · obtain ⟨k2, h1, h2⟩ := h.cl i mv M M' (.inl hi) (old (by omega) hM) hs
          exact ⟨k2, app_at h1, m1 _ h2⟩
        · rw [htk] at hi
          rcases List.mem_append.mp hi with hi | hi
          · obtain ⟨k2, h1, h2⟩ := h.cl i mv M M' (.inr ⟨rfl, hi⟩) (old (Nat.le_refl _) hM) hs
            exact ⟨k2, app_at h1, m1 _ h2⟩
          · rw [List.mem_singleton.mp hi] at hs ⊢
            rw [hPd] at hM
            cases hM
            rw [hq] at hs
            cases hs
            exact ⟨P.length, hql, List.mem_append_right _ List.mem_cons_self⟩
      · rw [List.nodup_append]
        exact ⟨h.an, by simp, fun a ha b hb e => hnew _ (by rw [List.mem_singleton.mp hb] at e; exact e ▸ ha)⟩
      · rw [List.length_append] at hs
        by_cases h3 : s < P.length
        · exact (h.rch s h3).mono m1
        · have h4 : s = P.length := by simp at hs; omega
          subst h4
          exact Rch.arc (B := A ++ [(d, x, P.length)]) (x := (d, x, P.length)) (List.mem_append_right _ List.mem_cons_self) ((h.rch d hdl).mono m1)
theorem RnI.next {ms : List Str} {ps : List Plc} {M0 : List Int} {mo : Nat} {P : List (List Int)} {A : List Arc} {d : Nat} (h : RnI ms ps M0 mo P A d ms.length) : RnI ms ps M0 mo P A (d + 1) 0 := ⟨h.nd, h.hd, h.le, h.ml, fun y hy => ⟨(h.so y hy).1.elim (fun q => .inl (by omega)) fun q => .inl (by omega), (h.so y hy).2⟩, fun i mv M M' hi hM hs => h.cl i mv M M' (by
  rcases hi with ⟨h1, h2⟩ | ⟨_, h2⟩
  · by_cases e : i = d
    · exact .inr ⟨e, by rw [List.take_length]; exact h2⟩
    · exact .inl ⟨by omega, h2⟩
  · rw [List.take_zero] at h2; cases h2) hM hs, h.an, h.rch, by have := h.la; rw [Nat.mul_succ]; omega⟩
theorem rnStep_len {ms : List Str} {ps : List Plc} {d : Nat} {p : List Int} {P : List (List Int)} {A : List Arc} {x : Str} : (rnStep ms ps d p (P, A) x).1.length ≤ P.length + 1 := by
  unfold rnStep
  split
  · exact Nat.le_succ _
  · split
    · exact Nat.le_succ _
    · rw [List.length_append]; exact Nat.le_refl _
abbrev PA := List (List Int) × List Arc
def rnPass (ms : List Str) (ps : List Plc) (d : Nat) (q : PA) : PA := ms.foldl (rnStep ms ps d (q.1.getD d [])) q
def rnAll (ms : List Str) (ps : List Plc) : Nat → Nat → PA → PA
  | 0, _, q => q
  | n + 1, d, q => if d < q.1.length ∧ q.1.length ≤ 12 then rnAll ms ps n (d + 1) (rnPass ms ps d q) else q
def rnR (ms : List Str) (ps : List Plc) : PA := rnAll ms ps 13 0 ([ps.map (·.1)], [])
section
variable {ms : List Str} {ps : List Plc} {M0 : List Int}
theorem rp_pass (hn : ms.Nodup) (hm5 : ms.length ≤ 5) {d : Nat} {p : List Int} : ∀ (L : List Str) (j : Nat) (q : PA), ms.drop j = L → RnI ms ps M0 20 q.1 q.2 d j → q.1[d]? = some p → q.1.length ≤ 12 + j →
    RnI ms ps M0 20 (L.foldl (rnStep ms ps d p) q).1 (L.foldl (rnStep ms ps d p) q).2 d (j + L.length) ∧ q.1.length ≤ (L.foldl (rnStep ms ps d p) q).1.length
  | [], j, q, _, h, _, _ => ⟨h, Nat.le_refl _⟩
  | x :: L, j, (P, A), hL, h, hp, hl => by
    have hx : ms[j]? = some x := by
      have := congrArg (fun l : List Str => l[0]?) hL
      simpa using this
    have hjl := (List.getElem?_eq_some_iff.mp hx).1
    have hL2 : ms.drop (j + 1) = L := by
      rw [← List.drop_drop, hL]; rfl
    have hl : P.length ≤ 12 + j := hl
    obtain ⟨h1, h2⟩ := h.step hn hp hx fun q _ _ => by show P.length ≠ 20; omega
    have h3 := rnStep_len (ms := ms) (ps := ps) (d := d) (p := p) (P := P) (A := A) (x := x)
    obtain ⟨g1, g2⟩ := rp_pass hn hm5 L (j + 1) (rnStep ms ps d p (P, A) x) hL2 h1 h2 (by omega)
    rw [List.foldl_cons, List.length_cons, show j + (L.length + 1) = j + 1 + L.length by omega]
    refine ⟨g1, Nat.le_trans ?_ g2⟩
    show P.length ≤ _
    unfold rnStep
    split
    · exact Nat.le_refl _
    · split
      · exact Nat.le_refl _
      · show P.length ≤ (P ++ [_]).length
        rw [List.length_append]; omega
theorem rp_wh (hn : ms.Nodup) (hm5 : ms.length ≤ 5) {P : List (List Int)} {A : List Arc} {d : Nat} (h : RnI ms ps M0 20 P A d 0) (hd : d < P.length) (h8 : P.length ≤ 12) :
    RnI ms ps M0 20 (rnPass ms ps d (P, A)).1 (rnPass ms ps d (P, A)).2 (d + 1) 0 ∧ d + 1 ≤ (rnPass ms ps d (P, A)).1.length := by
  have hp : P[d]? = some (P.getD d []) := by rw [List.getD_eq_getElem?_getD, List.getElem?_eq_getElem hd]; rfl
  obtain ⟨g1, g2⟩ := rp_pass hn hm5 (p := P.getD d []) ms 0 (P, A) (by simp) h hp (by show P.length ≤ 12 + 0; omega)
  rw [Nat.zero_add] at g1
  exact ⟨g1.next, Nat.le_trans hd g2⟩
theorem rp_all (hn : ms.Nodup) (hm5 : ms.length ≤ 5) : ∀ (n d : Nat) (P : List (List Int)) (A : List Arc), 13 ≤ d + n → d ≤ P.length → RnI ms ps M0 20 P A d 0 →
    ∃ d', RnI ms ps M0 20 (rnAll ms ps n d (P, A)).1 (rnAll ms ps n d (P, A)).2 d' 0 ∧ ((rnAll ms ps n d (P, A)).1.length ≤ 12 → d' = (rnAll ms ps n d (P, A)).1.length) := by
  intro n
  induction n with
  | zero =>
    intro d P A hdn hd h
    exact ⟨d, h, fun h8 => by show d = P.length; have h8 : P.length ≤ 12 := h8; omega⟩
  | succ n ih =>
    intro d P A hdn hd h
    unfold rnAll
    by_cases h3 : d < P.length ∧ P.length ≤ 12
    · rw [if_pos h3]
      obtain ⟨w1, w2⟩ := rp_wh hn hm5 h h3.1 h3.2
      exact ih (d + 1) (rnPass ms ps d (P, A)).1 (rnPass ms ps d (P, A)).2 (by omega) w2 w1
    · rw [if_neg h3]
      exact ⟨d, h, fun h8 => by show d = P.length; have h8 : P.length ≤ 12 := h8; omega⟩
theorem rp_run (hn : ms.Nodup) (hm5 : ms.length ≤ 5) (hps : ∀ p ∈ ps, PWF ms.length p) : ∃ d, RnI ms ps (ps.map (·.1)) 20 (rnR ms ps).1 (rnR ms ps).2 d 0 ∧ ((rnR ms ps).1.length ≤ 12 → d = (rnR ms ps).1.length) := by
  have h0 : RnI ms ps (ps.map (·.1)) 20 [ps.map (·.1)] [] 0 0 := by
    refine ⟨by simp, rfl, (by show 1 ≤ 20; omega), fun M hM => ?_, fun x hx => (by cases hx), fun i mv M M' hi hM hs => ?_, by simp, fun s hs => ?_, by simp⟩
    · rw [List.mem_singleton.mp hM, List.length_map]
    · rcases hi with ⟨hi, _⟩ | ⟨_, hi⟩
      · omega
      · rw [List.take_zero] at hi; cases hi
    · have : s = 0 := by
        have : s < 1 := hs
        omega
      subst this
      exact .zero
  have h := rp_all hn hm5 13 0 [ps.map (·.1)] [] (by decide) (by simp) h0
  unfold rnR
  exact h
end
section
variable {ms : List Str} {ps : List Plc}
theorem rn_ext {d : Nat} {p : List Int} {P : List (List Int)} {A : List Arc} {x : Str} : P <+: (rnStep ms ps d p (P, A) x).1 := by
  unfold rnStep
  split
  · exact List.prefix_refl _
  · split
    · exact List.prefix_refl _
    · exact List.prefix_append _ _
theorem rn_extL {d : Nat} {p : List Int} : ∀ (L : List Str) (q : PA), q.1 <+: (L.foldl (rnStep ms ps d p) q).1
  | [], q => List.prefix_refl _
  | x :: L, q => rn_ext.trans (rn_extL L _)
theorem rn_extA : ∀ (n d : Nat) (q : PA), q.1 <+: (rnAll ms ps n d q).1
  | 0, d, q => List.prefix_refl _
  | n + 1, d, q => by
    unfold rnAll
    split
    · exact (rn_extL ms q).trans (rn_extA n (d + 1) _)
    · exact List.prefix_refl _
theorem st_rel {d : Nat} {p : List Int} {s : MS} {x : Str} (hP : s.P.length ≤ 12) : match mStepE 13 ms ps d p s x with
    | .ok t => rnStep ms ps d p (s.P, s.A) x = (t.P, t.A) ∧ t.P.length ≤ 12
    | .error t => 12 < (rnStep ms ps d p (s.P, s.A) x).1.length := by
  unfold rnStep mStepE
  cases hq : stepF (ixOf ms x) ps p with
  | none => exact ⟨rfl, hP⟩
  | some q =>
    simp only
    by_cases hm : q ∈ s.P
    · have e : mNum s d x q = s := by unfold mNum; rw [if_pos hm]
      rw [e, if_pos hm, if_neg (by omega : ¬ s.P.length = 13)]
      exact ⟨rfl, hP⟩
    · have e : mNum s d x q = ⟨s.P ++ [q], s.A, s.H ++ [some d], s.W ++ [s.W.getD d [] ++ [x]]⟩ := by unfold mNum; rw [if_neg hm]
      rw [e, if_neg hm]
      simp only [List.length_append, List.length_singleton]
      by_cases h12 : s.P.length = 12
      · rw [if_pos (by omega)]
        show 12 < s.P.length + 1
        omega
      · rw [if_neg (by omega)]
        refine ⟨?_, show (s.P ++ [q]).length ≤ 12 by simp; omega⟩
        show (_, _) = (_, _)
        rw [ixM_new hm]
theorem ps_rel {d : Nat} {p : List Int} : ∀ (xs : List Str) (s : MS), s.P.length ≤ 12 → match xs.foldlM (mStepE 13 ms ps d p) s with
    | .ok t => xs.foldl (rnStep ms ps d p) (s.P, s.A) = (t.P, t.A) ∧ t.P.length ≤ 12
    | .error t => 12 < (xs.foldl (rnStep ms ps d p) (s.P, s.A)).1.length
  | [], s, h => ⟨rfl, h⟩
  | x :: xs, s, h => by
    have h1 := st_rel (ms := ms) (ps := ps) (d := d) (p := p) (x := x) h
    rw [List.foldlM_cons, List.foldl_cons]
    cases hs : mStepE 13 ms ps d p s x with
    | ok t =>
      rw [hs] at h1
      rw [h1.1]
      exact ps_rel xs t h1.2
    | error t =>
      rw [hs] at h1
      show 12 < _
      exact Nat.lt_of_lt_of_le h1 (rn_extL xs _).length_le
theorem al_rel : ∀ (n d : Nat) (s : MS), s.P.length ≤ 12 → match mAll 13 ms ps n d s with
    | .ok t => rnAll ms ps n d (s.P, s.A) = (t.P, t.A) ∧ t.P.length ≤ 12
    | .error t => 12 < (rnAll ms ps n d (s.P, s.A)).1.length
  | 0, d, s, h => ⟨rfl, h⟩
  | n + 1, d, s, h => by
    unfold rnAll mAll
    by_cases hd : d < s.P.length
    · rw [if_pos hd, if_pos (show d < (s.P, s.A).1.length ∧ (s.P, s.A).1.length ≤ 12 from ⟨hd, h⟩)]
      have h1 := ps_rel (ms := ms) (ps := ps) (d := d) (p := s.P.getD d []) ms s h
      unfold rnPass mPass
      cases hs : ms.foldlM (mStepE 13 ms ps d (s.P.getD d [])) s with
      | ok t =>
        rw [hs] at h1
        show match mAll 13 ms ps n (d + 1) t with
          | .ok t => _
          | .error t => _
        rw [h1.1]
        exact al_rel n (d + 1) t h1.2
      | error t =>
        rw [hs] at h1
        show 12 < _
        exact Nat.lt_of_lt_of_le h1 (rn_extA n (d + 1) _).length_le
    · rw [if_neg hd, if_neg (show ¬ (d < (s.P, s.A).1.length ∧ (s.P, s.A).1.length ≤ 12) from fun q => hd q.1)]
      exact ⟨rfl, h⟩
theorem run_rel : match metX 13 ms ps with
    | .ok t => rnR ms ps = (t.P, t.A) ∧ t.P.length ≤ 12
    | .error t => 12 < (rnR ms ps).1.length := al_rel 13 0 (ms0 (ps.map (·.1))) (show 1 ≤ 12 by omega)
end
theorem nodup_sub_len {α : Type} [DecidableEq α] : ∀ {l1 l2 : List α}, l1.Nodup → (∀ x ∈ l1, x ∈ l2) → l1.length ≤ l2.length
  | [], l2, _, _ => Nat.zero_le _
  | a :: r, l2, h, hs => by
    have h1 := List.nodup_cons.mp h
    have ha := hs a List.mem_cons_self
    have q := nodup_sub_len (l1 := r) (l2 := l2.erase a) h1.2 fun x hx => (List.mem_erase_of_ne (by intro e; subst e; exact h1.1 hx)).mpr (hs x (List.mem_cons_of_mem _ hx))
    rw [List.length_erase_of_mem ha] at q
    have := List.length_pos_of_mem ha
    rw [List.length_cons]
    omega
/-- what a run of at most twelve markings is -/
theorem met_ok {ms : List Str} {ps : List Plc} (hn : ms.Nodup) (hm5 : ms.length ≤ 5) (hps : ∀ p ∈ ps, PWF ms.length p) {t : MS} (h : metX 13 ms ps = .ok t) : RnI ms ps (ps.map (·.1)) 20 t.P t.A t.P.length 0 ∧ t.P.length ≤ 12 := by
  obtain ⟨d, hI, hd⟩ := rp_run hn hm5 hps
  have hrel := run_rel (ms := ms) (ps := ps)
  rw [h] at hrel
  obtain ⟨e, hl⟩ : rnR ms ps = (t.P, t.A) ∧ t.P.length ≤ 12 := hrel
  rw [e] at hI hd
  have hd := hd hl
  rw [hd] at hI
  exact ⟨hI, hl⟩
end DL
namespace DL
open PySem PySem.Spec PyProof.Rows L2
structure Ap (n : Nat) (T B : Nat → Int) (G : Nat → Nat) : Prop where
  t : ∀ k, k < n → 0 < T k
  lo : ∀ k, k < n → T k * (G k : Int) ≤ B k
  hi : ∀ k, k < n → B k < T k * ((G k : Int) + 1)
def apPl (n : Nat) (T B : Nat → Int) (k : Nat) : Plc := (B k, (List.range n).map fun j => T k * (if j = k then 1 else 0), (List.range n).map fun _ => 0)
def apPs (n : Nat) (T B : Nat → Int) : List Plc := (List.range n).map (apPl n T B)
def apM (n : Nat) (T B : Nat → Int) (l : List Nat) : List Int := (List.range n).map fun k => B k - T k * (l.getD k 0 : Nat)
def apG (G : Nat → Nat) : Nat → List (List Nat)
  | 0 => [[]]
  | n + 1 => (apG G n).flatMap fun l => (List.range (G n + 1)).map fun x => l ++ [x]
def apT (G : Nat → Nat) : Nat → Nat
  | 0 => 1
  | n + 1 => apT G n * (G n + 1)
theorem apG_mem {G : Nat → Nat} : ∀ {n : Nat} {l : List Nat}, l ∈ apG G n ↔ l.length = n ∧ ∀ k, k < n → l.getD k 0 ≤ G k
  | 0, l => by
    show l ∈ [[]] ↔ _
    rw [List.mem_singleton]
    constructor
    · rintro rfl; exact ⟨rfl, fun k h => absurd h (Nat.not_lt_zero _)⟩
    · intro h; exact List.eq_nil_of_length_eq_zero h.1
  | n + 1, l => by
    show l ∈ (apG G n).flatMap _ ↔ _
    rw [List.mem_flatMap]
    constructor
    · rintro ⟨a, ha, h⟩
      obtain ⟨x, hx, rfl⟩ := List.mem_map.mp h
      obtain ⟨h1, h2⟩ := apG_mem.mp ha
      have hx := List.mem_range.mp hx
      refine ⟨by simp [h1], fun k hk => ?_⟩
      by_cases e : k < n
      · rw [List.getD_eq_getElem?_getD, List.getElem?_append_left (by omega), ← List.getD_eq_getElem?_getD]
        exact h2 k e
      · have : k = a.length := by omega
        subst this
        rw [List.getD_eq_getElem?_getD, List.getElem?_append_right (Nat.le_refl _), Nat.sub_self]
        show x ≤ _
        rw [h1]; omega
    · rintro ⟨h1, h2⟩
      obtain ⟨a, x, rfl⟩ : ∃ a x, l = a ++ [x] := by
        refine ⟨l.dropLast, l.getLast (by intro e; rw [e] at h1; cases h1), ?_⟩
        exact (List.dropLast_concat_getLast _).symm
      have hl : a.length = n := by simpa using h1
      refine ⟨a, apG_mem.mpr ⟨hl, fun k hk => ?_⟩, List.mem_map.mpr ⟨x, List.mem_range.mpr ?_, rfl⟩⟩
      · have := h2 k (by omega)
        rw [List.getD_eq_getElem?_getD, List.getElem?_append_left (by omega), ← List.getD_eq_getElem?_getD] at this
        exact this
      · have := h2 n (by omega)
        rw [List.getD_eq_getElem?_getD, List.getElem?_append_right (by omega), hl, Nat.sub_self] at this
        have : x ≤ G n := this
        omega
theorem apG_len {G : Nat → Nat} : ∀ n, (apG G n).length = apT G n
  | 0 => rfl
  | n + 1 => by
    show ((apG G n).flatMap _).length = apT G n * (G n + 1)
    rw [List.length_flatMap, ← apG_len n]
    induction apG G n with
    | nil => simp
    | cons a r ih =>
      rw [List.map_cons, List.sum_cons, ih, List.length_cons, List.length_map, List.length_range, Nat.succ_mul, Nat.add_comm]
theorem apG_nodup {G : Nat → Nat} : ∀ n, (apG G n).Nodup
  | 0 => by show ([[]] : List (List Nat)).Nodup; simp
  | n + 1 => by
    show ((apG G n).flatMap _).Nodup
    rw [List.nodup_iff_pairwise_ne, List.pairwise_flatMap]
    refine ⟨fun a ha => ?_, ?_⟩
    · rw [List.pairwise_map]
      refine (List.pairwise_lt_range (n := G n + 1)).imp fun {x y} h e => ?_
      have := List.append_cancel_left e
      simp at this
      omega
    · refine (List.nodup_iff_pairwise_ne.mp (apG_nodup n)).imp fun {a b} hab u hu v hv e => hab ?_
      obtain ⟨x, _, rfl⟩ := List.mem_map.mp hu
      obtain ⟨y, _, rfl⟩ := List.mem_map.mp hv
      exact (List.append_inj' e rfl).1
section
variable {n : Nat} {T B : Nat → Int} {G : Nat → Nat}
theorem apM_len {l : List Nat} : (apM n T B l).length = n := by simp [apM]
theorem apM_at {l : List Nat} {k : Nat} (h : k < n) : (apM n T B l)[k]? = some (B k - T k * (l.getD k 0 : Nat)) := by
  unfold apM
  rw [List.getElem?_map, List.getElem?_range h]; rfl
theorem apM_inj (h : Ap n T B G) {l m : List Nat} (hl : l.length = n) (hm : m.length = n) (e : apM n T B l = apM n T B m) : l = m := by
  refine List.ext_getElem (by omega) fun k h1 h2 => ?_
  have hk : k < n := by omega
  have q := congrArg (fun L => L[k]?) e
  simp only [apM_at hk, Option.some.injEq] at q
  have ht := h.t k hk
  have q2 : T k * (l.getD k 0 : Nat) = T k * (m.getD k 0 : Nat) := by omega
  have q3 := Int.eq_of_mul_eq_mul_left (by omega) q2
  rw [List.getD_eq_getElem?_getD, List.getD_eq_getElem?_getD, List.getElem?_eq_getElem h1, List.getElem?_eq_getElem h2] at q3
  have q3 : ((l[k] : Nat) : Int) = (m[k] : Nat) := q3
  omega
/-- whether there are beads for one more -/
theorem ap_more (h : Ap n T B G) {k x : Nat} (hk : k < n) (hx : x ≤ G k) : T k ≤ B k - T k * (x : Int) ↔ x < G k := by
  have ht := h.t k hk
  have h1 := h.lo k hk
  have h2 := h.hi k hk
  constructor
  · intro h3
    refine Classical.byContradiction fun h4 => ?_
    have : x = G k := by omega
    subst this
    rw [Int.mul_add, Int.mul_one] at h2
    omega
  · intro h3
    have h4 : T k * ((x : Int) + 1) ≤ T k * (G k : Int) := Int.mul_le_mul_of_nonneg_left (by omega) (by omega)
    rw [Int.mul_add, Int.mul_one] at h4
    omega
theorem ap_pos (h : Ap n T B G) {k x : Nat} (hk : k < n) (hx : x ≤ G k) : 0 ≤ B k - T k * (x : Int) := by
  have ht := h.t k hk
  have h1 := h.lo k hk
  have h4 : T k * (x : Int) ≤ T k * (G k : Int) := Int.mul_le_mul_of_nonneg_left (by omega) (by omega)
  omega
theorem ap_tk {j k : Nat} (hk : k < n) : tk (apPl n T B j) k = if j = k then T k else 0 := by
  unfold tk apPl
  simp only
  rw [List.getD_eq_getElem?_getD, List.getElem?_map, List.getElem?_range hk]
  show T j * (if k = j then 1 else 0) = _
  by_cases e : j = k
  · subst e; simp
  · rw [if_neg (fun q => e q.symm), if_neg e]; simp
theorem ap_gv {j k : Nat} : gv (apPl n T B j) k = 0 := by
  unfold gv apPl
  simp only
  rw [List.getD_eq_getElem?_getD, List.getElem?_map]
  cases (List.range n)[k]? <;> rfl
theorem ap_wf (h : Ap n T B G) : ∀ p ∈ apPs n T B, PWF n p := fun p hp => by
  obtain ⟨k, hk, rfl⟩ := List.mem_map.mp hp
  have hk := List.mem_range.mp hk
  refine ⟨?_, by simp [apPl], by simp [apPl], fun x hx => ?_, fun x hx => ?_⟩
  · have := ap_pos h (x := 0) hk (Nat.zero_le _)
    show 0 ≤ B k
    simpa using this
  · obtain ⟨j, _, rfl⟩ := List.mem_map.mp (show x ∈ (List.range n).map fun j => T k * (if j = k then 1 else 0) from hx)
    have := h.t k hk
    split <;> omega
  · obtain ⟨j, _, rfl⟩ := List.mem_map.mp (show x ∈ (List.range n).map fun _ => (0 : Int) from hx)
    exact Int.le_refl _
theorem apPs_len : (apPs n T B).length = n := by simp [apPs]
theorem apPs_0 : (apPs n T B).map (·.1) = apM n T B (List.replicate n 0) := by
  unfold apPs apM
  rw [List.map_map]
  refine List.map_congr_left fun k hk => ?_
  show B k = B k - T k * _
  rw [List.getD_eq_getElem?_getD, List.getElem?_replicate]
  split <;> simp
/-- a step -/
theorem ap_step (h : Ap n T B G) {l : List Nat} (hl : l ∈ apG G n) {k : Nat} (hk : k < n) : stepF k (apPs n T B) (apM n T B l) = if l.getD k 0 < G k then some (apM n T B (l.set k (l.getD k 0 + 1))) else none := by
  obtain ⟨h1, h2⟩ := apG_mem.mp hl
  have hz : (apM n T B l).zip (apPs n T B) = (List.range n).map fun j => (B j - T j * (l.getD j 0 : Nat), apPl n T B j) := by
    unfold apM apPs
    rw [List.zip_map']
  unfold stepF
  rw [hz]
  have hall : (((List.range n).map fun j => (B j - T j * (l.getD j 0 : Nat), apPl n T B j)).all fun z => decide (tk z.2 k ≤ z.1)) = true ↔ l.getD k 0 < G k := by
    rw [List.all_map, List.all_eq_true]
    constructor
    · intro q
      have q1 := q k (List.mem_range.mpr hk)
      have q1 : tk (apPl n T B k) k ≤ B k - T k * (l.getD k 0 : Nat) := of_decide_eq_true q1
      rw [ap_tk hk, if_pos rfl] at q1
      exact (ap_more h hk (h2 k hk)).mp q1
    · intro q j hj
      have hj := List.mem_range.mp hj
      refine decide_eq_true ?_
      show tk (apPl n T B j) k ≤ B j - T j * (l.getD j 0 : Nat)
      rw [ap_tk hk]
      by_cases e : j = k
      · subst e
        rw [if_pos rfl]
        exact (ap_more h hk (h2 j hk)).mpr q
      · rw [if_neg e]
        exact ap_pos h hj (h2 j hj)
  by_cases hg : l.getD k 0 < G k
  · rw [if_pos hg, if_pos (hall.mpr hg), List.map_map]
    congr 1
    unfold apM
    refine List.map_congr_left fun j hj => ?_
    show B j - T j * (l.getD j 0 : Nat) - tk (apPl n T B j) k + gv (apPl n T B j) k = _
    rw [ap_tk hk, ap_gv]
    by_cases e : j = k
    · subst e
      rw [if_pos rfl]
      have : (l.set j (l.getD j 0 + 1)).getD j 0 = l.getD j 0 + 1 := by
        rw [List.getD_eq_getElem?_getD, List.getElem?_set_self (by omega)]; rfl
      rw [this]
      have : ((l.getD j 0 + 1 : Nat) : Int) = (l.getD j 0 : Nat) + 1 := by omega
      rw [this, Int.mul_add, Int.mul_one]
      omega
    · rw [if_neg e]
      have : (l.set k (l.getD k 0 + 1)).getD j 0 = l.getD j 0 := by
        rw [List.getD_eq_getElem?_getD, List.getElem?_set_ne (fun q => e q.symm), ← List.getD_eq_getElem?_getD]
      rw [this]
      omega
  · rw [if_neg hg, if_neg fun q => hg (hall.mp q)]
theorem apG_set {l : List Nat} (hl : l ∈ apG G n) {k x : Nat} (hk : k < n) (hx : x ≤ G k) : l.set k x ∈ apG G n := by
  obtain ⟨h1, h2⟩ := apG_mem.mp hl
  refine apG_mem.mpr ⟨by simp [h1], fun j hj => ?_⟩
  by_cases e : j = k
  · subst e
    rw [List.getD_eq_getElem?_getD, List.getElem?_set_self (by omega)]; exact hx
  · rw [List.getD_eq_getElem?_getD, List.getElem?_set_ne (fun q => e q.symm), ← List.getD_eq_getElem?_getD]
    exact h2 j hj
theorem apG_0 : List.replicate n 0 ∈ apG G n := apG_mem.mpr ⟨by simp, fun k hk => by
  rw [List.getD_eq_getElem?_getD, List.getElem?_replicate]
  split <;> exact Nat.zero_le _⟩
def apMs (n : Nat) (T B : Nat → Int) (G : Nat → Nat) : List (List Int) := (apG G n).map (apM n T B)
theorem apMs_len : (apMs n T B G).length = apT G n := by rw [apMs, List.length_map, apG_len]
theorem apMs_nodup (h : Ap n T B G) : (apMs n T B G).Nodup := by
  unfold apMs
  rw [List.nodup_iff_pairwise_ne, List.pairwise_map]
  exact (List.nodup_iff_pairwise_ne.mp (apG_nodup n)).imp_of_mem fun {a b} ha hb hab e => hab (apM_inj h (apG_mem.mp ha).1 (apG_mem.mp hb).1 e)
theorem sum_set : ∀ (l : List Nat) (k x : Nat), k < l.length → (l.set k x).sum + l.getD k 0 = l.sum + x
  | [], k, x, h => absurd h (Nat.not_lt_zero _)
  | a :: l, 0, x, h => by simp; omega
  | a :: l, k + 1, x, h => by
    have := sum_set l k x (by simpa using h)
    simp at this ⊢
    omega
/-- all of them are come to -/
theorem ap_all (h : Ap n T B G) {S : List Int → Prop} (h0 : S (apM n T B (List.replicate n 0))) (hs : ∀ M k M', k < n → S M → stepF k (apPs n T B) M = some M' → S M') : ∀ l ∈ apG G n, S (apM n T B l) := by
  have key : ∀ (c : Nat) (l : List Nat), l.sum = c → l ∈ apG G n → S (apM n T B l) := by
    intro c
    induction c with
    | zero =>
      intro l hc hl
      have : l = List.replicate n 0 := by
        rw [List.eq_replicate_iff]
        refine ⟨(apG_mem.mp hl).1, fun b hb => ?_⟩
        have := List.sum_eq_zero_iff_forall_eq_nat.mp hc
        exact this b hb
      rw [this]; exact h0
    | succ c ih =>
      intro l hc hl
      obtain ⟨h1, h2⟩ := apG_mem.mp hl
      obtain ⟨k, hk, hpos⟩ : ∃ k, k < n ∧ 0 < l.getD k 0 := by
        refine Classical.byContradiction fun hn => ?_
        have : l.sum = 0 := List.sum_eq_zero_iff_forall_eq_nat.mpr fun b hb => by
          obtain ⟨k, hk, rfl⟩ := List.mem_iff_getElem.mp hb
          refine Classical.byContradiction fun hb0 => hn ⟨k, by omega, ?_⟩
          rw [List.getD_eq_getElem?_getD, List.getElem?_eq_getElem hk]
          show 0 < l[k]
          omega
        omega
      have hl2 := apG_set (x := l.getD k 0 - 1) hl hk (by have := h2 k hk; omega)
      have hsum := sum_set l k (l.getD k 0 - 1) (by omega)
      have hprev := ih (l.set k (l.getD k 0 - 1)) (by omega) hl2
      have hst := ap_step h hl2 hk
      have hgd : (l.set k (l.getD k 0 - 1)).getD k 0 = l.getD k 0 - 1 := by
        rw [List.getD_eq_getElem?_getD, List.getElem?_set_self (by omega)]; rfl
      rw [hgd, if_pos (by have := h2 k hk; omega), List.set_set, show l.getD k 0 - 1 + 1 = l.getD k 0 by omega] at hst
      have hself : l.set k (l.getD k 0) = l := by
        refine List.ext_getElem (by simp) fun j j1 j2 => ?_
        rw [List.getElem_set]
        split
        · rename_i e; subst e
          rw [List.getD_eq_getElem?_getD, List.getElem?_eq_getElem j2]; rfl
        · rfl
      rw [hself] at hst
      exact hs _ k _ hk hprev hst
  exact fun l hl => key l.sum l rfl hl
/-- a step stays among them -/
theorem ap_stay (h : Ap n T B G) {M M' : List Int} {k : Nat} (hk : k < n) (hM : M ∈ apMs n T B G) (hs : stepF k (apPs n T B) M = some M') : M' ∈ apMs n T B G ∧ M'.sum < M.sum := by
  obtain ⟨l, hl, rfl⟩ := List.mem_map.mp hM
  rw [ap_step h hl hk] at hs
  split at hs
  · rename_i hg
    cases hs
    refine ⟨List.mem_map.mpr ⟨_, apG_set hl hk hg, rfl⟩, ?_⟩
    have ht := h.t k hk
    obtain ⟨h1, _⟩ := apG_mem.mp hl
    unfold apM
    have key : ∀ m, ((List.range m).map fun j => B j - T j * ((l.set k (l.getD k 0 + 1)).getD j 0 : Nat)).sum = ((List.range m).map fun j => B j - T j * (l.getD j 0 : Nat)).sum - (if k < m then T k else 0) := by
      intro m
      induction m with
      | zero => simp
      | succ m ih =>
        rw [List.range_succ, List.map_append, List.map_append, List.sum_append, List.sum_append, ih]
        simp only [List.map_cons, List.map_nil, List.sum_cons, List.sum_nil]
        by_cases e : k = m
        · subst e
          have : (l.set k (l.getD k 0 + 1)).getD k 0 = l.getD k 0 + 1 := by
            rw [List.getD_eq_getElem?_getD, List.getElem?_set_self (by omega)]; rfl
          rw [this, if_neg (by omega), if_pos (by omega)]
          have : ((l.getD k 0 + 1 : Nat) : Int) = (l.getD k 0 : Nat) + 1 := by omega
          rw [this, Int.mul_add, Int.mul_one]
          omega
        · have : (l.set k (l.getD k 0 + 1)).getD m 0 = l.getD m 0 := by
            rw [List.getD_eq_getElem?_getD, List.getElem?_set_ne e, ← List.getD_eq_getElem?_getD]
          rw [this]
          by_cases e2 : k < m
          · rw [if_pos e2, if_pos (by omega)]; omega
          · rw [if_neg e2, if_neg (by omega)]; omega
    rw [key, if_pos hk]
    omega
  · cases hs
end
end DL
namespace DL
open PySem PySem.Spec PyProof.Rows L2
section
variable {ms : List Str} {n : Nat} {T B : Nat → Int} {G : Nat → Nat}
theorem ix_at {ms : List Str} (hn : ms.Nodup) {k : Nat} {x : Str} (h : ms[k]? = some x) : ixOf ms x = k := by
  obtain ⟨h1, h2⟩ := ixOf_some (List.mem_of_getElem? h)
  obtain ⟨hl, h3, _⟩ := List.findIdx?_eq_some_iff_getElem.mp h1
  have h3 : ms[ixOf ms x] = x := by simpa using h3
  have hk := (List.getElem?_eq_some_iff.mp h).1
  refine (List.getElem?_inj hl hn).mp ?_
  rw [h, List.getElem?_eq_getElem hl, h3]
theorem over_sum : ∀ (M N : List Int), M.length = N.length → overB M N = true → N.sum ≤ M.sum
  | [], [], _, _ => Int.le_refl _
  | a :: M, b :: N, h, ho => by
    unfold overB at ho
    rw [List.zip_cons_cons, List.all_cons, Bool.and_eq_true] at ho
    have h2 := over_sum M N (by simpa using h) ho.2
    have h1 : ¬ a < b := by simpa using ho.1
    rw [List.sum_cons, List.sum_cons]
    omega
/-- all that is met is on the grid -/
theorem ap_in (h : Ap n T B G) (hl : ms.length = n) {s : MS} (hW : WI ms (apPs n T B) ((apPs n T B).map (·.1)) s) : ∀ i, i < s.P.length → s.P.getD i [] ∈ apMs n T B G := by
  intro i
  induction i using Nat.strongRecOn with
  | ind i ih =>
    intro hi
    by_cases h0 : i = 0
    · subst h0
      rw [List.getD_eq_getElem?_getD, hW.p0, apPs_0]
      exact List.mem_map.mpr ⟨_, apG_0, rfl⟩
    · obtain ⟨a, x, e1, e2, e3, e4, e5⟩ := hW.st i (by omega) hi
      have hx := (ixOf_some e2).2
      exact (ap_stay h (by omega) (ih a e4 (by omega)) e5).1
theorem ap_gone (h : Ap n T B G) (hl : ms.length = n) : ∀ (r : List Str) (M M' : List Int), (∀ x ∈ r, x ∈ ms) → M ∈ apMs n T B G → goneF ms (apPs n T B) r M = some M' → r = [] ∨ M'.sum < M.sum
  | [], M, M', _, _, _ => .inl rfl
  | x :: r, M, M', hr, hM, hg => by
    have hx := (ixOf_some (hr x List.mem_cons_self)).2
    have hg : (stepF (ixOf ms x) (apPs n T B) M).bind (goneF ms (apPs n T B) r) = some M' := hg
    cases hs : stepF (ixOf ms x) (apPs n T B) M with
    | none => rw [hs] at hg; cases hg
    | some q =>
      rw [hs] at hg
      have hg : goneF ms (apPs n T B) r q = some M' := hg
      obtain ⟨h1, h2⟩ := ap_stay h (by omega) hM hs
      refine .inr ?_
      rcases ap_gone h hl r q M' (fun y hy => hr y (List.mem_cons_of_mem _ hy)) h1 hg with e | e
      · subst e
        cases hg
        exact h2
      · omega
theorem ap_growD (h : Ap n T B G) (hl : ms.length = n) {s : MS} (hW : WI ms (apPs n T B) ((apPs n T B).map (·.1)) s) : growD s = .tup [.str "beyond"] := by
  have hno : (List.range s.P.length).findSome? (fun i => (growAt s i).map (gD s i)) = none := by
    rw [List.findSome?_eq_none_iff]
    intro i hi
    have hi := List.mem_range.mp hi
    rw [Option.map_eq_none_iff]
    unfold growAt
    rw [List.find?_eq_none]
    intro a ha hov
    obtain ⟨⟨r, r0, r1, r2⟩, hai⟩ := hW.anc _ i hi a ha
    have m1 := ap_in h hl hW i hi
    have m2 := ap_in h hl hW a (by omega)
    have hlen : (s.P.getD i []).length = (s.P.getD a []).length := by
      obtain ⟨l, _, e⟩ := List.mem_map.mp m1
      obtain ⟨l2, _, e2⟩ := List.mem_map.mp m2
      rw [← e, ← e2, apM_len, apM_len]
    have hs := over_sum _ _ hlen hov
    rcases ap_gone h hl r _ _ r0 m2 r2 with e | e
    · subst e
      have e : s.P.getD a [] = s.P.getD i [] := Option.some.inj r2
      rw [List.getD_eq_getElem?_getD, List.getD_eq_getElem?_getD, List.getElem?_eq_getElem hi, List.getElem?_eq_getElem (by omega : a < s.P.length)] at e
      have := (List.getElem_inj hW.nd).mp (show s.P[a] = s.P[i] from e)
      omega
    · omega
  unfold growD
  rw [hno]
theorem ap_run (h : Ap n T B G) (hn : ms.Nodup) (hl : ms.length = n) (h5 : n ≤ 5) : match metX 13 ms (apPs n T B) with
    | .ok t => RnI ms (apPs n T B) ((apPs n T B).map (·.1)) 20 t.P t.A t.P.length 0 ∧ t.P.length ≤ 12 ∧ t.P.Perm (apMs n T B G)
    | .error t => 12 < apT G n ∧ growD t = .tup [.str "beyond"] := by
  have hw : ∀ p ∈ apPs n T B, PWF ms.length p := by rw [hl]; exact ap_wf h
  have hW := met_W 13 ms (apPs n T B)
  have hI := met_I (ms := ms) (ps := apPs n T B) (most := 13) (by omega) (by omega) hw (by rw [apPs_len]; omega)
  cases hx : metX 13 ms (apPs n T B) with
  | ok t =>
    obtain ⟨h1, h2⟩ := met_ok hn (by omega) hw hx
    refine ⟨h1, h2, (List.perm_ext_iff_of_nodup h1.nd (apMs_nodup h)).mpr fun M => ⟨fun hM => ?_, fun hM => ?_⟩⟩
    · rw [hx] at hW
      obtain ⟨i, hi, rfl⟩ := List.mem_iff_getElem.mp hM
      have := ap_in h hl (s := t) hW i hi
      rw [List.getD_eq_getElem?_getD, List.getElem?_eq_getElem hi] at this
      exact this
    · obtain ⟨l, hlm, rfl⟩ := List.mem_map.mp hM
      refine ap_all h (S := fun M => M ∈ t.P) ?_ (fun M k M' hk hM hs => ?_) l hlm
      · rw [← apPs_0]
        exact List.mem_of_getElem? h1.hd
      · obtain ⟨i, hi⟩ := List.mem_iff_getElem?.mp hM
        have hkl : k < ms.length := by omega
        have hix := ix_at hn (List.getElem?_eq_getElem hkl)
        obtain ⟨j, hj, _⟩ := h1.cl i ms[k] M M' (.inl ⟨(List.getElem?_eq_some_iff.mp hi).1, List.getElem_mem hkl⟩) hi (by rw [hix]; exact hs)
        exact List.mem_of_getElem? hj
  | error t =>
    rw [hx] at hW hI
    have hW : WI ms (apPs n T B) ((apPs n T B).map (·.1)) t := hW
    refine ⟨?_, ap_growD h hl hW⟩
    have hl13 := hI.1.2
    have : t.P.length ≤ (apMs n T B G).length := nodup_sub_len hW.nd fun M hM => by
      obtain ⟨i, hi, rfl⟩ := List.mem_iff_getElem.mp hM
      have := ap_in h hl hW i hi
      rw [List.getD_eq_getElem?_getD, List.getElem?_eq_getElem hi] at this
      exact this
    rw [apMs_len] at this
    omega
/-- how many arcs there are -/
def apGo (n : Nat) (T : Nat → Int) (M : List Int) : List Nat := (List.range n).filter fun k => decide (T k ≤ M.getD k 0)
theorem ap_able (h : Ap n T B G) {M : List Int} (hM : M ∈ apMs n T B G) {k : Nat} (hk : k < n) : k ∈ apGo n T M ↔ ∃ M', stepF k (apPs n T B) M = some M' := by
  obtain ⟨l, hl, rfl⟩ := List.mem_map.mp hM
  unfold apGo
  rw [List.mem_filter, ap_step h hl hk, List.getD_eq_getElem?_getD, apM_at hk]
  show (k ∈ List.range n ∧ decide (T k ≤ B k - T k * (l.getD k 0 : Nat)) = true) ↔ _
  rw [decide_eq_true_eq, ap_more h hk ((apG_mem.mp hl).2 k hk)]
  constructor
  · intro q
    exact ⟨_, if_pos q.2⟩
  · rintro ⟨M', q⟩
    split at q
    · rename_i hg
      exact ⟨List.mem_range.mpr hk, hg⟩
    · cases q
theorem ap_arcs (h : Ap n T B G) (hn : ms.Nodup) (hl : ms.length = n) {t : MS} (h1 : RnI ms (apPs n T B) ((apPs n T B).map (·.1)) 20 t.P t.A t.P.length 0) (hp : t.P.Perm (apMs n T B G)) : t.A.length = (t.P.map fun M => (apGo n T M).length).sum := by
  let L : List (Nat × Nat) := (List.range t.P.length).flatMap fun i => (apGo n T (t.P.getD i [])).map fun k => (i, k)
  have hLl : L.length = (t.P.map fun M => (apGo n T M).length).sum := by
    show ((List.range t.P.length).flatMap _).length = _
    rw [List.length_flatMap]
    congr 1
    simp only [List.length_map]
    have : t.P = (List.range t.P.length).map fun i => t.P.getD i [] := by
      refine List.ext_getElem (by simp) fun i a b => ?_
      rw [List.getElem_map, List.getElem_range, List.getD_eq_getElem?_getD, List.getElem?_eq_getElem a]; rfl
    conv => rhs; rw [this, List.map_map]
    rfl
  have hgn : ∀ M : List Int, (apGo n T M).Nodup := fun M => List.Nodup.sublist List.filter_sublist List.nodup_range
  have hLn : L.Nodup := by
    show ((List.range t.P.length).flatMap _).Nodup
    rw [List.nodup_iff_pairwise_ne, List.pairwise_flatMap]
    refine ⟨fun i _ => ?_, ?_⟩
    · rw [List.pairwise_map]
      exact (List.nodup_iff_pairwise_ne.mp (hgn _)).imp fun {a b} q e => q (Prod.ext_iff.mp e).2
    · refine (List.nodup_iff_pairwise_ne.mp List.nodup_range).imp fun {a b} hab u hu v hv e => hab ?_
      obtain ⟨x, _, rfl⟩ := List.mem_map.mp hu
      obtain ⟨y, _, rfl⟩ := List.mem_map.mp hv
      exact (Prod.ext_iff.mp e).1
  have hAn : (t.A.map fun x : Arc => (x.1, ixOf ms x.2.1)).Nodup := by
    rw [List.nodup_iff_pairwise_ne, List.pairwise_map]
    refine (List.nodup_iff_pairwise_ne.mp h1.an).imp_of_mem fun {x y} hx hy hxy e => hxy ?_
    obtain ⟨_, xm, M, M', a1, a2, a3⟩ := h1.so x hx
    obtain ⟨_, ym, N, N', b1, b2, b3⟩ := h1.so y hy
    have e1 : x.1 = y.1 := (Prod.ext_iff.mp e).1
    have e2 : ixOf ms x.2.1 = ixOf ms y.2.1 := (Prod.ext_iff.mp e).2
    rw [e1, b1] at a1
    cases a1
    rw [e2, b2] at a2
    cases a2
    have e3 : x.2.2 = y.2.2 := (List.getElem?_inj (List.getElem?_eq_some_iff.mp a3).1 h1.nd).mp (a3.trans b3.symm)
    have e4 : x.2.1 = y.2.1 := by
      obtain ⟨c1, c2⟩ := ixOf_some xm
      obtain ⟨d1, d2⟩ := ixOf_some ym
      obtain ⟨c3, c4, _⟩ := List.findIdx?_eq_some_iff_getElem.mp c1
      obtain ⟨d3, d4, _⟩ := List.findIdx?_eq_some_iff_getElem.mp d1
      have c4 : ms[ixOf ms x.2.1] = x.2.1 := by simpa using c4
      have d4 : ms[ixOf ms y.2.1] = y.2.1 := by simpa using d4
      rw [← c4, ← d4]
      congr 1
    exact Prod.ext e1 (Prod.ext e4 e3)
  have hmem : ∀ z, z ∈ (t.A.map fun x : Arc => (x.1, ixOf ms x.2.1)) ↔ z ∈ L := fun z => by
    constructor
    · intro hz
      obtain ⟨x, hx, rfl⟩ := List.mem_map.mp hz
      obtain ⟨_, xm, M, M', a1, a2, a3⟩ := h1.so x hx
      refine List.mem_flatMap.mpr ⟨x.1, List.mem_range.mpr (List.getElem?_eq_some_iff.mp a1).1, List.mem_map.mpr ⟨_, ?_, rfl⟩⟩
      rw [List.getD_eq_getElem?_getD, a1]
      exact (ap_able h (hp.mem_iff.mp (List.mem_of_getElem? a1)) (by have := (ixOf_some xm).2; omega)).mpr ⟨M', a2⟩
    · intro hz
      obtain ⟨i, hi, hz⟩ := List.mem_flatMap.mp hz
      obtain ⟨k, hk, rfl⟩ := List.mem_map.mp hz
      have hi := List.mem_range.mp hi
      have hkn : k < n := List.mem_range.mp (List.mem_filter.mp hk).1
      have hki : k < ms.length := by omega
      have hPi : t.P[i]? = some (t.P.getD i []) := by rw [List.getD_eq_getElem?_getD, List.getElem?_eq_getElem hi]; rfl
      obtain ⟨M', hs⟩ := (ap_able h (hp.mem_iff.mp (List.mem_of_getElem? hPi)) hkn).mp hk
      have hix := ix_at hn (List.getElem?_eq_getElem hki)
      obtain ⟨j, _, hj⟩ := h1.cl i ms[k] _ M' (.inl ⟨hi, List.getElem_mem hki⟩) hPi (by rw [hix]; exact hs)
      exact List.mem_map.mpr ⟨_, hj, by show (i, ixOf ms ms[k]) = _; rw [hix]⟩
  have := ((List.perm_ext_iff_of_nodup hAn hLn).mpr hmem).length_eq
  rw [List.length_map] at this
  rw [this, hLl]
end
end DL
namespace DL
open PySem PySem.Spec PyProof.Rows L2
theorem p10_50 : gPow [.int 10, .int 50] = some (.int (100000000000000000000000000000000000000000000000000)) := pow_eq (by decide) (by decide +kernel)
def lnB : Stm := (sSeq (sSet 5 (eOp (.pur (hC (.int 1)) (.own (eOp (.own (eK (.fin [.plc 0 (pVar 0), .pur (hOp [.pur (hC (.int 6)), .pur (hVar 4)] gAdd)]) (callK [.b, .b] fn_law_cell_at)) (.fin [.pur (hOp [.pur (hC (.int 10)), .pur (hC (.int 50))] gPow)])) gMod) (.fin []))) gAdd))
  (sSeq (sSet 6 (eOp (.own (lcE [.pur (hOp [.pur (hVar 1)] gLen)] mkRange1 (bName 8) eYes (eP (hOp [.pur (hVar 5), .pur (hOp [.pur (hOp [.pur (hVar 8), .pur (hVar 4)] gEq)] gInt)] gMul)) [8]) (.fin [])) gTupOf))
  (sSeq (sSet 7 (eOp (.pur (hOp [.pur (hVar 5), .pur (hRd (pIx (pVar 2) (hVar 4)))] gMul) (.own (eOp (.own (eK (.fin [.plc 0 (pVar 0), .pur (hOp [.pur (hC (.int 10)), .pur (hVar 4)] gAdd)]) (callK [.b, .b] fn_law_cell_at)) (.fin [.pur (hVar 5)])) gMod) (.fin []))) gAdd))
  (sSeq (sExpr (isL 3 (eK (.io 3 (.own (eK (.pur (hVar 7) (.pur (hVar 6) (.own (eOp (.own (lcE [.pur (hOp [.pur (hVar 1)] gLen)] mkRange1 (bName 8) eYes (eP (hC (.int 0))) [8]) (.fin [])) gTupOf) (.fin [])))) (dspK .tup)) (.fin []))) appK)))
  sNop))))
theorem ln_eq : b_law_net = (sSeq (sSet 3 (eK (.fin []) (dspK .lst)))
  (sSeq (sFor [.pur (hOp [.pur (hVar 1)] gLen)] mkRange1 (bName 4) [4, 5, 6, 7] lnB)
  (sSeq (sRet (eK (.pur (hVar 1) (.own (eMov 3) (.fin []))) (dspK .tup)))
  sNop))) := rfl
abbrev E50 : Int := 100000000000000000000000000000000000000000000000000
def tkN (ns : List Int) (k : Nat) : Int := 1 + cv ns (6 + (k : Int)).toNat % E50
def bdN (ns : List Int) (gs : List Int) (k : Nat) : Int := tkN ns k * gs.getD k 0 + cv ns (10 + (k : Int)).toNat % tkN ns k
theorem tkN_pos (ns : List Int) (k : Nat) : 0 < tkN ns k ∧ Bd 170 (tkN ns k) := by
  have h1 := Int.emod_nonneg (cv ns (6 + (k : Int)).toNat) (show E50 ≠ 0 by decide)
  have h2 := Int.emod_lt_of_pos (cv ns (6 + (k : Int)).toNat) (show (0 : Int) < E50 by decide)
  unfold tkN
  refine ⟨by omega, ?_⟩
  unfold Bd
  have : (E50 : Int) < (2 ^ 170 : Nat) := by decide
  omega
abbrev lnE (ns : List Int) (ms : List Str) (gs : List Int) (L : List Plc) : DEnv := [some (.brw, .scr ns), some (.brw, .tupF true (ms.map .str)), some (.brw, .lst (gs.map .int)), some (.own, .lst (L.map dPl)), none, none, none, none, none]
theorem ln_turn {ns : List Int} {ms : List Str} {gs : List Int} {L : List Plc} {k : Nat} (hk : k < ms.length) (h5 : ms.length ≤ 5) (hg : gs.length = ms.length) (hgs : ∀ g ∈ gs, 0 ≤ g ∧ g ≤ 4) (hL : L.length ≤ 5) : Turn1 (bName 4) [4, 5, 6, 7] lnB (.int (k : Int)) (lnE ns ms gs L) (lnE ns ms gs (L ++ [apPl ms.length (tkN ns) (bdN ns gs) k])) := by
  have c6 := cell_ok ns (6 + (k : Int)) (by omega)
  have c10 := cell_ok ns (10 + (k : Int)) (by omega)
  have hgk : gs[k]? = some (gs.getD k 0) := by rw [List.getD_eq_getElem?_getD, List.getElem?_eq_getElem (by omega)]; rfl
  have hat : atI (gs.map D.int) (k : Int) = some (.int (gs.getD k 0)) := at_getD (by omega)
  have hgr := hgs _ (List.mem_of_getElem? hgk)
  obtain ⟨t0, tB⟩ := tkN_pos ns k
  have hap : apPl ms.length (tkN ns) (bdN ns gs) k = (bdN ns gs k, (List.range ms.length).map fun j => tkN ns k * (if j = k then 1 else 0), (List.range ms.length).map fun _ => 0) := rfl
  have hb : bdN ns gs k = tkN ns k * gs.getD k 0 + cv ns (10 + (k : Int)).toNat % tkN ns k := rfl
  have ht : 1 + cv ns (6 + (k : Int)).toNat % E50 = tkN ns k := rfl
  have hE : (E50 : Int) = 100000000000000000000000000000000000000000000000000 := rfl
  rw [hap, hb]
  generalize tkN ns k = t at *
  generalize cv ns (6 + (k : Int)).toNat = x6 at *
  generalize cv ns (10 + (k : Int)).toNat = x10 at *
  generalize gs.getD k 0 = g at *
  have m1 : MulOk t g := mulOk (j := 170) (k := 10) tB (by unfold Bd; omega)
  have m2 : MulOk t 1 := mulOk (j := 170) (k := 10) tB (by unfold Bd; decide)
  have m3 : MulOk t 0 := mulOk (j := 170) (k := 10) tB (by unfold Bd; decide)
  have tne : t ≠ 0 := by omega
  have tl : t.natAbs.log2 < 9000 := Nat.lt_trans (tB.log (by decide)) (by decide)
  have hml : ((ms.map D.str).length : Int) = (ms.length : Nat) := by rw [List.length_map]
  have hLl : (L.map dPl).length < 16777216 := by rw [List.length_map]; omega
  have hc1 := lcG_map (bd := bName 8) (cl := [8]) (elt := (eP (hOp [.pur (hVar 5), .pur (hOp [.pur (hOp [.pur (hVar 8), .pur (hVar 4)] gEq)] gInt)] gMul))) (e0 := [some (.brw, .scr ns), some (.brw, .tupF true (ms.map .str)), some (.brw, .lst (gs.map .int)), some (.own, .lst (L.map dPl)), some (.own, .int (k : Int)), some (.own, .int t), none, none, none]) (g := fun j : Nat => D.int (t * (if j = k then 1 else 0))) (φ := fun j : Nat => D.int (j : Int)) (List.range ms.length) fun j hj => by
    by_cases e : j = k
    · subst e
      simp [m2]
    · have e2 : ¬ (j : Int) = (k : Int) := by omega
      simp [m3, e, e2]
  have hc2 := lcG_map (bd := bName 8) (cl := [8]) (elt := (eP (hC (.int 0)))) (e0 := [some (.brw, .scr ns), some (.brw, .tupF true (ms.map .str)), some (.brw, .lst (gs.map .int)), none, some (.own, .int (k : Int)), some (.own, .int t), some (.own, .tup ((List.range ms.length).map fun j => D.int (t * (if j = k then 1 else 0)))), some (.own, .int (t * g + x10 % t)), none]) (g := fun j : Nat => D.int 0) (φ := fun j : Nat => D.int (j : Int)) (List.range ms.length) fun j hj => by
    simp
  have hq1 : D.pureL ((List.range ms.length).map fun j => D.int (t * (if j = k then 1 else 0))) = true := pureL_map (fun _ => rfl) _
  have hq2 : D.pureL ((List.range ms.length).map fun j => D.int 0) = true := pureL_map (fun _ => rfl) _
  have e1 : (L ++ [(t * g + x10 % t, (List.range ms.length).map fun j => t * (if j = k then 1 else 0), (List.range ms.length).map fun _ => 0)]).map dPl = L.map dPl ++ [.tup [.int (t * g + x10 % t), .tup ((List.range ms.length).map fun j => D.int (t * (if j = k then 1 else 0))), .tup ((List.range ms.length).map fun _ => D.int 0)]] := by
    rw [List.map_append]
    congr 1
    show [dPl _] = _
    unfold dPl
    simp only [List.map_map]
    rfl
  have hr : ms.length < 16777216 := by omega
  have hMp := pureL_strs ms
  have rO : rngD 0 ms.length = (List.range ms.length).map fun j : Nat => D.int (j : Int) := rng_map _
  have iO : inRng (ms.length : Int) = true := inRng_of (by omega)
  dsimp only [lnE]
  rw [e1]
  clear e1 hb hap
  generalize ((List.range ms.length).map fun j => D.int (t * (if j = k then 1 else 0))) = R1 at *
  generalize ((List.range ms.length).map fun j => D.int 0) = R2 at *
  generalize L.map dPl = LD at *
  generalize hmd : ms.map D.str = MD at *
  generalize hgd : gs.map D.int = GD at *
  unfold Turn1 lnB
  simp [c6, c10, p10_50, ht, hat, m1, tne, tl, hc1, hc2, hq1, hq2, hml, hLl, hr, hMp, rO, iO, t0]
end DL
namespace DL
open PySem PySem.Spec PyProof.Rows L2
theorem foldl_snoc {α β : Type} (f : α → β) : ∀ (xs : List α) (L : List β), xs.foldl (fun L k => L ++ [f k]) L = L ++ xs.map f
  | [], L => by simp
  | x :: xs, L => by rw [List.foldl_cons, foldl_snoc f xs]; simp
theorem lnet_ok {ns : List Int} {ms : List Str} {gs : List Int} (h5 : ms.length ≤ 5) (hg : gs.length = ms.length) (hgs : ∀ g ∈ gs, 0 ≤ g ∧ g ≤ 4) : fn_law_net [.scr ns, .tupF true (ms.map .str), .lst (gs.map .int)] = .ok (dNet ms (apPs ms.length (tkN ns) (bdN ns gs)), []) := by
  obtain ⟨h1, _⟩ := forD_foldI (bd := bName 4) (cl := [4, 5, 6, 7]) (body := lnB) (st := lnE ns ms gs) (f := fun (L : List Plc) (k : Nat) => L ++ [apPl ms.length (tkN ns) (bdN ns gs) k]) (φ := fun k : Nat => D.int (k : Int)) (I := fun i L => L.length = i) (List.range ms.length) 0 [] rfl fun j L x hx hI => by
    have hx' := (List.getElem?_eq_some_iff.mp hx).1
    rw [List.length_range] at hx'
    rw [List.getElem?_range hx'] at hx
    cases hx
    exact ⟨by rw [List.length_append]; show L.length + 1 = _; omega, ln_turn hx' h5 hg hgs (by omega)⟩
  rw [foldl_snoc, List.nil_append] at h1
  have rO : rngD 0 ms.length = (List.range ms.length).map fun j : Nat => D.int (j : Int) := rng_map _
  have iO : inRng (ms.length : Int) = true := inRng_of (by omega)
  have hMp := pureL_strs ms
  have hml : ((ms.map D.str).length : Int) = (ms.length : Nat) := by rw [List.length_map]
  have e : (List.range ms.length).map (apPl ms.length (tkN ns) (bdN ns gs)) = apPs ms.length (tkN ns) (bdN ns gs) := rfl
  rw [e] at h1
  dsimp only [lnE, dNet] at h1 ⊢
  generalize (apPs ms.length (tkN ns) (bdN ns gs)).map dPl = PD at *
  generalize ms.map D.str = MD at *
  generalize gs.map D.int = GD at *
  simp at h1
  simp [fn_law_net, ln_eq, h1, rO, iO, hMp, hml]
theorem lref_ok {net : D} (h : fn_run_of [net] = .exc "TooGreat") (hn : net.noE = true) : fn_law_refused [net] = .ok (.bl true, []) := by
  have hh : hold [0, 1] [some (.brw, net), some (.own, .bl false)] = [some (.lck, net), some (.lck, .bl false)] := by
    simp [hold, hold1, List.mapIdx_cons]
  have ho : onlyK [0, 1] [some (.brw, net), some (.own, .bl false)] = [some (.brw, net), some (.own, .bl false)] := by
    simp [onlyK, kpB, List.mapIdx_cons]
  have h0 : noIoS [some (.brw, net), some (.own, .bl false)] = true := rfl
  have hne : ∀ (b : Bool), noEs [some (.brw, net), some (.own, .bl b)] = true := fun b => by
    simp [noEs, hn, D.noE]
  have hb : Pm.b.own = false := rfl
  simp [fn_law_refused, b_law_refused, sTryO, noXs, hh, ho, h0, h, hTab, endE, hne, hb]
end DL
namespace DL
open PySem PySem.Spec PyProof.Rows L2
theorem ty_tt : tyLe "tuple" "tuple" = true := by decide +kernel
theorem ty_ii : tyLe "int" "int" = true := by decide +kernel
theorem ty_ib : tyLe "int" "bool" = false := by decide +kernel
theorem whole_ok (n : Int) : fn_law_whole [.int n] = .ok (.bl true, []) := by
  simp [fn_law_whole, b_law_whole, ty_ii, ty_ib]
section
variable {bd : D → DEnv → Option DEnv} {cl : List Nat} {body : Stm} {β : Type}
theorem forD_id {env : DEnv} {φ : β → D} : ∀ (xs : List β), (∀ x ∈ xs, Turn1 bd cl body (φ x) env env) → forD bd cl body (xs.map φ) env = .ok (.nx env)
  | [], _ => rfl
  | x :: xs, h => by
    rw [List.map_cons, forD_cons (h x List.mem_cons_self), forD_id xs fun y hy => h y (List.mem_cons_of_mem _ hy)]
end
section
variable {n : Nat} {T B : Nat → Int} {G : Nat → Nat}
theorem ap_arc (h : Ap n T B G) {M M' : List Int} {k : Nat} (hk : k < n) (hM : M ∈ apMs n T B G) (hs : stepF k (apPs n T B) M = some M') : M.length = n ∧ M'.length = n ∧ ∀ j, j < n → (if j = k then T j else 0) ≤ M.getD j 0 ∧ M'.getD j 0 = M.getD j 0 - (if j = k then T j else 0) := by
  obtain ⟨l, hl, rfl⟩ := List.mem_map.mp hM
  have hp := (apG_mem.mp hl).2
  have hll := (apG_mem.mp hl).1
  rw [ap_step h hl hk] at hs
  split at hs
  · rename_i hg
    cases hs
    refine ⟨apM_len, apM_len, fun j hj => ?_⟩
    have e1 : (apM n T B l).getD j 0 = B j - T j * (l.getD j 0 : Nat) := by rw [List.getD_eq_getElem?_getD, apM_at hj]; rfl
    have e2 : (apM n T B (l.set k (l.getD k 0 + 1))).getD j 0 = B j - T j * ((l.set k (l.getD k 0 + 1)).getD j 0 : Nat) := by rw [List.getD_eq_getElem?_getD, apM_at hj]; rfl
    rw [e1, e2]
    by_cases e : j = k
    · subst e
      rw [if_pos rfl]
      refine ⟨(ap_more h hj (hp j hj)).mpr hg, ?_⟩
      have : (l.set j (l.getD j 0 + 1)).getD j 0 = l.getD j 0 + 1 := by
        rw [List.getD_eq_getElem?_getD, List.getElem?_set_self (by omega)]; rfl
      rw [this]
      have : ((l.getD j 0 + 1 : Nat) : Int) = (l.getD j 0 : Nat) + 1 := by omega
      rw [this, Int.mul_add, Int.mul_one]
      omega
    · rw [if_neg e]
      have : (l.set k (l.getD k 0 + 1)).getD j 0 = l.getD j 0 := by
        rw [List.getD_eq_getElem?_getD, List.getElem?_set_ne (fun q => e q.symm), ← List.getD_eq_getElem?_getD]
      rw [this]
      exact ⟨ap_pos h hj (hp j hj), by omega⟩
  · cases hs
end
theorem fvs_strs : ∀ l : List Str, D.fvs (l.map D.str) = some (l.map V.str)
  | [] => rfl
  | s :: l => by
    rw [List.map_cons, D.fvs, fvs_strs l]
    rfl
theorem in_tstr {fl : Bool} (l : List Str) (s : Str) : inB (.str s) (.tupF fl (l.map .str)) = some (decide (s ∈ l)) := by
  unfold inB
  simp only [D.fv, fvs_strs]
  congr 1
  unfold inV
  rw [List.any_map]
  induction l with
  | nil => simp
  | cons x l ih =>
    rw [List.any_cons, ih]
    show ((x == s) || decide (s ∈ l)) = _
    by_cases h : x = s
    · subst h; simp
    · have h2 : ¬ s = x := fun e => h e.symm
      simp [h, h2]
def arB : Stm := (sSeq (sSet 5 (eP (hOp [.pur (hRd (pIx (pIx (pIx (pIx (pVar 0) (hC (.int 1))) (hVar 4)) (hC (.int 1))) (hVar 4))), .pur (hOp [.pur (hOp [.pur (hVar 4), .pur (hVar 3)] gEq)] gInt)] gMul)))
  (sSeq (sIf (hOr (hB (hOp [.pur (hRd (pIx (pIx (pVar 1) (hRd (pIx (pVar 2) (hC (.int 0))))) (hVar 4))), .pur (hVar 5)] gLt)) (hB (hOp [.pur (hRd (pIx (pIx (pVar 1) (hRd (pIx (pVar 2) (hC (.int 2))))) (hVar 4))), .pur (hOp [.pur (hRd (pIx (pIx (pVar 1) (hRd (pIx (pVar 2) (hC (.int 0))))) (hVar 4))), .pur (hVar 5)] gSub)] gNe))) (sSeq (sRet (eP (hC (.bl false))))
  sNop) sNop)
  sNop))
theorem ar_eq : b_law_arc_right = (sSeq (sIf (hOr (hNot (hB (hOp [.pur (hVar 2)] (gIsi "tuple")))) (hOr (hB (hOp [.pur (hOp [.pur (hVar 2)] gLen), .pur (hC (.int 3))] gNe)) (hB (hOp [.pur (hRd (pIx (pVar 2) (hC (.int 1)))), .pur (hRd (pIx (pVar 0) (hC (.int 0))))] gNotIn)))) (sSeq (sRet (eP (hC (.bl false))))
  sNop) sNop)
  (sSeq (sSet 3 (eP (hOp [.put (hRd (pIx (pVar 0) (hC (.int 0)))) (tyD "tuple"), .pur (hRd (pIx (pVar 2) (hC (.int 1))))] gTIx)))
  (sSeq (sFor [.pur (hOp [.plc 0 (pIx (pVar 0) (hC (.int 1)))] gLen)] mkRange1 (bName 4) [4, 5] arB)
  (sSeq (sRet (eP (hC (.bl true))))
  sNop)))) := rfl
theorem aright_ok {ms : List Str} {ns gs : List Int} {G : Nat → Nat} {P : List (List Int)} {x : Arc} (hms : ∀ s ∈ ms, PyData.strOk s = true) (h5 : ms.length ≤ 5) (h : Ap ms.length (tkN ns) (bdN ns gs) G) (hP : ∀ M ∈ P, M ∈ apMs ms.length (tkN ns) (bdN ns gs) G) (hx : x.2.1 ∈ ms ∧ ∃ M M', P[x.1]? = some M ∧ stepF (ixOf ms x.2.1) (apPs ms.length (tkN ns) (bdN ns gs)) M = some M' ∧ P[x.2.2]? = some M') :
    fn_law_arc_right [dNet ms (apPs ms.length (tkN ns) (bdN ns gs)), .lst (P.map dMk), arcD x] = .ok (.bl true, []) := by
  obtain ⟨i, mv, j⟩ := x
  obtain ⟨hm, M, M', a1, a2, a3⟩ := hx
  have hm : mv ∈ ms := hm
  have a1 : P[i]? = some M := a1
  have a2 : stepF (ixOf ms mv) (apPs ms.length (tkN ns) (bdN ns gs)) M = some M' := a2
  have a3 : P[j]? = some M' := a3
  obtain ⟨h1, h2⟩ := ixOf_some hm
  obtain ⟨l1, l2, hat⟩ := ap_arc h h2 (hP M (List.mem_of_getElem? a1)) a2
  generalize ixOf ms mv = k at *
  have b1 : atI (P.map dMk) (i : Int) = some (dMk M) := atI_nat (by rw [List.getElem?_map, a1]; rfl)
  have b3 : atI (P.map dMk) (j : Int) = some (dMk M') := atI_nat (by rw [List.getElem?_map, a3]; rfl)
  have hin : inB (.str mv) (.tupF true (ms.map .str)) = some true := (in_tstr ms mv).trans (by simp [hm])
  have hloop := forD_id (bd := bName 4) (cl := [4, 5]) (body := arB) (env := [some (.brw, dNet ms (apPs ms.length (tkN ns) (bdN ns gs))), some (.brw, .lst (P.map dMk)), some (.brw, arcD (i, mv, j)), some (.own, .int (k : Int)), none, none]) (φ := fun k : Nat => D.int (k : Int)) (List.range ms.length) fun q hq => by
    have hq := List.mem_range.mp hq
    obtain ⟨r1, r2⟩ := hat q hq
    have c1 : atI ((apPs ms.length (tkN ns) (bdN ns gs)).map dPl) (q : Int) = some (dPl (apPl ms.length (tkN ns) (bdN ns gs) q)) := atI_nat (by
      unfold apPs
      rw [List.map_map, List.getElem?_map, List.getElem?_range hq]; rfl)
    have c2 : atI ((apPl ms.length (tkN ns) (bdN ns gs) q).2.1.map D.int) (q : Int) = some (.int (tkN ns q)) := atI_nat (by
      unfold apPl
      rw [List.map_map, List.getElem?_map, List.getElem?_range hq]
      simp)
    have c3 : atI (M.map D.int) (q : Int) = some (.int (M.getD q 0)) := at_getD (by omega)
    have c4 : atI (M'.map D.int) (q : Int) = some (.int (M'.getD q 0)) := at_getD (by omega)
    have pm := pureL_ints M
    have pm' := pureL_ints M'
    obtain ⟨t0, tB⟩ := tkN_pos ns q
    have m2 : MulOk (tkN ns q) 1 := mulOk (j := 170) (k := 10) tB (by unfold Bd; decide)
    have m3 : MulOk (tkN ns q) 0 := mulOk (j := 170) (k := 10) tB (by unfold Bd; decide)
    rw [r2] at c4
    dsimp only [dNet, dMk] at *
    generalize M.getD q 0 = z at *
    generalize (apPs ms.length (tkN ns) (bdN ns gs)).map dPl = PSD at *
    generalize P.map dMk = PD at *
    generalize apPl ms.length (tkN ns) (bdN ns gs) q = pl at *
    generalize tkN ns q = t at *
    by_cases e : q = k
    · subst e
      rw [if_pos rfl] at r1 c4
      have r3 : ¬ z < t := by omega
      unfold Turn1 arB
      simp [b1, b3, c1, c2, c3, c4, m2, r3, dPl]
    · rw [if_neg e] at r1 c4
      have r3 : ¬ z < 0 := by omega
      have e2 : ¬ (q : Int) = (k : Int) := by omega
      unfold Turn1 arB
      simp [b1, b3, c1, c2, c3, c4, m3, r3, e2, dPl]
  have rO : rngD 0 ms.length = (List.range ms.length).map fun j : Nat => D.int (j : Int) := rng_map _
  have iO : inRng (ms.length : Int) = true := inRng_of (by omega)
  have lP : (((apPs ms.length (tkN ns) (bdN ns gs)).map dPl).length : Int) = (ms.length : Nat) := by rw [List.length_map, apPs_len]
  have pS := pureL_strs ms
  dsimp only [dNet] at *
  generalize (apPs ms.length (tkN ns) (bdN ns gs)).map dPl = PSD at *
  generalize P.map dMk = PD at *
  simp [fn_law_arc_right, ar_eq, ty_tt, hin, h1, hloop, rO, iO, lP, pS]
end DL
namespace DL
open PySem PySem.Spec PyProof.Rows L2
theorem noEL_mapG {α : Type} {φ : α → D} (h : ∀ x, (φ x).noE = true) : ∀ l : List α, D.noEL (l.map φ) = true
  | [] => rfl
  | a :: l => by
    rw [List.map_cons]
    show ((φ a).noE && D.noEL (l.map φ)) = true
    rw [h a, noEL_mapG h l]; rfl
theorem noE_pl (p : Plc) : (dPl p).noE = true := by
  have h1 : D.noEL (p.2.1.map D.int) = true := noEL_mapG (φ := D.int) (fun _ => rfl) _
  have h2 : D.noEL (p.2.2.map D.int) = true := noEL_mapG (φ := D.int) (fun _ => rfl) _
  unfold dPl
  show (true && (D.noEL (p.2.1.map D.int) && (D.noEL (p.2.2.map D.int) && true))) = true
  rw [h1, h2]; rfl
theorem noE_net (ms : List Str) (ps : List Plc) : (dNet ms ps).noE = true := by
  have h1 : D.noEL (ms.map D.str) = true := noEL_mapG (φ := D.str) (fun _ => rfl) _
  have h2 : D.noEL (ps.map dPl) = true := noEL_mapG (φ := dPl) noE_pl _
  show (D.noEL (ms.map D.str) && (D.noEL (ps.map dPl) && true)) = true
  rw [h1, h2]; rfl
theorem eq_bey : gEqB (.tup [.str "beyond"]) (.tup [.str "beyond"]) = some true := 
  Lay.same (n := 2) (Lay.tup fun d hd => by rw [List.mem_singleton.mp hd]; exact Lay.str (by decide +kernel)) (by decide)
theorem eq_ends (i : Int) : gEqB (.tup [.str "ends", .int i]) (.tup [.str "ends", .int i]) = some true :=
  Lay.same (n := 2) (Lay.tup fun d hd => by
    rcases List.mem_cons.mp hd with h | h
    · rw [h]; exact Lay.str (by decide +kernel)
    · rw [List.mem_singleton.mp h]; exact Lay.int) (by decide)
theorem eq_names {ms : List Str} (h : ∀ s ∈ ms, PyData.strOk s = true) : gEqB (.tupF true (ms.map .str)) (.tupF true (ms.map .str)) = some true :=
  Lay.same (n := 2) (Lay.tup fun d hd => by
    obtain ⟨s, hs, rfl⟩ := List.mem_map.mp hd
    exact Lay.str (h s hs)) (by decide)
theorem eq_arcs {B : List Arc} (h : ∀ x ∈ B, PyData.strOk x.2.1 = true) : gEqB (.lst (B.map arcD)) (.lst (B.map arcD)) = some true :=
  Lay.same (n := 3) (Lay.lst fun d hd => by
    obtain ⟨x, hx, rfl⟩ := List.mem_map.mp hd
    refine Lay.tup fun e he => ?_
    rcases List.mem_cons.mp he with h1 | h1
    · rw [h1]; exact Lay.int
    · rcases List.mem_cons.mp h1 with h1 | h1
      · rw [h1]; exact Lay.str (h x hx)
      · rw [List.mem_singleton.mp h1]; exact Lay.int) (by decide)
theorem sort_twice {A B : List Arc} (h : fSorted (.lst (A.map arcD)) = some (.lst (B.map arcD))) : fSorted (.lst (B.map arcD)) = some (.lst (B.map arcD)) := by
  rw [z_sorted] at h
  obtain ⟨_, e⟩ := iff?_some h
  have e : sortL (A.map arcD) = B.map arcD := D.lst.inj e
  have hpw := sortLe_pw encD (A.map arcD)
  have hpw2 : (B.map arcD).Pairwise fun a b => PySem.W.dataLe false encD a b = true := by rw [← e]; exact hpw
  have e2 : sortL (B.map arcD) = B.map arcD := List.mergeSort_of_pairwise hpw2
  rw [z_sorted, e2, iff?_pos]
  refine ⟨pureL_map (φ := fun x : Arc => arcD x) (fun _ => rfl) B, ?_, ?_⟩
  · simp [D.py, D.pyL]
  · unfold sortB
    simp only [List.map_map, List.all_map, Bool.and_eq_true, Bool.or_eq_true, List.all_eq_true, Function.comp]
    exact ⟨⟨fun a _ b _ => rfl, .inl fun a _ => rfl⟩, fun a _ => rfl⟩
def arcI (x : Arc) : Int × Str × Int := (x.1, x.2.1, x.2.2)
theorem dist_arcs {B : List Arc} (h : B.Nodup) (hl : B.length < 63) : fDistM (.lst (B.map arcD)) = some (.int B.length) := by
  have e : B.map arcD = (B.map arcI).map fun a => .tup [.int a.1, .str a.2.1, .int a.2.2] := by
    rw [List.map_map]; rfl
  rw [e, distM_nodup, List.length_map]
  · rw [List.nodup_iff_pairwise_ne, List.pairwise_map]
    refine (List.nodup_iff_pairwise_ne.mp h).imp fun {a b} hab e => hab ?_
    obtain ⟨a1, a2, a3⟩ := a
    obtain ⟨b1, b2, b3⟩ := b
    unfold arcI at e
    simp only [Prod.mk.injEq] at e ⊢
    exact ⟨by omega, e.2.1, by omega⟩
  · rw [List.length_map]; exact hl
theorem dist_mks {P : List (List Int)} (h : P.Nodup) (hl : P.length < 64) : fDist (.lst (P.map dMk)) = some (.int P.length) := by
  have := dist_tups hl
  rw [dist_nodup h] at this
  exact this
theorem apT_le {G : Nat → Nat} (h : ∀ k, G k ≤ 4) : ∀ n, 1 ≤ apT G n ∧ apT G n ≤ 5 ^ n
  | 0 => ⟨Nat.le_refl _, Nat.le_refl _⟩
  | n + 1 => by
    obtain ⟨h1, h2⟩ := apT_le h n
    have := h n
    show 1 ≤ apT G n * (G n + 1) ∧ apT G n * (G n + 1) ≤ 5 ^ (n + 1)
    refine ⟨Nat.mul_pos h1 (by omega), ?_⟩
    rw [Nat.pow_succ]
    exact Nat.mul_le_mul h2 (by omega)
end DL
namespace DL
open PySem PySem.Spec PyProof.Rows L2
theorem seq_nxG {f g : Stm} {env e : DEnv} (h : f env = .ok (.nx e)) : sSeq f g env = g e := by
  rw [z_seq, h]; rfl
theorem seq_rtG {f g : Stm} {env e : DEnv} {d : D} (h : f env = .ok (.rt d e)) : sSeq f g env = .ok (.rt d e) := by
  rw [z_seq, h]; rfl
noncomputable def w1 : Stm := (sSet 1 (eOp (.pur (hC (.int 1)) (.own (eOp (.own (eK (.fin [.plc 0 (pVar 0), .pur (hC (.int 1))]) (callK [.b, .b] fn_law_cell_at)) (.fin [.pur (hC (.int 4))])) gMod) (.fin []))) gAdd))
noncomputable def w2 : Stm := (sSet 2 (eOp (.own (eOp (.own (eK (.own (eK (.fin [.plc 0 (pVar 0), .pur (hC (.int 0))]) (callK [.b, .b] fn_law_cell_at)) (.fin [])) (callK [.b] fn_law_names)) (.fin [.int (hVar 1)])) (slH fSlL)) (.fin [])) gTupX))
noncomputable def w3 : Stm := (sSet 3 (lcE [.pur (hVar 1)] mkRange1 (bName 13) eYes (eOp (.own (eK (.fin [.plc 0 (pVar 0), .pur (hOp [.pur (hC (.int 2)), .pur (hVar 13)] gAdd)]) (callK [.b, .b] fn_law_cell_at)) (.fin [.pur (hC (.int 5))])) gMod) [13]))
noncomputable def w4 : Stm := (sSet 4 (eK (.fin [.plc 0 (pVar 0), .pur (hVar 2), .plc 3 (pVar 3)]) (callK [.b, .b, .b] fn_law_net)))
noncomputable def w5 : Stm := (sSet 5 (eP (hC (.int 1))))
noncomputable def w6B : Stm := (sSeq (sSet 5 (eP (hOp [.pur (hVar 5), .pur (hOp [.pur (hVar 6), .pur (hC (.int 1))] gAdd)] gMul)))
  sNop)
noncomputable def w6 : Stm := (sFor [.plc 3 (pVar 3)] mkSeq (bName 6) [6] w6B)
noncomputable def w7 : Stm := (sIf (hB (hOp [.pur (hVar 5), .pur (hC (.int 12))] gGt)) (sSeq (sRet (eAndV (eK (.fin [.plc 4 (pVar 4)]) (callK [.b] fn_law_refused)) (eOp (.own (eK (.fin [.plc 4 (pVar 4)]) (callK [.b] fn_growth_of)) (.fin [.pur (hOp [.pur (hC (.str "beyond"))] fTup)])) gEq)))
  sNop) sNop)
noncomputable def w8 : Stm := (sUnp [7, 8] (eK (.fin [.plc 4 (pVar 4)]) (callK [.b] fn_run_of)))
noncomputable def w9 : Stm := (sIfE (eOr (eB (eOp (.own (eK (.fin [.plc 4 (pVar 4)]) (callK [.b] fn_growth_of)) (.fin [.pur (hOp [.pur (hC (.str "ends")), .pur (hVar 5)] fTup)])) gNe)) (eOr (eBp (hB (hOp [.pur (hOp [.plc 8 (pVar 8)] gLen), .pur (hVar 5)] gNe))) (eB (eOp (.own (eOp (.fin [.plc 8 (pVar 8)]) gDist) (.fin [.pur (hVar 5)])) gNe)))) (sSeq (sRet (eP (hC (.bl false))))
  sNop) sNop)
noncomputable def w10 : Stm := (sIfE (eOr (eBp (hB (hOp [.pur (hRd (pIx (pVar 7) (hC (.int 0)))), .pur (hVar 2)] gNe))) (eOr (eB (eOp (.plc 7 (pIx (pVar 7) (hC (.int 1))) (.own (eOp (.fin [.plc 7 (pIx (pVar 7) (hC (.int 1)))]) gSorted) (.fin []))) gNe)) (eB (eOp (.own (eOp (.fin [.plc 7 (pIx (pVar 7) (hC (.int 1)))]) gDistM) (.fin [.pur (hOp [.plc 7 (pIx (pVar 7) (hC (.int 1)))] gLen)])) gNe)))) (sSeq (sRet (eP (hC (.bl false))))
  sNop) sNop)
noncomputable def w11C : Stm := (sSeq (sIfE (eNot (eB (eK (.fin [.pur (hVar 10)]) (callK [.b] fn_law_whole)))) (sSeq (sRet (eP (hC (.bl false))))
  sNop) sNop)
  sNop)
noncomputable def w11B : Stm := (sSeq (sFor [.pur (hVar 9)] mkSeq (bName 10) [10] w11C)
  sNop)
noncomputable def w11 : Stm := (sFor [.plc 8 (pVar 8)] mkSeq (bName 9) [9, 10] w11B)
noncomputable def w12B : Stm := (sSeq (sIfE (eOr (eNot (eB (eK (.fin [.pur (hRd (pIx (pVar 11) (hC (.int 0))))]) (callK [.b] fn_law_whole)))) (eOr (eBp (hNot (hB (hChI leI ltI (hC (.int 0)) (hRd (pIx (pVar 11) (hC (.int 0)))) (hVar 5))))) (eBp (hNot (hB (hChI leI ltI (hC (.int 0)) (hRd (pIx (pVar 11) (hC (.int 2)))) (hVar 5))))))) (sSeq (sRet (eP (hC (.bl false))))
  sNop) sNop)
  (sSeq (sIfE (eNot (eB (eK (.fin [.plc 4 (pVar 4), .plc 8 (pVar 8), .pur (hVar 11)]) (callK [.b, .b, .b] fn_law_arc_right)))) (sSeq (sRet (eP (hC (.bl false))))
  sNop) sNop)
  sNop))
noncomputable def w12 : Stm := (sFor [.plc 7 (pIx (pVar 7) (hC (.int 1)))] mkSeq (bName 11) [11] w12B)
noncomputable def w13 : Stm := (sSet 12 (eP (hC (.int 0))))
noncomputable def w14B : Stm := (sSeq (sSet 12 (eOp (.pur (hVar 12) (.own (eOp (.own (lcE [.pur (hVar 1)] mkRange1 (bName 13) (eBp (hB (hOp [.pur (hRd (pIx (pVar 9) (hVar 13))), .pur (hRd (pIx (pIx (pIx (pIx (pVar 4) (hC (.int 1))) (hVar 13)) (hC (.int 1))) (hVar 13)))] gGe))) (eP (hVar 13)) [13]) (.fin [])) gLen) (.fin []))) gAdd))
  sNop)
noncomputable def w14 : Stm := (sFor [.plc 8 (pVar 8)] mkSeq (bName 9) [9] w14B)
noncomputable def w15 : Stm := (sRet (eAndV (eP (hOp [.pur (hVar 12), .pur (hOp [.plc 7 (pIx (pVar 7) (hC (.int 1)))] gLen)] gEq)) (eOp (.pur (hRd (pIx (pVar 8) (hC (.int 0)))) (.own (eOp (.own (lcE [.plc 4 (pIx (pVar 4) (hC (.int 1)))] mkSeq (bTup (bCons (bName 10) (bCons (bName 14) (bCons (bName 15) bNil)))) eYes (eP (hVar 10)) [10, 14, 15]) (.fin [])) gTupOf) (.fin []))) gEq)))
theorem law_eq : b_law = sSeq w1 (sSeq w2 (sSeq w3 (sSeq w4 (sSeq w5 (sSeq w6 (sSeq w7 (sSeq w8 (sSeq w9 (sSeq w10 (sSeq w11 (sSeq w12 (sSeq w13 (sSeq w14 (sSeq w15 sNop)))))))))))))) := rfl
abbrev oS (d : D) : Slot := some (.own, d)
abbrev kS (d : D) : Slot := some (.lck, d)
abbrev lE (ns : List Int) (s1 s2 s3 s4 s5 s7 s8 s12 : Slot) : DEnv := [some (.brw, .scr ns), s1, s2, s3, s4, s5, none, s7, s8, none, none, none, s12, none, none, none]
section
variable {env : DEnv}
@[simp] theorem z_chI {p q : Int → Int → Bool} {a b c : DEnv → Option D} : hChI p q a b c env = match a env, b env, c env with
  | some (.int i), some (.int j), some (.int k) => some (.bl (p i j && q j k))
  | _, _, _ => none := rfl
end
theorem w6_ok {ns : List Int} {n : Nat} {G : Nat → Nat} {d2 d4 : D} (hG : ∀ k, G k ≤ 4) (h5 : n ≤ 5) : w6 (lE ns (oS (.int n)) (oS d2) (oS (.lst ((List.range n).map fun k => D.int (G k)))) (oS d4) (oS (.int 1)) none none none) = .ok (.nx (lE ns (oS (.int n)) (oS d2) (oS (.lst ((List.range n).map fun k => D.int (G k)))) (oS d4) (oS (.int (apT G n))) none none none)) := by
  obtain ⟨h1, h2⟩ := forD_foldI (bd := bName 6) (cl := [6]) (body := w6B) (st := fun t : Nat => lE ns (oS (.int n)) (oS d2) (kS (.lst ((List.range n).map fun k => D.int (G k)))) (oS d4) (oS (.int t)) none none none) (f := fun t k => t * (G k + 1)) (φ := fun k : Nat => D.int (G k)) (I := fun i t => t = apT G i) (List.range n) 0 1 rfl fun j t x hx hI => by
    have hx' := (List.getElem?_eq_some_iff.mp hx).1
    rw [List.length_range] at hx'
    rw [List.getElem?_range hx'] at hx
    cases hx
    refine ⟨by rw [hI, Nat.zero_add]; rfl, ?_⟩
    have hle := (apT_le hG (0 + j)).2
    rw [← hI] at hle
    have h625 : 5 ^ (0 + j) ≤ 5 ^ 5 := Nat.pow_le_pow_right (by decide) (by omega)
    have hg := hG j
    have e : ((t * (G j + 1) : Nat) : Int) = (t : Int) * ((G j : Int) + 1) := by rw [Int.natCast_mul]; rfl
    have m : MulOk (t : Int) ((G j : Int) + 1) := mulOk (j := 20) (k := 10) (by unfold Bd; omega) (by unfold Bd; omega)
    rw [e]
    unfold Turn1 w6B
    simp [m]
  rw [Nat.zero_add, List.length_range] at h2
  have h2 : (List.range n).foldl (fun t k => t * (G k + 1)) 1 = apT G n := h2
  rw [h2] at h1
  unfold w6
  have i1 : ((1 : Nat) : Int) = 1 := rfl
  rw [i1] at h1
  dsimp only [lE, oS, kS] at h1 ⊢
  generalize (List.range n).map (fun k => D.int (G k)) = GD at *
  simp [h1]
section
variable {ns : List Int} {n tot : Nat} {d2 d3 : D}
theorem w11_ok {N CH : D} (P : List (List Int)) : w11 (lE ns (oS (.int n)) (oS d2) (oS d3) (oS N) (oS (.int tot)) (oS CH) (oS (.lst (P.map dMk))) none) = .ok (.nx (lE ns (oS (.int n)) (oS d2) (oS d3) (oS N) (oS (.int tot)) (oS CH) (oS (.lst (P.map dMk))) none)) := by
  have f := forD_id (bd := bName 9) (cl := [9, 10]) (body := w11B) (env := lE ns (oS (.int n)) (oS d2) (oS d3) (oS N) (oS (.int tot)) (oS CH) (kS (.lst (P.map dMk))) none) (φ := dMk) P fun M hM => by
    have hpM : D.pureL (M.map D.int) = true := pureL_ints M
    have f2 := forD_id (bd := bName 10) (cl := [10]) (body := w11C) (env := [some (.brw, .scr ns), oS (.int n), oS d2, oS d3, oS N, oS (.int tot), none, oS CH, kS (.lst (P.map dMk)), oS (dMk M), none, none, none, none, none, none]) (φ := D.int) M fun z hz => by
      have w := whole_ok z
      unfold Turn1 w11C
      simp [w]
    dsimp only [lE, oS, kS, dMk] at *
    generalize P.map (fun M => D.tup (M.map D.int)) = PD at *
    generalize M.map D.int = MD at *
    unfold Turn1 w11B
    simp [f2, hpM]
  dsimp only [lE, oS, kS] at f ⊢
  generalize P.map dMk = PD at *
  unfold w11
  simp [f]
theorem w12_ok {N MD : D} {P : List (List Int)} {B : List Arc} (hB : ∀ x ∈ B, x.1 < tot ∧ x.2.2 < tot ∧ fn_law_arc_right [N, .lst (P.map dMk), arcD x] = .ok (.bl true, [])) (h12 : tot ≤ 12) : w12 (lE ns (oS (.int n)) (oS d2) (oS d3) (oS N) (oS (.int tot)) (oS (.tup [MD, .lst (B.map arcD)])) (oS (.lst (P.map dMk))) none) = .ok (.nx (lE ns (oS (.int n)) (oS d2) (oS d3) (oS N) (oS (.int tot)) (oS (.tup [MD, .lst (B.map arcD)])) (oS (.lst (P.map dMk))) none)) := by
  have f := forD_id (bd := bName 11) (cl := [11]) (body := w12B) (env := lE ns (oS (.int n)) (oS d2) (oS d3) (oS N) (oS (.int tot)) (kS (.tup [MD, .lst (B.map arcD)])) (oS (.lst (P.map dMk))) none) (φ := fun x : Arc => arcD x) B fun x hx => by
    obtain ⟨a1, a2, a3⟩ := hB x hx
    have w1 := whole_ok x.1
    have b1 : (0 : Int) ≤ (x.1 : Int) ∧ (x.1 : Int) < (tot : Int) := by omega
    have b2 : (0 : Int) ≤ (x.2.2 : Int) ∧ (x.2.2 : Int) < (tot : Int) := by omega
    dsimp only [lE, oS, kS, arcD] at *
    generalize P.map dMk = PD at *
    generalize B.map (fun x : Arc => D.tup [.int x.1, .str x.2.1, .int x.2.2]) = BD at *
    unfold Turn1 w12B
    simp [w1, b1, b2, a1, a2, a3]
  dsimp only [lE, oS, kS] at f ⊢
  generalize P.map dMk = PD at *
  unfold w12
  simp [f]
theorem w14_ok {ms : List Str} {gs : List Int} {P : List (List Int)} {CH : D} (hn : n = ms.length) (h5 : n ≤ 5) (hP : ∀ M ∈ P, M.length = n) (h12 : P.length ≤ 12) : w14 (lE ns (oS (.int n)) (oS d2) (oS d3) (oS (dNet ms (apPs n (tkN ns) (bdN ns gs)))) (oS (.int tot)) (oS CH) (oS (.lst (P.map dMk))) (oS (.int 0))) = .ok (.nx (lE ns (oS (.int n)) (oS d2) (oS d3) (oS (dNet ms (apPs n (tkN ns) (bdN ns gs)))) (oS (.int tot)) (oS CH) (oS (.lst (P.map dMk))) (oS (.int ((P.map fun M => (apGo n (tkN ns) M).length).sum : Nat))))) := by
  obtain ⟨h1, h2⟩ := forD_foldI (bd := bName 9) (cl := [9]) (body := w14B) (st := fun t : Nat => lE ns (oS (.int n)) (oS d2) (oS d3) (oS (dNet ms (apPs n (tkN ns) (bdN ns gs)))) (oS (.int tot)) (oS CH) (kS (.lst (P.map dMk))) (oS (.int t))) (f := fun t M => t + (apGo n (tkN ns) M).length) (φ := dMk) (I := fun i t => True) P 0 0 trivial fun j t M hM hI => by
    refine ⟨trivial, ?_⟩
    have hMl := hP M (List.mem_of_getElem? hM)
    have hc : lcG (bName 13) (eBp (hB (hOp [.pur (hRd (pIx (pVar 9) (hVar 13))), .pur (hRd (pIx (pIx (pIx (pIx (pVar 4) (hC (.int 1))) (hVar 13)) (hC (.int 1))) (hVar 13)))] gGe))) (eP (hVar 13)) [13] ((List.range n).map fun j : Nat => D.int (j : Int)) [some (.brw, .scr ns), oS (.int n), oS d2, oS d3, oS (dNet ms (apPs n (tkN ns) (bdN ns gs))), oS (.int tot), none, oS CH, kS (.lst (P.map dMk)), oS (dMk M), none, none, oS (.int t), none, none, none] = .ok ((apGo n (tkN ns) M).map fun j : Nat => D.int (j : Int), [some (.brw, .scr ns), oS (.int n), oS d2, oS d3, oS (dNet ms (apPs n (tkN ns) (bdN ns gs))), oS (.int tot), none, oS CH, kS (.lst (P.map dMk)), oS (dMk M), none, none, oS (.int t), none, none, none]) := by
      refine lcG_filt (c := fun j : Nat => decide (tkN ns j ≤ M.getD j 0)) (g := fun j : Nat => D.int (j : Int)) (φ := fun j : Nat => D.int (j : Int)) (List.range n) fun q hq => ?_
      have hq := List.mem_range.mp hq
      have c1 : atI ((apPs n (tkN ns) (bdN ns gs)).map dPl) (q : Int) = some (dPl (apPl n (tkN ns) (bdN ns gs) q)) := atI_nat (by
        unfold apPs
        rw [List.map_map, List.getElem?_map, List.getElem?_range hq]; rfl)
      have c2 : atI ((apPl n (tkN ns) (bdN ns gs) q).2.1.map D.int) (q : Int) = some (.int (tkN ns q)) := atI_nat (by
        unfold apPl
        rw [List.map_map, List.getElem?_map, List.getElem?_range hq]
        simp)
      have c3 : atI (M.map D.int) (q : Int) = some (.int (M.getD q 0)) := at_getD (by omega)
      have pm := pureL_ints M
      dsimp only [dNet, dMk, oS, kS] at *
      generalize M.getD q 0 = z at *
      generalize (apPs n (tkN ns) (bdN ns gs)).map dPl = PSD at *
      generalize apPl n (tkN ns) (bdN ns gs) q = pl at *
      generalize tkN ns q = t at *
      clear hP h12 hMl hM
      generalize P.map (fun M => D.tup (M.map D.int)) = PD at *
      unfold TurnC
      by_cases e : t ≤ z
      · simp [c1, c2, c3, dPl, e, pm]
      · simp [c1, c2, c3, dPl, e, pm]
    have rO : rngD 0 n = (List.range n).map fun j : Nat => D.int (j : Int) := rng_map _
    have iO : inRng (n : Int) = true := inRng_of (by omega)
    have hn2 : n < 16777216 := by omega
    have e : ((t + (apGo n (tkN ns) M).length : Nat) : Int) = (t : Int) + ((apGo n (tkN ns) M).length : Nat) := Int.natCast_add _ _
    have hMp : (dMk M).pure = true := pureL_ints M
    have lg : ((apGo n (tkN ns) M).map fun j : Nat => D.int (j : Int)).length = (apGo n (tkN ns) M).length := List.length_map _
    rw [e]
    dsimp only [lE, oS, kS] at *
    generalize dMk M = md at *
    generalize (apGo n (tkN ns) M).map (fun j : Nat => D.int (j : Int)) = gd at *
    generalize dNet ms (apPs n (tkN ns) (bdN ns gs)) = nd at *
    generalize P.map dMk = PD at *
    unfold Turn1 w14B
    simp [hc, rO, iO, hn2, hMp, lg]
  have e : P.foldl (fun t M => t + (apGo n (tkN ns) M).length) 0 = (P.map fun M => (apGo n (tkN ns) M).length).sum := by
    rw [List.sum_eq_foldl, List.foldl_map]
  rw [e] at h1
  have i0 : ((0 : Nat) : Int) = 0 := rfl
  rw [i0] at h1
  dsimp only [lE, oS, kS] at h1 ⊢
  generalize dNet ms (apPs n (tkN ns) (bdN ns gs)) = nd at *
  generalize (P.map fun M => (apGo n (tkN ns) M).length).sum = tt at *
  generalize P.map dMk = PD at *
  unfold w14
  simp [h1]
end
end DL
namespace DL
open PySem PySem.Spec PyProof.Rows L2
def goN (ns : List Int) (k : Nat) : Nat := (cv ns (2 + (k : Int)).toNat % 5).toNat
theorem goN_le (ns : List Int) (k : Nat) : goN ns k ≤ 4 := by unfold goN; omega
theorem goN_i (ns : List Int) (k : Nat) : ((goN ns k : Nat) : Int) = cv ns (2 + (k : Int)).toNat % 5 := by
  unfold goN
  omega
theorem ap_law (ns : List Int) (n : Nat) : Ap n (tkN ns) (bdN ns ((List.range n).map fun k => (goN ns k : Int))) (goN ns) := by
  have e : ∀ k, k < n → bdN ns ((List.range n).map fun k => (goN ns k : Int)) k = tkN ns k * (goN ns k : Int) + cv ns (10 + (k : Int)).toNat % tkN ns k := fun k hk => by
    unfold bdN
    rw [List.getD_eq_getElem?_getD, List.getElem?_map, List.getElem?_range hk]; rfl
  refine ⟨fun k hk => (tkN_pos ns k).1, fun k hk => ?_, fun k hk => ?_⟩
  · rw [e k hk]
    have := Int.emod_nonneg (cv ns (10 + (k : Int)).toNat) (show tkN ns k ≠ 0 by have := (tkN_pos ns k).1; omega)
    omega
  · rw [e k hk, Int.mul_add, Int.mul_one]
    have := Int.emod_lt_of_pos (cv ns (10 + (k : Int)).toNat) (tkN_pos ns k).1
    omega
theorem w3_ok (ns : List Int) {n : Nat} (h5 : n ≤ 5) (d2 : D) : w3 (lE ns (oS (.int n)) (oS d2) none none none none none none) = .ok (.nx (lE ns (oS (.int n)) (oS d2) (oS (.lst ((List.range n).map fun k => D.int (goN ns k)))) none none none none none)) := by
  have hc := lcG_map (bd := bName 13) (cl := [13]) (elt := (eOp (.own (eK (.fin [.plc 0 (pVar 0), .pur (hOp [.pur (hC (.int 2)), .pur (hVar 13)] gAdd)]) (callK [.b, .b] fn_law_cell_at)) (.fin [.pur (hC (.int 5))])) gMod)) (e0 := lE ns (oS (.int n)) (oS d2) none none none none none none) (g := fun k : Nat => D.int (goN ns k)) (φ := fun j : Nat => D.int (j : Int)) (List.range n) fun k hk => by
    have c := cell_ok ns (2 + (k : Int)) (by omega)
    have e := goN_i ns k
    rw [e]
    generalize cv ns (2 + (k : Int)).toNat = x at *
    simp [c]
  have rO : rngD 0 n = (List.range n).map fun j : Nat => D.int (j : Int) := rng_map _
  have iO : inRng (n : Int) = true := inRng_of (by omega)
  have hn2 : n < 16777216 := by omega
  dsimp only [lE, oS] at *
  generalize (List.range n).map (fun k => D.int (goN ns k)) = GD at *
  unfold w3
  simp [hc, rO, iO, hn2]
/-- too many -/
theorem w7_great {ns : List Int} {n tot : Nat} {d2 d3 N : D} (h : 12 < tot) (h1 : fn_law_refused [N] = .ok (.bl true, [])) (h2 : fn_growth_of [N] = .ok (.tup [.str "beyond"], [])) : ∃ e, w7 (lE ns (oS (.int n)) (oS d2) (oS d3) (oS N) (oS (.int tot)) none none none) = .ok (.rt (.bl true) e) := by
  have hb : (12 : Int) < (tot : Int) := by omega
  have e := eq_bey
  unfold w7
  simp [hb, h1, h2, e]
theorem w7_not {ns : List Int} {n tot : Nat} {d2 d3 N : D} (h : tot ≤ 12) : w7 (lE ns (oS (.int n)) (oS d2) (oS d3) (oS N) (oS (.int tot)) none none none) = .ok (.nx (lE ns (oS (.int n)) (oS d2) (oS d3) (oS N) (oS (.int tot)) none none none)) := by
  have hb : ¬ (12 : Int) < (tot : Int) := by omega
  unfold w7
  simp [hb]
section
variable {ns : List Int} {n tot : Nat} {d2 d3 N : D}
theorem w8_ok {CH PD : D} (h : fn_run_of [N] = .ok (.tup [CH, PD], [])) : w8 (lE ns (oS (.int n)) (oS d2) (oS d3) (oS N) (oS (.int tot)) none none none) = .ok (.nx (lE ns (oS (.int n)) (oS d2) (oS d3) (oS N) (oS (.int tot)) (oS CH) (oS PD) none)) := by
  unfold w8
  simp [h]
theorem w9_ok {CH : D} {P : List (List Int)} (h : fn_growth_of [N] = .ok (.tup [.str "ends", .int tot], [])) (hl : P.length = tot) (hd : P.Nodup) (h12 : tot ≤ 12) : w9 (lE ns (oS (.int n)) (oS d2) (oS d3) (oS N) (oS (.int tot)) (oS CH) (oS (.lst (P.map dMk))) none) = .ok (.nx (lE ns (oS (.int n)) (oS d2) (oS d3) (oS N) (oS (.int tot)) (oS CH) (oS (.lst (P.map dMk))) none)) := by
  have e := eq_ends tot
  have hD := dist_mks hd (by omega)
  have lP : (P.map dMk).length = tot := by rw [List.length_map, hl]
  rw [hl] at hD
  generalize P.map dMk = PD at *
  unfold w9
  simp [h, e, hD, lP]
theorem w10_ok {ms : List Str} {B : List Arc} {PD : D} (hms : ∀ s ∈ ms, PyData.strOk s = true) (hB : ∀ x ∈ B, x.2.1 ∈ ms) (hs : fSorted (.lst (B.map arcD)) = some (.lst (B.map arcD))) (hd : B.Nodup) (hl : B.length < 63) : w10 (lE ns (oS (.int n)) (oS (.tupF true (ms.map .str))) (oS d3) (oS N) (oS (.int tot)) (oS (.tup [.tupF true (ms.map .str), .lst (B.map arcD)])) (oS PD) none) = .ok (.nx (lE ns (oS (.int n)) (oS (.tupF true (ms.map .str))) (oS d3) (oS N) (oS (.int tot)) (oS (.tup [.tupF true (ms.map .str), .lst (B.map arcD)])) (oS PD) none)) := by
  have e1 := eq_names hms
  have e2 := eq_arcs (B := B) fun x hx => hms _ (hB x hx)
  have hD := dist_arcs hd hl
  have lB : (B.map arcD).length = B.length := List.length_map _
  have pM := pureL_strs ms
  dsimp only [lE, oS] at *
  generalize B.map (fun x : Arc => arcD x) = BD at *
  generalize ms.map D.str = MD at *
  generalize B.length = lb at *
  have hs' : gSorted [D.lst BD] = some (.lst BD) := hs
  unfold w10
  simp [e1, e2, hD, lB, pM, hs']
end
end DL
namespace DL
open PySem PySem.Spec PyProof.Rows L2
theorem w15_ok {ns : List Int} {n tot : Nat} {d2 d3 : D} {ms : List Str} {ps : List Plc} {MD : D} {B : List Arc} {P : List (List Int)} (h0 : P[0]? = some (ps.map (·.1))) (hl : ps.length < 1000) : ∃ e, w15 (lE ns (oS (.int n)) (oS d2) (oS d3) (oS (dNet ms ps)) (oS (.int tot)) (oS (.tup [MD, .lst (B.map arcD)])) (oS (.lst (P.map dMk))) (oS (.int B.length))) = .ok (.rt (.bl true) e) := by
  have hat : atI (P.map dMk) 0 = some (dMk (ps.map (·.1))) := atI_nat (j := 0) (by rw [List.getElem?_map, h0]; rfl)
  have hc := lcG_map (bd := (bTup (bCons (bName 10) (bCons (bName 14) (bCons (bName 15) bNil))))) (cl := [10, 14, 15]) (elt := (eP (hVar 10))) (e0 := lE ns (oS (.int n)) (oS d2) (oS d3) (kS (dNet ms ps)) (oS (.int tot)) (oS (.tup [MD, .lst (B.map arcD)])) (oS (.lst (P.map dMk))) (oS (.int B.length))) (g := fun p : Plc => D.int p.1) (φ := dPl) ps fun p hp => by
    simp [dPl]
  have e0 : ps.map (fun p : Plc => D.int p.1) = (ps.map (·.1)).map D.int := by rw [List.map_map]; rfl
  rw [e0] at hc
  have hPL : (ps.map dPl).length < 16777216 := by rw [List.length_map]; omega
  have hM2 : D.pureL ((ps.map (·.1)).map D.int) = true := pureL_ints _
  have hE : gEqB (dMk (ps.map (·.1))) (dMk (ps.map (·.1))) = some true := (mkE.eq _ _).trans (by simp)
  have lB : (B.map arcD).length = B.length := List.length_map _
  have hmp : (dMk (ps.map (·.1))).pure = true := hM2
  dsimp only [lE, oS, kS, dNet, dMk] at *
  clear e0
  generalize (ps.map (·.1)).map D.int = M0 at *
  generalize ps.map dPl = PLD at *
  generalize P.map dMk = PD at *
  generalize B.map (fun x : Arc => arcD x) = BD at *
  generalize ms.map D.str = ND at *
  generalize B.length = lb at *
  unfold w15
  simp [hat, hc, hPL, hM2, hE, lB]
theorem law_true (ns : List Int) (hl : ns.length ≤ 63) (hb : ∀ z ∈ ns, Builtin.Int.intBits z ≤ 1048576) : fn_law [.scr ns] = .ok (.bl true, []) := by
  obtain ⟨names, hn, hnl, hN, hnd, _⟩ := names_ok (cv ns (0 : Int).toNat)
  have c0 := cell_ok ns 0 (by decide)
  have c1 := cell_ok ns 1 (by decide)
  obtain ⟨n, hnx, hn1, hn4⟩ : ∃ n : Nat, 1 + cv ns (1 : Int).toNat % 4 = (n : Int) ∧ 1 ≤ n ∧ n ≤ 4 := ⟨(1 + cv ns (1 : Int).toNat % 4).toNat, by omega, by omega, by omega⟩
  have hml : (names.take n).length = n := by rw [List.length_take]; omega
  have hmn : (names.take n).Nodup := hnd.sublist (List.take_sublist n names)
  have hmo : ∀ s ∈ names.take n, PyData.strOk s = true := fun s hs => (hN s (List.mem_of_mem_take hs)).ok
  have s1 : w1 (lE ns none none none none none none none none) = .ok (.nx (lE ns (oS (.int n)) none none none none none none none)) := by
    generalize cv ns (1 : Int).toNat = x1 at *
    unfold w1
    simp [c1, hnx]
  have hcut : cutD (names.map D.str) none (some (n : Int)) = (names.take n).map D.str := by rw [cutD_take', List.map_take]
  have hp2 : D.pureL ((names.take n).map D.str) = true := pureL_strs _
  have hp1 : D.pureL (names.map D.str) = true := pureL_strs _
  have hl2 : ((names.take n).map D.str).length ≤ 16777216 := by rw [List.length_map]; omega
  have hne2 : (names.take n).map D.str ≠ [] := fun e => by
    have := congrArg List.length e
    rw [List.length_map] at this
    have : (names.take n).length = 0 := this
    omega
  generalize names.take n = ms at *
  have s2 : w2 (lE ns (oS (.int n)) none none none none none none none) = .ok (.nx (lE ns (oS (.int n)) (oS (.tupF true (ms.map .str))) none none none none none none)) := by
    generalize cv ns (0 : Int).toNat = x0 at *
    clear hnd hN
    generalize names.map D.str = ND at *
    generalize ms.map D.str = MD at *
    unfold w2
    simp [c0, hn, hcut, hp1, hp2, hl2, hne2]
  have s3 := w3_ok ns (n := n) (by omega) (.tupF true (ms.map .str))
  have hgm : (List.range n).map (fun k => D.int (goN ns k)) = ((List.range n).map fun k => (goN ns k : Int)).map D.int := by rw [List.map_map]; rfl
  have hAp := ap_law ns n
  have hnet := lnet_ok (ns := ns) (ms := ms) (gs := (List.range n).map fun k => (goN ns k : Int)) (by omega) (by rw [List.length_map, List.length_range, hml]) fun g hg => by
    obtain ⟨k, _, rfl⟩ := List.mem_map.mp hg
    have := goN_le ns k
    omega
  rw [← hgm, hml] at hnet
  have hrun := ap_run hAp hmn hml (by omega)
  have hw : ∀ p ∈ apPs n (tkN ns) (bdN ns ((List.range n).map fun k => (goN ns k : Int))), PWF ms.length p := by rw [hml]; exact ap_wf hAp
  have hro := run_of_ok (ms := ms) (by omega) hw (by rw [apPs_len]; omega)
  have hgo := growth_ok (ms := ms) (by omega) hw (by rw [apPs_len]; omega)
  have hnE := noE_net ms (apPs n (tkN ns) (bdN ns ((List.range n).map fun k => (goN ns k : Int))))
  have hMp := pureL_strs ms
  have s4 : w4 (lE ns (oS (.int n)) (oS (.tupF true (ms.map .str))) (oS (.lst ((List.range n).map fun k => D.int (goN ns k)))) none none none none none) = .ok (.nx (lE ns (oS (.int n)) (oS (.tupF true (ms.map .str))) (oS (.lst ((List.range n).map fun k => D.int (goN ns k)))) (oS (dNet ms (apPs n (tkN ns) (bdN ns ((List.range n).map fun k => (goN ns k : Int)))))) none none none none)) := by
    clear hrun hro hgo hnE hw hAp s1 s2 s3
    generalize dNet ms (apPs n (tkN ns) (bdN ns ((List.range n).map fun k => (goN ns k : Int)))) = nd at *
    generalize (List.range n).map (fun k => D.int (goN ns k)) = GD at *
    generalize ms.map D.str = MD at *
    unfold w4
    simp [hnet, hMp]
  have s5 : w5 (lE ns (oS (.int n)) (oS (.tupF true (ms.map .str))) (oS (.lst ((List.range n).map fun k => D.int (goN ns k)))) (oS (dNet ms (apPs n (tkN ns) (bdN ns ((List.range n).map fun k => (goN ns k : Int)))))) none none none none) = .ok (.nx (lE ns (oS (.int n)) (oS (.tupF true (ms.map .str))) (oS (.lst ((List.range n).map fun k => D.int (goN ns k)))) (oS (dNet ms (apPs n (tkN ns) (bdN ns ((List.range n).map fun k => (goN ns k : Int)))))) (oS (.int 1)) none none none)) := by
    unfold w5
    simp
  have s6 := w6_ok (ns := ns) (n := n) (G := goN ns) (d2 := .tupF true (ms.map .str)) (d4 := dNet ms (apPs n (tkN ns) (bdN ns ((List.range n).map fun k => (goN ns k : Int))))) (goN_le ns) (by omega)
  have hfin : ∃ e, b_law [some (.brw, .scr ns), none, none, none, none, none, none, none, none, none, none, none, none, none, none, none] = .ok (.rt (.bl true) e) := by
    rw [law_eq, seq_nxG s1, seq_nxG s2, seq_nxG s3, seq_nxG s4, seq_nxG s5, seq_nxG s6]
    cases hx : metX 13 ms (apPs n (tkN ns) (bdN ns ((List.range n).map fun k => (goN ns k : Int)))) with
    | error t =>
      rw [hx] at hrun hro hgo
      obtain ⟨r1, r2⟩ := hrun
      have hgo : fn_growth_of [dNet ms (apPs n (tkN ns) (bdN ns ((List.range n).map fun k => (goN ns k : Int))))] = .ok (growD t, []) := hgo
      rw [r2] at hgo
      obtain ⟨e, he⟩ := w7_great (ns := ns) (n := n) (d2 := .tupF true (ms.map .str)) (d3 := .lst ((List.range n).map fun k => D.int (goN ns k))) r1 (lref_ok hro hnE) hgo
      exact ⟨e, seq_rtG he⟩
    | ok t =>
      rw [hx] at hrun hro hgo
      obtain ⟨hI, h12, hP⟩ := hrun
      obtain ⟨B, hB, hperm, _⟩ := sort_arcsL t.A
      have hro := hro B hB
      have hlen : t.P.length = apT (goN ns) n := by rw [hP.length_eq, apMs_len]
      have hgo : fn_growth_of [dNet ms (apPs n (tkN ns) (bdN ns ((List.range n).map fun k => (goN ns k : Int))))] = .ok (.tup [.str "ends", .int t.P.length], []) := hgo
      rw [hlen] at hgo
      have hmB : ∀ x ∈ B, x.2.1 ∈ ms ∧ ∃ M M', t.P[x.1]? = some M ∧ stepF (ixOf ms x.2.1) (apPs n (tkN ns) (bdN ns ((List.range n).map fun k => (goN ns k : Int)))) M = some M' ∧ t.P[x.2.2]? = some M' := fun x hx => (hI.so x (hperm.mem_iff.mp hx)).2
      have hBl : B.length ≤ 48 := by
        rw [hperm.length_eq]
        have := hI.la
        have h3 : ms.length * t.P.length ≤ 4 * 12 := Nat.mul_le_mul (by omega) h12
        omega
      have hcount := ap_arcs hAp hmn hml hI hP
      rw [← hperm.length_eq] at hcount
      have t7 := w7_not (ns := ns) (n := n) (tot := apT (goN ns) n) (d2 := .tupF true (ms.map .str)) (d3 := .lst ((List.range n).map fun k => D.int (goN ns k))) (N := dNet ms (apPs n (tkN ns) (bdN ns ((List.range n).map fun k => (goN ns k : Int))))) (by omega)
      have t8 := w8_ok (ns := ns) (n := n) (tot := apT (goN ns) n) (d2 := .tupF true (ms.map .str)) (d3 := .lst ((List.range n).map fun k => D.int (goN ns k))) hro
      have t9 := w9_ok (ns := ns) (n := n) (d2 := .tupF true (ms.map .str)) (d3 := .lst ((List.range n).map fun k => D.int (goN ns k))) (CH := .tup [.tupF true (ms.map .str), .lst (B.map arcD)]) hgo hlen hI.nd (by omega)
      have t10 := w10_ok (ns := ns) (n := n) (tot := apT (goN ns) n) (d3 := .lst ((List.range n).map fun k => D.int (goN ns k))) (N := dNet ms (apPs n (tkN ns) (bdN ns ((List.range n).map fun k => (goN ns k : Int))))) (PD := .lst (t.P.map dMk)) hmo (fun x hx => (hmB x hx).1) (sort_twice hB) (hperm.nodup_iff.mpr hI.an) (by omega)
      have t11 := w11_ok (ns := ns) (n := n) (tot := apT (goN ns) n) (d2 := .tupF true (ms.map .str)) (d3 := .lst ((List.range n).map fun k => D.int (goN ns k))) (N := dNet ms (apPs n (tkN ns) (bdN ns ((List.range n).map fun k => (goN ns k : Int))))) (CH := .tup [.tupF true (ms.map .str), .lst (B.map arcD)]) t.P
      have t12 := w12_ok (ns := ns) (n := n) (tot := apT (goN ns) n) (d2 := .tupF true (ms.map .str)) (d3 := .lst ((List.range n).map fun k => D.int (goN ns k))) (N := dNet ms (apPs n (tkN ns) (bdN ns ((List.range n).map fun k => (goN ns k : Int))))) (MD := .tupF true (ms.map .str)) (P := t.P) (B := B) (fun x hx => by
        obtain ⟨m1, M, M', a1, a2, a3⟩ := hmB x hx
        have b1 := (List.getElem?_eq_some_iff.mp a1).1
        have b3 := (List.getElem?_eq_some_iff.mp a3).1
        refine ⟨by omega, by omega, ?_⟩
        have := aright_ok (ms := ms) (ns := ns) (gs := (List.range n).map fun k => (goN ns k : Int)) (G := goN ns) (P := t.P) (x := x) hmo (by omega) (by rw [hml]; exact hAp) (fun M hM => by rw [hml]; exact hP.mem_iff.mp hM) ⟨m1, M, M', a1, by rw [hml]; exact a2, a3⟩
        rw [hml] at this
        exact this) (by omega)
      have t13 : ∀ (CH PD : D), w13 (lE ns (oS (.int n)) (oS (.tupF true (ms.map .str))) (oS (.lst ((List.range n).map fun k => D.int (goN ns k)))) (oS (dNet ms (apPs n (tkN ns) (bdN ns ((List.range n).map fun k => (goN ns k : Int)))))) (oS (.int (apT (goN ns) n))) (oS CH) (oS PD) none) = .ok (.nx (lE ns (oS (.int n)) (oS (.tupF true (ms.map .str))) (oS (.lst ((List.range n).map fun k => D.int (goN ns k)))) (oS (dNet ms (apPs n (tkN ns) (bdN ns ((List.range n).map fun k => (goN ns k : Int)))))) (oS (.int (apT (goN ns) n))) (oS CH) (oS PD) (oS (.int 0)))) := fun CH PD => by
        unfold w13
        simp
      have t14 := w14_ok (ns := ns) (n := n) (tot := apT (goN ns) n) (d2 := .tupF true (ms.map .str)) (d3 := .lst ((List.range n).map fun k => D.int (goN ns k))) (ms := ms) (gs := (List.range n).map fun k => (goN ns k : Int)) (P := t.P) (CH := .tup [.tupF true (ms.map .str), .lst (B.map arcD)]) hml.symm (by omega) (fun M hM => by rw [hI.ml M hM, apPs_len]) h12
      rw [← hcount] at t14
      obtain ⟨e, t15⟩ := w15_ok (ns := ns) (n := n) (tot := apT (goN ns) n) (d2 := .tupF true (ms.map .str)) (d3 := .lst ((List.range n).map fun k => D.int (goN ns k))) (ms := ms) (ps := apPs n (tkN ns) (bdN ns ((List.range n).map fun k => (goN ns k : Int)))) (MD := .tupF true (ms.map .str)) (B := B) (P := t.P) hI.hd (by rw [apPs_len]; omega)
      exact ⟨e, by rw [seq_nxG t7, seq_nxG t8, seq_nxG t9, seq_nxG t10, seq_nxG t11, seq_nxG t12, seq_nxG (t13 _ _), seq_nxG t14, seq_rtG t15]⟩
  obtain ⟨e, hb⟩ := hfin
  have hr : fn_law [.scr ns] = (b_law [some (.brw, .scr ns), none, none, none, none, none, none, none, none, none, none, none, none, none, none, none] >>= fun fl => match fl with
      | .nx e => must (outsFrom [.b] 0 e) fun o => .ok (.non, o)
      | .rt d e => must (outsFrom [.b] 0 e) fun o => .ok (d, o)
      | _ => .bad) := rfl
  rw [hr, hb]
  rfl
end DL
namespace DL
open PySem PySem.Spec PyProof.Rows L2
noncomputable section
def topS (i : Nat) : Stmt := PySem.Challenge.pw_netfinder_k21_runs_of_places_apart.main.body.getD i (.Pass ⟨0, 0, 0, 0⟩)
abbrev s_first_marking : Stmt := topS 4
abbrev N_first_marking : List Str := ["net", "beads", "takes", "gives"]
abbrev P_first_marking : List Str := ["net"]
theorem sc_first_marking : FnScope N_first_marking P_first_marking (defScope s_first_marking) := ⟨rfl, rfl, rfl, by decide +kernel, rfl, by decide +kernel, by decide +kernel⟩
abbrev s_can_go : Stmt := topS 5
abbrev N_can_go : List Str := ["net", "marking", "move", "k", "beads", "place"]
abbrev P_can_go : List Str := ["net", "marking", "move"]
theorem sc_can_go : FnScope N_can_go P_can_go (defScope s_can_go) := ⟨rfl, rfl, rfl, by decide +kernel, rfl, by decide +kernel, by decide +kernel⟩
abbrev s_moved : Stmt := topS 6
abbrev N_moved : List Str := ["net", "marking", "move", "k", "beads", "place"]
abbrev P_moved : List Str := ["net", "marking", "move"]
theorem sc_moved : FnScope N_moved P_moved (defScope s_moved) := ⟨rfl, rfl, rfl, by decide +kernel, rfl, by decide +kernel, by decide +kernel⟩
abbrev s_Meeting___init__ : Stmt := inClass (topS 9) 0
abbrev N_Meeting___init__ : List Str := ["self", "net"]
abbrev P_Meeting___init__ : List Str := ["self", "net"]
theorem sc_Meeting___init__ : FnScope N_Meeting___init__ P_Meeting___init__ (defScope s_Meeting___init__) := ⟨rfl, rfl, rfl, by decide +kernel, rfl, by decide +kernel, by decide +kernel⟩
abbrev s_Meeting_number_of : Stmt := inClass (topS 9) 1
abbrev N_Meeting_number_of : List Str := ["self", "marking", "here", "move"]
abbrev P_Meeting_number_of : List Str := ["self", "marking", "here", "move"]
theorem sc_Meeting_number_of : FnScope N_Meeting_number_of P_Meeting_number_of (defScope s_Meeting_number_of) := ⟨rfl, rfl, rfl, by decide +kernel, rfl, by decide +kernel, by decide +kernel⟩
abbrev s_Meeting_meet : Stmt := inClass (topS 9) 2
abbrev N_Meeting_meet : List Str := ["self", "most", "here", "move", "marking"]
abbrev P_Meeting_meet : List Str := ["self", "most"]
theorem sc_Meeting_meet : FnScope N_Meeting_meet P_Meeting_meet (defScope s_Meeting_meet) := ⟨rfl, rfl, rfl, by decide +kernel, rfl, by decide +kernel, by decide +kernel⟩
abbrev s_run_of : Stmt := topS 10
abbrev N_run_of : List Str := ["net", "meeting"]
abbrev P_run_of : List Str := ["net"]
theorem sc_run_of : FnScope N_run_of P_run_of (defScope s_run_of) := ⟨rfl, rfl, rfl, by decide +kernel, rfl, by decide +kernel, by decide +kernel⟩
abbrev s_is_over : Stmt := topS 11
abbrev N_is_over : List Str := ["marking", "other", "beads", "there"]
abbrev P_is_over : List Str := ["marking", "other"]
theorem sc_is_over : FnScope N_is_over P_is_over (defScope s_is_over) := ⟨rfl, rfl, rfl, by decide +kernel, rfl, by decide +kernel, by decide +kernel⟩
abbrev s_growth_of : Stmt := topS 12
abbrev N_growth_of : List Str := ["net", "meeting", "number", "marking", "ahead", "way"]
abbrev P_growth_of : List Str := ["net"]
theorem sc_growth_of : FnScope N_growth_of P_growth_of (defScope s_growth_of) := ⟨rfl, rfl, rfl, by decide +kernel, rfl, by decide +kernel, by decide +kernel⟩
abbrev s_law_cell_at : Stmt := topS 14
abbrev N_law_cell_at : List Str := ["_law_script", "_law_k"]
abbrev P_law_cell_at : List Str := ["_law_script", "_law_k"]
theorem sc_law_cell_at : FnScope N_law_cell_at P_law_cell_at (defScope s_law_cell_at) := ⟨rfl, rfl, rfl, by decide +kernel, rfl, by decide +kernel, by decide +kernel⟩
abbrev s_law_mixed : Stmt := topS 15
abbrev N_law_mixed : List Str := ["_law_cell", "_law_k", "_law_number"]
abbrev P_law_mixed : List Str := ["_law_cell", "_law_k"]
theorem sc_law_mixed : FnScope N_law_mixed P_law_mixed (defScope s_law_mixed) := ⟨rfl, rfl, rfl, by decide +kernel, rfl, by decide +kernel, by decide +kernel⟩
abbrev s_law_names : Stmt := topS 16
abbrev N_law_names : List Str := ["_law_cell", "_law_letters", "_law_base", "_law_width", "_law_spot", "_law_names_here", "_law_k", "_law_moved_on", "_law_j", "_law_name"]
abbrev P_law_names : List Str := ["_law_cell"]
theorem sc_law_names : FnScope N_law_names P_law_names (defScope s_law_names) := ⟨rfl, rfl, rfl, by decide +kernel, rfl, by decide +kernel, by decide +kernel⟩
abbrev s_law_whole : Stmt := topS 17
abbrev N_law_whole : List Str := ["_law_found"]
abbrev P_law_whole : List Str := ["_law_found"]
theorem sc_law_whole : FnScope N_law_whole P_law_whole (defScope s_law_whole) := ⟨rfl, rfl, rfl, by decide +kernel, rfl, by decide +kernel, by decide +kernel⟩
abbrev s_law_net : Stmt := topS 18
abbrev N_law_net : List Str := ["_law_script", "_law_moves", "_law_goings", "_law_places", "_law_k", "_law_take", "_law_takes", "_law_beads", "_law_j"]
abbrev P_law_net : List Str := ["_law_script", "_law_moves", "_law_goings"]
theorem sc_law_net : FnScope N_law_net P_law_net (defScope s_law_net) := ⟨rfl, rfl, rfl, by decide +kernel, rfl, by decide +kernel, by decide +kernel⟩
abbrev s_law_arc_right : Stmt := topS 19
abbrev N_law_arc_right : List Str := ["_law_net_here", "_law_markings", "_law_arc", "_law_k", "_law_j", "_law_taken"]
abbrev P_law_arc_right : List Str := ["_law_net_here", "_law_markings", "_law_arc"]
theorem sc_law_arc_right : FnScope N_law_arc_right P_law_arc_right (defScope s_law_arc_right) := ⟨rfl, rfl, rfl, by decide +kernel, rfl, by decide +kernel, by decide +kernel⟩
abbrev s_law_refused : Stmt := topS 20
abbrev N_law_refused : List Str := ["_law_net_here", "_law_refused_here"]
abbrev P_law_refused : List Str := ["_law_net_here"]
theorem sc_law_refused : FnScope N_law_refused P_law_refused (defScope s_law_refused) := ⟨rfl, rfl, rfl, by decide +kernel, rfl, by decide +kernel, by decide +kernel⟩
abbrev s_law : Stmt := topS 21
abbrev N_law : List Str := ["_law_script", "_law_count", "_law_moves", "_law_goings", "_law_net_here", "_law_total", "_law_number", "_law_chart", "_law_markings", "_law_marking", "_law_beads", "_law_arc", "_law_able", "_law_k", "_law_takes", "_law_gives"]
abbrev P_law : List Str := ["_law_script"]
theorem sc_law : FnScope N_law P_law (defScope s_law) := ⟨rfl, rfl, rfl, by decide +kernel, rfl, by decide +kernel, by decide +kernel⟩
set_option maxHeartbeats 0 in
/-- what the top has written -/
structure Fx (K : PySem.W.Frag) (mg : Str → Option Value) (cl : Str → Option Addr) where
  f_first_marking : Addr
  d_first_marking : FuncData
  F_first_marking : L2.Fun K "first_marking" "first_marking" s_first_marking f_first_marking d_first_marking
  b_first_marking : Binds K d_first_marking P_first_marking []
  g_first_marking : mg "first_marking" = some (.ref f_first_marking)
  f_can_go : Addr
  d_can_go : FuncData
  F_can_go : L2.Fun K "can_go" "can_go" s_can_go f_can_go d_can_go
  b_can_go : Binds K d_can_go P_can_go []
  g_can_go : mg "can_go" = some (.ref f_can_go)
  f_moved : Addr
  d_moved : FuncData
  F_moved : L2.Fun K "moved" "moved" s_moved f_moved d_moved
  b_moved : Binds K d_moved P_moved []
  g_moved : mg "moved" = some (.ref f_moved)
  f_Meeting___init__ : Addr
  d_Meeting___init__ : FuncData
  F_Meeting___init__ : L2.Fun K "__init__" "Meeting.__init__" s_Meeting___init__ f_Meeting___init__ d_Meeting___init__
  b_Meeting___init__ : Binds K d_Meeting___init__ P_Meeting___init__ []
  f_Meeting_number_of : Addr
  d_Meeting_number_of : FuncData
  F_Meeting_number_of : L2.Fun K "number_of" "Meeting.number_of" s_Meeting_number_of f_Meeting_number_of d_Meeting_number_of
  b_Meeting_number_of : Binds K d_Meeting_number_of P_Meeting_number_of []
  f_Meeting_meet : Addr
  d_Meeting_meet : FuncData
  F_Meeting_meet : L2.Fun K "meet" "Meeting.meet" s_Meeting_meet f_Meeting_meet d_Meeting_meet
  b_Meeting_meet : Binds K d_Meeting_meet P_Meeting_meet []
  f_run_of : Addr
  d_run_of : FuncData
  F_run_of : L2.Fun K "run_of" "run_of" s_run_of f_run_of d_run_of
  b_run_of : Binds K d_run_of P_run_of []
  g_run_of : mg "run_of" = some (.ref f_run_of)
  f_is_over : Addr
  d_is_over : FuncData
  F_is_over : L2.Fun K "is_over" "is_over" s_is_over f_is_over d_is_over
  b_is_over : Binds K d_is_over P_is_over []
  g_is_over : mg "is_over" = some (.ref f_is_over)
  f_growth_of : Addr
  d_growth_of : FuncData
  F_growth_of : L2.Fun K "growth_of" "growth_of" s_growth_of f_growth_of d_growth_of
  b_growth_of : Binds K d_growth_of P_growth_of []
  g_growth_of : mg "growth_of" = some (.ref f_growth_of)
  f_law_cell_at : Addr
  d_law_cell_at : FuncData
  F_law_cell_at : L2.Fun K "_law_cell_at" "_law_cell_at" s_law_cell_at f_law_cell_at d_law_cell_at
  b_law_cell_at : Binds K d_law_cell_at P_law_cell_at []
  g_law_cell_at : mg "_law_cell_at" = some (.ref f_law_cell_at)
  f_law_mixed : Addr
  d_law_mixed : FuncData
  F_law_mixed : L2.Fun K "_law_mixed" "_law_mixed" s_law_mixed f_law_mixed d_law_mixed
  b_law_mixed : Binds K d_law_mixed P_law_mixed []
  g_law_mixed : mg "_law_mixed" = some (.ref f_law_mixed)
  f_law_names : Addr
  d_law_names : FuncData
  F_law_names : L2.Fun K "_law_names" "_law_names" s_law_names f_law_names d_law_names
  b_law_names : Binds K d_law_names P_law_names []
  g_law_names : mg "_law_names" = some (.ref f_law_names)
  f_law_whole : Addr
  d_law_whole : FuncData
  F_law_whole : L2.Fun K "_law_whole" "_law_whole" s_law_whole f_law_whole d_law_whole
  b_law_whole : Binds K d_law_whole P_law_whole []
  g_law_whole : mg "_law_whole" = some (.ref f_law_whole)
  f_law_net : Addr
  d_law_net : FuncData
  F_law_net : L2.Fun K "_law_net" "_law_net" s_law_net f_law_net d_law_net
  b_law_net : Binds K d_law_net P_law_net []
  g_law_net : mg "_law_net" = some (.ref f_law_net)
  f_law_arc_right : Addr
  d_law_arc_right : FuncData
  F_law_arc_right : L2.Fun K "_law_arc_right" "_law_arc_right" s_law_arc_right f_law_arc_right d_law_arc_right
  b_law_arc_right : Binds K d_law_arc_right P_law_arc_right []
  g_law_arc_right : mg "_law_arc_right" = some (.ref f_law_arc_right)
  f_law_refused : Addr
  d_law_refused : FuncData
  F_law_refused : L2.Fun K "_law_refused" "_law_refused" s_law_refused f_law_refused d_law_refused
  b_law_refused : Binds K d_law_refused P_law_refused []
  g_law_refused : mg "_law_refused" = some (.ref f_law_refused)
  f_law : Addr
  d_law : FuncData
  F_law : L2.Fun K "law" "law" s_law f_law d_law
  b_law : Binds K d_law P_law []
  g_law : mg "law" = some (.ref f_law)
  C_Meeting : Addr
  ec_Meeting : cl "Meeting" = some C_Meeting
  cls_Meeting : Cls K C_Meeting
  na_Meeting_ahead : NoAttr K C_Meeting "ahead"
  na_Meeting_arcs : NoAttr K C_Meeting "arcs"
  na_Meeting_markings : NoAttr K C_Meeting "markings"
  na_Meeting_net : NoAttr K C_Meeting "net"
  na_Meeting_numbers : NoAttr K C_Meeting "numbers"
  na_Meeting_ways : NoAttr K C_Meeting "ways"
  mc_Meeting : mg "Meeting" = some (.ref C_Meeting)
  mk_Meeting : Mk K C_Meeting f_Meeting___init__
  me_Meeting_meet : Meth K C_Meeting "meet" f_Meeting_meet
  me_Meeting_number_of : Meth K C_Meeting "number_of" f_Meeting_number_of
  n_bool : mg "bool" = none
  n_enumerate : mg "enumerate" = none
  n_int : mg "int" = none
  n_isinstance : mg "isinstance" = none
  n_len : mg "len" = none
  n_range : mg "range" = none
  n_set : mg "set" = none
  n_sorted : mg "sorted" = none
  n_tuple : mg "tuple" = none
  n_zip : mg "zip" = none
  t_MOST : Tok
  c_MOST : mg "MOST" = some (.int 12 t_MOST)
  x0 : cl exName = none
  X_TooGreat : Addr
  xl_TooGreat : cl "TooGreat" = some X_TooGreat
  xm_TooGreat : mg "TooGreat" = some (.ref X_TooGreat)
  xe_TooGreat : PySem.W.excIn K X_TooGreat [.type "ValueError", .type "Exception", .type "BaseException", .type "object"] "ValueError.__new__" = true
  xk_TooGreat : PySem.W.keepIn K (.ref X_TooGreat) = true
  xb_TooGreat : PySem.W.subIn K (.ref X_TooGreat) (.type "BaseException") = some true
  xt_TooGreat : PySem.W.typeIn K (.ref X_TooGreat) = some (.type "type")
  xq_TooGreat_TooGreat : PySem.W.exmOne K (.ref X_TooGreat) (.ref X_TooGreat) = some true
theorem Fx.ecl_TooGreat {K : PySem.W.Frag} {mg : Str → Option Value} {cl : Str → Option Addr} (fx : Fx K mg cl) : Ecl K mg cl "TooGreat" := ⟨fx.X_TooGreat, fx.xl_TooGreat, fx.xm_TooGreat, fx.xe_TooGreat, fx.xk_TooGreat, fx.xb_TooGreat, fx.xt_TooGreat⟩
section
variable {P : Program} {w : World} {K : PySem.W.Frag} {mg : Str → Option Value} {base : Heap} {cl : Str → Option Addr} {bo : Hp}
theorem ok_first_marking {k : Nat} (fx : Fx K mg cl) : FnOk P w K mg base (L2.CX P w) (k + 1) fx.f_first_marking fx.d_first_marking P_first_marking (spD ⟨K, cl, bo⟩ [.b] fn_first_marking) := by
  refine def_ok (k := k + 0) (N := N_first_marking) (ms := [.b]) (body := b_first_marking) fx.F_first_marking sc_first_marking rfl fun cdv A outer s H E W hr dw hp => ?_
  exact (s_cons (s_ret (e_tupOf dw.dx (by rfl) fx.n_tuple (.own (lcE [.plc 0 (pIx (pVar 0) (hC (.int 1)))] mkSeq (bTup (bCons (bName 1) (bCons (bName 2) (bCons (bName 3) bNil)))) eYes (eP (hVar 1)) [1, 2, 3]) (.fin [])) (pa_cons (e_lc (own := [("beads", 1), ("takes", 2), ("gives", 3)]) dw.dx (i_seq (.plc 0 (pIx (pVar 0) (hC (.int 1)))) dw.dx (l_ix dw.dx (p_plc (pv 0)) p_int)) (blkOk_by (N := N_first_marking) (sc := (defScope s_first_marking)) (by decide +kernel)) (bind_tup rfl (binds_cons bind_name (binds_cons bind_name (binds_cons bind_name binds_nil))) (bCons_len (bCons_len (bCons_len bNil_len)))) (fun _ _ _ _ _ => (pg_tup rfl (pgs_cons (pg_name (i := 1) sc_first_marking.nd rfl (by first | exact .inl rfl | exact .inr rfl)) (pgs_cons (pg_name (i := 2) sc_first_marking.nd rfl (by first | exact .inl rfl | exact .inr rfl)) (pgs_cons (pg_name (i := 3) sc_first_marking.nd rfl (by first | exact .inl rfl | exact .inr rfl)) pgs_nil))))) (fun _ _ _ _ _ => ts_nil) (fun _ _ _ _ _ => (e_p (p_var (pv 1))))) pa_nil)))
  s_nil)
theorem ok_can_go {k : Nat} (fx : Fx K mg cl) : FnOk P w K mg base (L2.CX P w) (k + 1) fx.f_can_go fx.d_can_go P_can_go (spD ⟨K, cl, bo⟩ [.b, .b, .b] fn_can_go) := by
  refine def_ok (k := k + 0) (N := N_can_go) (ms := [.b, .b, .b]) (body := b_can_go) fx.F_can_go sc_can_go rfl fun cdv A outer s H E W hr dw hp => ?_
  exact (s_cons (s_set dw.dx rfl (by first | exact .inl rfl | exact .inr rfl) (e_p (p_tIx (hs := [.pur (hVar 2)]) dw.dx (p_rd (l_ix dw.dx (p_plc (pv 0)) p_int)) (pa_cons (p_var (pv 2)) pa_nil))))
  (s_cons (s_for [4, 5] dw.dx hp (i_zip [.pur (hVar 1), .plc 0 (pIx (pVar 0) (hC (.int 1)))] dw.dx (by rfl) fx.n_zip (pa_cons (p_var (pv 1)) (pa_cons (l_ix dw.dx (p_plc (pv 0)) p_int) pa_nil))) (pg_tup rfl (pgs_cons (pg_name (i := 4) sc_can_go.nd rfl (by first | exact .inl rfl | exact .inr rfl)) (pgs_cons (pg_name (i := 5) sc_can_go.nd rfl (by first | exact .inl rfl | exact .inr rfl)) pgs_nil))) (bind_tup rfl (binds_cons bind_name (binds_cons bind_name binds_nil)) (bCons_len (bCons_len bNil_len))) (s_cons (s_if (t_cmpPP op_ltA rop_lt pure_lt (p_var (pv 4)) (p_rd (l_ix dw.dx (l_ix dw.dx (p_plc (pv 5)) p_int) (p_var (pv 3))))) (s_cons (s_ret (e_p p_bl))
  s_nil) s_nil)
  s_nil))
  (s_cons (s_ret (e_p p_bl))
  s_nil)))
theorem ok_moved {k : Nat} (fx : Fx K mg cl) : FnOk P w K mg base (L2.CX P w) (k + 2) fx.f_moved fx.d_moved P_moved (spD ⟨K, cl, bo⟩ [.b, .b, .b] fn_moved) := by
  refine def_ok (k := k + 1) (N := N_moved) (ms := [.b, .b, .b]) (body := b_moved) fx.F_moved sc_moved rfl fun cdv A outer s H E W hr dw hp => ?_
  exact (s_cons (s_ifE (t_notE (t_valE (e_call dw (ok_can_go (k := k + 0) fx) hr (by rfl) fx.g_can_go fx.F_can_go.kp fx.b_can_go (.fin [.plc 0 (pVar 0), .pur (hVar 1), .pur (hVar 2)]) (pa_cons (p_plc (pv 0)) (pa_cons (p_var (pv 1)) (pa_cons (p_var (pv 2)) pa_nil)))))) (s_cons (s_ret (e_p p_non))
  s_nil) s_nil)
  (s_cons (s_set dw.dx rfl (by first | exact .inl rfl | exact .inr rfl) (e_p (p_tIx (hs := [.pur (hVar 2)]) dw.dx (p_rd (l_ix dw.dx (p_plc (pv 0)) p_int)) (pa_cons (p_var (pv 2)) pa_nil))))
  (s_cons (s_ret (e_tupOf dw.dx (by rfl) fx.n_tuple (.own (lcE [.pur (hVar 1), .plc 0 (pIx (pVar 0) (hC (.int 1)))] mkZip (bTup (bCons (bName 4) (bCons (bName 5) bNil))) eYes (eP (hOp [.pur (hOp [.pur (hVar 4), .pur (hRd (pIx (pIx (pVar 5) (hC (.int 1))) (hVar 3)))] gSub), .pur (hRd (pIx (pIx (pVar 5) (hC (.int 2))) (hVar 3)))] gAdd)) [4, 5]) (.fin [])) (pa_cons (e_lc (own := [("beads", 4), ("place", 5)]) dw.dx (i_zip [.pur (hVar 1), .plc 0 (pIx (pVar 0) (hC (.int 1)))] dw.dx (by rfl) fx.n_zip (pa_cons (p_var (pv 1)) (pa_cons (l_ix dw.dx (p_plc (pv 0)) p_int) pa_nil))) (blkOk_by (N := N_moved) (sc := (defScope s_moved)) (by decide +kernel)) (bind_tup rfl (binds_cons bind_name (binds_cons bind_name binds_nil)) (bCons_len (bCons_len bNil_len))) (fun _ _ _ _ _ => (pg_tup rfl (pgs_cons (pg_name (i := 4) sc_moved.nd rfl (by first | exact .inl rfl | exact .inr rfl)) (pgs_cons (pg_name (i := 5) sc_moved.nd rfl (by first | exact .inl rfl | exact .inr rfl)) pgs_nil)))) (fun _ _ _ _ _ => ts_nil) (fun _ _ _ _ _ => (e_p (p_binPP op_addA rop_add pure_add (p_binPP op_sub rop_sub pure_sub (p_var (pv 4)) (p_rd (l_ix dw.blk.dx (l_ix dw.blk.dx (p_plc (pv 5)) p_int) (p_var (pv 3))))) (p_rd (l_ix dw.blk.dx (l_ix dw.blk.dx (p_plc (pv 5)) p_int) (p_var (pv 3)))))))) pa_nil)))
  s_nil)))
theorem ok_Meeting___init__ {k : Nat} (fx : Fx K mg cl) : FnOk P w K mg base (L2.CX P w) (k + 2) fx.f_Meeting___init__ fx.d_Meeting___init__ P_Meeting___init__ (spD ⟨K, cl, bo⟩ [.io, .b] fn_Meeting___init__) := by
  refine def_ok (k := k + 1) (N := N_Meeting___init__) (ms := [.io, .b]) (body := b_Meeting___init__) fx.F_Meeting___init__ sc_Meeting___init__ rfl fun cdv A outer s H E W hr dw hp => ?_
  exact (s_cons (s_fld (cs := ["Meeting"]) (inC1 ⟨_, fx.ec_Meeting, fx.cls_Meeting, fx.na_Meeting_net⟩) (pv 0) (e_p (p_var (pv 1))))
  (s_cons (s_fld (cs := ["Meeting"]) (inC1 ⟨_, fx.ec_Meeting, fx.cls_Meeting, fx.na_Meeting_markings⟩) (pv 0) (e_lst (.own (eK (.fin [.plc 1 (pUn (pVar 1))]) (callK [.b] fn_first_marking)) (.fin [])) (pa_cons (e_call dw (ok_first_marking (k := k + 0) fx) hr (by rfl) fx.g_first_marking fx.F_first_marking.kp fx.b_first_marking (.fin [.plc 1 (pUn (pVar 1))]) (pa_cons (l_un (p_plc (pv 1))) pa_nil)) pa_nil)))
  (s_cons (s_fld (cs := ["Meeting"]) (inC1 ⟨_, fx.ec_Meeting, fx.cls_Meeting, fx.na_Meeting_numbers⟩) (pv 0) (e_oneT dw.dx (e_call dw (ok_first_marking (k := k + 0) fx) hr (by rfl) fx.g_first_marking fx.F_first_marking.kp fx.b_first_marking (.fin [.plc 1 (pUn (pVar 1))]) (pa_cons (l_un (p_plc (pv 1))) pa_nil)) pe_int fun _ _ => ⟨rfl, rfl⟩))
  (s_cons (s_fld (cs := ["Meeting"]) (inC1 ⟨_, fx.ec_Meeting, fx.cls_Meeting, fx.na_Meeting_ahead⟩) (pv 0) (e_lst (.fin [.pur (hC .non)]) (pa_cons p_non pa_nil)))
  (s_cons (s_fld (cs := ["Meeting"]) (inC1 ⟨_, fx.ec_Meeting, fx.cls_Meeting, fx.na_Meeting_ways⟩) (pv 0) (e_lst (.fin [.pur (hOp [] fTup)]) (pa_cons (p_tup (hs := []) pa_nil) pa_nil)))
  (s_cons (s_fld (cs := ["Meeting"]) (inC1 ⟨_, fx.ec_Meeting, fx.cls_Meeting, fx.na_Meeting_arcs⟩) (pv 0) (e_lst (.fin []) pa_nil))
  s_nil))))))
theorem ok_Meeting_number_of {k : Nat} (fx : Fx K mg cl) : FnOk P w K mg base (L2.CX P w) (k + 1) fx.f_Meeting_number_of fx.d_Meeting_number_of P_Meeting_number_of (spD ⟨K, cl, bo⟩ [.io, .b, .b, .b] fn_Meeting_number_of) := by
  refine def_ok (k := k + 0) (N := N_Meeting_number_of) (ms := [.io, .b, .b, .b]) (body := b_Meeting_number_of) fx.F_Meeting_number_of sc_Meeting_number_of rfl fun cdv A outer s H E W hr dw hp => ?_
  exact (s_cons (s_if (t_dnotin (s1 := .pur (hVar 1)) (s2 := .plc 0 (pAt (pVar 0) ["Meeting"] "numbers")) dw.dx (p_var (pv 1)) (l_at (cs := ["Meeting"]) (inC1 ⟨_, fx.ec_Meeting, fx.cls_Meeting, fx.na_Meeting_numbers⟩) (p_plc (pv 0)))) (s_cons (s_setDF (cs := ["Meeting"]) dw.dx (inC1 ⟨_, fx.ec_Meeting, fx.cls_Meeting, fx.na_Meeting_numbers⟩) (e_p (p_len (hs := [.plc 0 (pAt (pVar 0) ["Meeting"] "markings")]) dw.dx (by rfl) fx.n_len (pa_cons (l_at (cs := ["Meeting"]) (inC1 ⟨_, fx.ec_Meeting, fx.cls_Meeting, fx.na_Meeting_markings⟩) (p_plc (pv 0))) pa_nil))) (pv 0) (p_var (pv 1)))
  (s_cons (s_expr (e_appF (cs := ["Meeting"]) dw.dx (inC1 ⟨_, fx.ec_Meeting, fx.cls_Meeting, fx.na_Meeting_markings⟩) (pv 0) (e_p (p_var (pv 1)))))
  (s_cons (s_expr (e_appF (cs := ["Meeting"]) dw.dx (inC1 ⟨_, fx.ec_Meeting, fx.cls_Meeting, fx.na_Meeting_ahead⟩) (pv 0) (e_p (p_var (pv 2)))))
  (s_cons (s_expr (e_appF (cs := ["Meeting"]) dw.dx (inC1 ⟨_, fx.ec_Meeting, fx.cls_Meeting, fx.na_Meeting_ways⟩) (pv 0) (e_p (p_binPP op_addA rop_add pure_add (p_rd (l_ix dw.dx (l_at (cs := ["Meeting"]) (inC1 ⟨_, fx.ec_Meeting, fx.cls_Meeting, fx.na_Meeting_ways⟩) (p_plc (pv 0))) (p_var (pv 2)))) (p_tup (hs := [.pur (hVar 3)]) (pa_cons (p_var (pv 3)) pa_nil))))))
  s_nil)))) s_nil)
  (s_cons (s_ret (e_p (p_dget (s1 := .plc 0 (pAt (pVar 0) ["Meeting"] "numbers")) (s2 := .pur (hVar 1)) dw.dx (l_at (cs := ["Meeting"]) (inC1 ⟨_, fx.ec_Meeting, fx.cls_Meeting, fx.na_Meeting_numbers⟩) (p_plc (pv 0))) (p_var (pv 1)))))
  s_nil))
theorem ok_Meeting_meet {k : Nat} (fx : Fx K mg cl) : FnOk P w K mg base (L2.CX P w) (k + 3) fx.f_Meeting_meet fx.d_Meeting_meet P_Meeting_meet (spD ⟨K, cl, bo⟩ [.io, .b] fn_Meeting_meet) := by
  refine def_ok (k := k + 2) (N := N_Meeting_meet) (ms := [.io, .b]) (body := b_Meeting_meet) fx.F_Meeting_meet sc_Meeting_meet rfl fun cdv A outer s H E W hr dw hp => ?_
  exact (s_cons (s_set dw.dx rfl (by first | exact .inl rfl | exact .inr rfl) (e_p p_int))
  (s_cons (s_while hp (t_p (t_cmpPP op_ltA rop_lt pure_lt (p_var (pv 2)) (p_len (hs := [.plc 0 (pAt (pVar 0) ["Meeting"] "markings")]) dw.dx (by rfl) fx.n_len (pa_cons (l_at (cs := ["Meeting"]) (inC1 ⟨_, fx.ec_Meeting, fx.cls_Meeting, fx.na_Meeting_markings⟩) (p_plc (pv 0))) pa_nil)))) (s_drop [3, 4] (s_cons (s_for [3, 4] dw.dx hp (i_seq (.pur (hRd (pIx (pUn (pAt (pVar 0) ["Meeting"] "net")) (hC (.int 0))))) dw.dx (p_rd (l_ix dw.dx (l_un (l_at (cs := ["Meeting"]) (inC1 ⟨_, fx.ec_Meeting, fx.cls_Meeting, fx.na_Meeting_net⟩) (p_plc (pv 0)))) p_int))) (pg_name (i := 3) sc_Meeting_meet.nd rfl (by first | exact .inl rfl | exact .inr rfl)) bind_name (s_cons (s_set dw.dx rfl (by first | exact .inl rfl | exact .inr rfl) (e_call dw (ok_moved (k := k + 0) fx) hr (by rfl) fx.g_moved fx.F_moved.kp fx.b_moved (.fin [.plc 0 (pUn (pAt (pVar 0) ["Meeting"] "net")), .pur (hRd (pIx (pAt (pVar 0) ["Meeting"] "markings") (hVar 2))), .pur (hVar 3)]) (pa_cons (l_un (l_at (cs := ["Meeting"]) (inC1 ⟨_, fx.ec_Meeting, fx.cls_Meeting, fx.na_Meeting_net⟩) (p_plc (pv 0)))) (pa_cons (p_rd (l_ix dw.dx (l_at (cs := ["Meeting"]) (inC1 ⟨_, fx.ec_Meeting, fx.cls_Meeting, fx.na_Meeting_markings⟩) (p_plc (pv 0))) (p_var (pv 2)))) (pa_cons (p_var (pv 3)) pa_nil)))))
  (s_cons (s_if (t_cmpPP op_notN rop_notN pure_notN (p_var (pv 4)) p_non) (s_cons (s_expr (e_appF (cs := ["Meeting"]) dw.dx (inC1 ⟨_, fx.ec_Meeting, fx.cls_Meeting, fx.na_Meeting_arcs⟩) (pv 0) (e_tup (.pur (hVar 2) (.pur (hVar 3) (.own (isO 0 "Meeting" "number_of" (eK (.io 0 (.fin [.pur (hVar 4), .pur (hVar 2), .pur (hVar 3)])) (callK [.io, .b, .b, .b] (noX fn_Meeting_number_of)))) (.fin [])))) (pa_cons (p_var (pv 2)) (pa_cons (p_var (pv 3)) (pa_cons (e_methI dw fx.ec_Meeting fx.cls_Meeting fx.me_Meeting_number_of (ok_Meeting_number_of (k := k + 1) fx) hr fx.b_Meeting_number_of (pv 0) (.fin [.pur (hVar 4), .pur (hVar 2), .pur (hVar 3)]) (pa_cons (p_var (pv 4)) (pa_cons (p_var (pv 2)) (pa_cons (p_var (pv 3)) pa_nil)))) pa_nil))))))
  (s_cons (s_if (t_cmpPP (op_eqD (hu_eq1 dw.dx)) rop_eq pure_eq (p_len (hs := [.plc 0 (pAt (pVar 0) ["Meeting"] "markings")]) dw.dx (by rfl) fx.n_len (pa_cons (l_at (cs := ["Meeting"]) (inC1 ⟨_, fx.ec_Meeting, fx.cls_Meeting, fx.na_Meeting_markings⟩) (p_plc (pv 0))) pa_nil)) (p_var (pv 1))) (s_cons s_retN
  s_nil) s_nil)
  s_nil)) s_nil)
  s_nil)))
  (s_cons (s_aug dw.dx rfl (by first | exact .inl rfl | exact .inr rfl) ip_add (e_p p_int))
  s_nil))))
  s_nil))
theorem ok_run_of {k : Nat} (fx : Fx K mg cl) : FnOk P w K mg base (L2.CX P w) (k + 4) fx.f_run_of fx.d_run_of P_run_of (spD ⟨K, cl, bo⟩ [.b] fn_run_of) := by
  refine def_ok (k := k + 3) (N := N_run_of) (ms := [.b]) (body := b_run_of) fx.F_run_of sc_run_of rfl fun cdv A outer s H E W hr dw hp => ?_
  exact (s_scp (scp_brw 0) fun bo1 => (fun (dw1 : DXW _ ⟨K, cl, bo1⟩ _) =>
  (s_cons (s_set dw1.dx rfl (by first | exact .inl rfl | exact .inr rfl) (e_make dw1 fx.ec_Meeting fx.mk_Meeting (ok_Meeting___init__ (k := k + 0) fx) hr (by rfl) fx.mc_Meeting fx.b_Meeting___init__ (.fin [.pur (hVar 0)]) (pa_cons (p_var (pv 0)) pa_nil)))
  (s_scp (scp_frz 1) fun bo2 => (fun (dw2 : DXW _ ⟨K, cl, bo2⟩ _) =>
  (s_cons (s_expr (e_methI dw2 fx.ec_Meeting fx.cls_Meeting fx.me_Meeting_meet (ok_Meeting_meet (k := k + 0) fx) hr fx.b_Meeting_meet (pv 1) (.fin [.pur (hOp [.pur (hC (.int 12)), .pur (hC (.int 1))] gAdd)]) (pa_cons (p_binPP op_addA rop_add pure_add (p_gint (by rfl) fx.c_MOST) p_int) pa_nil)))
  (s_cons (s_if (t_cmpPP op_gt rop_gt pure_gt (p_len (hs := [.plc 1 (pAt (pVar 1) ["Meeting"] "markings")]) dw2.dx (by rfl) fx.n_len (pa_cons (l_at (cs := ["Meeting"]) (inC1 ⟨_, fx.ec_Meeting, fx.cls_Meeting, fx.na_Meeting_markings⟩) (p_plc (pv 1))) pa_nil)) (p_gint (by rfl) fx.c_MOST)) (s_cons (s_raise dw2 fx.ecl_TooGreat)
  s_nil) s_nil)
  (s_cons (s_ret (e_tup (.own (eK (.pur (hRd (pIx (pUn (pVar 0)) (hC (.int 0)))) (.own (eOp (.fin [.plc 1 (pAt (pVar 1) ["Meeting"] "arcs")]) gSorted) (.fin []))) (dspK .tup)) (.own (eMovF 1 ["Meeting"] "markings") (.fin []))) (pa_cons (e_tup (.pur (hRd (pIx (pUn (pVar 0)) (hC (.int 0)))) (.own (eOp (.fin [.plc 1 (pAt (pVar 1) ["Meeting"] "arcs")]) gSorted) (.fin []))) (pa_cons (p_rd (l_ix dw2.dx (l_un (p_plc (pv 0))) p_int)) (pa_cons (e_sorted dw2.dx (by rfl) fx.n_sorted (.fin [.plc 1 (pAt (pVar 1) ["Meeting"] "arcs")]) (pa_cons (l_at (cs := ["Meeting"]) (inC1 ⟨_, fx.ec_Meeting, fx.cls_Meeting, fx.na_Meeting_arcs⟩) (p_plc (pv 1))) pa_nil)) pa_nil))) (pa_cons (e_movF (cs := ["Meeting"]) (inC1 ⟨_, fx.ec_Meeting, fx.cls_Meeting, fx.na_Meeting_markings⟩) (pv 1)) pa_nil))))
  s_nil)))) (DXW.scp dw1)))) (DXW.scp dw))
theorem ok_is_over {k : Nat} (fx : Fx K mg cl) : FnOk P w K mg base (L2.CX P w) (k + 1) fx.f_is_over fx.d_is_over P_is_over (spD ⟨K, cl, bo⟩ [.b, .b] fn_is_over) := by
  refine def_ok (k := k + 0) (N := N_is_over) (ms := [.b, .b]) (body := b_is_over) fx.F_is_over sc_is_over rfl fun cdv A outer s H E W hr dw hp => ?_
  exact (s_cons (s_for [2, 3] dw.dx hp (i_zip [.pur (hVar 0), .pur (hVar 1)] dw.dx (by rfl) fx.n_zip (pa_cons (p_var (pv 0)) (pa_cons (p_var (pv 1)) pa_nil))) (pg_tup rfl (pgs_cons (pg_name (i := 2) sc_is_over.nd rfl (by first | exact .inl rfl | exact .inr rfl)) (pgs_cons (pg_name (i := 3) sc_is_over.nd rfl (by first | exact .inl rfl | exact .inr rfl)) pgs_nil))) (bind_tup rfl (binds_cons bind_name (binds_cons bind_name binds_nil)) (bCons_len (bCons_len bNil_len))) (s_cons (s_if (t_cmpPP op_ltA rop_lt pure_lt (p_var (pv 2)) (p_var (pv 3))) (s_cons (s_ret (e_p p_bl))
  s_nil) s_nil)
  s_nil))
  (s_cons (s_ret (e_p p_bl))
  s_nil))
theorem ok_growth_of {k : Nat} (fx : Fx K mg cl) : FnOk P w K mg base (L2.CX P w) (k + 4) fx.f_growth_of fx.d_growth_of P_growth_of (spD ⟨K, cl, bo⟩ [.b] fn_growth_of) := by
  refine def_ok (k := k + 3) (N := N_growth_of) (ms := [.b]) (body := b_growth_of) fx.F_growth_of sc_growth_of rfl fun cdv A outer s H E W hr dw hp => ?_
  exact (s_scp (scp_brw 0) fun bo1 => (fun (dw1 : DXW _ ⟨K, cl, bo1⟩ _) =>
  (s_cons (s_set dw1.dx rfl (by first | exact .inl rfl | exact .inr rfl) (e_make dw1 fx.ec_Meeting fx.mk_Meeting (ok_Meeting___init__ (k := k + 0) fx) hr (by rfl) fx.mc_Meeting fx.b_Meeting___init__ (.fin [.pur (hVar 0)]) (pa_cons (p_var (pv 0)) pa_nil)))
  (s_scp (scp_frz 1) fun bo2 => (fun (dw2 : DXW _ ⟨K, cl, bo2⟩ _) =>
  (s_cons (s_expr (e_methI dw2 fx.ec_Meeting fx.cls_Meeting fx.me_Meeting_meet (ok_Meeting_meet (k := k + 0) fx) hr fx.b_Meeting_meet (pv 1) (.fin [.pur (hOp [.pur (hC (.int 12)), .pur (hC (.int 1))] gAdd)]) (pa_cons (p_binPP op_addA rop_add pure_add (p_gint (by rfl) fx.c_MOST) p_int) pa_nil)))
  (s_cons (s_if (t_cmpPP op_le rop_le pure_le (p_len (hs := [.plc 1 (pAt (pVar 1) ["Meeting"] "markings")]) dw2.dx (by rfl) fx.n_len (pa_cons (l_at (cs := ["Meeting"]) (inC1 ⟨_, fx.ec_Meeting, fx.cls_Meeting, fx.na_Meeting_markings⟩) (p_plc (pv 1))) pa_nil)) (p_gint (by rfl) fx.c_MOST)) (s_cons (s_ret (e_p (p_tup (hs := [.pur (hC (.str "ends")), .pur (hOp [.plc 1 (pAt (pVar 1) ["Meeting"] "markings")] gLen)]) (pa_cons p_str (pa_cons (p_len (hs := [.plc 1 (pAt (pVar 1) ["Meeting"] "markings")]) dw2.dx (by rfl) fx.n_len (pa_cons (l_at (cs := ["Meeting"]) (inC1 ⟨_, fx.ec_Meeting, fx.cls_Meeting, fx.na_Meeting_markings⟩) (p_plc (pv 1))) pa_nil)) pa_nil)))))
  s_nil) s_nil)
  (s_cons (s_for [2, 3, 4, 5] dw2.dx hp (i_enum [.plc 1 (pAt (pVar 1) ["Meeting"] "markings")] dw2.dx (by rfl) fx.n_enumerate (pa_cons (l_at (cs := ["Meeting"]) (inC1 ⟨_, fx.ec_Meeting, fx.cls_Meeting, fx.na_Meeting_markings⟩) (p_plc (pv 1))) pa_nil)) (pg_tup rfl (pgs_cons (pg_name (i := 2) sc_growth_of.nd rfl (by first | exact .inl rfl | exact .inr rfl)) (pgs_cons (pg_name (i := 3) sc_growth_of.nd rfl (by first | exact .inl rfl | exact .inr rfl)) pgs_nil))) (bind_tup rfl (binds_cons bind_name (binds_cons bind_name binds_nil)) (bCons_len (bCons_len bNil_len))) (s_cons (s_set dw2.dx rfl (by first | exact .inl rfl | exact .inr rfl) (e_p (p_rd (l_ix dw2.dx (l_at (cs := ["Meeting"]) (inC1 ⟨_, fx.ec_Meeting, fx.cls_Meeting, fx.na_Meeting_ahead⟩) (p_plc (pv 1))) (p_var (pv 2))))))
  (s_cons (s_while hp (t_p (t_cmpPP op_notN rop_notN pure_notN (p_var (pv 4)) p_non)) (s_drop [5] (s_cons (s_ifE (t_valE (e_call dw2 (ok_is_over (k := k + 2) fx) hr (by rfl) fx.g_is_over fx.F_is_over.kp fx.b_is_over (.fin [.pur (hVar 3), .pur (hRd (pIx (pAt (pVar 1) ["Meeting"] "markings") (hVar 4)))]) (pa_cons (p_var (pv 3)) (pa_cons (p_rd (l_ix dw2.dx (l_at (cs := ["Meeting"]) (inC1 ⟨_, fx.ec_Meeting, fx.cls_Meeting, fx.na_Meeting_markings⟩) (p_plc (pv 1))) (p_var (pv 4)))) pa_nil)))) (s_cons (s_set dw2.dx rfl (by first | exact .inl rfl | exact .inr rfl) (e_p (p_rd (l_ix dw2.dx (l_at (cs := ["Meeting"]) (inC1 ⟨_, fx.ec_Meeting, fx.cls_Meeting, fx.na_Meeting_ways⟩) (p_plc (pv 1))) (p_var (pv 4))))))
  (s_cons (s_ret (e_p (p_tup (hs := [.pur (hC (.str "grows")), .pur (hVar 5), .pur (hOp [.pur (hRd (pIx (pAt (pVar 1) ["Meeting"] "ways") (hVar 2))), .int (hOp [.pur (hVar 5)] gLen)] (slL fSlP))]) (pa_cons p_str (pa_cons (p_var (pv 5)) (pa_cons (p_slL (s1 := .pur (hRd (pIx (pAt (pVar 1) ["Meeting"] "ways") (hVar 2)))) sl_P slP_ok slP_pure (p_rd (l_ix dw2.dx (l_at (cs := ["Meeting"]) (inC1 ⟨_, fx.ec_Meeting, fx.cls_Meeting, fx.na_Meeting_ways⟩) (p_plc (pv 1))) (p_var (pv 2)))) (p_len (hs := [.pur (hVar 5)]) dw2.dx (by rfl) fx.n_len (pa_cons (p_var (pv 5)) pa_nil))) pa_nil))))))
  s_nil)) s_nil)
  (s_cons (s_set dw2.dx rfl (by first | exact .inl rfl | exact .inr rfl) (e_p (p_rd (l_ix dw2.dx (l_at (cs := ["Meeting"]) (inC1 ⟨_, fx.ec_Meeting, fx.cls_Meeting, fx.na_Meeting_ahead⟩) (p_plc (pv 1))) (p_var (pv 4))))))
  s_nil))))
  s_nil)))
  (s_cons (s_ret (e_p (p_tup (hs := [.pur (hC (.str "beyond"))]) (pa_cons p_str pa_nil))))
  s_nil))))) (DXW.scp dw1)))) (DXW.scp dw))
theorem ok_law_cell_at {k : Nat} (fx : Fx K mg cl) : FnOk P w K mg base (L2.CX P w) (k + 1) fx.f_law_cell_at fx.d_law_cell_at P_law_cell_at (spD ⟨K, cl, bo⟩ [.b, .b] fn_law_cell_at) := by
  refine def_ok (k := k + 0) (N := N_law_cell_at) (ms := [.b, .b]) (body := b_law_cell_at) fx.F_law_cell_at sc_law_cell_at rfl fun cdv A outer s H E W hr dw hp => ?_
  exact (s_cons (s_if (t_cmpPP op_ltA rop_lt pure_lt (p_var (pv 1)) (p_len (hs := [.plc 0 (pVar 0)]) dw.dx (by rfl) fx.n_len (pa_cons (p_plc (pv 0)) pa_nil))) (s_cons (s_ret (e_p (p_ixo (s1 := .plc 0 (pVar 0)) (s2 := .pur (hVar 1)) dw.dx (p_plc (pv 0)) (p_var (pv 1)))))
  s_nil) s_nil)
  (s_cons (s_ret (e_p p_int))
  s_nil))
theorem ok_law_mixed {k : Nat} (fx : Fx K mg cl) : FnOk P w K mg base (L2.CX P w) (k + 1) fx.f_law_mixed fx.d_law_mixed P_law_mixed (spD ⟨K, cl, bo⟩ [.b, .b] fn_law_mixed) := by
  refine def_ok (k := k + 0) (N := N_law_mixed) (ms := [.b, .b]) (body := b_law_mixed) fx.F_law_mixed sc_law_mixed rfl fun cdv A outer s H E W hr dw hp => ?_
  exact (s_cons (s_set dw.dx rfl (by first | exact .inl rfl | exact .inr rfl) (e_p (p_binPP op_addA rop_add pure_add (p_binPP op_mod rop_mod pure_mod (p_var (pv 0)) p_int) (p_binPP op_mulD rop_mul pure_mul p_int (p_binPP op_addA rop_add pure_add (p_var (pv 1)) p_int)))))
  (s_cons (s_set dw.dx rfl (by first | exact .inl rfl | exact .inr rfl) (e_p (p_binPP op_mod rop_mod pure_mod (p_binPP op_addA rop_add pure_add (p_binPP op_mulD rop_mul pure_mul (p_var (pv 2)) (p_var (pv 2))) (p_binPP op_mulD rop_mul pure_mul p_int (p_var (pv 1)))) p_int)))
  (s_cons (s_ret (e_p (p_binPP op_mod rop_mod pure_mod (p_binPP op_addA rop_add pure_add (p_binPP op_addA rop_add pure_add (p_binPP op_mulD rop_mul pure_mul (p_var (pv 2)) (p_var (pv 2))) (p_binPP op_mulD rop_mul pure_mul p_int (p_var (pv 1)))) p_int) p_int)))
  s_nil)))
theorem ok_law_names {k : Nat} (fx : Fx K mg cl) : FnOk P w K mg base (L2.CX P w) (k + 2) fx.f_law_names fx.d_law_names P_law_names (spD ⟨K, cl, bo⟩ [.b] fn_law_names) := by
  refine def_ok (k := k + 1) (N := N_law_names) (ms := [.b]) (body := b_law_names) fx.F_law_names sc_law_names rfl fun cdv A outer s H E W hr dw hp => ?_
  exact (s_cons (s_set dw.dx rfl (by first | exact .inl rfl | exact .inr rfl) (e_p p_str))
  (s_cons (s_setLc (own := [("_law_j", 8)]) dw.dx rfl rfl (sw_true rfl rfl rfl (by decide +kernel)) (i_range1 [.pur (hC (.int 8))] (by rfl) fx.n_range (pa_cons p_int pa_nil)) (blkOk_by (N := N_law_names) (sc := (defScope s_law_names)) (by decide +kernel)) bind_name (fun _ _ _ _ _ => (pg_name (i := 8) sc_law_names.nd rfl (by first | exact .inl rfl | exact .inr rfl))) (fun _ _ _ _ _ => ts_nil) (fun _ _ _ _ _ => (e_bin op_mod rop_mod (.own (eK (.fin [.pur (hVar 0), .pur (hVar 8)]) (callK [.b, .b] fn_law_mixed)) (.fin [.pur (hC (.int 26))])) (e_call dw.blk (ok_law_mixed (k := k + 0) fx) hr (by rfl) fx.g_law_mixed fx.F_law_mixed.kp fx.b_law_mixed (.fin [.pur (hVar 0), .pur (hVar 8)]) (pa_cons (p_var (pv 0)) (pa_cons (p_var (pv 8)) pa_nil))) p_int)))
  (s_cons (s_set dw.dx rfl (by first | exact .inl rfl | exact .inr rfl) (e_p (p_binPP op_addA rop_add pure_add p_int (p_binPP op_mod rop_mod pure_mod (p_var (pv 0)) p_int))))
  (s_cons (s_set dw.dx rfl (by first | exact .inl rfl | exact .inr rfl) (e_p (p_binPP op_mod rop_mod pure_mod (p_binPP op_fdivW rop_div pure_div (p_var (pv 0)) p_int) (p_var (pv 3)))))
  (s_cons (s_set dw.dx rfl (by first | exact .inl rfl | exact .inr rfl) (e_lst (.fin []) pa_nil))
  (s_cons (s_for [6, 7] dw.dx hp (i_range1 [.pur (hC (.int 5))] (by rfl) fx.n_range (pa_cons p_int pa_nil)) (pg_name (i := 6) sc_law_names.nd rfl (by first | exact .inl rfl | exact .inr rfl)) bind_name (s_cons (s_set dw.dx rfl (by first | exact .inl rfl | exact .inr rfl) (e_slH (W := W) sl_list (slL_ok (G := ⟨K, cl, bo⟩)) (.fin [.plc 2 (pVar 2), .int (hVar 3)]) (p_plc (pv 2)) (p_var (pv 3))))
  (s_cons (s_setix (.pur (hOp [.pur (hOp [.pur (hRd (pIx (pVar 7) (hVar 4))), .pur (hVar 6)] gAdd), .pur (hC (.int 26))] gMod) (.io 7 (.fin [.pur (hVar 4)]))) (p_binPP op_mod rop_mod pure_mod (p_binPP op_addA rop_add pure_add (p_rd (l_ix dw.dx (p_plc (pv 7)) (p_var (pv 4)))) (p_var (pv 6))) p_int) (pv 7) (p_var (pv 4)))
  (s_cons (s_if (t_cmpPP (op_eqD (hu_eq1 dw.dx)) rop_eq pure_eq (p_binPP op_mod rop_mod pure_mod (p_binPP op_fdivW rop_div pure_div (p_var (pv 0)) p_int) p_int) p_int) (s_cons (s_set dw.dx rfl (by first | exact .inl rfl | exact .inr rfl) (e_slH (W := W) sl_list (slL_ok (G := ⟨K, cl, bo⟩)) (.fin [.plc 2 (pVar 2), .int (hOp [.pur (hVar 6), .pur (hC (.int 1))] gAdd)]) (p_plc (pv 2)) (p_binPP op_addA rop_add pure_add (p_var (pv 6)) p_int)))
  s_nil) s_nil)
  (s_cons (s_expr (e_append dw.dx (pv 5) (.own (eOp (.own (lcE [.plc 7 (pVar 7)] mkSeq (bName 8) eYes (eP (hOp [.pur (hVar 1), .pur (hVar 8)] gIx)) [8]) (.fin [])) (gJoin "")) (.fin [])) (pa_cons (e_join dw.dx (.own (lcE [.plc 7 (pVar 7)] mkSeq (bName 8) eYes (eP (hOp [.pur (hVar 1), .pur (hVar 8)] gIx)) [8]) (.fin [])) (e_lc (own := [("_law_j", 8)]) dw.dx (i_seq (.plc 7 (pVar 7)) dw.dx (p_plc (pv 7))) (blkOk_by (N := N_law_names) (sc := (defScope s_law_names)) (by decide +kernel)) bind_name (fun _ _ _ _ _ => (pg_name (i := 8) sc_law_names.nd rfl (by first | exact .inl rfl | exact .inr rfl))) (fun _ _ _ _ _ => ts_nil) (fun _ _ _ _ _ => (e_p (p_ixo (s1 := .pur (hVar 1)) (s2 := .pur (hVar 8)) dw.blk.dx (p_var (pv 1)) (p_var (pv 8))))))) pa_nil)))
  s_nil)))))
  (s_cons (s_if (t_cmpPL (op_inA dw.dx) rop_in pure_in p_str (p_plc (pv 5))) (s_cons (s_setLc (own := [("_law_name", 9)]) dw.dx rfl rfl (sw_true rfl rfl rfl (by decide +kernel)) (i_seq (.plc 5 (pVar 5)) dw.dx (p_plc (pv 5))) (blkOk_by (N := N_law_names) (sc := (defScope s_law_names)) (by decide +kernel)) bind_name (fun _ _ _ _ _ => (pg_name (i := 9) sc_law_names.nd rfl (by first | exact .inl rfl | exact .inr rfl))) (fun _ _ _ _ _ => ts_nil) (fun _ _ _ _ _ => (e_p (p_binPP op_addA rop_add pure_add p_str (p_var (pv 9))))))
  s_nil) s_nil)
  (s_cons (s_ret (e_sorted dw.dx (by rfl) fx.n_sorted (.fin [.plc 5 (pVar 5)]) (pa_cons (p_plc (pv 5)) pa_nil)))
  s_nil))))))))
theorem ok_law_whole {k : Nat} (fx : Fx K mg cl) : FnOk P w K mg base (L2.CX P w) (k + 1) fx.f_law_whole fx.d_law_whole P_law_whole (spD ⟨K, cl, bo⟩ [.b] fn_law_whole) := by
  refine def_ok (k := k + 0) (N := N_law_whole) (ms := [.b]) (body := b_law_whole) fx.F_law_whole sc_law_whole rfl fun cdv A outer s H E W hr dw hp => ?_
  exact (s_cons (s_ret (e_p (p_and (p_isi (s1 := .pur (hVar 0)) dw.dx (by decide) (by rfl) fx.n_isinstance (by rfl) fx.n_int bt_int (p_var (pv 0))) (p_one (p_not (p_isi (s1 := .pur (hVar 0)) dw.dx (by decide) (by rfl) fx.n_isinstance (by rfl) fx.n_bool bt_bool (p_var (pv 0))))))))
  s_nil)
theorem ok_law_net {k : Nat} (fx : Fx K mg cl) : FnOk P w K mg base (L2.CX P w) (k + 2) fx.f_law_net fx.d_law_net P_law_net (spD ⟨K, cl, bo⟩ [.b, .b, .b] fn_law_net) := by
  refine def_ok (k := k + 1) (N := N_law_net) (ms := [.b, .b, .b]) (body := b_law_net) fx.F_law_net sc_law_net rfl fun cdv A outer s H E W hr dw hp => ?_
  exact (s_cons (s_set dw.dx rfl (by first | exact .inl rfl | exact .inr rfl) (e_lst (.fin []) pa_nil))
  (s_cons (s_for [4, 5, 6, 7] dw.dx hp (i_range1 [.pur (hOp [.pur (hVar 1)] gLen)] (by rfl) fx.n_range (pa_cons (p_len (hs := [.pur (hVar 1)]) dw.dx (by rfl) fx.n_len (pa_cons (p_var (pv 1)) pa_nil)) pa_nil)) (pg_name (i := 4) sc_law_net.nd rfl (by first | exact .inl rfl | exact .inr rfl)) bind_name (s_cons (s_set dw.dx rfl (by first | exact .inl rfl | exact .inr rfl) (e_bin op_addA rop_add (.pur (hC (.int 1)) (.own (eOp (.own (eK (.fin [.plc 0 (pVar 0), .pur (hOp [.pur (hC (.int 6)), .pur (hVar 4)] gAdd)]) (callK [.b, .b] fn_law_cell_at)) (.fin [.pur (hOp [.pur (hC (.int 10)), .pur (hC (.int 50))] gPow)])) gMod) (.fin []))) p_int (e_bin op_mod rop_mod (.own (eK (.fin [.plc 0 (pVar 0), .pur (hOp [.pur (hC (.int 6)), .pur (hVar 4)] gAdd)]) (callK [.b, .b] fn_law_cell_at)) (.fin [.pur (hOp [.pur (hC (.int 10)), .pur (hC (.int 50))] gPow)])) (e_call dw (ok_law_cell_at (k := k + 0) fx) hr (by rfl) fx.g_law_cell_at fx.F_law_cell_at.kp fx.b_law_cell_at (.fin [.plc 0 (pVar 0), .pur (hOp [.pur (hC (.int 6)), .pur (hVar 4)] gAdd)]) (pa_cons (p_plc (pv 0)) (pa_cons (p_binPP op_addA rop_add pure_add p_int (p_var (pv 4))) pa_nil))) (p_binPP op_pow rop_pow pure_pow p_int p_int))))
  (s_cons (s_set dw.dx rfl (by first | exact .inl rfl | exact .inr rfl) (e_tupOf dw.dx (by rfl) fx.n_tuple (.own (lcE [.pur (hOp [.pur (hVar 1)] gLen)] mkRange1 (bName 8) eYes (eP (hOp [.pur (hVar 5), .pur (hOp [.pur (hOp [.pur (hVar 8), .pur (hVar 4)] gEq)] gInt)] gMul)) [8]) (.fin [])) (pa_cons (e_lc (own := [("_law_j", 8)]) dw.dx (i_range1 [.pur (hOp [.pur (hVar 1)] gLen)] (by rfl) fx.n_range (pa_cons (p_len (hs := [.pur (hVar 1)]) dw.dx (by rfl) fx.n_len (pa_cons (p_var (pv 1)) pa_nil)) pa_nil)) (blkOk_by (N := N_law_net) (sc := (defScope s_law_net)) (by decide +kernel)) bind_name (fun _ _ _ _ _ => (pg_name (i := 8) sc_law_net.nd rfl (by first | exact .inl rfl | exact .inr rfl))) (fun _ _ _ _ _ => ts_nil) (fun _ _ _ _ _ => (e_p (p_binPP op_mulD rop_mul pure_mul (p_var (pv 5)) (p_int1 (hs := [.pur (hOp [.pur (hVar 8), .pur (hVar 4)] gEq)]) dw.blk.dx (by rfl) fx.n_int (pa_cons (p_cmpPP (op_eqD (hu_eq1 dw.blk.dx)) rop_eq pure_eq (p_var (pv 8)) (p_var (pv 4))) pa_nil)))))) pa_nil)))
  (s_cons (s_set dw.dx rfl (by first | exact .inl rfl | exact .inr rfl) (e_bin op_addA rop_add (.pur (hOp [.pur (hVar 5), .pur (hRd (pIx (pVar 2) (hVar 4)))] gMul) (.own (eOp (.own (eK (.fin [.plc 0 (pVar 0), .pur (hOp [.pur (hC (.int 10)), .pur (hVar 4)] gAdd)]) (callK [.b, .b] fn_law_cell_at)) (.fin [.pur (hVar 5)])) gMod) (.fin []))) (p_binPP op_mulD rop_mul pure_mul (p_var (pv 5)) (p_rd (l_ix dw.dx (p_plc (pv 2)) (p_var (pv 4))))) (e_bin op_mod rop_mod (.own (eK (.fin [.plc 0 (pVar 0), .pur (hOp [.pur (hC (.int 10)), .pur (hVar 4)] gAdd)]) (callK [.b, .b] fn_law_cell_at)) (.fin [.pur (hVar 5)])) (e_call dw (ok_law_cell_at (k := k + 0) fx) hr (by rfl) fx.g_law_cell_at fx.F_law_cell_at.kp fx.b_law_cell_at (.fin [.plc 0 (pVar 0), .pur (hOp [.pur (hC (.int 10)), .pur (hVar 4)] gAdd)]) (pa_cons (p_plc (pv 0)) (pa_cons (p_binPP op_addA rop_add pure_add p_int (p_var (pv 4))) pa_nil))) (p_var (pv 5)))))
  (s_cons (s_expr (e_append dw.dx (pv 3) (.own (eK (.pur (hVar 7) (.pur (hVar 6) (.own (eOp (.own (lcE [.pur (hOp [.pur (hVar 1)] gLen)] mkRange1 (bName 8) eYes (eP (hC (.int 0))) [8]) (.fin [])) gTupOf) (.fin [])))) (dspK .tup)) (.fin [])) (pa_cons (e_tup (.pur (hVar 7) (.pur (hVar 6) (.own (eOp (.own (lcE [.pur (hOp [.pur (hVar 1)] gLen)] mkRange1 (bName 8) eYes (eP (hC (.int 0))) [8]) (.fin [])) gTupOf) (.fin [])))) (pa_cons (p_var (pv 7)) (pa_cons (p_var (pv 6)) (pa_cons (e_tupOf dw.dx (by rfl) fx.n_tuple (.own (lcE [.pur (hOp [.pur (hVar 1)] gLen)] mkRange1 (bName 8) eYes (eP (hC (.int 0))) [8]) (.fin [])) (pa_cons (e_lc (own := [("_law_j", 8)]) dw.dx (i_range1 [.pur (hOp [.pur (hVar 1)] gLen)] (by rfl) fx.n_range (pa_cons (p_len (hs := [.pur (hVar 1)]) dw.dx (by rfl) fx.n_len (pa_cons (p_var (pv 1)) pa_nil)) pa_nil)) (blkOk_by (N := N_law_net) (sc := (defScope s_law_net)) (by decide +kernel)) bind_name (fun _ _ _ _ _ => (pg_name (i := 8) sc_law_net.nd rfl (by first | exact .inl rfl | exact .inr rfl))) (fun _ _ _ _ _ => ts_nil) (fun _ _ _ _ _ => (e_p p_int))) pa_nil)) pa_nil)))) pa_nil)))
  s_nil)))))
  (s_cons (s_ret (e_tup (.pur (hVar 1) (.own (eMov 3) (.fin []))) (pa_cons (p_var (pv 1)) (pa_cons (e_mov (pv 3)) pa_nil))))
  s_nil)))
theorem ok_law_arc_right {k : Nat} (fx : Fx K mg cl) : FnOk P w K mg base (L2.CX P w) (k + 1) fx.f_law_arc_right fx.d_law_arc_right P_law_arc_right (spD ⟨K, cl, bo⟩ [.b, .b, .b] fn_law_arc_right) := by
  refine def_ok (k := k + 0) (N := N_law_arc_right) (ms := [.b, .b, .b]) (body := b_law_arc_right) fx.F_law_arc_right sc_law_arc_right rfl fun cdv A outer s H E W hr dw hp => ?_
  exact (s_cons (s_if (w_or (t_not (t_val (p_isi (s1 := .pur (hVar 2)) dw.dx (by decide) (by rfl) fx.n_isinstance (by rfl) fx.n_tuple bt_tuple (p_var (pv 2))))) (w_or (t_cmpPP (op_neD (hu_eq1 dw.dx)) rop_ne pure_ne (p_len (hs := [.pur (hVar 2)]) dw.dx (by rfl) fx.n_len (pa_cons (p_var (pv 2)) pa_nil)) p_int) (w_or1 (t_cmpPP (op_notInA dw.dx) rop_notIn pure_notIn (p_rd (l_ix dw.dx (p_plc (pv 2)) p_int)) (p_rd (l_ix dw.dx (p_plc (pv 0)) p_int)))))).pt (s_cons (s_ret (e_p p_bl))
  s_nil) s_nil)
  (s_cons (s_set dw.dx rfl (by first | exact .inl rfl | exact .inr rfl) (e_p (p_tIx (hs := [.pur (hRd (pIx (pVar 2) (hC (.int 1))))]) dw.dx (p_rd (l_ix dw.dx (p_plc (pv 0)) p_int)) (pa_cons (p_rd (l_ix dw.dx (p_plc (pv 2)) p_int)) pa_nil))))
  (s_cons (s_for [4, 5] dw.dx hp (i_range1 [.pur (hOp [.plc 0 (pIx (pVar 0) (hC (.int 1)))] gLen)] (by rfl) fx.n_range (pa_cons (p_len (hs := [.plc 0 (pIx (pVar 0) (hC (.int 1)))]) dw.dx (by rfl) fx.n_len (pa_cons (l_ix dw.dx (p_plc (pv 0)) p_int) pa_nil)) pa_nil)) (pg_name (i := 4) sc_law_arc_right.nd rfl (by first | exact .inl rfl | exact .inr rfl)) bind_name (s_cons (s_set dw.dx rfl (by first | exact .inl rfl | exact .inr rfl) (e_p (p_binPP op_mulD rop_mul pure_mul (p_rd (l_ix dw.dx (l_ix dw.dx (l_ix dw.dx (l_ix dw.dx (p_plc (pv 0)) p_int) (p_var (pv 4))) p_int) (p_var (pv 4)))) (p_int1 (hs := [.pur (hOp [.pur (hVar 4), .pur (hVar 3)] gEq)]) dw.dx (by rfl) fx.n_int (pa_cons (p_cmpPP (op_eqD (hu_eq1 dw.dx)) rop_eq pure_eq (p_var (pv 4)) (p_var (pv 3))) pa_nil)))))
  (s_cons (s_if (w_or (t_cmpPP op_ltA rop_lt pure_lt (p_rd (l_ix dw.dx (l_ix dw.dx (p_plc (pv 1)) (p_rd (l_ix dw.dx (p_plc (pv 2)) p_int))) (p_var (pv 4)))) (p_var (pv 5))) (w_or1 (t_cmpPP (op_neD (hu_eq1 dw.dx)) rop_ne pure_ne (p_rd (l_ix dw.dx (l_ix dw.dx (p_plc (pv 1)) (p_rd (l_ix dw.dx (p_plc (pv 2)) p_int))) (p_var (pv 4)))) (p_binPP op_sub rop_sub pure_sub (p_rd (l_ix dw.dx (l_ix dw.dx (p_plc (pv 1)) (p_rd (l_ix dw.dx (p_plc (pv 2)) p_int))) (p_var (pv 4)))) (p_var (pv 5)))))).pt (s_cons (s_ret (e_p p_bl))
  s_nil) s_nil)
  s_nil)))
  (s_cons (s_ret (e_p p_bl))
  s_nil))))
theorem ok_law_refused {k : Nat} (fx : Fx K mg cl) : FnOk P w K mg base (L2.CX P w) (k + 5) fx.f_law_refused fx.d_law_refused P_law_refused (spD ⟨K, cl, bo⟩ [.b] fn_law_refused) := by
  refine def_ok (k := k + 4) (N := N_law_refused) (ms := [.b]) (body := b_law_refused) fx.F_law_refused sc_law_refused rfl fun cdv A outer s H E W hr dw hp => ?_
  exact (s_cons (s_set dw.dx rfl (by first | exact .inl rfl | exact .inr rfl) (e_p p_bl))
  (s_cons (s_tryO (ks := [0, 1]) (cs := ["TooGreat"]) (ns := []) dw fx.xm_TooGreat (clof_cons fx.xl_TooGreat fx.xq_TooGreat_TooGreat clof_nil) clof_nil (fun W' pn xe dwt hp => (s_cons (s_expr (e_call dwt (ok_run_of (k := k + 0) fx) hr (by rfl) fx.g_run_of fx.F_run_of.kp fx.b_run_of (.fin [.plc 0 (pVar 0)]) (pa_cons (p_plc (pv 0)) pa_nil)))
  s_nil)) (fun a pn => (s_cons (s_set (DXW.suiO dw).dx rfl (by first | exact .inl rfl | exact .inr rfl) (e_p p_bl))
  s_nil)))
  (s_cons (s_ret (e_p (p_var (pv 1))))
  s_nil)))
theorem ok_law {k : Nat} (fx : Fx K mg cl) : FnOk P w K mg base (L2.CX P w) (k + 6) fx.f_law fx.d_law P_law (spD ⟨K, cl, bo⟩ [.b] fn_law) := by
  refine def_ok (k := k + 5) (N := N_law) (ms := [.b]) (body := b_law) fx.F_law sc_law rfl fun cdv A outer s H E W hr dw hp => ?_
  exact (s_cons (s_set dw.dx rfl (by first | exact .inl rfl | exact .inr rfl) (e_bin op_addA rop_add (.pur (hC (.int 1)) (.own (eOp (.own (eK (.fin [.plc 0 (pVar 0), .pur (hC (.int 1))]) (callK [.b, .b] fn_law_cell_at)) (.fin [.pur (hC (.int 4))])) gMod) (.fin []))) p_int (e_bin op_mod rop_mod (.own (eK (.fin [.plc 0 (pVar 0), .pur (hC (.int 1))]) (callK [.b, .b] fn_law_cell_at)) (.fin [.pur (hC (.int 4))])) (e_call dw (ok_law_cell_at (k := k + 4) fx) hr (by rfl) fx.g_law_cell_at fx.F_law_cell_at.kp fx.b_law_cell_at (.fin [.plc 0 (pVar 0), .pur (hC (.int 1))]) (pa_cons (p_plc (pv 0)) (pa_cons p_int pa_nil))) p_int)))
  (s_cons (s_set dw.dx rfl (by first | exact .inl rfl | exact .inr rfl) (e_tupX dw.dx (by rfl) fx.n_tuple (.own (eOp (.own (eK (.own (eK (.fin [.plc 0 (pVar 0), .pur (hC (.int 0))]) (callK [.b, .b] fn_law_cell_at)) (.fin [])) (callK [.b] fn_law_names)) (.fin [.int (hVar 1)])) (slH fSlL)) (.fin [])) (pa_cons (e_slH (W := W) sl_list (slL_ok (G := ⟨K, cl, bo⟩)) (.own (eK (.own (eK (.fin [.plc 0 (pVar 0), .pur (hC (.int 0))]) (callK [.b, .b] fn_law_cell_at)) (.fin [])) (callK [.b] fn_law_names)) (.fin [.int (hVar 1)])) (e_call dw (ok_law_names (k := k + 3) fx) hr (by rfl) fx.g_law_names fx.F_law_names.kp fx.b_law_names (.own (eK (.fin [.plc 0 (pVar 0), .pur (hC (.int 0))]) (callK [.b, .b] fn_law_cell_at)) (.fin [])) (pa_cons (e_call dw (ok_law_cell_at (k := k + 4) fx) hr (by rfl) fx.g_law_cell_at fx.F_law_cell_at.kp fx.b_law_cell_at (.fin [.plc 0 (pVar 0), .pur (hC (.int 0))]) (pa_cons (p_plc (pv 0)) (pa_cons p_int pa_nil))) pa_nil)) (p_var (pv 1))) pa_nil)))
  (s_cons (s_setLc (own := [("_law_k", 13)]) dw.dx rfl rfl (sw_true rfl rfl rfl (by decide +kernel)) (i_range1 [.pur (hVar 1)] (by rfl) fx.n_range (pa_cons (p_var (pv 1)) pa_nil)) (blkOk_by (N := N_law) (sc := (defScope s_law)) (by decide +kernel)) bind_name (fun _ _ _ _ _ => (pg_name (i := 13) sc_law.nd rfl (by first | exact .inl rfl | exact .inr rfl))) (fun _ _ _ _ _ => ts_nil) (fun _ _ _ _ _ => (e_bin op_mod rop_mod (.own (eK (.fin [.plc 0 (pVar 0), .pur (hOp [.pur (hC (.int 2)), .pur (hVar 13)] gAdd)]) (callK [.b, .b] fn_law_cell_at)) (.fin [.pur (hC (.int 5))])) (e_call dw.blk (ok_law_cell_at (k := k + 4) fx) hr (by rfl) fx.g_law_cell_at fx.F_law_cell_at.kp fx.b_law_cell_at (.fin [.plc 0 (pVar 0), .pur (hOp [.pur (hC (.int 2)), .pur (hVar 13)] gAdd)]) (pa_cons (p_plc (pv 0)) (pa_cons (p_binPP op_addA rop_add pure_add p_int (p_var (pv 13))) pa_nil))) p_int)))
  (s_cons (s_set dw.dx rfl (by first | exact .inl rfl | exact .inr rfl) (e_call dw (ok_law_net (k := k + 3) fx) hr (by rfl) fx.g_law_net fx.F_law_net.kp fx.b_law_net (.fin [.plc 0 (pVar 0), .pur (hVar 2), .plc 3 (pVar 3)]) (pa_cons (p_plc (pv 0)) (pa_cons (p_var (pv 2)) (pa_cons (p_plc (pv 3)) pa_nil)))))
  (s_cons (s_set dw.dx rfl (by first | exact .inl rfl | exact .inr rfl) (e_p p_int))
  (s_cons (s_for [6] dw.dx hp (i_seq (.plc 3 (pVar 3)) dw.dx (p_plc (pv 3))) (pg_name (i := 6) sc_law.nd rfl (by first | exact .inl rfl | exact .inr rfl)) bind_name (s_cons (s_set dw.dx rfl (by first | exact .inl rfl | exact .inr rfl) (e_p (p_binPP op_mulD rop_mul pure_mul (p_var (pv 5)) (p_binPP op_addA rop_add pure_add (p_var (pv 6)) p_int))))
  s_nil))
  (s_cons (s_if (t_cmpPP op_gt rop_gt pure_gt (p_var (pv 5)) p_int) (s_cons (s_ret (e_and (e_call dw (ok_law_refused (k := k + 0) fx) hr (by rfl) fx.g_law_refused fx.F_law_refused.kp fx.b_law_refused (.fin [.plc 4 (pVar 4)]) (pa_cons (p_plc (pv 4)) pa_nil)) (p_one (e_cmp (op_eqD (hu_eq1 dw.dx)) rop_eq (.own (eK (.fin [.plc 4 (pVar 4)]) (callK [.b] fn_growth_of)) (.fin [.pur (hOp [.pur (hC (.str "beyond"))] fTup)])) (e_call dw (ok_growth_of (k := k + 1) fx) hr (by rfl) fx.g_growth_of fx.F_growth_of.kp fx.b_growth_of (.fin [.plc 4 (pVar 4)]) (pa_cons (p_plc (pv 4)) pa_nil)) (p_tup (hs := [.pur (hC (.str "beyond"))]) (pa_cons p_str pa_nil))))))
  s_nil) s_nil)
  (s_cons (s_unp [7, 8] dw.dx rfl (pg_tup rfl (pgs_cons (pg_name (i := 7) sc_law.nd rfl (by first | exact .inl rfl | exact .inr rfl)) (pgs_cons (pg_name (i := 8) sc_law.nd rfl (by first | exact .inl rfl | exact .inr rfl)) pgs_nil))) (e_call dw (ok_run_of (k := k + 1) fx) hr (by rfl) fx.g_run_of fx.F_run_of.kp fx.b_run_of (.fin [.plc 4 (pVar 4)]) (pa_cons (p_plc (pv 4)) pa_nil)))
  (s_cons (s_ifE (w_orE (t_cmpE (op_neD (hu_eq1 dw.dx)) rop_ne (.own (eK (.fin [.plc 4 (pVar 4)]) (callK [.b] fn_growth_of)) (.fin [.pur (hOp [.pur (hC (.str "ends")), .pur (hVar 5)] fTup)])) (e_call dw (ok_growth_of (k := k + 1) fx) hr (by rfl) fx.g_growth_of fx.F_growth_of.kp fx.b_growth_of (.fin [.plc 4 (pVar 4)]) (pa_cons (p_plc (pv 4)) pa_nil)) (p_tup (hs := [.pur (hC (.str "ends")), .pur (hVar 5)]) (pa_cons p_str (pa_cons (p_var (pv 5)) pa_nil)))) (w_orE (t_p (t_cmpPP (op_neD (hu_eq1 dw.dx)) rop_ne pure_ne (p_len (hs := [.plc 8 (pVar 8)]) dw.dx (by rfl) fx.n_len (pa_cons (p_plc (pv 8)) pa_nil)) (p_var (pv 5)))) (w_or1 (t_cmpE (op_neD (hu_eq1 dw.dx)) rop_ne (.own (eOp (.fin [.plc 8 (pVar 8)]) gDist) (.fin [.pur (hVar 5)])) (e_dist dw.dx (.fin [.plc 8 (pVar 8)]) (by rfl) fx.n_len (by rfl) fx.n_set (p_plc (pv 8))) (p_var (pv 5)))))).pt (s_cons (s_ret (e_p p_bl))
  s_nil) s_nil)
  (s_cons (s_ifE (w_orE (t_p (t_cmpPP (op_neD (hu_eq1 dw.dx)) rop_ne pure_ne (p_rd (l_ix dw.dx (p_plc (pv 7)) p_int)) (p_var (pv 2)))) (w_orE (t_cmpE (op_neD (hu_eq1 dw.dx)) rop_ne (.plc 7 (pIx (pVar 7) (hC (.int 1))) (.own (eOp (.fin [.plc 7 (pIx (pVar 7) (hC (.int 1)))]) gSorted) (.fin []))) (l_ix dw.dx (p_plc (pv 7)) p_int) (e_sorted dw.dx (by rfl) fx.n_sorted (.fin [.plc 7 (pIx (pVar 7) (hC (.int 1)))]) (pa_cons (l_ix dw.dx (p_plc (pv 7)) p_int) pa_nil))) (w_or1 (t_cmpE (op_neD (hu_eq1 dw.dx)) rop_ne (.own (eOp (.fin [.plc 7 (pIx (pVar 7) (hC (.int 1)))]) gDistM) (.fin [.pur (hOp [.plc 7 (pIx (pVar 7) (hC (.int 1)))] gLen)])) (e_distM dw.dx (.fin [.plc 7 (pIx (pVar 7) (hC (.int 1)))]) (by rfl) fx.n_len (by rfl) fx.n_set (l_ix dw.dx (p_plc (pv 7)) p_int)) (p_len (hs := [.plc 7 (pIx (pVar 7) (hC (.int 1)))]) dw.dx (by rfl) fx.n_len (pa_cons (l_ix dw.dx (p_plc (pv 7)) p_int) pa_nil)))))).pt (s_cons (s_ret (e_p p_bl))
  s_nil) s_nil)
  (s_cons (s_for [9, 10] dw.dx hp (i_seq (.plc 8 (pVar 8)) dw.dx (p_plc (pv 8))) (pg_name (i := 9) sc_law.nd rfl (by first | exact .inl rfl | exact .inr rfl)) bind_name (s_cons (s_for [10] dw.dx hp (i_seq (.pur (hVar 9)) dw.dx (p_var (pv 9))) (pg_name (i := 10) sc_law.nd rfl (by first | exact .inl rfl | exact .inr rfl)) bind_name (s_cons (s_ifE (t_notE (t_valE (e_call dw (ok_law_whole (k := k + 4) fx) hr (by rfl) fx.g_law_whole fx.F_law_whole.kp fx.b_law_whole (.fin [.pur (hVar 10)]) (pa_cons (p_var (pv 10)) pa_nil)))) (s_cons (s_ret (e_p p_bl))
  s_nil) s_nil)
  s_nil))
  s_nil))
  (s_cons (s_for [11] dw.dx hp (i_seq (.plc 7 (pIx (pVar 7) (hC (.int 1)))) dw.dx (l_ix dw.dx (p_plc (pv 7)) p_int)) (pg_name (i := 11) sc_law.nd rfl (by first | exact .inl rfl | exact .inr rfl)) bind_name (s_cons (s_ifE (w_orE (t_notE (t_valE (e_call dw (ok_law_whole (k := k + 4) fx) hr (by rfl) fx.g_law_whole fx.F_law_whole.kp fx.b_law_whole (.fin [.pur (hRd (pIx (pVar 11) (hC (.int 0))))]) (pa_cons (p_rd (l_ix dw.dx (p_plc (pv 11)) p_int)) pa_nil)))) (w_orE (t_p (t_not (t_chI (p := leI) (q := ltI) op_le op_lt p_int (p_rd (l_ix dw.dx (p_plc (pv 11)) p_int)) (p_var (pv 5))))) (w_or1 (t_p (t_not (t_chI (p := leI) (q := ltI) op_le op_lt p_int (p_rd (l_ix dw.dx (p_plc (pv 11)) p_int)) (p_var (pv 5)))))))).pt (s_cons (s_ret (e_p p_bl))
  s_nil) s_nil)
  (s_cons (s_ifE (t_notE (t_valE (e_call dw (ok_law_arc_right (k := k + 4) fx) hr (by rfl) fx.g_law_arc_right fx.F_law_arc_right.kp fx.b_law_arc_right (.fin [.plc 4 (pVar 4), .plc 8 (pVar 8), .pur (hVar 11)]) (pa_cons (p_plc (pv 4)) (pa_cons (p_plc (pv 8)) (pa_cons (p_var (pv 11)) pa_nil)))))) (s_cons (s_ret (e_p p_bl))
  s_nil) s_nil)
  s_nil)))
  (s_cons (s_set dw.dx rfl (by first | exact .inl rfl | exact .inr rfl) (e_p p_int))
  (s_cons (s_for [9] dw.dx hp (i_seq (.plc 8 (pVar 8)) dw.dx (p_plc (pv 8))) (pg_name (i := 9) sc_law.nd rfl (by first | exact .inl rfl | exact .inr rfl)) bind_name (s_cons (s_set dw.dx rfl (by first | exact .inl rfl | exact .inr rfl) (e_bin op_addA rop_add (.pur (hVar 12) (.own (eOp (.own (lcE [.pur (hVar 1)] mkRange1 (bName 13) (eBp (hB (hOp [.pur (hRd (pIx (pVar 9) (hVar 13))), .pur (hRd (pIx (pIx (pIx (pIx (pVar 4) (hC (.int 1))) (hVar 13)) (hC (.int 1))) (hVar 13)))] gGe))) (eP (hVar 13)) [13]) (.fin [])) gLen) (.fin []))) (p_var (pv 12)) (e_len dw.dx (by rfl) fx.n_len (.own (lcE [.pur (hVar 1)] mkRange1 (bName 13) (eBp (hB (hOp [.pur (hRd (pIx (pVar 9) (hVar 13))), .pur (hRd (pIx (pIx (pIx (pIx (pVar 4) (hC (.int 1))) (hVar 13)) (hC (.int 1))) (hVar 13)))] gGe))) (eP (hVar 13)) [13]) (.fin [])) (pa_cons (e_lc (own := [("_law_k", 13)]) dw.dx (i_range1 [.pur (hVar 1)] (by rfl) fx.n_range (pa_cons (p_var (pv 1)) pa_nil)) (blkOk_by (N := N_law) (sc := (defScope s_law)) (by decide +kernel)) bind_name (fun _ _ _ _ _ => (pg_name (i := 13) sc_law.nd rfl (by first | exact .inl rfl | exact .inr rfl))) (fun _ _ _ _ _ => (ts_one (t_p (t_cmpPP op_ge rop_ge pure_ge (p_rd (l_ix dw.blk.dx (p_plc (pv 9)) (p_var (pv 13)))) (p_rd (l_ix dw.blk.dx (l_ix dw.blk.dx (l_ix dw.blk.dx (l_ix dw.blk.dx (p_plc (pv 4)) p_int) (p_var (pv 13))) p_int) (p_var (pv 13)))))))) (fun _ _ _ _ _ => (e_p (p_var (pv 13))))) pa_nil))))
  s_nil))
  (s_cons (s_ret (e_and (e_p (p_cmpPP (op_eqD (hu_eq1 dw.dx)) rop_eq pure_eq (p_var (pv 12)) (p_len (hs := [.plc 7 (pIx (pVar 7) (hC (.int 1)))]) dw.dx (by rfl) fx.n_len (pa_cons (l_ix dw.dx (p_plc (pv 7)) p_int) pa_nil)))) (p_one (e_cmp (op_eqD (hu_eq1 dw.dx)) rop_eq (.pur (hRd (pIx (pVar 8) (hC (.int 0)))) (.own (eOp (.own (lcE [.plc 4 (pIx (pVar 4) (hC (.int 1)))] mkSeq (bTup (bCons (bName 10) (bCons (bName 14) (bCons (bName 15) bNil)))) eYes (eP (hVar 10)) [10, 14, 15]) (.fin [])) gTupOf) (.fin []))) (p_rd (l_ix dw.dx (p_plc (pv 8)) p_int)) (e_tupOf dw.dx (by rfl) fx.n_tuple (.own (lcE [.plc 4 (pIx (pVar 4) (hC (.int 1)))] mkSeq (bTup (bCons (bName 10) (bCons (bName 14) (bCons (bName 15) bNil)))) eYes (eP (hVar 10)) [10, 14, 15]) (.fin [])) (pa_cons (e_lc (own := [("_law_beads", 10), ("_law_takes", 14), ("_law_gives", 15)]) dw.dx (i_seq (.plc 4 (pIx (pVar 4) (hC (.int 1)))) dw.dx (l_ix dw.dx (p_plc (pv 4)) p_int)) (blkOk_by (N := N_law) (sc := (defScope s_law)) (by decide +kernel)) (bind_tup rfl (binds_cons bind_name (binds_cons bind_name (binds_cons bind_name binds_nil))) (bCons_len (bCons_len (bCons_len bNil_len)))) (fun _ _ _ _ _ => (pg_tup rfl (pgs_cons (pg_name (i := 10) sc_law.nd rfl (by first | exact .inl rfl | exact .inr rfl)) (pgs_cons (pg_name (i := 14) sc_law.nd rfl (by first | exact .inl rfl | exact .inr rfl)) (pgs_cons (pg_name (i := 15) sc_law.nd rfl (by first | exact .inl rfl | exact .inr rfl)) pgs_nil))))) (fun _ _ _ _ _ => ts_nil) (fun _ _ _ _ _ => (e_p (p_var (pv 10))))) pa_nil))))))
  s_nil)))))))))))))))
end
set_option maxHeartbeats 0 in
theorem all_mk {l : PySem.W.OpenLaw} {w : World} {K : PySem.W.Frag} {h : Heap} {mg : Str → Option Value} {fa : Addr} (X : K.In h) (G : h.Ns mainGlobals mg) (hfa : mg "law" = some (.ref fa))
    {C_Meeting : Addr} (aC_Meeting : PySem.W.nsIn K mainGlobals "Meeting" = some (some (.ref C_Meeting))) (pg_Meeting : PySem.W.plainGet K C_Meeting Str.empty = true) (hd_Meeting : PySem.W.hasDictIn K C_Meeting = true) (po_Meeting : PySem.W.plainOver K C_Meeting = true) (sa_Meeting : PySem.W.findIn K (.ref C_Meeting) "__setattr__" = some (some (.builtin "object.__setattr__")))
    (nA_Meeting_ahead : PySem.W.findIn K (.ref C_Meeting) "ahead" = some none)
    (nA_Meeting_arcs : PySem.W.findIn K (.ref C_Meeting) "arcs" = some none)
    (nA_Meeting_markings : PySem.W.findIn K (.ref C_Meeting) "markings" = some none)
    (nA_Meeting_net : PySem.W.findIn K (.ref C_Meeting) "net" = some none)
    (nA_Meeting_numbers : PySem.W.findIn K (.ref C_Meeting) "numbers" = some none)
    (nA_Meeting_ways : PySem.W.findIn K (.ref C_Meeting) "ways" = some none)
    (mkc_Meeting : PySem.W.makesIn K C_Meeting = true) (kc_Meeting : PySem.W.keepIn K (.ref C_Meeting) = true)
    {f_first_marking : Addr} {od_first_marking an_first_marking : Option Addr} {sl_first_marking : Array (Option Value)} {oc_first_marking kV_first_marking dc_first_marking pm_first_marking cd_first_marking ct_first_marking : Value}
    (a_first_marking : PySem.W.nsIn K mainGlobals "first_marking" = some (some (.ref f_first_marking)))
    (l_first_marking : K.lookup f_first_marking = some ⟨oc_first_marking, od_first_marking, .func (PySem.W.fnOf "first_marking" "first_marking" (defArgs s_first_marking) (defBody s_first_marking) (defScope s_first_marking) .none kV_first_marking dc_first_marking pm_first_marking an_first_marking cd_first_marking ct_first_marking), sl_first_marking⟩) (c_first_marking : PySem.W.codeIn K cd_first_marking "first_marking" = true) (k_first_marking : PySem.W.keepIn K (.ref f_first_marking) = true)
    {f_can_go : Addr} {od_can_go an_can_go : Option Addr} {sl_can_go : Array (Option Value)} {oc_can_go kV_can_go dc_can_go pm_can_go cd_can_go ct_can_go : Value}
    (a_can_go : PySem.W.nsIn K mainGlobals "can_go" = some (some (.ref f_can_go)))
    (l_can_go : K.lookup f_can_go = some ⟨oc_can_go, od_can_go, .func (PySem.W.fnOf "can_go" "can_go" (defArgs s_can_go) (defBody s_can_go) (defScope s_can_go) .none kV_can_go dc_can_go pm_can_go an_can_go cd_can_go ct_can_go), sl_can_go⟩) (c_can_go : PySem.W.codeIn K cd_can_go "can_go" = true) (k_can_go : PySem.W.keepIn K (.ref f_can_go) = true)
    {f_moved : Addr} {od_moved an_moved : Option Addr} {sl_moved : Array (Option Value)} {oc_moved kV_moved dc_moved pm_moved cd_moved ct_moved : Value}
    (a_moved : PySem.W.nsIn K mainGlobals "moved" = some (some (.ref f_moved)))
    (l_moved : K.lookup f_moved = some ⟨oc_moved, od_moved, .func (PySem.W.fnOf "moved" "moved" (defArgs s_moved) (defBody s_moved) (defScope s_moved) .none kV_moved dc_moved pm_moved an_moved cd_moved ct_moved), sl_moved⟩) (c_moved : PySem.W.codeIn K cd_moved "moved" = true) (k_moved : PySem.W.keepIn K (.ref f_moved) = true)
    {f_Meeting___init__ : Addr} {od_Meeting___init__ an_Meeting___init__ : Option Addr} {sl_Meeting___init__ : Array (Option Value)} {oc_Meeting___init__ kV_Meeting___init__ dc_Meeting___init__ pm_Meeting___init__ cd_Meeting___init__ ct_Meeting___init__ : Value}
    (am_Meeting___init__ : PySem.W.findIn K (.ref C_Meeting) "__init__" = some (some (.ref f_Meeting___init__)))
    (if_Meeting___init__ : PySem.W.isFn K (.ref f_Meeting___init__) = true)
    (l_Meeting___init__ : K.lookup f_Meeting___init__ = some ⟨oc_Meeting___init__, od_Meeting___init__, .func (PySem.W.fnOf "__init__" "Meeting.__init__" (defArgs s_Meeting___init__) (defBody s_Meeting___init__) (defScope s_Meeting___init__) .none kV_Meeting___init__ dc_Meeting___init__ pm_Meeting___init__ an_Meeting___init__ cd_Meeting___init__ ct_Meeting___init__), sl_Meeting___init__⟩) (c_Meeting___init__ : PySem.W.codeIn K cd_Meeting___init__ "Meeting.__init__" = true) (k_Meeting___init__ : PySem.W.keepIn K (.ref f_Meeting___init__) = true)
    {f_Meeting_number_of : Addr} {od_Meeting_number_of an_Meeting_number_of : Option Addr} {sl_Meeting_number_of : Array (Option Value)} {oc_Meeting_number_of kV_Meeting_number_of dc_Meeting_number_of pm_Meeting_number_of cd_Meeting_number_of ct_Meeting_number_of : Value}
    (am_Meeting_number_of : PySem.W.findIn K (.ref C_Meeting) "number_of" = some (some (.ref f_Meeting_number_of)))
    (if_Meeting_number_of : PySem.W.isFn K (.ref f_Meeting_number_of) = true)
    (l_Meeting_number_of : K.lookup f_Meeting_number_of = some ⟨oc_Meeting_number_of, od_Meeting_number_of, .func (PySem.W.fnOf "number_of" "Meeting.number_of" (defArgs s_Meeting_number_of) (defBody s_Meeting_number_of) (defScope s_Meeting_number_of) .none kV_Meeting_number_of dc_Meeting_number_of pm_Meeting_number_of an_Meeting_number_of cd_Meeting_number_of ct_Meeting_number_of), sl_Meeting_number_of⟩) (c_Meeting_number_of : PySem.W.codeIn K cd_Meeting_number_of "Meeting.number_of" = true) (k_Meeting_number_of : PySem.W.keepIn K (.ref f_Meeting_number_of) = true)
    {f_Meeting_meet : Addr} {od_Meeting_meet an_Meeting_meet : Option Addr} {sl_Meeting_meet : Array (Option Value)} {oc_Meeting_meet kV_Meeting_meet dc_Meeting_meet pm_Meeting_meet cd_Meeting_meet ct_Meeting_meet : Value}
    (am_Meeting_meet : PySem.W.findIn K (.ref C_Meeting) "meet" = some (some (.ref f_Meeting_meet)))
    (if_Meeting_meet : PySem.W.isFn K (.ref f_Meeting_meet) = true)
    (l_Meeting_meet : K.lookup f_Meeting_meet = some ⟨oc_Meeting_meet, od_Meeting_meet, .func (PySem.W.fnOf "meet" "Meeting.meet" (defArgs s_Meeting_meet) (defBody s_Meeting_meet) (defScope s_Meeting_meet) .none kV_Meeting_meet dc_Meeting_meet pm_Meeting_meet an_Meeting_meet cd_Meeting_meet ct_Meeting_meet), sl_Meeting_meet⟩) (c_Meeting_meet : PySem.W.codeIn K cd_Meeting_meet "Meeting.meet" = true) (k_Meeting_meet : PySem.W.keepIn K (.ref f_Meeting_meet) = true)
    {f_run_of : Addr} {od_run_of an_run_of : Option Addr} {sl_run_of : Array (Option Value)} {oc_run_of kV_run_of dc_run_of pm_run_of cd_run_of ct_run_of : Value}
    (a_run_of : PySem.W.nsIn K mainGlobals "run_of" = some (some (.ref f_run_of)))
    (l_run_of : K.lookup f_run_of = some ⟨oc_run_of, od_run_of, .func (PySem.W.fnOf "run_of" "run_of" (defArgs s_run_of) (defBody s_run_of) (defScope s_run_of) .none kV_run_of dc_run_of pm_run_of an_run_of cd_run_of ct_run_of), sl_run_of⟩) (c_run_of : PySem.W.codeIn K cd_run_of "run_of" = true) (k_run_of : PySem.W.keepIn K (.ref f_run_of) = true)
    {f_is_over : Addr} {od_is_over an_is_over : Option Addr} {sl_is_over : Array (Option Value)} {oc_is_over kV_is_over dc_is_over pm_is_over cd_is_over ct_is_over : Value}
    (a_is_over : PySem.W.nsIn K mainGlobals "is_over" = some (some (.ref f_is_over)))
    (l_is_over : K.lookup f_is_over = some ⟨oc_is_over, od_is_over, .func (PySem.W.fnOf "is_over" "is_over" (defArgs s_is_over) (defBody s_is_over) (defScope s_is_over) .none kV_is_over dc_is_over pm_is_over an_is_over cd_is_over ct_is_over), sl_is_over⟩) (c_is_over : PySem.W.codeIn K cd_is_over "is_over" = true) (k_is_over : PySem.W.keepIn K (.ref f_is_over) = true)
    {f_growth_of : Addr} {od_growth_of an_growth_of : Option Addr} {sl_growth_of : Array (Option Value)} {oc_growth_of kV_growth_of dc_growth_of pm_growth_of cd_growth_of ct_growth_of : Value}
    (a_growth_of : PySem.W.nsIn K mainGlobals "growth_of" = some (some (.ref f_growth_of)))
    (l_growth_of : K.lookup f_growth_of = some ⟨oc_growth_of, od_growth_of, .func (PySem.W.fnOf "growth_of" "growth_of" (defArgs s_growth_of) (defBody s_growth_of) (defScope s_growth_of) .none kV_growth_of dc_growth_of pm_growth_of an_growth_of cd_growth_of ct_growth_of), sl_growth_of⟩) (c_growth_of : PySem.W.codeIn K cd_growth_of "growth_of" = true) (k_growth_of : PySem.W.keepIn K (.ref f_growth_of) = true)
    {f_law_cell_at : Addr} {od_law_cell_at an_law_cell_at : Option Addr} {sl_law_cell_at : Array (Option Value)} {oc_law_cell_at kV_law_cell_at dc_law_cell_at pm_law_cell_at cd_law_cell_at ct_law_cell_at : Value}
    (a_law_cell_at : PySem.W.nsIn K mainGlobals "_law_cell_at" = some (some (.ref f_law_cell_at)))
    (l_law_cell_at : K.lookup f_law_cell_at = some ⟨oc_law_cell_at, od_law_cell_at, .func (PySem.W.fnOf "_law_cell_at" "_law_cell_at" (defArgs s_law_cell_at) (defBody s_law_cell_at) (defScope s_law_cell_at) .none kV_law_cell_at dc_law_cell_at pm_law_cell_at an_law_cell_at cd_law_cell_at ct_law_cell_at), sl_law_cell_at⟩) (c_law_cell_at : PySem.W.codeIn K cd_law_cell_at "_law_cell_at" = true) (k_law_cell_at : PySem.W.keepIn K (.ref f_law_cell_at) = true)
    {f_law_mixed : Addr} {od_law_mixed an_law_mixed : Option Addr} {sl_law_mixed : Array (Option Value)} {oc_law_mixed kV_law_mixed dc_law_mixed pm_law_mixed cd_law_mixed ct_law_mixed : Value}
    (a_law_mixed : PySem.W.nsIn K mainGlobals "_law_mixed" = some (some (.ref f_law_mixed)))
    (l_law_mixed : K.lookup f_law_mixed = some ⟨oc_law_mixed, od_law_mixed, .func (PySem.W.fnOf "_law_mixed" "_law_mixed" (defArgs s_law_mixed) (defBody s_law_mixed) (defScope s_law_mixed) .none kV_law_mixed dc_law_mixed pm_law_mixed an_law_mixed cd_law_mixed ct_law_mixed), sl_law_mixed⟩) (c_law_mixed : PySem.W.codeIn K cd_law_mixed "_law_mixed" = true) (k_law_mixed : PySem.W.keepIn K (.ref f_law_mixed) = true)
    {f_law_names : Addr} {od_law_names an_law_names : Option Addr} {sl_law_names : Array (Option Value)} {oc_law_names kV_law_names dc_law_names pm_law_names cd_law_names ct_law_names : Value}
    (a_law_names : PySem.W.nsIn K mainGlobals "_law_names" = some (some (.ref f_law_names)))
    (l_law_names : K.lookup f_law_names = some ⟨oc_law_names, od_law_names, .func (PySem.W.fnOf "_law_names" "_law_names" (defArgs s_law_names) (defBody s_law_names) (defScope s_law_names) .none kV_law_names dc_law_names pm_law_names an_law_names cd_law_names ct_law_names), sl_law_names⟩) (c_law_names : PySem.W.codeIn K cd_law_names "_law_names" = true) (k_law_names : PySem.W.keepIn K (.ref f_law_names) = true)
    {f_law_whole : Addr} {od_law_whole an_law_whole : Option Addr} {sl_law_whole : Array (Option Value)} {oc_law_whole kV_law_whole dc_law_whole pm_law_whole cd_law_whole ct_law_whole : Value}
    (a_law_whole : PySem.W.nsIn K mainGlobals "_law_whole" = some (some (.ref f_law_whole)))
    (l_law_whole : K.lookup f_law_whole = some ⟨oc_law_whole, od_law_whole, .func (PySem.W.fnOf "_law_whole" "_law_whole" (defArgs s_law_whole) (defBody s_law_whole) (defScope s_law_whole) .none kV_law_whole dc_law_whole pm_law_whole an_law_whole cd_law_whole ct_law_whole), sl_law_whole⟩) (c_law_whole : PySem.W.codeIn K cd_law_whole "_law_whole" = true) (k_law_whole : PySem.W.keepIn K (.ref f_law_whole) = true)
    {f_law_net : Addr} {od_law_net an_law_net : Option Addr} {sl_law_net : Array (Option Value)} {oc_law_net kV_law_net dc_law_net pm_law_net cd_law_net ct_law_net : Value}
    (a_law_net : PySem.W.nsIn K mainGlobals "_law_net" = some (some (.ref f_law_net)))
    (l_law_net : K.lookup f_law_net = some ⟨oc_law_net, od_law_net, .func (PySem.W.fnOf "_law_net" "_law_net" (defArgs s_law_net) (defBody s_law_net) (defScope s_law_net) .none kV_law_net dc_law_net pm_law_net an_law_net cd_law_net ct_law_net), sl_law_net⟩) (c_law_net : PySem.W.codeIn K cd_law_net "_law_net" = true) (k_law_net : PySem.W.keepIn K (.ref f_law_net) = true)
    {f_law_arc_right : Addr} {od_law_arc_right an_law_arc_right : Option Addr} {sl_law_arc_right : Array (Option Value)} {oc_law_arc_right kV_law_arc_right dc_law_arc_right pm_law_arc_right cd_law_arc_right ct_law_arc_right : Value}
    (a_law_arc_right : PySem.W.nsIn K mainGlobals "_law_arc_right" = some (some (.ref f_law_arc_right)))
    (l_law_arc_right : K.lookup f_law_arc_right = some ⟨oc_law_arc_right, od_law_arc_right, .func (PySem.W.fnOf "_law_arc_right" "_law_arc_right" (defArgs s_law_arc_right) (defBody s_law_arc_right) (defScope s_law_arc_right) .none kV_law_arc_right dc_law_arc_right pm_law_arc_right an_law_arc_right cd_law_arc_right ct_law_arc_right), sl_law_arc_right⟩) (c_law_arc_right : PySem.W.codeIn K cd_law_arc_right "_law_arc_right" = true) (k_law_arc_right : PySem.W.keepIn K (.ref f_law_arc_right) = true)
    {f_law_refused : Addr} {od_law_refused an_law_refused : Option Addr} {sl_law_refused : Array (Option Value)} {oc_law_refused kV_law_refused dc_law_refused pm_law_refused cd_law_refused ct_law_refused : Value}
    (a_law_refused : PySem.W.nsIn K mainGlobals "_law_refused" = some (some (.ref f_law_refused)))
    (l_law_refused : K.lookup f_law_refused = some ⟨oc_law_refused, od_law_refused, .func (PySem.W.fnOf "_law_refused" "_law_refused" (defArgs s_law_refused) (defBody s_law_refused) (defScope s_law_refused) .none kV_law_refused dc_law_refused pm_law_refused an_law_refused cd_law_refused ct_law_refused), sl_law_refused⟩) (c_law_refused : PySem.W.codeIn K cd_law_refused "_law_refused" = true) (k_law_refused : PySem.W.keepIn K (.ref f_law_refused) = true)
    {f_law : Addr} {od_law an_law : Option Addr} {sl_law : Array (Option Value)} {oc_law kV_law dc_law pm_law cd_law ct_law : Value}
    (a_law : PySem.W.nsIn K mainGlobals "law" = some (some (.ref f_law)))
    (l_law : K.lookup f_law = some ⟨oc_law, od_law, .func (PySem.W.fnOf "law" "law" (defArgs s_law) (defBody s_law) (defScope s_law) .none kV_law dc_law pm_law an_law cd_law ct_law), sl_law⟩) (c_law : PySem.W.codeIn K cd_law "law" = true) (k_law : PySem.W.keepIn K (.ref f_law) = true)
    (z_bool : PySem.W.nsIn K mainGlobals "bool" = some none)
    (z_enumerate : PySem.W.nsIn K mainGlobals "enumerate" = some none)
    (z_int : PySem.W.nsIn K mainGlobals "int" = some none)
    (z_isinstance : PySem.W.nsIn K mainGlobals "isinstance" = some none)
    (z_len : PySem.W.nsIn K mainGlobals "len" = some none)
    (z_range : PySem.W.nsIn K mainGlobals "range" = some none)
    (z_set : PySem.W.nsIn K mainGlobals "set" = some none)
    (z_sorted : PySem.W.nsIn K mainGlobals "sorted" = some none)
    (z_tuple : PySem.W.nsIn K mainGlobals "tuple" = some none)
    (z_zip : PySem.W.nsIn K mainGlobals "zip" = some none)
    {x_MOST : Int} {t_MOST : Tok} (v_MOST : PySem.W.nsIn K mainGlobals "MOST" = some (some (.int x_MOST t_MOST))) (q_MOST : x_MOST = 12)
    {X_TooGreat : Addr} (ax_TooGreat : PySem.W.nsIn K mainGlobals "TooGreat" = some (some (.ref X_TooGreat))) (xe_TooGreat : PySem.W.excIn K X_TooGreat [.type "ValueError", .type "Exception", .type "BaseException", .type "object"] "ValueError.__new__" = true) (xk_TooGreat : PySem.W.keepIn K (.ref X_TooGreat) = true) (xb_TooGreat : PySem.W.subIn K (.ref X_TooGreat) (.type "BaseException") = some true) (xt_TooGreat : PySem.W.typeIn K (.ref X_TooGreat) = some (.type "type"))
    (xq_TooGreat_TooGreat : PySem.W.exmOne K (.ref X_TooGreat) (.ref X_TooGreat) = some true)
    : ∃ fd : FuncData, (∀ (s : Shared) (v : Value), BindsTo s fd ⟨[v], []⟩ [("_law_script", v)]) ∧ ∀ base : Heap, K.In base → base.Ns mainGlobals mg → FnOk l.prog w K mg base (L2.CX l.prog w) 6 fa fd P_law (spLaw K fn_law) := by
  have e := hfa.symm.trans (PySem.W.mg_of X G a_law)
  cases e
  have F_first_marking := fun_mk (st := s_first_marking) l_first_marking c_first_marking k_first_marking
  have b_first_marking := F_first_marking.binds (ps := P_first_marking) fun _ _ _ _ _ _ us hl => match us, hl with | [_], _ => rfl
  have F_can_go := fun_mk (st := s_can_go) l_can_go c_can_go k_can_go
  have b_can_go := F_can_go.binds (ps := P_can_go) fun _ _ _ _ _ _ us hl => match us, hl with | [_, _, _], _ => rfl
  have F_moved := fun_mk (st := s_moved) l_moved c_moved k_moved
  have b_moved := F_moved.binds (ps := P_moved) fun _ _ _ _ _ _ us hl => match us, hl with | [_, _, _], _ => rfl
  have F_Meeting___init__ := fun_mk (st := s_Meeting___init__) l_Meeting___init__ c_Meeting___init__ k_Meeting___init__
  have b_Meeting___init__ := F_Meeting___init__.binds (ps := P_Meeting___init__) fun _ _ _ _ _ _ us hl => match us, hl with | [_, _], _ => rfl
  have F_Meeting_number_of := fun_mk (st := s_Meeting_number_of) l_Meeting_number_of c_Meeting_number_of k_Meeting_number_of
  have b_Meeting_number_of := F_Meeting_number_of.binds (ps := P_Meeting_number_of) fun _ _ _ _ _ _ us hl => match us, hl with | [_, _, _, _], _ => rfl
  have F_Meeting_meet := fun_mk (st := s_Meeting_meet) l_Meeting_meet c_Meeting_meet k_Meeting_meet
  have b_Meeting_meet := F_Meeting_meet.binds (ps := P_Meeting_meet) fun _ _ _ _ _ _ us hl => match us, hl with | [_, _], _ => rfl
  have F_run_of := fun_mk (st := s_run_of) l_run_of c_run_of k_run_of
  have b_run_of := F_run_of.binds (ps := P_run_of) fun _ _ _ _ _ _ us hl => match us, hl with | [_], _ => rfl
  have F_is_over := fun_mk (st := s_is_over) l_is_over c_is_over k_is_over
  have b_is_over := F_is_over.binds (ps := P_is_over) fun _ _ _ _ _ _ us hl => match us, hl with | [_, _], _ => rfl
  have F_growth_of := fun_mk (st := s_growth_of) l_growth_of c_growth_of k_growth_of
  have b_growth_of := F_growth_of.binds (ps := P_growth_of) fun _ _ _ _ _ _ us hl => match us, hl with | [_], _ => rfl
  have F_law_cell_at := fun_mk (st := s_law_cell_at) l_law_cell_at c_law_cell_at k_law_cell_at
  have b_law_cell_at := F_law_cell_at.binds (ps := P_law_cell_at) fun _ _ _ _ _ _ us hl => match us, hl with | [_, _], _ => rfl
  have F_law_mixed := fun_mk (st := s_law_mixed) l_law_mixed c_law_mixed k_law_mixed
  have b_law_mixed := F_law_mixed.binds (ps := P_law_mixed) fun _ _ _ _ _ _ us hl => match us, hl with | [_, _], _ => rfl
  have F_law_names := fun_mk (st := s_law_names) l_law_names c_law_names k_law_names
  have b_law_names := F_law_names.binds (ps := P_law_names) fun _ _ _ _ _ _ us hl => match us, hl with | [_], _ => rfl
  have F_law_whole := fun_mk (st := s_law_whole) l_law_whole c_law_whole k_law_whole
  have b_law_whole := F_law_whole.binds (ps := P_law_whole) fun _ _ _ _ _ _ us hl => match us, hl with | [_], _ => rfl
  have F_law_net := fun_mk (st := s_law_net) l_law_net c_law_net k_law_net
  have b_law_net := F_law_net.binds (ps := P_law_net) fun _ _ _ _ _ _ us hl => match us, hl with | [_, _, _], _ => rfl
  have F_law_arc_right := fun_mk (st := s_law_arc_right) l_law_arc_right c_law_arc_right k_law_arc_right
  have b_law_arc_right := F_law_arc_right.binds (ps := P_law_arc_right) fun _ _ _ _ _ _ us hl => match us, hl with | [_, _, _], _ => rfl
  have F_law_refused := fun_mk (st := s_law_refused) l_law_refused c_law_refused k_law_refused
  have b_law_refused := F_law_refused.binds (ps := P_law_refused) fun _ _ _ _ _ _ us hl => match us, hl with | [_], _ => rfl
  have F_law := fun_mk (st := s_law) l_law c_law k_law
  have b_law := F_law.binds (ps := P_law) fun _ _ _ _ _ _ us hl => match us, hl with | [_], _ => rfl
  subst q_MOST
  let fx : Fx K mg (fun c => if c = "Meeting" then some C_Meeting else if c = "TooGreat" then some X_TooGreat else none) := ⟨_, _, F_first_marking, b_first_marking, PySem.W.mg_of X G a_first_marking, _, _, F_can_go, b_can_go, PySem.W.mg_of X G a_can_go, _, _, F_moved, b_moved, PySem.W.mg_of X G a_moved, _, _, F_Meeting___init__, b_Meeting___init__, _, _, F_Meeting_number_of, b_Meeting_number_of, _, _, F_Meeting_meet, b_Meeting_meet, _, _, F_run_of, b_run_of, PySem.W.mg_of X G a_run_of, _, _, F_is_over, b_is_over, PySem.W.mg_of X G a_is_over, _, _, F_growth_of, b_growth_of, PySem.W.mg_of X G a_growth_of, _, _, F_law_cell_at, b_law_cell_at, PySem.W.mg_of X G a_law_cell_at, _, _, F_law_mixed, b_law_mixed, PySem.W.mg_of X G a_law_mixed, _, _, F_law_names, b_law_names, PySem.W.mg_of X G a_law_names, _, _, F_law_whole, b_law_whole, PySem.W.mg_of X G a_law_whole, _, _, F_law_net, b_law_net, PySem.W.mg_of X G a_law_net, _, _, F_law_arc_right, b_law_arc_right, PySem.W.mg_of X G a_law_arc_right, _, _, F_law_refused, b_law_refused, PySem.W.mg_of X G a_law_refused, _, _, F_law, b_law, PySem.W.mg_of X G a_law, C_Meeting, (if_pos rfl), ⟨pg_Meeting, hd_Meeting, po_Meeting, sa_Meeting⟩, nA_Meeting_ahead, nA_Meeting_arcs, nA_Meeting_markings, nA_Meeting_net, nA_Meeting_numbers, nA_Meeting_ways, PySem.W.mg_of X G aC_Meeting, ⟨mkc_Meeting, am_Meeting___init__, if_Meeting___init__, kc_Meeting⟩, ⟨am_Meeting_meet, if_Meeting_meet, k_Meeting_meet⟩, ⟨am_Meeting_number_of, if_Meeting_number_of, k_Meeting_number_of⟩, PySem.W.mg_none_of X G z_bool, PySem.W.mg_none_of X G z_enumerate, PySem.W.mg_none_of X G z_int, PySem.W.mg_none_of X G z_isinstance, PySem.W.mg_none_of X G z_len, PySem.W.mg_none_of X G z_range, PySem.W.mg_none_of X G z_set, PySem.W.mg_none_of X G z_sorted, PySem.W.mg_none_of X G z_tuple, PySem.W.mg_none_of X G z_zip, _, PySem.W.mg_of X G v_MOST, ((if_neg (by decide +kernel)).trans ((if_neg (by decide +kernel)).trans rfl)), X_TooGreat, ((if_neg (by decide +kernel)).trans (if_pos rfl)), PySem.W.mg_of X G ax_TooGreat, xe_TooGreat, xk_TooGreat, xb_TooGreat, xt_TooGreat, xq_TooGreat_TooGreat⟩
  exact ⟨_, fun s v => .of_eq rfl, fun base _ _ => (ok_law (k := 0) fx).imp fun _ _ _ _ h => sp_law h⟩
end
end DL
open PySem PySem.W PyProof.Rows
set_option maxHeartbeats 0 in
theorem PySem.Challenge.cw_netfinder_k21_runs_of_places_apart_holds : PySem.Challenge.rw_netfinder_k21_runs_of_places_apart.Holds := by
  w_on; o_law; k_head; (case hw => w_witness2)
  k_fill
  refine L2.walk_ofB (l := PySem.Challenge.rw_netfinder_k21_runs_of_places_apart) (n := 63) (k := 6) (x := "_law_script") (CX := fun w => L2.CX PySem.Challenge.rw_netfinder_k21_runs_of_places_apart.prog w) (sp := fun w => DL.spLaw _ DL.fn_law) rfl (by decide) rfl ⟨rfl, by decide, by decide⟩ (fun w h Y => PySem.W.kIn_of Y) ?F (fun w H a ns hl hb _ hS => DL.law_sp0 hS (DL.law_true ns hl hb)) ?X
  case F =>
    intro w mg fa h KX G hmg
    refine' DL.all_mk KX G hmg ?aC_Meeting ?pg_Meeting ?hd_Meeting ?po_Meeting ?sa_Meeting ?nA_Meeting_ahead ?nA_Meeting_arcs ?nA_Meeting_markings ?nA_Meeting_net ?nA_Meeting_numbers ?nA_Meeting_ways ?mkc_Meeting ?kc_Meeting ?a_first_marking ?l_first_marking ?c_first_marking ?k_first_marking ?a_can_go ?l_can_go ?c_can_go ?k_can_go ?a_moved ?l_moved ?c_moved ?k_moved ?am_Meeting___init__ ?if_Meeting___init__ ?l_Meeting___init__ ?c_Meeting___init__ ?k_Meeting___init__ ?am_Meeting_number_of ?if_Meeting_number_of ?l_Meeting_number_of ?c_Meeting_number_of ?k_Meeting_number_of ?am_Meeting_meet ?if_Meeting_meet ?l_Meeting_meet ?c_Meeting_meet ?k_Meeting_meet ?a_run_of ?l_run_of ?c_run_of ?k_run_of ?a_is_over ?l_is_over ?c_is_over ?k_is_over ?a_growth_of ?l_growth_of ?c_growth_of ?k_growth_of ?a_law_cell_at ?l_law_cell_at ?c_law_cell_at ?k_law_cell_at ?a_law_mixed ?l_law_mixed ?c_law_mixed ?k_law_mixed ?a_law_names ?l_law_names ?c_law_names ?k_law_names ?a_law_whole ?l_law_whole ?c_law_whole ?k_law_whole ?a_law_net ?l_law_net ?c_law_net ?k_law_net ?a_law_arc_right ?l_law_arc_right ?c_law_arc_right ?k_law_arc_right ?a_law_refused ?l_law_refused ?c_law_refused ?k_law_refused ?a_law ?l_law ?c_law ?k_law ?z_bool ?z_enumerate ?z_int ?z_isinstance ?z_len ?z_range ?z_set ?z_sorted ?z_tuple ?z_zip ?v_MOST ?q_MOST ?ax_TooGreat ?xe_TooGreat ?xk_TooGreat ?xb_TooGreat ?xt_TooGreat ?xq_TooGreat_TooGreat
    (case aC_Meeting => k_is); (case pg_Meeting => k_is); (case hd_Meeting => k_is); (case po_Meeting => k_is); (case sa_Meeting => k_is); (case nA_Meeting_ahead => k_is); (case nA_Meeting_arcs => k_is); (case nA_Meeting_markings => k_is); (case nA_Meeting_net => k_is); (case nA_Meeting_numbers => k_is); (case nA_Meeting_ways => k_is); (case mkc_Meeting => k_is); (case kc_Meeting => k_is); (case a_first_marking => k_is); (case l_first_marking => k_is); (case c_first_marking => k_is); (case k_first_marking => k_is); (case a_can_go => k_is); (case l_can_go => k_is); (case c_can_go => k_is); (case k_can_go => k_is); (case a_moved => k_is); (case l_moved => k_is); (case c_moved => k_is); (case k_moved => k_is); (case am_Meeting___init__ => k_is); (case if_Meeting___init__ => k_is); (case l_Meeting___init__ => k_is); (case c_Meeting___init__ => k_is); (case k_Meeting___init__ => k_is); (case am_Meeting_number_of => k_is); (case if_Meeting_number_of => k_is); (case l_Meeting_number_of => k_is); (case c_Meeting_number_of => k_is); (case k_Meeting_number_of => k_is); (case am_Meeting_meet => k_is); (case if_Meeting_meet => k_is); (case l_Meeting_meet => k_is); (case c_Meeting_meet => k_is); (case k_Meeting_meet => k_is); (case a_run_of => k_is); (case l_run_of => k_is); (case c_run_of => k_is); (case k_run_of => k_is); (case a_is_over => k_is); (case l_is_over => k_is); (case c_is_over => k_is); (case k_is_over => k_is); (case a_growth_of => k_is); (case l_growth_of => k_is); (case c_growth_of => k_is); (case k_growth_of => k_is); (case a_law_cell_at => k_is); (case l_law_cell_at => k_is); (case c_law_cell_at => k_is); (case k_law_cell_at => k_is); (case a_law_mixed => k_is); (case l_law_mixed => k_is); (case c_law_mixed => k_is); (case k_law_mixed => k_is); (case a_law_names => k_is); (case l_law_names => k_is); (case c_law_names => k_is); (case k_law_names => k_is); (case a_law_whole => k_is); (case l_law_whole => k_is); (case c_law_whole => k_is); (case k_law_whole => k_is); (case a_law_net => k_is); (case l_law_net => k_is); (case c_law_net => k_is); (case k_law_net => k_is); (case a_law_arc_right => k_is); (case l_law_arc_right => k_is); (case c_law_arc_right => k_is); (case k_law_arc_right => k_is); (case a_law_refused => k_is); (case l_law_refused => k_is); (case c_law_refused => k_is); (case k_law_refused => k_is); (case a_law => k_is); (case l_law => k_is); (case c_law => k_is); (case k_law => k_is); (case z_bool => k_is); (case z_enumerate => k_is); (case z_int => k_is); (case z_isinstance => k_is); (case z_len => k_is); (case z_range => k_is); (case z_set => k_is); (case z_sorted => k_is); (case z_tuple => k_is); (case z_zip => k_is); (case v_MOST => k_is); (case ax_TooGreat => k_is); (case xe_TooGreat => k_exc); (case xk_TooGreat => k_is); (case xb_TooGreat => k_is); (case xt_TooGreat => k_is); (case xq_TooGreat_TooGreat => first | k_is | rfl | decide +kernel); (case q_MOST => first | rfl | decide +kernel)
  case X =>
    intro w H s e s2 h
    obtain ⟨_, _, _, _, _, _, _, _, _, _, _, _, h⟩ := h
    exact h

