import PyProof.Rows.All
import Wide.All
import OpenK.AllK
import Wide.FinOn
import PyProof.ListRange
import HandS.Base
import HandS.Call
import HandS.List
import HandS.Rev
import HandS.RevTup
import HandS.TupMul
import KE.GoesNew
import KE.GoesMore
import HandS.Iter
import HandS.Zip
import HandS.ForMost
import HandS.Strs
import HandS.Replace
import HandS.Deep
import KE.SortData
import HandS.Conv
import KE.KDictSum
import PyProof.Draws
import PyProof.EnumMake
import HandS.Walk
import HandS.Zip0
import HandS.ForExc
import HandS.Wide
import HandS.TupAny
import HandS.IsInst
import HandS.More
import PyProof.FactsAll.list_3
import HandS.WordsExc
import HandS.TupLe
import HandS.Text
import HandS.Dict
import HandS.WordsDict
import HandS.TupLen
import HandS.SortKw
import KE.DataMinMax
import HandS.Flt
import KE.DataCmp
import PyProof.Rows.SeqMore
import PyProof.StrOps2
import KE.KDictDisplayH
import HandS.SetKeys
import HandS.Exc
import HandS.ExcOwn
import HandS.TryOnly
import HandS.ExcIs
import KE.KIsAll
import HandS.Codes
import HandS.RevRange
import HandS.TupSets
import HandS.Sort
import KE.KDictList
import KE.SortCalls
import HandS.ClsMeth
import KE.KDictZip
import KE.GoesEnum
import HandS.EndBits
import PySem.Challenge.RW_netfinder_k02_no_words
set_option Elab.async false
set_option linter.all false
set_option maxRecDepth 100000
namespace DL
open PySem PySem.Spec PyProof.Rows L2
section
variable {prog : Program} {w : World} {A : Around} {E : Value → Shared → Prop} {s : Shared}
end
section
variable {X : Cx}
end
end DL
set_option maxHeartbeats 4000000
namespace DL
open PySem PySem.Spec PyProof.Rows L2
section
variable {X : Cx}
end
end DL
namespace DL
open PySem PySem.Spec PyProof.Rows L2
def Sq (K : PySem.W.Frag) (k : Bool) (H : Hp) (a : Addr) (xs : List V) : Prop := match k with
  | true => SqL K H a xs
  | false => SqT K H a xs
def SqIt (k : Bool) (h : Heap) (it a : Addr) (i : Nat) : Prop := match k with
  | true => h.IsListIter it a i
  | false => h.IsTupleIter it a i
def SqAt (k : Bool) (h : Heap) (a : Addr) (items : Array Value) : Prop := match k with
  | true => h.IsList a items
  | false => h.IsTuple a items
theorem SqIt.at {k : Bool} {h h' : Heap} {it a : Addr} {i : Nat} (x : SqIt k h it a i) (e : ∀ o, h.get? it = some o → h'.get? it = some o) : SqIt k h' it a i := by
  cases k with
  | true => exact Heap.IsListIter.at x e
  | false => exact Heap.IsTupleIter.at x e
theorem SqIt.obj {k : Bool} {h : Heap} {it a : Addr} {i : Nat} (x : SqIt k h it a i) : ∃ o, h.get? it = some o ∧ ∀ v, o.data ≠ .cell v := by
  cases k with
  | true =>
    obtain ⟨o, e, _, d⟩ := x
    exact ⟨o, e, fun v q => by rw [d] at q; cases q⟩
  | false =>
    obtain ⟨o, e, _, d⟩ := x
    exact ⟨o, e, fun v q => by rw [d] at q; cases q⟩
theorem draws_sq {prog : Program} {w : World} {A : Around} (hh : A.handled = none) (k : Bool) (it l : Addr) (hne : l ≠ it) (items : Array Value) :
    Draws prog w A it [it, l] items.size (fun i v => items[i]? = some v) (fun i h => SqIt k h it l i ∧ SqAt k h l items) := by
  cases k with
  | true => exact Draws.list hh it l hne items
  | false => exact Draws.tuple hh it l hne items
theorem sq_items {X : Cx} {pins : List (Addr × Obj)} {σ : L2.St} {H : Hp} {s : Shared} {k : Bool} {a : Addr} {xs : List V} (I : Inv X pins σ H s) (h : Sq X.K k H a xs) : ∃ its : List Value, Vals xs its ∧ SqAt k s.heap a its.toArray ∧ a < s.heap.objs.size := by
  cases k with
  | true =>
    obtain ⟨its, rv, p, _⟩ := I.list h
    have q := p.isList
    obtain ⟨o, e, _⟩ := id q
    exact ⟨its, rv, q, Heap.lt_size e⟩
  | false =>
    obtain ⟨its, rv, p, _⟩ := I.tuple h
    obtain ⟨o, e, _⟩ := id p
    exact ⟨its, rv, p, Heap.lt_size e⟩
theorem sq_inj {X : Cx} {pins : List (Addr × Obj)} {σ : L2.St} {H : Hp} {s : Shared} {k : Bool} {a : Addr} {xs ys : List V} (I : Inv X pins σ H s) (h : Sq X.K k H a xs) (h2 : Sq X.K k H a ys) : xs = ys := by
  cases k with
  | true => exact I.list_inj h h2
  | false => exact I.tuple_inj h h2
/-- the two as they stand at each turn, the items in new pairs -/
def ItzX (K : PySem.W.Frag) (k1 k2 : Bool) (a b : Addr) : It :=
  ⟨fun i H => ∃ (xs ys : List V) (x y : V), Sq K k1 H a xs ∧ Sq K k2 H b ys ∧ xs[i]? = some x ∧ ys[i]? = some y,
    fun i H v H' => ∃ T x y, v = .ref T ∧ H T = none ∧ H' = upd H T (.tup [x, y]) ∧ (∀ xs, Sq K k1 H a xs → xs[i]? = some x) ∧ ∀ ys, Sq K k2 H b ys → ys[i]? = some y,
    fun i H => ∃ xs ys : List V, Sq K k1 H a xs ∧ Sq K k2 H b ys ∧ i = min xs.length ys.length⟩
theorem turn_zipX {P : Program} {w : World} {K : PySem.W.Frag} {elts : List Expr} {kk : Nat} {tpos : Pos} {k1 k2 : Bool} {a b z TI TO i1 i2 : Addr} (S : ZipSep2 z TI TO i1 i2 [i1, a] [i2, b]) (na : a ≠ i1) (nb : b ≠ i2) :
    Turn P w K (.Tuple elts kk tpos) (ItzX K k1 k2 a b) [z, TI, TO, i1, i2] z (fun i h => IsZip h z TI TO .none ∧ IsTupOf2 h TI (.ref i1) (.ref i2) ∧ (∃ x y, IsTupOf2 h TO x y) ∧ SqIt k1 h i1 a i ∧ SqIt k2 h i2 b i) where
  mem := by simp
  obj := fun i h st c hc => by
    obtain ⟨hz, hTI, ⟨x, y, hTO⟩, t1, t2⟩ := st
    have e' : c = z ∨ c = TI ∨ c = TO ∨ c = i1 ∨ c = i2 := by simpa using hc
    rcases e' with q | q | q | q | q
    · subst q; exact ⟨_, hz, fun v q => nomatch q⟩
    · subst q; exact ⟨_, hTI, fun v q => nomatch q⟩
    · subst q; exact ⟨_, hTO, fun v q => nomatch q⟩
    · subst q; exact t1.obj
    · subst q; exact t2.obj
  keep := fun i h h' st k => by
    obtain ⟨hz, hTI, ⟨x, y, hTO⟩, t1, t2⟩ := st
    exact ⟨k z (by simp) _ hz, k TI (by simp) _ hTI, ⟨x, y, k TO (by simp) _ hTO⟩, t1.at fun o q => k i1 (by simp) o q, t2.at fun o q => k i2 (by simp) o q⟩
  item := by
    intro X hP hw hK hc i ps sh sg H E inv hf st hg
    subst hP hw hK
    obtain ⟨hz, hTI, hTO, t1, t2⟩ := st
    obtain ⟨xs, ys, x, y, hqx, hqy, hx, hy⟩ := hg
    obtain ⟨its, rv, p, la⟩ := sq_items inv hqx
    obtain ⟨its2, rv2, p2, lb⟩ := sq_items inv hqy
    obtain ⟨u, hu, ru⟩ := rv.get hx
    obtain ⟨u2, hu2, ru2⟩ := rv2.get hy
    have W := GoesN.zip2 (A := X.A) (elts := elts) (x1 := kk) (pos := tpos) S (draws_sq (prog := X.prog) (w := X.w) (A := X.A.in1) (inv.ok.hd hc) k1 i1 a na its.toArray) (draws_sq (prog := X.prog) (w := X.w) (A := X.A.in1) (inv.ok.hd hc) k2 i2 b nb its2.toArray)
    have hi : i < min its.toArray.size its2.toArray.size := by
      have h1 := (List.getElem?_eq_some_iff.mp hu).1
      have h2 := (List.getElem?_eq_some_iff.mp hu2).1
      rw [List.size_toArray, List.size_toArray]
      omega
    have hin : ∀ c, c ∈ [z, TI, TO, i1, i2] → ∃ o, sh.heap.get? c = some o := fun c hcm => by
      have e' : c = z ∨ c = TI ∨ c = TO ∨ c = i1 ∨ c = i2 := by simpa using hcm
      obtain ⟨x0, y0, hTO0⟩ := hTO
      rcases e' with q | q | q | q | q
      · subst q; exact ⟨_, hz⟩
      · subst q; exact ⟨_, hTI⟩
      · subst q; exact ⟨_, hTO0⟩
      · subst q; exact ⟨_, t1.obj.choose_spec.1⟩
      · subst q; exact ⟨_, t2.obj.choose_spec.1⟩
    refine W.goes i sh (fun v s2 => ∃ x H', Inv X ps sg H' s2 ∧ RelV x v ∧ (ItzX X.K k1 k2 a b).yld i H x H' ∧ (IsZip s2.heap z TI TO .none ∧ IsTupOf2 s2.heap TI (.ref i1) (.ref i2) ∧ (∃ x y, IsTupOf2 s2.heap TO x y) ∧ SqIt k1 s2.heap i1 a (i + 1) ∧ SqIt k2 s2.heap i2 b (i + 1)) ∧ ∀ c ∈ [z, TI, TO, i1, i2], H' c = none) E hi ⟨hz, hTI, hTO, ⟨t1, p⟩, t2, p2⟩ fun v h2 tk hY hst hk _ => ?_
    obtain ⟨T, w1, w2, rfl, hT, g1, g2, hIs⟩ := hY
    obtain ⟨hz', hTI', hTO', ⟨t1', _⟩, t2', _⟩ := hst
    have e1 : w1 = u := by
      have : its[i]? = some w1 := by simpa using g1
      rw [hu] at this
      exact (Option.some.inj this).symm
    have e2 : w2 = u2 := by
      have : its2[i]? = some w2 := by simpa using g2
      rw [hu2] at this
      exact (Option.some.inj this).symm
    subst e1 e2
    have new : ObjOk X.prog X.w (upd H T (.tup [x, y])) h2 T (.tup [x, y]) := ⟨by show 2 ≤ sizeLine; decide, [w1, w2], .cons ru (.cons ru2 .nil), hIs⟩
    have inv2 : Inv X ps sg (upd H T (.tup [x, y])) { sh with heap := h2, toks := tk } := inv.turnedNew (t' := tk) (ch := [z, TI, TO, i1, i2]) (fun c o hb q => hk c o (fun m => hb (by
      have m' : c = z ∨ c = TO ∨ c = i1 ∨ c = i2 := by simpa using m
      rcases m' with m | m | m | m <;> simp [m])) q) hf hT new
    refine ⟨.ref T, _, inv2, rfl, ⟨T, x, y, rfl, inv.hok.fresh hT, rfl, fun l hl => by rw [sq_inj inv hl hqx]; exact hx, fun l hl => by rw [sq_inj inv hl hqy]; exact hy⟩, ⟨hz', hTI', hTO', t1', t2'⟩, fun c hcm => ?_⟩
    obtain ⟨o, eo⟩ := hin c hcm
    rw [upd_ne (Nat.ne_of_lt (Nat.lt_of_lt_of_le (Heap.lt_size eo) hT))]
    exact (hf c hcm).1
  done := by
    intro X hP hw hK hc i ps sh sg H E inv hf st hg
    subst hP hw hK
    obtain ⟨hz, hTI, hTO, t1, t2⟩ := st
    obtain ⟨xs, ys, hqx, hqy, hend⟩ := hg
    obtain ⟨its, rv, p, la⟩ := sq_items inv hqx
    obtain ⟨its2, rv2, p2, lb⟩ := sq_items inv hqy
    have W := GoesN.zip2 (A := X.A) (elts := elts) (x1 := kk) (pos := tpos) S (draws_sq (prog := X.prog) (w := X.w) (A := X.A.in1) (inv.ok.hd hc) k1 i1 a na its.toArray) (draws_sq (prog := X.prog) (w := X.w) (A := X.A.in1) (inv.ok.hd hc) k2 i2 b nb its2.toArray)
    have en : min its.toArray.size its2.toArray.size = i := by
      rw [List.size_toArray, List.size_toArray, ← rv.length, ← rv2.length, hend]
    refine W.stops sh (fun s2 => Inv X ps sg H s2) E (by rw [en]; exact ⟨hz, hTI, hTO, ⟨t1, p⟩, t2, p2⟩) fun h2 tk hk _ => ?_
    exact inv.turnedL (t' := tk) (ch := [z, TI, TO, i1, i2]) (fun c o hb q => hk c o (fun m => hb (by
      have m' : c = z ∨ c = TO ∨ c = i1 ∨ c = i2 := by simpa using m
      rcases m' with m | m | m | m <;> simp [m])) q) hf
  self := fun A i s Q E st h => wpAny_pyIter_zip st.1 h

theorem begins_sq {k : Bool} {h : Heap} {a : Addr} {items : Array Value} : ∃ o : Obj, Begins (.ref a) o (fun h => SqAt k h a items) ∧ ∀ (h : Heap) (it : Addr), h.get? it = some o → SqIt k h it a 0 := by
  cases k with
  | true => exact ⟨_, begins_list a items, fun h it e => ⟨_, e, rfl, rfl⟩⟩
  | false => exact ⟨_, begins_tuple a items, fun h it e => ⟨_, e, rfl, rfl⟩⟩
def rZipX (K : PySem.W.Frag) : List V → Hp → (It → Hp → Prop) → Prop := fun vs H1 R => ∃ a b xs ys k1 k2, vs = [.ref a, .ref b] ∧ Sq K k1 H1 a xs ∧ Sq K k2 H1 b ys ∧ R (ItzX K k1 k2 a b) H1
theorem pi_zipX {X : Cx} {e e2 : Expr} {ta : TA} {p pos tpos : Pos} {elts : List Expr} {kk : Nat} (hg : Gl X "zip") (hm : X.mg "zip" = none) (ha : PA X [e, e2] ta)
    (hs : starEach [e, e2] X.env = (false, eval e X.env) :: starEach [e2] X.env := by rfl) (hpl : (backTo pos (starEach [e2] X.env)).any (·.1) = false := by rfl) :
    PI X (.Tuple elts kk tpos) (.Call (.Name "zip" p) [e, e2] [] pos) (fun σ H R => ta σ H fun vs H1 => rZipX X.K vs H1 R) := by
  refine ⟨fun ps sh sg H R inv h => ?_⟩
  refine Call_ (ld_blt inv hg hm PyProof.Rows.boot_zip (PyProof.Rows.callWith_type1 (thn (ha.run pos ps sh sg H _ inv h) fun us s1 ⟨vs, H1, I1, r1, q1⟩ => ?_) hs hpl))
  obtain ⟨a, b, xs, ys, k1, k2, ex, hqx, hqy, q⟩ := q1
  subst ex
  cases r1 with
  | cons r rr =>
    cases rr with
    | cons r' rr =>
      cases rr
      cases r
      cases r'
      obtain ⟨its, rv, p1, la⟩ := sq_items I1 hqx
      obtain ⟨its2, rv2, p2, lb⟩ := sq_items I1 hqy
      obtain ⟨o1, B1, j1⟩ := begins_sq (k := k1) (h := s1.heap) (a := a) (items := its.toArray)
      obtain ⟨o2, B2, j2⟩ := begins_sq (k := k2) (h := s1.heap) (a := b) (items := its2.toArray)
      have fresh5 : ∀ c, c ∈ [s1.heap.objs.size + 4, s1.heap.objs.size + 2, s1.heap.objs.size + 3, s1.heap.objs.size, s1.heap.objs.size + 1] → FpOk X ps H1 c := fun c hcm => by
        have hle : s1.heap.objs.size ≤ c := by
          simp only [List.mem_cons, List.not_mem_nil, or_false] at hcm
          rcases hcm with z | z | z | z | z <;> rw [z]
          · exact Nat.le_add_right _ _
          · exact Nat.le_add_right _ _
          · exact Nat.le_add_right _ _
          · exact Nat.le_refl _
          · exact Nat.le_add_right _ _
        exact I1.fpOk hle (I1.hok.fresh hle)
      refine zip_begins2 B1 B2 p1 p2 fun h2 hz hTI hTO g1 g2 hsz hk => wpAny_pyIter_zip hz ?_
      have I2 : Inv X ps sg H1 { s1 with heap := h2 } := I1.kept (t' := s1.toks) hk
      refine ⟨s1.heap.objs.size + 4, [s1.heap.objs.size + 4, s1.heap.objs.size + 2, s1.heap.objs.size + 3, s1.heap.objs.size, s1.heap.objs.size + 1], _, _, H1, rfl, I2, turn_zipX (k1 := k1) (k2 := k2) (zip_sep2 (N := s1.heap.objs.size) (fp1 := [a]) (fp2 := [b]) (fun c m => by rw [List.mem_singleton.mp m]; exact la) (fun c m => by rw [List.mem_singleton.mp m]; exact lb)) (Nat.ne_of_lt la) (Nat.ne_of_lt (Nat.lt_succ_of_lt lb)), ⟨hz, hTI, ⟨_, _, hTO⟩, j1 _ _ g1, j2 _ _ g2⟩, fresh5, q⟩
end DL
set_option maxHeartbeats 4000000
namespace DL
open PySem PySem.Spec PyProof.Rows L2
/-- a tuple known to be of the plain kind -/
def PlT (H : Hp) (p : Addr) (ys : List V) : Prop := ∃ o : Obj, o.dict = none ∧ H p = some (.frz o (.tup ys))
section
variable {X : Cx}
theorem PlT.is {pins : List (Addr × Obj)} {σ : L2.St} {H : Hp} {s : Shared} {p : Addr} {ys : List V} (I : Inv X pins σ H s) (h : PlT H p ys) : s.TypeIs (.ref p) "tuple" ∧ ∃ ob, s.heap.get? p = some ob ∧ ob.dict = none := by
  obtain ⟨o, hd, e⟩ := h
  obtain ⟨h1, h2⟩ := (show ObjOk X.prog X.w H s.heap p (.frz o (.tup ys)) from I.hok p _ e)
  obtain ⟨_, its, _, o2, e2, hc, _⟩ := h2
  rw [h1] at e2
  cases e2
  exact ⟨⟨o, h1, hc⟩, o, h1, hd⟩
/-- what a method is asked of -/
def tyW (K : PySem.W.Frag) (T : String) (x : V) (H : Hp) : Prop := tyV K T x H ∨ (T = "tuple" ∧ ∃ p ys, x = .ref p ∧ PlT H p ys)
theorem tyW_is {pins : List (Addr × Obj)} {σ : L2.St} {H : Hp} {s : Shared} {T : String} {x : V} {v : Value} (I : Inv X pins σ H s) (r : RelV x v) (ty : tyW X.K T x H) :
    s.TypeIs v T ∧ ∀ a, v = .ref a → ∃ ob, s.heap.get? a = some ob ∧ ob.dict = none := by
  rcases ty with ty | ⟨rfl, p, ys, rfl, h⟩
  · exact tyV_is I r ty
  · cases r
    obtain ⟨h1, h2⟩ := h.is I
    exact ⟨h1, fun a e => by cases e; exact h2⟩
variable {o e : Expr} {es : List Expr} {to : TE} {t : TA} {name : Str} {apos cpos : Pos} {T id : String} {r : V → List V → Hp → VK → Prop}
def tBW (K : PySem.W.Frag) (T : String) (r : V → List V → Hp → VK → Prop) (to : TE) (t : TA) : TE := fun σ H Q => to σ H fun x H1 => tyW K T x H1 ∧ t σ H1 fun xs H2 => r x xs H2 Q
theorem pe_bw (pa : PlainAttrs T) (slot : PySem.Slot T name id) (hty : typeOf (.builtin id) = pure (.type "method_descriptor")) (hm : MtR X id r) (ho : PE X o to) (ha : PA X (e :: es) t)
    (hbase : attributeBase o name X.env (eval o X.env) = eval o X.env := by rfl)
    (hfew : ((backTo cpos (starEach (e :: es) X.env)).all (fun x => !x.1) && (backToKw cpos (keywordEach [] X.env)).all (fun x => x.1.isSome)
      && decide ((e :: es).length + ([] : List Keyword).length + (if ([] : List Keyword).isEmpty then 0 else 1) < 30)) = true := by rfl)
    (hline : (apos.endLine == cpos.line) = true := by rfl) (hs : starEach (e :: es) X.env = (false, eval e X.env) :: starEach es X.env := by rfl) (hplain : (backTo cpos (starEach es X.env)).any (·.1) = false := by rfl) :
    PE X (.Call (.Attribute o name apos) (e :: es) [] cpos) (tBW X.K T r to t) := by
  refine ⟨fun pins s σ H Q I h => ?_⟩
  refine wpAny_Call_method_late hbase hfew hline rfl (thn (ho.run pins s σ H _ I h) fun v s1 ⟨x, H1, I1, r1, ty, q1⟩ => ?_)
  obtain ⟨h1, h2⟩ := tyW_is I1 r1 ty
  refine ⟨T, id, pa, slot, hty, h1, h2, ?_⟩
  have hA := ha.run cpos pins s1 σ H1 _ I1 q1
  rw [hs] at hA ⊢
  refine Calls.callWith_builtin (by show (false || (backTo cpos (starEach es X.env)).any (·.1)) = false; rw [hplain] <;> rfl) (Calls.evalArgs_plain ?_)
  exact thn hA fun us s2 ⟨vs, H2, I2, r2, q2⟩ => hm pins s2 σ H2 x vs v us Q I2 r1 r2 q2
/-- sorted(xs), by what the items read as -/
def rSortD (K : PySem.W.Frag) : List V → Hp → VK → Prop := fun xs H Q => ∃ (β : Type) (enc : β → PyData) (p : Addr) (bs : List (V × β)), xs = [.ref p] ∧ SqL K H p (bs.map (·.1)) ∧ (∀ b ∈ bs, Dp K H b.1 (enc b.2)) ∧
  PySem.W.AllAlike (bs.map fun b => enc b.2) ∧ PySem.W.Sortable (bs.map fun b => enc b.2) ∧ (∀ b ∈ bs, (enc b.2).depth ≤ 60) ∧
  ∀ l, H l = none → Q (.ref l) (upd H l (.lst ((bs.mergeSort (PySem.W.dataLe false fun b => enc b.2)).map (·.1))))
theorem each_of {β : Type} {P : Value → V × β → Prop} : ∀ {bs : List (V × β)} {its : List Value}, Vals (bs.map (·.1)) its → (∀ b v, b ∈ bs → RelV b.1 v → P v b) → PySem.W.EachIs P its bs
  | [], _, .nil, _ => .nil
  | b :: bs, _, .cons r t, h => .cons (h b _ List.mem_cons_self r) (each_of t fun b v m => h b v (List.mem_cons_of_mem _ m))
theorem vals_of_each {β : Type} : ∀ {bs : List (V × β)} {its : List Value}, PySem.W.EachIs (fun v b => RelV b.1 v) its bs → Vals (bs.map (·.1)) its
  | [], _, .nil => .nil
  | b :: bs, _, .cons r t => .cons r (vals_of_each t)
theorem cr_sortD (hu : X.A.units + 64 < cLine) : CallR X (.builtin "sorted") (rSortD X.K) := by
  intro pins s σ H xs us Q I r h
  obtain ⟨β, enc, p, bs, rfl, hq, hd, ha, hs, hdep, q⟩ := h
  obtain ⟨u, rfl, rx⟩ := vals1 r
  cases rx
  obtain ⟨its, r', pl, hz⟩ := I.list hq
  have hlen := r'.length
  rw [List.length_map] at hlen hz
  refine PySem.W.sorted_data (vs := its) (bs := bs) (enc := fun b => enc b.2) (R := fun v b => RelV b.1 v) pl.isList (each_of r' fun b v m r => r) (each_of r' fun b v m r => Dp.reads I _ _ _ (hd b m) r) ha hs hz (fun b m => ?_) fun out ho eo => ?_
  · have := hdep b m
    omega
  · obtain ⟨c, hc⟩ := sortedAll_at s.heap its out.toArray
    have hv := vals_of_each eo
    refine ⟨.ref (s.heap.objs.size + 1), _, I.laid (t' := s.toks) (o := .lst ((bs.mergeSort (PySem.W.dataLe false fun b => enc b.2)).map (·.1))) (fun b o e => sortedAll_old e) (Nat.le_succ _) ?_, rfl, q _ (I.hok.fresh (Nat.le_succ _))⟩
    refine ⟨?_, out, c, hv, hc⟩
    rw [List.length_map, List.length_mergeSort]
    exact hz
end
end DL
set_option maxHeartbeats 4000000
namespace DL
open PySem PySem.Spec PyProof.Rows L2
section
variable {X : Cx}
end
end DL
set_option maxHeartbeats 4000000
namespace DL
open PySem PySem.Spec PyProof.Rows L2
open PySem.Sem (wp)
open AutoSeq1 (wpAny_loadPart')
section
variable {prog : Program} {w : World} {A : Around} {E : Value → Shared → Prop} {s : Shared}
end
end DL
namespace DL
open PySem PySem.Spec PyProof.Rows L2
inductive D where
  | non
  | bl (b : Bool)
  | int (i : Int)
  | str (s : Str)
  /-- the script -/
  | scr (ns : List Int)
  /-- a tuple; true: it is known to be one of the plain kind -/
  | tupF (f : Bool) (xs : List D)
  | lst (xs : List D)
  | dk (ks : List Key) (vs : List D)
  | dt (ks : List (List Key)) (vs : List D)
  | obj (c : Str) (fs : List Str) (vs : List D)
  /-- an instance whose own node stands in the borrowed heap -/
  | fob (c : Str) (fs : List Str) (vs : List D)
  /-- a caught refusal of an own class -/
  | exn (c : Str)
  /-- what is read in the borrowed heap -/
  | bor (d : D)
  /-- a function, as a value: its address stands in the table of classes -/
  | fn (c : Str)

abbrev D.tup (xs : List D) : D := .tupF false xs

mutual
def D.pure : D → Bool
  | .non => true
  | .bl _ => true
  | .int _ => true
  | .str _ => true
  | .scr _ => false
  | .tupF _ xs => D.pureL xs
  | .lst _ => false
  | .dk _ _ => false
  | .dt _ _ => false
  | .obj _ _ _ => false
  | .fob _ _ _ => false
  | .exn _ => false
  | .fn _ => true
  | .bor _ => true
def D.pureL : List D → Bool
  | [] => true
  | d :: r => d.pure && D.pureL r
end
/-- what an operation ends in: a value, a refusal of an own class, or nothing that is known -/
inductive Out (α : Type) where
  | ok (a : α)
  | exc (c : Str)
  | bad
def Out.bind {α β : Type} (x : Out α) (f : α → Out β) : Out β := match x with
  | .ok a => f a
  | .exc c => .exc c
  | .bad => .bad
instance : Monad Out where
  pure := Out.ok
  bind := Out.bind
@[simp] theorem Out.bind_ok {α β : Type} (a : α) (f : α → Out β) : (Out.ok a >>= f) = f a := rfl
@[simp] theorem Out.bind_exc {α β : Type} (c : Str) (f : α → Out β) : (Out.exc c >>= f) = Out.exc c := rfl
@[simp] theorem Out.bind_bad {α β : Type} (f : α → Out β) : ((Out.bad : Out α) >>= f) = Out.bad := rfl
@[simp] theorem Out.pure_eq {α : Type} (a : α) : (Pure.pure a : Out α) = Out.ok a := rfl
/-- what is never written -/
def Still (u : HO) : Prop := ¬ Mut (some u)
theorem still_tup {vs : List V} : Still (.tup vs) := id
theorem still_frz {o : Obj} {u : HO} : Still (.frz o u) := id
def TupAt (H : Hp) (f : Bool) (a : Addr) (vs : List V) : Prop := match f with
  | false => H a = some (.tup vs)
  | true => ∃ o : Obj, o.dict = none ∧ H a = some (.frz o (.tup vs))
theorem TupAt.keep {H H' : Hp} {f : Bool} {a : Addr} {vs : List V} (k : ∀ b u, H b = some u → Still u → H' b = some u) (h : TupAt H f a vs) : TupAt H' f a vs := by
  cases f with
  | false => exact k _ _ h still_tup
  | true =>
    obtain ⟨o, e, h⟩ := h
    exact ⟨o, e, k _ _ h still_frz⟩
theorem TupAt.seq {K : PySem.W.Frag} {H : Hp} {f : Bool} {a : Addr} {vs : List V} (h : TupAt H f a vs) : SqT K H a vs := by
  cases f with
  | false => exact SqT.of h
  | true =>
    obtain ⟨o, e, h⟩ := h
    exact .inl (.inr ⟨o, h⟩)
structure Gc where
  K : PySem.W.Frag
  cl : Str → Option Addr
  /-- the borrowed heap: it stands while this lasts -/
  bo : Hp
/-- where the table of classes keeps the caught refusal's address -/
def exName : Str := Str.ofString "?caught"
/-- the object o at a: frozen (in Z), or owned -/
def Nod (Z H : Hp) (o : HO) (a : Addr) (F F' : List Addr) : Prop := (Z a = some o ∧ F = [] ∧ F' = []) ∨ (F = a :: F' ∧ H a = some o)
theorem Same.rd {Z Z' : Hp} {a : Addr} {u : HO} (hz : Same Z Z') (h : Rd Z a u) : Rd Z' a u := h.imp (fun e => hz _ _ e) fun ⟨o, e⟩ => ⟨o, hz _ _ e⟩
def NodL (Z H : Hp) (vs : List V) (a : Addr) (F F' : List Addr) : Prop := (Rd Z a (.lst vs) ∧ F = [] ∧ F' = []) ∨ (F = a :: F' ∧ H a = some (.lst vs))

mutual
/-- the data d stand in H at v; the nodes that may be written are those at F, each once; all others that can be written stand in Z -/
def Own (G : Gc) : Hp → Hp → D → V → List Addr → Prop
  | _, _, .non, v, F => v = .non ∧ F = []
  | _, _, .bl b, v, F => v = .bl b ∧ F = []
  | _, _, .int i, v, F => v = .int i ∧ F = []
  | _, _, .str s, v, F => v = .str s ∧ F = []
  | Z, _, .scr ns, v, F => F = [] ∧ ∃ a, v = .ref a ∧ SqL G.K Z a (ns.map V.int)
  | Z, H, .tupF f ds, v, F => ∃ a vs, v = .ref a ∧ TupAt H f a vs ∧ OwnL G Z H ds vs F
  | Z, H, .lst ds, v, F => ∃ a vs F', v = .ref a ∧ NodL Z H vs a F F' ∧ OwnL G Z H ds vs F'
  | Z, H, .dk ks ds, v, F => ∃ a vs F', v = .ref a ∧ ks.length = vs.length ∧ Nod Z H (.dK (ks.zip vs)) a F F' ∧ OwnL G Z H ds vs F'
  | Z, H, .dt ks ds, v, F => ∃ a vs F', v = .ref a ∧ ks.length = vs.length ∧ Nod Z H (.dT (ks.zip vs)) a F F' ∧ OwnL G Z H ds vs F'
  | Z, H, .obj c fs ds, v, F => ∃ a vs F' C dx, v = .ref a ∧ G.cl c = some C ∧ fs.length = vs.length ∧ Nod Z H (.ins C dx (fs.zip vs)) a F F' ∧ OwnL G Z H ds vs F'
  | Z, H, .fob c fs ds, v, F => ∃ a vs C dx, v = .ref a ∧ G.cl c = some C ∧ fs.length = vs.length ∧ G.bo a = some (.ins C dx (fs.zip vs)) ∧ OwnL G Z H ds vs F
  | _, _, .exn _, v, F => F = [] ∧ ∃ a, v = .ref a ∧ G.cl exName = some a
  | _, _, .fn c, v, F => F = [] ∧ ∃ a, v = .ref a ∧ G.cl c = some a
  | _, H, .bor d, v, F => F = [] ∧ Own G G.bo H d v [] ∧ v ≠ .non
def OwnL (G : Gc) : Hp → Hp → List D → List V → List Addr → Prop
  | _, _, [], vs, F => vs = [] ∧ F = []
  | Z, H, d :: ds, vs, F => ∃ v r F1 F2, vs = v :: r ∧ F = F1 ++ F2 ∧ Own G Z H d v F1 ∧ OwnL G Z H ds r F2
end
/-- all of A stands in H -/
theorem Same.nod {Z Z' H H' : Hp} {o : HO} {a : Addr} {F F' : List Addr} (hz : Same Z Z') (hk : ∀ b u, H b = some u → b ∈ F → H' b = some u) (n : Nod Z H o a F F') : Nod Z' H' o a F F' := by
  rcases n with ⟨h, e⟩ | ⟨e, h⟩
  · exact .inl ⟨hz _ _ h, e⟩
  · exact .inr ⟨e, hk _ _ h (by rw [e]; exact List.mem_cons_self)⟩
theorem Same.nodL {Z Z' H H' : Hp} {vs : List V} {a : Addr} {F F' : List Addr} (hz : Same Z Z') (hk : ∀ b u, H b = some u → b ∈ F → H' b = some u) (n : NodL Z H vs a F F') : NodL Z' H' vs a F F' := by
  rcases n with ⟨h, e⟩ | ⟨e, h⟩
  · exact .inl ⟨Same.rd hz h, e⟩
  · exact .inr ⟨e, hk _ _ h (by rw [e]; exact List.mem_cons_self)⟩
theorem Nod.sub {Z H : Hp} {o : HO} {a : Addr} {F F' : List Addr} (n : Nod Z H o a F F') : ∀ b ∈ F', b ∈ F := by
  rcases n with ⟨_, _, e⟩ | ⟨e, _⟩
  · rw [e]; intro b h; cases h
  · rw [e]; intro b h; exact List.mem_cons_of_mem _ h
theorem NodL.sub {Z H : Hp} {vs : List V} {a : Addr} {F F' : List Addr} (n : NodL Z H vs a F F') : ∀ b ∈ F', b ∈ F := by
  rcases n with ⟨_, _, e⟩ | ⟨e, _⟩
  · rw [e]; intro b h; cases h
  · rw [e]; intro b h; exact List.mem_cons_of_mem _ h

section
variable {G : Gc} {Z Z' H H' : Hp}
mutual
/-- data stay where the heap keeps their owned nodes and the tuples, and Z grows -/
theorem Own.keep {Z Z' : Hp} (hz : Same Z Z') : ∀ (d : D) (v : V) (F : List Addr), (∀ b u, H b = some u → (b ∈ F ∨ Still u) → H' b = some u) → Own G Z H d v F → Own G Z' H' d v F
  | .non, _, _, _, h => h
  | .bl _, _, _, _, h => h
  | .int _, _, _, _, h => h
  | .str _, _, _, _, h => h
  | .scr _, _, _, _, h => ⟨h.1, h.2.imp fun _ z => ⟨z.1, hz.seq z.2⟩⟩
  | .tupF f ds, v, F, k, h => by
    obtain ⟨a, vs, e, h1, h2⟩ := h
    exact ⟨a, vs, e, h1.keep fun b u q st => k b u q (.inr st), OwnL.keep hz ds vs F k h2⟩
  | .lst ds, v, F, k, h => by
    obtain ⟨a, vs, F', e, n, h2⟩ := h
    exact ⟨a, vs, F', e, Same.nodL hz (fun b u q m => k b u q (.inl m)) n, OwnL.keep hz ds vs F' (fun b u q m => k b u q (m.imp (n.sub b) id)) h2⟩
  | .dk ks ds, v, F, k, h => by
    obtain ⟨a, vs, F', e, l, n, h2⟩ := h
    exact ⟨a, vs, F', e, l, Same.nod hz (fun b u q m => k b u q (.inl m)) n, OwnL.keep hz ds vs F' (fun b u q m => k b u q (m.imp (n.sub b) id)) h2⟩
  | .dt ks ds, v, F, k, h => by
    obtain ⟨a, vs, F', e, l, n, h2⟩ := h
    exact ⟨a, vs, F', e, l, Same.nod hz (fun b u q m => k b u q (.inl m)) n, OwnL.keep hz ds vs F' (fun b u q m => k b u q (m.imp (n.sub b) id)) h2⟩
  | .obj c fs ds, v, F, k, h => by
    obtain ⟨a, vs, F', C, dx, e, ec, l, n, h2⟩ := h
    exact ⟨a, vs, F', C, dx, e, ec, l, Same.nod hz (fun b u q m => k b u q (.inl m)) n, OwnL.keep hz ds vs F' (fun b u q m => k b u q (m.imp (n.sub b) id)) h2⟩
  | .fob c fs ds, v, F, k, h => by
    obtain ⟨a, vs, C, dx, e, ec, l, n, h2⟩ := h
    exact ⟨a, vs, C, dx, e, ec, l, n, OwnL.keep hz ds vs F k h2⟩
  | .exn c, v, F, k, h => h
  | .fn c, v, F, k, h => h
  | .bor d, v, F, k, h => ⟨h.1, Own.keep (Same.refl G.bo) d v [] (fun b u q m => k b u q (m.elim (fun z => by cases z) .inr)) h.2.1, h.2.2⟩
theorem OwnL.keep {Z Z' : Hp} (hz : Same Z Z') : ∀ (ds : List D) (vs : List V) (F : List Addr), (∀ b u, H b = some u → (b ∈ F ∨ Still u) → H' b = some u) → OwnL G Z H ds vs F → OwnL G Z' H' ds vs F
  | [], _, _, _, h => h
  | d :: ds, vs, F, k, h => by
    obtain ⟨v, r, F1, F2, e1, e2, h1, h2⟩ := h
    subst e2
    exact ⟨v, r, F1, F2, e1, rfl, Own.keep hz d v F1 (fun b u q m => k b u q (m.imp (fun z => List.mem_append_left _ z) id)) h1, OwnL.keep hz ds r F2 (fun b u q m => k b u q (m.imp (fun z => List.mem_append_right _ z) id)) h2⟩
end
mutual
/-- data are read in all of the heap -/
theorem Own.rep (hz : Same Z H) : ∀ (d : D) (v : V) (F : List Addr), Own G Z H d v F → Own G H H d v []
  | .non, _, _, h => ⟨h.1, rfl⟩
  | .bl _, _, _, h => ⟨h.1, rfl⟩
  | .int _, _, _, h => ⟨h.1, rfl⟩
  | .str _, _, _, h => ⟨h.1, rfl⟩
  | .scr _, _, _, h => ⟨rfl, h.2.imp fun _ z => ⟨z.1, hz.seq z.2⟩⟩
  | .tupF f ds, v, F, h => by
    obtain ⟨a, vs, e, h1, h2⟩ := h
    exact ⟨a, vs, e, h1, OwnL.rep hz ds vs F h2⟩
  | .lst ds, v, F, h => by
    obtain ⟨a, vs, F', e, n, h2⟩ := h
    refine ⟨a, vs, [], e, .inl ⟨?_, rfl, rfl⟩, OwnL.rep hz ds vs F' h2⟩
    rcases n with ⟨h, _⟩ | ⟨_, h⟩
    · exact Same.rd hz h
    · exact Rd.of h
  | .dk ks ds, v, F, h => by
    obtain ⟨a, vs, F', e, l, n, h2⟩ := h
    refine ⟨a, vs, [], e, l, .inl ⟨?_, rfl, rfl⟩, OwnL.rep hz ds vs F' h2⟩
    rcases n with ⟨h, _⟩ | ⟨_, h⟩
    · exact hz _ _ h
    · exact h
  | .dt ks ds, v, F, h => by
    obtain ⟨a, vs, F', e, l, n, h2⟩ := h
    refine ⟨a, vs, [], e, l, .inl ⟨?_, rfl, rfl⟩, OwnL.rep hz ds vs F' h2⟩
    rcases n with ⟨h, _⟩ | ⟨_, h⟩
    · exact hz _ _ h
    · exact h
  | .obj c fs ds, v, F, h => by
    obtain ⟨a, vs, F', C, dx, e, ec, l, n, h2⟩ := h
    refine ⟨a, vs, [], C, dx, e, ec, l, .inl ⟨?_, rfl, rfl⟩, OwnL.rep hz ds vs F' h2⟩
    rcases n with ⟨h, _⟩ | ⟨_, h⟩
    · exact hz _ _ h
    · exact h
  | .fob c fs ds, v, F, h => by
    obtain ⟨a, vs, C, dx, e, ec, l, n, h2⟩ := h
    exact ⟨a, vs, C, dx, e, ec, l, n, OwnL.rep hz ds vs F h2⟩
  | .exn c, v, F, h => ⟨rfl, h.2⟩
  | .fn c, v, F, h => ⟨rfl, h.2⟩
  | .bor d, v, F, h => ⟨rfl, h.2⟩
theorem OwnL.rep (hz : Same Z H) : ∀ (ds : List D) (vs : List V) (F : List Addr), OwnL G Z H ds vs F → OwnL G H H ds vs []
  | [], _, _, h => ⟨h.1, rfl⟩
  | d :: ds, vs, F, h => by
    obtain ⟨v, r, F1, F2, e1, e2, h1, h2⟩ := h
    exact ⟨v, r, [], [], e1, rfl, Own.rep hz d v F1 h1, OwnL.rep hz ds r F2 h2⟩
end
mutual
/-- owned nodes frozen -/
theorem Own.freeze (hz : Same Z Z') : ∀ (d : D) (v : V) (F : List Addr), (∀ b u, b ∈ F → H b = some u → Z' b = some u) → Own G Z H d v F → Own G Z' H d v []
  | .non, _, _, _, h => ⟨h.1, rfl⟩
  | .bl _, _, _, _, h => ⟨h.1, rfl⟩
  | .int _, _, _, _, h => ⟨h.1, rfl⟩
  | .str _, _, _, _, h => ⟨h.1, rfl⟩
  | .scr _, _, _, _, h => ⟨rfl, h.2.imp fun _ z => ⟨z.1, hz.seq z.2⟩⟩
  | .tupF f ds, v, F, k, h => by
    obtain ⟨a, vs, e, h1, h2⟩ := h
    exact ⟨a, vs, e, h1, OwnL.freeze hz ds vs F k h2⟩
  | .lst ds, v, F, k, h => by
    obtain ⟨a, vs, F', e, n, h2⟩ := h
    refine ⟨a, vs, [], e, .inl ⟨?_, rfl, rfl⟩, OwnL.freeze hz ds vs F' (fun b u m => k b u (n.sub b m)) h2⟩
    rcases n with ⟨h, _⟩ | ⟨e, h⟩
    · exact Same.rd hz h
    · exact Rd.of (k _ _ (by rw [e]; exact List.mem_cons_self) h)
  | .dk ks ds, v, F, k, h => by
    obtain ⟨a, vs, F', e, l, n, h2⟩ := h
    refine ⟨a, vs, [], e, l, .inl ⟨?_, rfl, rfl⟩, OwnL.freeze hz ds vs F' (fun b u m => k b u (n.sub b m)) h2⟩
    rcases n with ⟨h, _⟩ | ⟨e, h⟩
    · exact hz _ _ h
    · exact k _ _ (by rw [e]; exact List.mem_cons_self) h
  | .dt ks ds, v, F, k, h => by
    obtain ⟨a, vs, F', e, l, n, h2⟩ := h
    refine ⟨a, vs, [], e, l, .inl ⟨?_, rfl, rfl⟩, OwnL.freeze hz ds vs F' (fun b u m => k b u (n.sub b m)) h2⟩
    rcases n with ⟨h, _⟩ | ⟨e, h⟩
    · exact hz _ _ h
    · exact k _ _ (by rw [e]; exact List.mem_cons_self) h
  | .obj c fs ds, v, F, k, h => by
    obtain ⟨a, vs, F', C, dx, e, ec, l, n, h2⟩ := h
    refine ⟨a, vs, [], C, dx, e, ec, l, .inl ⟨?_, rfl, rfl⟩, OwnL.freeze hz ds vs F' (fun b u m => k b u (n.sub b m)) h2⟩
    rcases n with ⟨h, _⟩ | ⟨e, h⟩
    · exact hz _ _ h
    · exact k _ _ (by rw [e]; exact List.mem_cons_self) h
  | .fob c fs ds, v, F, k, h => by
    obtain ⟨a, vs, C, dx, e, ec, l, n, h2⟩ := h
    exact ⟨a, vs, C, dx, e, ec, l, n, OwnL.freeze hz ds vs F k h2⟩
  | .exn c, v, F, k, h => ⟨rfl, h.2⟩
  | .fn c, v, F, k, h => ⟨rfl, h.2⟩
  | .bor d, v, F, k, h => ⟨rfl, h.2⟩
theorem OwnL.freeze (hz : Same Z Z') : ∀ (ds : List D) (vs : List V) (F : List Addr), (∀ b u, b ∈ F → H b = some u → Z' b = some u) → OwnL G Z H ds vs F → OwnL G Z' H ds vs []
  | [], _, _, _, h => ⟨h.1, rfl⟩
  | d :: ds, vs, F, k, h => by
    obtain ⟨v, r, F1, F2, e1, e2, h1, h2⟩ := h
    subst e2
    exact ⟨v, r, [], [], e1, rfl, Own.freeze hz d v F1 (fun b u m => k b u (List.mem_append_left _ m)) h1, OwnL.freeze hz ds r F2 (fun b u m => k b u (List.mem_append_right _ m)) h2⟩
end
mutual
/-- owned nodes stand in the heap, and may be written -/
theorem Own.dom : ∀ (d : D) (v : V) (F : List Addr), Own G Z H d v F → ∀ a ∈ F, ∃ o, H a = some o ∧ Mut (some o)
  | .non, _, _, h => fun a m => by rw [h.2] at m; cases m
  | .bl _, _, _, h => fun a m => by rw [h.2] at m; cases m
  | .int _, _, _, h => fun a m => by rw [h.2] at m; cases m
  | .str _, _, _, h => fun a m => by rw [h.2] at m; cases m
  | .scr _, _, _, h => fun a m => by rw [h.1] at m; cases m
  | .tupF f ds, v, F, h => by
    obtain ⟨a, vs, e, h1, h2⟩ := h
    exact OwnL.dom ds vs F h2
  | .lst ds, v, F, h => by
    obtain ⟨a, vs, F', e, n, h2⟩ := h
    rcases n with ⟨_, e, _⟩ | ⟨e, q⟩
    · rw [e]; intro a m; cases m
    · rw [e]
      intro b m
      rcases List.mem_cons.mp m with rfl | m
      · exact ⟨_, q, trivial⟩
      · exact OwnL.dom ds vs F' h2 b m
  | .dk ks ds, v, F, h => by
    obtain ⟨a, vs, F', e, l, n, h2⟩ := h
    rcases n with ⟨_, e, _⟩ | ⟨e, q⟩
    · rw [e]; intro a m; cases m
    · rw [e]
      intro b m
      rcases List.mem_cons.mp m with rfl | m
      · exact ⟨_, q, trivial⟩
      · exact OwnL.dom ds vs F' h2 b m
  | .dt ks ds, v, F, h => by
    obtain ⟨a, vs, F', e, l, n, h2⟩ := h
    rcases n with ⟨_, e, _⟩ | ⟨e, q⟩
    · rw [e]; intro a m; cases m
    · rw [e]
      intro b m
      rcases List.mem_cons.mp m with rfl | m
      · exact ⟨_, q, trivial⟩
      · exact OwnL.dom ds vs F' h2 b m
  | .obj c fs ds, v, F, h => by
    obtain ⟨a, vs, F', C, dx, e, ec, l, n, h2⟩ := h
    rcases n with ⟨_, e, _⟩ | ⟨e, q⟩
    · rw [e]; intro a m; cases m
    · rw [e]
      intro b m
      rcases List.mem_cons.mp m with rfl | m
      · exact ⟨_, q, trivial⟩
      · exact OwnL.dom ds vs F' h2 b m
  | .fob c fs ds, v, F, h => by
    obtain ⟨a, vs, C, dx, e, ec, l, n, h2⟩ := h
    exact OwnL.dom ds vs F h2
  | .exn c, v, F, h => fun a m => by rw [h.1] at m; cases m
  | .fn c, v, F, h => fun a m => by rw [h.1] at m; cases m
  | .bor d, v, F, h => fun a m => by rw [h.1] at m; cases m
theorem OwnL.dom : ∀ (ds : List D) (vs : List V) (F : List Addr), OwnL G Z H ds vs F → ∀ a ∈ F, ∃ o, H a = some o ∧ Mut (some o)
  | [], _, _, h => fun a m => by rw [h.2] at m; cases m
  | d :: ds, vs, F, h => by
    obtain ⟨v, r, F1, F2, e1, e2, h1, h2⟩ := h
    subst e2
    intro a m
    rcases List.mem_append.mp m with m | m
    · exact Own.dom d v F1 h1 a m
    · exact OwnL.dom ds r F2 h2 a m
end
mutual
/-- pure data own nothing and lean on no frozen node -/
theorem Own.ofPure : ∀ (d : D) (v : V) (F : List Addr), d.pure = true → Own G Z H d v F → F = [] ∧ Own G Z' H d v []
  | .non, _, _, _, h => ⟨h.2, h.1, rfl⟩
  | .bl _, _, _, _, h => ⟨h.2, h.1, rfl⟩
  | .int _, _, _, _, h => ⟨h.2, h.1, rfl⟩
  | .str _, _, _, _, h => ⟨h.2, h.1, rfl⟩
  | .tupF f ds, v, F, p, h => by
    obtain ⟨a, vs, e, h1, h2⟩ := h
    obtain ⟨q1, q2⟩ := OwnL.ofPure ds vs F p h2
    exact ⟨q1, a, vs, e, h1, q2⟩
  | .scr _, v, F, p, h => by cases p
  | .lst ds, v, F, p, h => by cases p
  | .dk ks ds, v, F, p, h => by cases p
  | .dt ks ds, v, F, p, h => by cases p
  | .obj c fs ds, v, F, p, h => by cases p
  | .fob c fs ds, v, F, p, h => by cases p
  | .exn c, v, F, p, h => by cases p
  | .fn c, v, F, p, h => ⟨h.1, rfl, h.2⟩
  | .bor d, v, F, p, h => ⟨h.1, rfl, h.2⟩
theorem OwnL.ofPure : ∀ (ds : List D) (vs : List V) (F : List Addr), D.pureL ds = true → OwnL G Z H ds vs F → F = [] ∧ OwnL G Z' H ds vs []
  | [], _, _, _, h => ⟨h.2, h.1, rfl⟩
  | d :: ds, vs, F, p, h => by
    obtain ⟨v, r, F1, F2, e1, e2, h1, h2⟩ := h
    have p' : (d.pure && D.pureL ds) = true := p
    simp only [Bool.and_eq_true] at p'
    obtain ⟨q1, q2⟩ := Own.ofPure d v F1 p'.1 h1
    obtain ⟨r1, r2⟩ := OwnL.ofPure ds r F2 p'.2 h2
    exact ⟨by rw [e2, q1, r1]; rfl, v, r, [], [], e1, rfl, q2, r2⟩
end
theorem OwnL.length : ∀ {ds : List D} {vs : List V} {F : List Addr}, OwnL G Z H ds vs F → vs.length = ds.length
  | [], _, _, h => by rw [h.1]; rfl
  | d :: ds, vs, F, h => by
    obtain ⟨v, r, F1, F2, e1, e2, h1, h2⟩ := h
    rw [e1, List.length_cons, List.length_cons, OwnL.length h2]
theorem OwnL.append : ∀ {ds es : List D} {vs us : List V} {F F' : List Addr}, OwnL G Z H ds vs F → OwnL G Z H es us F' → OwnL G Z H (ds ++ es) (vs ++ us) (F ++ F')
  | [], es, vs, us, F, F', h, h' => by
    rw [h.1, h.2]
    exact h'
  | d :: ds, es, vs, us, F, F', h, h' => by
    obtain ⟨v, r, F1, F2, e1, e2, h1, h2⟩ := h
    subst e1 e2
    exact ⟨v, r ++ us, F1, F2 ++ F', rfl, by rw [List.append_assoc], h1, OwnL.append h2 h'⟩
theorem OwnL.split : ∀ {ds es : List D} {vs : List V} {F : List Addr}, OwnL G Z H (ds ++ es) vs F → ∃ vs1 vs2 F1 F2, vs = vs1 ++ vs2 ∧ F = F1 ++ F2 ∧ OwnL G Z H ds vs1 F1 ∧ OwnL G Z H es vs2 F2
  | [], es, vs, F, h => ⟨[], vs, [], F, rfl, rfl, ⟨rfl, rfl⟩, h⟩
  | d :: ds, es, vs, F, h => by
    obtain ⟨v, r, F1, F2, e1, e2, h1, h2⟩ := h
    obtain ⟨vs1, vs2, F3, F4, q1, q2, q3, q4⟩ := OwnL.split (ds := ds) h2
    exact ⟨v :: vs1, vs2, F1 ++ F3, F4, by rw [e1, q1]; rfl, by rw [e2, q2, List.append_assoc], ⟨v, vs1, F1, F3, rfl, rfl, h1, q3⟩, q4⟩
theorem OwnL.get : ∀ {ds : List D} {vs : List V} {i : Nat} {d : D}, OwnL G Z H ds vs [] → ds[i]? = some d → ∃ v, vs[i]? = some v ∧ Own G Z H d v []
  | [], _, _, _, _, e => by cases e
  | d :: ds, vs, 0, d', h, e => by
    obtain ⟨v, r, F1, F2, e1, e2, h1, h2⟩ := h
    have e3 : d = d' := Option.some.inj e
    subst e1 e3
    obtain ⟨rfl, rfl⟩ := List.append_eq_nil_iff.mp e2.symm
    exact ⟨v, rfl, h1⟩
  | d :: ds, vs, i + 1, d', h, e => by
    obtain ⟨v, r, F1, F2, e1, e2, h1, h2⟩ := h
    subst e1
    obtain ⟨rfl, rfl⟩ := List.append_eq_nil_iff.mp e2.symm
    exact OwnL.get (i := i) h2 e
theorem OwnL.cons_nil {d : D} {ds : List D} {v : V} {vs : List V} (h1 : Own G Z H d v []) (h2 : OwnL G Z H ds vs []) : OwnL G Z H (d :: ds) (v :: vs) [] := ⟨v, vs, [], [], rfl, rfl, h1, h2⟩
theorem OwnL.uncons {d : D} {ds : List D} {vs : List V} (h : OwnL G Z H (d :: ds) vs []) : ∃ v r, vs = v :: r ∧ Own G Z H d v [] ∧ OwnL G Z H ds r [] := by
  obtain ⟨v, r, F1, F2, e1, e2, h1, h2⟩ := h
  obtain ⟨rfl, rfl⟩ := List.append_eq_nil_iff.mp e2.symm
  exact ⟨v, r, e1, h1, h2⟩
end
mutual
/-- nothing of the borrowed heap -/
def D.nob : D → Bool
  | .tupF _ xs => D.nobL xs
  | .lst xs => D.nobL xs
  | .dk _ vs => D.nobL vs
  | .dt _ vs => D.nobL vs
  | .obj _ _ vs => D.nobL vs
  | .bor _ => false
  | .fob _ _ _ => false
  | .non => true
  | .bl _ => true
  | .int _ => true
  | .str _ => true
  | .scr _ => true
  | .exn _ => true
  | .fn _ => false
def D.nobL : List D → Bool
  | [] => true
  | d :: r => d.nob && D.nobL r
end
section
variable {K : PySem.W.Frag} {cl : Str → Option Addr}
mutual
theorem Own.bo {b b' : Hp} (hs : Same b b') {H : Hp} : ∀ (Z : Hp) (d : D) (v : V) (F : List Addr), Own ⟨K, cl, b⟩ Z H d v F → Own ⟨K, cl, b'⟩ Z H d v F
  | _, .non, _, _, h => h
  | _, .bl _, _, _, h => h
  | _, .int _, _, _, h => h
  | _, .str _, _, _, h => h
  | _, .scr _, _, _, h => h
  | Z, .tupF f ds, v, F, h => by
    obtain ⟨a, vs, e, h1, h2⟩ := h
    exact ⟨a, vs, e, h1, OwnL.bo hs Z ds vs F h2⟩
  | Z, .lst ds, v, F, h => by
    obtain ⟨a, vs, F', e, n, h2⟩ := h
    exact ⟨a, vs, F', e, n, OwnL.bo hs Z ds vs F' h2⟩
  | Z, .dk ks ds, v, F, h => by
    obtain ⟨a, vs, F', e, l, n, h2⟩ := h
    exact ⟨a, vs, F', e, l, n, OwnL.bo hs Z ds vs F' h2⟩
  | Z, .dt ks ds, v, F, h => by
    obtain ⟨a, vs, F', e, l, n, h2⟩ := h
    exact ⟨a, vs, F', e, l, n, OwnL.bo hs Z ds vs F' h2⟩
  | Z, .obj c fs ds, v, F, h => by
    obtain ⟨a, vs, F', C, dx, e, ec, l, n, h2⟩ := h
    exact ⟨a, vs, F', C, dx, e, ec, l, n, OwnL.bo hs Z ds vs F' h2⟩
  | Z, .fob c fs ds, v, F, h => by
    obtain ⟨a, vs, C, dx, e, ec, l, n, h2⟩ := h
    exact ⟨a, vs, C, dx, e, ec, l, hs _ _ n, OwnL.bo hs Z ds vs F h2⟩
  | _, .exn _, _, _, h => h
  | _, .fn _, _, _, h => h
  | _, .bor d, v, F, h => ⟨h.1, Own.keep hs d v [] (fun _ _ e _ => e) (Own.bo hs b d v [] h.2.1), h.2.2⟩
theorem OwnL.bo {b b' : Hp} (hs : Same b b') {H : Hp} : ∀ (Z : Hp) (ds : List D) (vs : List V) (F : List Addr), OwnL ⟨K, cl, b⟩ Z H ds vs F → OwnL ⟨K, cl, b'⟩ Z H ds vs F
  | _, [], _, _, h => h
  | Z, d :: ds, vs, F, h => by
    obtain ⟨v, r, F1, F2, e1, e2, h1, h2⟩ := h
    exact ⟨v, r, F1, F2, e1, e2, Own.bo hs Z d v F1 h1, OwnL.bo hs Z ds r F2 h2⟩
end
mutual
theorem Own.nob {b b' : Hp} {Z H : Hp} : ∀ (d : D) (v : V) (F : List Addr), d.nob = true → Own ⟨K, cl, b⟩ Z H d v F → Own ⟨K, cl, b'⟩ Z H d v F
  | .non, _, _, _, h => h
  | .bl _, _, _, _, h => h
  | .int _, _, _, _, h => h
  | .str _, _, _, _, h => h
  | .scr _, _, _, _, h => h
  | .tupF f ds, v, F, q, h => by
    obtain ⟨a, vs, e, h1, h2⟩ := h
    exact ⟨a, vs, e, h1, OwnL.nob ds vs F q h2⟩
  | .lst ds, v, F, q, h => by
    obtain ⟨a, vs, F', e, n, h2⟩ := h
    exact ⟨a, vs, F', e, n, OwnL.nob ds vs F' q h2⟩
  | .dk ks ds, v, F, q, h => by
    obtain ⟨a, vs, F', e, l, n, h2⟩ := h
    exact ⟨a, vs, F', e, l, n, OwnL.nob ds vs F' q h2⟩
  | .dt ks ds, v, F, q, h => by
    obtain ⟨a, vs, F', e, l, n, h2⟩ := h
    exact ⟨a, vs, F', e, l, n, OwnL.nob ds vs F' q h2⟩
  | .obj c fs ds, v, F, q, h => by
    obtain ⟨a, vs, F', C, dx, e, ec, l, n, h2⟩ := h
    exact ⟨a, vs, F', C, dx, e, ec, l, n, OwnL.nob ds vs F' q h2⟩
  | .exn _, _, _, _, h => h
  | .fn _, _, _, q, h => by cases q
  | .bor d, v, F, q, h => by cases q
  | .fob _ _ _, v, F, q, h => by cases q
theorem OwnL.nob {b b' : Hp} {Z H : Hp} : ∀ (ds : List D) (vs : List V) (F : List Addr), D.nobL ds = true → OwnL ⟨K, cl, b⟩ Z H ds vs F → OwnL ⟨K, cl, b'⟩ Z H ds vs F
  | [], _, _, _, h => h
  | d :: ds, vs, F, q, h => by
    have q' : (d.nob && D.nobL ds) = true := q
    simp only [Bool.and_eq_true] at q'
    obtain ⟨v, r, F1, F2, e1, e2, h1, h2⟩ := h
    exact ⟨v, r, F1, F2, e1, e2, Own.nob d v F1 q'.1 h1, OwnL.nob ds r F2 q'.2 h2⟩
end
end
def joi (B Z : Hp) : Hp := fun a => match B a with
  | some o => some o
  | none => Z a
/-- B, and what H has at F -/
def lay (B H : Hp) (F : List Addr) : Hp := fun a => if a ∈ F then H a else B a
/-- H without what stands at F -/
def cut (H : Hp) (F : List Addr) : Hp := fun a => if a ∈ F then none else H a
theorem joi_le {B Z H : Hp} (b : Same B H) (z : Same Z H) : Same (joi B Z) H := fun a o e => by
  unfold joi at e
  cases q : B a with
  | some u =>
    rw [q] at e
    cases e
    exact b _ _ q
  | none =>
    rw [q] at e
    exact z _ _ e
theorem joi_mono {B B' Z Z' H : Hp} (b : Same B B') (z : Same Z Z') (b' : Same B' H) (z' : Same Z' H) : Same (joi B Z) (joi B' Z') := fun a o e => by
  unfold joi at e ⊢
  cases q : B a with
  | some u =>
    rw [q] at e
    cases e
    rw [b _ _ q]
  | none =>
    rw [q] at e
    cases q' : B' a with
    | some u =>
      have h1 := b' _ _ q'
      have h2 := z' _ _ (z _ _ e)
      rw [h1] at h2
      exact h2
    | none => exact z _ _ e
theorem joi_right {B Z H : Hp} (b : Same B H) (z : Same Z H) : Same Z (joi B Z) := fun a o e => by
  unfold joi
  cases q : B a with
  | some u =>
    have h1 := b _ _ q
    rw [z _ _ e] at h1
    exact h1.symm
  | none => exact e
theorem joi_left {B Z : Hp} : Same B (joi B Z) := fun a o e => by
  unfold joi
  rw [e]
theorem joi_none {B Z : Hp} {a : Addr} (b : B a = none) (z : Z a = none) : joi B Z a = none := by
  unfold joi
  rw [b]
  exact z
theorem lay_le {B H : Hp} {F : List Addr} (b : Same B H) : Same (lay B H F) H := fun a o e => by
  unfold lay at e
  split at e
  · exact e
  · exact b _ _ e
theorem lay_up {B H : Hp} {F : List Addr} (b : Same B H) : Same B (lay B H F) := fun a o e => by
  unfold lay
  split
  · exact b _ _ e
  · exact e
theorem lay_in {B H : Hp} {F : List Addr} {a : Addr} (h : a ∈ F) : lay B H F a = H a := by
  unfold lay
  rw [if_pos h]
theorem lay_out {B H : Hp} {F : List Addr} {a : Addr} (h : a ∉ F) : lay B H F a = B a := by
  unfold lay
  rw [if_neg h]
theorem cut_le {H : Hp} {F : List Addr} : Same (cut H F) H := fun a o e => by
  unfold cut at e
  split at e
  · cases e
  · exact e
theorem cut_out {H : Hp} {F : List Addr} {a : Addr} (h : a ∉ F) : cut H F a = H a := by
  unfold cut
  rw [if_neg h]
theorem cut_in {H : Hp} {F : List Addr} {a : Addr} (h : a ∈ F) : cut H F a = none := by
  unfold cut
  rw [if_pos h]
theorem same_upd {H : Hp} {p : Addr} {o : HO} (h : H p = none) : Same H (upd H p o) := fun b x e => by
  rw [upd_ne (ne_of_none e h)]
  exact e
end DL
namespace DL
open PySem PySem.Spec PyProof.Rows L2
inductive Md where
  /-- owned; owned, and the caller's (an argument that is changed); frozen; the caller's, read only; owned, but being read elsewhere -/
  | own | io | shr | brw | lck
  deriving DecidableEq
abbrev Slot := Option (Md × D)
abbrev DEnv := List Slot
def Md.mut : Md → Bool
  | .own => true
  | .io => true
  | _ => false

def SlotOk (G : Gc) (B Z H : Hp) (x : Option (Option V)) (s : Option Slot) (F : List Addr) : Prop :=
  match s with
  | some (some (m, d)) => ∃ v, x = some (some v) ∧ (match m with
      | .own => Own G Z H d v F
      | .io => Own G Z H d v F
      | .shr => Own G Z H d v [] ∧ F = []
      | .brw => Own G (joi B Z) H d v [] ∧ F = []
      | .lck => Own G (joi B Z) H d v [] ∧ F = [])
  | _ => F = []

structure Good (G : Gc) (B Z H : Hp) (σ : L2.St) (env : DEnv) (Fs : Nat → List Addr) : Prop where
  sb : Same B H
  sz : Same Z H
  len : env.length = σ.length
  sl : ∀ i, SlotOk G B Z H σ[i]? env[i]? (Fs i)
  nd : ∀ i, (Fs i).Nodup
  dj : ∀ i j a, a ∈ Fs i → a ∈ Fs j → i = j
  fr : ∀ i a, a ∈ Fs i → B a = none ∧ Z a = none
  z0 : ∀ a, Z a = none
  gb : Same G.bo B

def InF (Fs : Nat → List Addr) (a : Addr) : Prop := ∃ i, a ∈ Fs i

/-- from the one state to the other: what is not the slots' own stays; the slots own what they owned and what is new -/
structure Stp (G : Gc) (B Z H : Hp) (σ : L2.St) (env : DEnv) (P : Addr → Prop) (Z' H' : Hp) (σ' : L2.St) (env' : DEnv) (Fs' : Nat → List Addr) : Prop where
  zz : Same Z Z'
  ext : ∀ a o, H a = some o → ¬ P a → H' a = some o
  good : Good G B Z' H' σ' env' Fs'
  new : ∀ a, InF Fs' a → H a = none ∨ P a
  newz : ∀ a, Z' a ≠ none → Z a ≠ none ∨ H a = none ∨ P a
  io : ∀ (j : Nat) (d : D), env[j]? = some (some (Md.io, d)) → (∃ d' : D, env'[j]? = some (some (Md.io, d'))) ∧ σ'[j]? = σ[j]?
  lk : ∀ (j : Nat) (d : D), env[j]? = some (some (Md.lck, d)) → env'[j]? = some (some (Md.lck, d)) ∧ σ'[j]? = σ[j]?
  bw : ∀ (j : Nat) (d : D), env'[j]? = some (some (Md.brw, d)) → env[j]? = some (some (Md.brw, d)) ∧ σ'[j]? = σ[j]?
  lb : ∀ (j : Nat) (d : D), env'[j]? = some (some (Md.lck, d)) → env[j]? = some (some (Md.lck, d)) ∧ σ'[j]? = σ[j]?
  ln : env'.length = env.length

/-- a value at hand, owned by nobody else -/
structure Tm (G : Gc) (B Z H : Hp) (P : Addr → Prop) (d : D) (v : V) (F : List Addr) : Prop where
  own : Own G Z H d v F
  nd : F.Nodup
  dj : ∀ a, a ∈ F → ¬ P a
  fr : ∀ a, a ∈ F → B a = none ∧ Z a = none

section
variable {G : Gc} {B Z H Z' H' Z'' H'' : Hp} {σ σ' σ'' : L2.St} {env env' env'' : DEnv} {Fs Fs' Fs'' : Nat → List Addr}
theorem SlotOk.dom {x : Option (Option V)} {s : Option Slot} {F : List Addr} (h : SlotOk G B Z H x s F) : ∀ a ∈ F, ∃ o, H a = some o ∧ Mut (some o) := by
  unfold SlotOk at h
  match s, h with
  | some (some (.own, d)), h => obtain ⟨v, _, h⟩ := h; exact Own.dom d v F h
  | some (some (.io, d)), h => obtain ⟨v, _, h⟩ := h; exact Own.dom d v F h
  | some (some (.shr, d)), h => obtain ⟨v, _, _, h⟩ := h; intro a m; rw [h] at m; cases m
  | some (some (.brw, d)), h => obtain ⟨v, _, _, h⟩ := h; intro a m; rw [h] at m; cases m
  | some (some (.lck, d)), h => obtain ⟨v, _, _, h⟩ := h; intro a m; rw [h] at m; cases m
  | some none, h => intro a m; rw [show F = [] from h] at m; cases m
  | none, h => intro a m; rw [show F = [] from h] at m; cases m
theorem Good.dom (g : Good G B Z H σ env Fs) {a : Addr} (h : InF Fs a) : ∃ o, H a = some o ∧ Mut (some o) := by
  obtain ⟨i, m⟩ := h
  exact (g.sl i).dom a m
/-- a tuple is nobody's own -/
theorem Good.tup (g : Good G B Z H σ env Fs) {a : Addr} {u : HO} (h : H a = some u) (hs : Still u) : ¬ InF Fs a := fun m => by
  obtain ⟨o, e, mu⟩ := g.dom m
  rw [h] at e
  cases e
  exact hs mu
theorem SlotOk.keep {x : Option (Option V)} {s : Option Slot} {F : List Addr} (h : SlotOk G B Z H x s F) (b : Same B H) (z : Same Z H) (b' : Same B H') (z' : Same Z' H') (hz : Same Z Z')
    (k : ∀ a u, H a = some u → (a ∈ F ∨ Still u) → H' a = some u) : SlotOk G B Z' H' x s F := by
  have j : Same (joi B Z) (joi B Z') := joi_mono (Same.refl B) hz b' z'
  have k0 : ∀ a u, H a = some u → (a ∈ ([] : List Addr) ∨ Still u) → H' a = some u := fun a u e m => k a u e (m.imp (fun z => by cases z) id)
  unfold SlotOk at h ⊢
  match s, h with
  | some (some (.own, d)), h => obtain ⟨v, e, h⟩ := h; exact ⟨v, e, Own.keep hz d v F k h⟩
  | some (some (.io, d)), h => obtain ⟨v, e, h⟩ := h; exact ⟨v, e, Own.keep hz d v F k h⟩
  | some (some (.shr, d)), h => obtain ⟨v, e, h, f⟩ := h; exact ⟨v, e, Own.keep hz d v [] k0 h, f⟩
  | some (some (.brw, d)), h => obtain ⟨v, e, h, f⟩ := h; exact ⟨v, e, Own.keep j d v [] k0 h, f⟩
  | some (some (.lck, d)), h => obtain ⟨v, e, h, f⟩ := h; exact ⟨v, e, Own.keep j d v [] k0 h, f⟩
  | some none, h => exact h
  | none, h => exact h

variable {P P' P1 : Addr → Prop}
/-- what is owned may be written -/
def PMut (H : Hp) (P : Addr → Prop) : Prop := ∀ a, P a → ∃ o, H a = some o ∧ Mut (some o)
theorem PMut.tup (p : PMut H P) {a : Addr} {u : HO} (h : H a = some u) (hs : Still u) : ¬ P a := fun m => by
  obtain ⟨o, e, mu⟩ := p a m
  rw [h] at e
  cases e
  exact hs mu
theorem Good.pm (g : Good G B Z H σ env Fs) : PMut H (InF Fs) := fun _ h => g.dom h
theorem Stp.refl (g : Good G B Z H σ env Fs) (hp : ∀ a, InF Fs a → P a) : Stp G B Z H σ env P Z H σ env Fs :=
  ⟨Same.refl Z, fun _ _ e _ => e, g, fun a m => .inr (hp a m), fun _ m => .inl m, fun j d e => ⟨⟨d, e⟩, rfl⟩, fun j d e => ⟨e, rfl⟩, fun j d e => ⟨e, rfl⟩, fun j d e => ⟨e, rfl⟩, rfl⟩
theorem Stp.trans (a : Stp G B Z H σ env P Z' H' σ' env' Fs') (hp : ∀ x, P1 x → H x = none ∨ P x) (b : Stp G B Z' H' σ' env' P1 Z'' H'' σ'' env'' Fs'') : Stp G B Z H σ env P Z'' H'' σ'' env'' Fs'' := by
  have back : ∀ x, H' x = none → H x = none ∨ P x := fun x z => by
    cases q : H x with
    | none => exact .inl rfl
    | some o =>
      refine .inr ?_
      by_cases n : P x
      · exact n
      · have := a.ext x o q n
        rw [z] at this; cases this
  refine ⟨a.zz.trans b.zz, fun x o e n => b.ext x o (a.ext x o e n) fun m => ?_, b.good, fun x m => ?_, fun x m => ?_, fun j d e => ?_, fun j d e => ?_, fun j d e => ?_, fun j d e => ?_, b.ln.trans a.ln⟩
  · rcases hp x m with z | z
    · rw [e] at z; cases z
    · exact n z
  · rcases b.new x m with z | z
    · exact back x z
    · exact hp x z
  · rcases b.newz x m with z | z | z
    · exact a.newz x z
    · exact .inr (back x z)
    · exact .inr (hp x z)
  · obtain ⟨⟨d', e1⟩, s1⟩ := a.io j d e
    obtain ⟨q, s2⟩ := b.io j d' e1
    exact ⟨q, s2.trans s1⟩
  · obtain ⟨e1, s1⟩ := a.lk j d e
    obtain ⟨q, s2⟩ := b.lk j d e1
    exact ⟨q, s2.trans s1⟩
  · obtain ⟨e1, s1⟩ := b.bw j d e
    obtain ⟨q, s2⟩ := a.bw j d e1
    exact ⟨q, s1.trans s2⟩
  · obtain ⟨e1, s1⟩ := b.lb j d e
    obtain ⟨q, s2⟩ := a.lb j d e1
    exact ⟨q, s1.trans s2⟩
/-- .. where more is owned at the start -/
theorem Stp.more (a : Stp G B Z H σ env P Z' H' σ' env' Fs') (hp : ∀ x, P x → P1 x) : Stp G B Z H σ env P1 Z' H' σ' env' Fs' :=
  ⟨a.zz, fun x o e n => a.ext x o e fun m => n (hp x m), a.good, fun x m => (a.new x m).imp id (hp x), fun x m => (a.newz x m).imp id fun z => z.imp id (hp x), a.io, a.lk, a.bw, a.lb, a.ln⟩
/-- the heap grows by what nobody owns -/
theorem Good.grow (g : Good G B Z H σ env Fs) (h : Same H H') : Good G B Z H' σ env Fs :=
  ⟨g.sb.trans h, g.sz.trans h, g.len, fun i => (g.sl i).keep g.sb g.sz (g.sb.trans h) (g.sz.trans h) (Same.refl Z) fun a u e _ => h a u e, g.nd, g.dj, g.fr, g.z0, g.gb⟩
theorem Stp.grow (g : Good G B Z H σ env Fs) (hp : ∀ a, InF Fs a → P a) (h : Same H H') : Stp G B Z H σ env P Z H' σ env Fs :=
  ⟨Same.refl Z, fun a o e _ => h a o e, g.grow h, fun a m => .inr (hp a m), fun _ m => .inl m, fun j d e => ⟨⟨d, e⟩, rfl⟩, fun j d e => ⟨e, rfl⟩, fun j d e => ⟨e, rfl⟩, fun j d e => ⟨e, rfl⟩, rfl⟩
theorem Tm.dom {d : D} {v : V} {F : List Addr} (t : Tm G B Z H P d v F) {a : Addr} (m : a ∈ F) : ∃ o, H a = some o := by
  obtain ⟨o, e, _⟩ := Own.dom d v F t.own a m
  exact ⟨o, e⟩
/-- a value at hand stays at hand -/
theorem Tm.step {d : D} {v : V} {F : List Addr} (t : Tm G B Z H P d v F) (pm : PMut H P) (s : Stp G B Z H σ env P Z' H' σ' env' Fs') (hp : ∀ x, P1 x → H x = none ∨ P x) : Tm G B Z' H' P1 d v F where
  own := Own.keep s.zz d v F (fun a u e m => s.ext a u e (by
    rcases m with m | nm
    · exact t.dj a m
    · exact pm.tup e nm)) t.own
  nd := t.nd
  dj := fun a m z => by
    obtain ⟨o, e⟩ := t.dom m
    rcases hp a z with q | q
    · rw [e] at q; cases q
    · exact t.dj a m q
  fr := fun a m => by
    refine ⟨(t.fr a m).1, ?_⟩
    cases q : Z' a with
    | none => rfl
    | some u =>
      obtain ⟨o, e⟩ := t.dom m
      rcases s.newz a (by rw [q]; simp) with z | z | z
      · exact absurd (t.fr a m).2 z
      · rw [e] at z; cases z
      · exact absurd z (t.dj a m)
theorem Tm.grow {d : D} {v : V} {F : List Addr} (t : Tm G B Z H P d v F) (h : Same H H') : Tm G B Z H' P d v F :=
  ⟨Own.keep (Same.refl Z) d v F (fun a u e _ => h a u e) t.own, t.nd, t.dj, t.fr⟩
theorem Tm.pure {d : D} {v : V} (h : Own G Z H d v []) : Tm G B Z H P d v [] := ⟨h, List.nodup_nil, fun a m => (by cases m), fun a m => (by cases m)⟩
def lock1 : Slot → Slot
  | some (.own, d) => some (.lck, d)
  | some (.io, d) => some (.lck, d)
  | s => s
def lock (i : Nat) (env : DEnv) : DEnv := env.modify i lock1
def unl1 : Slot → Slot → Slot
  | some (.own, _), some (.lck, d) => some (.own, d)
  | some (.io, _), some (.lck, d) => some (.io, d)
  | _, s => s
def unlock (e0 e : DEnv) : DEnv := List.zipWith unl1 e0 e
theorem lock_at {i j : Nat} : (lock i env)[j]? = if i = j then env[j]?.map lock1 else env[j]? := by
  unfold lock
  rw [List.getElem?_modify]
  split
  · rfl
  · simp
theorem unlock_at {e0 e : DEnv} {j : Nat} : (unlock e0 e)[j]? = match e0[j]?, e[j]? with
    | some a, some b => some (unl1 a b)
    | _, _ => none := by
  unfold unlock
  rw [List.getElem?_zipWith]
  cases e0[j]? <;> cases e[j]? <;> rfl

/-- the footprints without slot i's -/
def offF (Fs : Nat → List Addr) (i : Nat) : Nat → List Addr := fun j => if j = i then [] else Fs j
def onF (Fs : Nat → List Addr) (i : Nat) (F : List Addr) : Nat → List Addr := fun j => if j = i then F else Fs j
theorem inF_off {i : Nat} {a : Addr} (h : InF (offF Fs i) a) : InF Fs a := by
  obtain ⟨j, m⟩ := h
  unfold offF at m
  split at m
  · cases m
  · exact ⟨j, m⟩
theorem inF_on {i : Nat} {F : List Addr} {a : Addr} (h : InF (onF Fs i F) a) : a ∈ F ∨ InF Fs a := by
  obtain ⟨j, m⟩ := h
  unfold onF at m
  split at m
  · exact .inl m
  · exact .inr ⟨j, m⟩
/-- B with slot i's own nodes laid in -/
def lockB (B H : Hp) (Fs : Nat → List Addr) (i : Nat) : Hp := lay B H (Fs i)
theorem lockB_le (g : Good G B Z H σ env Fs) (i : Nat) : Same (lockB B H Fs i) H := lay_le g.sb
theorem lockB_up (g : Good G B Z H σ env Fs) (i : Nat) : Same B (lockB B H Fs i) := lay_up g.sb

theorem Good.lock (g : Good G B Z H σ env Fs) (i : Nat) : Good G (lockB B H Fs i) Z H σ (lock i env) (offF Fs i) where
  sb := lockB_le g i
  sz := g.sz
  z0 := g.z0
  gb := g.gb.trans (lockB_up g i)
  len := by unfold DL.lock; rw [List.length_modify]; exact g.len
  sl := fun j => by
    have j1 : Same (joi B Z) (joi (lockB B H Fs i) Z) := joi_mono (lockB_up g i) (Same.refl Z) (lockB_le g i) g.sz
    have z1 : Same Z (joi (lockB B H Fs i) Z) := joi_right (lockB_le g i) g.sz
    have h := g.sl j
    have k0 : ∀ a u, H a = some u → (a ∈ ([] : List Addr) ∨ Still u) → H a = some u := fun a u e _ => e
    rw [lock_at]
    by_cases e : i = j
    · subst e
      rw [if_pos rfl]
      have eo : offF Fs i i = [] := by unfold offF; rw [if_pos rfl]
      rw [eo]
      have kf : ∀ b u, b ∈ Fs i → H b = some u → joi (lockB B H Fs i) Z b = some u := fun b u m q => joi_left b u (by unfold lockB; rw [lay_in m]; exact q)
      unfold SlotOk at h ⊢
      match hs : env[i]?, h with
      | some (some (.own, d)), h => obtain ⟨v, e, h⟩ := h; exact ⟨v, e, Own.freeze z1 d v _ kf h, rfl⟩
      | some (some (.io, d)), h => obtain ⟨v, e, h⟩ := h; exact ⟨v, e, Own.freeze z1 d v _ kf h, rfl⟩
      | some (some (.shr, d)), h => obtain ⟨v, e, h, f⟩ := h; exact ⟨v, e, h, rfl⟩
      | some (some (.brw, d)), h => obtain ⟨v, e, h, f⟩ := h; exact ⟨v, e, Own.keep j1 d v [] k0 h, rfl⟩
      | some (some (.lck, d)), h => obtain ⟨v, e, h, f⟩ := h; exact ⟨v, e, Own.keep j1 d v [] k0 h, rfl⟩
      | some none, h => rfl
      | none, h => rfl
    · rw [if_neg e]
      have eo : offF Fs i j = Fs j := by unfold offF; rw [if_neg (fun z => e z.symm)]
      rw [eo]
      unfold SlotOk at h ⊢
      match hs : env[j]?, h with
      | some (some (.own, d)), h => exact h
      | some (some (.io, d)), h => exact h
      | some (some (.shr, d)), h => exact h
      | some (some (.brw, d)), h => obtain ⟨v, e, h, f⟩ := h; exact ⟨v, e, Own.keep j1 d v [] k0 h, f⟩
      | some (some (.lck, d)), h => obtain ⟨v, e, h, f⟩ := h; exact ⟨v, e, Own.keep j1 d v [] k0 h, f⟩
      | some none, h => exact h
      | none, h => exact h
  nd := fun j => by unfold offF; split; exact List.nodup_nil; exact g.nd j
  dj := fun j k a m n => by
    unfold offF at m n
    split at m
    · cases m
    · split at n
      · cases n
      · exact g.dj j k a m n
  fr := fun j a m => by
    unfold offF at m
    split at m
    · cases m
    · rename_i e
      refine ⟨?_, (g.fr j a m).2⟩
      unfold lockB
      rw [lay_out fun n => e (g.dj j i a m n)]
      exact (g.fr j a m).1

/-- a slot of a locked state, seen without the lock -/
theorem SlotOk.unlk {B1 : Hp} {x y : Option (Option V)} {s : Option Slot} {s0 : Option Slot} {F F0 : List Addr} (h : SlotOk G B1 Z' H' x s F) (h0 : SlotOk G B Z H y s0 F0) (zz : Same Z Z') (sb' : Same B H') (sz' : Same Z' H')
    (kt : ∀ a u, H a = some u → Still u → H' a = some u) (hb : ∀ d, s = some (some (.brw, d)) → s0 = some (some (.brw, d)) ∧ x = y) (hl : ∀ d, s = some (some (.lck, d)) → s0 = some (some (.lck, d)) ∧ x = y) : SlotOk G B Z' H' x s F := by
  have kk : ∀ (a : Addr) (u : HO), H a = some u → (a ∈ ([] : List Addr) ∨ Still u) → H' a = some u := fun a u e m => by
    rcases m with m | nm
    · cases m
    · exact kt a u e nm
  unfold SlotOk at h ⊢
  match s, h, hb, hl with
  | some (some (.own, d)), h, _, _ => exact h
  | some (some (.io, d)), h, _, _ => exact h
  | some (some (.shr, d)), h, _, _ => exact h
  | some (some (.brw, d)), h, hb, _ =>
    obtain ⟨v, ev, _, f⟩ := h
    obtain ⟨q, exy⟩ := hb d rfl
    rw [q] at h0
    obtain ⟨u, eu, hu, _⟩ := h0
    rw [← exy, ev] at eu
    have euv : v = u := Option.some.inj (Option.some.inj eu)
    subst euv
    exact ⟨v, ev, Own.keep (joi_mono (Same.refl B) zz sb' sz') d v [] kk hu, f⟩
  | some (some (.lck, d)), h, _, hl =>
    obtain ⟨v, ev, _, f⟩ := h
    obtain ⟨q, exy⟩ := hl d rfl
    rw [q] at h0
    obtain ⟨u, eu, hu, _⟩ := h0
    rw [← exy, ev] at eu
    have euv : v = u := Option.some.inj (Option.some.inj eu)
    subst euv
    exact ⟨v, ev, Own.keep (joi_mono (Same.refl B) zz sb' sz') d v [] kk hu, f⟩
  | some none, h, _, _ => exact h
  | none, h, _, _ => exact h

/-- slot i's own nodes, given back -/
def backF (env : DEnv) (Fs F2 : Nat → List Addr) (i : Nat) : Nat → List Addr := fun j => if j = i then (match env[i]? with
  | some (some (.own, _)) => Fs i
  | some (some (.io, _)) => Fs i
  | _ => F2 i) else F2 j
theorem backF_ne {F2 : Nat → List Addr} {i j : Nat} (h : j ≠ i) : backF env Fs F2 i j = F2 j := by
  unfold backF
  rw [if_neg h]
theorem backF_same {F2 : Nat → List Addr} {i : Nat} : backF env Fs F2 i i = (match env[i]? with
  | some (some (.own, _)) => Fs i
  | some (some (.io, _)) => Fs i
  | _ => F2 i) := by
  unfold backF
  rw [if_pos rfl]
theorem backF_mem {F2 : Nat → List Addr} {i j : Nat} {a : Addr} (h : a ∈ backF env Fs F2 i j) : (j = i ∧ a ∈ Fs i) ∨ a ∈ F2 j := by
  by_cases e : j = i
  · subst e
    rw [backF_same] at h
    split at h
    · exact .inl ⟨rfl, h⟩
    · exact .inl ⟨rfl, h⟩
    · exact .inr h
  · rw [backF_ne e] at h
    exact .inr h
theorem lock_none {i : Nat} (h : ∀ d, env[i]? ≠ some (some (.own, d)) ∧ env[i]? ≠ some (some (.io, d))) : lock i env = env := by
  apply List.ext_getElem?
  intro j
  rw [lock_at]
  split
  · rename_i e
    subst e
    cases q : env[i]? with
    | none => rfl
    | some s =>
      match s with
      | none => rfl
      | some (.own, d) => exact absurd q (h d).1
      | some (.io, d) => exact absurd q (h d).2
      | some (.shr, d) => rfl
      | some (.brw, d) => rfl
      | some (.lck, d) => rfl
  · rfl
theorem Stp.unlock {i : Nat} {Z2 H2 : Hp} {σ2 : L2.St} {e2 : DEnv} {F2 : Nat → List Addr} (g : Good G B Z H σ env Fs) (pm : PMut H P') (hp : ∀ a, P' a → P a ∧ a ∉ Fs i) (hi : ∀ a, a ∈ Fs i → P a) (s : Stp G (lockB B H Fs i) Z H σ (DL.lock i env) P' Z2 H2 σ2 e2 F2) :
    Stp G B Z H σ env P Z2 H2 σ2 (DL.unlock env e2) (backF env Fs F2 i) := by
  have gl := s.good
  have keepi : ∀ a o, a ∈ Fs i → H a = some o → H2 a = some o := fun a o m e => gl.sb a o (by unfold lockB; rw [lay_in m]; exact e)
  have keept : ∀ a u, H a = some u → Still u → H2 a = some u := fun a u e st => s.ext a _ e (pm.tup e st)
  have frz2 : ∀ a, a ∈ Fs i → Z2 a = none := fun a m => by
    cases q : Z2 a with
    | none => rfl
    | some u =>
      rcases s.newz a (by rw [q]; simp) with z | z | z
      · exact absurd (g.fr i a m).2 z
      · obtain ⟨o, e, _⟩ := g.dom ⟨i, m⟩
        rw [e] at z; cases z
      · exact absurd m (hp a z).2
  have ndi : ∀ a, a ∈ Fs i → ∀ j, a ∉ F2 j := fun a m j n => by
    rcases s.new a ⟨j, n⟩ with z | z
    · obtain ⟨o, e, _⟩ := g.dom ⟨i, m⟩
      rw [e] at z; cases z
    · exact absurd m (hp a z).2
  have sb2 : Same B H2 := (lockB_up g i).trans gl.sb
  have llk : (DL.lock i env).length = env.length := by unfold DL.lock; rw [List.length_modify]
  have ln2 : e2.length = env.length := s.ln.trans llk
  have lke : ∀ (j : Nat), j ≠ i → (DL.lock i env)[j]? = env[j]? := fun j h => by rw [lock_at, if_neg (fun z => h z.symm)]
  -- the slots, seen without the lock
  have seen : ∀ (j : Nat), (∀ d, e2[j]? = some (some (.lck, d)) → env[j]? = some (some (.lck, d))) → SlotOk G B Z2 H2 σ2[j]? e2[j]? (F2 j) := fun j hj => by
    refine (gl.sl j).unlk (g.sl j) s.zz sb2 gl.sz keept (fun d e => ?_) fun d e => ⟨hj d e, (s.lb j d e).2⟩
    obtain ⟨q, es⟩ := s.bw j d e
    refine ⟨?_, es⟩
    rw [lock_at] at q
    split at q
    · cases h : env[j]? with
      | none => rw [h] at q; cases q
      | some sl =>
        rw [h] at q
        match sl, q with
        | some (.brw, d'), q => exact q
    · exact q
  have un : ∀ (j : Nat), (DL.unlock env e2)[j]? = match env[j]?, e2[j]? with
    | some a, some b => some (unl1 a b)
    | _, _ => none := fun j => unlock_at
  -- where nothing is unlocked
  have same_at : ∀ (j : Nat), (j ≠ i ∨ ∀ d, env[i]? ≠ some (some (.own, d)) ∧ env[i]? ≠ some (some (.io, d))) → (DL.unlock env e2)[j]? = e2[j]? ∧ ∀ d, e2[j]? = some (some (.lck, d)) → env[j]? = some (some (.lck, d)) := fun j hj => by
    have el : (DL.lock i env)[j]? = env[j]? := by
      rcases hj with h | h
      · exact lke j h
      · rw [lock_none h]
    have hl : ∀ d, e2[j]? = some (some (.lck, d)) → env[j]? = some (some (.lck, d)) := fun d e => by
      have q := (s.lb j d e).1
      rw [el] at q
      exact q
    refine ⟨?_, hl⟩
    rw [un]
    cases h1 : env[j]? with
    | none =>
      have : e2[j]? = none := List.getElem?_eq_none_iff.mpr (by rw [ln2]; exact List.getElem?_eq_none_iff.mp h1)
      rw [this]
    | some a =>
      cases h2 : e2[j]? with
      | none => rfl
      | some b =>
        show some (unl1 a b) = some b
        match b, h2 with
        | none, _ => match a with
          | none => rfl
          | some (.own, _) => rfl
          | some (.io, _) => rfl
          | some (.shr, _) => rfl
          | some (.brw, _) => rfl
          | some (.lck, _) => rfl
        | some (.lck, d), h2 =>
          have q := hl d h2
          rw [h1] at q
          cases q
          rfl
        | some (.own, _), _ => match a with
          | none => rfl
          | some (.own, _) => rfl
          | some (.io, _) => rfl
          | some (.shr, _) => rfl
          | some (.brw, _) => rfl
          | some (.lck, _) => rfl
        | some (.io, _), _ => match a with
          | none => rfl
          | some (.own, _) => rfl
          | some (.io, _) => rfl
          | some (.shr, _) => rfl
          | some (.brw, _) => rfl
          | some (.lck, _) => rfl
        | some (.shr, _), _ => match a with
          | none => rfl
          | some (.own, _) => rfl
          | some (.io, _) => rfl
          | some (.shr, _) => rfl
          | some (.brw, _) => rfl
          | some (.lck, _) => rfl
        | some (.brw, _), _ => match a with
          | none => rfl
          | some (.own, _) => rfl
          | some (.io, _) => rfl
          | some (.shr, _) => rfl
          | some (.brw, _) => rfl
          | some (.lck, _) => rfl
  -- the unlocked slot
  have at_i : ∀ (m : Md) (d : D), env[i]? = some (some (m, d)) → m.mut = true → e2[i]? = some (some (.lck, d)) ∧ σ2[i]? = σ[i]? ∧ (DL.unlock env e2)[i]? = some (some (m, d)) ∧ backF env Fs F2 i i = Fs i := fun m d e hm => by
    have q := s.lk i d (by
      rw [lock_at, if_pos rfl, e]
      cases m <;> first | rfl | cases hm)
    refine ⟨q.1, q.2, ?_, ?_⟩
    · rw [un, e, q.1]
      cases m <;> first | rfl | cases hm
    · rw [backF_same, e]
      cases m <;> first | rfl | cases hm
  have dec : (∃ m d, env[i]? = some (some (m, d)) ∧ m.mut = true) ∨ ∀ d, env[i]? ≠ some (some (.own, d)) ∧ env[i]? ≠ some (some (.io, d)) := by
    by_cases h : ∃ m d, env[i]? = some (some (m, d)) ∧ m.mut = true
    · exact .inl h
    · exact .inr fun d => ⟨fun e => h ⟨.own, d, e, rfl⟩, fun e => h ⟨.io, d, e, rfl⟩⟩
  have back_else : (∀ d, env[i]? ≠ some (some (.own, d)) ∧ env[i]? ≠ some (some (.io, d))) → backF env Fs F2 i i = F2 i := fun h => by
    rw [backF_same]
    split
    · rename_i d q; exact absurd q (h d).1
    · rename_i d q; exact absurd q (h d).2
    · rfl
  refine ⟨s.zz, fun a o e n => s.ext a o e fun m => n (hp a m).1, ⟨sb2, gl.sz, ?_, fun j => ?_, fun j => ?_, fun j k a m n => ?_, fun j a m => ?_, gl.z0, g.gb⟩, fun a m => ?_, fun a m => ?_, fun j d e => ?_, fun j d e => ?_, fun j d e => ?_, fun j d e => ?_, ?_⟩
  · unfold DL.unlock
    rw [List.length_zipWith, ln2, ← ln2, Nat.min_self]
    exact gl.len
  · by_cases hj : j = i
    · subst hj
      rcases dec with ⟨m, d, e, hm⟩ | h
      · obtain ⟨q1, q2, q3, q4⟩ := at_i m d e hm
        rw [q3, q4, q2]
        have h0 := g.sl j
        rw [e] at h0
        have kk : ∀ (a : Addr) (u : HO), H a = some u → (a ∈ Fs j ∨ Still u) → H2 a = some u := fun a u e m => by
          rcases m with m | nm
          · exact keepi a u m e
          · exact keept a u e nm
        cases m with
        | own => obtain ⟨v, ev, hv⟩ := h0; exact ⟨v, ev, Own.keep s.zz d v _ kk hv⟩
        | io => obtain ⟨v, ev, hv⟩ := h0; exact ⟨v, ev, Own.keep s.zz d v _ kk hv⟩
        | shr => cases hm
        | brw => cases hm
        | lck => cases hm
      · obtain ⟨q1, q2⟩ := same_at j (.inr h)
        rw [q1, back_else h]
        exact seen j q2
    · obtain ⟨q1, q2⟩ := same_at j (.inl hj)
      rw [q1, backF_ne hj]
      exact seen j q2
  · by_cases hj : j = i
    · subst hj
      rcases dec with ⟨m, d, e, hm⟩ | h
      · rw [(at_i m d e hm).2.2.2]; exact g.nd j
      · rw [back_else h]; exact gl.nd j
    · rw [backF_ne hj]; exact gl.nd j
  · rcases backF_mem m with ⟨ej, m2⟩ | m2
    · rcases backF_mem n with ⟨ek, n2⟩ | n2
      · rw [ej, ek]
      · exact absurd n2 (ndi a m2 k)
    · rcases backF_mem n with ⟨ek, n2⟩ | n2
      · exact absurd m2 (ndi a n2 j)
      · exact gl.dj j k a m2 n2
  · rcases backF_mem m with ⟨rfl, m⟩ | m
    · exact ⟨(g.fr j a m).1, frz2 a m⟩
    · have q := gl.fr j a m
      refine ⟨?_, q.2⟩
      cases h : B a with
      | none => rfl
      | some u =>
        have := lockB_up g i a u h
        rw [this] at q
        cases q.1
  · obtain ⟨j, m⟩ := m
    rcases backF_mem m with ⟨rfl, m⟩ | m
    · exact .inr (hi a m)
    · rcases s.new a ⟨j, m⟩ with z | z
      · exact .inl z
      · exact .inr (hp a z).1
  · rcases s.newz a m with z | z | z
    · exact .inl z
    · exact .inr (.inl z)
    · exact .inr (.inr (hp a z).1)
  · by_cases hj : j = i
    · subst hj
      obtain ⟨q1, q2, q3, q4⟩ := at_i .io d e rfl
      exact ⟨⟨d, q3⟩, q2⟩
    · obtain ⟨⟨d', q⟩, es⟩ := s.io j d (by rw [lke j hj]; exact e)
      exact ⟨⟨d', by rw [(same_at j (.inl hj)).1]; exact q⟩, es⟩
  · have nm : ∀ d', env[j]? ≠ some (some (.own, d')) ∧ env[j]? ≠ some (some (.io, d')) := fun d' => by rw [e]; exact ⟨fun z => (by cases z), fun z => (by cases z)⟩
    have q := s.lk j d (by
      by_cases hj : j = i
      · subst hj; rw [lock_none nm]; exact e
      · rw [lke j hj]; exact e)
    refine ⟨?_, q.2⟩
    by_cases hj : j = i
    · subst hj; rw [(same_at j (.inr nm)).1]; exact q.1
    · rw [(same_at j (.inl hj)).1]; exact q.1
  · by_cases hj : j = i
    · subst hj
      rcases dec with ⟨m, d', e', hm⟩ | h
      · rw [(at_i m d' e' hm).2.2.1] at e
        cases e
        cases hm
      · rw [(same_at j (.inr h)).1] at e
        have q := s.bw j d e
        rw [lock_none h] at q
        exact q
    · rw [(same_at j (.inl hj)).1] at e
      have q := s.bw j d e
      rw [lke j hj] at q
      exact q
  · by_cases hj : j = i
    · subst hj
      rcases dec with ⟨m, d', e', hm⟩ | h
      · rw [(at_i m d' e' hm).2.2.1] at e
        cases e
        cases hm
      · rw [(same_at j (.inr h)).1] at e
        have q := s.lb j d e
        rw [lock_none h] at q
        exact q
    · rw [(same_at j (.inl hj)).1] at e
      have q := s.lb j d e
      rw [lke j hj] at q
      exact q
  · unfold DL.unlock
    rw [List.length_zipWith, ln2, Nat.min_self]
end
end DL
namespace DL
open PySem PySem.Spec PyProof.Rows L2
abbrev Wsh := Str → L2.St → Hp → Prop

/-- behind an evaluation: the state, and what it hands on (the value, and what io arguments have become) -/
structure Post (G : Gc) (B Z H : Hp) (σ : L2.St) (env : DEnv) (P : Addr → Prop) (Z' H' : Hp) (env' : DEnv) (Fs' : Nat → List Addr) (ds : List D) (vs : List V) (F : List Addr) : Prop where
  st : Stp G B Z H σ env P Z' H' σ env' Fs'
  own : OwnL G Z' H' ds vs F
  nd : F.Nodup
  dj : ∀ a, a ∈ F → ¬ InF Fs' a
  fr : ∀ a, a ∈ F → B a = none ∧ Z' a = none
  new : ∀ a, a ∈ F → H a = none ∨ P a

def FinO (G : Gc) (W : Wsh) (B Z H : Hp) (σ : L2.St) (env : DEnv) (P : Addr → Prop) (ios : List V) (o : Out (D × List D × DEnv)) (Q : VK) : Prop := match o with
  | .ok (d, outs, env') => ∀ v Z' H' Fs' F, Post G B Z H σ env P Z' H' env' Fs' (d :: outs) (v :: ios) F → Q v H'
  | .exc c => ∀ H', Same B H' → W c σ H'
  | .bad => False
def FinV (G : Gc) (W : Wsh) (B Z H : Hp) (σ : L2.St) (env : DEnv) (P : Addr → Prop) (o : Out (D × DEnv)) (Q : VK) : Prop := match o with
  | .ok (d, env') => ∀ v Z' H' Fs' F, Post G B Z H σ env P Z' H' env' Fs' [d] [v] F → Q v H'
  | .exc c => ∀ H', Same B H' → W c σ H'
  | .bad => False
/-- an expression that hands on a value of its own -/
def TV (G : Gc) (W : Wsh) (f : DEnv → Out (D × DEnv)) : TE := fun σ H Q => ∃ B Z Fs env, Good G B Z H σ env Fs ∧ FinV G W B Z H σ env (InF Fs) (f env) Q
/-- an expression that changes nothing that stands, and hands on pure data -/
def TPur (G : Gc) (h : DEnv → Option D) : TE := fun σ H Q => ∃ B Z Fs env, Good G B Z H σ env Fs ∧ ∃ d, h env = some d ∧ ∀ v H', Same H H' → d.pure = true → (∀ Z', Own G Z' H' d v []) → Q v H'
/-- a place in slot i: read -/
def TPlc (G : Gc) (i : Nat) (g : DEnv → Option D) : TE := fun σ H Q => ∃ B Z Fs env, Good G B Z H σ env Fs ∧ ∃ d, g env = some d ∧ ∀ v H', Same H H' → Own G (joi (lockB B H' Fs i) Z) H' d v [] → Q v H'
/-- slot j's own value, handed over for a while -/
def TIo (j : Nat) : TE := tVar j

theorem _root_.L2.PE.imp {X : Cx} {e : Expr} {t t' : TE} (h : PE X e t) (i : ∀ σ H Q, t' σ H Q → t σ H Q) : PE X e t' := ⟨fun pins s σ H Q I hq => h.run pins s σ H Q I (i σ H Q hq)⟩

/-- a whole number -/
def TInt (G : Gc) (h : DEnv → Option D) : TE := fun σ H Q => ∃ B Z Fs env, Good G B Z H σ env Fs ∧ ∃ i, h env = some (.int i) ∧ ∀ H', Same H H' → Q (.int i) H'
def onlyInt : D → Option D
  | .int i => some (.int i)
  | _ => none
theorem onlyInt_some {d e : D} (h : onlyInt d = some e) : ∃ i, d = .int i ∧ e = .int i := by
  cases d <;> first | (cases h; exact ⟨_, rfl, rfl⟩) | cases h
/-- .. of a kind -/
def TPlcT (G : Gc) (i : Nat) (g : DEnv → Option D) (T : D → Bool) : TE := fun σ H Q => ∃ B Z Fs env, Good G B Z H σ env Fs ∧ ∃ d, g env = some d ∧ T d = true ∧ ∀ v H', Same H H' → Own G (joi (lockB B H' Fs i) Z) H' d v [] → Q v H'
def TPurT (G : Gc) (h : DEnv → Option D) (T : D → Bool) : TE := fun σ H Q => ∃ B Z Fs env, Good G B Z H σ env Fs ∧ ∃ d, h env = some d ∧ T d = true ∧ ∀ v H', Same H H' → d.pure = true → (∀ Z', Own G Z' H' d v []) → Q v H'
inductive SArg where
  | pur (h : DEnv → Option D)
  | plc (i : Nat) (g : DEnv → Option D)
  | int (h : DEnv → Option D)
  | plt (i : Nat) (g : DEnv → Option D) (T : D → Bool)
  | put (h : DEnv → Option D) (T : D → Bool)
def onlyT (T : D → Bool) (d : D) : Option D := if T d = true then some d else none
theorem onlyT_some {T : D → Bool} {d e : D} (h : onlyT T d = some e) : d = e ∧ T d = true := by
  unfold onlyT at h
  split at h
  · rename_i ht; exact ⟨Option.some.inj h, ht⟩
  · cases h
def SArg.val : SArg → DEnv → Option D
  | .pur h => h
  | .plc _ g => g
  | .int h => fun env => match h env with
    | some d => onlyInt d
    | none => none
  | .plt _ g T => fun env => match g env with
    | some d => onlyT T d
    | none => none
  | .put h T => fun env => match h env with
    | some d => onlyT T d
    | none => none
def SArg.te (G : Gc) : SArg → TE
  | .pur h => TPur G h
  | .plc i g => TPlc G i g
  | .int h => TInt G h
  | .plt i g T => TPlcT G i g T
  | .put h T => TPurT G h T
theorem TV.mono {G : Gc} {W : Wsh} {f : DEnv → Out (D × DEnv)} {σ : L2.St} {H : Hp} {Q Q' : VK} (h : ∀ v H, Q v H → Q' v H) (t : TV G W f σ H Q) : TV G W f σ H Q' := by
  obtain ⟨B, Z, Fs, env, g, q⟩ := t
  refine ⟨B, Z, Fs, env, g, ?_⟩
  unfold FinV at q ⊢
  match f env, q with
  | .ok (d, e), q => exact fun v Z' H' Fs' F p => h _ _ (q v Z' H' Fs' F p)
  | .exc c, q => exact q
theorem SArg.mono {G : Gc} {a : SArg} {σ : L2.St} {H : Hp} {Q Q' : VK} (h : ∀ v H, Q v H → Q' v H) (t : a.te G σ H Q) : a.te G σ H Q' := by
  cases a with
  | pur f => obtain ⟨B, Z, Fs, env, g, d, hd, q⟩ := t; exact ⟨B, Z, Fs, env, g, d, hd, fun v H' hs hp ho => h _ _ (q v H' hs hp ho)⟩
  | plc i f => obtain ⟨B, Z, Fs, env, g, d, hd, q⟩ := t; exact ⟨B, Z, Fs, env, g, d, hd, fun v H' hs ho => h _ _ (q v H' hs ho)⟩
  | int f => obtain ⟨B, Z, Fs, env, g, d, hd, q⟩ := t; exact ⟨B, Z, Fs, env, g, d, hd, fun H' hs => h _ _ (q H' hs)⟩
  | plt i f T => obtain ⟨B, Z, Fs, env, g, d, hd, ht, q⟩ := t; exact ⟨B, Z, Fs, env, g, d, hd, ht, fun v H' hs ho => h _ _ (q v H' hs ho)⟩
  | put f T => obtain ⟨B, Z, Fs, env, g, d, hd, ht, q⟩ := t; exact ⟨B, Z, Fs, env, g, d, hd, ht, fun v H' hs hp ho => h _ _ (q v H' hs hp ho)⟩
/-- arguments that change nothing -/
def evS : List SArg → DEnv → Option (List D)
  | [], _ => some []
  | a :: r, env => match a.val env with
    | some d => match evS r env with
      | some ds => some (d :: ds)
      | none => none
    | none => none
/-- what must be there -/
def must {α β : Type} (x : Option α) (f : α → Out β) : Out β := match x with
  | some a => f a
  | none => .bad
@[simp] theorem must_some {α β : Type} (a : α) (f : α → Out β) : must (some a) f = f a := rfl
@[simp] theorem must_none {α β : Type} (f : α → Out β) : must none f = .bad := rfl
inductive Chn where
  | fin (hs : List SArg)
  | own (f : DEnv → Out (D × DEnv)) (c : Chn)
  | pur (h : DEnv → Option D) (c : Chn)
  | plc (i : Nat) (g : DEnv → Option D) (c : Chn)
  | io (j : Nat) (c : Chn)
def Chn.tes (G : Gc) (W : Wsh) : Chn → List TE
  | .fin hs => hs.map (SArg.te G)
  | .own f c => TV G W f :: c.tes G W
  | .pur h c => TPur G h :: c.tes G W
  | .plc i g c => TPlc G i g :: c.tes G W
  | .io j c => TIo j :: c.tes G W
/-- which arguments are changed -/
def Chn.iofs : Chn → List Bool
  | .fin hs => hs.map fun _ => false
  | .own _ c => false :: c.iofs
  | .pur _ c => false :: c.iofs
  | .plc _ _ c => false :: c.iofs
  | .io _ c => true :: c.iofs
/-- their values, the last one first -/
def ioV : List Bool → List V → List V
  | true :: fl, v :: vs => ioV fl vs ++ [v]
  | false :: fl, _ :: vs => ioV fl vs
  | _, _ => []
theorem ioV_snoc : ∀ (fl : List Bool) (vs : List V) (b : Bool) (v : V), fl.length = vs.length → ioV (fl ++ [b]) (vs ++ [v]) = if b = true then v :: ioV fl vs else ioV fl vs
  | [], [], true, v, _ => rfl
  | [], [], false, v, _ => rfl
  | true :: fl, w :: vs, b, v, h => by
    show ioV (fl ++ [b]) (vs ++ [v]) ++ [w] = _
    rw [ioV_snoc fl vs b v (by simpa using h)]
    cases b <;> rfl
  | false :: fl, w :: vs, b, v, h => by
    show ioV (fl ++ [b]) (vs ++ [v]) = _
    rw [ioV_snoc fl vs b v (by simpa using h)]
    cases b <;> rfl
theorem ioV_none : ∀ (fl : List Bool) (vs : List V), fl.any id = false → ioV fl vs = []
  | [], _, _ => by unfold ioV; rfl
  | true :: fl, _, h => by simp at h
  | false :: fl, [], _ => rfl
  | false :: fl, v :: vs, h => by
    show ioV fl vs = []
    exact ioV_none fl vs (by simpa using h)
theorem ioV_false : ∀ (fl : List Bool) (vs us : List V) (n : Nat), fl.length = vs.length → ioV (fl ++ List.replicate n false) (vs ++ us) = ioV fl vs
  | [], [], us, n, _ => by
    show ioV (List.replicate n false) us = []
    exact ioV_none _ _ (by simp)
  | true :: fl, w :: vs, us, n, h => by
    show ioV (fl ++ List.replicate n false) (vs ++ us) ++ [w] = ioV fl vs ++ [w]
    rw [ioV_false fl vs us n (by simpa using h)]
  | false :: fl, w :: vs, us, n, h => by
    show ioV (fl ++ List.replicate n false) (vs ++ us) = ioV fl vs
    rw [ioV_false fl vs us n (by simpa using h)]
/-- how an argument comes: owned, or only read -/
def SArg.kinds : List SArg → List Bool
  | [] => []
  | .pur _ :: r => true :: SArg.kinds r
  | .int _ :: r => true :: SArg.kinds r
  | .plc _ _ :: r => false :: SArg.kinds r
  | .plt _ _ _ :: r => false :: SArg.kinds r
  | .put _ _ :: r => true :: SArg.kinds r
def Chn.kinds : Chn → List Bool
  | .fin hs => SArg.kinds hs
  | .own _ c => true :: c.kinds
  | .pur _ c => true :: c.kinds
  | .plc _ _ c => false :: c.kinds
  | .io _ c => true :: c.kinds
abbrev Kn := List D → DEnv → Out (D × List D × DEnv)
def evC : Chn → Kn → DEnv → Out (D × List D × DEnv)
  | .fin hs, k, env => must (evS hs env) fun ds => k ds env
  | .own f c, k, env => f env >>= fun p => evC c (fun ds e => k (p.1 :: ds) e) p.2
  | .pur h c, k, env => must (h env) fun d => evC c (fun ds e => k (d :: ds) e) env
  | .plc i g c, k, env => must (g env) fun d => evC c (fun ds e => k (d :: ds) e) (lock i env) >>= fun q => .ok (q.1, q.2.1, unlock env q.2.2)
  | .io j c, k, env => match env[j]? with
    | some (some (m, d)) => if m.mut = true then evC c (fun ds e => k (d :: ds) e) (env.set j none) >>= fun q => match q.2.1 with
        | o :: os => .ok (q.1, os, q.2.2.set j (some (m, o)))
        | [] => .bad
      else .bad
    | _ => .bad
def seqTE : List TE → L2.St → Hp → (List V → Hp → Prop) → Prop
  | [] => tNil
  | t :: ts => tCons t (seqTE ts)

/-- values at hand: owned ones (in Z), and such as are read in Y -/
def OwnT (G : Gc) (Y Z H : Hp) : List (Bool × D) → List V → List Addr → Prop
  | [], vs, F => vs = [] ∧ F = []
  | (o, d) :: r, vs, F => ∃ v rest F1 F2, vs = v :: rest ∧ F = F1 ++ F2 ∧ (match o with
      | true => Own G Z H d v F1
      | false => Own G Y H d v [] ∧ F1 = []) ∧ OwnT G Y Z H r rest F2

section
variable {G : Gc} {W : Wsh} {B Z H Z' H' Y Y' : Hp} {σ : L2.St} {env env' : DEnv} {Fs Fs' : Nat → List Addr} {P P' P1 : Addr → Prop}
theorem OwnT.snoc : ∀ {its : List (Bool × D)} {vs : List V} {F F1 : List Addr} {o : Bool} {d : D} {v : V}, OwnT G Y Z H its vs F → (match o with
      | true => Own G Z H d v F1
      | false => Own G Y H d v [] ∧ F1 = []) → OwnT G Y Z H (its ++ [(o, d)]) (vs ++ [v]) (F ++ F1)
  | [], vs, F, F1, o, d, v, h, h1 => by
    obtain ⟨rfl, rfl⟩ := h
    exact ⟨v, [], F1, [], rfl, by simp, h1, rfl, rfl⟩
  | (o', d') :: r, vs, F, F1, o, d, v, h, h1 => by
    obtain ⟨v', rest, F2, F3, rfl, rfl, h2, h3⟩ := h
    exact ⟨v', rest ++ [v], F2, F3 ++ F1, rfl, by rw [List.append_assoc], h2, OwnT.snoc h3 h1⟩
theorem OwnT.keep (hy : Same Y Y') (hz : Same Z Z') : ∀ {its : List (Bool × D)} {vs : List V} {F : List Addr}, (∀ b u, H b = some u → (b ∈ F ∨ Still u) → H' b = some u) → OwnT G Y Z H its vs F → OwnT G Y' Z' H' its vs F
  | [], _, _, _, h => h
  | (o, d) :: r, vs, F, k, h => by
    obtain ⟨v', rest, F2, F3, rfl, rfl, h2, h3⟩ := h
    refine ⟨v', rest, F2, F3, rfl, rfl, ?_, OwnT.keep hy hz (fun b u e m => k b u e (m.imp (fun z => List.mem_append_right _ z) id)) h3⟩
    cases o with
    | true => exact Own.keep hz d v' F2 (fun b u e m => k b u e (m.imp (fun z => List.mem_append_left _ z) id)) h2
    | false => exact ⟨Own.keep hy d v' [] (fun b u e m => k b u e (m.imp (fun z => by cases z) id)) h2.1, h2.2⟩
theorem OwnT.dom : ∀ {its : List (Bool × D)} {vs : List V} {F : List Addr}, OwnT G Y Z H its vs F → ∀ a ∈ F, ∃ o, H a = some o ∧ Mut (some o)
  | [], _, _, h => fun a m => by rw [h.2] at m; cases m
  | (o, d) :: r, vs, F, h => by
    obtain ⟨v', rest, F2, F3, rfl, rfl, h2, h3⟩ := h
    intro a m
    rcases List.mem_append.mp m with m | m
    · cases o with
      | true => exact Own.dom d v' F2 h2 a m
      | false => rw [h2.2] at m; cases m
    · exact OwnT.dom h3 a m
/-- all are read in the whole heap -/
theorem OwnT.reps (hy : Same Y H) (hz : Same Z H) : ∀ {its : List (Bool × D)} {vs : List V} {F : List Addr}, OwnT G Y Z H its vs F → OwnL G H H (its.map (·.2)) vs []
  | [], _, _, h => ⟨h.1, rfl⟩
  | (o, d) :: r, vs, F, h => by
    obtain ⟨v', rest, F2, F3, rfl, rfl, h2, h3⟩ := h
    refine OwnL.cons_nil ?_ (OwnT.reps hy hz h3)
    cases o with
    | true => exact Own.rep hz d v' F2 h2
    | false => exact Own.rep hy d v' [] h2.1
theorem OwnT.vlen : ∀ {its : List (Bool × D)} {vs : List V} {F : List Addr}, OwnT G Y Z H its vs F → vs.length = its.length
  | [], _, _, h => by rw [h.1]; rfl
  | (o, d) :: r, vs, F, h => by
    obtain ⟨v', rest, F2, F3, rfl, rfl, h2, h3⟩ := h
    rw [List.length_cons, List.length_cons, OwnT.vlen h3]

/-- the values at hand, apart from all else -/
structure Hand (G : Gc) (B Z H Y : Hp) (Fs : Nat → List Addr) (its : List (Bool × D)) (vs : List V) (T : List Addr) : Prop where
  own : OwnT G Y Z H its vs T
  nd : T.Nodup
  dj : ∀ a, a ∈ T → ¬ InF Fs a
  fr : ∀ a, a ∈ T → B a = none ∧ Z a = none
def PT_ (Fs : Nat → List Addr) (T : List Addr) : Addr → Prop := fun a => InF Fs a ∨ a ∈ T
theorem Hand.pm {its : List (Bool × D)} {vs : List V} {T : List Addr} (h : Hand G B Z H Y Fs its vs T) (g : Good G B Z H σ env Fs) : PMut H (PT_ Fs T) := fun a m => m.elim (fun z => g.dom z) fun z => h.own.dom a z
/-- what is wanted at the end, seen from further on -/
theorem FinO.later {Z1 H1 : Hp} {env1 : DEnv} {Fs1 : Nat → List Addr} {ios : List V} {o : Out (D × List D × DEnv)} {Q : VK} (s : Stp G B Z H σ env P Z1 H1 σ env1 Fs1) (hp : ∀ a, P1 a → H a = none ∨ P a) (h : FinO G W B Z H σ env P ios o Q) : FinO G W B Z1 H1 σ env1 P1 ios o Q := by
  unfold FinO at h ⊢
  match o, h with
  | .ok (d, outs, env'), h =>
    intro v Z' H' Fs' F p
    refine h v Z' H' Fs' F ⟨s.trans hp p.st, p.own, p.nd, p.dj, p.fr, fun a m => ?_⟩
    rcases p.new a m with z | z
    · cases q : H a with
      | none => exact .inl rfl
      | some u =>
        refine .inr ?_
        by_cases n : P a
        · exact n
        · have := s.ext a u q n
          rw [z] at this; cases this
    · exact hp a z
  | .exc c, h => exact h
/-- a lock behind -/
theorem FinO.unlock {i : Nat} {ios : List V} {o : Out (D × List D × DEnv)} {Q : VK} (g : Good G B Z H σ env Fs) (pm : PMut H P') (hp : ∀ a, P' a → P a ∧ a ∉ Fs i) (hi : ∀ a, a ∈ Fs i → P a)
    (h : FinO G W B Z H σ env P ios (o >>= fun q => .ok (q.1, q.2.1, DL.unlock env q.2.2)) Q) : FinO G W (lockB B H Fs i) Z H σ (DL.lock i env) P' ios o Q := by
  unfold FinO at h ⊢
  match o, h with
  | .ok (d, outs, env'), h =>
    intro v Z' H' Fs' F p
    refine h v Z' H' (backF env Fs Fs' i) F ⟨p.st.unlock g pm hp hi, p.own, p.nd, fun a m n => ?_, fun a m => ?_, fun a m => (p.new a m).imp id fun z => (hp a z).1⟩
    · obtain ⟨j, n⟩ := n
      rcases backF_mem n with ⟨_, n⟩ | n
      · have q := (p.fr a m).1
        unfold lockB at q
        rw [lay_in n] at q
        obtain ⟨u, e, _⟩ := g.dom ⟨i, n⟩
        rw [e] at q; cases q
      · exact p.dj a m ⟨j, n⟩
    · refine ⟨?_, (p.fr a m).2⟩
      cases q : B a with
      | none => rfl
      | some u =>
        have := lockB_up g i a u q
        rw [(p.fr a m).1] at this
        cases this
  | .exc c, h => exact fun H' hs => h H' ((lockB_up g i).trans hs)

/-- slot j's value taken out -/
theorem Good.take (g : Good G B Z H σ env Fs) (j : Nat) : Good G B Z H σ (env.set j none) (offF Fs j) where
  sb := g.sb
  sz := g.sz
  z0 := g.z0
  gb := g.gb
  len := by rw [List.length_set]; exact g.len
  sl := fun i => by
    by_cases e : j = i
    · subst e
      have eo : offF Fs j j = [] := by unfold offF; rw [if_pos rfl]
      rw [eo, List.getElem?_set_self']
      cases env[j]? <;> rfl
    · have eo : offF Fs j i = Fs i := by unfold offF; rw [if_neg (fun z => e z.symm)]
      rw [eo, List.getElem?_set_ne e]
      exact g.sl i
  nd := fun i => by unfold offF; split; exact List.nodup_nil; exact g.nd i
  dj := fun i k a m n => by
    unfold offF at m n
    split at m
    · cases m
    · split at n
      · cases n
      · exact g.dj i k a m n
  fr := fun i a m => by
    unfold offF at m
    split at m
    · cases m
    · exact g.fr i a m
/-- slot j given a value of its own that stands where its name points -/
theorem Good.give {m : Md} {d : D} {v : V} {F : List Addr} {j : Nat} (g : Good G B Z H σ env Fs) (hm : m.mut = true) (hv : σ[j]? = some (some v)) (hl : j < env.length) (t : Tm G B Z H (InF Fs) d v F) : Good G B Z H σ (env.set j (some (m, d))) (onF Fs j F) where
  sb := g.sb
  sz := g.sz
  z0 := g.z0
  gb := g.gb
  len := by rw [List.length_set]; exact g.len
  sl := fun i => by
    by_cases e : j = i
    · subst e
      have eo : onF Fs j F j = F := by unfold onF; rw [if_pos rfl]
      rw [eo, List.getElem?_set_self hl]
      cases m with
      | own => exact ⟨v, hv, t.own⟩
      | io => exact ⟨v, hv, t.own⟩
      | shr => cases hm
      | brw => cases hm
      | lck => cases hm
    · have eo : onF Fs j F i = Fs i := by unfold onF; rw [if_neg (fun z => e z.symm)]
      rw [eo, List.getElem?_set_ne e]
      exact g.sl i
  nd := fun i => by unfold onF; split; exact t.nd; exact g.nd i
  dj := fun i k a m n => by
    unfold onF at m n
    split at m
    · split at n
      · rename_i e1 e2; rw [e1, e2]
      · exact absurd ⟨k, n⟩ (t.dj a m)
    · split at n
      · exact absurd ⟨i, m⟩ (t.dj a n)
      · exact g.dj i k a m n
  fr := fun i a m => by
    unfold onF at m
    split at m
    · exact t.fr a m
    · exact g.fr i a m
end
theorem cut_mono {H H' : Hp} {T : List Addr} (h : Same H H') : Same (cut H T) (cut H' T) := fun a u e => by
  unfold cut at e ⊢
  split at e
  · cases e
  · rename_i n
    rw [if_neg n]
    exact h _ _ e
/-- arguments that change nothing, read from the left -/
theorem evS_ok {G : Gc} {T_ : List Addr} {B Z : Hp} {σ : L2.St} {env : DEnv} {Fs : Nat → List Addr} (hT : ∀ a, a ∈ T_ → ¬ InF Fs a ∧ B a = none ∧ Z a = none) :
    ∀ (hs : List SArg) (ds : List D) (H : Hp) (R : List V → Hp → Prop), Good G B Z H σ env Fs → evS hs env = some ds → (∀ vs H', Same H H' → OwnT G (cut H' T_) Z H' ((SArg.kinds hs).zip ds) vs [] → ds.length = hs.length → R vs H') → seqTE (hs.map (SArg.te G)) σ H R
  | [], ds, H, R, g, e, h => by
    have e : some [] = some ds := e
    cases e
    exact h [] H (Same.refl H) ⟨rfl, rfl⟩ rfl
  | a :: r, ds, H, R, g, e, h => by
    have e : (match a.val env with
      | some d => match evS r env with
        | some ds => some (d :: ds)
        | none => none
      | none => none) = some ds := e
    cases ha : a.val env with
    | none => rw [ha] at e; cases e
    | some d =>
      rw [ha] at e
      cases hr : evS r env with
      | none => rw [hr] at e; cases e
      | some ds' =>
        rw [hr] at e
        cases e
        have go : ∀ (v : V) (o : Bool) (H1 : Hp), Same H H1 → (SArg.kinds (a :: r)) = o :: SArg.kinds r → (match o with
            | true => Own G Z H1 d v []
            | false => Own G (cut H1 T_) H1 d v [] ∧ ([] : List Addr) = []) → seqTE (r.map (SArg.te G)) σ H1 (fun xs H2 => R (v :: xs) H2) := fun v o H1 hs1 ek hv =>
          evS_ok hT r ds' H1 _ (g.grow hs1) hr fun vs H2 hs2 hvs hl => h (v :: vs) H2 (hs1.trans hs2) (by
            rw [ek]
            refine ⟨v, vs, [], [], rfl, rfl, ?_, hvs⟩
            cases o with
            | true => exact Own.keep (Same.refl Z) d v [] (fun b u e _ => hs2 b u e) hv
            | false => exact ⟨Own.keep (cut_mono hs2) d v [] (fun b u e _ => hs2 b u e) hv.1, rfl⟩) (by rw [List.length_cons, List.length_cons, hl])
        cases a with
        | pur f =>
          refine ⟨B, Z, Fs, env, g, d, ha, fun v H1 hs1 hp hv => ?_⟩
          exact go v true H1 hs1 rfl (hv Z)
        | int f =>
          have ha : (match f env with
            | some d => onlyInt d
            | none => none) = some d := ha
          cases hf : f env with
          | none => rw [hf] at ha; cases ha
          | some d0 =>
            rw [hf] at ha
            obtain ⟨n, rfl, rfl⟩ := onlyInt_some ha
            exact ⟨B, Z, Fs, env, g, n, hf, fun H1 hs1 => go (.int n) true H1 hs1 rfl ⟨rfl, rfl⟩⟩
        | put f T =>
          have ha : (match f env with
            | some d => onlyT T d
            | none => none) = some d := ha
          cases hf : f env with
          | none => rw [hf] at ha; cases ha
          | some d0 =>
            rw [hf] at ha
            obtain ⟨rfl, ht⟩ := onlyT_some ha
            refine ⟨B, Z, Fs, env, g, d0, hf, ht, fun v H1 hs1 hp hv => ?_⟩
            exact go v true H1 hs1 rfl (hv Z)
        | plt i f T =>
          have ha : (match f env with
            | some d => onlyT T d
            | none => none) = some d := ha
          cases hf : f env with
          | none => rw [hf] at ha; cases ha
          | some d0 =>
            rw [hf] at ha
            obtain ⟨rfl, ht⟩ := onlyT_some ha
            refine ⟨B, Z, Fs, env, g, d0, hf, ht, fun v H1 hs1 hv => ?_⟩
            refine go v false H1 hs1 rfl ⟨Own.keep (fun a u e => ?_) d0 v [] (fun _ _ e _ => e) hv, rfl⟩
            have hH : H1 a = some u := joi_le (lockB_le (g.grow hs1) i) (g.grow hs1).sz a u e
            have hn : a ∉ T_ := fun m => by
              obtain ⟨n, b, z⟩ := hT a m
              have : joi (lockB B H1 Fs i) Z a = none := joi_none (by unfold lockB; rw [lay_out (fun q => n ⟨i, q⟩)]; exact b) z
              rw [this] at e; cases e
            rw [cut_out hn]
            exact hH
        | plc i f =>
          refine ⟨B, Z, Fs, env, g, d, ha, fun v H1 hs1 hv => ?_⟩
          refine go v false H1 hs1 rfl ⟨Own.keep (fun a u e => ?_) d v [] (fun _ _ e _ => e) hv, rfl⟩
          have hH : H1 a = some u := joi_le (lockB_le (g.grow hs1) i) (g.grow hs1).sz a u e
          have hn : a ∉ T_ := fun m => by
            obtain ⟨n, b, z⟩ := hT a m
            have : joi (lockB B H1 Fs i) Z a = none := joi_none (by unfold lockB; rw [lay_out (fun q => n ⟨i, q⟩)]; exact b) z
            rw [this] at e; cases e
          rw [cut_out hn]
          exact hH

/-- .. at some slots -/
def KOkS (G : Gc) (W : Wsh) (σ : L2.St) (fl : List Bool) (bs : List Bool) (r : List V → Hp → VK → Prop) (k : Kn) : Prop :=
  ∀ (B Z H : Hp) (env : DEnv) (Fs : Nat → List Addr) (its : List (Bool × D)) (vs : List V) (T : List Addr) (ios : List V) (Q : VK), Good G B Z H σ env Fs → Hand G B Z H (cut H T) Fs its vs T → its.map (·.1) = bs → ios = ioV fl vs →
    FinO G W B Z H σ env (PT_ Fs T) ios (k (its.map (·.2)) env) Q → r vs H Q
/-- an operation on values at hand, as a function on data: fl tells the arguments that it changes and hands back, bs which are owned -/
def KOk (G : Gc) (W : Wsh) (fl : List Bool) (bs : List Bool) (r : List V → Hp → VK → Prop) (k : Kn) : Prop :=
  ∀ (B Z H : Hp) (σ : L2.St) (env : DEnv) (Fs : Nat → List Addr) (its : List (Bool × D)) (vs : List V) (T : List Addr) (ios : List V) (Q : VK), Good G B Z H σ env Fs → Hand G B Z H (cut H T) Fs its vs T → its.map (·.1) = bs → ios = ioV fl vs →
    FinO G W B Z H σ env (PT_ Fs T) ios (k (its.map (·.2)) env) Q → r vs H Q

theorem map_fst_zip {α β : Type} : ∀ (l : List α) (m : List β), l.length ≤ m.length → (l.zip m).map (·.1) = l
  | [], _, _ => rfl
  | a :: l, [], h => by simp at h
  | a :: l, b :: m, h => by
    show a :: (l.zip m).map (·.1) = a :: l
    rw [map_fst_zip l m (by simpa using h)]
theorem map_snd_zip {α β : Type} : ∀ (l : List α) (m : List β), m.length ≤ l.length → (l.zip m).map (·.2) = m
  | [], [], _ => rfl
  | [], b :: m, h => by simp at h
  | a :: l, [], _ => rfl
  | a :: l, b :: m, h => by
    show b :: (l.zip m).map (·.2) = b :: m
    rw [map_snd_zip l m (by simpa using h)]
theorem SArg.kinds_length : ∀ hs : List SArg, (SArg.kinds hs).length = hs.length
  | [] => rfl
  | .pur _ :: r => by show (SArg.kinds r).length + 1 = r.length + 1; rw [SArg.kinds_length r]
  | .int _ :: r => by show (SArg.kinds r).length + 1 = r.length + 1; rw [SArg.kinds_length r]
  | .plc _ _ :: r => by show (SArg.kinds r).length + 1 = r.length + 1; rw [SArg.kinds_length r]
  | .plt _ _ _ :: r => by show (SArg.kinds r).length + 1 = r.length + 1; rw [SArg.kinds_length r]
  | .put _ _ :: r => by show (SArg.kinds r).length + 1 = r.length + 1; rw [SArg.kinds_length r]
theorem OwnT.app {G : Gc} {Y Z H : Hp} : ∀ {its js : List (Bool × D)} {vs us : List V} {F F1 : List Addr}, OwnT G Y Z H its vs F → OwnT G Y Z H js us F1 → OwnT G Y Z H (its ++ js) (vs ++ us) (F ++ F1)
  | [], js, vs, us, F, F1, h, h1 => by
    obtain ⟨rfl, rfl⟩ := h
    exact h1
  | (o', d') :: r, js, vs, us, F, F1, h, h1 => by
    obtain ⟨v', rest, F2, F3, rfl, rfl, h2, h3⟩ := h
    exact ⟨v', rest ++ us, F2, F3 ++ F1, rfl, by rw [List.append_assoc], h2, OwnT.app h3 h1⟩

/-- THE CHAIN: arguments from the left, then the operation -/
theorem chn_okS {G : Gc} {W : Wsh} {σ : L2.St} {fl bs : List Bool} {r : List V → Hp → VK → Prop} {k : Kn} (hk : KOkS G W σ fl bs r k) {Q : VK} :
    ∀ (c : Chn) (B Z H : Hp) (env : DEnv) (Fs : Nat → List Addr) (its : List (Bool × D)) (vs : List V) (T : List Addr) (ios : List V) (f0 : List Bool), Good G B Z H σ env Fs → Hand G B Z H (joi B Z) Fs its vs T → its.map (·.1) ++ c.kinds = bs → (f0 ++ c.iofs = fl ∧ f0.length = vs.length ∧ ios = ioV f0 vs) →
      FinO G W B Z H σ env (PT_ Fs T) ios (evC c (fun ds e => k (its.map (·.2) ++ ds) e) env) Q → seqTE (c.tes G W) σ H (fun us H1 => r (vs ++ us) H1 Q)
  | .fin hs, B, Z, H, env, Fs, its, vs, T, ios, f0, g, hT, hb, hn, hF => by
    have e0 : evC (.fin hs) (fun ds e => k (its.map (·.2) ++ ds) e) env = (must (evS hs env) fun ds => k (its.map (·.2) ++ ds) env) := rfl
    rw [e0] at hF
    cases hr : evS hs env with
    | none => rw [hr] at hF; exact hF.elim
    | some ds =>
      rw [hr] at hF
      refine evS_ok (T_ := T) (fun a m => ⟨hT.dj a m, hT.fr a m⟩) hs ds H _ g hr fun us H1 hs1 hu hl => ?_
      have hlk : (SArg.kinds hs).length = ds.length := by rw [SArg.kinds_length, hl]
      have e1 : its.map (·.2) ++ ds = (its ++ (SArg.kinds hs).zip ds).map (·.2) := by rw [List.map_append, map_snd_zip _ _ (Nat.le_of_eq hlk.symm)]
      have e2 : (its ++ (SArg.kinds hs).zip ds).map (·.1) = bs := by
        rw [List.map_append, map_fst_zip _ _ (Nat.le_of_eq hlk)]
        exact hb
      have hF' : FinO G W B Z H σ env (PT_ Fs T) ios (k ((its ++ (SArg.kinds hs).zip ds).map (·.2)) env) Q := by
        rw [← e1]
        exact hF
      have hF2 : FinO G W B Z H1 σ env (PT_ Fs T) ios (k ((its ++ (SArg.kinds hs).zip ds).map (·.2)) env) Q := FinO.later (Stp.grow (P := PT_ Fs T) g (fun a m => .inl m) hs1) (fun a m => .inr m) hF'
      have hY : Same (joi B Z) (cut H1 T) := fun a u e => by
        have h1 : a ∉ T := fun m => by rw [joi_none (hT.fr a m).1 (hT.fr a m).2] at e; cases e
        rw [cut_out h1]
        exact hs1 a u (joi_le g.sb g.sz a u e)
      have hio : ios = ioV fl (vs ++ us) := by
        obtain ⟨n1, n2, n3⟩ := hn
        rw [n3, ← n1]
        show _ = ioV (f0 ++ hs.map fun _ => false) (vs ++ us)
        rw [show (hs.map fun _ => false) = List.replicate hs.length false from by rw [List.map_const'] , ioV_false f0 vs us _ n2]
      refine hk B Z H1 env Fs _ (vs ++ us) T ios Q (g.grow hs1) ⟨?_, hT.nd, hT.dj, hT.fr⟩ e2 hio hF2
      have q := OwnT.app (OwnT.keep hY (Same.refl Z) (fun b u e _ => hs1 b u e) hT.own) hu
      rw [List.append_nil] at q
      exact q
  | .own f c, B, Z, H, env, Fs, its, vs, T, ios, f0, g, hT, hb, hn, hF => by
    refine ⟨B, Z, Fs, env, g, ?_⟩
    have e0 : evC (.own f c) (fun ds e => k (its.map (·.2) ++ ds) e) env = (f env >>= fun p => evC c (fun ds e => k (its.map (·.2) ++ p.1 :: ds) e) p.2) := rfl
    rw [e0] at hF
    cases hr : f env with
    | bad => rw [hr] at hF; exact hF.elim
    | exc c => rw [hr] at hF; exact hF
    | ok p =>
      obtain ⟨d, env1⟩ := p
      rw [hr] at hF
      simp only [Out.bind_ok] at hF
      intro v Z1 H1 Fs1 F1 p1
      have ho : Own G Z1 H1 d v F1 := by
        obtain ⟨v', r', Fa, Fb, e1, e2, h1, h2⟩ := p1.own
        cases e1
        obtain ⟨_, rfl⟩ := h2
        rw [List.append_nil] at e2
        rw [e2]
        exact h1
      have pmF : PMut H (InF Fs) := g.pm
      have hp1 : ∀ a, PT_ Fs1 (T ++ F1) a → H a = none ∨ PT_ Fs T a := fun a m => by
        rcases m with m | m
        · exact (p1.st.new a m).imp id .inl
        · rcases List.mem_append.mp m with m | m
          · exact .inr (.inr m)
          · exact (p1.new a m).imp id .inl
      have kk : ∀ (b : Addr) (u : HO), H b = some u → (b ∈ T ∨ Still u) → H1 b = some u := fun b u e m => p1.st.ext b u e (by
        rcases m with m | nm
        · exact hT.dj b m
        · exact g.tup e nm)
      have hT1 : Hand G B Z1 H1 (joi B Z1) Fs1 (its ++ [(true, d)]) (vs ++ [v]) (T ++ F1) := by
        refine ⟨OwnT.snoc (o := true) (OwnT.keep (joi_mono (Same.refl B) p1.st.zz p1.st.good.sb p1.st.good.sz) p1.st.zz kk hT.own) ho, ?_, fun a m n => ?_, fun a m => ?_⟩
        · refine List.nodup_append.mpr ⟨hT.nd, p1.nd, fun a m b n => ?_⟩
          rintro rfl
          obtain ⟨u, e, _⟩ := hT.own.dom a m
          rcases p1.new a n with z | z
          · rw [e] at z; cases z
          · exact hT.dj a m z
        · rcases List.mem_append.mp m with m | m
          · obtain ⟨u, e, _⟩ := hT.own.dom a m
            rcases p1.st.new a n with z | z
            · rw [e] at z; cases z
            · exact hT.dj a m z
          · exact p1.dj a m n
        · rcases List.mem_append.mp m with m | m
          · refine ⟨(hT.fr a m).1, ?_⟩
            cases q : Z1 a with
            | none => rfl
            | some w =>
              obtain ⟨u, e, _⟩ := hT.own.dom a m
              rcases p1.st.newz a (by rw [q]; simp) with z | z | z
              · exact absurd (hT.fr a m).2 z
              · rw [e] at z; cases z
              · exact absurd z (hT.dj a m)
          · exact p1.fr a m
      have hF1 : FinO G W B Z1 H1 σ env1 (PT_ Fs1 (T ++ F1)) ios (evC c (fun ds e => k ((its ++ [(true, d)]).map (·.2) ++ ds) e) env1) Q := by
        have e3 : (fun (ds : List D) (e : DEnv) => k (its.map (·.2) ++ d :: ds) e) = fun ds e => k ((its ++ [(true, d)]).map (·.2) ++ ds) e := by
          funext ds e
          rw [List.map_append, List.append_assoc]
          rfl
        rw [← e3]
        exact FinO.later (p1.st.more fun a m => .inl m) hp1 hF
      have rec' := chn_okS hk c B Z1 H1 env1 Fs1 (its ++ [(true, d)]) (vs ++ [v]) (T ++ F1) ios (f0 ++ [false]) p1.st.good hT1 (by rw [List.map_append, List.append_assoc]; exact hb) ⟨by rw [List.append_assoc]; exact hn.1, by rw [List.length_append, List.length_append, hn.2.1]; rfl, by rw [ioV_snoc f0 vs false v hn.2.1]; exact hn.2.2⟩ hF1
      have e4 : (fun (us : List V) (H2 : Hp) => r ((vs ++ [v]) ++ us) H2 Q) = fun us H2 => r (vs ++ v :: us) H2 Q := by
        funext us H2
        rw [List.append_assoc]
        rfl
      rw [e4] at rec'
      exact rec'
  | .pur h c, B, Z, H, env, Fs, its, vs, T, ios, f0, g, hT, hb, hn, hF => by
    have e0 : evC (.pur h c) (fun ds e => k (its.map (·.2) ++ ds) e) env = (must (h env) fun d => evC c (fun ds e => k (its.map (·.2) ++ d :: ds) e) env) := rfl
    rw [e0] at hF
    cases hr : h env with
    | none => rw [hr] at hF; exact hF.elim
    | some d =>
      rw [hr] at hF
      refine ⟨B, Z, Fs, env, g, d, hr, fun v H1 hs1 hp hv => ?_⟩
      have hT1 : Hand G B Z H1 (joi B Z) Fs (its ++ [(true, d)]) (vs ++ [v]) T := by
        have q := OwnT.snoc (o := true) (F1 := []) (OwnT.keep (Same.refl _) (Same.refl Z) (fun b u e _ => hs1 b u e) hT.own) (hv Z)
        rw [List.append_nil] at q
        exact ⟨q, hT.nd, hT.dj, hT.fr⟩
      have e3 : (fun (ds : List D) (e : DEnv) => k (its.map (·.2) ++ d :: ds) e) = fun ds e => k ((its ++ [(true, d)]).map (·.2) ++ ds) e := by
        funext ds e
        rw [List.map_append, List.append_assoc]
        rfl
      have hF : FinO G W B Z H σ env (PT_ Fs T) ios (evC c (fun ds e => k (its.map (·.2) ++ d :: ds) e) env) Q := hF
      rw [e3] at hF
      have hF := FinO.later (Stp.grow (P := PT_ Fs T) g (fun a m => .inl m) hs1) (fun a m => .inr m) hF
      have rec' := chn_okS hk c B Z H1 env Fs (its ++ [(true, d)]) (vs ++ [v]) T ios (f0 ++ [false]) (g.grow hs1) hT1 (by rw [List.map_append, List.append_assoc]; exact hb) ⟨by rw [List.append_assoc]; exact hn.1, by rw [List.length_append, List.length_append, hn.2.1]; rfl, by rw [ioV_snoc f0 vs false v hn.2.1]; exact hn.2.2⟩ hF
      have e4 : (fun (us : List V) (H2 : Hp) => r ((vs ++ [v]) ++ us) H2 Q) = fun us H2 => r (vs ++ v :: us) H2 Q := by
        funext us H2
        rw [List.append_assoc]
        rfl
      rw [e4] at rec'
      exact rec'
  | .plc i f c, B, Z, H, env, Fs, its, vs, T, ios, f0, g, hT, hb, hn, hF => by
    have e0 : evC (.plc i f c) (fun ds e => k (its.map (·.2) ++ ds) e) env = (must (f env) fun d => evC c (fun ds e => k (its.map (·.2) ++ d :: ds) e) (lock i env) >>= fun q => .ok (q.1, q.2.1, unlock env q.2.2)) := rfl
    rw [e0] at hF
    cases hr : f env with
    | none => rw [hr] at hF; exact hF.elim
    | some d =>
      rw [hr] at hF
      have hF0 : FinO G W B Z H σ env (PT_ Fs T) ios (evC c (fun ds e => k (its.map (·.2) ++ d :: ds) e) (lock i env) >>= fun q => .ok (q.1, q.2.1, unlock env q.2.2)) Q := hF
      refine ⟨B, Z, Fs, env, g, d, hr, fun v H1 hs1 hv => ?_⟩
      have hF := FinO.later (Stp.grow (P := PT_ Fs T) g (fun a m => .inl m) hs1) (fun a m => .inr m) hF0
      have g1 := g.grow hs1
      have hdT : ∀ a, a ∈ T → a ∉ Fs i := fun a m n => hT.dj a m ⟨i, n⟩
      have hT1 : Hand G (lockB B H1 Fs i) Z H1 (joi (lockB B H1 Fs i) Z) (offF Fs i) (its ++ [(false, d)]) (vs ++ [v]) T := by
        have q := OwnT.snoc (o := false) (F1 := []) (OwnT.keep (joi_mono (lockB_up g1 i) (Same.refl Z) (lockB_le g1 i) g1.sz) (Same.refl Z) (fun b u e _ => hs1 b u e) hT.own) ⟨hv, rfl⟩
        rw [List.append_nil] at q
        refine ⟨q, hT.nd, fun a m n => hT.dj a m (inF_off n), fun a m => ⟨?_, (hT.fr a m).2⟩⟩
        unfold lockB
        rw [lay_out (hdT a m)]
        exact (hT.fr a m).1
      have hpp : ∀ a, PT_ (offF Fs i) T a → PT_ Fs T a ∧ a ∉ Fs i := fun a m => by
        rcases m with m | m
        · refine ⟨.inl (inF_off m), fun n => ?_⟩
          obtain ⟨j, m⟩ := m
          unfold offF at m
          split at m
          · cases m
          · rename_i hne
            exact hne (g.dj j i a m n)
        · exact ⟨.inr m, hdT a m⟩
      have hF1 := FinO.unlock (P' := PT_ (offF Fs i) T) g1 (hT1.pm (g1.lock i)) hpp (fun a m => .inl ⟨i, m⟩) hF
      have e3 : (fun (ds : List D) (e : DEnv) => k (its.map (·.2) ++ d :: ds) e) = fun ds e => k ((its ++ [(false, d)]).map (·.2) ++ ds) e := by
        funext ds e
        rw [List.map_append, List.append_assoc]
        rfl
      rw [e3] at hF1
      have rec' := chn_okS hk c (lockB B H1 Fs i) Z H1 (lock i env) (offF Fs i) (its ++ [(false, d)]) (vs ++ [v]) T ios (f0 ++ [false]) (g1.lock i) hT1 (by rw [List.map_append, List.append_assoc]; exact hb) ⟨by rw [List.append_assoc]; exact hn.1, by rw [List.length_append, List.length_append, hn.2.1]; rfl, by rw [ioV_snoc f0 vs false v hn.2.1]; exact hn.2.2⟩ hF1
      have e4 : (fun (us : List V) (H2 : Hp) => r ((vs ++ [v]) ++ us) H2 Q) = fun us H2 => r (vs ++ v :: us) H2 Q := by
        funext us H2
        rw [List.append_assoc]
        rfl
      rw [e4] at rec'
      exact rec'
  | .io j c, B, Z, H, env, Fs, its, vs, T, ios, f0, g, hT, hb, hn, hF => by
    cases hs : env[j]? with
    | none =>
      have e0 : evC (.io j c) (fun ds e => k (its.map (·.2) ++ ds) e) env = .bad := by unfold evC; rw [hs]
      rw [e0] at hF; exact hF.elim
    | some sl =>
      match sl, hs with
      | none, hs =>
        have e0 : evC (.io j c) (fun ds e => k (its.map (·.2) ++ ds) e) env = .bad := by unfold evC; rw [hs]
        rw [e0] at hF; exact hF.elim
      | some (m, d), hs =>
        by_cases hm : m.mut = true
        · have e0 : evC (.io j c) (fun ds e => k (its.map (·.2) ++ ds) e) env = (evC c (fun ds e => k (its.map (·.2) ++ d :: ds) e) (env.set j none) >>= fun (q : D × List D × DEnv) => match q.2.1 with
              | o :: os => Out.ok (q.1, os, q.2.2.set j (some (m, o)))
              | [] => Out.bad) := by
            rw [evC, hs]
            exact if_pos hm
          rw [e0] at hF
          -- slot j's value
          have hsl := g.sl j
          rw [hs] at hsl
          obtain ⟨v, ev, hv⟩ : ∃ v, σ[j]? = some (some v) ∧ Own G Z H d v (Fs j) := by
            obtain ⟨v, ev, hv⟩ := hsl
            cases m with
            | own => exact ⟨v, ev, hv⟩
            | io => exact ⟨v, ev, hv⟩
            | shr => cases hm
            | brw => cases hm
            | lck => cases hm
          refine ⟨v, ev, ?_⟩
          have g1 := g.take j
          have hdT : ∀ a, a ∈ T → a ∉ Fs j := fun a m n => hT.dj a m ⟨j, n⟩
          have off_j : ∀ a, InF (offF Fs j) a → a ∉ Fs j := fun a m n => by
            obtain ⟨i, m⟩ := m
            unfold offF at m
            split at m
            · cases m
            · rename_i hne
              exact hne (g.dj i j a m n)
          have hT1 : Hand G B Z H (joi B Z) (offF Fs j) (its ++ [(true, d)]) (vs ++ [v]) (T ++ Fs j) := by
            refine ⟨OwnT.snoc (o := true) hT.own hv, List.nodup_append.mpr ⟨hT.nd, g.nd j, fun a m b n => ?_⟩, fun a m n => ?_, fun a m => ?_⟩
            · rintro rfl
              exact hdT a m n
            · rcases List.mem_append.mp m with m | m
              · exact hT.dj a m (inF_off n)
              · exact off_j a n m
            · rcases List.mem_append.mp m with m | m
              · exact hT.fr a m
              · exact g.fr j a m
          have hpp : ∀ a, PT_ (offF Fs j) (T ++ Fs j) a → PT_ Fs T a := fun a m => by
            rcases m with m | m
            · exact .inl (inF_off m)
            · rcases List.mem_append.mp m with m | m
              · exact .inr m
              · exact .inl ⟨j, m⟩
          have hjl : j < env.length := (List.getElem?_eq_some_iff.mp hs).1
          have hF1 : FinO G W B Z H σ (env.set j none) (PT_ (offF Fs j) (T ++ Fs j)) (v :: ios) (evC c (fun ds e => k (its.map (·.2) ++ d :: ds) e) (env.set j none)) Q := by
            generalize evC c (fun ds e => k (its.map (·.2) ++ d :: ds) e) (env.set j none) = oo at hF
            unfold FinO at hF ⊢
            match oo, hF with
            | .exc c', hF => exact hF
            | .ok (d', [], env'), hF => exact hF.elim
            | .ok (d', o :: os, env'), hF =>
              intro v' Z' H' Fs' F p
              obtain ⟨w1, r1, Fa, Fb, ea, eb, ha, hb'⟩ := p.own
              obtain ⟨rfl, rfl⟩ := List.cons.inj ea
              obtain ⟨w2, r2, Fc, Fd, ec, ed, hc, hd'⟩ := hb'
              cases ec
              subst ed
              subst eb
              have nd0 := List.nodup_append.mp p.nd
              have nd1 := List.nodup_append.mp nd0.2.1
              have memc : ∀ a, a ∈ Fc → a ∈ Fa ++ (Fc ++ Fd) := fun a m => List.mem_append_right _ (List.mem_append_left _ m)
              have tm : Tm G B Z' H' (InF Fs') o v Fc := ⟨hc, nd1.1, fun a m n => p.dj a (memc a m) n, fun a m => p.fr a (memc a m)⟩
              have ls : env'.length = env.length := by rw [p.st.ln, List.length_set]
              have g2 := p.st.good.give hm ev (by rw [ls]; exact hjl) tm
              have nj : ∀ i, i ≠ j → (env.set j none)[i]? = env[i]? := fun i h => List.getElem?_set_ne (fun z => h z.symm)
              have nj' : ∀ i, i ≠ j → (env'.set j (some (m, o)))[i]? = env'[i]? := fun i h => List.getElem?_set_ne (fun z => h z.symm)
              have at_j : (env'.set j (some (m, o)))[j]? = some (some (m, o)) := List.getElem?_set_self (by rw [ls]; exact hjl)
              refine hF v' Z' H' (onF Fs' j Fc) (Fa ++ Fd) ⟨⟨p.st.zz, fun a u e n => p.st.ext a u e fun z => n (hpp a z), g2, fun a mm => ?_, fun a mm => ?_, fun i d2 e => ?_, fun i d2 e => ?_, fun i d2 e => ?_, fun i d2 e => ?_, by rw [List.length_set]; exact ls⟩, ⟨v', _, Fa, Fd, rfl, rfl, ha, hd'⟩, ?_, fun a mm n => ?_, fun a mm => ?_, fun a mm => ?_⟩
              · rcases inF_on mm with mm | mm
                · exact (p.new a (memc a mm)).imp id (hpp a)
                · exact (p.st.new a mm).imp id (hpp a)
              · exact (p.st.newz a mm).imp id fun z => z.imp id (hpp a)
              · by_cases hi : i = j
                · subst hi
                  rw [hs] at e
                  cases e
                  exact ⟨⟨o, at_j⟩, rfl⟩
                · rw [nj' i hi]
                  exact p.st.io i d2 (by rw [nj i hi]; exact e)
              · by_cases hi : i = j
                · subst hi
                  rw [hs] at e
                  cases e
                  cases hm
                · rw [nj' i hi]
                  exact p.st.lk i d2 (by rw [nj i hi]; exact e)
              · by_cases hi : i = j
                · subst hi
                  rw [at_j] at e
                  cases e
                  cases hm
                · rw [nj' i hi] at e
                  have q := p.st.bw i d2 e
                  rw [nj i hi] at q
                  exact q
              · by_cases hi : i = j
                · subst hi
                  rw [at_j] at e
                  cases e
                  cases hm
                · rw [nj' i hi] at e
                  have q := p.st.lb i d2 e
                  rw [nj i hi] at q
                  exact q
              · exact List.nodup_append.mpr ⟨nd0.1, nd1.2.1, fun a m1 b m2 => nd0.2.2 a m1 b (List.mem_append_right _ m2)⟩
              · rcases inF_on n with n | n
                · rcases List.mem_append.mp mm with mm | mm
                  · exact nd0.2.2 a mm a (List.mem_append_left _ n) rfl
                  · exact nd1.2.2 a n a mm rfl
                · refine p.dj a ?_ n
                  rcases List.mem_append.mp mm with mm | mm
                  · exact List.mem_append_left _ mm
                  · exact List.mem_append_right _ (List.mem_append_right _ mm)
              · refine p.fr a ?_
                rcases List.mem_append.mp mm with mm | mm
                · exact List.mem_append_left _ mm
                · exact List.mem_append_right _ (List.mem_append_right _ mm)
              · refine (p.new a ?_).imp id (hpp a)
                rcases List.mem_append.mp mm with mm | mm
                · exact List.mem_append_left _ mm
                · exact List.mem_append_right _ (List.mem_append_right _ mm)
          have e3 : (fun (ds : List D) (e : DEnv) => k (its.map (·.2) ++ d :: ds) e) = fun ds e => k ((its ++ [(true, d)]).map (·.2) ++ ds) e := by
            funext ds e
            rw [List.map_append, List.append_assoc]
            rfl
          rw [e3] at hF1
          have rec' := chn_okS hk c B Z H (env.set j none) (offF Fs j) (its ++ [(true, d)]) (vs ++ [v]) (T ++ Fs j) (v :: ios) (f0 ++ [true]) g1 hT1 (by rw [List.map_append, List.append_assoc]; exact hb) ⟨by rw [List.append_assoc]; exact hn.1, by rw [List.length_append, List.length_append, hn.2.1]; rfl, by rw [ioV_snoc f0 vs true v hn.2.1, hn.2.2]; rfl⟩ hF1
          have e4 : (fun (us : List V) (H2 : Hp) => r ((vs ++ [v]) ++ us) H2 Q) = fun us H2 => r (vs ++ v :: us) H2 Q := by
            funext us H2
            rw [List.append_assoc]
            rfl
          rw [e4] at rec'
          exact rec'
        · have e0 : evC (.io j c) (fun ds e => k (its.map (·.2) ++ ds) e) env = .bad := by
            unfold evC
            rw [hs]
            exact if_neg hm
          rw [e0] at hF; exact hF.elim
theorem chn_ok {G : Gc} {W : Wsh} {fl bs : List Bool} {r : List V → Hp → VK → Prop} {k : Kn} (hk : KOk G W fl bs r k) {Q : VK} (c : Chn) (B Z H : Hp) (σ : L2.St) (env : DEnv) (Fs : Nat → List Addr) (its : List (Bool × D)) (vs : List V) (T : List Addr) (ios : List V) (f0 : List Bool) (g : Good G B Z H σ env Fs) (hT : Hand G B Z H (joi B Z) Fs its vs T) (hb : its.map (·.1) ++ c.kinds = bs) (hn : f0 ++ c.iofs = fl ∧ f0.length = vs.length ∧ ios = ioV f0 vs)
    (hF : FinO G W B Z H σ env (PT_ Fs T) ios (evC c (fun ds e => k (its.map (·.2) ++ ds) e) env) Q) : seqTE (c.tes G W) σ H (fun us H1 => r (vs ++ us) H1 Q) :=
  chn_okS (σ := σ) (fun B Z H env => hk B Z H σ env) c B Z H env Fs its vs T ios f0 g hT hb hn hF
end DL
namespace DL
open PySem PySem.Spec PyProof.Rows L2
/-- an operation that only reads its arguments and hands on something new -/
def ROp (G : Gc) (r : List V → Hp → VK → Prop) (g : List D → Option D) : Prop :=
  ∀ (ds : List D) (vs : List V) (H : Hp) (Q : VK) (d : D), OwnL G H H ds vs [] → g ds = some d → (∀ v H' F, Same H H' → (∀ Z, Own G Z H' d v F) → F.Nodup → (∀ a, a ∈ F → H a = none) → Q v H') → r vs H Q
/-- its result is pure -/
def PureG (g : List D → Option D) : Prop := ∀ ds d, g ds = some d → d.pure = true

def l1 (r : V → Hp → VK → Prop) : List V → Hp → VK → Prop := fun vs H Q => match vs with
  | [x] => r x H Q
  | _ => False
def l2 (r : R2) : List V → Hp → VK → Prop := fun vs H Q => match vs with
  | [x, y] => r x y H Q
  | _ => False

def opK (g : List D → Option D) : Kn := fun ds e => must (g ds) fun d => .ok (d, [], e)
def eK (c : Chn) (k : Kn) : DEnv → Out (D × DEnv) := fun env => evC c k env >>= fun q => .ok (q.1, q.2.2)
/-- an operation that owns what it hands on -/
abbrev eOp (c : Chn) (g : List D → Option D) : DEnv → Out (D × DEnv) := eK c (opK g)
/-- an operation on what changes nothing, with a pure result -/
def hOp (hs : List SArg) (g : List D → Option D) : DEnv → Option D := fun env => match evS hs env with
  | some ds => g ds
  | none => none

section
variable {G : Gc} {W : Wsh} {X : Cx}
theorem op_own {r : List V → Hp → VK → Prop} {g : List D → Option D} {fl bs : List Bool} (hr : ROp G r g) (hfl : fl.any id = false) : KOk G W fl bs r (opK g) := by
  intro B Z H σ env Fs its vs T ios Q gd hd hb hn hF
  obtain rfl : ios = [] := hn.trans (ioV_none fl vs hfl)
  unfold opK at hF
  cases hg : g (its.map (·.2)) with
  | none => rw [hg] at hF; exact hF.elim
  | some d =>
    rw [hg] at hF
    refine hr _ vs H Q d (OwnT.reps cut_le gd.sz hd.own) hg fun v H' F hs ho nd hn' => ?_
    refine hF v Z H' Fs F ⟨Stp.grow gd (fun a m => .inl m) hs, ⟨v, [], F, [], rfl, by simp, ho Z, rfl, rfl⟩, nd, fun a m n => ?_, fun a m => ⟨?_, ?_⟩, fun a m => .inl (hn' a m)⟩
    · obtain ⟨o, e, _⟩ := gd.dom n
      rw [hn' a m] at e; cases e
    · cases q : B a with
      | none => rfl
      | some u =>
        have := gd.sb a u q
        rw [hn' a m] at this; cases this
    · cases q : Z a with
      | none => rfl
      | some u =>
        have := gd.sz a u q
        rw [hn' a m] at this; cases this
theorem FinV.toO {B Z H : Hp} {σ : L2.St} {env : DEnv} {Fs : Nat → List Addr} {o : Out (D × List D × DEnv)} {Q : VK} (h : FinV G W B Z H σ env (InF Fs) (o >>= fun q => .ok (q.1, q.2.2)) Q) : FinO G W B Z H σ env (PT_ Fs []) [] o Q := by
  unfold FinV at h
  unfold FinO
  match o, h with
  | .ok (d, outs, env'), h =>
    intro v Z' H' Fs' F p
    have pp : ∀ a, PT_ Fs [] a → InF Fs a := fun a m => m.elim id fun z => by cases z
    have he : outs = [] := by
      obtain ⟨_, _, _, _, e1, _, _, h2⟩ := p.own
      cases e1
      have := OwnL.length h2
      exact List.eq_nil_of_length_eq_zero this.symm
    subst he
    exact h v Z' H' Fs' F ⟨p.st.more pp, p.own, p.nd, p.dj, p.fr, fun a m => (p.new a m).imp id (pp a)⟩
  | .exc c, h => exact h
theorem tv_chn {fl bs : List Bool} {r : List V → Hp → VK → Prop} {k : Kn} {c : Chn} (hk : KOk G W fl bs r k) (hn : c.iofs = fl) (hb : c.kinds = bs) (σ : L2.St) (H : Hp) (Q : VK) (h : TV G W (eK c k) σ H Q) : seqTE (c.tes G W) σ H (fun vs H1 => r vs H1 Q) := by
  obtain ⟨B, Z, Fs, env, g, h⟩ := h
  have := chn_ok hk (Q := Q) c B Z H σ env Fs [] [] [] [] [] g ⟨⟨rfl, rfl⟩, List.nodup_nil, fun a m => (by cases m), fun a m => (by cases m)⟩ (by simpa using hb) ⟨hn, rfl, rfl⟩ (FinV.toO h)
  exact this
theorem tv_chnS {fl bs : List Bool} {σ : L2.St} {r : List V → Hp → VK → Prop} {k : Kn} {c : Chn} (hk : KOkS G W σ fl bs r k) (hn : c.iofs = fl) (hb : c.kinds = bs) (H : Hp) (Q : VK) (h : TV G W (eK c k) σ H Q) : seqTE (c.tes G W) σ H (fun vs H1 => r vs H1 Q) := by
  obtain ⟨B, Z, Fs, env, g, h⟩ := h
  have := chn_okS hk (Q := Q) c B Z H env Fs [] [] [] [] [] g ⟨⟨rfl, rfl⟩, List.nodup_nil, fun a m => (by cases m), fun a m => (by cases m)⟩ (by simpa using hb) ⟨hn, rfl, rfl⟩ (FinV.toO h)
  exact this
theorem tv_op {r : List V → Hp → VK → Prop} {g : List D → Option D} {c : Chn} (hr : ROp G r g) (hn : c.iofs.any id = false) (σ : L2.St) (H : Hp) (Q : VK) (h : TV G W (eOp c g) σ H Q) : seqTE (c.tes G W) σ H (fun vs H1 => r vs H1 Q) :=
  tv_chn (op_own hr hn) rfl rfl σ H Q h
theorem tpur_op {r : List V → Hp → VK → Prop} {g : List D → Option D} {hs : List SArg} (hr : ROp G r g) (hp : PureG g) (σ : L2.St) (H : Hp) (Q : VK) (h : TPur G (hOp hs g) σ H Q) : seqTE (hs.map (SArg.te G)) σ H (fun vs H1 => r vs H1 Q) := by
  obtain ⟨B, Z, Fs, env, gd, d, hd, q⟩ := h
  unfold hOp at hd
  cases he : evS hs env with
  | none => rw [he] at hd; cases hd
  | some ds =>
    rw [he] at hd
    refine evS_ok (T_ := []) (fun a m => by cases m) hs ds H _ gd he fun vs H1 hs1 ho hl => ?_
    have hlk : (SArg.kinds hs).length = ds.length := by rw [SArg.kinds_length, hl]
    have hrep := OwnT.reps (H := H1) cut_le (gd.sz.trans hs1) ho
    rw [map_snd_zip _ _ (Nat.le_of_eq hlk.symm)] at hrep
    refine hr ds vs H1 Q d hrep hd fun v H' F hs2 ho2 nd hn => ?_
    obtain ⟨hF, _⟩ := Own.ofPure (Z' := H') d v F (hp ds d hd) (ho2 H')
    subst hF
    exact q v H' (hs1.trans hs2) (hp ds d hd) ho2

def hC (d : D) : DEnv → Option D := fun _ => some d
def hVar (i : Nat) : DEnv → Option D := fun env => match env[i]? with
  | some (some (_, d)) => if d.pure = true then some d else none
  | _ => none
def pVar (i : Nat) : DEnv → Option D := fun env => match env[i]? with
  | some (some (_, d)) => some d
  | _ => none
/-- the value moved out of slot i -/
def eMov (i : Nat) : DEnv → Out (D × DEnv) := fun env => match env[i]? with
  | some (some (m, d)) => if m = .own then .ok (d, env.set i none) else .bad
  | _ => .bad
/-- a place of pure data, read -/
def hRd (g : DEnv → Option D) : DEnv → Option D := fun env => match g env with
  | some d => if d.pure = true then some d else none
  | none => none
def eP (h : DEnv → Option D) : DEnv → Out (D × DEnv) := fun env => must (h env) fun d => .ok (d, env)

theorem p_int {i : Int} {k pos} : PE X (.Constant (.int i) k pos) (TPur G (hC (.int i))) :=
  pe_int.imp fun σ H Q ⟨B, Z, Fs, env, gd, d, hd, q⟩ => by cases hd; exact q _ H (Same.refl H) rfl fun Z' => ⟨rfl, rfl⟩
theorem p_str {x : Str} {k pos} : PE X (.Constant (.str x) k pos) (TPur G (hC (.str x))) :=
  pe_str.imp fun σ H Q ⟨B, Z, Fs, env, gd, d, hd, q⟩ => by cases hd; exact q _ H (Same.refl H) rfl fun Z' => ⟨rfl, rfl⟩
theorem p_bl {b : Bool} {k pos} : PE X (.Constant (.bool b) k pos) (TPur G (hC (.bl b))) :=
  pe_bl.imp fun σ H Q ⟨B, Z, Fs, env, gd, d, hd, q⟩ => by cases hd; exact q _ H (Same.refl H) rfl fun Z' => ⟨rfl, rfl⟩
theorem p_non {k pos} : PE X (.Constant .none k pos) (TPur G (hC .non)) :=
  pe_non.imp fun σ H Q ⟨B, Z, Fs, env, gd, d, hd, q⟩ => by cases hd; exact q _ H (Same.refl H) rfl fun Z' => ⟨rfl, rfl⟩
/-- what a slot's name points at, read -/
theorem Good.read {B Z H : Hp} {σ : L2.St} {env : DEnv} {Fs : Nat → List Addr} (g : Good G B Z H σ env Fs) {i : Nat} {m : Md} {d : D} (h : env[i]? = some (some (m, d))) : ∃ v, σ[i]? = some (some v) ∧ Own G (joi (lockB B H Fs i) Z) H d v [] := by
  have hs := g.sl i
  rw [h] at hs
  have j1 : Same (joi B Z) (joi (lockB B H Fs i) Z) := joi_mono (lockB_up g i) (Same.refl Z) (lockB_le g i) g.sz
  have z1 : Same Z (joi (lockB B H Fs i) Z) := joi_right (lockB_le g i) g.sz
  have kf : ∀ b u, b ∈ Fs i → H b = some u → joi (lockB B H Fs i) Z b = some u := fun b u m q => joi_left b u (by unfold lockB; rw [lay_in m]; exact q)
  obtain ⟨v, e, hs⟩ := hs
  refine ⟨v, e, ?_⟩
  cases m with
  | own => exact Own.freeze z1 d v _ kf hs
  | io => exact Own.freeze z1 d v _ kf hs
  | shr => exact Own.keep z1 d v [] (fun _ _ e _ => e) hs.1
  | brw => exact Own.keep j1 d v [] (fun _ _ e _ => e) hs.1
  | lck => exact Own.keep j1 d v [] (fun _ _ e _ => e) hs.1
theorem p_plc {e : Expr} {i : Nat} (h : PE X e (tVar i)) : PE X e (TPlc G i (pVar i)) :=
  h.imp fun σ H Q ⟨B, Z, Fs, env, gd, d, hd, q⟩ => by
    unfold pVar at hd
    cases hs : env[i]? with
    | none => rw [hs] at hd; cases hd
    | some sl =>
      match sl, hs with
      | none, hs => rw [hs] at hd; cases hd
      | some (m, d'), hs =>
        rw [hs] at hd
        cases hd
        obtain ⟨v, ev, ho⟩ := gd.read hs
        exact ⟨v, ev, q v H (Same.refl H) ho⟩
theorem p_rd {e : Expr} {i : Nat} {g : DEnv → Option D} (h : PE X e (TPlc G i g)) : PE X e (TPur G (hRd g)) :=
  h.imp fun σ H Q ⟨B, Z, Fs, env, gd, d, hd, q⟩ => by
    unfold hRd at hd
    cases hg : g env with
    | none => rw [hg] at hd; cases hd
    | some d' =>
      rw [hg] at hd
      by_cases hp : d'.pure = true
      · have hd : (if d'.pure = true then some d' else none) = some d := hd
        rw [if_pos hp] at hd
        cases hd
        exact ⟨B, Z, Fs, env, gd, _, hg, fun v H' hs ho => q v H' hs hp fun Z' => (Own.ofPure (Z' := Z') _ v [] hp ho).2⟩
      · have hd : (if d'.pure = true then some d' else none) = some d := hd
        rw [if_neg hp] at hd
        cases hd
theorem p_var {e : Expr} {i : Nat} (h : PE X e (tVar i)) : PE X e (TPur G (hVar i)) :=
  (p_rd (p_plc h)).imp fun σ H Q ⟨B, Z, Fs, env, gd, d, hd, q⟩ => by
    refine ⟨B, Z, Fs, env, gd, d, ?_, q⟩
    unfold hVar at hd
    unfold hRd pVar
    cases hs : env[i]? with
    | none => rw [hs] at hd; cases hd
    | some sl =>
      match sl, hs with
      | none, hs => rw [hs] at hd; cases hd
      | some (m, d'), hs =>
        rw [hs] at hd
        exact hd
theorem e_p {e : Expr} {h : DEnv → Option D} (hp : PE X e (TPur G h)) : PE X e (TV G W (eP h)) :=
  hp.imp fun σ H Q ⟨B, Z, Fs, env, gd, hF⟩ => by
    unfold eP at hF
    cases he : h env with
    | none => rw [he] at hF; exact hF.elim
    | some d =>
      rw [he] at hF
      refine ⟨B, Z, Fs, env, gd, d, he, fun v H' hs hp ho => ?_⟩
      exact hF v Z H' Fs [] ⟨Stp.grow gd (fun a m => m) hs, ⟨v, [], [], [], rfl, rfl, ho Z, rfl, rfl⟩, List.nodup_nil, fun a m => (by cases m), fun a m => (by cases m), fun a m => (by cases m)⟩
/-- slot i's value out of it -/
theorem Stp.take {B Z H : Hp} {σ : L2.St} {env : DEnv} {Fs : Nat → List Addr} (g : Good G B Z H σ env Fs) {i : Nat} {d : D} (h : env[i]? = some (some (.own, d))) : Stp G B Z H σ env (InF Fs) Z H σ (env.set i none) (offF Fs i) := by
  refine ⟨Same.refl Z, fun _ _ e _ => e, g.take i, fun a m => .inr (inF_off m), fun _ m => .inl m, fun j d' e => ?_, fun j d' e => ?_, fun j d' e => ?_, fun j d' e => ?_, by rw [List.length_set]⟩
  all_goals
    by_cases hj : j = i
    · subst hj
      first
        | (rw [h] at e; cases e)
        | (rw [List.getElem?_set_self'] at e; cases hq : env[j]? <;> rw [hq] at e <;> cases e)
    · have n1 : (env.set i none)[j]? = env[j]? := List.getElem?_set_ne (fun z => hj z.symm)
      first
        | (rw [n1] at e; exact ⟨e, rfl⟩)
        | (rw [n1]; exact ⟨e, rfl⟩)
        | (rw [n1]; exact ⟨⟨d', e⟩, rfl⟩)
theorem e_mov {e : Expr} {i : Nat} (h : PE X e (tVar i)) : PE X e (TV G W (eMov i)) :=
  h.imp fun σ H Q ⟨B, Z, Fs, env, gd, hF⟩ => by
    unfold eMov at hF
    cases hs : env[i]? with
    | none => rw [hs] at hF; exact hF.elim
    | some sl =>
      match sl, hs with
      | none, hs => rw [hs] at hF; exact hF.elim
      | some (m, d), hs =>
        rw [hs] at hF
        have hF : FinV G W B Z H σ env (InF Fs) (if m = .own then .ok (d, env.set i none) else .bad) Q := hF
        by_cases hm : m = .own
        · subst hm
          rw [if_pos rfl] at hF
          have hsl := gd.sl i
          rw [hs] at hsl
          obtain ⟨v, ev, ho⟩ := hsl
          refine ⟨v, ev, hF v Z H (offF Fs i) (Fs i) ⟨Stp.take gd hs, ⟨v, [], Fs i, [], rfl, by simp, ho, rfl, rfl⟩, gd.nd i, fun a m n => ?_, fun a m => gd.fr i a m, fun a m => .inr ⟨i, m⟩⟩⟩
          obtain ⟨j, n⟩ := n
          unfold offF at n
          split at n
          · cases n
          · rename_i hne
            exact hne (gd.dj j i a n m)
        · rw [if_neg hm] at hF
          exact hF.elim
end
end DL
namespace DL
open PySem PySem.Spec PyProof.Rows L2
structure DX (X : Cx) (G : Gc) : Prop where
  K : X.K = G.K
  nd : X.N.Nodup
  un : X.A.units + 70 < cLine

mutual
def D.py : D → Option PyData
  | .non => some .none
  | .bl b => some (.bool b)
  | .int i => some (.int i)
  | .str s => some (.str s)
  | .scr _ => none
  | .tupF _ xs => (D.pyL xs).map .tuple
  | .lst xs => (D.pyL xs).map .list
  | .dk _ _ => none
  | .dt _ _ => none
  | .obj _ _ _ => none
  | .fob _ _ _ => none
  | .exn _ => none
  | .fn _ => none
  | .bor _ => none
def D.pyL : List D → Option (List PyData)
  | [] => some []
  | d :: r => match d.py, D.pyL r with
    | some p, some q => some (p :: q)
    | _, _ => none
end
mutual
theorem Own.dp {G : Gc} {H : Hp} : ∀ (d : D) (v : V) (p : PyData), Own G H H d v [] → d.py = some p → Dp G.K H v p
  | .non, v, p, h, e => by
    cases (show some PyData.none = some p from e)
    rw [h.1]; exact .non
  | .bl b, v, p, h, e => by
    cases (show some (PyData.bool b) = some p from e)
    rw [h.1]; exact .bl b
  | .int i, v, p, h, e => by
    cases (show some (PyData.int i) = some p from e)
    rw [h.1]; exact .int i
  | .str s, v, p, h, e => by
    cases (show some (PyData.str s) = some p from e)
    rw [h.1]; exact .str s
  | .tupF f xs, v, p, h, e => by
    have e : (D.pyL xs).map PyData.tuple = some p := e
    obtain ⟨a, vs, rfl, h1, h2⟩ := h
    cases hq : D.pyL xs with
    | none => rw [hq] at e; cases e
    | some q =>
      rw [hq] at e
      cases e
      exact .tup h1.seq (OwnL.dp xs vs q h2 hq)
  | .lst xs, v, p, h, e => by
    have e : (D.pyL xs).map PyData.list = some p := e
    obtain ⟨a, vs, F', rfl, n, h2⟩ := h
    cases hq : D.pyL xs with
    | none => rw [hq] at e; cases e
    | some q =>
      rw [hq] at e
      cases e
      rcases n with ⟨hs, _, rfl⟩ | ⟨z, _⟩
      · exact .lst (.inl hs) (OwnL.dp xs vs q h2 hq)
      · cases z
  | .scr _, v, p, h, e => by cases e
  | .dk _ _, v, p, h, e => by cases e
  | .dt _ _, v, p, h, e => by cases e
  | .obj _ _ _, v, p, h, e => by cases e
  | .fob _ _ _, v, p, h, e => by cases e
  | .exn _, v, p, h, e => by cases e
  | .fn _, v, p, h, e => by cases e
  | .bor _, v, p, h, e => by cases e
theorem OwnL.dp {G : Gc} {H : Hp} : ∀ (ds : List D) (vs : List V) (ps : List PyData), OwnL G H H ds vs [] → D.pyL ds = some ps → DpAll G.K H vs ps
  | [], vs, ps, h, e => by
    cases (show some ([] : List PyData) = some ps from e)
    rw [h.1]; exact .nil
  | d :: r, vs, ps, h, e => by
    obtain ⟨v, r', rfl, h1, h2⟩ := OwnL.uncons h
    have e : (match d.py, D.pyL r with
      | some p, some q => some (p :: q)
      | _, _ => none) = some ps := e
    cases hp : d.py with
    | none => rw [hp] at e; cases e
    | some p =>
      cases hq : D.pyL r with
      | none => rw [hp, hq] at e; cases e
      | some q =>
        rw [hp, hq] at e
        cases e
        exact .cons (Own.dp d v p h1 hp) (OwnL.dp r r' q h2 hq)
end
section
variable {G : Gc} {H : Hp}
theorem own1 {a : D} {vs : List V} (h : OwnL G H H [a] vs []) : ∃ x, vs = [x] ∧ Own G H H a x [] := by
  obtain ⟨x, r, rfl, h1, h2⟩ := OwnL.uncons h
  obtain ⟨rfl, _⟩ := h2
  exact ⟨x, rfl, h1⟩
theorem own2 {a b : D} {vs : List V} (h : OwnL G H H [a, b] vs []) : ∃ x y, vs = [x, y] ∧ Own G H H a x [] ∧ Own G H H b y [] := by
  obtain ⟨x, r, rfl, h1, h2⟩ := OwnL.uncons h
  obtain ⟨y, rfl, h3⟩ := own1 h2
  exact ⟨x, y, rfl, h1, h3⟩
theorem own3 {a b c : D} {vs : List V} (h : OwnL G H H [a, b, c] vs []) : ∃ x y z, vs = [x, y, z] ∧ Own G H H a x [] ∧ Own G H H b y [] ∧ Own G H H c z [] := by
  obtain ⟨x, r, rfl, h1, h2⟩ := OwnL.uncons h
  obtain ⟨y, z, rfl, h3, h4⟩ := own2 h2
  exact ⟨x, y, z, rfl, h1, h3, h4⟩
theorem Own.lstR {ds : List D} {v : V} (h : Own G H H (.lst ds) v []) : ∃ a vs, v = .ref a ∧ SqL G.K H a vs ∧ OwnL G H H ds vs [] := by
  obtain ⟨a, vs, F', rfl, n, h2⟩ := h
  rcases n with ⟨hs, _, rfl⟩ | ⟨z, _⟩
  · exact ⟨a, vs, rfl, .inl hs, h2⟩
  · cases z
theorem OwnL.pure_any {Z Z' : Hp} {ds : List D} {vs : List V} {F : List Addr} (hp : D.pureL ds = true) (h : OwnL G Z H ds vs F) : OwnL G Z' H ds vs [] := (OwnL.ofPure ds vs F hp h).2
/-- a new tuple of pure items -/
theorem new_tup {H : Hp} {ds : List D} {vs : List V} {p : Addr} (hp : D.pureL ds = true) (hn : H p = none) (h : OwnL G H H ds vs []) (Z : Hp) : Own G Z (upd H p (.tup vs)) (.tup ds) (.ref p) [] :=
  ⟨p, vs, rfl, (upd_same : upd H p (.tup vs) p = some (.tup vs)), OwnL.keep (Same.refl Z) ds vs [] (fun b u e _ => same_upd hn b u e) (OwnL.pure_any hp h)⟩
/-- a new list of pure items -/
theorem new_lst {H : Hp} {ds : List D} {vs : List V} {p : Addr} (hp : D.pureL ds = true) (hn : H p = none) (h : OwnL G H H ds vs []) (Z : Hp) : Own G Z (upd H p (.lst vs)) (.lst ds) (.ref p) [p] :=
  ⟨p, vs, [], rfl, .inr ⟨rfl, upd_same⟩, OwnL.keep (Same.refl Z) ds vs [] (fun b u e _ => same_upd hn b u e) (OwnL.pure_any hp h)⟩
end
theorem D.pureL_append : ∀ (a b : List D), D.pureL (a ++ b) = (D.pureL a && D.pureL b)
  | [], b => by simp [D.pureL]
  | d :: r, b => by
    show (d.pure && D.pureL (r ++ b)) = (d.pure && D.pureL r && D.pureL b)
    rw [D.pureL_append r b, Bool.and_assoc]
theorem D.pureL_drop : ∀ (n : Nat) (a : List D), D.pureL a = true → D.pureL (a.drop n) = true
  | 0, a, h => h
  | n + 1, [], h => rfl
  | n + 1, d :: r, h => D.pureL_drop n r (by
    have h : (d.pure && D.pureL r) = true := h
    simp only [Bool.and_eq_true] at h
    exact h.2)
theorem D.pureL_take : ∀ (n : Nat) (a : List D), D.pureL a = true → D.pureL (a.take n) = true
  | 0, a, h => rfl
  | n + 1, [], h => rfl
  | n + 1, d :: r, h => by
    have h : (d.pure && D.pureL r) = true := h
    simp only [Bool.and_eq_true] at h
    show (d.pure && D.pureL (r.take n)) = true
    rw [h.1, D.pureL_take n r h.2]; rfl
theorem OwnL.drop {G : Gc} {Z H : Hp} : ∀ (n : Nat) {ds : List D} {vs : List V}, OwnL G Z H ds vs [] → OwnL G Z H (ds.drop n) (vs.drop n) []
  | 0, ds, vs, h => h
  | n + 1, [], vs, h => by rw [h.1]; exact ⟨rfl, rfl⟩
  | n + 1, d :: r, vs, h => by
    obtain ⟨v, r', rfl, _, h2⟩ := OwnL.uncons h
    exact OwnL.drop n h2
theorem OwnL.take {G : Gc} {Z H : Hp} : ∀ (n : Nat) {ds : List D} {vs : List V}, OwnL G Z H ds vs [] → OwnL G Z H (ds.take n) (vs.take n) []
  | 0, ds, vs, h => ⟨rfl, rfl⟩
  | n + 1, [], vs, h => by rw [h.1]; exact ⟨rfl, rfl⟩
  | n + 1, d :: r, vs, h => by
    obtain ⟨v, r', rfl, h1, h2⟩ := OwnL.uncons h
    exact OwnL.cons_nil h1 (OwnL.take n h2)

def bin (f : D → D → Option D) : List D → Option D
  | [a, b] => f a b
  | _ => none
def una (f : D → Option D) : List D → Option D
  | [a] => f a
  | _ => none
theorem bin_some {f : D → D → Option D} : ∀ {ds : List D} {d : D}, bin f ds = some d → ∃ a b, ds = [a, b] ∧ f a b = some d
  | [], _, h => by cases h
  | [_], _, h => by cases h
  | [a, b], _, h => ⟨a, b, rfl, h⟩
  | _ :: _ :: _ :: _, _, h => by cases h
theorem una_some {f : D → Option D} : ∀ {ds : List D} {d : D}, una f ds = some d → ∃ a, ds = [a] ∧ f a = some d
  | [], _, h => by cases h
  | [a], _, h => ⟨a, rfl, h⟩
  | _ :: _ :: _, _, h => by cases h
def D.toInt : D → Option Int
  | .int i => some i
  | _ => none
def D.toStr : D → Option Str
  | .str i => some i
  | _ => none
def D.toTup : D → Option (List D)
  | .tupF false i => some i
  | _ => none
def D.toLst : D → Option (List D)
  | .lst i => some i
  | _ => none
/-- lists, and the script -/
def D.toRow : D → Option (List D)
  | .lst i => some i
  | .scr ns => some (ns.map D.int)
  | _ => none
theorem ints_rep {G : Gc} {Z H : Hp} : ∀ ns : List Int, OwnL G Z H (ns.map D.int) (ns.map V.int) []
  | [] => ⟨rfl, rfl⟩
  | i :: r => OwnL.cons_nil ⟨rfl, rfl⟩ (ints_rep r)
theorem Own.rowR {G : Gc} {H : Hp} {d : D} {ds : List D} {v : V} (h : Own G H H d v []) (e : d.toRow = some ds) : ∃ a vs, v = .ref a ∧ SqL G.K H a vs ∧ OwnL G H H ds vs [] := by
  cases d with
  | lst xs => cases e; exact h.lstR
  | scr ns =>
    cases e
    obtain ⟨_, a, rfl, hs⟩ := h
    exact ⟨a, _, rfl, hs, ints_rep ns⟩
  | _ => cases e
theorem D.toInt_some {d : D} {i : Int} (h : d.toInt = some i) : d = .int i := by
  cases d <;> first | (cases h; rfl) | cases h
theorem D.toStr_some {d : D} {i : Str} (h : d.toStr = some i) : d = .str i := by
  cases d <;> first | (cases h; rfl) | cases h
theorem D.toTup_some {d : D} {i : List D} (h : d.toTup = some i) : d = .tup i := by
  cases d with
  | tupF f xs => cases f <;> first | (cases h; rfl) | cases h
  | _ => cases h
def D.toTupA : D → Option (List D)
  | .tupF _ i => some i
  | _ => none
theorem D.toTupA_some {d : D} {i : List D} (h : d.toTupA = some i) : ∃ f, d = .tupF f i := by
  cases d with
  | tupF f xs => cases h; exact ⟨f, rfl⟩
  | _ => cases h
theorem D.toLst_some {d : D} {i : List D} (h : d.toLst = some i) : d = .lst i := by
  cases d <;> first | (cases h; rfl) | cases h
def bI (f : Int → Int → Option D) : D → D → Option D := fun a b => match a.toInt, b.toInt with
  | some i, some j => f i j
  | _, _ => none
theorem bI_some {f : Int → Int → Option D} {a b d : D} (h : bI f a b = some d) : ∃ i j, a = .int i ∧ b = .int j ∧ f i j = some d := by
  unfold bI at h
  cases ha : a.toInt with
  | none => rw [ha] at h; cases h
  | some i =>
    cases hb : b.toInt with
    | none => rw [ha, hb] at h; cases h
    | some j =>
      rw [ha, hb] at h
      exact ⟨i, j, D.toInt_some ha, D.toInt_some hb, h⟩
def bS (f : Str → Str → Option D) : D → D → Option D := fun a b => match a.toStr, b.toStr with
  | some i, some j => f i j
  | _, _ => none
theorem bS_some {f : Str → Str → Option D} {a b d : D} (h : bS f a b = some d) : ∃ i j, a = .str i ∧ b = .str j ∧ f i j = some d := by
  unfold bS at h
  cases ha : a.toStr with
  | none => rw [ha] at h; cases h
  | some i =>
    cases hb : b.toStr with
    | none => rw [ha, hb] at h; cases h
    | some j =>
      rw [ha, hb] at h
      exact ⟨i, j, D.toStr_some ha, D.toStr_some hb, h⟩
def bT (f : List D → List D → Option D) : D → D → Option D := fun a b => match a.toTup, b.toTup with
  | some i, some j => f i j
  | _, _ => none
theorem bT_some {f : List D → List D → Option D} {a b d : D} (h : bT f a b = some d) : ∃ i j, a = .tup i ∧ b = .tup j ∧ f i j = some d := by
  unfold bT at h
  cases ha : a.toTup with
  | none => rw [ha] at h; cases h
  | some i =>
    cases hb : b.toTup with
    | none => rw [ha, hb] at h; cases h
    | some j =>
      rw [ha, hb] at h
      exact ⟨i, j, D.toTup_some ha, D.toTup_some hb, h⟩
/-- a value where a condition holds -/
def iff? {α : Type} (p : Prop) [Decidable p] (d : α) : Option α := if p then some d else none
theorem iff?_some {α : Type} {p : Prop} [Decidable p] {d e : α} (h : iff? p d = some e) : p ∧ d = e := by
  unfold iff? at h
  split at h
  · rename_i hp; exact ⟨hp, Option.some.inj h⟩
  · cases h
theorem iff?_pos {α : Type} {p : Prop} [Decidable p] (h : p) (d : α) : iff? p d = some d := if_pos h
/-- * is told for what has together less than 2 ^ 26 bits -/
def MulOk (a b : Int) : Prop := a.natAbs.log2 + b.natAbs.log2 < 60000000
instance (a b : Int) : Decidable (MulOk a b) := by unfold MulOk; exact inferInstance

def fAdd (a b : D) : Option D := match a with
  | .int _ => bI (fun i j => some (.int (i + j))) a b
  | .str _ => bS (fun i j => iff? (i.length + j.length ≤ 16777216) (.str (i ++ j))) a b
  | .tupF _ _ => bT (fun x y => iff? (D.pureL x = true ∧ D.pureL y = true ∧ x.length + y.length ≤ 16777216) (.tup (x ++ y))) a b
  | _ => none
abbrev gAdd := bin fAdd
abbrev gSub := bin (bI fun i j => some (.int (i - j)))
abbrev gMul := bin (bI fun i j => iff? (MulOk i j) (.int (i * j)))
abbrev gDiv := bin (bI fun i j => iff? (0 < j ∧ j.natAbs.log2 < 9000) (.int (i / j)))
abbrev gMod := bin (bI fun i j => iff? (0 < j) (.int (i % j)))
abbrev gPow := bin (bI fun i j => iff? (0 ≤ j ∧ j ≤ 1000 ∧ i.natAbs < 1000000) (.int (i ^ j.toNat)))
abbrev gNeg := una fun a => a.toInt.map fun i => .int (-i)
def gEqB (a b : D) : Option Bool := match a.py, b.py with
  | some p, some q => iff? (SeqAt.shaped p = true ∧ SeqAt.shaped q = true) (PyData.eqv p q)
  | _, _ => none
abbrev gEq := bin fun a b => (gEqB a b).map .bl
abbrev gNe := bin fun a b => (gEqB a b).map fun k => .bl (!k)
def fLt (a b : D) : Option D := match a with
  | .int _ => bI (fun i j => some (.bl (decide (i < j)))) a b
  | .str _ => bS (fun i j => some (.bl (decide (i.cps.toList < j.cps.toList)))) a b
  | _ => none
abbrev gLt := bin fLt
abbrev gLe := bin (bI fun i j => some (.bl (decide (i ≤ j))))
abbrev gGt := bin (bI fun i j => some (.bl (decide (j < i))))
def D.isNon : D → Bool
  | .non => true
  | _ => false
theorem size_line : (16777216 : Nat) = sizeLine := sizeLine_eq.symm

section
variable {G : Gc} {X : Cx}
theorem done0 {H : Hp} {d : D} {v : V} {Q : VK} (q : ∀ v H' F, Same H H' → (∀ Z, Own G Z H' d v F) → F.Nodup → (∀ a, a ∈ F → H a = none) → Q v H') (hp : ∀ Z, Own G Z H d v []) : Q v H :=
  q v H [] (Same.refl H) hp List.nodup_nil fun a m => by cases m
/-- an operation on two ints -/
theorem rop_int {C : Int → Int → Prop} {f : Int → Int → V} {h : Int → Int → Option D} {k : Int → Int → D} (hg : ∀ i j d, h i j = some d → C i j ∧ d = k i j) (ho : ∀ i j Z H, Own G Z H (k i j) (f i j) []) : ROp G (l2 (rI C f)) (bin (bI h)) := by
  intro ds vs H Q d hh e q
  obtain ⟨a, b, rfl, e⟩ := bin_some e
  obtain ⟨i, j, rfl, rfl, e⟩ := bI_some e
  obtain ⟨hc, rfl⟩ := hg i j d e
  obtain ⟨x, y, rfl, h1, h2⟩ := own2 hh
  exact ⟨i, j, h1.1, h2.1, hc, done0 q (fun Z => ho i j Z H)⟩
theorem rop_int0 {f : Int → Int → V} {h : Int → Int → Option D} {k : Int → Int → D} (hg : ∀ i j d, h i j = some d → d = k i j) (ho : ∀ i j Z H, Own G Z H (k i j) (f i j) []) : ROp G (l2 (rI0 f)) (bin (bI h)) := by
  intro ds vs H Q d hh e q
  obtain ⟨a, b, rfl, e⟩ := bin_some e
  obtain ⟨i, j, rfl, rfl, e⟩ := bI_some e
  obtain rfl := hg i j d e
  obtain ⟨x, y, rfl, h1, h2⟩ := own2 hh
  exact ⟨i, j, h1.1, h2.1, done0 q (fun Z => ho i j Z H)⟩
theorem pure_int {h : Int → Int → Option D} (hg : ∀ i j d, h i j = some d → d.pure = true) : PureG (bin (bI h)) := by
  intro ds d e
  obtain ⟨a, b, rfl, e⟩ := bin_some e
  obtain ⟨i, j, rfl, rfl, e⟩ := bI_some e
  exact hg i j d e
def rAddA (K : PySem.W.Frag) : R2 := fun x y H Q => (rI0 fun i j => V.int (i + j)) x y H Q ∨ (∃ i j, x = .str i ∧ y = .str j ∧ i.length + j.length ≤ sizeLine ∧ Q (.str (i ++ j)) H) ∨ rCatA K x y H Q
theorem op_addA : OpR X (binaryOp .Add) (rAddA X.K) := OpR.or op_add (OpR.or op_add_str op_catA)
theorem fAdd_some {a b d : D} (h : fAdd a b = some d) : (∃ i j, a = .int i ∧ b = .int j ∧ d = .int (i + j)) ∨ (∃ i j, a = .str i ∧ b = .str j ∧ i.length + j.length ≤ 16777216 ∧ d = .str (i ++ j)) ∨
    ∃ x y, a = .tup x ∧ b = .tup y ∧ (D.pureL x = true ∧ D.pureL y = true ∧ x.length + y.length ≤ 16777216) ∧ d = .tup (x ++ y) := by
  cases a with
  | int _ =>
    obtain ⟨i, j, e1, e2, e3⟩ := bI_some h
    cases e3
    exact .inl ⟨i, j, e1, e2, rfl⟩
  | str _ =>
    obtain ⟨i, j, e1, e2, e3⟩ := bS_some h
    obtain ⟨hl, rfl⟩ := iff?_some e3
    exact .inr (.inl ⟨i, j, e1, e2, hl, rfl⟩)
  | tupF _ _ =>
    obtain ⟨i, j, e1, e2, e3⟩ := bT_some h
    obtain ⟨hl, rfl⟩ := iff?_some e3
    exact .inr (.inr ⟨i, j, e1, e2, hl, rfl⟩)
  | _ => cases h
theorem rop_add : ROp G (l2 (rAddA G.K)) gAdd := by
  intro ds vs H Q d h e q
  obtain ⟨a, b, rfl, e⟩ := bin_some e
  obtain ⟨x, y, rfl, h1, h2⟩ := own2 h
  rcases fAdd_some e with ⟨i, j, rfl, rfl, rfl⟩ | ⟨i, j, rfl, rfl, hl, rfl⟩ | ⟨a, b, rfl, rfl, hl, rfl⟩
  · exact .inl ⟨i, j, h1.1, h2.1, done0 q (fun Z => ⟨rfl, rfl⟩)⟩
  · exact .inr (.inl ⟨i, j, h1.1, h2.1, by rw [← size_line]; exact hl, done0 q (fun Z => ⟨rfl, rfl⟩)⟩)
  · obtain ⟨p, us, rfl, e1, o1⟩ := h1
    obtain ⟨p2, us2, rfl, e2, o2⟩ := h2
    have l1 := OwnL.length o1
    have l2 := OwnL.length o2
    refine .inr (.inr ⟨p, p2, us, us2, rfl, rfl, SqT.of e1, SqT.of e2, by rw [← size_line, l1, l2]; exact hl.2.2, fun z => ?_, fun _ z => ?_, fun _ _ p3 hn => ?_⟩)
    · subst z
      have : a = [] := List.eq_nil_of_length_eq_zero l1.symm
      subst this
      exact done0 q (fun Z => ⟨p2, us2, rfl, e2, OwnL.pure_any hl.2.1 o2⟩)
    · subst z
      have : b = [] := List.eq_nil_of_length_eq_zero l2.symm
      subst this
      rw [List.append_nil] at q
      exact done0 q (fun Z => ⟨p, us, rfl, e1, OwnL.pure_any hl.1 o1⟩)
    · have hpp : D.pureL (a ++ b) = true := by rw [D.pureL_append, hl.1, hl.2.1]; rfl
      have hap := OwnL.append o1 o2
      rw [List.append_nil] at hap
      exact q _ _ [] (same_upd hn) (fun Z => new_tup hpp hn hap Z) List.nodup_nil fun a m => by cases m
theorem pure_add : PureG gAdd := by
  intro ds d e
  obtain ⟨a, b, rfl, e⟩ := bin_some e
  rcases fAdd_some e with ⟨i, j, rfl, rfl, rfl⟩ | ⟨i, j, rfl, rfl, hl, rfl⟩ | ⟨a, b, rfl, rfl, hl, rfl⟩
  · rfl
  · rfl
  · show D.pureL (a ++ b) = true
    rw [D.pureL_append, hl.1, hl.2.1]; rfl
theorem rop_sub : ROp G (l2 (rI0 fun i j => V.int (i - j))) gSub := rop_int0 (k := fun i j => .int (i - j)) (fun i j d e => (Option.some.inj e).symm) fun i j Z H => ⟨rfl, rfl⟩
theorem pure_sub : PureG gSub := pure_int fun i j d e => by cases e; rfl
theorem MulOk.ok {i j : Int} (h : MulOk i j) : IntMulOk i j := by
  have b : ∀ x : Int, Builtin.Int.intBits x ≤ x.natAbs.log2 + 1 := fun x => by
    unfold Builtin.Int.intBits
    split <;> omega
  have h1 := b i
  have h2 := b j
  unfold MulOk at h
  have e : bitsLine = 134217728 := by decide
  unfold IntMulOk
  intro z
  rw [Bool.and_eq_true] at z
  have z2 := z.2
  unfold Builtin.Int.intTooBig at z2
  have z3 := of_decide_eq_true z2
  rw [e] at z3
  omega
theorem op_mulD : OpR X (binaryOp .Mult) (rI MulOk fun i j => .int (i * j)) := opI fun _ _ _ _ _ _ _ hc q => mul_int q hc.ok
theorem rop_mul : ROp G (l2 (rI MulOk fun i j => V.int (i * j))) gMul := rop_int (k := fun i j => .int (i * j)) (fun i j d e => by
  obtain ⟨h, rfl⟩ := iff?_some e
  exact ⟨h, rfl⟩) fun i j Z H => ⟨rfl, rfl⟩
theorem pure_mul : PureG gMul := pure_int fun i j d e => by
  obtain ⟨h, rfl⟩ := iff?_some e
  rfl
theorem rop_div : ROp G (l2 (rI CDivW fun i j => V.int (i / j))) gDiv := rop_int (k := fun i j => .int (i / j)) (fun i j d e => by
  obtain ⟨h, rfl⟩ := iff?_some e
  exact ⟨h, rfl⟩) fun i j Z H => ⟨rfl, rfl⟩
theorem pure_div : PureG gDiv := pure_int fun i j d e => by
  obtain ⟨h, rfl⟩ := iff?_some e
  rfl
theorem rop_mod : ROp G (l2 (rI (fun _ j => 0 < j) fun i j => V.int (i % j))) gMod := rop_int (k := fun i j => .int (i % j)) (fun i j d e => by
  obtain ⟨h, rfl⟩ := iff?_some e
  exact ⟨h, rfl⟩) fun i j Z H => ⟨rfl, rfl⟩
theorem pure_mod : PureG gMod := pure_int fun i j d e => by
  obtain ⟨h, rfl⟩ := iff?_some e
  rfl
theorem rop_pow : ROp G (l2 (rI CPow fun i j => V.int (i ^ j.toNat))) gPow := rop_int (k := fun i j => .int (i ^ j.toNat)) (fun i j d e => by
  obtain ⟨h, rfl⟩ := iff?_some e
  exact ⟨⟨h.1, by omega, by omega⟩, rfl⟩) fun i j Z H => ⟨rfl, rfl⟩
theorem pure_pow : PureG gPow := pure_int fun i j d e => by
  obtain ⟨h, rfl⟩ := iff?_some e
  rfl
theorem rop_neg : ROp G (l1 (rU fun i => V.int (-i))) gNeg := by
  intro ds vs H Q d h e q
  obtain ⟨a, rfl, e2⟩ := una_some e
  clear e
  cases ha : a.toInt with
  | none => rw [ha] at e2; cases e2
  | some i =>
    rw [ha] at e2
    cases e2
    obtain rfl := D.toInt_some ha
    obtain ⟨x, rfl, h1⟩ := own1 h
    exact ⟨i, h1.1, done0 q (fun Z => ⟨rfl, rfl⟩)⟩
theorem pure_neg : PureG gNeg := by
  intro ds d e
  obtain ⟨a, rfl, e2⟩ := una_some e
  clear e
  cases ha : a.toInt with
  | none => rw [ha] at e2; cases e2
  | some i =>
    rw [ha] at e2
    cases e2
    rfl
theorem gEqB_some {a b : D} {k : Bool} (h : gEqB a b = some k) : ∃ p q, a.py = some p ∧ b.py = some q ∧ SeqAt.shaped p = true ∧ SeqAt.shaped q = true ∧ k = PyData.eqv p q := by
  unfold gEqB at h
  cases hp : a.py with
  | none => rw [hp] at h; cases h
  | some p =>
    cases hq : b.py with
    | none => rw [hp, hq] at h; cases h
    | some q =>
      rw [hp, hq] at h
      obtain ⟨hs, e⟩ := iff?_some h
      exact ⟨p, q, rfl, rfl, hs.1, hs.2, e.symm⟩
theorem map_some' {α β : Type} {f : α → β} {o : Option α} {b : β} (h : o.map f = some b) : ∃ a, o = some a ∧ f a = b := by
  cases o with
  | none => cases h
  | some a => exact ⟨a, rfl, Option.some.inj h⟩
theorem rop_eq : ROp G (l2 (rEqD G.K)) gEq := by
  intro ds vs H Q d h e q
  obtain ⟨a, b, rfl, e⟩ := bin_some e
  obtain ⟨x, y, rfl, h1, h2⟩ := own2 h
  obtain ⟨k, hk, rfl⟩ := map_some' e
  obtain ⟨p, r, ep, er, sp, sr, rfl⟩ := gEqB_some hk
  exact ⟨p, r, Own.dp a x p h1 ep, Own.dp b y r h2 er, sp, sr, done0 q (fun Z => ⟨rfl, rfl⟩)⟩
theorem pure_eq : PureG gEq := by
  intro ds d e
  obtain ⟨a, b, rfl, e⟩ := bin_some e
  obtain ⟨k, hk, rfl⟩ := map_some' e
  rfl
theorem rop_ne : ROp G (l2 (rNeD G.K)) gNe := by
  intro ds vs H Q d h e q
  obtain ⟨a, b, rfl, e⟩ := bin_some e
  obtain ⟨x, y, rfl, h1, h2⟩ := own2 h
  obtain ⟨k, hk, rfl⟩ := map_some' e
  obtain ⟨p, r, ep, er, sp, sr, rfl⟩ := gEqB_some hk
  exact ⟨p, r, Own.dp a x p h1 ep, Own.dp b y r h2 er, sp, sr, done0 q (fun Z => ⟨rfl, rfl⟩)⟩
theorem pure_ne : PureG gNe := by
  intro ds d e
  obtain ⟨a, b, rfl, e⟩ := bin_some e
  obtain ⟨k, hk, rfl⟩ := map_some' e
  rfl
def rLtA : R2 := fun x y H Q => (rI0 fun i j => V.bl (decide (i < j))) x y H Q ∨ (∃ i j, x = .str i ∧ y = .str j ∧ Q (.bl (decide (i.cps.toList < j.cps.toList))) H)
theorem op_ltA : OpR X (compareOp .Lt) rLtA := OpR.or op_lt op_lt_str
theorem fLt_some {a b d : D} (h : fLt a b = some d) : (∃ i j, a = .int i ∧ b = .int j ∧ d = .bl (decide (i < j))) ∨ ∃ i j, a = .str i ∧ b = .str j ∧ d = .bl (decide (i.cps.toList < j.cps.toList)) := by
  cases a with
  | int _ =>
    obtain ⟨i, j, e1, e2, e3⟩ := bI_some h
    cases e3
    exact .inl ⟨i, j, e1, e2, rfl⟩
  | str _ =>
    obtain ⟨i, j, e1, e2, e3⟩ := bS_some h
    cases e3
    exact .inr ⟨i, j, e1, e2, rfl⟩
  | _ => cases h
theorem rop_lt : ROp G (l2 rLtA) gLt := by
  intro ds vs H Q d h e q
  obtain ⟨a, b, rfl, e⟩ := bin_some e
  obtain ⟨x, y, rfl, h1, h2⟩ := own2 h
  rcases fLt_some e with ⟨i, j, rfl, rfl, rfl⟩ | ⟨i, j, rfl, rfl, rfl⟩
  · exact .inl ⟨i, j, h1.1, h2.1, done0 q (fun Z => ⟨rfl, rfl⟩)⟩
  · exact .inr ⟨i, j, h1.1, h2.1, done0 q (fun Z => ⟨rfl, rfl⟩)⟩
theorem pure_lt : PureG gLt := by
  intro ds d e
  obtain ⟨a, b, rfl, e⟩ := bin_some e
  rcases fLt_some e with ⟨i, j, rfl, rfl, rfl⟩ | ⟨i, j, rfl, rfl, rfl⟩ <;> rfl
theorem rop_le : ROp G (l2 (rI0 fun i j => V.bl (decide (i ≤ j)))) gLe := rop_int0 (k := fun i j => .bl (decide (i ≤ j))) (fun i j d e => (Option.some.inj e).symm) fun i j Z H => ⟨rfl, rfl⟩
theorem pure_le : PureG gLe := pure_int fun i j d e => by cases e; rfl
theorem rop_gt : ROp G (l2 (rI0 fun i j => V.bl (decide (j < i)))) gGt := rop_int0 (k := fun i j => .bl (decide (j < i))) (fun i j d e => (Option.some.inj e).symm) fun i j Z H => ⟨rfl, rfl⟩
theorem pure_gt : PureG gGt := pure_int fun i j d e => by cases e; rfl
theorem Own.isNon {Z H : Hp} {d : D} {v : V} {F : List Addr} (h : Own G Z H d v F) : decide (v = V.non) = d.isNon := by
  cases d with
  | non => rw [h.1]; rfl
  | bl _ => rw [h.1]; rfl
  | int _ => rw [h.1]; rfl
  | str _ => rw [h.1]; rfl
  | scr _ => obtain ⟨_, a, rfl, _⟩ := h; rfl
  | tupF _ _ => obtain ⟨a, _, rfl, _⟩ := h; rfl
  | lst _ => obtain ⟨a, _, _, rfl, _⟩ := h; rfl
  | dk _ _ => obtain ⟨a, _, _, rfl, _⟩ := h; rfl
  | dt _ _ => obtain ⟨a, _, _, rfl, _⟩ := h; rfl
  | obj _ _ _ => obtain ⟨a, _, _, _, _, rfl, _⟩ := h; rfl
  | fob _ _ _ => obtain ⟨a, _, _, _, rfl, _⟩ := h; rfl
  | exn _ => obtain ⟨_, a, rfl, _⟩ := h; rfl
  | fn _ => obtain ⟨_, a, rfl, _⟩ := h; rfl
  | bor _ => rw [decide_eq_false h.2.2]; rfl
variable {W : Wsh} {a b : Expr} {ta tb : TE} {pos : Pos} {s1 s2 : SArg} {c : Chn} {r : R2} {g : List D → Option D}
theorem p_bin {op : Operator} (ho : OpR X (binaryOp op) r) (hr : ROp G (l2 r) g) (hp : PureG g) (ha : PE X a (s1.te G)) (hb : PE X b (s2.te G)) : PE X (.BinOp a op b pos) (TPur G (hOp [s1, s2] g)) :=
  (pe_op ho ha hb).imp fun σ H Q h => tpur_op hr hp σ H Q h
theorem e_bin {op : Operator} (ho : OpR X (binaryOp op) r) (hr : ROp G (l2 r) g) (c : Chn) (ha : PE X a ta) (hb : PE X b tb) (hc : c.tes G W = [ta, tb] := by rfl) (hn : c.iofs.any id = false := by rfl) : PE X (.BinOp a op b pos) (TV G W (eOp c g)) :=
  (pe_op ho ha hb).imp fun σ H Q h => by
    have q := tv_op hr hn σ H Q h
    rw [hc] at q
    exact q
theorem p_un {op : UnaryOp} {r : V → Hp → VK → Prop} (ho : UnR X (unaryOp op) r) (hr : ROp G (l1 r) g) (hp : PureG g) (ha : PE X a (s1.te G)) : PE X (.UnaryOp op a pos) (TPur G (hOp [s1] g)) :=
  (pe_un ho ha).imp fun σ H Q h => tpur_op hr hp σ H Q h
theorem p_cmp {op : CmpOp} (ho : OpR X (compareOp op) r) (hr : ROp G (l2 r) g) (hp : PureG g) (ha : PE X a (s1.te G)) (hb : PE X b (s2.te G)) (hm : behindInMarks op b = false := by first | exact nomark _ | rfl) : PE X (.Compare a [op] [b] pos) (TPur G (hOp [s1, s2] g)) :=
  (pe_cmpR ho ha hb hm).imp fun σ H Q h => tpur_op hr hp σ H Q h
theorem e_cmp {op : CmpOp} (ho : OpR X (compareOp op) r) (hr : ROp G (l2 r) g) (c : Chn) (ha : PE X a ta) (hb : PE X b tb) (hm : behindInMarks op b = false := by first | exact nomark _ | rfl) (hc : c.tes G W = [ta, tb] := by rfl) (hn : c.iofs.any id = false := by rfl) : PE X (.Compare a [op] [b] pos) (TV G W (eOp c g)) :=
  (pe_cmpR ho ha hb hm).imp fun σ H Q h => by
    have q := tv_op hr hn σ H Q h
    rw [hc] at q
    exact q
end
end DL
namespace DL
open PySem PySem.Spec PyProof.Rows L2
def dIx (d : D) (i : Int) : Option D := match d with
  | .lst ds => atI ds i
  | .tupF _ ds => atI ds i
  | .scr ns => (atI ns i).map .int
  | _ => none
theorem atI_map {α β : Type} (f : α → β) (l : List α) (i : Int) : atI (l.map f) i = (atI l i).map f := by
  unfold atI
  rw [List.length_map]
  cases ixN l.length i with
  | none => rfl
  | some j => exact List.getElem?_map
def gAt (d k : D) : Option D := match k.toInt with
  | some i => dIx d i
  | none => none
def pIx (g h : DEnv → Option D) : DEnv → Option D := fun env => match g env, h env with
  | some d, some k => gAt d k
  | _, _ => none
theorem atI_own {G : Gc} {Z H : Hp} {ds : List D} {vs : List V} {i : Int} {d : D} (h : OwnL G Z H ds vs []) (e : atI ds i = some d) : ∃ v, atI vs i = some v ∧ Own G Z H d v [] := by
  have l := OwnL.length h
  unfold atI at e ⊢
  rw [l]
  cases hj : ixN ds.length i with
  | none => rw [hj] at e; cases e
  | some j =>
    rw [hj] at e
    exact OwnL.get (i := j) h e
theorem lockB_mono {B H H1 : Hp} {Fs : Nat → List Addr} {i : Nat} (h : Same H H1) : Same (lockB B H Fs i) (lockB B H1 Fs i) := fun a o e => by
  unfold lockB lay at e ⊢
  split
  · rename_i m
    rw [if_pos m] at e
    exact h _ _ e
  · rename_i m
    rw [if_neg m] at e
    exact e
theorem Good.joi_up {G : Gc} {B Z H H1 : Hp} {σ : L2.St} {env : DEnv} {Fs : Nat → List Addr} (g : Good G B Z H σ env Fs) (hs : Same H H1) (i : Nat) : Same (joi (lockB B H Fs i) Z) (joi (lockB B H1 Fs i) Z) :=
  joi_mono (lockB_mono hs) (Same.refl Z) (lockB_le (g.grow hs) i) (g.grow hs).sz
theorem Good.joi_in {G : Gc} {B Z H : Hp} {σ : L2.St} {env : DEnv} {Fs : Nat → List Addr} (g : Good G B Z H σ env Fs) (i : Nat) : Same (joi (lockB B H Fs i) Z) H := joi_le (lockB_le g i) g.sz
/-- a list or tuple that is read in Y -/
theorem Own.seq {G : Gc} {Y H : Hp} {d : D} {v : V} {i : Int} {e : D} (hY : Same Y H) (h : Own G Y H d v []) (hi : dIx d i = some e) :
    ∃ a vs u, v = .ref a ∧ (SqL G.K H a vs ∨ SqT G.K H a vs) ∧ atI vs i = some u ∧ Own G Y H e u [] := by
  cases d with
  | lst ds =>
    obtain ⟨a, vs, F', rfl, n, h2⟩ := h
    rcases n with ⟨hs, _, rfl⟩ | ⟨z, _⟩
    · obtain ⟨u, hu, ho⟩ := atI_own h2 hi
      exact ⟨a, vs, u, rfl, .inl (hY.seq (.inl hs)), hu, ho⟩
    · cases z
  | tupF f ds =>
    obtain ⟨a, vs, rfl, h1, h2⟩ := h
    obtain ⟨u, hu, ho⟩ := atI_own h2 hi
    exact ⟨a, vs, u, rfl, .inr h1.seq, hu, ho⟩
  | scr ns =>
    obtain ⟨_, a, rfl, hs⟩ := h
    have hi : (atI ns i).map D.int = some e := hi
    cases hn : atI ns i with
    | none => rw [hn] at hi; cases hi
    | some n =>
      rw [hn] at hi
      cases hi
      exact ⟨a, ns.map V.int, .int n, rfl, .inl (hY.seq hs), by rw [atI_map, hn]; rfl, rfl, rfl⟩
  | _ => cases hi
def rIxA (K : PySem.W.Frag) : R2 := fun x y H Q => rIxL K x y H Q ∨ rIxT K x y H Q
section
variable {G : Gc} {X : Cx} {W : Wsh}
theorem ix_any : IxR X (rIxA X.K) := IxR.or ix_list ix_tup
theorem l_ix {a b : Expr} {i : Nat} {g h : DEnv → Option D} {pos : Pos} (dx : DX X G) (ha : PE X a (TPlc G i g)) (hb : PE X b (TPur G h)) (hs : PlainIx b := by exact fun _ _ => rfl) : PE X (.Subscript a b pos) (TPlc G i (pIx g h)) :=
  (pe_ix ix_any ha hb hs).imp fun σ H Q ⟨B, Z, Fs, env, gd, d, hd, q⟩ => by
    unfold pIx at hd
    cases hg : g env with
    | none => rw [hg] at hd; cases hd
    | some d0 =>
      cases hh : h env with
      | none => rw [hg, hh] at hd; cases hd
      | some k =>
        rw [hg, hh] at hd
        have hd : gAt d0 k = some d := hd
        unfold gAt at hd
        cases hk : k.toInt with
        | none => rw [hk] at hd; cases hd
        | some n =>
          rw [hk] at hd
          obtain rfl := D.toInt_some hk
          refine ⟨B, Z, Fs, env, gd, d0, hg, fun v H1 hs1 ho => ?_⟩
          refine ⟨B, Z, Fs, env, gd.grow hs1, _, hh, fun w H2 hs2 _ hw => ?_⟩
          have g2 := gd.grow (hs1.trans hs2)
          have ho2 : Own G (joi (lockB B H2 Fs i) Z) H2 d0 v [] := Own.keep ((gd.grow hs1).joi_up hs2 i) d0 v [] (fun b u e _ => hs2 b u e) ho
          obtain ⟨a, vs, u, rfl, hsq, hu, ho3⟩ := Own.seq (g2.joi_in i) ho2 hd
          have hw0 := (hw Z).1
          subst hw0
          have fin := q u H2 (hs1.trans hs2) ho3
          rcases hsq with hsq | hsq
          · exact .inl ⟨a, vs, n, u, rfl, rfl, by rw [dx.K]; exact hsq, hu, fin⟩
          · exact .inr ⟨a, vs, n, u, rfl, rfl, by rw [dx.K]; exact hsq, hu, fin⟩

def fIx (d k : D) : Option D := match k.toInt with
  | some i => match d with
    | .str s => match atI s.cps.toList i with
      | some c => iff? (s.length ≤ 16777216) (.str ⟨#[c]⟩)
      | none => none
    | d => match dIx d i with
      | some e => iff? (e.pure = true) e
      | none => none
  | none => none
abbrev gIx := bin fIx
def rIx3 (K : PySem.W.Frag) : R2 := fun x y H Q => rIxL K x y H Q ∨ rIxT K x y H Q ∨ rIxS x y H Q
theorem ix_3 : IxR X (rIx3 X.K) := IxR.or ix_list (IxR.or ix_tup ix_str)
theorem fIx_some {d k e : D} (h : fIx d k = some e) : ∃ i, k = .int i ∧ ((∃ s c, d = .str s ∧ atI s.cps.toList i = some c ∧ s.length ≤ 16777216 ∧ e = .str ⟨#[c]⟩) ∨ (dIx d i = some e ∧ e.pure = true)) := by
  unfold fIx at h
  cases hk : k.toInt with
  | none => rw [hk] at h; cases h
  | some i =>
    rw [hk] at h
    refine ⟨i, D.toInt_some hk, ?_⟩
    cases d with
    | str s =>
      have h : (match atI s.cps.toList i with
        | some c => iff? (s.length ≤ 16777216) (D.str ⟨#[c]⟩)
        | none => none) = some e := h
      cases hc : atI s.cps.toList i with
      | none => rw [hc] at h; cases h
      | some c =>
        rw [hc] at h
        obtain ⟨hl, rfl⟩ := iff?_some h
        exact .inl ⟨s, c, rfl, hc, hl, rfl⟩
    | lst ds =>
      have h : (match dIx (.lst ds) i with
        | some e => iff? (e.pure = true) e
        | none => none) = some e := h
      cases hc : dIx (.lst ds) i with
      | none => rw [hc] at h; cases h
      | some c =>
        rw [hc] at h
        obtain ⟨hl, rfl⟩ := iff?_some h
        exact .inr ⟨rfl, hl⟩
    | tupF f ds =>
      have h : (match dIx (.tupF f ds) i with
        | some e => iff? (e.pure = true) e
        | none => none) = some e := h
      cases hc : dIx (.tupF f ds) i with
      | none => rw [hc] at h; cases h
      | some c =>
        rw [hc] at h
        obtain ⟨hl, rfl⟩ := iff?_some h
        exact .inr ⟨rfl, hl⟩
    | scr ns =>
      have h : (match dIx (.scr ns) i with
        | some e => iff? (e.pure = true) e
        | none => none) = some e := h
      cases hc : dIx (.scr ns) i with
      | none => rw [hc] at h; cases h
      | some c =>
        rw [hc] at h
        obtain ⟨hl, rfl⟩ := iff?_some h
        exact .inr ⟨rfl, hl⟩
    | _ => cases h
theorem rop_ix : ROp G (l2 (rIx3 G.K)) gIx := by
  intro ds vs H Q d h e q
  obtain ⟨a, b, rfl, e⟩ := bin_some e
  obtain ⟨x, y, rfl, h1, h2⟩ := own2 h
  obtain ⟨i, rfl, e2⟩ := fIx_some e
  rcases e2 with ⟨s, c, rfl, hc, hl, rfl⟩ | ⟨he, hp⟩
  · exact .inr (.inr ⟨s, i, c, h1.1, h2.1, by rw [← size_line]; exact hl, hc, done0 q (fun Z => ⟨rfl, rfl⟩)⟩)
  · obtain ⟨p, vs, u, rfl, hsq, hu, ho3⟩ := Own.seq (Same.refl H) h1 he
    have fin := done0 q fun Z => (Own.ofPure (Z' := Z) d u [] hp ho3).2
    rcases hsq with hsq | hsq
    · exact .inl ⟨p, vs, i, u, rfl, h2.1, hsq, hu, fin⟩
    · exact .inr (.inl ⟨p, vs, i, u, rfl, h2.1, hsq, hu, fin⟩)
theorem pure_ix : PureG gIx := by
  intro ds d e
  obtain ⟨a, b, rfl, e⟩ := bin_some e
  obtain ⟨i, rfl, e2⟩ := fIx_some e
  rcases e2 with ⟨s, c, rfl, hc, hl, rfl⟩ | ⟨he, hp⟩
  · rfl
  · exact hp
theorem p_ixo {a b : Expr} {s1 s2 : SArg} {pos : Pos} (dx : DX X G) (ha : PE X a (s1.te G)) (hb : PE X b (s2.te G)) (hs : PlainIx b := by exact fun _ _ => rfl) : PE X (.Subscript a b pos) (TPur G (hOp [s1, s2] gIx)) :=
  (pe_ix ix_3 ha hb hs).imp fun σ H Q h => tpur_op (r := l2 (rIx3 X.K)) (by rw [dx.K]; exact rop_ix) pure_ix σ H Q h
theorem e_ixo {a b : Expr} {ta tb : TE} {pos : Pos} (dx : DX X G) (c : Chn) (ha : PE X a ta) (hb : PE X b tb) (hc : c.tes G W = [ta, tb] := by rfl) (hn : c.iofs.any id = false := by rfl) (hs : PlainIx b := by exact fun _ _ => rfl) : PE X (.Subscript a b pos) (TV G W (eOp c gIx)) :=
  (pe_ix ix_3 ha hb hs).imp fun σ H Q h => by
    have q := tv_op (r := l2 (rIx3 X.K)) (by rw [dx.K]; exact rop_ix) hn σ H Q h
    rw [hc] at q
    exact q

/-- the items from lo up to hi -/
def cutD (xs : List D) (lo hi : Option Int) : List D := (xs.drop (HT.sIx xs.length 0 lo)).take (HT.sIx xs.length xs.length hi - HT.sIx xs.length 0 lo)
theorem cutD_pure {xs : List D} {lo hi : Option Int} (h : D.pureL xs = true) : D.pureL (cutD xs lo hi) = true := D.pureL_take _ _ (D.pureL_drop _ _ h)
theorem cutD_own {Z H : Hp} {xs : List D} {vs : List V} {lo hi : Option Int} (h : OwnL G Z H xs vs []) : OwnL G Z H (cutD xs lo hi) (cutV vs lo hi) [] := by
  have l := OwnL.length h
  unfold cutV cutD
  rw [l]
  exact OwnL.take _ (OwnL.drop _ h)
def fSlP (d : D) (lo hi : Option Int) : Option D := match d with
  | .str s => iff? (s.length ≤ 16777216) (.str (cutS s lo hi))
  | .tupF false xs => iff? (D.pureL xs = true) (.tup (cutD xs lo hi))
  | _ => none
def fSlL (d : D) (lo hi : Option Int) : Option D := match d.toRow with
  | some xs => iff? (D.pureL xs = true) (.lst (cutD xs lo hi))
  | none => none
/-- base, and the parts that are written -/
def sl2 (f : D → Option Int → Option Int → Option D) : List D → Option D
  | [d, l, h] => match l.toInt, h.toInt with
    | some l, some h => f d (some l) (some h)
    | _, _ => none
  | _ => none
def slL (f : D → Option Int → Option Int → Option D) : List D → Option D := bin fun d l => match l.toInt with
  | some l => f d (some l) none
  | none => none
def slH (f : D → Option Int → Option Int → Option D) : List D → Option D := bin fun d h => match h.toInt with
  | some h => f d none (some h)
  | none => none
abbrev RS := V → Option Int → Option Int → Hp → VK → Prop
def rs2 (r : RS) : List V → Hp → VK → Prop := fun vs H Q => match vs with
  | [x, l, h] => ∃ i, l = .int i ∧ ∃ j, h = .int j ∧ r x (some i) (some j) H Q
  | _ => False
def rsL (r : RS) : List V → Hp → VK → Prop := l2 fun x l H Q => ∃ i, l = .int i ∧ r x (some i) none H Q
def rsH (r : RS) : List V → Hp → VK → Prop := l2 fun x h H Q => ∃ j, h = .int j ∧ r x none (some j) H Q
/-- a slice by its parts -/
def RSl (G : Gc) (r : RS) (f : D → Option Int → Option Int → Option D) : Prop :=
  ∀ (a : D) (x : V) (lo hi : Option Int) (H : Hp) (Q : VK) (d : D), Own G H H a x [] → f a lo hi = some d → (∀ v H' F, Same H H' → (∀ Z, Own G Z H' d v F) → F.Nodup → (∀ a, a ∈ F → H a = none) → Q v H') → r x lo hi H Q
theorem sl2_some {f : D → Option Int → Option Int → Option D} {ds : List D} {d : D} (h : sl2 f ds = some d) : ∃ a i j, ds = [a, .int i, .int j] ∧ f a (some i) (some j) = some d := by
  match ds, h with
  | [a, l, u], h =>
    have h : (match l.toInt, u.toInt with
      | some l, some h => f a (some l) (some h)
      | _, _ => none) = some d := h
    cases hl : l.toInt with
    | none => rw [hl] at h; cases h
    | some i =>
      cases hu : u.toInt with
      | none => rw [hl, hu] at h; cases h
      | some j =>
        rw [hl, hu] at h
        exact ⟨a, i, j, by rw [D.toInt_some hl, D.toInt_some hu], h⟩
theorem slL_some {f : D → Option Int → Option Int → Option D} {ds : List D} {d : D} (h : slL f ds = some d) : ∃ a i, ds = [a, .int i] ∧ f a (some i) none = some d := by
  obtain ⟨a, l, rfl, h2⟩ := bin_some h
  have h2 : (match l.toInt with
    | some l => f a (some l) none
    | none => none) = some d := h2
  cases hl : l.toInt with
  | none => rw [hl] at h2; cases h2
  | some i =>
    rw [hl] at h2
    exact ⟨a, i, by rw [D.toInt_some hl], h2⟩
theorem slH_some {f : D → Option Int → Option Int → Option D} {ds : List D} {d : D} (h : slH f ds = some d) : ∃ a i, ds = [a, .int i] ∧ f a none (some i) = some d := by
  obtain ⟨a, l, rfl, h2⟩ := bin_some h
  have h2 : (match l.toInt with
    | some l => f a none (some l)
    | none => none) = some d := h2
  cases hl : l.toInt with
  | none => rw [hl] at h2; cases h2
  | some i =>
    rw [hl] at h2
    exact ⟨a, i, by rw [D.toInt_some hl], h2⟩
theorem RSl.r2 {r : RS} {f : D → Option Int → Option Int → Option D} (h : RSl G r f) : ROp G (rs2 r) (sl2 f) := by
  intro ds vs H Q d ho e q
  obtain ⟨a, i, j, rfl, e⟩ := sl2_some e
  obtain ⟨x, y, z, rfl, h1, h2, h3⟩ := own3 ho
  exact ⟨i, h2.1, j, h3.1, h a x _ _ H Q d h1 e q⟩
theorem RSl.rL {r : RS} {f : D → Option Int → Option Int → Option D} (h : RSl G r f) : ROp G (rsL r) (slL f) := by
  intro ds vs H Q d ho e q
  obtain ⟨a, i, rfl, e⟩ := slL_some e
  obtain ⟨x, y, rfl, h1, h2⟩ := own2 ho
  exact ⟨i, h2.1, h a x _ _ H Q d h1 e q⟩
theorem RSl.rH {r : RS} {f : D → Option Int → Option Int → Option D} (h : RSl G r f) : ROp G (rsH r) (slH f) := by
  intro ds vs H Q d ho e q
  obtain ⟨a, i, rfl, e⟩ := slH_some e
  obtain ⟨x, y, rfl, h1, h2⟩ := own2 ho
  exact ⟨i, h2.1, h a x _ _ H Q d h1 e q⟩
def PureS (f : D → Option Int → Option Int → Option D) : Prop := ∀ a lo hi d, f a lo hi = some d → d.pure = true
theorem PureS.p2 {f : D → Option Int → Option Int → Option D} (h : PureS f) : PureG (sl2 f) := fun ds d e => by
  obtain ⟨a, i, j, rfl, e⟩ := sl2_some e
  exact h _ _ _ _ e
def rSlP (K : PySem.W.Frag) : RS := fun x lo hi H Q => rSlS x lo hi H Q ∨ rSlA K x lo hi H Q
theorem sl_P : SlR X (rSlP X.K) := SlR.or sl_str sl_tupA
theorem fSlP_some {a d : D} {lo hi : Option Int} (h : fSlP a lo hi = some d) : (∃ s, a = .str s ∧ s.length ≤ 16777216 ∧ d = .str (cutS s lo hi)) ∨ ∃ xs, a = .tup xs ∧ D.pureL xs = true ∧ d = .tup (cutD xs lo hi) := by
  cases a with
  | str s => obtain ⟨hl, rfl⟩ := iff?_some h; exact .inl ⟨s, rfl, hl, rfl⟩
  | tupF f s =>
    cases f with
    | false => obtain ⟨hl, rfl⟩ := iff?_some h; exact .inr ⟨s, rfl, hl, rfl⟩
    | true => cases h
  | _ => cases h
theorem slP_ok : RSl G (rSlP G.K) fSlP := by
  intro a x lo hi H Q d h e q
  rcases fSlP_some e with ⟨s, rfl, hl, rfl⟩ | ⟨xs, rfl, hp, rfl⟩
  · exact .inl ⟨s, h.1, by rw [← size_line]; exact hl, done0 q (fun Z => ⟨rfl, rfl⟩)⟩
  · obtain ⟨p, vs, rfl, e1, o1⟩ := h
    have l := OwnL.length o1
    have oc := cutD_own (lo := lo) (hi := hi) o1
    have pc := cutD_pure (lo := lo) (hi := hi) hp
    refine .inr ⟨p, vs, rfl, SqT.of e1, fun z => ?_, fun z p2 hn => ?_⟩
    · have ec : cutD xs lo hi = xs := by
        rw [l] at z
        unfold cutD
        rw [z.1, z.2, Nat.sub_zero, List.drop_zero, List.take_length]
      rw [ec] at q
      exact done0 q (fun Z => ⟨p, vs, rfl, e1, OwnL.pure_any hp o1⟩)
    · exact q _ _ [] (same_upd hn) (fun Z => new_tup pc hn oc Z) List.nodup_nil fun a m => by cases m
theorem slP_pure : PureS fSlP := fun a lo hi d e => by
  rcases fSlP_some e with ⟨s, rfl, hl, rfl⟩ | ⟨xs, rfl, hp, rfl⟩
  · rfl
  · exact cutD_pure hp
theorem slL_ok : RSl G (rSlL G.K) fSlL := by
  intro a x lo hi H Q d h e q
  unfold fSlL at e
  cases ha : a.toRow with
  | none => rw [ha] at e; cases e
  | some xs =>
    rw [ha] at e
    obtain ⟨hp, rfl⟩ := iff?_some e
    obtain ⟨p, vs, rfl, hs, o1⟩ := h.rowR ha
    refine ⟨p, vs, rfl, hs, fun p2 hn => ?_⟩
    exact q _ _ [p2] (same_upd hn) (fun Z => new_lst (cutD_pure hp) hn (cutD_own o1) Z) (List.nodup_cons.mpr ⟨by simp, List.nodup_nil⟩) fun a m => by
      obtain rfl := List.mem_singleton.mp m
      exact hn
section
variable {e : Expr} {lo hi : Expr} {s1 s2 s3 : SArg} {pos p2 : Pos} {r : RS} {f : D → Option Int → Option Int → Option D} {te tl th : TE}
theorem part_run {h : DEnv → Option D} {σ : L2.St} {H : Hp} {R : V → Hp → Prop} (t : TInt G h σ H R) : TPur G h σ H fun y H2 => ∃ i, y = .int i ∧ R (.int i) H2 := by
  obtain ⟨B, Z, Fs, env, g, i, hi, q⟩ := t
  exact ⟨B, Z, Fs, env, g, _, hi, fun v H' hs _ ho => ⟨i, (ho Z).1, q H' hs⟩⟩
variable {hl hu : DEnv → Option D} {c : Chn}
theorem p_sl2 (hr : SlR X r) (ho : RSl G r f) (hp : PureS f) (he : PE X e (s1.te G)) (pl : PE X lo (TPur G hl)) (ph : PE X hi (TPur G hu)) : PE X (.Subscript e (.Slice (some lo) (some hi) none p2) pos) (TPur G (hOp [s1, .int hl, .int hu] (sl2 f))) :=
  (pe_slice hr he (po_some pl) (po_some ph)).imp fun σ H Q h => by
    have q : s1.te G σ H fun x H1 => TInt G hl σ H1 fun y H2 => TInt G hu σ H2 fun z H3 => rs2 r [x, y, z] H3 Q := tpur_op ho.r2 hp.p2 σ H Q h
    refine SArg.mono (fun x H1 q => ?_) q
    obtain ⟨B, Z, Fs, env, g, d, hd, q⟩ := part_run q
    refine ⟨B, Z, Fs, env, g, d, hd, fun v H' hs hp ho => ?_⟩
    obtain ⟨i, e1, q⟩ := q v H' hs hp ho
    refine ⟨i, e1, ?_⟩
    obtain ⟨B, Z, Fs, env, g, d, hd, q⟩ := part_run q
    refine ⟨B, Z, Fs, env, g, d, hd, fun v H' hs hp ho => ?_⟩
    obtain ⟨j, e2, i2, e3, j2, e4, q⟩ := q v H' hs hp ho
    cases e3
    cases e4
    exact ⟨j, e2, q⟩
/-- .. the base of any kind -/
theorem e_sl2 (hr : SlR X r) (ho : RSl G r f) (c : Chn) (he : PE X e te) (pl : PE X lo (TPur G hl)) (ph : PE X hi (TPur G hu)) (hc : c.tes G W = [te, TInt G hl, TInt G hu] := by rfl) (hm : ∀ σ H Q Q', (∀ v H, Q v H → Q' v H) → te σ H Q → te σ H Q' := by first | exact fun _ _ _ _ => TV.mono | exact fun _ _ _ _ h => SArg.mono (a := .plc _ _) h | exact fun _ _ _ _ h => SArg.mono (a := .pur _) h) (hn : c.iofs.any id = false := by rfl) : PE X (.Subscript e (.Slice (some lo) (some hi) none p2) pos) (TV G W (eOp c (sl2 f))) :=
  (pe_slice hr he (po_some pl) (po_some ph)).imp fun σ H Q h => by
    have q := tv_op ho.r2 hn σ H Q h
    rw [hc] at q
    have q : te σ H fun x H1 => TInt G hl σ H1 fun y H2 => TInt G hu σ H2 fun z H3 => rs2 r [x, y, z] H3 Q := q
    refine hm _ _ _ _ (fun x H1 q => ?_) q
    obtain ⟨B, Z, Fs, env, g, d, hd, q⟩ := part_run q
    refine ⟨B, Z, Fs, env, g, d, hd, fun v H' hs hp ho => ?_⟩
    obtain ⟨i, e1, q⟩ := q v H' hs hp ho
    refine ⟨i, e1, ?_⟩
    obtain ⟨B, Z, Fs, env, g, d, hd, q⟩ := part_run q
    refine ⟨B, Z, Fs, env, g, d, hd, fun v H' hs hp ho => ?_⟩
    obtain ⟨j, e2, i2, e3, j2, e4, q⟩ := q v H' hs hp ho
    cases e3
    cases e4
    exact ⟨j, e2, q⟩
theorem e_slL (hr : SlR X r) (ho : RSl G r f) (c : Chn) (he : PE X e te) (pl : PE X lo (TPur G hl)) (hc : c.tes G W = [te, TInt G hl] := by rfl) (hm : ∀ σ H Q Q', (∀ v H, Q v H → Q' v H) → te σ H Q → te σ H Q' := by first | exact fun _ _ _ _ => TV.mono | exact fun _ _ _ _ h => SArg.mono (a := .plc _ _) h | exact fun _ _ _ _ h => SArg.mono (a := .pur _) h) (hn : c.iofs.any id = false := by rfl) : PE X (.Subscript e (.Slice (some lo) none none p2) pos) (TV G W (eOp c (slL f))) :=
  (pe_slice hr he (po_some pl) po_none).imp fun σ H Q h => by
    have q := tv_op ho.rL hn σ H Q h
    rw [hc] at q
    have q : te σ H fun x H1 => TInt G hl σ H1 fun y H2 => rsL r [x, y] H2 Q := q
    refine hm _ _ _ _ (fun x H1 q => ?_) q
    obtain ⟨B, Z, Fs, env, g, d, hd, q⟩ := part_run q
    refine ⟨B, Z, Fs, env, g, d, hd, fun v H' hs hp ho => ?_⟩
    obtain ⟨i, e1, i2, e3, q⟩ := q v H' hs hp ho
    cases e3
    exact ⟨i, e1, q⟩
theorem e_slH (hr : SlR X r) (ho : RSl G r f) (c : Chn) (he : PE X e te) (ph : PE X hi (TPur G hu)) (hc : c.tes G W = [te, TInt G hu] := by rfl) (hm : ∀ σ H Q Q', (∀ v H, Q v H → Q' v H) → te σ H Q → te σ H Q' := by first | exact fun _ _ _ _ => TV.mono | exact fun _ _ _ _ h => SArg.mono (a := .plc _ _) h | exact fun _ _ _ _ h => SArg.mono (a := .pur _) h) (hn : c.iofs.any id = false := by rfl) : PE X (.Subscript e (.Slice none (some hi) none p2) pos) (TV G W (eOp c (slH f))) :=
  (pe_slice hr he po_none (po_some ph)).imp fun σ H Q h => by
    have q := tv_op ho.rH hn σ H Q h
    rw [hc] at q
    have q : te σ H fun x H1 => TInt G hu σ H1 fun y H2 => rsH r [x, y] H2 Q := q
    refine hm _ _ _ _ (fun x H1 q => ?_) q
    obtain ⟨B, Z, Fs, env, g, d, hd, q⟩ := part_run q
    refine ⟨B, Z, Fs, env, g, d, hd, fun v H' hs hp ho => ?_⟩
    obtain ⟨i, e1, i2, e3, q⟩ := q v H' hs hp ho
    cases e3
    exact ⟨i, e1, q⟩
end
def fTup (ds : List D) : Option D := iff? (D.pureL ds = true ∧ ds.length ≤ 16777216) (.tup ds)
theorem rop_tup : ROp G (fun vs H Q => vs.length ≤ sizeLine ∧ ∀ p, H p = none → Q (.ref p) (upd H p (.tup vs))) fTup := by
  intro ds vs H Q d h e q
  obtain ⟨⟨hp, hl⟩, rfl⟩ := iff?_some e
  refine ⟨by rw [← size_line, OwnL.length h]; exact hl, fun p hn => ?_⟩
  exact q _ _ [] (same_upd hn) (fun Z => new_tup hp hn h Z) List.nodup_nil fun a m => by cases m
theorem pure_tup : PureG fTup := fun ds d e => by
  obtain ⟨⟨hp, hl⟩, rfl⟩ := iff?_some e
  exact hp
theorem p_tup {es : List Expr} {t : TA} {hs : List SArg} {k : Nat} {pos : Pos} (h : PA X es t) (ht : t = seqTE (hs.map (SArg.te G)) := by rfl) : PE X (.Tuple es k pos) (TPur G (hOp hs fTup)) :=
  (pe_tup h).imp fun σ H Q hq => by
    subst ht
    exact tpur_op rop_tup pure_tup σ H Q hq
/-- a display of owned items -/
def dspK (mk : List D → D) : Kn := fun ds e => if ds.length ≤ 16777216 then .ok (mk ds, [], e) else .bad
theorem OwnT.allOwn {Y Z H : Hp} : ∀ {its : List (Bool × D)} {vs : List V} {T : List Addr}, (∀ p ∈ its, p.1 = true) → OwnT G Y Z H its vs T → OwnL G Z H (its.map (·.2)) vs T
  | [], vs, T, _, h => h
  | (o, d) :: r, vs, T, ha, h => by
    obtain ⟨v', rest, F2, F3, rfl, rfl, h2, h3⟩ := h
    have : o = true := ha (o, d) List.mem_cons_self
    subst this
    exact ⟨v', rest, F2, F3, rfl, rfl, h2, OwnT.allOwn (fun p hp => ha p (List.mem_cons_of_mem _ hp)) h3⟩
theorem all_own {its : List (Bool × D)} {n : Nat} (h : its.map (·.1) = List.replicate n true) : ∀ p ∈ its, p.1 = true := fun p hp => by
  have : p.1 ∈ its.map (·.1) := List.mem_map_of_mem hp
  rw [h] at this
  exact (List.mem_replicate.mp this).2
theorem none_of_free {B Z H : Hp} {σ : L2.St} {env : DEnv} {Fs : Nat → List Addr} (g : Good G B Z H σ env Fs) {p : Addr} (hn : H p = none) : ¬ InF Fs p ∧ B p = none ∧ Z p = none := by
  refine ⟨fun m => ?_, ?_, ?_⟩
  · obtain ⟨o, e, _⟩ := g.dom m
    rw [hn] at e; cases e
  · cases q : B p with
    | none => rfl
    | some u =>
      have := g.sb p u q
      rw [hn] at this; cases this
  · cases q : Z p with
    | none => rfl
    | some u =>
      have := g.sz p u q
      rw [hn] at this; cases this
theorem dsp_tup {n : Nat} {fl : List Bool} (hfl : fl.any id = false) : KOk G W fl (List.replicate n true) (fun vs H Q => vs.length ≤ sizeLine ∧ ∀ p, H p = none → Q (.ref p) (upd H p (.tup vs))) (dspK .tup) := by
  intro B Z H σ env Fs its vs T ios Q gd hd hb hn hF
  obtain rfl : ios = [] := hn.trans (ioV_none fl vs hfl)
  unfold dspK at hF
  have ho := OwnT.allOwn (all_own hb) hd.own
  split at hF
  · rename_i hl
    refine ⟨by rw [← size_line, OwnL.length ho]; exact hl, fun p hp => ?_⟩
    have nf := none_of_free gd hp
    refine hF _ Z _ Fs T ⟨Stp.grow gd (fun a m => .inl m) (same_upd hp), ⟨.ref p, [], T, [], rfl, by simp, ⟨p, vs, rfl, upd_same, ?_⟩, rfl, rfl⟩, hd.nd, hd.dj, hd.fr, fun a m => .inr (.inr m)⟩
    exact OwnL.keep (Same.refl Z) _ vs T (fun b u e _ => same_upd hp b u e) ho
  · exact hF.elim
theorem dsp_lst {n : Nat} {fl : List Bool} (hfl : fl.any id = false) : KOk G W fl (List.replicate n true) (fun vs H Q => vs.length ≤ sizeLine ∧ ∀ p, H p = none → Q (.ref p) (upd H p (.lst vs))) (dspK .lst) := by
  intro B Z H σ env Fs its vs T ios Q gd hd hb hn hF
  obtain rfl : ios = [] := hn.trans (ioV_none fl vs hfl)
  unfold dspK at hF
  have ho := OwnT.allOwn (all_own hb) hd.own
  split at hF
  · rename_i hl
    refine ⟨by rw [← size_line, OwnL.length ho]; exact hl, fun p hp => ?_⟩
    have nf := none_of_free gd hp
    have npT : p ∉ T := fun m => by
      obtain ⟨o, e, _⟩ := hd.own.dom p m
      rw [hp] at e; cases e
    refine hF _ Z _ Fs (p :: T) ⟨Stp.grow gd (fun a m => .inl m) (same_upd hp), ⟨.ref p, [], p :: T, [], rfl, by simp, ⟨p, vs, T, rfl, .inr ⟨rfl, upd_same⟩, ?_⟩, rfl, rfl⟩, List.nodup_cons.mpr ⟨npT, hd.nd⟩, fun a m => ?_, fun a m => ?_, fun a m => ?_⟩
    · exact OwnL.keep (Same.refl Z) _ vs T (fun b u e _ => same_upd hp b u e) ho
    · rcases List.mem_cons.mp m with rfl | m
      · exact nf.1
      · exact hd.dj a m
    · rcases List.mem_cons.mp m with rfl | m
      · exact nf.2
      · exact hd.fr a m
    · rcases List.mem_cons.mp m with rfl | m
      · exact .inl hp
      · exact .inr (.inr m)
  · exact hF.elim
theorem e_tup {es : List Expr} {t : TA} {k : Nat} {pos : Pos} (c : Chn) (h : PA X es t) (ht : t = seqTE (c.tes G W) := by rfl) (hn : c.iofs.any id = false := by rfl) (hk : c.kinds = List.replicate es.length true := by rfl) : PE X (.Tuple es k pos) (TV G W (eK c (dspK .tup))) :=
  (pe_tup h).imp fun σ H Q hq => by
    subst ht
    exact tv_chn (dsp_tup (n := es.length) hn) rfl hk σ H Q hq
theorem e_lst {es : List Expr} {t : TA} {pos : Pos} (c : Chn) (h : PA X es t) (ht : t = seqTE (c.tes G W) := by rfl) (hn : c.iofs.any id = false := by rfl) (hk : c.kinds = List.replicate es.length true := by rfl) : PE X (.List es pos) (TV G W (eK c (dspK .lst))) :=
  (pe_lst h).imp fun σ H Q hq => by
    subst ht
    exact tv_chn (dsp_lst (n := es.length) hn) rfl hk σ H Q hq

theorem p_callB {x : Str} {p pos : Pos} {e : Expr} {es : List Expr} {t : TA} {hs : List SArg} {bid : String} {r : List V → Hp → VK → Prop} {g : List D → Option D} (hc : CallR X (.builtin bid) r) (hg : Gl X x) (hm : X.mg x = none) (hv : bootBuiltins x = some (.builtin bid)) (hr : ROp G r g) (hp : PureG g)
    (ha : PA X (e :: es) t) (ht : t = seqTE (hs.map (SArg.te G)) := by rfl) (hn : x ≠ "__name__" := by decide) (hdb : (x == ("__debug__" : Str)) = false := by decide) (he : starEach (e :: es) X.env = (false, eval e X.env) :: starEach es X.env := by rfl) (hpl : (backTo pos (starEach es X.env)).any (·.1) = false := by rfl) :
    PE X (.Call (.Name x p) (e :: es) [] pos) (TPur G (hOp hs g)) :=
  (pe_callB hc hg hm hv ha hn hdb he hpl).imp fun σ H Q hq => by
    subst ht
    exact tpur_op hr hp σ H Q hq
theorem p_callT {x : Str} {p pos : Pos} {e : Expr} {es : List Expr} {t : TA} {hs : List SArg} {T : String} {r : List V → Hp → VK → Prop} {g : List D → Option D} (hc : CallR X (.type T) r) (hg : Gl X x) (hm : X.mg x = none) (hv : bootBuiltins x = some (.type T)) (hr : ROp G r g) (hp : PureG g)
    (ha : PA X (e :: es) t) (ht : t = seqTE (hs.map (SArg.te G)) := by rfl) (hn : x ≠ "__name__" := by decide) (hdb : (x == ("__debug__" : Str)) = false := by decide) (he : starEach (e :: es) X.env = (false, eval e X.env) :: starEach es X.env := by rfl) (hpl : (backTo pos (starEach es X.env)).any (·.1) = false := by rfl) :
    PE X (.Call (.Name x p) (e :: es) [] pos) (TPur G (hOp hs g)) :=
  (pe_callTy hc hg hm hv ha hn hdb he hpl).imp fun σ H Q hq => by
    subst ht
    exact tpur_op hr hp σ H Q hq
theorem e_callB {x : Str} {p pos : Pos} {e : Expr} {es : List Expr} {t : TA} {bid : String} {r : List V → Hp → VK → Prop} {g : List D → Option D} (hc : CallR X (.builtin bid) r) (hg : Gl X x) (hm : X.mg x = none) (hv : bootBuiltins x = some (.builtin bid)) (hr : ROp G r g) (c : Chn)
    (ha : PA X (e :: es) t) (ht : t = seqTE (c.tes G W) := by rfl) (hio : c.iofs.any id = false := by rfl) (hn : x ≠ "__name__" := by decide) (hdb : (x == ("__debug__" : Str)) = false := by decide) (he : starEach (e :: es) X.env = (false, eval e X.env) :: starEach es X.env := by rfl) (hpl : (backTo pos (starEach es X.env)).any (·.1) = false := by rfl) :
    PE X (.Call (.Name x p) (e :: es) [] pos) (TV G W (eOp c g)) :=
  (pe_callB hc hg hm hv ha hn hdb he hpl).imp fun σ H Q hq => by
    subst ht
    exact tv_op hr hio σ H Q hq
theorem e_callT {x : Str} {p pos : Pos} {e : Expr} {es : List Expr} {t : TA} {T : String} {r : List V → Hp → VK → Prop} {g : List D → Option D} (hc : CallR X (.type T) r) (hg : Gl X x) (hm : X.mg x = none) (hv : bootBuiltins x = some (.type T)) (hr : ROp G r g) (c : Chn)
    (ha : PA X (e :: es) t) (ht : t = seqTE (c.tes G W) := by rfl) (hio : c.iofs.any id = false := by rfl) (hn : x ≠ "__name__" := by decide) (hdb : (x == ("__debug__" : Str)) = false := by decide) (he : starEach (e :: es) X.env = (false, eval e X.env) :: starEach es X.env := by rfl) (hpl : (backTo pos (starEach es X.env)).any (·.1) = false := by rfl) :
    PE X (.Call (.Name x p) (e :: es) [] pos) (TV G W (eOp c g)) :=
  (pe_callTy hc hg hm hv ha hn hdb he hpl).imp fun σ H Q hq => by
    subst ht
    exact tv_op hr hio σ H Q hq
end
end DL
namespace DL
open PySem PySem.Spec PyProof.Rows L2
def FinB (G : Gc) (W : Wsh) (B Z H : Hp) (σ : L2.St) (env : DEnv) (P : Addr → Prop) (o : Out (Bool × DEnv)) (Q : Bool → Hp → Prop) : Prop := match o with
  | .ok (b, env') => ∀ Z' H' Fs', Stp G B Z H σ env P Z' H' σ env' Fs' → Q b H'
  | .exc c => ∀ H', Same B H' → W c σ H'
  | .bad => False
def TB (G : Gc) (W : Wsh) (f : DEnv → Out (Bool × DEnv)) : TT := fun σ H Q => ∃ B Z Fs env, Good G B Z H σ env Fs ∧ FinB G W B Z H σ env (InF Fs) (f env) Q
def TBp (G : Gc) (h : DEnv → Option Bool) : TT := fun σ H Q => ∃ B Z Fs env, Good G B Z H σ env Fs ∧ ∃ b, h env = some b ∧ ∀ H', Same H H' → Q b H'
theorem _root_.L2.PT.imp {X : Cx} {e : Expr} {t t' : TT} (h : PT X e t) (i : ∀ σ H Q, t' σ H Q → t σ H Q) : PT X e t' := ⟨fun pins s σ H Q I hq => h.run pins s σ H Q I (i σ H Q hq)⟩
theorem _root_.L2.PW.imp {X : Cx} {e : Expr} {t t' : TT} (h : PW X e t) (i : ∀ σ H Q, t' σ H Q → t σ H Q) : PW X e t' := ⟨fun wh pins s σ H Q I hq => h.run wh pins s σ H Q I (i σ H Q hq)⟩
def D.toBl : D → Option Bool
  | .bl b => some b
  | _ => none
theorem D.toBl_some {d : D} {i : Bool} (h : d.toBl = some i) : d = .bl i := by
  cases d <;> first | (cases h; rfl) | cases h
def hB (h : DEnv → Option D) : DEnv → Option Bool := fun env => match h env with
  | some d => d.toBl
  | none => none
def eB (f : DEnv → Out (D × DEnv)) : DEnv → Out (Bool × DEnv) := fun env => f env >>= fun p => must p.1.toBl fun b => .ok (b, p.2)
def eBp (h : DEnv → Option Bool) : DEnv → Out (Bool × DEnv) := fun env => must (h env) fun b => .ok (b, env)
def hNot (h : DEnv → Option Bool) : DEnv → Option Bool := fun env => match h env with
  | some b => some (!b)
  | none => none
def eNot (f : DEnv → Out (Bool × DEnv)) : DEnv → Out (Bool × DEnv) := fun env => f env >>= fun p => .ok (!p.1, p.2)
def hAnd (h k : DEnv → Option Bool) : DEnv → Option Bool := fun env => match h env with
  | some b => if b = true then k env else some false
  | none => none
def hOr (h k : DEnv → Option Bool) : DEnv → Option Bool := fun env => match h env with
  | some b => if b = true then some true else k env
  | none => none
def eOr (f g : DEnv → Out (Bool × DEnv)) : DEnv → Out (Bool × DEnv) := fun env => f env >>= fun p => if p.1 = true then .ok (true, p.2) else g p.2
theorem hB_some {h : DEnv → Option D} {env : DEnv} {b : Bool} (e : hB h env = some b) : h env = some (.bl b) := by
  unfold hB at e
  cases hh : h env with
  | none => rw [hh] at e; cases e
  | some d =>
    rw [hh] at e
    rw [D.toBl_some e]

section
variable {G : Gc} {X : Cx} {W : Wsh} {a b e : Expr} {pos : Pos} {rest : List Expr}
theorem FinB.later {B Z H Z1 H1 : Hp} {σ : L2.St} {env env1 : DEnv} {Fs1 : Nat → List Addr} {P P1 : Addr → Prop} {o : Out (Bool × DEnv)} {Q : Bool → Hp → Prop} (s : Stp G B Z H σ env P Z1 H1 σ env1 Fs1) (hp : ∀ a, P1 a → H a = none ∨ P a) (h : FinB G W B Z H σ env P o Q) : FinB G W B Z1 H1 σ env1 P1 o Q := by
  unfold FinB at h ⊢
  match o, h with
  | .ok (d, env'), h => exact fun Z' H' Fs' p => h Z' H' Fs' (s.trans hp p)
  | .exc c, h => exact h
theorem Good.loc {B Z H : Hp} {σ : L2.St} {env : DEnv} {Fs : Nat → List Addr} (g : Good G B Z H σ env Fs) : ∀ a, InF Fs a → H a = none ∨ InF Fs a := fun a m => .inr m
theorem t_cmp {op : CmpOp} {r : R2} {g : List D → Option D} {s1 s2 : SArg} (ho : OpR X (compareOp op) r) (hr : ROp G (l2 r) g) (hp : PureG g) (ha : PE X a (s1.te G)) (hb : PE X b (s2.te G)) (hm : behindInMarks op b = false := by first | exact nomark _ | rfl) : PT X (.Compare a [op] [b] pos) (TBp G (hB (hOp [s1, s2] g))) :=
  (pt_cmpR ho ha hb hm).imp fun σ H Q ⟨B, Z, Fs, env, gd, k, hk, q⟩ => by
    have q1 : TPur G (hOp [s1, s2] g) σ H (fun x H' => ∃ k, x = .bl k ∧ Q k H') := ⟨B, Z, Fs, env, gd, .bl k, hB_some hk, fun v H' hs _ ho => ⟨k, (ho Z).1, q H' hs⟩⟩
    exact tpur_op hr hp σ H _ q1
theorem eB_fin {B Z H : Hp} {σ : L2.St} {env : DEnv} {P : Addr → Prop} {o : Out (D × DEnv)} {Q : Bool → Hp → Prop} (h : FinB G W B Z H σ env P (o >>= fun p => must p.1.toBl fun b => .ok (b, p.2)) Q) : FinV G W B Z H σ env P o (fun x H' => ∃ k, x = .bl k ∧ Q k H') := by
  unfold FinB at h
  unfold FinV
  match o, h with
  | .ok (d, env'), h =>
    intro v Z' H' Fs' F p
    have h : (match must d.toBl fun b => Out.ok (b, env') with
      | .ok (b, env') => ∀ Z' H' Fs', Stp G B Z H σ env P Z' H' σ env' Fs' → Q b H'
      | .exc c => ∀ H', Same B H' → W c σ H'
      | .bad => False) := h
    cases hd : d.toBl with
    | none => rw [hd] at h; exact h.elim
    | some k =>
      rw [hd] at h
      obtain rfl := D.toBl_some hd
      obtain ⟨v', r', Fa, Fb, e1, e2, h1, h2⟩ := p.own
      cases e1
      exact ⟨k, h1.1, h Z' H' Fs' p.st⟩
  | .exc c, h => exact h
theorem t_cmpE {op : CmpOp} {r : R2} {g : List D → Option D} {ta tb : TE} (ho : OpR X (compareOp op) r) (hr : ROp G (l2 r) g) (c : Chn) (ha : PE X a ta) (hb : PE X b tb) (hm : behindInMarks op b = false := by first | exact nomark _ | rfl) (hc : c.tes G W = [ta, tb] := by rfl) (hn : c.iofs.any id = false := by rfl) : PT X (.Compare a [op] [b] pos) (TB G W (eB (eOp c g))) :=
  (pt_cmpR ho ha hb hm).imp fun σ H Q ⟨B, Z, Fs, env, gd, q⟩ => by
    have q1 : TV G W (eOp c g) σ H (fun x H' => ∃ k, x = .bl k ∧ Q k H') := ⟨B, Z, Fs, env, gd, eB_fin q⟩
    have q2 := tv_op hr hn σ H _ q1
    rw [hc] at q2
    exact q2
theorem t_val {h : DEnv → Option D} (he : PE X e (TPur G h)) (hw : ∀ whole, isTrue e X.env whole = (do let v ← whole; standAt e.pos; holding [v] (truthy v)) := by intro _; rfl) : PT X e (TBp G (hB h)) :=
  (pt_val he hw).imp fun σ H Q ⟨B, Z, Fs, env, gd, k, hk, q⟩ => ⟨B, Z, Fs, env, gd, .bl k, hB_some hk, fun v H' hs _ ho => ⟨k, (ho Z).1, q H' hs⟩⟩
theorem t_valE {f : DEnv → Out (D × DEnv)} (he : PE X e (TV G W f)) (hw : ∀ whole, isTrue e X.env whole = (do let v ← whole; standAt e.pos; holding [v] (truthy v)) := by intro _; rfl) : PT X e (TB G W (eB f)) :=
  (pt_val he hw).imp fun σ H Q ⟨B, Z, Fs, env, gd, q⟩ => ⟨B, Z, Fs, env, gd, eB_fin q⟩
theorem t_not {h : DEnv → Option Bool} (ha : PT X a (TBp G h)) : PT X (.UnaryOp .Not a pos) (TBp G (hNot h)) :=
  (pt_not ha).imp fun σ H Q ⟨B, Z, Fs, env, gd, k, hk, q⟩ => by
    unfold hNot at hk
    cases hh : h env with
    | none => rw [hh] at hk; cases hk
    | some c =>
      rw [hh] at hk
      cases hk
      exact ⟨B, Z, Fs, env, gd, c, hh, q⟩
theorem t_notE {f : DEnv → Out (Bool × DEnv)} (ha : PT X a (TB G W f)) : PT X (.UnaryOp .Not a pos) (TB G W (eNot f)) :=
  (pt_not ha).imp fun σ H Q ⟨B, Z, Fs, env, gd, q⟩ => by
    refine ⟨B, Z, Fs, env, gd, ?_⟩
    unfold eNot FinB at q
    unfold FinB
    match f env, q with
    | .ok (d, env'), q => exact q
    | .exc c, q => exact q
/-- a test that changes nothing, as one that may -/
theorem t_p {h : DEnv → Option Bool} (ha : PT X a (TBp G h)) : PT X a (TB G W (eBp h)) :=
  ha.imp fun σ H Q ⟨B, Z, Fs, env, gd, q⟩ => by
    unfold eBp FinB at q
    cases hh : h env with
    | none => rw [hh] at q; exact q.elim
    | some c =>
      rw [hh] at q
      exact ⟨B, Z, Fs, env, gd, c, hh, fun H' hs => q Z H' Fs (Stp.grow gd (fun _ m => m) hs)⟩
theorem w_and1 {t : TT} (ha : PT X a t) : PW X (.BoolOp .And [a] pos) t := pw_and1 ha
theorem w_or1 {t : TT} (ha : PT X a t) : PW X (.BoolOp .Or [a] pos) t := pw_or1 ha
theorem w_and {h k : DEnv → Option Bool} (ha : PT X a (TBp G h)) (hb : PW X (.BoolOp .And (b :: rest) pos) (TBp G k)) : PW X (.BoolOp .And (a :: b :: rest) pos) (TBp G (hAnd h k)) :=
  (pw_and ha hb).imp fun σ H Q ⟨B, Z, Fs, env, gd, c, hc, q⟩ => by
    unfold hAnd at hc
    cases hh : h env with
    | none => rw [hh] at hc; cases hc
    | some b0 =>
      rw [hh] at hc
      refine ⟨B, Z, Fs, env, gd, b0, hh, fun H1 hs1 => ?_⟩
      cases b0 with
      | true => exact ⟨B, Z, Fs, env, gd.grow hs1, c, hc, fun H' hs => q H' (hs1.trans hs)⟩
      | false => cases hc; exact q H1 hs1
theorem w_or {h k : DEnv → Option Bool} (ha : PT X a (TBp G h)) (hb : PW X (.BoolOp .Or (b :: rest) pos) (TBp G k)) : PW X (.BoolOp .Or (a :: b :: rest) pos) (TBp G (hOr h k)) :=
  (pw_or ha hb).imp fun σ H Q ⟨B, Z, Fs, env, gd, c, hc, q⟩ => by
    unfold hOr at hc
    cases hh : h env with
    | none => rw [hh] at hc; cases hc
    | some b0 =>
      rw [hh] at hc
      refine ⟨B, Z, Fs, env, gd, b0, hh, fun H1 hs1 => ?_⟩
      cases b0 with
      | false => exact ⟨B, Z, Fs, env, gd.grow hs1, c, hc, fun H' hs => q H' (hs1.trans hs)⟩
      | true => cases hc; exact q H1 hs1
theorem w_orE {f g : DEnv → Out (Bool × DEnv)} (ha : PT X a (TB G W f)) (hb : PW X (.BoolOp .Or (b :: rest) pos) (TB G W g)) : PW X (.BoolOp .Or (a :: b :: rest) pos) (TB G W (eOr f g)) :=
  (pw_or ha hb).imp fun σ H Q ⟨B, Z, Fs, env, gd, q⟩ => by
    refine ⟨B, Z, Fs, env, gd, ?_⟩
    unfold eOr at q
    cases hf : f env with
    | bad => rw [hf] at q; exact q.elim
    | exc c => rw [hf] at q; exact q
    | ok p =>
      obtain ⟨b0, env1⟩ := p
      rw [hf] at q
      have q : FinB G W B Z H σ env (InF Fs) (if b0 = true then .ok (true, env1) else g env1) Q := q
      intro Z1 H1 Fs1 s1
      cases b0 with
      | false => exact ⟨B, Z1, Fs1, env1, s1.good, FinB.later s1 s1.new q⟩
      | true => exact q Z1 H1 Fs1 s1

def hAndV (h k : DEnv → Option D) : DEnv → Option D := fun env => match hB h env with
  | some b => if b = true then k env else some (.bl false)
  | none => none
def hNotV (h : DEnv → Option D) : DEnv → Option D := fun env => match hB h env with
  | some b => some (.bl (!b))
  | none => none
def eAndV (f g : DEnv → Out (D × DEnv)) : DEnv → Out (D × DEnv) := fun env => eB f env >>= fun p => if p.1 = true then g p.2 else .ok (.bl false, p.2)
theorem p_one {op} {t : TE} (h : PE X a t) : PE X (.BoolOp op [a] pos) t := pe_one h
theorem p_and {h k : DEnv → Option D} (ha : PE X a (TPur G h)) (hb : PE X (.BoolOp .And (b :: rest) pos) (TPur G k)) : PE X (.BoolOp .And (a :: b :: rest) pos) (TPur G (hAndV h k)) :=
  (pe_and ha hb).imp fun σ H Q ⟨B, Z, Fs, env, gd, d, hd, q⟩ => by
    unfold hAndV at hd
    cases hh : hB h env with
    | none => rw [hh] at hd; cases hd
    | some b0 =>
      rw [hh] at hd
      refine ⟨B, Z, Fs, env, gd, .bl b0, hB_some hh, fun v H1 hs1 _ ho => ⟨b0, (ho Z).1, ?_⟩⟩
      cases b0 with
      | true => exact ⟨B, Z, Fs, env, gd.grow hs1, d, hd, fun v H' hs => q v H' (hs1.trans hs)⟩
      | false => cases hd; exact q _ H1 hs1 rfl fun Z' => ⟨rfl, rfl⟩
theorem p_not {h : DEnv → Option D} (ha : PE X a (TPur G h)) : PE X (.UnaryOp .Not a pos) (TPur G (hNotV h)) :=
  (pe_not ha).imp fun σ H Q ⟨B, Z, Fs, env, gd, d, hd, q⟩ => by
    unfold hNotV at hd
    cases hh : hB h env with
    | none => rw [hh] at hd; cases hd
    | some b0 =>
      rw [hh] at hd
      cases hd
      exact ⟨B, Z, Fs, env, gd, .bl b0, hB_some hh, fun v H1 hs1 _ ho => ⟨b0, (ho Z).1, q _ H1 hs1 rfl fun Z' => ⟨rfl, rfl⟩⟩⟩
theorem FinV.later {B Z H Z1 H1 : Hp} {σ : L2.St} {env env1 : DEnv} {Fs1 : Nat → List Addr} {P P1 : Addr → Prop} {o : Out (D × DEnv)} {Q : VK} (s : Stp G B Z H σ env P Z1 H1 σ env1 Fs1) (hp : ∀ a, P1 a → H a = none ∨ P a) (h : FinV G W B Z H σ env P o Q) : FinV G W B Z1 H1 σ env1 P1 o Q := by
  unfold FinV at h ⊢
  match o, h with
  | .ok (d, env'), h =>
    intro v Z' H' Fs' F p
    refine h v Z' H' Fs' F ⟨s.trans hp p.st, p.own, p.nd, p.dj, p.fr, fun a m => ?_⟩
    rcases p.new a m with z | z
    · cases q : H a with
      | none => exact .inl rfl
      | some u =>
        refine .inr ?_
        by_cases n : P a
        · exact n
        · have := s.ext a u q n
          rw [z] at this; cases this
    · exact hp a z
  | .exc c, h => exact h
/-- a value that is a truth -/
theorem eB_run {B Z H : Hp} {σ : L2.St} {env : DEnv} {Fs : Nat → List Addr} {α : Type} {f : DEnv → Out (D × DEnv)} {k : Bool × DEnv → Out (D × DEnv)} {Q : VK} {R : VK} (gd : Good G B Z H σ env Fs) (h : FinV G W B Z H σ env (InF Fs) (eB f env >>= k) Q)
    (hk : ∀ b Z' H' env' Fs', Stp G B Z H σ env (InF Fs) Z' H' σ env' Fs' → FinV G W B Z' H' σ env' (InF Fs') (k (b, env')) Q → R (.bl b) H') : FinV G W B Z H σ env (InF Fs) (f env) R := by
  unfold eB at h
  cases hf : f env with
  | bad => rw [hf] at h; exact h.elim
  | exc c => rw [hf] at h; exact h
  | ok p =>
    obtain ⟨d, env1⟩ := p
    rw [hf] at h
    have h : FinV G W B Z H σ env (InF Fs) ((must d.toBl fun b => Out.ok (b, env1)) >>= k) Q := h
    cases hd : d.toBl with
    | none => rw [hd] at h; exact h.elim
    | some b =>
      rw [hd] at h
      obtain rfl := D.toBl_some hd
      intro v Z' H' Fs' F p
      obtain ⟨v', r', Fa, Fb, e1, e2, h1, h2⟩ := p.own
      cases e1
      rw [h1.1]
      exact hk b Z' H' env1 Fs' p.st (FinV.later p.st p.st.new h)
theorem FinV.pureV {B Z H : Hp} {σ : L2.St} {env : DEnv} {Fs : Nat → List Addr} {d : D} {v : V} {Q : VK} (gd : Good G B Z H σ env Fs) (ho : Own G Z H d v []) (h : FinV G W B Z H σ env (InF Fs) (.ok (d, env)) Q) : Q v H :=
  h v Z H Fs [] ⟨Stp.refl gd fun _ m => m, ⟨v, [], [], [], rfl, rfl, ho, rfl, rfl⟩, List.nodup_nil, fun a m => (by cases m), fun a m => (by cases m), fun a m => (by cases m)⟩
theorem e_and {f g : DEnv → Out (D × DEnv)} (ha : PE X a (TV G W f)) (hb : PE X (.BoolOp .And (b :: rest) pos) (TV G W g)) : PE X (.BoolOp .And (a :: b :: rest) pos) (TV G W (eAndV f g)) :=
  (pe_and ha hb).imp fun σ H Q ⟨B, Z, Fs, env, gd, q⟩ => by
    refine ⟨B, Z, Fs, env, gd, eB_run (α := Unit) gd q fun b Z' H' env' Fs' s q => ⟨b, rfl, ?_⟩⟩
    cases b with
    | true => exact ⟨B, Z', Fs', env', s.good, q⟩
    | false => exact FinV.pureV (d := .bl false) s.good ⟨rfl, rfl⟩ q
end
inductive Flw where
  | nx (e : DEnv)
  | rt (d : D) (e : DEnv)
  | bk (e : DEnv)
  | ct (e : DEnv)
abbrev Stm := DEnv → Out Flw
/-- what a return hands on -/
structure Ret (G : Gc) (B Z H : Hp) (σ : L2.St) (env : DEnv) (P : Addr → Prop) (Z' H' : Hp) (σ' : L2.St) (env' : DEnv) (Fs' : Nat → List Addr) (d : D) (v : V) (F : List Addr) : Prop where
  st : Stp G B Z H σ env P Z' H' σ' env' Fs'
  own : Own G Z' H' d v F
  nd : F.Nodup
  dj : ∀ a, a ∈ F → ¬ InF Fs' a
  fr : ∀ a, a ∈ F → B a = none ∧ Z' a = none
  new : ∀ a, a ∈ F → H a = none ∨ P a
/-- the slots that are read elsewhere stand as they stood -/
def AgL (env : DEnv) (σ σ' : L2.St) : Prop := σ'.length = env.length ∧ ∀ (j : Nat) (d : D), env[j]? = some (some (Md.lck, d)) → σ'[j]? = σ[j]?
theorem AgL.refl {G : Gc} {B Z H : Hp} {env : DEnv} {σ : L2.St} {Fs : Nat → List Addr} (g : Good G B Z H σ env Fs) : AgL env σ σ := ⟨g.len.symm, fun _ _ _ => rfl⟩
def FinS (G : Gc) (W : Wsh) (B Z H : Hp) (σ : L2.St) (env : DEnv) (P : Addr → Prop) (o : Out Flw) (En : Ends) : Prop := match o with
  | .ok (.nx e) => ∀ σ' Z' H' Fs', Stp G B Z H σ env P Z' H' σ' e Fs' → En.nx σ' H'
  | .ok (.bk e) => ∀ σ' Z' H' Fs', Stp G B Z H σ env P Z' H' σ' e Fs' → En.bk σ' H'
  | .ok (.ct e) => ∀ σ' Z' H' Fs', Stp G B Z H σ env P Z' H' σ' e Fs' → En.ct σ' H'
  | .ok (.rt d e) => ∀ σ' v Z' H' Fs' F, Ret G B Z H σ env P Z' H' σ' e Fs' d v F → En.rt v H'
  | .exc c => ∀ σ', AgL env σ σ' → ∀ H', Same B H' → W c σ' H'
  | .bad => False
def TSt (G : Gc) (W : Wsh) (f : Stm) : TS := fun En σ H => ∃ B Z Fs env, Good G B Z H σ env Fs ∧ FinS G W B Z H σ env (InF Fs) (f env) En
theorem _root_.L2.PS.imp {X : Cx} {e : Stmt} {t t' : TS} (h : PS X e t) (i : ∀ En σ H, t' En σ H → t En σ H) : PS X e t' := ⟨fun pins s σ H D I hq => h.run pins s σ H D I (i D σ H hq)⟩
theorem _root_.L2.PSs.imp {X : Cx} {e : List Stmt} {t t' : TS} (h : PSs X e t) (i : ∀ En σ H, t' En σ H → t En σ H) : PSs X e t' := ⟨fun pins s σ H D I hq => h.run pins s σ H D I (i D σ H hq)⟩
def sNop : Stm := fun env => .ok (.nx env)
def sSeq (f g : Stm) : Stm := fun env => f env >>= fun fl => match fl with
  | .nx e => g e
  | fl => .ok fl
def sIf (c : DEnv → Option Bool) (f g : Stm) : Stm := fun env => must (c env) fun b => if b = true then f env else g env
def sIfE (c : DEnv → Out (Bool × DEnv)) (f g : Stm) : Stm := fun env => c env >>= fun p => if p.1 = true then f p.2 else g p.2
def sRet (f : DEnv → Out (D × DEnv)) : Stm := fun env => f env >>= fun p => .ok (.rt p.1 p.2)
def sExpr (f : DEnv → Out (D × DEnv)) : Stm := fun env => f env >>= fun p => .ok (.nx p.2)
def sCont : Stm := fun env => .ok (.ct env)
def sNever : Stm := fun _ => .bad
/-- slot i may be stored to -/
def free? (i : Nat) (env : DEnv) : Bool := match env[i]? with
  | some (some (.io, _)) => false
  | some (some (.lck, _)) => false
  | some _ => true
  | none => false
def putS (i : Nat) (d : D) (env : DEnv) : Option DEnv := if free? i env = true then some (env.set i (some (.own, d))) else none
def sSet (i : Nat) (f : DEnv → Out (D × DEnv)) : Stm := fun env => f env >>= fun p => must (putS i p.1 p.2) fun e => .ok (.nx e)
/-- names of which nothing is known any more -/
def dropS : List Nat → DEnv → Option DEnv
  | [], env => some env
  | i :: r, env => if free? i env = true then dropS r (env.set i none) else none
def sDrop (is : List Nat) : Stm := fun env => must (dropS is env) fun e => .ok (.nx e)

section
variable {G : Gc} {X : Cx} {W : Wsh} {a b e : Expr} {pos : Pos}
theorem FinS.later {B Z H Z1 H1 : Hp} {σ σ1 : L2.St} {env env1 : DEnv} {Fs1 : Nat → List Addr} {P P1 : Addr → Prop} {o : Out Flw} {En : Ends} (s : Stp G B Z H σ env P Z1 H1 σ1 env1 Fs1) (hp : ∀ a, P1 a → H a = none ∨ P a) (h : FinS G W B Z H σ env P o En) : FinS G W B Z1 H1 σ1 env1 P1 o En := by
  unfold FinS at h ⊢
  match o, h with
  | .ok (.nx e), h => exact fun σ' Z' H' Fs' p => h σ' Z' H' Fs' (s.trans hp p)
  | .ok (.bk e), h => exact fun σ' Z' H' Fs' p => h σ' Z' H' Fs' (s.trans hp p)
  | .ok (.ct e), h => exact fun σ' Z' H' Fs' p => h σ' Z' H' Fs' (s.trans hp p)
  | .ok (.rt d e), h =>
    intro σ' v Z' H' Fs' F p
    refine h σ' v Z' H' Fs' F ⟨s.trans hp p.st, p.own, p.nd, p.dj, p.fr, fun a m => ?_⟩
    rcases p.new a m with z | z
    · cases q : H a with
      | none => exact .inl rfl
      | some u =>
        refine .inr ?_
        by_cases n : P a
        · exact n
        · have := s.ext a u q n
          rw [z] at this; cases this
    · exact hp a z
  | .exc c, h => exact fun σ' ag H' hs => h σ' ⟨ag.1.trans s.ln, fun j d e => by
    obtain ⟨e1, e2⟩ := s.lk j d e
    exact (ag.2 j d e1).trans e2⟩ H' hs
theorem s_nil : PSs X [] (TSt G W sNop) := pss_nil.imp fun En σ H ⟨B, Z, Fs, env, gd, q⟩ => q σ Z H Fs (Stp.refl gd fun _ m => m)
theorem s_cons {st : Stmt} {rest : List Stmt} {f g : Stm} (h1 : PS X st (TSt G W f)) (h2 : PSs X rest (TSt G W g)) : PSs X (st :: rest) (TSt G W (sSeq f g)) :=
  (pss_cons h1 h2).imp fun En σ H ⟨B, Z, Fs, env, gd, q⟩ => by
    refine ⟨B, Z, Fs, env, gd, ?_⟩
    unfold sSeq at q
    cases hf : f env with
    | bad => rw [hf] at q; exact q.elim
    | exc c => rw [hf] at q; exact q
    | ok fl =>
      rw [hf] at q
      cases fl with
      | nx e => exact fun σ' Z' H' Fs' s => ⟨B, Z', Fs', e, s.good, FinS.later s s.new q⟩
      | bk e => exact q
      | ct e => exact q
      | rt d e => exact q
theorem s_cont : PS X (.Continue pos) (TSt G W sCont) := ps_continue.imp fun En σ H ⟨B, Z, Fs, env, gd, q⟩ => q σ Z H Fs (Stp.refl gd fun _ m => m)
theorem s_if {c : Expr} {hc : DEnv → Option Bool} {sa sb : List Stmt} {f g : Stm} (hcc : PT X c (TBp G hc)) (ha : PSs X sa (TSt G W f)) (hb : PSs X sb (TSt G W g)) : PS X (.If c sa sb pos) (TSt G W (sIf hc f g)) :=
  (ps_if hcc ha hb).imp fun En σ H ⟨B, Z, Fs, env, gd, q⟩ => by
    unfold sIf at q
    cases hh : hc env with
    | none => rw [hh] at q; exact q.elim
    | some b0 =>
      rw [hh] at q
      refine ⟨B, Z, Fs, env, gd, b0, hh, fun H1 hs1 => ?_⟩
      have s1 : Stp G B Z H σ env (InF Fs) Z H1 σ env Fs := Stp.grow gd (fun _ m => m) hs1
      cases b0 with
      | true => exact ⟨B, Z, Fs, env, gd.grow hs1, FinS.later s1 s1.new q⟩
      | false => exact ⟨B, Z, Fs, env, gd.grow hs1, FinS.later s1 s1.new q⟩
theorem s_ifE {c : Expr} {hc : DEnv → Out (Bool × DEnv)} {sa sb : List Stmt} {f g : Stm} (hcc : PT X c (TB G W hc)) (ha : PSs X sa (TSt G W f)) (hb : PSs X sb (TSt G W g)) : PS X (.If c sa sb pos) (TSt G W (sIfE hc f g)) :=
  (ps_if hcc ha hb).imp fun En σ H ⟨B, Z, Fs, env, gd, q⟩ => by
    refine ⟨B, Z, Fs, env, gd, ?_⟩
    unfold sIfE at q
    cases hh : hc env with
    | bad => rw [hh] at q; exact q.elim
    | exc c => rw [hh] at q; exact q σ (AgL.refl gd)
    | ok p =>
      obtain ⟨b0, env1⟩ := p
      rw [hh] at q
      have q : FinS G W B Z H σ env (InF Fs) (if b0 = true then f env1 else g env1) En := q
      intro Z1 H1 Fs1 s1
      cases b0 with
      | true => exact ⟨B, Z1, Fs1, env1, s1.good, FinS.later s1 s1.new q⟩
      | false => exact ⟨B, Z1, Fs1, env1, s1.good, FinS.later s1 s1.new q⟩
theorem Post.one {B Z H Z' H' : Hp} {σ : L2.St} {env env' : DEnv} {P : Addr → Prop} {Fs' : Nat → List Addr} {d : D} {v : V} {F : List Addr} (p : Post G B Z H σ env P Z' H' env' Fs' [d] [v] F) : Own G Z' H' d v F := by
  obtain ⟨v', r', Fa, Fb, e1, e2, h1, h2⟩ := p.own
  cases e1
  obtain ⟨_, rfl⟩ := h2
  rw [List.append_nil] at e2
  rw [e2]
  exact h1
theorem s_ret {f : DEnv → Out (D × DEnv)} (he : PE X e (TV G W f)) : PS X (.Return (some e) pos) (TSt G W (sRet f)) :=
  (ps_ret he).imp fun En σ H ⟨B, Z, Fs, env, gd, q⟩ => by
    refine ⟨B, Z, Fs, env, gd, ?_⟩
    unfold sRet at q
    unfold FinV
    match f env, q with
    | .exc c, q => exact q σ (AgL.refl gd)
    | .ok (d, e'), q => exact fun v Z' H' Fs' F p => q σ v Z' H' Fs' F ⟨p.st, p.one, p.nd, p.dj, p.fr, p.new⟩
theorem s_expr {f : DEnv → Out (D × DEnv)} (he : PE X e (TV G W f)) (hs : swapsWith e none pos.line X.env = pure false := by rfl) : PS X (.Expr e pos) (TSt G W (sExpr f)) :=
  (ps_expr he hs).imp fun En σ H ⟨B, Z, Fs, env, gd, q⟩ => by
    refine ⟨B, Z, Fs, env, gd, ?_⟩
    unfold sExpr at q
    unfold FinV
    match f env, q with
    | .exc c, q => exact q σ (AgL.refl gd)
    | .ok (d, e'), q => exact fun v Z' H' Fs' F p => q σ Z' H' Fs' p.st

/-- a value stored to slot i -/
theorem Stp.put {B Z H : Hp} {σ : L2.St} {env : DEnv} {Fs : Nat → List Addr} {P : Addr → Prop} {i : Nat} {d : D} {v : V} {F : List Addr} {env' : DEnv} (g : Good G B Z H σ env Fs) (hp : ∀ a, InF Fs a → P a) (hf : ∀ a, a ∈ F → P a) (t : Tm G B Z H (InF Fs) d v F) (hi : putS i d env = some env') :
    Stp G B Z H σ env P Z H (σ.set i (some v)) env' (onF Fs i F) := by
  unfold putS at hi
  split at hi
  · rename_i hfree
    cases hi
    have hl : i < env.length := by
      unfold free? at hfree
      cases q : env[i]? with
      | none => rw [q] at hfree; cases hfree
      | some s => exact (List.getElem?_eq_some_iff.mp q).1
    have nio : ∀ d', env[i]? ≠ some (some (.io, d')) := fun d' q => by unfold free? at hfree; rw [q] at hfree; cases hfree
    have nlk : ∀ d', env[i]? ≠ some (some (.lck, d')) := fun d' q => by unfold free? at hfree; rw [q] at hfree; cases hfree
    have hlσ : i < σ.length := by rw [← g.len]; exact hl
    have ne : ∀ (j : Nat), j ≠ i → (env.set i (some (.own, d)))[j]? = env[j]? := fun j h => List.getElem?_set_ne (fun z => h z.symm)
    have nσ : ∀ (j : Nat), j ≠ i → (σ.set i (some v))[j]? = σ[j]? := fun j h => List.getElem?_set_ne (fun z => h z.symm)
    have at_i : (env.set i (some (.own, d)))[i]? = some (some (.own, d)) := List.getElem?_set_self hl
    refine ⟨Same.refl Z, fun _ _ e _ => e, ⟨g.sb, g.sz, by rw [List.length_set, List.length_set]; exact g.len, fun j => ?_, fun j => ?_, fun j k a m n => ?_, fun j a m => ?_, g.z0, g.gb⟩, fun a m => ?_, fun a m => .inl m, fun j d' e => ?_, fun j d' e => ?_, fun j d' e => ?_, fun j d' e => ?_, by rw [List.length_set]⟩
    · by_cases hj : j = i
      · subst hj
        have eo : onF Fs j F j = F := by unfold onF; rw [if_pos rfl]
        rw [eo, at_i, List.getElem?_set_self hlσ]
        exact ⟨v, rfl, t.own⟩
      · have eo : onF Fs i F j = Fs j := by unfold onF; rw [if_neg hj]
        rw [eo, ne j hj, nσ j hj]
        exact g.sl j
    · unfold onF; split; exact t.nd; exact g.nd j
    · unfold onF at m n
      split at m
      · split at n
        · rename_i e1 e2; rw [e1, e2]
        · exact absurd ⟨k, n⟩ (t.dj a m)
      · split at n
        · exact absurd ⟨j, m⟩ (t.dj a n)
        · exact g.dj j k a m n
    · unfold onF at m
      split at m
      · exact t.fr a m
      · exact g.fr j a m
    · rcases inF_on m with m | m
      · exact .inr (hf a m)
      · exact .inr (hp a m)
    · by_cases hj : j = i
      · subst hj; exact absurd e (nio d')
      · exact ⟨⟨d', by rw [ne j hj]; exact e⟩, nσ j hj⟩
    · by_cases hj : j = i
      · subst hj; exact absurd e (nlk d')
      · exact ⟨by rw [ne j hj]; exact e, nσ j hj⟩
    · by_cases hj : j = i
      · subst hj; rw [at_i] at e; cases e
      · rw [ne j hj] at e; exact ⟨e, nσ j hj⟩
    · by_cases hj : j = i
      · subst hj; rw [at_i] at e; cases e
      · rw [ne j hj] at e; exact ⟨e, nσ j hj⟩
  · cases hi
theorem s_set {i : Nat} {x : Str} {f : DEnv → Out (D × DEnv)} {p' : Pos} (dx : DX X G) (hi : X.N[i]? = some x) (hx : Loc X.env.scope x) (he : PE X e (TV G W f)) (hs : swapsWith e (some (.Name x p')) pos.line X.env = pure false := by rfl) (hf : X.fn x = true ∨ X.env.scope.names.lookup x = some .local := by first | exact .inl rfl | exact .inr rfl) :
    PS X (.Assign [.Name x p'] e pos) (TSt G W (sSet i f)) :=
  (ps_set dx.nd hi hx he hs hf).imp fun En σ H ⟨B, Z, Fs, env, gd, q⟩ => by
    refine ⟨B, Z, Fs, env, gd, ?_⟩
    unfold sSet at q
    unfold FinV
    match f env, q with
    | .exc c, q => exact q σ (AgL.refl gd)
    | .ok (d, e'), q =>
      intro v Z' H' Fs' F p
      have q : FinS G W B Z H σ env (InF Fs) (must (putS i d e') fun e => .ok (.nx e)) En := q
      cases hput : putS i d e' with
      | none => rw [hput] at q; exact q.elim
      | some e2 =>
        rw [hput] at q
        have s2 : Stp G B Z' H' σ e' (fun a => InF Fs' a ∨ a ∈ F) Z' H' (σ.set i (some v)) e2 (onF Fs' i F) := Stp.put p.st.good (fun a m => .inl m) (fun a m => .inr m) ⟨p.one, p.nd, p.dj, p.fr⟩ hput
        exact q _ _ _ _ (p.st.trans (fun a m => m.elim (p.st.new a) (p.new a)) s2)
/-- names forgotten -/
theorem Stp.drop1 {B Z H : Hp} {σ : L2.St} {env : DEnv} {Fs : Nat → List Addr} {P : Addr → Prop} {i : Nat} (g : Good G B Z H σ env Fs) (hp : ∀ a, InF Fs a → P a) (hfree : free? i env = true) : Stp G B Z H σ env P Z H σ (env.set i none) (offF Fs i) := by
  have nio : ∀ d', env[i]? ≠ some (some (.io, d')) := fun d' q => by unfold free? at hfree; rw [q] at hfree; cases hfree
  have nlk : ∀ d', env[i]? ≠ some (some (.lck, d')) := fun d' q => by unfold free? at hfree; rw [q] at hfree; cases hfree
  have ne : ∀ (j : Nat), j ≠ i → (env.set i none)[j]? = env[j]? := fun j h => List.getElem?_set_ne (fun z => h z.symm)
  have at_i : ∀ s : Md × D, (env.set i none)[i]? ≠ some (some s) := fun s q => by
    rw [List.getElem?_set_self'] at q
    cases hq : env[i]? <;> rw [hq] at q <;> cases q
  refine ⟨Same.refl Z, fun _ _ e _ => e, g.take i, fun a m => .inr (hp a (inF_off m)), fun _ m => .inl m, fun j d' e => ?_, fun j d' e => ?_, fun j d' e => ?_, fun j d' e => ?_, by rw [List.length_set]⟩
  · by_cases hj : j = i
    · subst hj; exact absurd e (nio d')
    · exact ⟨⟨d', by rw [ne j hj]; exact e⟩, rfl⟩
  · by_cases hj : j = i
    · subst hj; exact absurd e (nlk d')
    · exact ⟨by rw [ne j hj]; exact e, rfl⟩
  · by_cases hj : j = i
    · subst hj; exact absurd e (at_i _)
    · rw [ne j hj] at e; exact ⟨e, rfl⟩
  · by_cases hj : j = i
    · subst hj; exact absurd e (at_i _)
    · rw [ne j hj] at e; exact ⟨e, rfl⟩
theorem Stp.drops {B Z H : Hp} {σ : L2.St} : ∀ {is : List Nat} {env env' : DEnv} {Fs : Nat → List Addr} {P : Addr → Prop}, Good G B Z H σ env Fs → (∀ a, InF Fs a → P a) → dropS is env = some env' → ∃ Fs', Stp G B Z H σ env P Z H σ env' Fs' ∧ ∀ a, InF Fs' a → InF Fs a
  | [], env, env', Fs, P, g, hp, h => by
    cases h
    exact ⟨Fs, Stp.refl g hp, fun _ m => m⟩
  | i :: r, env, env', Fs, P, g, hp, h => by
    unfold dropS at h
    split at h
    · rename_i hf
      have s1 := Stp.drop1 (P := P) g hp hf
      obtain ⟨Fs', s2, h2⟩ := Stp.drops (P := P) s1.good (fun a m => hp a (inF_off m)) h
      exact ⟨Fs', s1.trans (fun a m => .inr m) s2, fun a m => inF_off (h2 a m)⟩
    · cases h
/-- names forgotten behind a statement -/
theorem s_then {st : List Stmt} {f g : Stm} (h : PSs X st (TSt G W f)) (hg : ∀ (B Z H : Hp) (σ : L2.St) (env : DEnv) (Fs : Nat → List Addr) (P : Addr → Prop) (En : Ends), Good G B Z H σ env Fs → (∀ a, InF Fs a → P a) → FinS G W B Z H σ env P (g env) En → En.nx σ H) : PSs X st (TSt G W (sSeq f g)) :=
  h.imp fun En σ H ⟨B, Z, Fs, env, gd, q⟩ => by
    refine ⟨B, Z, Fs, env, gd, ?_⟩
    unfold sSeq at q
    cases hf : f env with
    | bad => rw [hf] at q; exact q.elim
    | exc c => rw [hf] at q; exact q
    | ok fl =>
      rw [hf] at q
      cases fl with
      | nx e => exact fun σ' Z' H' Fs' s => hg B Z' H' σ' e Fs' (InF Fs') En s.good (fun _ m => m) (FinS.later s s.new q)
      | bk e => exact q
      | ct e => exact q
      | rt d e => exact q
theorem s_drop {st : List Stmt} {f : Stm} (is : List Nat) (h : PSs X st (TSt G W f)) : PSs X st (TSt G W (sSeq f (sDrop is))) :=
  s_then h fun B Z H σ env Fs P En g hp q => by
    unfold sDrop at q
    cases hd : dropS is env with
    | none => rw [hd] at q; exact q.elim
    | some e2 =>
      rw [hd] at q
      obtain ⟨Fs', s, _⟩ := Stp.drops (P := P) g hp hd
      exact q σ Z H Fs' s
end
end DL
namespace DL
open PySem PySem.Spec PyProof.Rows L2
/-- how an argument is handed in: read; changed and handed back; handed over -/
inductive Pm where
  | b | io | mv
  deriving DecidableEq
def Pm.own : Pm → Bool
  | .b => false
  | _ => true
def Pm.isIo : Pm → Bool
  | .io => true
  | _ => false
def Pm.md : Pm → Md
  | .b => .brw
  | .io => .io
  | .mv => .own
/-- a def: its value, and what its io arguments have become, the last one first -/
abbrev Fn := List D → Out (D × List D)
def slotsOf : List Pm → List D → DEnv
  | m :: ms, d :: ds => some (m.md, d) :: slotsOf ms ds
  | _, _ => []
def startD (n : Nat) (ms : List Pm) (ds : List D) : DEnv := slotsOf ms ds ++ List.replicate (n - ms.length) none
def outsFrom : List Pm → Nat → DEnv → Option (List D)
  | [], _, _ => some []
  | .io :: ms, j, env => match env[j]?, outsFrom ms (j + 1) env with
    | some (some (.io, d)), some r => some (r ++ [d])
    | _, _ => none
  | _ :: ms, j, env => outsFrom ms (j + 1) env
/-- a def by its body -/
def runFn (n : Nat) (ms : List Pm) (body : Stm) : Fn := fun ds => if ds.length = ms.length then body (startD n ms ds) >>= fun fl => match fl with
    | .nx e => must (outsFrom ms 0 e) fun o => .ok (.non, o)
    | .rt d e => must (outsFrom ms 0 e) fun o => .ok (d, o)
    | _ => .bad
  else .bad

/-- the promise of a def that is F on data -/
def spD (G : Gc) (ms : List Pm) (F : Fn) : Sp := fun vs H Q E => ∃ (its : List (Bool × D)) (T : List Addr) (Z : Hp), its.map (·.1) = ms.map Pm.own ∧ OwnT G (cut H T) Z H its vs T ∧ T.Nodup ∧ Same Z H ∧ (∀ a, a ∈ T → Z a = none) ∧ (∀ a, Z a = none) ∧ Same G.bo (cut H T) ∧
  match F (its.map (·.2)) with
  | .ok (r, outs) => ∀ v H' Z' A, (∀ a, Z' a = none) → Same Z Z' → Same Z' H' → (∀ a o, H a = some o → a ∉ T → H' a = some o) → OwnL G Z' H' (r :: outs) (v :: ioV (ms.map Pm.isIo) vs) A → A.Nodup → (∀ a, a ∈ A → Z' a = none ∧ (H a = none ∨ a ∈ T)) → (∀ a, Z' a ≠ none → Z a ≠ none ∨ H a = none ∨ a ∈ T) → Q v H'
  | .exc c => T = [] ∧ ∃ C, G.cl c = some C ∧ ∀ H', Same H H' → E (.ref C) none H'
  | .bad => False

section
variable {G : Gc} {B Z H Z' H' : Hp} {σ : L2.St} {env : DEnv} {Fs : Nat → List Addr}
theorem slotsOf_get : ∀ (ms : List Pm) (its : List (Bool × D)) (i : Nat), its.map (·.1) = ms.map Pm.own → (slotsOf ms (its.map (·.2)))[i]? = match ms[i]?, its[i]? with
    | some m, some p => some (some (m.md, p.2))
    | _, _ => none
  | [], [], i, _ => by simp [slotsOf]
  | [], _ :: _, _, h => by simp at h
  | _ :: _, [], _, h => by simp at h
  | m :: ms, p :: its, 0, h => rfl
  | m :: ms, p :: its, i + 1, h => by
    have h1 : its.map (·.1) = ms.map Pm.own := by simpa using (List.cons.inj h).2
    have := slotsOf_get ms its i h1
    simpa [slotsOf] using this
theorem slotsOf_length : ∀ (ms : List Pm) (ds : List D), ds.length = ms.length → (slotsOf ms ds).length = ms.length
  | [], [], _ => rfl
  | [], _ :: _, h => by simp at h
  | _ :: _, [], h => by simp at h
  | m :: ms, d :: ds, h => by
    show (slotsOf ms ds).length + 1 = ms.length + 1
    rw [slotsOf_length ms ds (by simpa using h)]
/-- values at hand, one by one: Ts i are the i-th one's nodes -/
theorem OwnT.each {Y : Hp} : ∀ {its : List (Bool × D)} {vs : List V} {T : List Addr}, OwnT G Y Z H its vs T → T.Nodup → ∃ Ts : Nat → List Addr, (∀ (i : Nat) (p : Bool × D), its[i]? = some p → ∃ v, vs[i]? = some v ∧ (match p.1 with
      | true => Own G Z H p.2 v (Ts i)
      | false => Own G Y H p.2 v [] ∧ Ts i = [])) ∧ (∀ (i : Nat), its[i]? = none → Ts i = []) ∧ (∀ i, (Ts i).Nodup) ∧ (∀ i j a, a ∈ Ts i → a ∈ Ts j → i = j) ∧ (∀ i a, a ∈ Ts i → a ∈ T) ∧ ∀ a, a ∈ T → ∃ i, a ∈ Ts i
  | [], vs, T, h, nd => ⟨fun _ => [], fun i p e => by simp at e, fun _ _ => rfl, fun _ => List.nodup_nil, fun _ _ _ m => (by cases m), fun _ _ m => (by cases m), fun a m => by rw [h.2] at m; cases m⟩
  | (o, d) :: r, vs, T, h, nd => by
    obtain ⟨v', rest, F2, F3, rfl, rfl, h2, h3⟩ := h
    obtain ⟨nd1, nd2, nd3⟩ := List.nodup_append.mp nd
    obtain ⟨Ts, a1, a2, a3, a4, a5, a6⟩ := OwnT.each h3 nd2
    refine ⟨fun i => match i with
      | 0 => F2
      | i + 1 => Ts i, fun i p e => ?_, fun i e => ?_, fun i => ?_, fun i j a m n => ?_, fun i a m => ?_, fun a m => ?_⟩
    · cases i with
      | zero =>
        cases e
        exact ⟨v', rfl, h2⟩
      | succ i => exact a1 i p e
    · cases i with
      | zero => cases e
      | succ i => exact a2 i e
    · cases i with
      | zero => exact nd1
      | succ i => exact a3 i
    · cases i with
      | zero =>
        cases j with
        | zero => rfl
        | succ j => exact absurd rfl (nd3 a m a (a5 j a n))
      | succ i =>
        cases j with
        | zero => exact absurd rfl (nd3 a n a (a5 i a m))
        | succ j => rw [a4 i j a m n]
    · cases i with
      | zero => exact List.mem_append_left _ m
      | succ i => exact List.mem_append_right _ (a5 i a m)
    · rcases List.mem_append.mp m with m | m
      · exact ⟨0, m⟩
      · obtain ⟨i, m⟩ := a6 a m
        exact ⟨i + 1, m⟩

/-- the state at a def's start -/
theorem start_good {ms : List Pm} {N : List Str} {its : List (Bool × D)} {vs : List V} {T : List Addr} (hm : its.map (·.1) = ms.map Pm.own) (ho : OwnT G (cut H T) Z H its vs T) (nd : T.Nodup) (hz : Same Z H) (hn : ∀ a, a ∈ T → Z a = none) (z0 : ∀ a, Z a = none) (gb : Same G.bo (cut H T)) (hl : ms.length ≤ N.length) :
    ∃ Fs, Good G (cut H T) Z H (L2.start N vs) (startD N.length ms (its.map (·.2))) Fs ∧ (∀ a, InF Fs a ↔ a ∈ T) := by
  obtain ⟨Ts, a1, a2, a3, a4, a5, a6⟩ := OwnT.each ho nd
  have li : its.length = ms.length := by simpa using congrArg List.length hm
  have lv : vs.length = ms.length := (OwnT.vlen ho).trans li
  have ls : (slotsOf ms (its.map (·.2))).length = ms.length := slotsOf_length ms _ (by rw [List.length_map]; exact li)
  refine ⟨Ts, ⟨cut_le, hz, ?_, fun i => ?_, a3, a4, fun i a m => ⟨cut_in (a5 i a m), hn a (a5 i a m)⟩, z0, gb⟩, fun a => ⟨fun ⟨i, m⟩ => a5 i a m, a6 a⟩⟩
  · unfold startD L2.start
    rw [List.length_append, List.length_append, ls, List.length_map, lv, List.length_replicate, List.length_replicate]
  · unfold startD L2.start
    by_cases hi : i < ms.length
    · have eσ : (List.map some vs ++ List.replicate (N.length - vs.length) none)[i]? = (vs[i]?).map some := by
        rw [List.getElem?_append_left (by rw [List.length_map, lv]; exact hi), List.getElem?_map]
      have ee : (slotsOf ms (its.map (·.2)) ++ List.replicate (N.length - ms.length) none)[i]? = some (some (ms[i].md, (its[i]'(by rw [li]; exact hi)).2)) := by
        rw [List.getElem?_append_left (by rw [ls]; exact hi), slotsOf_get ms its i hm, List.getElem?_eq_getElem hi, List.getElem?_eq_getElem (by rw [li]; exact hi)]
      rw [eσ, ee]
      obtain ⟨v, ev, hv⟩ := a1 i _ (List.getElem?_eq_getElem (by rw [li]; exact hi))
      rw [ev]
      have hk : its[i].1 = ms[i].own := by
        have e1 : (its.map (·.1))[i]? = (ms.map Pm.own)[i]? := by rw [hm]
        rw [List.getElem?_map, List.getElem?_map, List.getElem?_eq_getElem (by rw [li]; exact hi), List.getElem?_eq_getElem hi] at e1
        exact Option.some.inj e1
      show SlotOk G (cut H T) Z H (some (some v)) (some (some (ms[i].md, its[i].2))) (Ts i)
      rw [hk] at hv
      have jz : Same (cut H T) (joi (cut H T) Z) := joi_left
      refine ⟨v, rfl, ?_⟩
      generalize hms : ms[i] = m at hv
      cases m with
      | b => exact ⟨Own.keep jz _ v [] (fun _ _ e _ => e) hv.1, hv.2⟩
      | io => exact hv
      | mv => exact hv
    · have hi' : ms.length ≤ i := Nat.le_of_not_lt hi
      have ee : (slotsOf ms (its.map (·.2)) ++ List.replicate (N.length - ms.length) none)[i]? = none ∨ (slotsOf ms (its.map (·.2)) ++ List.replicate (N.length - ms.length) none)[i]? = some none := by
        rw [List.getElem?_append_right (by rw [ls]; exact hi'), List.getElem?_replicate]
        split
        · exact .inr rfl
        · exact .inl rfl
      rw [a2 i (List.getElem?_eq_none_iff.mpr (by rw [li]; exact hi'))]
      rcases ee with ee | ee
      · rw [ee]; rfl
      · rw [ee]; rfl

/-- what has become of the io arguments -/
theorem outs_ok {σ' : L2.St} {env' : DEnv} {Fs' : Nat → List Addr} {B' : Hp} (g : Good G B' Z' H' σ' env' Fs') : ∀ (ms : List Pm) (j : Nat) (outs : List D) (vs : List V), outsFrom ms j env' = some outs → (∀ i v, vs[i]? = some v → ms[i]? = some .io → σ'[j + i]? = some (some v)) → vs.length = ms.length →
    ∃ A, OwnL G Z' H' outs (ioV (ms.map Pm.isIo) vs) A ∧ A.Nodup ∧ (∀ a, a ∈ A → ∃ i, j ≤ i ∧ a ∈ Fs' i)
  | [], j, outs, [], h, _, _ => by
    cases (show some ([] : List D) = some outs from h)
    exact ⟨[], ⟨rfl, rfl⟩, List.nodup_nil, fun a m => by cases m⟩
  | [], _, _, _ :: _, _, _, h => by simp at h
  | _ :: _, _, _, [], _, _, h => by simp at h
  | .b :: ms, j, outs, v :: vs, h, hv, hl => by
    obtain ⟨A, h1, h2, h3⟩ := outs_ok g ms (j + 1) outs vs h (fun i w e1 e2 => by
      have := hv (i + 1) w e1 e2
      rw [show j + 1 + i = j + (i + 1) by omega]
      exact this) (by simpa using hl)
    exact ⟨A, h1, h2, fun a m => let ⟨i, hi, m⟩ := h3 a m; ⟨i, by omega, m⟩⟩
  | .mv :: ms, j, outs, v :: vs, h, hv, hl => by
    obtain ⟨A, h1, h2, h3⟩ := outs_ok g ms (j + 1) outs vs h (fun i w e1 e2 => by
      have := hv (i + 1) w e1 e2
      rw [show j + 1 + i = j + (i + 1) by omega]
      exact this) (by simpa using hl)
    exact ⟨A, h1, h2, fun a m => let ⟨i, hi, m⟩ := h3 a m; ⟨i, by omega, m⟩⟩
  | .io :: ms, j, outs, v :: vs, h, hv, hl => by
    have h : (match env'[j]?, outsFrom ms (j + 1) env' with
      | some (some (.io, d)), some r => some (r ++ [d])
      | _, _ => none) = some outs := h
    cases he : env'[j]? with
    | none => rw [he] at h; cases h
    | some sl =>
      match sl, he with
      | some (.io, d), he =>
        rw [he] at h
        cases ho : outsFrom ms (j + 1) env' with
        | none => rw [ho] at h; cases h
        | some r =>
          rw [ho] at h
          cases h
          obtain ⟨A, h1, h2, h3⟩ := outs_ok g ms (j + 1) r vs ho (fun i w e1 e2 => by
            have := hv (i + 1) w e1 e2
            rw [show j + 1 + i = j + (i + 1) by omega]
            exact this) (by simpa using hl)
          have hs := g.sl j
          rw [he] at hs
          obtain ⟨w, ew, hw⟩ := hs
          have e0 : σ'[j]? = some (some v) := hv 0 v rfl rfl
          rw [e0] at ew
          have : v = w := Option.some.inj (Option.some.inj ew)
          subst this
          refine ⟨A ++ Fs' j, OwnL.append h1 ⟨v, [], Fs' j, [], rfl, by simp, hw, rfl, rfl⟩, List.nodup_append.mpr ⟨h2, g.nd j, fun a m b n => ?_⟩, fun a m => ?_⟩
          · rintro rfl
            obtain ⟨i, hi, m⟩ := h3 a m
            have := g.dj i j a m n
            omega
          · rcases List.mem_append.mp m with m | m
            · obtain ⟨i, hi, m⟩ := h3 a m
              exact ⟨i, by omega, m⟩
            · exact ⟨j, Nat.le_refl _, m⟩
      | none, he => rw [he] at h; cases h
      | some (.own, d), he => rw [he] at h; cases h
      | some (.shr, d), he => rw [he] at h; cases h
      | some (.brw, d), he => rw [he] at h; cases h
      | some (.lck, d), he => rw [he] at h; cases h
theorem startD_io {ms : List Pm} {its : List (Bool × D)} {n i : Nat} (hm : its.map (·.1) = ms.map Pm.own) (h : ms[i]? = some .io) : ∃ d, (startD n ms (its.map (·.2)))[i]? = some (some (Md.io, d)) := by
  have hi : i < ms.length := (List.getElem?_eq_some_iff.mp h).1
  have li : its.length = ms.length := by simpa using congrArg List.length hm
  have ls : (slotsOf ms (its.map (·.2))).length = ms.length := slotsOf_length ms _ (by rw [List.length_map]; exact li)
  unfold startD
  rw [List.getElem?_append_left (by rw [ls]; exact hi), slotsOf_get ms its i hm, h, List.getElem?_eq_getElem (by rw [li]; exact hi)]
  exact ⟨_, rfl⟩
end
/-- what a body's context tells: W is wished of the refusals that leave it -/
structure DXW (X : Cx) (G : Gc) (W : Wsh) : Prop where
  dx : DX X G
  wc : ∀ c σ H, W c σ H → ∃ C, G.cl c = some C
  tk : Takes X (fun cls d σ H' => d = none ∧ ∃ c C, cls = .ref C ∧ G.cl c = some C ∧ W c σ H')
/-- the wish of one refusal, for a call -/
def wishX (G : Gc) (W : Wsh) (σ : L2.St) : XK := fun cls d H' => d = none ∧ ∃ c C, cls = .ref C ∧ G.cl c = some C ∧ W c σ H'
theorem DXW.passes {X : Cx} {G : Gc} {W : Wsh} (h : DXW X G W) (σ : L2.St) : PassesAt (L2.CX X.prog X.w) X σ (wishX G W σ) := passAt h.tk σ

section
variable {P : Program} {w : World} {K : PySem.W.Frag} {mg : Str → Option Value} {base : Heap}
/-- THE RULE for a def: its body on data -/
theorem def_ok {x qual : Str} {st : Stmt} {f : Addr} {fd : FuncData} {N ps : List Str} {k : Nat} {cl : Str → Option Addr} {bo : Hp} {ms : List Pm} {body : Stm} (F : L2.Fun K x qual st f fd) (S : FnScope N ps (defScope st)) (hms : ms.length = ps.length)
    (hbody : ∀ (cdv : Value) (A : Around) (outer : List Env) (s : Shared) (H : Hp) (E : XK) (W : Wsh), Room k (A.deeper (envOfC qual (defScope st) s.heap.objs.size f cdv)) →
      DXW (cxOf (L2.CX P w) P w K mg base N qual (defScope st) f cdv A outer s H E) ⟨K, cl, bo⟩ W →
      PassesOwn (model P w) (cxOf (L2.CX P w) P w K mg base N qual (defScope st) f cdv A outer s H E).A (cxOf (L2.CX P w) P w K mg base N qual (defScope st) f cdv A outer s H E).env (cxOf (L2.CX P w) P w K mg base N qual (defScope st) f cdv A outer s H E).xe →
      PSs (cxOf (L2.CX P w) P w K mg base N qual (defScope st) f cdv A outer s H E) (defBody st) (TSt ⟨K, cl, bo⟩ W body)) :
    FnOk P w K mg base (L2.CX P w) (k + 1) f fd ps (spD ⟨K, cl, bo⟩ ms (runFn N.length ms body)) := by
  have hN : ms.length ≤ N.length := by
    have := congrArg List.length S.pre
    rw [List.length_take] at this
    omega
  refine F.okX S (fun vs H Q E h => ?_) (fun cdv A outer s H vs Q E hr h => ?_)
  · obtain ⟨its, T, Z, hm, ho, _⟩ := h
    have li : its.length = ms.length := by simpa using congrArg List.length hm
    rw [OwnT.vlen ho, li, hms]
  · obtain ⟨its, T, Z, hm, ho, nd, hz, hn, z0, gb, hF⟩ := h
    have li : its.length = ms.length := by simpa using congrArg List.length hm
    have lv : vs.length = ms.length := (OwnT.vlen ho).trans li
    obtain ⟨Fs, g, hT⟩ := start_good (G := ⟨K, cl, bo⟩) hm ho nd hz hn z0 gb hN
    have W : Wsh := fun c _ H' => ∃ C, cl c = some C ∧ E (.ref C) none H'
    have hd : DXW (cxOf (L2.CX P w) P w K mg base N qual (defScope st) f cdv A outer s H E) ⟨K, cl, bo⟩ (fun c _ H' => ∃ C, cl c = some C ∧ E (.ref C) none H') := by
      refine ⟨⟨rfl, S.nd, Nat.lt_of_le_of_lt (show (A.deeper (envOfC qual (defScope st) s.heap.objs.size f cdv)).units + 70 ≤ (A.deeper (envOfC qual (defScope st) s.heap.objs.size f cdv)).units + 16 * k + 200 by omega) hr.un⟩, fun c _ H' ⟨C, h, _⟩ => ⟨C, h⟩, ?_⟩
      refine (takes_of (E := E) rfl rfl rfl rfl).imp fun cls d σ H' ⟨e, c, C, e2, e3, C', e4, e5⟩ => ?_
      subst e e2
      rw [show cl c = some C from e3] at e4
      cases e4
      exact e5
    have hp : PassesOwn (model P w) (cxOf (L2.CX P w) P w K mg base N qual (defScope st) f cdv A outer s H E).A (cxOf (L2.CX P w) P w K mg base N qual (defScope st) f cdv A outer s H E).env (cxOf (L2.CX P w) P w K mg base N qual (defScope st) f cdv A outer s H E).xe :=
      passes_of (X := cxOf (L2.CX P w) P w K mg base N qual (defScope st) f cdv A outer s H E) rfl
    refine ⟨_, hbody cdv A outer s H E _ hr hd hp, cut H T, Z, Fs, startD N.length ms (its.map (·.2)), g, ?_⟩
    have ioσ : ∀ {σ' : L2.St} {env' : DEnv} {Z' H' : Hp} {Fs' : Nat → List Addr}, Stp ⟨K, cl, bo⟩ (cut H T) Z H (L2.start N vs) (startD N.length ms (its.map (·.2))) (InF Fs) Z' H' σ' env' Fs' → ∀ i v, vs[i]? = some v → ms[i]? = some .io → σ'[0 + i]? = some (some v) := fun {σ' env' Z' H' Fs'} s1 i v e1 e2 => by
      obtain ⟨d, ed⟩ := startD_io (n := N.length) hm e2
      rw [Nat.zero_add, (s1.io i d ed).2]
      unfold L2.start
      have hi : i < vs.length := (List.getElem?_eq_some_iff.mp e1).1
      rw [List.getElem?_append_left (by rw [List.length_map]; exact hi), List.getElem?_map, e1]
      rfl
    have ext' : ∀ {σ' : L2.St} {env' : DEnv} {Z' H' : Hp} {Fs' : Nat → List Addr}, Stp ⟨K, cl, bo⟩ (cut H T) Z H (L2.start N vs) (startD N.length ms (its.map (·.2))) (InF Fs) Z' H' σ' env' Fs' → ∀ a o, H a = some o → a ∉ T → H' a = some o := fun {σ' env' Z' H' Fs'} s1 a o e n => s1.ext a o e fun m => n ((hT a).mp m)
    have run : runFn N.length ms body (its.map (·.2)) = (body (startD N.length ms (its.map (·.2))) >>= fun fl => match fl with
        | .nx e => must (outsFrom ms 0 e) fun o => .ok (.non, o)
        | .rt d e => must (outsFrom ms 0 e) fun o => .ok (d, o)
        | _ => .bad) := by
      unfold runFn
      rw [if_pos (by rw [List.length_map]; exact li)]
    rw [run] at hF
    unfold FinS
    generalize body (startD N.length ms (its.map (·.2))) = ob at hF ⊢
    match ob, hF with
    | .bad, hF => exact False.elim hF
    | .exc c, hF =>
      have hF : T = [] ∧ ∃ C, cl c = some C ∧ ∀ H', Same H H' → E (.ref C) none H' := hF
      obtain ⟨rfl, C, hc, hE⟩ := hF
      intro _ _ H' hs
      refine ⟨C, hc, hE H' fun a o e => hs a o ?_⟩
      unfold cut
      rw [if_neg (by simp)]
      exact e
    | .ok (.bk e), hF => exact False.elim hF
    | .ok (.ct e), hF => exact False.elim hF
    | .ok (.nx e), hF =>
      intro σ' Z' H' Fs' s1
      have hF : (match must (outsFrom ms 0 e) fun o => Out.ok (D.non, o) with
        | .ok (r, outs) => ∀ v H' Z' A, (∀ a, Z' a = none) → Same Z Z' → Same Z' H' → (∀ a o, H a = some o → a ∉ T → H' a = some o) → OwnL ⟨K, cl, bo⟩ Z' H' (r :: outs) (v :: ioV (ms.map Pm.isIo) vs) A → A.Nodup → (∀ a, a ∈ A → Z' a = none ∧ (H a = none ∨ a ∈ T)) → (∀ a, Z' a ≠ none → Z a ≠ none ∨ H a = none ∨ a ∈ T) → Q v H'
        | .exc c => T = [] ∧ ∃ C, cl c = some C ∧ ∀ H', Same H H' → E (.ref C) none H'
        | .bad => False) := hF
      cases ho' : outsFrom ms 0 e with
      | none => rw [ho'] at hF; exact hF.elim
      | some outs =>
        rw [ho'] at hF
        obtain ⟨A, h1, h2, h3⟩ := outs_ok s1.good ms 0 outs vs ho' (ioσ s1) lv
        refine hF .non H' Z' A s1.good.z0 s1.zz s1.good.sz (ext' s1) ⟨.non, _, [], A, rfl, rfl, ⟨rfl, rfl⟩, h1⟩ h2 (fun a m => ?_) (fun a m => ?_)
        · obtain ⟨i, _, m⟩ := h3 a m
          exact ⟨(s1.good.fr i a m).2, (s1.new a ⟨i, m⟩).imp id (hT a).mp⟩
        · exact (s1.newz a m).imp id fun z => z.imp id (hT a).mp
    | .ok (.rt d e), hF =>
      intro σ' v Z' H' Fs' F' r1
      have s1 := r1.st
      have hF : (match must (outsFrom ms 0 e) fun o => Out.ok (d, o) with
        | .ok (r, outs) => ∀ v H' Z' A, (∀ a, Z' a = none) → Same Z Z' → Same Z' H' → (∀ a o, H a = some o → a ∉ T → H' a = some o) → OwnL ⟨K, cl, bo⟩ Z' H' (r :: outs) (v :: ioV (ms.map Pm.isIo) vs) A → A.Nodup → (∀ a, a ∈ A → Z' a = none ∧ (H a = none ∨ a ∈ T)) → (∀ a, Z' a ≠ none → Z a ≠ none ∨ H a = none ∨ a ∈ T) → Q v H'
        | .exc c => T = [] ∧ ∃ C, cl c = some C ∧ ∀ H', Same H H' → E (.ref C) none H'
        | .bad => False) := hF
      cases ho' : outsFrom ms 0 e with
      | none => rw [ho'] at hF; exact hF.elim
      | some outs =>
        rw [ho'] at hF
        obtain ⟨A, h1, h2, h3⟩ := outs_ok s1.good ms 0 outs vs ho' (ioσ s1) lv
        refine hF v H' Z' (F' ++ A) s1.good.z0 s1.zz s1.good.sz (ext' s1) ⟨v, _, F', A, rfl, rfl, r1.own, h1⟩ (List.nodup_append.mpr ⟨r1.nd, h2, fun a m b n => ?_⟩) (fun a m => ?_) (fun a m => ?_)
        · rintro rfl
          obtain ⟨i, _, n⟩ := h3 a n
          exact r1.dj a m ⟨i, n⟩
        · rcases List.mem_append.mp m with m | m
          · exact ⟨(r1.fr a m).2, (r1.new a m).imp id (hT a).mp⟩
          · obtain ⟨i, _, m⟩ := h3 a m
            exact ⟨(s1.good.fr i a m).2, (s1.new a ⟨i, m⟩).imp id (hT a).mp⟩
        · exact (s1.newz a m).imp id fun z => z.imp id (hT a).mp
end
/-- the values at hand as a def takes them: what it only reads is not owned any more -/
theorem OwnT.asked {G : Gc} {Z H : Hp} : ∀ {its : List (Bool × D)} {vs : List V} {T : List Addr} {Y : Hp} {ms : List Pm}, OwnT G Y Z H its vs T → its.length = ms.length → T.Nodup → (∀ (i : Nat) (p : Bool × D) (m : Pm), its[i]? = some p → ms[i]? = some m → m.own = true → p.1 = true) →
    ∃ (its' : List (Bool × D)) (T' : List Addr), its'.map (·.1) = ms.map Pm.own ∧ its'.map (·.2) = its.map (·.2) ∧ T'.Nodup ∧ (∀ a, a ∈ T' → a ∈ T) ∧ (ms.all (fun (m : Pm) => !m.own) = true → T' = []) ∧
      ∀ Y' : Hp, Same Y Y' → Same Z Y' → (∀ b u, b ∈ T → b ∉ T' → H b = some u → Y' b = some u) → OwnT G Y' Z H its' vs T'
  | [], vs, T, Y, [], h, _, _, _ => ⟨[], [], rfl, rfl, List.nodup_nil, fun a m => (by cases m), fun _ => rfl, fun Y' _ _ _ => ⟨h.1, rfl⟩⟩
  | [], _, _, _, _ :: _, _, hl, _, _ => by simp at hl
  | _ :: _, _, _, _, [], _, hl, _, _ => by simp at hl
  | (o, d) :: r, vs, T, Y, m :: ms, h, hl, nd, hk => by
    obtain ⟨v', rest, F2, F3, rfl, rfl, h2, h3⟩ := h
    obtain ⟨nd1, nd2, nd3⟩ := List.nodup_append.mp nd
    obtain ⟨its', T', e1, e2, n1, s1, z1, c1⟩ := OwnT.asked h3 (by simpa using hl) nd2 fun i p m' q1 q2 => hk (i + 1) p m' q1 q2
    by_cases hm : m.own = true
    · have ho : o = true := hk 0 (o, d) m rfl rfl hm
      subst ho
      refine ⟨(true, d) :: its', F2 ++ T', by rw [List.map_cons, List.map_cons, e1, hm], by rw [List.map_cons, List.map_cons, e2], List.nodup_append.mpr ⟨nd1, n1, fun a p b q => nd3 a p b (s1 b q)⟩, fun a q => ?_, fun z => ?_, fun Y' y1 y2 y3 => ?_⟩
      · rcases List.mem_append.mp q with q | q
        · exact List.mem_append_left _ q
        · exact List.mem_append_right _ (s1 a q)
      · simp [hm] at z
      · refine ⟨v', rest, F2, T', rfl, rfl, h2, c1 Y' y1 y2 fun b u p q e => y3 b u (List.mem_append_right _ p) (fun z => ?_) e⟩
        rcases List.mem_append.mp z with z | z
        · exact nd3 b z b p rfl
        · exact q z
    · have hm' : m.own = false := by simpa using hm
      refine ⟨(false, d) :: its', T', by rw [List.map_cons, List.map_cons, e1, hm'], by rw [List.map_cons, List.map_cons, e2], n1, fun a q => List.mem_append_right _ (s1 a q), fun z => ?_, fun Y' y1 y2 y3 => ?_⟩
      · simp only [List.all_cons, Bool.and_eq_true] at z
        exact z1 z.2
      · refine ⟨v', rest, [], T', rfl, rfl, ⟨?_, rfl⟩, c1 Y' y1 y2 fun b u p q e => y3 b u (List.mem_append_right _ p) q e⟩
        cases o with
        | true => exact Own.freeze y2 d v' F2 (fun b u p e => y3 b u (List.mem_append_left _ p) (fun q => nd3 b p b (s1 b q) rfl) e) h2
        | false => exact Own.keep y1 d v' [] (fun _ _ e _ => e) h2.1
def callK (ms : List Pm) (F : Fn) : Kn := fun ds e => match F ds with
  | .ok (r, o) => .ok (r, o, e)
  | .exc c => if ms.all (fun (m : Pm) => !m.own) = true then .exc c else .bad
  | .bad => .bad
/-- arguments as a def asks for them -/
def fitB : List Pm → List Bool → Bool
  | [], [] => true
  | m :: ms, b :: bs => (!m.own || b) && fitB ms bs
  | _, _ => false
theorem fitB_len : ∀ {ms : List Pm} {bs : List Bool}, fitB ms bs = true → bs.length = ms.length
  | [], [], _ => rfl
  | [], _ :: _, h => by cases h
  | _ :: _, [], h => by cases h
  | m :: ms, b :: bs, h => by
    have h : ((!m.own || b) && fitB ms bs) = true := h
    simp only [Bool.and_eq_true] at h
    rw [List.length_cons, List.length_cons, fitB_len h.2]
theorem fitB_at : ∀ {ms : List Pm} {bs : List Bool}, fitB ms bs = true → ∀ (i : Nat) (m : Pm) (b : Bool), ms[i]? = some m → bs[i]? = some b → m.own = true → b = true
  | [], [], _, i, m, b, e, _, _ => by simp at e
  | [], _ :: _, h, _, _, _, _, _, _ => by cases h
  | _ :: _, [], h, _, _, _, _, _, _ => by cases h
  | m :: ms, b :: bs, h, i, m', b', e1, e2, ho => by
    have h : ((!m.own || b) && fitB ms bs) = true := h
    simp only [Bool.and_eq_true] at h
    cases i with
    | zero =>
      cases e1
      cases e2
      have := h.1
      rw [ho] at this
      simpa using this
    | succ i => exact fitB_at h.2 i m' b' e1 e2 ho
section
variable {G : Gc} {W : Wsh}
theorem call_kok {ms : List Pm} {F : Fn} {bs : List Bool} (hf : fitB ms bs = true) (hwc : ∀ c σ H, W c σ H → ∃ C, G.cl c = some C) (σ : L2.St) : KOkS G W σ (ms.map Pm.isIo) bs (fun vs H Q => spD G ms F vs H Q (wishX G W σ)) (callK ms F) := by
  intro B Z H env Fs its vs T ios Q gd hd hb hn hF
  have li : its.length = ms.length := by rw [← fitB_len hf, ← hb, List.length_map]
  obtain ⟨its', T', e1, e2, n1, s1, z1, c1⟩ := OwnT.asked (ms := ms) hd.own li hd.nd fun i p m q1 q2 ho => by
    refine fitB_at hf i m p.1 q2 ?_ ho
    rw [← hb, List.getElem?_map, q1]
    rfl
  have hT' : ∀ a, a ∈ T' → Z a = none := fun a m => (hd.fr a (s1 a m)).2
  refine ⟨its', T', Z, e1, c1 (cut H T') (fun a u e => ?_) (fun a u e => ?_) (fun b u _ n e => by rw [cut_out n]; exact e), n1, gd.sz, hT', gd.z0, fun a u e => (cut_out fun m => by have q := (hd.fr a (s1 a m)).1; rw [gd.gb a u e] at q; cases q).trans (gd.sb a u (gd.gb a u e)), ?_⟩
  · unfold cut at e ⊢
    split at e
    · cases e
    · rename_i n
      rw [if_neg fun m => n (s1 a m)]
      exact e
  · rw [cut_out fun m => by rw [hT' a m] at e; cases e]
    exact gd.sz a u e
  · rw [e2]
    unfold callK at hF
    generalize F (its.map (·.2)) = fo at hF ⊢
    match fo, hF with
    | .bad, hF => exact False.elim hF
    | .exc c, hF =>
      have hF : FinO G W B Z H σ env (PT_ Fs T) ios (if ms.all (fun (m : Pm) => !m.own) = true then .exc c else .bad) Q := hF
      by_cases ha : ms.all (fun (m : Pm) => !m.own) = true
      · rw [if_pos ha] at hF
        obtain ⟨C, hC⟩ := hwc c σ H (hF H gd.sb)
        exact ⟨z1 ha, C, hC, fun H' hs => ⟨rfl, c, C, rfl, hC, hF H' (gd.sb.trans hs)⟩⟩
      · rw [if_neg ha] at hF
        exact hF.elim
    | .ok (r, o), hF =>
      intro v H' Z' A z0' z2 z3 ext ho nd hfr hnz
      subst hn
      have st : Stp G B Z H σ env (PT_ Fs T) Z' H' σ env Fs := by
        have b' : Same B H' := fun a u e => ext a u (gd.sb a u e) fun m => by rw [(hd.fr a (s1 a m)).1] at e; cases e
        have ninf : ∀ a, InF Fs a → a ∉ T' := fun a m n => hd.dj a (s1 a n) m
        refine ⟨z2, fun a u e n => ext a u e fun m => n (.inr (s1 a m)), ⟨b', z3, gd.len, fun i => ?_, gd.nd, gd.dj, fun i a m => ⟨(gd.fr i a m).1, ?_⟩, z0', gd.gb⟩, fun a m => .inr (.inl m), fun a m => (hnz a m).imp id fun z => z.imp id fun z => .inr (s1 a z), fun j d e => ⟨⟨d, e⟩, rfl⟩, fun j d e => ⟨e, rfl⟩, fun j d e => ⟨e, rfl⟩, fun j d e => ⟨e, rfl⟩, rfl⟩
        · refine (gd.sl i).keep gd.sb gd.sz b' z3 z2 fun a u e m => ?_
          rcases m with m | nm
          · exact ext a u e (ninf a ⟨i, m⟩)
          · refine ext a _ e fun m => ?_
            obtain ⟨u, e3, mu⟩ := hd.own.dom a (s1 a m)
            rw [e] at e3; cases e3
            exact nm mu
        · cases q : Z' a with
          | none => rfl
          | some u =>
            rcases hnz a (by rw [q]; simp) with z | z | z
            · exact absurd (gd.fr i a m).2 z
            · obtain ⟨u', e, _⟩ := gd.dom ⟨i, m⟩
              rw [e] at z; cases z
            · exact absurd z (ninf a ⟨i, m⟩)
      refine hF v Z' H' Fs A ⟨st, ho, nd, fun a m n => ?_, fun a m => ⟨?_, (hfr a m).1⟩, fun a m => (hfr a m).2.imp id fun z => .inr (s1 a z)⟩
      · rcases (hfr a m).2 with z | z
        · obtain ⟨u', e, _⟩ := gd.dom n
          rw [e] at z; cases z
        · exact hd.dj a (s1 a z) n
      · rcases (hfr a m).2 with z | z
        · exact (none_of_free gd z).2.1
        · exact (hd.fr a (s1 a z)).1
/-- a call of a def -/
theorem e_call {X : Cx} {ms : List Pm} {F : Fn} {k : Nat} {f : Addr} {fd : FuncData} {ps : List Str} {x : Str} {p pos : Pos} {e : Expr} {es : List Expr} {t : TA} (dw : DXW X G W) (FO : FnOk X.prog X.w X.K X.mg X.base (L2.CX X.prog X.w) k f fd ps (spD G ms F)) (hr : Room k X.A) (hg : Gl X x) (hm : X.mg x = some (.ref f)) (hk : PySem.W.keepIn X.K (.ref f) = true) (hb : Binds X.K fd ps []) (c : Chn)
    (ha : PA X (e :: es) t) (ht : t = seqTE (c.tes G W) := by rfl) (hi : c.iofs = ms.map Pm.isIo := by rfl) (hf : fitB ms c.kinds = true := by rfl) (hdb : (x == ("__debug__" : Str)) = false := by decide) (he : starEach (e :: es) X.env = (false, eval e X.env) :: starEach es X.env := by rfl) (hpl : (backTo pos (starEach es X.env)).any (·.1) = false := by rfl) :
    PE X (.Call (.Name x p) (e :: es) [] pos) (TV G W (eK c (callK ms F))) :=
  (pe_callS (E := wishX G W) FO hr hg hm hk hb dw.passes ha hdb he hpl).imp fun σ H Q h => by
    subst ht
    exact tv_chnS (c := c) (call_kok (F := F) hf dw.wc σ) hi rfl H Q h
end
end DL
namespace DL
open PySem PySem.Spec PyProof.Rows L2
/-- the outer state's steps by those of an inner one, in which some slots are locked -/
structure Unl (G : Gc) (B Z H : Hp) (σ : L2.St) (env : DEnv) (P : Addr → Prop) (B1 Z1 H1 : Hp) (env1 : DEnv) (Fs1 : Nat → List Addr) (u : DEnv → DEnv) : Prop where
  good : Good G B1 Z1 H1 σ env1 Fs1
  bb : Same B B1
  hh : ∀ a, H1 a = none ∨ InF Fs1 a → H a = none ∨ P a
  out : ∀ (Z2 H2 : Hp) (σ2 : L2.St) (e2 : DEnv) (F2 : Nat → List Addr), Stp G B1 Z1 H1 σ env1 (InF Fs1) Z2 H2 σ2 e2 F2 → ∃ F3, Stp G B Z H σ env P Z2 H2 σ2 (u e2) F3 ∧ ∀ a, ¬ InF F2 a → B1 a = none → ¬ InF F3 a ∧ B a = none
section
variable {G : Gc} {B Z H B1 Z1 H1 : Hp} {σ : L2.St} {env env1 : DEnv} {P : Addr → Prop} {Fs Fs1 : Nat → List Addr} {u : DEnv → DEnv}
theorem Unl.refl (g : Good G B Z H σ env Fs) : Unl G B Z H σ env (InF Fs) B Z H env Fs id :=
  ⟨g, Same.refl B, fun _ m => m, fun _ _ _ _ F2 s => ⟨F2, s, fun _ n b => ⟨n, b⟩⟩⟩
theorem Unl.step {Z2 H2 : Hp} {env2 : DEnv} {Fs2 : Nat → List Addr} (w : Unl G B Z H σ env P B1 Z1 H1 env1 Fs1 u) (s : Stp G B1 Z1 H1 σ env1 (InF Fs1) Z2 H2 σ env2 Fs2) : Unl G B Z H σ env P B1 Z2 H2 env2 Fs2 u := by
  refine ⟨s.good, w.bb, fun a m => w.hh a ?_, fun Z3 H3 σ3 e3 F3 s3 => w.out _ _ _ _ _ (s.trans s.new s3)⟩
  rcases m with m | m
  · cases q : H1 a with
    | none => exact .inl rfl
    | some o =>
      refine .inr ?_
      by_cases n : InF Fs1 a
      · exact n
      · have := s.ext a o q n
        rw [m] at this; cases this
  · exact s.new a m
theorem Unl.lock (w : Unl G B Z H σ env P B1 Z1 H1 env1 Fs1 u) (i : Nat) : Unl G B Z H σ env P (lockB B1 H1 Fs1 i) Z1 H1 (lock i env1) (offF Fs1 i) (fun e => u (unlock env1 e)) := by
  have g := w.good
  refine ⟨g.lock i, w.bb.trans (lockB_up g i), fun a m => w.hh a (m.imp id inF_off), fun Z2 H2 σ2 e2 F2 s => ?_⟩
  have off_i : ∀ a, InF (offF Fs1 i) a → InF Fs1 a ∧ a ∉ Fs1 i := fun a m => by
    refine ⟨inF_off m, fun n => ?_⟩
    obtain ⟨j, m⟩ := m
    unfold offF at m
    split at m
    · cases m
    · rename_i hne
      exact hne (g.dj j i a m n)
  have s1 := s.unlock g (g.lock i).pm off_i (fun a m => ⟨i, m⟩)
  obtain ⟨F3, s3, h3⟩ := w.out _ _ _ _ _ s1
  refine ⟨F3, s3, fun a n b => ?_⟩
  have b1 : B1 a = none := by
    cases q : B1 a with
    | none => rfl
    | some o =>
      have := lockB_up g i a o q
      rw [b] at this; cases this
  refine h3 a (fun m => ?_) b1
  obtain ⟨j, m⟩ := m
  rcases backF_mem m with ⟨_, m⟩ | m
  · unfold lockB at b
    rw [lay_in m] at b
    obtain ⟨o, e, _⟩ := g.dom ⟨i, m⟩
    rw [e] at b; cases b
  · exact n ⟨j, m⟩
/-- a step where more is read only -/
theorem Stp.unB {B' Z2 H2 : Hp} {σ2 : L2.St} {e2 : DEnv} {F2 : Nat → List Addr} (g : Good G B Z H σ env Fs) (hB : Same B B') (pm : PMut H P) (s : Stp G B' Z H σ env P Z2 H2 σ2 e2 F2) : Stp G B Z H σ env P Z2 H2 σ2 e2 F2 := by
  have gl := s.good
  refine ⟨s.zz, s.ext, ⟨hB.trans gl.sb, gl.sz, gl.len, fun j => (gl.sl j).unlk (g.sl j) s.zz (hB.trans gl.sb) gl.sz (fun a u e st => s.ext a _ e (pm.tup e st)) (fun d e => ⟨(s.bw j d e).1 ▸ rfl, (s.bw j d e).2⟩) (fun d e => ⟨(s.lb j d e).1 ▸ rfl, (s.lb j d e).2⟩), gl.nd, gl.dj, fun i a m => ⟨?_, (gl.fr i a m).2⟩, gl.z0, g.gb⟩, s.new, s.newz, s.io, s.lk, s.bw, s.lb, s.ln⟩
  cases q : B a with
  | none => rfl
  | some u =>
    have := hB a u q
    rw [(gl.fr i a m).1] at this; cases this
/-- a value at hand, held while the rest runs -/
theorem Unl.hold {F : List Addr} {d : D} {v : V} (w : Unl G B Z H σ env P B1 Z1 H1 env1 Fs1 u) (ho : Own G Z1 H1 d v F) (hd : ∀ a, a ∈ F → ¬ InF Fs1 a) : Unl G B Z H σ env P (lay B1 H1 F) Z1 H1 env1 Fs1 u ∧ Own G (joi (lay B1 H1 F) Z1) H1 d v [] := by
  have g := w.good
  have up : Same B1 (lay B1 H1 F) := lay_up g.sb
  have le : Same (lay B1 H1 F) H1 := lay_le g.sb
  refine ⟨⟨⟨le, g.sz, g.len, fun j => ?_, g.nd, g.dj, fun i a m => ⟨?_, (g.fr i a m).2⟩, g.z0, g.gb.trans up⟩, w.bb.trans up, w.hh, fun Z2 H2 σ2 e2 F2 s => ?_⟩, Own.freeze (joi_right le g.sz) d v F (fun b u m e => joi_left b u (by rw [lay_in m]; exact e)) ho⟩
  · have h := g.sl j
    have j1 : Same (joi B1 Z1) (joi (lay B1 H1 F) Z1) := joi_mono up (Same.refl Z1) le g.sz
    unfold SlotOk at h ⊢
    match hs : env1[j]?, h with
    | some (some (.own, d)), h => exact h
    | some (some (.io, d)), h => exact h
    | some (some (.shr, d)), h => exact h
    | some (some (.brw, d)), h => obtain ⟨v, e, h, f⟩ := h; exact ⟨v, e, Own.keep j1 d v [] (fun _ _ e _ => e) h, f⟩
    | some (some (.lck, d)), h => obtain ⟨v, e, h, f⟩ := h; exact ⟨v, e, Own.keep j1 d v [] (fun _ _ e _ => e) h, f⟩
    | some none, h => exact h
    | none, h => exact h
  · rw [lay_out fun n => hd a n ⟨i, m⟩]
    exact (g.fr i a m).1
  · obtain ⟨F3, s3, h3⟩ := w.out _ _ _ _ _ (s.unB g up g.pm)
    refine ⟨F3, s3, fun a n b => h3 a n ?_⟩
    cases q : B1 a with
    | none => rfl
    | some o =>
      have := up a o q
      rw [b] at this; cases this
end
inductive Opn where
  | pur (h : DEnv → Option D)
  | plc (i : Nat) (g : DEnv → Option D)
  | own (f : DEnv → Out (D × DEnv))
def Opn.te (G : Gc) (W : Wsh) : Opn → TE
  | .pur h => TPur G h
  | .plc i g => TPlc G i g
  | .own f => TV G W f
def evO : List Opn → DEnv → Out (List D × List DEnv × DEnv)
  | [], env => .ok ([], [], env)
  | .pur h :: r, env => must (h env) fun d => evO r env >>= fun q => .ok (d :: q.1, q.2.1, q.2.2)
  | .plc i g :: r, env => must (g env) fun d => evO r (lock i env) >>= fun q => .ok (d :: q.1, q.2.1 ++ [env], q.2.2)
  | .own f :: r, env => f env >>= fun p => evO r p.2 >>= fun q => .ok (p.1 :: q.1, q.2.1, q.2.2)
def unlk (st : List DEnv) (e : DEnv) : DEnv := st.foldl (fun e e0 => unlock e0 e) e
theorem unlock_lck {e0 e : DEnv} {j : Nat} {d : D} (h : (unlock e0 e)[j]? = some (some (.lck, d))) : e[j]? = some (some (.lck, d)) := by
  rw [unlock_at] at h
  split at h
  · rename_i a b ha hb
    rw [hb]
    cases h2 : unl1 a b with
    | none => rw [h2] at h; cases h
    | some p =>
      rw [h2] at h
      cases h
      unfold unl1 at h2
      split at h2
      · cases h2
      · cases h2
      · rw [h2]
  · cases h
theorem unlk_lck {j : Nat} {d : D} : ∀ (st : List DEnv) (e : DEnv), (unlk st e)[j]? = some (some (.lck, d)) → e[j]? = some (some (.lck, d))
  | [], _, h => h
  | e0 :: st, e, h => unlock_lck (unlk_lck st (unlock e0 e) h)
/-- all tuples stay -/
def TK (H1 H : Hp) : Prop := ∀ a u, H1 a = some u → Still u → H a = some u
theorem TK.of {H H' : Hp} (h : Same H H') : TK H H' := fun a u e _ => h a _ e
theorem TK.trans {H H1 H2 : Hp} (h : TK H H1) (k : TK H1 H2) : TK H H2 := fun a u e st => k a u (h a u e st) st
theorem Stp.tk {G : Gc} {B Z H Z' H' : Hp} {σ σ' : L2.St} {env env' : DEnv} {P : Addr → Prop} {Fs' : Nat → List Addr} (s : Stp G B Z H σ env P Z' H' σ' env' Fs') (pm : PMut H P) : TK H H' := fun a u e st => s.ext a _ e (pm.tup e st)
theorem Own.keepT {G : Gc} {Y Y' H H' : Hp} {d : D} {v : V} (hy : Same Y Y') (t : TK H H') (h : Own G Y H d v []) : Own G Y' H' d v [] :=
  Own.keep hy d v [] (fun b u e m => by
    rcases m with m | nm
    · cases m
    · exact t b u e nm) h
theorem OwnL.keepT {G : Gc} {Y Y' H H' : Hp} {d : List D} {v : List V} (hy : Same Y Y') (t : TK H H') (h : OwnL G Y H d v []) : OwnL G Y' H' d v [] :=
  OwnL.keep hy d v [] (fun b u e m => by
    rcases m with m | nm
    · cases m
    · exact t b u e nm) h
theorem OwnL.snoc {G : Gc} {Y H : Hp} {ds : List D} {vs : List V} {d : D} {v : V} (h : OwnL G Y H ds vs []) (h1 : Own G Y H d v []) : OwnL G Y H (ds ++ [d]) (vs ++ [v]) [] := by
  have := OwnL.append h (OwnL.cons_nil h1 (show OwnL G Y H [] [] [] from ⟨rfl, rfl⟩))
  simpa using this

section
variable {G : Gc} {W : Wsh} {B Z H : Hp} {σ : L2.St} {env : DEnv} {P : Addr → Prop}
theorem evO_ok : ∀ (ops : List Opn) (B1 Z1 H1 : Hp) (env1 : DEnv) (Fs1 : Nat → List Addr) (u : DEnv → DEnv) (its : List D) (vs : List V) (k : List V → Hp → Prop), Unl G B Z H σ env P B1 Z1 H1 env1 Fs1 u → OwnL G (joi B1 Z1) H1 its vs [] →
    (match evO ops env1 with
      | .ok (ds, st, e) => ∀ us B2 Z2 H2 Fs2, Unl G B Z H σ env P B2 Z2 H2 e Fs2 (fun x => u (unlk st x)) → OwnL G (joi B2 Z2) H2 (its ++ ds) (vs ++ us) [] → k us H2
      | .exc c => ∀ H', Same B H' → W c σ H'
      | .bad => False) → seqTE (ops.map (Opn.te G W)) σ H1 k
  | [], B1, Z1, H1, env1, Fs1, u, its, vs, k, w, ho, h => by
    have h : ∀ us B2 Z2 H2 Fs2, Unl G B Z H σ env P B2 Z2 H2 env1 Fs2 (fun x => u (unlk [] x)) → OwnL G (joi B2 Z2) H2 (its ++ []) (vs ++ us) [] → k us H2 := h
    exact h [] B1 Z1 H1 Fs1 w (by rw [List.append_nil, List.append_nil]; exact ho)
  | .pur f :: r, B1, Z1, H1, env1, Fs1, u, its, vs, k, w, ho, h => by
    have e0 : evO (.pur f :: r) env1 = must (f env1) fun d => evO r env1 >>= fun q => .ok (d :: q.1, q.2.1, q.2.2) := rfl
    rw [e0] at h
    cases hf : f env1 with
    | none => rw [hf] at h; exact h.elim
    | some d =>
      rw [hf, must_some] at h
      refine ⟨B1, Z1, Fs1, env1, w.good, d, hf, fun v H2 hs hp hv => ?_⟩
      refine evO_ok r B1 Z1 H2 env1 Fs1 u (its ++ [d]) (vs ++ [v]) _ (w.step (Stp.grow w.good (fun _ m => m) hs)) (OwnL.snoc (OwnL.keepT (Same.refl _) (TK.of hs) ho) (hv _)) ?_
      cases hr : evO r env1 with
      | bad => rw [hr] at h; exact h.elim
      | exc c => rw [hr] at h; exact h
      | ok q =>
        rw [hr] at h
        exact fun us B2 Z2 H3 Fs2 w2 o2 => h (v :: us) B2 Z2 H3 Fs2 w2 (by simpa using o2)
  | .plc i f :: r, B1, Z1, H1, env1, Fs1, u, its, vs, k, w, ho, h => by
    have e0 : evO (.plc i f :: r) env1 = must (f env1) fun d => evO r (lock i env1) >>= fun q => .ok (d :: q.1, q.2.1 ++ [env1], q.2.2) := rfl
    rw [e0] at h
    cases hf : f env1 with
    | none => rw [hf] at h; exact h.elim
    | some d =>
      rw [hf, must_some] at h
      refine ⟨B1, Z1, Fs1, env1, w.good, d, hf, fun v H2 hs hv => ?_⟩
      have w1 := w.step (Stp.grow w.good (fun _ m => m) hs)
      have g1 := w1.good
      refine evO_ok r _ Z1 H2 _ _ _ (its ++ [d]) (vs ++ [v]) _ (w1.lock i) (OwnL.snoc (OwnL.keepT (joi_mono (lockB_up g1 i) (Same.refl Z1) (lockB_le g1 i) g1.sz) (TK.of hs) ho) hv) ?_
      cases hr : evO r (lock i env1) with
      | bad => rw [hr] at h; exact h.elim
      | exc c => rw [hr] at h; exact h
      | ok q =>
        rw [hr] at h
        refine fun us B2 Z2 H3 Fs2 w2 o2 => h (v :: us) B2 Z2 H3 Fs2 ?_ (by simpa using o2)
        have e : (fun x => u (unlk (q.2.1 ++ [env1]) x)) = fun x => u (unlock env1 (unlk q.2.1 x)) := by
          funext x
          unfold unlk
          rw [List.foldl_append]
          rfl
        rw [e]
        exact w2
  | .own f :: r, B1, Z1, H1, env1, Fs1, u, its, vs, k, w, ho, h => by
    have e0 : evO (.own f :: r) env1 = (f env1 >>= fun p => evO r p.2 >>= fun q => .ok (p.1 :: q.1, q.2.1, q.2.2)) := rfl
    rw [e0] at h
    refine ⟨B1, Z1, Fs1, env1, w.good, ?_⟩
    unfold FinV
    cases hf : f env1 with
    | bad => rw [hf] at h; exact h.elim
    | exc c => rw [hf] at h; exact fun H' hs => h H' (w.bb.trans hs)
    | ok p =>
      obtain ⟨d, e1⟩ := p
      rw [hf] at h
      intro v Z2 H2 Fs2 F p
      have s2 := p.st
      obtain ⟨w2, o2⟩ := (w.step s2).hold p.one p.dj
      refine evO_ok r _ _ H2 e1 Fs2 u (its ++ [d]) (vs ++ [v]) _ w2 (OwnL.snoc (OwnL.keepT (joi_mono (lay_up s2.good.sb) s2.zz w2.good.sb w2.good.sz) (s2.tk w.good.pm) ho) o2) ?_
      have h : (match evO r e1 >>= fun q => Out.ok (d :: q.1, q.2.1, q.2.2) with
        | .ok (ds, st, e) => ∀ us B2 Z2 H2 Fs2, Unl G B Z H σ env P B2 Z2 H2 e Fs2 (fun x => u (unlk st x)) → OwnL G (joi B2 Z2) H2 (its ++ ds) (vs ++ us) [] → k us H2
        | .exc c => ∀ H', Same B H' → W c σ H'
        | .bad => False) := h
      cases hr : evO r e1 with
      | bad => rw [hr] at h; exact h.elim
      | exc c => rw [hr] at h; exact h
      | ok q =>
        rw [hr] at h
        exact fun us B3 Z3 H3 Fs3 w3 o3 => h (v :: us) B3 Z3 H3 Fs3 w3 (by simpa using o3)
end
/-- the iterator J hands on xs, one by one, while Y and the tuples stay -/
def IterOk (G : Gc) (Y H1 : Hp) (J : It) (xs : List D) : Prop := ∀ (i : Nat) (H : Hp), Same Y H → TK H1 H → (∀ x, xs[i]? = some x → J.go i H ∧ ∀ v H', J.yld i H v H' → Same H H' ∧ Own G Y H' x v []) ∧ (i = xs.length → J.stop i H)
def TSrc (G : Gc) (W : Wsh) (ops : List Opn) (mk : List D → Option (List D)) : TI := fun σ H R => ∃ B Z Fs env, Good G B Z H σ env Fs ∧ match evO ops env with
  | .ok (ds, st, env1) => ∃ xs, mk ds = some xs ∧ ∀ B1 Z1 H1 Fs1 J, Unl G B Z H σ env (InF Fs) B1 Z1 H1 env1 Fs1 (unlk st) → IterOk G (joi B1 Z1) H1 J xs → R J H1
  | .exc c => ∀ H', Same B H' → W c σ H'
  | .bad => False
theorem _root_.L2.PI.imp {X : Cx} {tg e : Expr} {t t' : TI} (h : PI X tg e t) (i : ∀ σ H R, t' σ H R → t σ H R) : PI X tg e t' := ⟨fun pins s σ H R I hr => h.run pins s σ H R I (i σ H R hr)⟩
abbrev RI := List V → Hp → (It → Hp → Prop) → Prop
def fits (G : Gc) (r : RI) (mk : List D → Option (List D)) : Prop := ∀ (ds : List D) (vs : List V) (Y H : Hp) (xs : List D) (R : It → Hp → Prop), OwnL G Y H ds vs [] → Same Y H → mk ds = some xs → (∀ J H', Same H H' → IterOk G Y H' J xs → R J H') → r vs H R
theorem src_ok {G : Gc} {W : Wsh} {X : Cx} {tg e : Expr} {r : RI} {ops : List Opn} {mk : List D → Option (List D)} (hf : fits G r mk) (h : PI X tg e (fun σ H R => seqTE (ops.map (Opn.te G W)) σ H fun vs H1 => r vs H1 R)) : PI X tg e (TSrc G W ops mk) :=
  h.imp fun σ H R ⟨B, Z, Fs, env, g, q⟩ => by
    refine evO_ok (W := W) ops B Z H env Fs id [] [] _ (Unl.refl g) ⟨rfl, rfl⟩ ?_
    cases hr : evO ops env with
    | bad => rw [hr] at q; exact q.elim
    | exc c => rw [hr] at q; exact q
    | ok p =>
      obtain ⟨ds, st, e⟩ := p
      rw [hr] at q
      obtain ⟨xs, hx, q⟩ := q
      intro us B2 Z2 H2 Fs2 w o
      refine hf ds us (joi B2 Z2) H2 xs R (by simpa using o) (joi_le w.good.sb w.good.sz) hx fun J H' hs hj => ?_
      exact q B2 Z2 H' Fs2 J (w.step (Stp.grow w.good (fun _ m => m) hs)) hj

def mkSeq : List D → Option (List D)
  | [.lst ds] => some ds
  | [.tupF _ ds] => some ds
  | _ => none
theorem mkSeq_some {ds xs : List D} (h : mkSeq ds = some xs) : ds = [.lst xs] ∨ ∃ f, ds = [.tupF f xs] := by
  unfold mkSeq at h
  split at h
  · cases h; exact .inl rfl
  · cases h; exact .inr ⟨_, rfl⟩
  · cases h
def rSeqI (K : PySem.W.Frag) : RI := fun vs H R => ∃ a, vs = [.ref a] ∧ ((∃ xs, SqL K H a xs ∧ R (Itl K a) H) ∨ (∃ xs, SqT K H a xs ∧ R (Itt K a) H))
theorem OwnL.at {G : Gc} {Y H : Hp} {ds : List D} {vs : List V} {i : Nat} {x : D} (h : OwnL G Y H ds vs []) (e : ds[i]? = some x) : ∃ v, vs[i]? = some v ∧ Own G Y H x v [] := OwnL.get h e
section
variable {G : Gc}
theorem seq_fits : fits G (rSeqI G.K) mkSeq := by
  intro ds vs Y H xs R ho hy hx q
  rcases mkSeq_some hx with rfl | ⟨f, rfl⟩
  · obtain ⟨v, r, rfl, h1, h2⟩ := OwnL.uncons ho
    obtain ⟨rfl, _⟩ := h2
    obtain ⟨a, ws, F', rfl, n, h3⟩ := h1
    rcases n with ⟨hs, _, rfl⟩ | ⟨z, _⟩
    · refine ⟨a, rfl, .inl ⟨ws, hy.seq (.inl hs), q _ H (Same.refl H) fun i H' y t => ⟨fun x e => ?_, fun hl => ?_⟩⟩⟩
      · obtain ⟨v, ev, hv⟩ := OwnL.at h3 e
        refine ⟨⟨ws, v, y.seq (.inl hs), ev⟩, fun w H2 yy => ?_⟩
        obtain ⟨rfl, yy⟩ := yy
        have := yy ws (y.seq (.inl hs))
        rw [ev] at this
        cases this
        exact ⟨Same.refl _, Own.keepT (Same.refl Y) t hv⟩
      · exact ⟨ws, y.seq (.inl hs), by rw [OwnL.length h3]; exact Nat.le_of_eq hl.symm⟩
    · cases z
  · obtain ⟨v, r, rfl, h1, h2⟩ := OwnL.uncons ho
    obtain ⟨rfl, _⟩ := h2
    obtain ⟨a, ws, rfl, e1, h3⟩ := h1
    refine ⟨a, rfl, .inr ⟨ws, e1.seq, q _ H (Same.refl H) fun i H' y t => ⟨fun x e => ?_, fun hl => ?_⟩⟩⟩
    · obtain ⟨v, ev, hv⟩ := OwnL.at h3 e
      refine ⟨⟨ws, v, (e1.keep t).seq, ev⟩, fun w H2 yy => ?_⟩
      obtain ⟨rfl, yy⟩ := yy
      have := yy ws ((e1.keep t).seq)
      rw [ev] at this
      cases this
      exact ⟨Same.refl _, Own.keepT (Same.refl Y) t hv⟩
    · exact ⟨ws, (e1.keep t).seq, by rw [OwnL.length h3]; exact Nat.le_of_eq hl.symm⟩
/-- a list or a tuple -/
theorem pi_any {X : Cx} {tg l : Expr} {tl : TE} (hl : PE X l tl) : PI X tg l (fun σ H R => tl σ H fun x H1 => rSeqI X.K [x] H1 R) := by
  refine ⟨fun ps st sg hp RR inv hh => ?_⟩
  refine thn (hl.run ps st sg hp _ inv hh) fun va sx ⟨y, hp1, J1, rr, qq⟩ => ?_
  obtain ⟨a, e, qq⟩ := qq
  cases e
  cases rr
  have fr : ∀ b, b ∈ [sx.heap.objs.size] → FpOk X ps hp1 b := fun b hb => by
    obtain rfl : b = sx.heap.objs.size := by simpa using hb
    exact J1.fpOk (Nat.le_refl _) (J1.hok.fresh (Nat.le_refl _))
  rcases qq with ⟨xs, hq, qq⟩ | ⟨xs, hq, qq⟩
  · obtain ⟨its, rv, pp, _⟩ := J1.list hq
    exact wpAny_pyIter_list pp.isList ⟨_, [_], _, _, hp1, rfl, J1.kept (t' := sx.toks) fun b o e => Heap.get?_push_of_some _ e, turn_list a _, ⟨_, Heap.get?_push_size _ rfl, rfl, rfl⟩, fr, qq⟩
  · obtain ⟨its, rv, pp, _⟩ := J1.tuple hq
    exact wpAny_pyIter_tuple (show sx.heap.IsTuple a its.toArray from pp) ⟨_, [_], _, _, hp1, rfl, J1.kept (t' := sx.toks) fun b o e => Heap.get?_push_of_some _ e, turn_tuple a _, ⟨_, Heap.get?_push_size _ rfl, rfl, rfl⟩, fr, qq⟩
theorem i_seq {W : Wsh} {X : Cx} {tg l : Expr} (op : Opn) (dx : DX X G) (hl : PE X l (op.te G W)) : PI X tg l (TSrc G W [op] mkSeq) :=
  src_ok (r := rSeqI X.K) (by rw [dx.K]; exact seq_fits) (pi_any hl)

/-- the whole numbers from lo on, n of them -/
def rngD (lo : Int) (n : Nat) : List D := (List.range n).map fun (i : Nat) => D.int (lo + (i : Int))
theorem rngD_length {lo : Int} {n : Nat} : (rngD lo n).length = n := by unfold rngD; simp
theorem rngD_at {lo : Int} {n i : Nat} {x : D} (h : (rngD lo n)[i]? = some x) : i < n ∧ x = .int (lo + (i : Int)) := by
  unfold rngD at h
  rw [List.getElem?_map] at h
  by_cases hi : i < n
  · rw [List.getElem?_range hi] at h
    exact ⟨hi, (Option.some.inj h).symm⟩
  · rw [List.getElem?_eq_none (by simpa using hi)] at h
    cases h
theorem range_iter {Y H : Hp} {lo : Int} {n : Nat} : IterOk G Y H (Itr lo n) (rngD lo n) := fun i H' y t => by
  refine ⟨fun x e => ?_, fun hl => ?_⟩
  · obtain ⟨hi, rfl⟩ := rngD_at e
    refine ⟨hi, fun v H2 yy => ?_⟩
    obtain ⟨rfl, rfl⟩ := yy
    exact ⟨Same.refl _, rfl, rfl⟩
  · rw [rngD_length] at hl
    exact Nat.le_of_eq hl.symm
def inRng (j : Int) : Bool := decide (j.natAbs < 4611686018427387904)
theorem inRng_ok {j : Int} (h : inRng j = true) : -(2 ^ 62) ≤ j ∧ j < 2 ^ 62 := by
  unfold inRng at h
  simp only [decide_eq_true_eq] at h
  omega
def mkRange1 : List D → Option (List D)
  | [d] => match d.toInt with
    | some j => if inRng j = true then some (rngD 0 j.toNat) else none
    | none => none
  | _ => none
def rRange1 : RI := fun vs H R => ∃ j : Int, vs = [.int j] ∧ -(2 ^ 62) ≤ j ∧ j < 2 ^ 62 ∧ R (Itr 0 j.toNat) H
theorem range1_fits : fits G rRange1 mkRange1 := by
  intro ds vs Y H xs R ho hy hx q
  unfold mkRange1 at hx
  split at hx
  · rename_i d
    split at hx
    · rename_i j hj
      obtain rfl := D.toInt_some hj
      split at hx
      · rename_i hr
        cases hx
        obtain ⟨v, r, rfl, h1, h2⟩ := OwnL.uncons ho
        obtain ⟨rfl, _⟩ := h2
        exact ⟨j, by rw [h1.1], (inRng_ok hr).1, (inRng_ok hr).2, q _ H (Same.refl H) range_iter⟩
      · cases hx
    · cases hx
  · cases hx
theorem i_range1 {W : Wsh} {X : Cx} {tg a : Expr} {ta : TA} {p pos : Pos} (ops : List Opn) (hg : Gl X "range") (hm : X.mg "range" = none) (ha : PA X [a] ta) (ht : ta = seqTE (ops.map (Opn.te G W)) := by rfl) (hs : starEach [a] X.env = [(false, eval a X.env)] := by rfl) : PI X tg (.Call (.Name "range" p) [a] [] pos) (TSrc G W ops mkRange1) :=
  src_ok range1_fits (by subst ht; exact pi_range1 hg hm ha hs)
end
section
variable {G : Gc}
def zipD : List D → List D → List D
  | x :: xs, y :: ys => .tup [x, y] :: zipD xs ys
  | _, _ => []
theorem zipD_length : ∀ (xs ys : List D), (zipD xs ys).length = min xs.length ys.length
  | [], ys => by simp [zipD]
  | x :: xs, [] => by simp [zipD]
  | x :: xs, y :: ys => by
    show (zipD xs ys).length + 1 = _
    rw [zipD_length xs ys, List.length_cons, List.length_cons]
    omega
theorem zipD_at : ∀ (xs ys : List D) (i : Nat) (z : D), (zipD xs ys)[i]? = some z → ∃ x y, xs[i]? = some x ∧ ys[i]? = some y ∧ z = .tup [x, y]
  | [], ys, i, z, h => by simp [zipD] at h
  | x :: xs, [], i, z, h => by simp [zipD] at h
  | x :: xs, y :: ys, 0, z, h => ⟨x, y, rfl, rfl, (Option.some.inj h).symm⟩
  | x :: xs, y :: ys, i + 1, z, h => zipD_at xs ys i z h
def D.toSeq : D → Option (List D)
  | .lst xs => some xs
  | .tupF _ xs => some xs
  | _ => none
def mkZip : List D → Option (List D)
  | [a, b] => match a.toSeq, b.toSeq with
    | some xs, some ys => some (zipD xs ys)
    | _, _ => none
  | _ => none
theorem mkZip_some {ds zs : List D} (h : mkZip ds = some zs) : ∃ a b xs ys, zs = zipD xs ys ∧ ds = [a, b] ∧ a.toSeq = some xs ∧ b.toSeq = some ys := by
  match ds, h with
  | [a, b], h =>
    have h : (match a.toSeq, b.toSeq with
      | some xs, some ys => some (zipD xs ys)
      | _, _ => none) = some zs := h
    cases ha : a.toSeq with
    | none => rw [ha] at h; cases h
    | some xs =>
      cases hb : b.toSeq with
      | none => rw [ha, hb] at h; cases h
      | some ys =>
        rw [ha, hb] at h
        cases h
        exact ⟨a, b, xs, ys, rfl, rfl, ha, hb⟩
theorem Own.sq {Y H : Hp} {d : D} {v : V} {ds : List D} (h : Own G Y H d v []) (e : d.toSeq = some ds) : ∃ k a vs, v = .ref a ∧ (∀ H', Same Y H' → TK H H' → Sq G.K k H' a vs) ∧ OwnL G Y H ds vs [] := by
  cases d with
  | lst xs =>
    cases e
    obtain ⟨a, ws, F', rfl, n, o⟩ := h
    rcases n with ⟨hs, _, rfl⟩ | ⟨z, _⟩
    · exact ⟨true, a, ws, rfl, fun H' y _ => y.seq (.inl hs), o⟩
    · cases z
  | tupF f xs =>
    cases e
    obtain ⟨a, ws, rfl, n, o⟩ := h
    exact ⟨false, a, ws, rfl, fun H' _ t => (n.keep t).seq, o⟩
  | _ => cases e
/-- a pair just laid -/
theorem pair_new {Y H H' : Hp} {x y : D} {u v : V} {T : Addr} (hT : H T = none) (e : H' = upd H T (.tup [u, v])) (h1 : Own G Y H x u []) (h2 : Own G Y H y v []) : Same H H' ∧ Own G Y H' (.tup [x, y]) (.ref T) [] := by
  subst e
  have s := same_upd (o := .tup [u, v]) hT
  exact ⟨s, T, [u, v], rfl, (upd_same : upd H T (.tup [u, v]) T = some (.tup [u, v])), OwnL.cons_nil (Own.keepT (Same.refl Y) (TK.of s) h1) (OwnL.cons_nil (Own.keepT (Same.refl Y) (TK.of s) h2) ⟨rfl, rfl⟩)⟩
theorem zip_fits : fits G (rZipX G.K) mkZip := by
  intro ds vs Y H zs R ho hy hx q
  obtain ⟨da, db, xs, ys, rfl, rfl, ea, eb⟩ := mkZip_some hx
  obtain ⟨v, r, rfl, h1, h2⟩ := OwnL.uncons ho
  obtain ⟨v2, r2, rfl, h3, h4⟩ := OwnL.uncons h2
  obtain ⟨rfl, _⟩ := h4
  obtain ⟨k1, a, ws, rfl, s1, o1⟩ := Own.sq h1 ea
  obtain ⟨k2, b, us, rfl, s2, o2⟩ := Own.sq h3 eb
  refine ⟨a, b, ws, us, k1, k2, rfl, s1 H hy (TK.of (Same.refl H)), s2 H hy (TK.of (Same.refl H)), q _ H (Same.refl H) fun i H' y t => ⟨fun z e => ?_, fun hl => ?_⟩⟩
  · obtain ⟨dx, dy, e1, e2, rfl⟩ := zipD_at _ _ _ _ e
    obtain ⟨vx, ex, hvx⟩ := OwnL.at o1 e1
    obtain ⟨vy, ey, hvy⟩ := OwnL.at o2 e2
    refine ⟨⟨ws, us, vx, vy, s1 H' y t, s2 H' y t, ex, ey⟩, fun w H2 yy => ?_⟩
    obtain ⟨T, x', y', rfl, hT, eH, f1, f2⟩ := yy
    have q1 := f1 ws (s1 H' y t)
    have q2 := f2 us (s2 H' y t)
    rw [ex] at q1
    rw [ey] at q2
    cases q1
    cases q2
    exact pair_new hT eH (Own.keepT (Same.refl Y) t hvx) (Own.keepT (Same.refl Y) t hvy)
  · rw [zipD_length] at hl
    refine ⟨ws, us, s1 H' y t, s2 H' y t, ?_⟩
    rw [OwnL.length o1, OwnL.length o2]
    exact hl
theorem i_zip {W : Wsh} {X : Cx} {elts : List Expr} {kk : Nat} {tpos : Pos} {e e2 : Expr} {ta : TA} {p pos : Pos} (ops : List Opn) (dx : DX X G) (hg : Gl X "zip") (hm : X.mg "zip" = none) (ha : PA X [e, e2] ta) (ht : ta = seqTE (ops.map (Opn.te G W)) := by rfl)
    (hs : starEach [e, e2] X.env = (false, eval e X.env) :: starEach [e2] X.env := by rfl) (hpl : (backTo pos (starEach [e2] X.env)).any (·.1) = false := by rfl) : PI X (.Tuple elts kk tpos) (.Call (.Name "zip" p) [e, e2] [] pos) (TSrc G W ops mkZip) :=
  src_ok (r := rZipX X.K) (by rw [dx.K]; exact zip_fits) (by subst ht; exact pi_zipX hg hm ha hs hpl)
end
structure Bnd (G : Gc) (B Z H : Hp) (σ : L2.St) (env : DEnv) (Fs : Nat → List Addr) (ts : List Nat) (σ1 : L2.St) (env1 : DEnv) (Fs1 : Nat → List Addr) : Prop where
  good : Good G B Z H σ1 env1 Fs1
  sub : ∀ a, InF Fs1 a → InF Fs a
  at_ : ∀ j, j ∉ ts → env1[j]? = env[j]? ∧ σ1[j]? = σ[j]?
  free : ∀ j, j ∈ ts → free? j env = true
  ln : env1.length = env.length
def BindOk (G : Gc) (ts : List Nat) (g : TG) (bind : D → DEnv → Option DEnv) : Prop := ∀ (B Z H : Hp) (σ : L2.St) (env : DEnv) (Fs : Nat → List Addr) (x : D) (v : V) (e : DEnv) (Q : L2.St → Hp → Prop), Good G B Z H σ env Fs → Own G (joi B Z) H x v [] → bind x env = some e → (∀ σ1 Fs1, Bnd G B Z H σ env Fs ts σ1 e Fs1 → Q σ1 H) → g v σ H Q
def bName (i : Nat) : D → DEnv → Option DEnv := fun x env => if free? i env = true then some (env.set i (some (if x.pure = true then .own else .brw, x))) else none
theorem free_not {i : Nat} {env : DEnv} (h : free? i env = true) : i < env.length ∧ (∀ d, env[i]? ≠ some (some (.io, d))) ∧ ∀ d, env[i]? ≠ some (some (.lck, d)) := by
  unfold free? at h
  refine ⟨?_, fun d q => (by rw [q] at h; cases h), fun d q => (by rw [q] at h; cases h)⟩
  cases q : env[i]? with
  | none => rw [q] at h; cases h
  | some s => exact (List.getElem?_eq_some_iff.mp q).1
section
variable {G : Gc}
theorem bind_name {i : Nat} : BindOk G [i] (gName i) (bName i) := by
  intro B Z H σ env Fs x v e Q g ho hb q
  unfold bName at hb
  split at hb
  · rename_i hf
    cases hb
    obtain ⟨hl, _, _⟩ := free_not hf
    have hlσ : i < σ.length := by rw [← g.len]; exact hl
    refine q _ (offF Fs i) ⟨⟨g.sb, g.sz, by rw [List.length_set, List.length_set]; exact g.len, fun j => ?_, fun j => ?_, fun j k a m n => ?_, fun j a m => ?_, g.z0, g.gb⟩, fun a m => inF_off m, fun j hj => ?_, fun j hj => by rw [List.mem_singleton.mp hj]; exact hf, by rw [List.length_set]⟩
    · by_cases hj : j = i
      · subst hj
        have eo : offF Fs j j = [] := by unfold offF; rw [if_pos rfl]
        rw [eo, List.getElem?_set_self hl, List.getElem?_set_self hlσ]
        by_cases hp : x.pure = true
        · rw [if_pos hp]
          exact ⟨v, rfl, (Own.ofPure x v [] hp ho).2⟩
        · rw [if_neg hp]
          exact ⟨v, rfl, ho, rfl⟩
      · have eo : offF Fs i j = Fs j := by unfold offF; rw [if_neg hj]
        rw [eo, List.getElem?_set_ne (fun z => hj z.symm), List.getElem?_set_ne (fun z => hj z.symm)]
        exact g.sl j
    · unfold offF; split; exact List.nodup_nil; exact g.nd j
    · unfold offF at m n
      split at m
      · cases m
      · split at n
        · cases n
        · exact g.dj j k a m n
    · unfold offF at m
      split at m
      · cases m
      · exact g.fr j a m
    · have hj : j ≠ i := by simpa using hj
      exact ⟨List.getElem?_set_ne (fun z => hj z.symm), List.getElem?_set_ne (fun z => hj z.symm)⟩
  · cases hb
/-- several targets -/
def BindsOk (G : Gc) (ts : List Nat) (g : TGs) (bind : List D → DEnv → Option DEnv) : Prop := ∀ (B Z H : Hp) (σ : L2.St) (env : DEnv) (Fs : Nat → List Addr) (xs : List D) (vs : List V) (e : DEnv) (Q : L2.St → Hp → Prop), Good G B Z H σ env Fs → OwnL G (joi B Z) H xs vs [] → bind xs env = some e → (∀ σ1 Fs1, Bnd G B Z H σ env Fs ts σ1 e Fs1 → Q σ1 H) → g vs σ H Q
def bNil : List D → DEnv → Option DEnv
  | [], env => some env
  | _, _ => none
def bCons (f : D → DEnv → Option DEnv) (h : List D → DEnv → Option DEnv) : List D → DEnv → Option DEnv
  | x :: xs, env => match f x env with
    | some e => h xs e
    | none => none
  | [], _ => none
def bTup (f : List D → DEnv → Option DEnv) : D → DEnv → Option DEnv := fun x env => match x.toTupA with
  | some xs => f xs env
  | none => none
theorem binds_nil : BindsOk G [] gNil bNil := by
  intro B Z H σ env Fs xs vs e Q g ho hb q
  unfold bNil at hb
  split at hb
  · cases hb
    obtain ⟨rfl, _⟩ := ho
    exact ⟨rfl, q σ Fs ⟨g, fun _ m => m, fun _ _ => ⟨rfl, rfl⟩, fun j hj => (by cases hj), rfl⟩⟩
  · cases hb
theorem free_back {env env1 : DEnv} {ts : List Nat} {j : Nat} (h1 : ∀ j, j ∉ ts → env1[j]? = env[j]?) (h2 : ∀ j, j ∈ ts → free? j env = true) (h : free? j env1 = true) : free? j env = true := by
  by_cases m : j ∈ ts
  · exact h2 j m
  · unfold free? at h ⊢
    rw [h1 j m] at h
    exact h
theorem binds_cons {ts ts2 : List Nat} {g : TG} {gs : TGs} {f : D → DEnv → Option DEnv} {h : List D → DEnv → Option DEnv} (h1 : BindOk G ts g f) (h2 : BindsOk G ts2 gs h) : BindsOk G (ts ++ ts2) (gCons g gs) (bCons f h) := by
  intro B Z H σ env Fs xs vs e Q gd ho hb q
  cases xs with
  | nil => cases hb
  | cons x xs' =>
    have hb : (match f x env with
      | some e => h xs' e
      | none => none) = some e := hb
    obtain ⟨v, r, rfl, o1, o2⟩ := OwnL.uncons ho
    cases hf : f x env with
    | none => rw [hf] at hb; cases hb
    | some e1 =>
      rw [hf] at hb
      refine ⟨v, r, rfl, h1 B Z H σ env Fs x v e1 _ gd o1 hf fun σ1 Fs1 b1 => ?_⟩
      refine h2 B Z H σ1 e1 Fs1 xs' r e Q b1.good o2 hb fun σ2 Fs2 b2 => ?_
      refine q σ2 Fs2 ⟨b2.good, fun a m => b1.sub a (b2.sub a m), fun j hj => ?_, fun j hj => ?_, b2.ln.trans b1.ln⟩
      · have hj : j ∉ ts ∧ j ∉ ts2 := by simpa using hj
        exact ⟨(b2.at_ j hj.2).1.trans (b1.at_ j hj.1).1, (b2.at_ j hj.2).2.trans (b1.at_ j hj.1).2⟩
      · rcases List.mem_append.mp hj with hj | hj
        · exact b1.free j hj
        · exact free_back (fun j n => (b1.at_ j n).1) b1.free (b2.free j hj)
theorem bind_tup {ts : List Nat} {gs : TGs} {f : List D → DEnv → Option DEnv} {n : Nat} {K : PySem.W.Frag} (hK : K = G.K) (h : BindsOk G ts gs f) (hn : ∀ xs env e, f xs env = some e → xs.length = n) : BindOk G ts (gTup K n gs) (bTup f) := by
  intro B Z H σ env Fs x v e Q gd ho hb q
  unfold bTup at hb
  cases hx : x.toTupA with
  | none => rw [hx] at hb; cases hb
  | some xs =>
    rw [hx] at hb
    obtain ⟨g, rfl⟩ := D.toTupA_some hx
    obtain ⟨a, vs, rfl, e1, o1⟩ := ho
    exact ⟨a, vs, rfl, e1.seq, by rw [OwnL.length o1]; exact hn _ _ _ hb, h B Z H σ env Fs xs vs e Q gd o1 hb q⟩
theorem bNil_len : ∀ xs env e, bNil xs env = some e → xs.length = 0
  | [], _, _, _ => rfl
  | _ :: _, _, _, h => by cases h
theorem bCons_len {f : D → DEnv → Option DEnv} {h : List D → DEnv → Option DEnv} {n : Nat} (hn : ∀ xs env e, h xs env = some e → xs.length = n) : ∀ xs env e, bCons f h xs env = some e → xs.length = n + 1
  | [], _, _, z => by cases z
  | x :: xs, env, e, z => by
    unfold bCons at z
    cases hf : f x env with
    | none => simp only [hf] at z; cases z
    | some e1 =>
      simp only [hf] at z
      rw [List.length_cons, hn xs e1 e z]
theorem dropS_at : ∀ {is : List Nat} {env env' : DEnv}, dropS is env = some env' → env'.length = env.length ∧ (∀ j, j ∉ is → env'[j]? = env[j]?) ∧ (∀ (j : Nat) (s : Md × D), j ∈ is → env'[j]? ≠ some (some s)) ∧ ∀ j, j ∈ is → free? j env = true
  | [], env, env', h => by
    cases h
    exact ⟨rfl, fun _ _ => rfl, fun j s m => (by cases m), fun j m => (by cases m)⟩
  | i :: r, env, env', h => by
    unfold dropS at h
    split at h
    · rename_i hf
      obtain ⟨h1, h2, h3, h4⟩ := dropS_at h
      have nn : ∀ j, j ≠ i → (env.set i none)[j]? = env[j]? := fun j hj => List.getElem?_set_ne (fun z => hj z.symm)
      refine ⟨h1.trans (by rw [List.length_set]), fun j hj => ?_, fun j s hj => ?_, fun j hj => ?_⟩
      · have hj : j ≠ i ∧ j ∉ r := by simpa using hj
        rw [h2 j hj.2, nn j hj.1]
      · by_cases hjr : j ∈ r
        · exact h3 j s hjr
        · rcases List.mem_cons.mp hj with rfl | hj
          · rw [h2 j hjr, List.getElem?_set_self']
            cases env[j]? <;> (intro z; cases z)
          · exact absurd hj hjr
      · by_cases hji : j = i
        · rw [hji]; exact hf
        · rcases List.mem_cons.mp hj with rfl | hj
          · exact hf
          · have := h4 j hj
            unfold free? at this ⊢
            rw [nn j hji] at this
            exact this
    · cases h
/-- a turn as a step: bound, run, forgotten -/
theorem Bnd.stp {B Z H Z2 H2 : Hp} {σ σ1 σ2 : L2.St} {env env1 e2 e3 : DEnv} {Fs Fs1 F2 : Nat → List Addr} {ts clr : List Nat} {P : Addr → Prop} (b : Bnd G B Z H σ env Fs ts σ1 env1 Fs1) (hP : ∀ a, InF Fs a → P a) (s : Stp G B Z H σ1 env1 (InF Fs1) Z2 H2 σ2 e2 F2) (hd : dropS clr e2 = some e3) (hc : ∀ j, j ∈ ts → j ∈ clr) :
    ∃ F3, Stp G B Z H σ env P Z2 H2 σ2 e3 F3 ∧ ∀ a, InF F3 a → InF F2 a := by
  obtain ⟨F3, s3, h3⟩ := Stp.drops (P := InF F2) s.good (fun _ m => m) hd
  obtain ⟨d1, d2, d3, d4⟩ := dropS_at hd
  have sub : ∀ a, InF Fs1 a → P a := fun a m => hP a (b.sub a m)
  have frt : ∀ j, j ∈ ts → (∀ d, env[j]? ≠ some (some (.io, d))) ∧ ∀ d, env[j]? ≠ some (some (.lck, d)) := fun j m => (free_not (b.free j m)).2
  have s13 := s.trans s.new s3
  refine ⟨F3, ⟨s13.zz, fun a o e n => s13.ext a o e fun m => n (sub a m), s13.good, fun a m => (s13.new a m).imp id (sub a), fun a m => (s13.newz a m).imp id fun z => z.imp id (sub a), fun j d e => ?_, fun j d e => ?_, fun j d e => ?_, fun j d e => ?_, s13.ln.trans b.ln⟩, h3⟩
  · by_cases m : j ∈ ts
    · exact absurd e ((frt j m).1 d)
    · have q := s13.io j d (by rw [(b.at_ j m).1]; exact e)
      exact ⟨q.1, q.2.trans (b.at_ j m).2⟩
  · by_cases m : j ∈ ts
    · exact absurd e ((frt j m).2 d)
    · have q := s13.lk j d (by rw [(b.at_ j m).1]; exact e)
      exact ⟨q.1, q.2.trans (b.at_ j m).2⟩
  · by_cases m : j ∈ ts
    · exact absurd e (d3 j _ (hc j m))
    · have q := s13.bw j d e
      exact ⟨by rw [← (b.at_ j m).1]; exact q.1, q.2.trans (b.at_ j m).2⟩
  · by_cases m : j ∈ ts
    · exact absurd e (d3 j _ (hc j m))
    · have q := s13.lb j d e
      exact ⟨by rw [← (b.at_ j m).1]; exact q.1, q.2.trans (b.at_ j m).2⟩
end
section
variable {G : Gc}
theorem Bnd.ag {B Z H : Hp} {σ σ1 σx : L2.St} {env env1 : DEnv} {Fs Fs1 : Nat → List Addr} {ts : List Nat} (b : Bnd G B Z H σ env Fs ts σ1 env1 Fs1) (h : AgL env1 σ1 σx) : AgL env σ σx := ⟨h.1.trans b.ln, fun j d e => by
  by_cases m : j ∈ ts
  · exact absurd e ((free_not (b.free j m)).2.2 d)
  · exact (h.2 j d (by rw [(b.at_ j m).1]; exact e)).trans (b.at_ j m).2⟩
end
def forD (bind : D → DEnv → Option DEnv) (clr : List Nat) (body : Stm) : List D → Stm
  | [], env => .ok (.nx env)
  | x :: xs, env => must (bind x env) fun e => body e >>= fun fl => match fl with
    | .nx e => must (dropS clr e) fun e => forD bind clr body xs e
    | .ct e => must (dropS clr e) fun e => forD bind clr body xs e
    | .bk e => must (dropS clr e) fun e => .ok (.nx e)
    | .rt d e => must (dropS clr e) fun e => .ok (.rt d e)
def unS (st : List DEnv) : Flw → Out Flw
  | .nx e => .ok (.nx (unlk st e))
  | .rt d e => .ok (.rt d (unlk st e))
  | _ => .bad
def sFor (ops : List Opn) (mk : List D → Option (List D)) (bind : D → DEnv → Option DEnv) (clr : List Nat) (body : Stm) : Stm := fun env => evO ops env >>= fun q => must (mk q.1) fun xs => forD bind clr body xs q.2.2 >>= unS q.2.1
section
variable {G : Gc} {X : Cx} {W : Wsh}
theorem FinS.unl {B Z H B1 Z1 H1 : Hp} {σ : L2.St} {env env1 : DEnv} {P : Addr → Prop} {Fs1 : Nat → List Addr} {st : List DEnv} {o : Out Flw} {En : Ends} (w : Unl G B Z H σ env P B1 Z1 H1 env1 Fs1 (unlk st)) (h : FinS G W B Z H σ env P (o >>= unS st) En) : FinS G W B1 Z1 H1 σ env1 (InF Fs1) o En := by
  unfold FinS at h ⊢
  match o, h with
  | .exc c, h =>
    obtain ⟨F3, s3, _⟩ := w.out _ _ _ _ _ (Stp.refl w.good fun _ m => m)
    exact fun σ' ag H' hs => h σ' ⟨ag.1.trans (w.good.len.trans (s3.good.len.symm.trans s3.ln)), fun j d e => ag.2 j d (unlk_lck st env1 (s3.lk j d e).1)⟩ H' (w.bb.trans hs)
  | .ok (.nx e), h =>
    intro σ' Z' H' Fs' s
    obtain ⟨F3, s3, _⟩ := w.out _ _ _ _ _ s
    exact h σ' Z' H' F3 s3
  | .ok (.rt d e), h =>
    intro σ' v Z' H' Fs' F p
    obtain ⟨F3, s3, h3⟩ := w.out _ _ _ _ _ p.st
    exact h σ' v Z' H' F3 F ⟨s3, p.own, p.nd, fun a m => (h3 a (p.dj a m) (p.fr a m).1).1, fun a m => ⟨(h3 a (p.dj a m) (p.fr a m).1).2, (p.fr a m).2⟩, fun a m => w.hh a (p.new a m)⟩
theorem drop_get {α : Type} {xs : List α} {i : Nat} (h : i < xs.length) : xs.drop i = xs[i] :: xs.drop (i + 1) := List.drop_eq_getElem_cons h
theorem s_for {iter tg : Expr} {g : TG} {body : List Stmt} {pos : Pos} {ops : List Opn} {mk : List D → Option (List D)} {bind : D → DEnv → Option DEnv} {ts : List Nat} {fb : Stm} (clr : List Nat) (dx : DX X G) (hp : PassesOwn (model X.prog X.w) X.A X.env X.xe) (hi : PI X tg iter (TSrc G W ops mk)) (hg : PG X tg g) (hbk : BindOk G ts g bind) (hb : PSs X body (TSt G W fb))
    (hc : ts.all (fun j => clr.contains j) = true := by rfl) (hs : ∀ x, foldedSetIterable iter X.env x = pure x := by intro _; rfl) (hcl : X.calm = true := by rfl) : PS X (.For tg iter body [] pos) (TSt G W (sFor ops mk bind clr fb)) :=
  (ps_for hp hcl hi hg hb hs).imp fun En σ H ⟨B, Z, Fs, env, gd, q⟩ => by
    have hcl : ∀ j, j ∈ ts → j ∈ clr := fun j m => by
      have := List.all_eq_true.mp hc j m
      simpa using this
    refine ⟨B, Z, Fs, env, gd, ?_⟩
    unfold sFor at q
    cases hr : evO ops env with
    | bad => rw [hr] at q; exact q.elim
    | exc c => rw [hr] at q; exact q σ (AgL.refl gd)
    | ok p =>
      obtain ⟨ds, st, env1⟩ := p
      rw [hr] at q
      have q : FinS G W B Z H σ env (InF Fs) (must (mk ds) fun xs => forD bind clr fb xs env1 >>= unS st) En := q
      show ∃ xs, mk ds = some xs ∧ _
      cases hx : mk ds with
      | none => rw [hx] at q; exact q.elim
      | some xs =>
        rw [hx] at q
        refine ⟨xs, rfl, fun B1 Z1 H1 Fs1 J w hj => ?_⟩
        have q1 := FinS.unl w q
        have hy : Same (joi B1 Z1) H1 := joi_le w.good.sb w.good.sz
        refine ⟨fun i m σ' H' => m = xs.length - i ∧ i ≤ xs.length ∧ ∃ Z2 Fs2 e2, Good G B1 Z2 H' σ' e2 Fs2 ∧ Same Z1 Z2 ∧ TK H1 H' ∧ FinS G W B1 Z2 H' σ' e2 (InF Fs2) (forD bind clr fb (xs.drop i) e2) En, ⟨xs.length, rfl, Nat.zero_le _, Z1, Fs1, env1, w.good, Same.refl _, TK.of (Same.refl _), q1⟩, ?_⟩
        rintro i m σ' H' ⟨rfl, hi, Z2, Fs2, e2, g2, z12, tk2, q2⟩
        have y2 : Same (joi B1 Z1) H' := joi_le g2.sb (z12.trans g2.sz)
        obtain ⟨ji, js⟩ := hj i H' y2 tk2
        by_cases hlt : i < xs.length
        · obtain ⟨go, yl⟩ := ji xs[i] (List.getElem?_eq_getElem hlt)
          rw [drop_get hlt] at q2
          refine .inr ⟨go, fun σ' H' => ∃ Z2 Fs2 e2, Good G B1 Z2 H' σ' e2 Fs2 ∧ Same Z1 Z2 ∧ TK H1 H' ∧ FinS G W B1 Z2 H' σ' e2 (InF Fs2) (forD bind clr fb (xs.drop (i + 1)) e2) En, fun σ3 H3 n3 => ⟨xs.length - (i + 1), by omega, rfl, hlt, n3⟩, fun v H3 y3 => ?_⟩
          obtain ⟨hs3, ov⟩ := yl v H3 y3
          have g3 := g2.grow hs3
          have q3 : FinS G W B1 Z2 H3 σ' e2 (InF Fs2) (must (bind xs[i] e2) fun e => fb e >>= fun fl => match fl with
              | .nx e => must (dropS clr e) fun e => forD bind clr fb (xs.drop (i + 1)) e
              | .ct e => must (dropS clr e) fun e => forD bind clr fb (xs.drop (i + 1)) e
              | .bk e => must (dropS clr e) fun e => .ok (.nx e)
              | .rt d e => must (dropS clr e) fun e => .ok (.rt d e)) En := FinS.later (Stp.grow (P := InF Fs2) g2 (fun _ m => m) hs3) (fun a m => .inr m) q2
          cases hbd : bind xs[i] e2 with
          | none => rw [hbd] at q3; exact q3.elim
          | some e4 =>
            rw [hbd, must_some] at q3
            refine hbk B1 Z2 H3 σ' e2 Fs2 xs[i] v e4 _ g3 (Own.keepT (joi_mono (Same.refl B1) z12 g3.sb g3.sz) (TK.of (Same.refl _)) ov) hbd fun σ4 Fs4 b4 => ?_
            refine ⟨B1, Z2, Fs4, e4, b4.good, ?_⟩
            unfold FinS
            cases hfb : fb e4 with
            | bad => rw [hfb] at q3; exact q3.elim
            | exc c => rw [hfb] at q3; exact fun σx ag => q3 σx (b4.ag ag)
            | ok fl =>
              rw [hfb] at q3
              cases fl with
              | nx e5 =>
                intro σ6 Z6 H6 F6 s6
                have q3 : FinS G W B1 Z2 H3 σ' e2 (InF Fs2) (must (dropS clr e5) fun e => forD bind clr fb (xs.drop (i + 1)) e) En := q3
                cases hdr : dropS clr e5 with
                | none => rw [hdr] at q3; exact q3.elim
                | some e7 =>
                  rw [hdr] at q3
                  obtain ⟨F7, s7, _⟩ := b4.stp (P := InF Fs2) (fun _ m => m) s6 hdr hcl
                  exact ⟨Z6, F7, e7, s7.good, z12.trans s7.zz, tk2.trans ((TK.of hs3).trans (s7.tk g3.pm)), FinS.later s7 s7.new q3⟩
              | ct e5 =>
                intro σ6 Z6 H6 F6 s6
                have q3 : FinS G W B1 Z2 H3 σ' e2 (InF Fs2) (must (dropS clr e5) fun e => forD bind clr fb (xs.drop (i + 1)) e) En := q3
                cases hdr : dropS clr e5 with
                | none => rw [hdr] at q3; exact q3.elim
                | some e7 =>
                  rw [hdr] at q3
                  obtain ⟨F7, s7, _⟩ := b4.stp (P := InF Fs2) (fun _ m => m) s6 hdr hcl
                  exact ⟨Z6, F7, e7, s7.good, z12.trans s7.zz, tk2.trans ((TK.of hs3).trans (s7.tk g3.pm)), FinS.later s7 s7.new q3⟩
              | bk e5 =>
                intro σ6 Z6 H6 F6 s6
                have q3 : FinS G W B1 Z2 H3 σ' e2 (InF Fs2) (must (dropS clr e5) fun e => .ok (.nx e)) En := q3
                cases hdr : dropS clr e5 with
                | none => rw [hdr] at q3; exact q3.elim
                | some e7 =>
                  rw [hdr] at q3
                  obtain ⟨F7, s7, _⟩ := b4.stp (P := InF Fs2) (fun _ m => m) s6 hdr hcl
                  exact q3 σ6 Z6 H6 F7 s7
              | rt d e5 =>
                intro σ6 v6 Z6 H6 F6 F p6
                have q3 : FinS G W B1 Z2 H3 σ' e2 (InF Fs2) (must (dropS clr e5) fun e => .ok (.rt d e)) En := q3
                cases hdr : dropS clr e5 with
                | none => rw [hdr] at q3; exact q3.elim
                | some e7 =>
                  rw [hdr] at q3
                  obtain ⟨F7, s7, h7⟩ := b4.stp (P := InF Fs2) (fun _ m => m) p6.st hdr hcl
                  exact q3 σ6 v6 Z6 H6 F7 F ⟨s7, p6.own, p6.nd, fun a m n => p6.dj a m (h7 a n), p6.fr, fun a m => (p6.new a m).imp id (b4.sub a)⟩
        · have e : i = xs.length := by omega
          subst e
          rw [List.drop_length] at q2
          exact .inl ⟨js rfl, q2 σ' Z2 H' Fs2 (Stp.refl g2 fun _ m => m)⟩

def whileN (c : DEnv → Out (Bool × DEnv)) (body : Stm) : Nat → Stm
  | 0, _ => .bad
  | n + 1, env => c env >>= fun p => if p.1 = true then body p.2 >>= fun fl => match fl with
      | .nx e => whileN c body n e
      | .ct e => whileN c body n e
      | .bk e => .ok (.nx e)
      | .rt d e => .ok (.rt d e)
    else .ok (.nx p.2)
open Classical in
/-- what some number of turns comes to -/
noncomputable def sWhile (c : DEnv → Out (Bool × DEnv)) (body : Stm) : Stm := fun env => if h : ∃ n, whileN c body n env ≠ .bad then whileN c body h.choose env else .bad
theorem whileN_mono {c : DEnv → Out (Bool × DEnv)} {body : Stm} : ∀ (n : Nat) (env : DEnv), whileN c body n env ≠ .bad → whileN c body (n + 1) env = whileN c body n env
  | 0, env, h => absurd rfl h
  | n + 1, env, h => by
    have e1 : ∀ k, whileN c body (k + 1) env = (c env >>= fun p => if p.1 = true then body p.2 >>= fun fl => match fl with
      | .nx e => whileN c body k e
      | .ct e => whileN c body k e
      | .bk e => .ok (.nx e)
      | .rt d e => .ok (.rt d e)
    else .ok (.nx p.2)) := fun k => rfl
    rw [e1] at h
    rw [e1 (n + 1), e1 n]
    cases hc : c env with
    | bad => rfl
    | exc x => rfl
    | ok p =>
      rw [hc] at h
      simp only [Out.bind_ok] at h ⊢
      split
      · rename_i hp
        rw [if_pos hp] at h
        cases hb : body p.2 with
        | bad => rfl
        | exc x => rfl
        | ok fl =>
          rw [hb] at h
          cases fl with
          | nx e => exact whileN_mono n e h
          | ct e => exact whileN_mono n e h
          | bk e => rfl
          | rt d e => rfl
      · rfl
theorem whileN_le {c : DEnv → Out (Bool × DEnv)} {body : Stm} {n : Nat} {env : DEnv} (h : whileN c body n env ≠ .bad) : ∀ k, whileN c body (n + k) env = whileN c body n env
  | 0 => rfl
  | k + 1 => by
    have ih := whileN_le h k
    rw [← Nat.add_assoc, whileN_mono _ _ (by rw [ih]; exact h), ih]
theorem sWhile_of {c : DEnv → Out (Bool × DEnv)} {body : Stm} {n : Nat} {env : DEnv} {o : Out Flw} (h : whileN c body n env = o) (ho : o ≠ .bad) : sWhile c body env = o := by
  have hx : ∃ n, whileN c body n env ≠ .bad := ⟨n, by rw [h]; exact ho⟩
  unfold sWhile
  rw [dif_pos hx]
  have h1 := whileN_le (n := n) (env := env) (c := c) (body := body) (by rw [h]; exact ho) hx.choose
  have h2 := whileN_le hx.choose_spec n
  rw [Nat.add_comm] at h2
  rw [← h2, h1, h]
theorem sWhile_ok {c : DEnv → Out (Bool × DEnv)} {body : Stm} {env : DEnv} (h : sWhile c body env ≠ .bad) : ∃ n, whileN c body n env = sWhile c body env := by
  unfold sWhile at h ⊢
  split
  · rename_i hx
    exact ⟨_, rfl⟩
  · rename_i hx
    rw [dif_neg hx] at h
    exact absurd rfl h
theorem s_while {c : Expr} {body : List Stmt} {pos : Pos} {fc : DEnv → Out (Bool × DEnv)} {fb : Stm} (hp : PassesOwn (model X.prog X.w) X.A X.env X.xe) (hcc : PT X c (TB G W fc)) (hb : PSs X body (TSt G W fb)) : PS X (.While c body [] pos) (TSt G W (sWhile fc fb)) :=
  (ps_while hp hcc hb).imp fun En σ H ⟨B, Z, Fs, env, gd, q⟩ => by
    have nb : sWhile fc fb env ≠ .bad := fun e => by rw [e] at q; exact q
    obtain ⟨n, en⟩ := sWhile_ok nb
    rw [← en] at q
    refine ⟨fun m σ' H' => ∃ Z2 Fs2 e2, Good G B Z2 H' σ' e2 Fs2 ∧ FinS G W B Z2 H' σ' e2 (InF Fs2) (whileN fc fb m e2) En, ⟨n, Z, Fs, env, gd, q⟩, ?_⟩
    rintro m σ1 H1 ⟨Z2, Fs2, e2, g2, q2⟩
    cases m with
    | zero => exact q2.elim
    | succ m =>
      refine ⟨B, Z2, Fs2, e2, g2, ?_⟩
      have q2 : FinS G W B Z2 H1 σ1 e2 (InF Fs2) (fc e2 >>= fun p => if p.1 = true then fb p.2 >>= fun fl => match fl with
        | .nx e => whileN fc fb m e
        | .ct e => whileN fc fb m e
        | .bk e => .ok (.nx e)
        | .rt d e => .ok (.rt d e)
      else .ok (.nx p.2)) En := q2
      unfold FinB
      cases hc : fc e2 with
      | bad => rw [hc] at q2; exact q2.elim
      | exc x => rw [hc] at q2; exact q2 σ1 (AgL.refl g2)
      | ok p =>
        obtain ⟨b, e3⟩ := p
        rw [hc] at q2
        simp only [Out.bind_ok] at q2
        intro Z3 H3 Fs3 s3
        cases b with
        | false =>
          rw [if_neg Bool.false_ne_true] at q2 ⊢
          exact q2 σ1 Z3 H3 Fs3 s3
        | true =>
          rw [if_pos rfl] at q2 ⊢
          refine ⟨fun σ' H' => ∃ Z2 Fs2 e2, Good G B Z2 H' σ' e2 Fs2 ∧ FinS G W B Z2 H' σ' e2 (InF Fs2) (whileN fc fb m e2) En, fun σ' H' n' => ⟨m, Nat.lt_succ_self m, n'⟩, ?_⟩
          refine ⟨B, Z3, Fs3, e3, s3.good, ?_⟩
          have q3 := FinS.later s3 s3.new q2
          unfold FinS at q3 ⊢
          cases hb : fb e3 with
          | bad => rw [hb] at q3; exact q3.elim
          | exc x => rw [hb] at q3; exact q3
          | ok fl =>
            rw [hb] at q3
            cases fl with
            | nx e4 => exact fun σ4 Z4 H4 F4 s4 => ⟨Z4, F4, e4, s4.good, FinS.later s4 s4.new q3⟩
            | ct e4 => exact fun σ4 Z4 H4 F4 s4 => ⟨Z4, F4, e4, s4.good, FinS.later s4 s4.new q3⟩
            | bk e4 => exact q3
            | rt d e4 => exact q3
end
end DL
namespace DL
open PySem PySem.Spec PyProof.Rows L2
def hid? (i : Nat) (env : DEnv) : Bool := match env[i]? with
  | some none => true
  | some (some (.own, d)) => d.pure
  | _ => false
/-- the block's own slots put aside -/
def hideS : List Nat → DEnv → Option DEnv
  | [], env => some env
  | v :: r, env => match hideS r env with
    | some e => if hid? v e = true then some (e.set v none) else none
    | none => none
/-- .. and back -/
def backS : List Nat → DEnv → DEnv → DEnv
  | [], _, e => e
  | v :: r, env0, e => (backS r env0 e).set v (env0[v]?.getD none)
def lcG (bind : D → DEnv → Option DEnv) (cond : DEnv → Out (Bool × DEnv)) (elt : DEnv → Out (D × DEnv)) (clr : List Nat) : List D → DEnv → Out (List D × DEnv)
  | [], env => .ok ([], env)
  | x :: xs, env => must (bind x env) fun e => cond e >>= fun p => if p.1 = true then elt p.2 >>= fun q => must (dropS clr q.2) fun e2 => lcG bind cond elt clr xs e2 >>= fun r => .ok (q.1 :: r.1, r.2)
      else must (dropS clr p.2) fun e2 => lcG bind cond elt clr xs e2
def noEx {α : Type} (o : Out α) : Option α := match o with
  | .ok a => some a
  | _ => none
theorem noEx_some {α : Type} {o : Out α} {a : α} (h : noEx o = some a) : o = .ok a := by
  cases o with
  | ok b => cases h; rfl
  | exc c => cases h
  | bad => cases h
def lcE (ops : List Opn) (mk : List D → Option (List D)) (bind : D → DEnv → Option DEnv) (cond : DEnv → Out (Bool × DEnv)) (elt : DEnv → Out (D × DEnv)) (vs : List Nat) : DEnv → Out (D × DEnv) := fun env =>
  evO ops env >>= fun q => must (mk q.1) fun xs => must (hideS vs q.2.2) fun e0 => if xs.length < 16777216 then must (noEx (lcG bind cond elt vs xs e0)) fun r => .ok (.lst r.1, unlk q.2.1 (backS vs q.2.2 r.2)) else .bad
def eYes : DEnv → Out (Bool × DEnv) := fun env => .ok (true, env)

section
variable {G : Gc} {B Z H Z2 H2 : Hp} {σ σ2 : L2.St} {env e0 e2 : DEnv} {Fs F2 : Nat → List Addr} {P : Addr → Prop}
theorem set_self {α : Type} {l : List α} {i : Nat} {a : α} : ∀ j, (l.set i a)[j]? = if i = j then (if j < l.length then some a else none) else l[j]? := fun j => by
  by_cases h : i = j
  · subst h
    rw [if_pos rfl, List.getElem?_set_self']
    by_cases hl : i < l.length
    · rw [if_pos hl, List.getElem?_eq_getElem hl]; rfl
    · rw [if_neg hl, List.getElem?_eq_none (by omega)]; rfl
  · rw [if_neg h, List.getElem?_set_ne h]
theorem wipe_at : ∀ (vs : List Nat) (σ : L2.St) (j : Nat), (wipe σ vs)[j]? = if j ∈ vs then (if j < σ.length then some none else none) else σ[j]?
  | [], σ, j => by simp [wipe]
  | v :: vs, σ, j => by
    have ih := wipe_at vs σ j
    show ((wipe σ vs).set v none)[j]? = _
    rw [set_self, wipe_length]
    by_cases h : v = j
    · subst h
      rw [if_pos rfl, if_pos List.mem_cons_self]
    · rw [if_neg h, ih]
      by_cases m : j ∈ vs
      · rw [if_pos m, if_pos (List.mem_cons_of_mem _ m)]
      · rw [if_neg m, if_neg (by simp only [List.mem_cons, not_or]; exact ⟨fun z => h z.symm, m⟩)]
theorem wipe_ext {vs : List Nat} {σ σ1 : L2.St} (hl : σ1.length = σ.length) (h : ∀ j, j ∉ vs → σ1[j]? = σ[j]?) : wipe σ1 vs = wipe σ vs := by
  apply List.ext_getElem?
  intro j
  rw [wipe_at, wipe_at, hl]
  split
  · rfl
  · rename_i m; exact h j m
theorem hideS_at : ∀ {vs : List Nat} {env e0 : DEnv}, hideS vs env = some e0 → e0.length = env.length ∧ (∀ j, j ∉ vs → e0[j]? = env[j]?) ∧ (∀ j, j ∈ vs → e0[j]? = some none ∧ (env[j]? = some none ∨ ∃ d, env[j]? = some (some (Md.own, d)) ∧ d.pure = true))
  | [], env, e0, h => by
    cases h
    exact ⟨rfl, fun _ _ => rfl, fun j m => (by cases m)⟩
  | v :: r, env, e0, h => by
    unfold hideS at h
    cases he : hideS r env with
    | none => rw [he] at h; cases h
    | some e =>
      rw [he] at h
      obtain ⟨h1, h2, h3⟩ := hideS_at he
      by_cases hh : hid? v e = true
      · have h : (if hid? v e = true then some (e.set v none) else none) = some e0 := h
        rw [if_pos hh] at h
        cases h
        have hv : e[v]? = some none ∨ ∃ d, e[v]? = some (some (Md.own, d)) ∧ d.pure = true := by
          unfold hid? at hh
          cases q : e[v]? with
          | none => rw [q] at hh; cases hh
          | some s =>
            rw [q] at hh
            match s, hh with
            | none, _ => exact .inl rfl
            | some (.own, d), hh => exact .inr ⟨d, rfl, hh⟩
        have hvl : v < e.length := by
          rcases hv with z | ⟨d, z, _⟩
          · exact (List.getElem?_eq_some_iff.mp z).1
          · exact (List.getElem?_eq_some_iff.mp z).1
        refine ⟨by rw [List.length_set, h1], fun j hj => ?_, fun j hj => ?_⟩
        · have hj : j ≠ v ∧ j ∉ r := by simpa using hj
          rw [List.getElem?_set_ne (fun z => hj.1 z.symm), h2 j hj.2]
        · by_cases hjv : v = j
          · subst hjv
            refine ⟨List.getElem?_set_self hvl, ?_⟩
            by_cases hr : v ∈ r
            · exact (h3 v hr).2
            · rw [h2 v hr] at hv; exact hv
          · rcases List.mem_cons.mp hj with z | hj
            · exact absurd z.symm hjv
            · exact ⟨by rw [List.getElem?_set_ne hjv]; exact (h3 j hj).1, (h3 j hj).2⟩
      · have h : (if hid? v e = true then some (e.set v none) else none) = some e0 := h
        rw [if_neg hh] at h
        cases h
theorem backS_len : ∀ (vs : List Nat) (env0 e : DEnv), (backS vs env0 e).length = e.length
  | [], _, _ => rfl
  | v :: r, env0, e => by
    show ((backS r env0 e).set v _).length = _
    rw [List.length_set, backS_len]
theorem backS_at : ∀ (vs : List Nat) (env0 e : DEnv) (j : Nat), (backS vs env0 e)[j]? = if j ∈ vs then (if j < e.length then some (env0[j]?.getD none) else none) else e[j]?
  | [], env0, e, j => by simp [backS]
  | v :: r, env0, e, j => by
    have ih := backS_at r env0 e j
    show ((backS r env0 e).set v _)[j]? = _
    rw [set_self, backS_len]
    by_cases h : v = j
    · subst h
      rw [if_pos rfl, if_pos List.mem_cons_self]
    · rw [if_neg h, ih]
      by_cases m : j ∈ r
      · rw [if_pos m, if_pos (List.mem_cons_of_mem _ m)]
      · rw [if_neg m, if_neg (by simp only [List.mem_cons, not_or]; exact ⟨fun z => h z.symm, m⟩)]
theorem Good.hide {vs : List Nat} (g : Good G B Z H σ env Fs) (h : hideS vs env = some e0) : Good G B Z H (wipe σ vs) e0 Fs := by
  obtain ⟨h1, h2, h3⟩ := hideS_at h
  refine ⟨g.sb, g.sz, by rw [h1, wipe_length]; exact g.len, fun j => ?_, g.nd, g.dj, g.fr, g.z0, g.gb⟩
  rw [wipe_at]
  by_cases m : j ∈ vs
  · rw [(h3 j m).1]
    have q := g.sl j
    rcases (h3 j m).2 with z | ⟨d, z, hp⟩
    · rw [z] at q; exact q
    · rw [z] at q
      obtain ⟨v, _, ho⟩ := q
      exact (Own.ofPure (Z' := Z) d v _ hp ho).1
  · rw [if_neg m, h2 j m]
    exact g.sl j
/-- slots of which nothing is known: the names may point anywhere -/
theorem Stp.wipeEnd {vs : List Nat} {e3 : DEnv} {F3 : Nat → List Addr} (s : Stp G B Z H σ env P Z2 H2 σ2 e3 F3) (hv : ∀ v, v ∈ vs → ∀ t : Md × D, e3[v]? ≠ some (some t)) : Stp G B Z H σ env P Z2 H2 (wipe σ2 vs) e3 F3 := by
  have g := s.good
  have out : ∀ j (t : Md × D), e3[j]? = some (some t) → (wipe σ2 vs)[j]? = σ2[j]? := fun j t e => by
    rw [wipe_at, if_neg fun m => hv j m t e]
  refine ⟨s.zz, s.ext, ⟨g.sb, g.sz, by rw [wipe_length]; exact g.len, fun j => ?_, g.nd, g.dj, g.fr, g.z0, g.gb⟩, s.new, s.newz, fun j d e => ?_, fun j d e => ?_, fun j d e => ?_, fun j d e => ?_, s.ln⟩
  · have q := g.sl j
    cases he : e3[j]? with
    | none => rw [he] at q; exact q
    | some t =>
      cases t with
      | none => rw [he] at q; exact q
      | some t => rw [out j t he, ← he]; exact q
  · obtain ⟨⟨d', q⟩, z⟩ := s.io j d e
    exact ⟨⟨d', q⟩, (out j _ q).trans z⟩
  · obtain ⟨q, z⟩ := s.lk j d e
    exact ⟨q, (out j _ q).trans z⟩
  · obtain ⟨q, z⟩ := s.bw j d e
    exact ⟨q, (out j _ e).trans z⟩
  · obtain ⟨q, z⟩ := s.lb j d e
    exact ⟨q, (out j _ e).trans z⟩
/-- what a block did, seen from outside -/
theorem Stp.back {vs : List Nat} (g : Good G B Z H σ env Fs) (pm : PMut H P) (h : hideS vs env = some e0) (s : Stp G B Z H (wipe σ vs) e0 P Z2 H2 (wipe σ vs) e2 F2) (hv : ∀ v, v ∈ vs → ∀ t : Md × D, e2[v]? ≠ some (some t)) : Stp G B Z H σ env P Z2 H2 σ (backS vs env e2) F2 := by
  obtain ⟨h1, h2, h3⟩ := hideS_at h
  have gl := s.good
  have le : e2.length = env.length := s.ln.trans h1
  have at_out : ∀ j, j ∉ vs → (backS vs env e2)[j]? = e2[j]? := fun j m => by rw [backS_at, if_neg m]
  have at_in : ∀ j, j ∈ vs → (backS vs env e2)[j]? = env[j]? := fun j m => by
    have hj : j < env.length := by
      rcases (h3 j m).2 with z | ⟨d, z, _⟩
      · exact (List.getElem?_eq_some_iff.mp z).1
      · exact (List.getElem?_eq_some_iff.mp z).1
    rw [backS_at, if_pos m, if_pos (by rw [le]; exact hj), List.getElem?_eq_getElem hj]
    rfl
  have nio : ∀ j, j ∈ vs → ∀ (m : Md) (d : D), m ≠ .own → env[j]? ≠ some (some (m, d)) := fun j hj m d hm e => by
    rcases (h3 j hj).2 with z | ⟨d', z, _⟩
    · rw [z] at e; cases e
    · rw [z] at e; cases e; exact hm rfl
  have wo : ∀ j, j ∉ vs → (wipe σ vs)[j]? = σ[j]? := fun j m => by rw [wipe_at, if_neg m]
  refine ⟨s.zz, s.ext, ⟨gl.sb, gl.sz, by rw [backS_len, le]; exact g.len, fun j => ?_, gl.nd, gl.dj, gl.fr, gl.z0, gl.gb⟩, s.new, s.newz, fun j d e => ?_, fun j d e => ?_, fun j d e => ?_, fun j d e => ?_, by rw [backS_len, le]⟩
  · by_cases m : j ∈ vs
    · rw [at_in j m]
      have f0 : F2 j = [] := by
        have q := gl.sl j
        cases he : e2[j]? with
        | none => rw [he] at q; exact q
        | some t =>
          cases t with
          | none => rw [he] at q; exact q
          | some t => exact absurd he (hv j m t)
      rw [f0]
      have q := g.sl j
      rcases (h3 j m).2 with z | ⟨d, z, hp⟩
      · rw [z]; rfl
      · rw [z] at q ⊢
        obtain ⟨v, ev, ho⟩ := q
        exact ⟨v, ev, Own.keepT (Same.refl _) (s.tk pm) (Own.ofPure (Z' := Z2) d v _ hp ho).2⟩
    · rw [at_out j m, ← wo j m]
      exact gl.sl j
  · by_cases m : j ∈ vs
    · exact absurd e (nio j m _ d (by decide))
    · obtain ⟨⟨d', q⟩, z⟩ := s.io j d (by rw [h2 j m]; exact e)
      exact ⟨⟨d', by rw [at_out j m]; exact q⟩, rfl⟩
  · by_cases m : j ∈ vs
    · exact absurd e (nio j m _ d (by decide))
    · obtain ⟨q, z⟩ := s.lk j d (by rw [h2 j m]; exact e)
      exact ⟨by rw [at_out j m]; exact q, rfl⟩
  · by_cases m : j ∈ vs
    · rw [at_in j m] at e
      exact absurd e (nio j m _ d (by decide))
    · rw [at_out j m] at e
      obtain ⟨q, z⟩ := s.bw j d e
      exact ⟨by rw [← h2 j m]; exact q, rfl⟩
  · by_cases m : j ∈ vs
    · rw [at_in j m] at e
      exact absurd e (nio j m _ d (by decide))
    · rw [at_out j m] at e
      obtain ⟨q, z⟩ := s.lb j d e
      exact ⟨by rw [← h2 j m]; exact q, rfl⟩
/-- a thing of nobody's is written -/
theorem Stp.priv {a : Addr} {ws : List V} {o : HO} (s : Stp G B Z H σ env P Z2 H2 σ2 e2 F2) (g : Same B H) (hn : H a = none) (hf : ¬ InF F2 a) (ha : H2 a = some (.lst ws)) : Stp G B Z H σ env P Z2 (upd H2 a o) σ2 e2 F2 := by
  have gl := s.good
  have bn : B a = none := by
    cases q : B a with
    | none => rfl
    | some u =>
      have := g a u q
      rw [hn] at this; cases this
  have sb : Same B (upd H2 a o) := fun b u e => by
    rw [upd_ne (fun z => by rw [z, bn] at e; cases e)]
    exact gl.sb b u e
  have sz : Same Z2 (upd H2 a o) := fun b u e => by rw [gl.z0] at e; cases e
  refine ⟨s.zz, fun b u e n => ?_, ⟨sb, sz, gl.len, fun j => (gl.sl j).keep gl.sb gl.sz sb sz (Same.refl _) fun b u e m => ?_, gl.nd, gl.dj, gl.fr, gl.z0, gl.gb⟩, s.new, s.newz, s.io, s.lk, s.bw, s.lb, s.ln⟩
  · rw [upd_ne (fun z => by rw [z, hn] at e; cases e)]
    exact s.ext b u e n
  · rw [upd_ne (fun z => ?_)]
    · exact e
    · rw [z] at m e
      rcases m with m | nm
      · exact hf ⟨j, m⟩
      · rw [ha] at e; cases e; exact nm trivial
theorem OwnL.priv {a : Addr} {ws : List V} {o : HO} {ds : List D} {vs : List V} {F : List Addr} (h : OwnL G Z H ds vs F) (hf : a ∉ F) (ha : H a = some (.lst ws)) : OwnL G Z (upd H a o) ds vs F :=
  OwnL.keep (Same.refl Z) ds vs F (fun b u e m => by
    rw [upd_ne (fun z => ?_)]
    · exact e
    · rw [z] at m e
      rcases m with m | nm
      · exact hf m
      · rw [ha] at e; cases e; exact nm trivial) h
theorem Own.priv {a : Addr} {ws : List V} {o : HO} {d : D} {v : V} {F : List Addr} (h : Own G Z H d v F) (hf : a ∉ F) (ha : H a = some (.lst ws)) : Own G Z (upd H a o) d v F :=
  Own.keep (Same.refl Z) d v F (fun b u e m => by
    rw [upd_ne (fun z => ?_)]
    · exact e
    · rw [z] at m e
      rcases m with m | nm
      · exact hf m
      · rw [ha] at e; cases e; exact nm trivial) h
end
abbrev Wno : Wsh := fun _ _ _ => False
/-- in the midst of a comprehension: D the new list -/
structure Mid (G : Gc) (B Z H : Hp) (σw : L2.St) (e0 : DEnv) (Fs : Nat → List Addr) (vs : List Nat) (a : Addr) (Z2 H2 : Hp) (e2 : DEnv) (F2 : Nat → List Addr) (acc : List V) (ds : List D) (FA : List Addr) : Prop where
  st : Stp G B Z H σw e0 (InF Fs) Z2 H2 σw e2 F2
  nn : ∀ v, v ∈ vs → ∀ t : Md × D, e2[v]? ≠ some (some t)
  at_ : H2 a = some (.lst acc)
  own : OwnL G Z2 H2 ds acc FA
  nd : FA.Nodup
  dj : ∀ b, b ∈ FA → ¬ InF F2 b ∧ B b = none ∧ (H b = none ∨ InF Fs b)
  na : a ∉ FA
  ni : ¬ InF F2 a
section
variable {G : Gc} {B Z H Z2 H2 : Hp} {σw : L2.St} {e0 e2 : DEnv} {Fs F2 : Nat → List Addr} {vs : List Nat} {a : Addr} {acc : List V} {ds : List D} {FA : List Addr}
/-- a turn on: what is at hand stays -/
theorem Mid.on {Z3 H3 : Hp} {e3 : DEnv} {F3 : Nat → List Addr} (m : Mid G B Z H σw e0 Fs vs a Z2 H2 e2 F2 acc ds FA) (s : Stp G B Z2 H2 σw e2 (InF F2) Z3 H3 σw e3 F3) (hn : ∀ v, v ∈ vs → ∀ t : Md × D, e3[v]? ≠ some (some t)) : Mid G B Z H σw e0 Fs vs a Z3 H3 e3 F3 acc ds FA := by
  have pm := m.st.good.pm
  have stay : ∀ b, ¬ InF F2 b → (∃ o, H2 b = some o) → ¬ InF F3 b := fun b n ⟨o, e⟩ z => by
    rcases s.new b z with q | q
    · rw [e] at q; cases q
    · exact n q
  refine ⟨m.st.trans m.st.new s, hn, s.ext a _ m.at_ m.ni, OwnL.keep s.zz _ _ _ (fun b u e z => s.ext b u e ?_) m.own, m.nd, fun b z => ⟨stay b (m.dj b z).1 ?_, (m.dj b z).2⟩, m.na, stay a m.ni ⟨_, m.at_⟩⟩
  · rcases z with z | nm
    · exact (m.dj b z).1
    · exact pm.tup e nm
  · obtain ⟨o, e, _⟩ := OwnL.dom _ _ _ m.own b z
    exact ⟨o, e⟩
/-- an item more -/
theorem Mid.app {d : D} {v : V} {F : List Addr} (m : Mid G B Z H σw e0 Fs vs a Z2 H2 e2 F2 acc ds FA) (g : Same B H) (hn : H a = none) (ho : Own G Z2 H2 d v F) (nd : F.Nodup) (dj : ∀ b, b ∈ F → ¬ InF F2 b ∧ B b = none ∧ (H b = none ∨ InF Fs b)) (nA : ∀ b, b ∈ F → b ∉ FA ∧ b ≠ a) :
    Mid G B Z H σw e0 Fs vs a Z2 (upd H2 a (.lst (acc ++ [v]))) e2 F2 (acc ++ [v]) (ds ++ [d]) (FA ++ F) := by
  refine ⟨m.st.priv g hn m.ni m.at_, m.nn, upd_same, OwnL.append (m.own.priv m.na m.at_) ⟨v, [], F, [], rfl, by simp, ho.priv (fun z => (nA a z).2 rfl) m.at_, rfl, rfl⟩, List.nodup_append.mpr ⟨m.nd, nd, fun b z c y e => ?_⟩, fun b z => ?_, fun z => ?_, m.ni⟩
  · subst e; exact (nA b y).1 z
  · rcases List.mem_append.mp z with z | z
    · exact m.dj b z
    · exact dj b z
  · rcases List.mem_append.mp z with z | z
    · exact m.na z
    · exact (nA a z).2 rfl
variable {W : Wsh} {X : Cx}
theorem lc_run {σ : L2.St} {Q : VK} {ops : List Opn} {mk : List D → Option (List D)} {bind : D → DEnv → Option DEnv} {cond : DEnv → Out (Bool × DEnv)} {elt : DEnv → Out (D × DEnv)} {ts : List Nat} {g : TG} (hbk : BindOk G ts g bind) (hcl : ∀ j, j ∈ ts → j ∈ vs)
    (h : TV G W (lcE ops mk bind cond elt vs) σ H Q) : tLc (TSrc G W ops mk) g (TB G Wno cond) (TV G Wno elt) vs σ H Q := by
  obtain ⟨B, Z, Fs, env, gd, q⟩ := h
  refine ⟨B, Z, Fs, env, gd, ?_⟩
  unfold lcE at q
  cases hr : evO ops env with
  | bad => rw [hr] at q; exact q.elim
  | exc c => rw [hr] at q; exact q
  | ok p =>
    obtain ⟨ds0, st, env1⟩ := p
    rw [hr] at q
    simp only [Out.bind_ok] at q
    show ∃ xs, mk ds0 = some xs ∧ _
    cases hx : mk ds0 with
    | none => rw [hx] at q; exact q.elim
    | some xs =>
      rw [hx, must_some] at q
      cases hh : hideS vs env1 with
      | none => rw [hh] at q; exact q.elim
      | some e0 =>
        rw [hh, must_some] at q
        by_cases hlen : xs.length < 16777216
        · rw [if_pos hlen] at q
          cases hl : noEx (lcG bind cond elt vs xs e0) with
          | none => rw [hl] at q; exact q.elim
          | some r =>
            rw [hl, must_some] at q
            obtain ⟨rs, eN⟩ := r
            have hl := noEx_some hl
            refine ⟨xs, rfl, fun B1 Z1 H1 Fs1 J w hj a han => ?_⟩
            have g1 := w.good
            have gh := g1.hide hh
            have hsl : Same B1 H1 := g1.sb
            have b1a : B1 a = none := by
              cases z : B1 a with
              | none => rfl
              | some u =>
                have := hsl a u z
                rw [han] at this; cases this
            have ha0 := (hideS_at hh).2.2
            have m0 : Mid G B1 Z1 H1 (wipe σ vs) e0 Fs1 vs a Z1 (upd H1 a (.lst [])) e0 Fs1 [] [] [] := by
              refine ⟨Stp.grow gh (fun _ m => m) (same_upd han), fun v m t e => ?_, upd_same, ⟨rfl, rfl⟩, List.nodup_nil, fun b z => (by cases z), (by simp), fun z => ?_⟩
              · rw [(ha0 v m).1] at e; cases e
              · obtain ⟨o, e, _⟩ := g1.dom z
                rw [han] at e; cases e
            refine ⟨fun i m H' => m = xs.length - i ∧ i ≤ xs.length ∧ ∃ Z2 Fs2 e2 acc ds FA rest, Mid G B1 Z1 H1 (wipe σ vs) e0 Fs1 vs a Z2 H' e2 Fs2 acc ds FA ∧ ds.length ≤ i ∧ lcG bind cond elt vs (xs.drop i) e2 = .ok (rest, eN) ∧ rs = ds ++ rest, ⟨xs.length, rfl, Nat.zero_le _, Z1, Fs1, e0, [], [], [], rs, m0, Nat.le_refl _, hl, rfl⟩, ?_⟩
            rintro i m H' ⟨rfl, hi, Z2, Fs2, e2, acc, ds, FA, rest, mid, hdl, hrun, hrs⟩
            have g2 := mid.st.good
            have y2 : Same (joi B1 Z1) H' := joi_le g2.sb (mid.st.zz.trans g2.sz)
            have t2 : TK H1 H' := mid.st.tk gh.pm
            obtain ⟨ji, js⟩ := hj i H' y2 t2
            by_cases hlt : i < xs.length
            · obtain ⟨go, yl⟩ := ji xs[i] (List.getElem?_eq_getElem hlt)
              rw [drop_get hlt] at hrun
              refine .inr ⟨go, fun H' => ∃ Z2 Fs2 e2 acc ds FA rest, Mid G B1 Z1 H1 (wipe σ vs) e0 Fs1 vs a Z2 H' e2 Fs2 acc ds FA ∧ ds.length ≤ i + 1 ∧ lcG bind cond elt vs (xs.drop (i + 1)) e2 = .ok (rest, eN) ∧ rs = ds ++ rest, fun H3 n3 => ⟨xs.length - (i + 1), by omega, rfl, hlt, n3⟩, fun v H3 y3 => ?_⟩
              obtain ⟨hs3, ov⟩ := yl v H3 y3
              have mid3 := mid.on (Stp.grow g2 (fun _ m => m) hs3) mid.nn
              have g3 := mid3.st.good
              have hrun : (must (bind xs[i] e2) fun e => cond e >>= fun p => if p.1 = true then elt p.2 >>= fun q => must (dropS vs q.2) fun e2 => lcG bind cond elt vs (xs.drop (i + 1)) e2 >>= fun r => .ok (q.1 :: r.1, r.2)
                else must (dropS vs p.2) fun e2 => lcG bind cond elt vs (xs.drop (i + 1)) e2) = .ok (rest, eN) := hrun
              cases hbd : bind xs[i] e2 with
              | none => rw [hbd] at hrun; cases hrun
              | some e4 =>
                rw [hbd, must_some] at hrun
                refine hbk B1 Z2 H3 _ e2 Fs2 xs[i] v e4 _ g3 (Own.keepT (joi_mono (Same.refl B1) mid.st.zz g3.sb g3.sz) (TK.of (Same.refl _)) ov) hbd fun σ4 Fs4 b4 => ?_
                have ww : wipe σ4 vs = wipe σ vs := by
                  have l4 : σ4.length = (wipe σ vs).length := by rw [← b4.good.len, b4.ln, g3.len]
                  rw [wipe_ext l4 fun j hj => (b4.at_ j fun z => hj (hcl j z)).2]
                  exact wipe_ext (wipe_length _ _) fun j hj => by rw [wipe_at, if_neg hj]
                refine ⟨ww, B1, Z2, Fs4, e4, b4.good, ?_⟩
                unfold FinB
                cases hcd : cond e4 with
                | bad => rw [hcd] at hrun; cases hrun
                | exc c => rw [hcd] at hrun; cases hrun
                | ok p =>
                  obtain ⟨b, e5⟩ := p
                  rw [hcd] at hrun
                  simp only [Out.bind_ok] at hrun
                  intro Z5 H5 Fs5 s5
                  cases b with
                  | false =>
                    rw [if_neg Bool.false_ne_true] at hrun ⊢
                    cases hdr : dropS vs e5 with
                    | none => rw [hdr] at hrun; cases hrun
                    | some e7 =>
                      rw [hdr, must_some] at hrun
                      obtain ⟨F7, s7, _⟩ := b4.stp (P := InF Fs2) (fun _ m => m) s5 hdr hcl
                      have n7 := (dropS_at hdr).2.2.1
                      have s7' := s7.wipeEnd (vs := vs) fun v m t => n7 v t m
                      rw [ww] at s7'
                      exact ⟨Z5, F7, e7, acc, ds, FA, rest, mid3.on s7' fun v m t => n7 v t m, Nat.le_succ_of_le hdl, hrun, hrs⟩
                  | true =>
                    rw [if_pos rfl] at hrun ⊢
                    refine ⟨B1, Z5, Fs5, e5, s5.good, ?_⟩
                    unfold FinV
                    cases hel : elt e5 with
                    | bad => rw [hel] at hrun; cases hrun
                    | exc c => rw [hel] at hrun; cases hrun
                    | ok p =>
                      obtain ⟨d, e6⟩ := p
                      rw [hel] at hrun
                      simp only [Out.bind_ok] at hrun
                      cases hdr : dropS vs e6 with
                      | none => rw [hdr] at hrun; cases hrun
                      | some e7 =>
                        rw [hdr, must_some] at hrun
                        intro v6 Z6 H6 Fs6 F6 p6
                        have s6 := s5.trans s5.new p6.st
                        obtain ⟨F7, s7, h7⟩ := b4.stp (P := InF Fs2) (fun _ m => m) s6 hdr hcl
                        have n7 := (dropS_at hdr).2.2.1
                        have s7' := s7.wipeEnd (vs := vs) fun v m t => n7 v t m
                        rw [ww] at s7'
                        have mid7 := mid3.on s7' fun v m t => n7 v t m
                        have l6 : acc.length = ds.length := OwnL.length mid7.own
                        cases hrl : lcG bind cond elt vs (xs.drop (i + 1)) e7 with
                        | bad => rw [hrl] at hrun; cases hrun
                        | exc c => rw [hrl] at hrun; cases hrun
                        | ok r2 =>
                          obtain ⟨rest2, eM⟩ := r2
                          rw [hrl] at hrun
                          cases hrun
                          -- where the item's nodes come from
                          have newF : ∀ b, b ∈ F6 → H3 b = none ∨ InF Fs2 b := fun b z => by
                            rcases p6.new b z with z | z
                            · cases q5 : H3 b with
                              | none => exact .inl rfl
                              | some o =>
                                refine .inr ?_
                                by_cases n : InF Fs4 b
                                · exact b4.sub b n
                                · have := s5.ext b o q5 n
                                  rw [z] at this; cases this
                            · exact (s5.new b z).imp id (b4.sub b)
                          refine ⟨acc, mid7.at_, by rw [l6, ← size_line]; omega, Z6, F7, e7, acc ++ [v6], ds ++ [d], FA ++ F6, rest2, mid7.app hsl han p6.one p6.nd (fun b z => ⟨fun y => p6.dj b z (h7 b y), (p6.fr b z).1, ?_⟩) (fun b z => ?_), by rw [List.length_append, List.length_singleton]; omega, hrl, by rw [hrs, List.append_assoc]; rfl⟩
                          · rcases newF b z with y | y
                            · cases q1 : H1 b with
                              | none => exact .inl rfl
                              | some o =>
                                refine .inr ?_
                                by_cases n : InF Fs1 b
                                · exact n
                                · have := mid3.st.ext b o q1 n
                                  rw [y] at this; cases this
                            · exact mid.st.new b y
                          · refine ⟨fun y => ?_, fun y => ?_⟩
                            · obtain ⟨o, e, _⟩ := OwnL.dom _ _ _ mid3.own b y
                              rcases newF b z with x | x
                              · rw [e] at x; cases x
                              · exact (mid.dj b y).1 x
                            · subst y
                              rcases newF b z with x | x
                              · rw [mid3.at_] at x; cases x
                              · exact mid.ni x
            · have e : i = xs.length := by omega
              subst e
              rw [List.drop_length] at hrun
              cases hrun
              refine .inl ⟨js rfl, ?_⟩
              have s9 := mid.st.back g1 g1.pm hh mid.nn
              obtain ⟨F3, s3, h3⟩ := w.out _ _ _ _ _ s9
              rw [List.append_nil] at hrs
              subst hrs
              refine q (.ref a) Z2 H' F3 (a :: FA) ⟨s3, ⟨.ref a, [], a :: FA, [], rfl, by simp, ⟨a, acc, FA, rfl, .inr ⟨rfl, mid.at_⟩, mid.own⟩, rfl, rfl⟩, List.nodup_cons.mpr ⟨mid.na, mid.nd⟩, fun b m => ?_, fun b m => ?_, fun b m => ?_⟩
              · rcases List.mem_cons.mp m with rfl | m
                · exact (h3 _ mid.ni b1a).1
                · exact (h3 _ (mid.dj b m).1 (mid.dj b m).2.1).1
              · rcases List.mem_cons.mp m with rfl | m
                · exact ⟨(h3 _ mid.ni b1a).2, g2.z0 _⟩
                · exact ⟨(h3 _ (mid.dj b m).1 (mid.dj b m).2.1).2, g2.z0 _⟩
              · rcases List.mem_cons.mp m with rfl | m
                · exact w.hh _ (.inl han)
                · exact w.hh _ (mid.dj b m).2.2
        · rw [if_neg hlen] at q
          exact q.elim
end
section
variable {G : Gc} {W : Wsh} {X : Cx} {ops : List Opn} {mk : List D → Option (List D)} {bind : D → DEnv → Option DEnv} {cond : DEnv → Out (Bool × DEnv)} {eltf : DEnv → Out (D × DEnv)} {ts : List Nat} {g : TG} {elt tg iter : Expr} {ifs : List Expr} {scope : Scope} {own : List (Str × Nat)} {pos : Pos}
theorem _root_.L2.PTs.imp {X : Cx} {e : List Expr} {t t' : TT} (h : PTs X e t) (i : ∀ σ H Q, t' σ H Q → t σ H Q) : PTs X e t' := ⟨fun pins s σ H Q I hq => h.run pins s σ H Q I (i σ H Q hq)⟩
theorem ts_nil : PTs X [] (TB G W eYes) := pts_nil.imp fun σ H Q ⟨B, Z, Fs, env, gd, q⟩ => q Z H Fs (Stp.refl gd fun _ m => m)
theorem e_lc (dx : DX X G) (hi : PI X tg iter (TSrc G W ops mk)) (ok : BlkOk X.N X.env.scope scope own) (hbk : BindOk G ts g bind)
    (hg : ∀ (s : Shared) (H : Hp) (C : Addr) (cl : List (Str × Addr)) (fp : List Addr), PG (X.blk s H scope (compEnvC scope cl C X.env) fp) tg g) (ht : ∀ (s : Shared) (H : Hp) (C : Addr) (cl : List (Str × Addr)) (fp : List Addr), PTs (X.blk s H scope (compEnvC scope cl C X.env) fp) ifs (TB G Wno cond))
    (he : ∀ (s : Shared) (H : Hp) (C : Addr) (cl : List (Str × Addr)) (fp : List Addr), PE (X.blk s H scope (compEnvC scope cl C X.env) fp) elt (TV G Wno eltf)) (hc : ts.all (fun j => (own.map (·.2)).contains j) = true := by rfl) (hs : ∀ x, foldedSetIterable iter X.env x = pure x := by intro _; rfl) (hcl : X.calm = true := by rfl) :
    PE X (.ListComp elt [⟨tg, iter, ifs, 0⟩] scope pos) (TV G W (lcE ops mk bind cond eltf (own.map (·.2)))) :=
  (pe_lc hcl dx.nd hi ok hg ht he hs).imp fun σ H Q h => lc_run hbk (fun j m => by simpa using List.all_eq_true.mp hc j m) h
theorem s_setLc {i : Nat} {y : Str} {py spos : Pos} (dx : DX X G) (hy : X.N[i]? = some y) (hyl : X.env.scope.names.lookup y = some .local) (hsw : swapsWith (.ListComp elt [⟨tg, iter, ifs, 0⟩] scope pos) (some (.Name y py)) spos.line X.env = pure true)
    (hi : PI X tg iter (TSrc G W ops mk)) (ok : BlkOk X.N X.env.scope scope own) (hbk : BindOk G ts g bind)
    (hg : ∀ (s : Shared) (H : Hp) (C : Addr) (cl : List (Str × Addr)) (fp : List Addr), PG (X.blk s H scope (compEnvC scope cl C X.env) fp) tg g) (ht : ∀ (s : Shared) (H : Hp) (C : Addr) (cl : List (Str × Addr)) (fp : List Addr), PTs (X.blk s H scope (compEnvC scope cl C X.env) fp) ifs (TB G Wno cond))
    (he : ∀ (s : Shared) (H : Hp) (C : Addr) (cl : List (Str × Addr)) (fp : List Addr), PE (X.blk s H scope (compEnvC scope cl C X.env) fp) elt (TV G Wno eltf)) (hc : ts.all (fun j => (own.map (·.2)).contains j) = true := by rfl) (hs : ∀ x, foldedSetIterable iter X.env x = pure x := by intro _; rfl) (hcl : X.calm = true := by rfl) :
    PS X (.Assign [.Name y py] (.ListComp elt [⟨tg, iter, ifs, 0⟩] scope pos) spos) (TSt G W (sSet i (lcE ops mk bind cond eltf (own.map (·.2))))) :=
  (ps_setLc hcl dx.nd hy hyl hsw hi ok hg ht he hs).imp fun En σ H ⟨B, Z, Fs, env, gd, q⟩ => by
    have q1 : TV G W (lcE ops mk bind cond eltf (own.map (·.2))) σ H (fun x H1 => gName i x σ H1 En.nx) := by
      refine ⟨B, Z, Fs, env, gd, ?_⟩
      unfold sSet at q
      unfold FinV
      cases hl : lcE ops mk bind cond eltf (own.map (·.2)) env with
      | bad => rw [hl] at q; exact q.elim
      | exc c => rw [hl] at q; exact q σ (AgL.refl gd)
      | ok p0 =>
        obtain ⟨d, e'⟩ := p0
        rw [hl] at q
        intro v Z' H' Fs' F p
        have q : FinS G W B Z H σ env (InF Fs) (must (putS i d e') fun e => .ok (.nx e)) En := q
        cases hput : putS i d e' with
        | none => rw [hput] at q; exact q.elim
        | some e2 =>
          rw [hput] at q
          have s2 : Stp G B Z' H' σ e' (fun a => InF Fs' a ∨ a ∈ F) Z' H' (σ.set i (some v)) e2 (onF Fs' i F) := Stp.put p.st.good (fun a m => .inl m) (fun a m => .inr m) ⟨p.one, p.nd, p.dj, p.fr⟩ hput
          exact q _ _ _ _ (p.st.trans (fun a m => m.elim (p.st.new a) (p.new a)) s2)
    exact lc_run hbk (fun j m => by simpa using List.all_eq_true.mp hc j m) q1
theorem DX.blk {s : Shared} {H : Hp} {cenv : Env} {fp : List Addr} (d : DX X G) : DX (X.blk s H scope cenv fp) G := ⟨d.K, d.nd, d.un⟩
end
end DL
namespace DL
open PySem PySem.Spec PyProof.Rows L2
def D.ints : List D → Option (List Int)
  | [] => some []
  | d :: r => match d.toInt, D.ints r with
    | some i, some is => some (i :: is)
    | _, _ => none
def D.bls : List D → Option (List Bool)
  | [] => some []
  | d :: r => match d.toBl, D.bls r with
    | some i, some is => some (i :: is)
    | _, _ => none
section
variable {G : Gc} {Z H : Hp}
theorem bls_own : ∀ {ds : List D} {ns : List Bool} {vs : List V} {F : List Addr}, D.bls ds = some ns → OwnL G Z H ds vs F → vs = ns.map V.bl
  | [], ns, vs, F, e, h => by
    cases (show some ([] : List Bool) = some ns from e)
    exact h.1
  | d :: r, ns, vs, F, e, h => by
    obtain ⟨v, rest, F1, F2, rfl, rfl, h1, h2⟩ := h
    have e : (match d.toBl, D.bls r with
      | some i, some is => some (i :: is)
      | _, _ => none) = some ns := e
    cases hd : d.toBl with
    | none => rw [hd] at e; cases e
    | some i =>
      cases hr : D.bls r with
      | none => rw [hd, hr] at e; cases e
      | some is =>
        rw [hd, hr] at e
        cases e
        obtain rfl := D.toBl_some hd
        rw [h1.1, bls_own hr h2]
        rfl
end
@[simp] theorem ints_map (ns : List Int) : D.ints (ns.map D.int) = some ns := by
  induction ns with
  | nil => rfl
  | cons i r ih => simp [D.ints, D.toInt, ih]
@[simp] theorem bls_map (ns : List Bool) : D.bls (ns.map D.bl) = some ns := by
  induction ns with
  | nil => rfl
  | cons i r ih => simp [D.bls, D.toBl, ih]
/-- len -/
def fLen (d : D) : Option D := match d with
  | .lst xs => some (.int xs.length)
  | .tupF _ xs => some (.int xs.length)
  | .scr ns => some (.int ns.length)
  | .str s => iff? (s.length ≤ 16777216) (.int s.length)
  | _ => none
def fAll (d : D) : Option D := match d.toLst with
  | some xs => (D.bls xs).map fun ns => .bl (ns.all id)
  | none => none
def fAny (d : D) : Option D := match d.toLst with
  | some xs => (D.bls xs).map fun ns => .bl (ns.any id)
  | none => none
def fStr (d : D) : Option D := match d with
  | .int i => iff? (i.natAbs.log2 < 1920) (.str (toString i))
  | _ => none
def fTupOf (d : D) : Option D := match d with
  | .lst xs => iff? (D.pureL xs = true) (.tup xs)
  | .tupF f xs => iff? (D.pureL xs = true) (.tupF f xs)
  | _ => none
abbrev gLen := una fLen
abbrev gAll := una fAll
abbrev gAny := una fAny
abbrev gStr := una fStr
abbrev gTupOf := una fTupOf
abbrev gMax2 := bin (bI fun i j => some (.int (if j > i then j else i)))
abbrev gMin2 := bin (bI fun i j => some (.int (if j < i then j else i)))

theorem pureL_ints (ns : List Int) : D.pureL (ns.map .int) = true := by
  induction ns with
  | nil => rfl
  | cons i r ih => exact ih
section
variable {G : Gc}
theorem lst_bls {H : Hp} {xs : List D} {ns : List Bool} {v : V} (h : Own G H H (.lst xs) v []) (e : D.bls xs = some ns) : ∃ a, v = .ref a ∧ SqL G.K H a (ns.map V.bl) := by
  obtain ⟨a, vs, rfl, hs, o⟩ := h.lstR
  have e1 := bls_own e o
  subst e1
  exact ⟨a, rfl, hs⟩
theorem rop_len : ROp G (fun xs H Q => ∃ x n, xs = [x] ∧ LenV G.K x H n ∧ Q (.int (n : Nat)) H) gLen := by
  intro ds vs H Q d h e q
  obtain ⟨a, rfl, e⟩ := una_some e
  obtain ⟨x, rfl, h1⟩ := own1 h
  cases a with
  | lst xs =>
    cases e
    obtain ⟨p, ws, rfl, hs, o⟩ := h1.lstR
    exact ⟨_, xs.length, rfl, .inl ⟨ws, hs, (OwnL.length o).symm⟩, done0 q fun Z => ⟨rfl, rfl⟩⟩
  | tupF f xs =>
    cases e
    obtain ⟨p, ws, rfl, hs, o⟩ := h1
    exact ⟨_, xs.length, rfl, .inr ⟨ws, hs.seq, (OwnL.length o).symm⟩, done0 q fun Z => ⟨rfl, rfl⟩⟩
  | scr ns =>
    cases e
    obtain ⟨_, p, rfl, hs⟩ := h1
    exact ⟨_, ns.length, rfl, .inl ⟨_, hs, by rw [List.length_map]⟩, done0 q fun Z => ⟨rfl, rfl⟩⟩
  | str s =>
    obtain ⟨hl, rfl⟩ := iff?_some e
    rw [h1.1]
    exact ⟨_, s.length, rfl, ⟨by rw [← size_line]; exact hl, rfl⟩, done0 q fun Z => ⟨rfl, rfl⟩⟩
  | _ => cases e
theorem pure_len : PureG gLen := by
  intro ds d e
  obtain ⟨a, rfl, e⟩ := una_some e
  cases a with
  | lst xs => cases e; rfl
  | tupF f xs => cases e; rfl
  | scr xs => cases e; rfl
  | str s => obtain ⟨_, rfl⟩ := iff?_some e; rfl
  | _ => cases e
theorem fAll_some {a d : D} (e : fAll a = some d) : ∃ xs ns, a = .lst xs ∧ D.bls xs = some ns ∧ d = .bl (ns.all id) := by
  unfold fAll at e
  cases hd : a.toLst with
  | none => rw [hd] at e; cases e
  | some xs =>
    rw [hd] at e
    obtain ⟨ns, hn, rfl⟩ := map_some' e
    exact ⟨xs, ns, D.toLst_some hd, hn, rfl⟩
theorem rop_all : ROp G (rAll G.K) gAll := by
  intro ds vs H Q d h e q
  obtain ⟨a, rfl, e⟩ := una_some e
  obtain ⟨x, rfl, h1⟩ := own1 h
  obtain ⟨xs, ns, rfl, hn, rfl⟩ := fAll_some e
  obtain ⟨p, rfl, hs⟩ := lst_bls h1 hn
  exact ⟨p, ns, rfl, hs, done0 q fun Z => ⟨rfl, rfl⟩⟩
theorem fAny_some {a d : D} (e : fAny a = some d) : ∃ xs ns, a = .lst xs ∧ D.bls xs = some ns ∧ d = .bl (ns.any id) := by
  unfold fAny at e
  cases hd : a.toLst with
  | none => rw [hd] at e; cases e
  | some xs =>
    rw [hd] at e
    obtain ⟨ns, hn, rfl⟩ := map_some' e
    exact ⟨xs, ns, D.toLst_some hd, hn, rfl⟩
theorem pure_any : PureG gAny := by
  intro ds d e
  obtain ⟨a, rfl, e⟩ := una_some e
  obtain ⟨xs, ns, rfl, hn, rfl⟩ := fAny_some e
  rfl
theorem rop_str1 : ROp G (fun xs H Q => ∃ i : Int, xs = [.int i] ∧ i.natAbs.log2 < 1920 ∧ Q (.str (toString i)) H) gStr := by
  intro ds vs H Q d h e q
  obtain ⟨a, rfl, e⟩ := una_some e
  obtain ⟨x, rfl, h1⟩ := own1 h
  cases a with
  | int i =>
    obtain ⟨hl, rfl⟩ := iff?_some e
    exact ⟨i, by rw [h1.1], hl, done0 q fun Z => ⟨rfl, rfl⟩⟩
  | _ => cases e
theorem pure_str1 : PureG gStr := by
  intro ds d e
  obtain ⟨a, rfl, e⟩ := una_some e
  cases a with
  | int i => obtain ⟨hl, rfl⟩ := iff?_some e; rfl
  | _ => cases e
theorem rop_max2 : ROp G (fun xs H Q => ∃ i j, xs = [.int i, .int j] ∧ Q (.int (if j > i then j else i)) H) gMax2 := by
  intro ds vs H Q d h e q
  obtain ⟨a, b, rfl, e⟩ := bin_some e
  obtain ⟨x, y, rfl, h1, h2⟩ := own2 h
  obtain ⟨i, j, rfl, rfl, e⟩ := bI_some e
  cases e
  exact ⟨i, j, by rw [h1.1, h2.1], done0 q fun Z => ⟨rfl, rfl⟩⟩
theorem pure_max2 : PureG gMax2 := pure_int fun i j d e => by cases e; rfl
theorem rop_min2 : ROp G (fun xs H Q => ∃ i j, xs = [.int i, .int j] ∧ Q (.int (if j < i then j else i)) H) gMin2 := by
  intro ds vs H Q d h e q
  obtain ⟨a, b, rfl, e⟩ := bin_some e
  obtain ⟨x, y, rfl, h1, h2⟩ := own2 h
  obtain ⟨i, j, rfl, rfl, e⟩ := bI_some e
  cases e
  exact ⟨i, j, by rw [h1.1, h2.1], done0 q fun Z => ⟨rfl, rfl⟩⟩
theorem pure_min2 : PureG gMin2 := pure_int fun i j d e => by cases e; rfl
theorem one_nodup {a : Addr} : [a].Nodup := List.nodup_cons.mpr ⟨by simp, List.nodup_nil⟩
theorem fTupOf_some {a d : D} (e : fTupOf a = some d) : ∃ xs, D.pureL xs = true ∧ ((a = .lst xs ∧ d = .tup xs) ∨ ∃ f, a = .tupF f xs ∧ d = .tupF f xs) := by
  cases a with
  | lst xs => obtain ⟨h, rfl⟩ := iff?_some e; exact ⟨xs, h, .inl ⟨rfl, rfl⟩⟩
  | tupF f xs => obtain ⟨h, rfl⟩ := iff?_some e; exact ⟨xs, h, .inr ⟨f, rfl, rfl⟩⟩
  | _ => cases e
theorem rop_tupOf : ROp G (fun xs H Q => ∃ p ys, xs = [.ref p] ∧ ((SqL G.K H p ys ∧ ∀ l, H l = none → Q (.ref l) (upd H l (.tup ys))) ∨ (SqT G.K H p ys ∧ Q (.ref p) H))) gTupOf := by
  intro ds vs H Q d h e q
  obtain ⟨a, rfl, e⟩ := una_some e
  obtain ⟨x, rfl, h1⟩ := own1 h
  obtain ⟨xs, hp, ee⟩ := fTupOf_some e
  rcases ee with ⟨rfl, rfl⟩ | ⟨f, rfl, rfl⟩
  · obtain ⟨p, ys, rfl, hs, o⟩ := h1.lstR
    exact ⟨p, ys, rfl, .inl ⟨hs, fun l hn => q _ _ [] (same_upd hn) (fun Z => new_tup hp hn o Z) List.nodup_nil fun b m => by cases m⟩⟩
  · obtain ⟨p, ys, rfl, hs, o⟩ := h1
    exact ⟨p, ys, rfl, .inr ⟨hs.seq, done0 q fun Z => ⟨p, ys, rfl, hs, OwnL.pure_any hp o⟩⟩⟩
def D.ty : D → Option String
  | .non => some "NoneType"
  | .bl _ => some "bool"
  | .int _ => some "int"
  | .str _ => some "str"
  | .tupF _ _ => some "tuple"
  | .lst _ => some "list"
  | .dk _ _ => some "dict"
  | .dt _ _ => some "dict"
  | _ => none
theorem Own.ty {H : Hp} {d : D} {v : V} {T : String} (h : Own G H H d v []) (e : d.ty = some T) : TyX G.K H v (.type T) := by
  cases d with
  | non => cases e; rw [h.1]; exact .base .non
  | bl b => cases e; rw [h.1]; exact .base (.bl b)
  | int b => cases e; rw [h.1]; exact .base (.int b)
  | str b => cases e; rw [h.1]; exact .base (.str b)
  | tupF f xs =>
    cases e
    obtain ⟨a, vs, rfl, h1, _⟩ := h
    cases f with
    | false => exact .base (.tup h1)
    | true =>
      obtain ⟨o, _, h1⟩ := h1
      exact .fTuple h1
  | lst xs =>
    cases e
    obtain ⟨a, vs, F', rfl, n, _⟩ := h
    rcases n with ⟨h1 | ⟨o, h1⟩, _⟩ | ⟨z, _⟩
    · exact .base (.lst h1)
    · exact .base (.frz h1)
    · cases z
  | dk ks vs =>
    cases e
    obtain ⟨a, vs, F', rfl, _, n, _⟩ := h
    rcases n with ⟨h1, _⟩ | ⟨z, _⟩
    · exact .base (.dK h1)
    · cases z
  | dt ks vs =>
    cases e
    obtain ⟨a, vs, F', rfl, _, n, _⟩ := h
    rcases n with ⟨h1, _⟩ | ⟨z, _⟩
    · exact .base (.dT h1)
    · cases z
  | _ => cases e
def tyLe (a b : String) : Bool := a == b || (a == "bool" && b == "int")
theorem D.ty_in {d : D} {T : String} (h : d.ty = some T) : T ∈ ["NoneType", "bool", "int", "str", "tuple", "list", "dict"] := by
  cases d <;> cases h <;> decide
theorem kit_all {K : PySem.W.Frag} {a b : String} (ha : a ∈ ["NoneType", "bool", "int", "str", "tuple", "list", "dict"]) (hb : b ∈ ["bool", "int", "str", "tuple", "list", "dict"]) : PySem.W.kitOne K (.type a) (.type b) = some (tyLe a b) := by
  refine kit_ty ?_
  have key : ∀ a ∈ ["NoneType", "bool", "int", "str", "tuple", "list", "dict"], ∀ b ∈ ["bool", "int", "str", "tuple", "list", "dict"], kitB a b = some (tyLe a b) := by decide +kernel
  exact key a ha b hb
/-- is a value of the built-in type T -/
def gIsi (T : String) : List D → Option D := una fun d => d.ty.map fun t => .bl (tyLe t T)
variable {X : Cx} {W : Wsh} {e : Expr} {p p2 pos : Pos}
theorem p_isi {x : Str} {T : String} {s1 : SArg} (dx : DX X G) (hT : T ∈ ["bool", "int", "str", "tuple", "list", "dict"]) (hg : Gl X "isinstance") (hm : X.mg "isinstance" = none) (hg2 : Gl X x) (hm2 : X.mg x = none) (hv2 : bootBuiltins x = some (.type T)) (he : PE X e (s1.te G)) (hn2 : x ≠ "__name__" := by decide) (hd2 : (x == ("__debug__" : Str)) = false := by decide)
    (hv : bootBuiltins "isinstance" = some (.builtin "isinstance") := by rfl) (hs2 : starEach [.Name x p2] X.env = (false, eval (.Name x p2) X.env) :: starEach [] X.env := by rfl)
    (hs : starEach [e, .Name x p2] X.env = (false, eval e X.env) :: starEach [.Name x p2] X.env := by rfl) (hpl : (backTo pos (starEach [.Name x p2] X.env)).any (·.1) = false := by rfl) :
    PE X (.Call (.Name "isinstance" p) [e, .Name x p2] [] pos) (TPur G (hOp [s1] (gIsi T))) :=
  (pe_callB call_isi hg hm hv (pa_cons he (pa_cons (pe_bltn (v := .ty T) hg2 hm2 hv2 rfl hn2 hd2) pa_nil hs2) hs) (he := hs) (hpl := hpl)).imp fun σ H Q h => by
    have q := tpur_op (hs := [s1]) (r := l1 fun x H Q => rIsi X.K [x, .ty T] H Q) (g := gIsi T) (by
      intro ds vs H Q d h e q
      obtain ⟨a, rfl, e⟩ := una_some e
      obtain ⟨x, rfl, h1⟩ := own1 h
      obtain ⟨t, ht, rfl⟩ := map_some' e
      · refine ⟨x, .ty T, .type t, .type T, tyLe t T, rfl, .ty T, ?_, kit_all (D.ty_in ht) hT, done0 q fun Z => ⟨rfl, rfl⟩⟩
        rw [dx.K]
        exact h1.ty ht) (by
      intro ds d e
      obtain ⟨a, rfl, e⟩ := una_some e
      obtain ⟨t, ht, rfl⟩ := map_some' e
      rfl) σ H Q h
    exact q
end
end DL
namespace DL
open PySem PySem.Spec PyProof.Rows L2
section
variable {G : Gc} {W : Wsh} {B Z H : Hp} {σ : L2.St} {env : DEnv} {Fs : Nat → List Addr}
theorem Own.alive {ds : List D} {v : V} {F : List Addr} (z0 : ∀ a, Z a = none) (h : Own G Z H (.lst ds) v F) : ∃ a vs F', v = .ref a ∧ F = a :: F' ∧ H a = some (.lst vs) ∧ OwnL G Z H ds vs F' := by
  obtain ⟨a, vs, F', rfl, n, o⟩ := h
  rcases n with ⟨h1 | ⟨u, h1⟩, _⟩ | ⟨e, h1⟩
  · rw [z0] at h1; cases h1
  · rw [z0] at h1; cases h1
  · exact ⟨a, vs, F', rfl, e, h1, o⟩
theorem OwnL.one {d : D} {v : V} {F : List Addr} (h : Own G Z H d v F) : OwnL G Z H [d] [v] F := ⟨v, [], F, [], rfl, by simp, h, rfl, rfl⟩
theorem own_non : Own G Z H .non .non [] := ⟨rfl, rfl⟩
theorem mut_fin {T : List Addr} {Y : Hp} {its : List (Bool × D)} {vs : List V} (gd : Good G B Z H σ env Fs) (hd : Hand G B Z H Y Fs its vs T) {a : Addr} {ws ws2 : List V} {ds2 : List D} {F2 FR : List Addr} {d : D} {r : V} (ha : a ∈ T) (hH : H a = some (.lst ws)) (o2 : OwnL G Z H ds2 ws2 F2) (oR : Own G Z H d r FR) (nd : (FR ++ a :: F2).Nodup) (sub : ∀ b, b ∈ FR ++ a :: F2 → b ∈ T) {Q : VK}
    (hF : FinO G W B Z H σ env (PT_ Fs T) [.ref a] (.ok (d, [.lst ds2], env)) Q) : Q r (upd H a (.lst ws2)) := by
  have nn := List.nodup_append.mp nd
  have naR : a ∉ FR := fun m => nn.2.2 a m a List.mem_cons_self rfl
  have naF : a ∉ F2 := (List.nodup_cons.mp nn.2.1).1
  have sb : Same B (upd H a (.lst ws2)) := fun b u e => by
    rw [upd_ne (fun z => by rw [z, (hd.fr a ha).1] at e; cases e)]
    exact gd.sb b u e
  have sz : Same Z (upd H a (.lst ws2)) := fun b u e => by rw [gd.z0] at e; cases e
  have nt : ∀ (b : Addr) (u : HO), H b = some u → Still u → b ≠ a := fun b u e st z => by
    rw [z, hH] at e; cases e; exact st trivial
  have st : Stp G B Z H σ env (PT_ Fs T) Z (upd H a (.lst ws2)) σ env Fs := by
    refine ⟨Same.refl Z, fun b u e n => ?_, ⟨sb, sz, gd.len, fun i => (gd.sl i).keep gd.sb gd.sz sb sz (Same.refl Z) fun b u e m => ?_, gd.nd, gd.dj, gd.fr, gd.z0, gd.gb⟩, fun b m => .inr (.inl m), fun _ m => .inl m, fun j d e => ⟨⟨d, e⟩, rfl⟩, fun j d e => ⟨e, rfl⟩, fun j d e => ⟨e, rfl⟩, fun j d e => ⟨e, rfl⟩, rfl⟩
    · rw [upd_ne (fun z => n (.inr (by rw [z]; exact ha)))]
      exact e
    · rw [upd_ne (fun z => ?_)]
      · exact e
      · rcases m with m | nm
        · exact hd.dj a ha ⟨i, by rw [← z]; exact m⟩
        · exact nt b u e nm z
  refine hF r Z _ Fs (FR ++ a :: F2) ⟨st, ⟨r, [.ref a], FR, a :: F2, rfl, rfl, oR.priv naR hH, ⟨.ref a, [], a :: F2, [], rfl, by simp, ⟨a, ws2, F2, rfl, .inr ⟨rfl, upd_same⟩, o2.priv naF hH⟩, rfl, rfl⟩⟩, nd, fun b m => hd.dj b (sub b m), fun b m => hd.fr b (sub b m), fun b m => .inr (.inr (sub b m))⟩
theorem its1 {its : List (Bool × D)} {a : Bool} (h : its.map (·.1) = [a]) : ∃ d, its = [(a, d)] := by
  match its, h with
  | [(b, d)], h => cases h; exact ⟨d, rfl⟩
theorem its2 {its : List (Bool × D)} {a b : Bool} (h : its.map (·.1) = [a, b]) : ∃ d e, its = [(a, d), (b, e)] := by
  match its, h with
  | [(_, d), (_, e)], h => cases h; exact ⟨d, e, rfl⟩
theorem its3 {its : List (Bool × D)} {a b c : Bool} (h : its.map (·.1) = [a, b, c]) : ∃ d e f, its = [(a, d), (b, e), (c, f)] := by
  match its, h with
  | [(_, d), (_, e), (_, f)], h => cases h; exact ⟨d, e, f, rfl⟩
theorem hand1 {Y : Hp} {d : D} {vs : List V} {T : List Addr} (h : OwnT G Y Z H [(true, d)] vs T) : ∃ v, vs = [v] ∧ Own G Z H d v T := by
  obtain ⟨v, r, F1, F2, rfl, rfl, h1, h2, rfl⟩ := h
  exact ⟨v, by rw [h2], by simpa using h1⟩
theorem hand2 {Y : Hp} {d e : D} {vs : List V} {T : List Addr} (h : OwnT G Y Z H [(true, d), (true, e)] vs T) : ∃ v w F1 F2, vs = [v, w] ∧ T = F1 ++ F2 ∧ Own G Z H d v F1 ∧ Own G Z H e w F2 := by
  obtain ⟨v, r, F1, F2, rfl, rfl, h1, h2⟩ := h
  obtain ⟨w, rfl, h3⟩ := hand1 h2
  exact ⟨v, w, F1, F2, rfl, rfl, h1, h3⟩
theorem hand3 {Y : Hp} {d e f : D} {vs : List V} {T : List Addr} (h : OwnT G Y Z H [(true, d), (true, e), (true, f)] vs T) : ∃ v w u F1 F2 F3, vs = [v, w, u] ∧ T = F1 ++ (F2 ++ F3) ∧ Own G Z H d v F1 ∧ Own G Z H e w F2 ∧ Own G Z H f u F3 := by
  obtain ⟨v, r, F1, F2, rfl, rfl, h1, h2⟩ := h
  obtain ⟨w, u, F3, F4, rfl, rfl, h3, h4⟩ := hand2 h2
  exact ⟨v, w, u, F1, F3, F4, rfl, rfl, h1, h3, h4⟩
theorem ioV_first {fl : List Bool} {v : V} {us : List V} (h : fl.any id = false) : ioV (true :: fl) (v :: us) = [v] := by
  show ioV fl us ++ [v] = [v]
  rw [ioV_none fl us h]; rfl
def rvM (r : V → List V → Hp → VK → Prop) : List V → Hp → VK → Prop := fun vs H Q => match vs with
  | x :: xs => r x xs H Q
  | [] => False
def appK : Kn := fun ds e => match ds with
  | [.lst xs, y] => if xs.length < 16777216 then .ok (.non, [.lst (xs ++ [y])], e) else .bad
  | _ => .bad
theorem k_app {fl : List Bool} (hfl : fl.any id = false) : KOk G W (true :: fl) [true, true] (rvM rAppend) appK := by
  intro B Z H σ env Fs its vs T ios Q gd hd hb hn hF
  obtain ⟨d1, y, rfl⟩ := its2 hb
  unfold appK at hF
  split at hF
  · rename_i xs y' e
    cases e
    split at hF
    · rename_i hl
      obtain ⟨v, w, F1, F2, rfl, rfl, h1, h2⟩ := hand2 hd.own
      obtain ⟨a, ws, F', rfl, rfl, hH, o⟩ := h1.alive gd.z0
      rw [ioV_first hfl] at hn
      subst hn
      have nd := hd.nd
      refine ⟨a, ws, w, rfl, rfl, hH, by rw [← size_line, OwnL.length o]; exact hl, ?_⟩
      exact mut_fin gd hd (F2 := F' ++ F2) (FR := []) (by simp) hH (OwnL.append o (OwnL.one h2)) own_non nd (fun b m => m) hF
    · exact hF.elim
  · exact hF.elim
def popK : Kn := fun ds e => match ds with
  | [.lst xs] => match xs.getLast? with
    | some y => .ok (y, [.lst xs.dropLast], e)
    | none => .bad
  | _ => .bad
theorem k_pop : KOk G W [true] [true] (rvM rPop) popK := by
  intro B Z H σ env Fs its vs T ios Q gd hd hb hn hF
  obtain ⟨d1, rfl⟩ := its1 hb
  unfold popK at hF
  split at hF
  · rename_i xs e
    cases e
    cases hx : xs.getLast? with
    | none => simp only [hx] at hF; exact hF.elim
    | some y =>
      simp only [hx] at hF
      obtain ⟨v, rfl, h1⟩ := hand1 hd.own
      obtain ⟨a, ws, F', rfl, rfl, hH, o⟩ := h1.alive gd.z0
      subst hn
      have ex : xs = xs.dropLast ++ [y] := by
        obtain ⟨h0, h1⟩ := List.getLast?_eq_some_iff.mp hx
        rw [h1, List.dropLast_concat]
      rw [ex] at o
      obtain ⟨w1, w2, G1, G2, rfl, rfl, o1, o2⟩ := OwnL.split o
      obtain ⟨w, rest, G3, G4, rfl, rfl, o3, rfl, rfl⟩ := o2
      have nd := hd.nd
      simp only [List.append_nil] at nd hH hd hF o h1
      refine ⟨a, w1 ++ [w], w, rfl, rfl, hH, by simp, ?_⟩
      rw [List.dropLast_concat]
      obtain ⟨n1, n2⟩ := List.nodup_cons.mp nd
      obtain ⟨n3, n4, n5⟩ := List.nodup_append.mp n2
      refine mut_fin gd hd (F2 := G1) (FR := G3) (by simp) hH o1 o3 (List.nodup_append.mpr ⟨n4, List.nodup_cons.mpr ⟨fun m => n1 (List.mem_append_left _ m), n3⟩, fun b m c k e => ?_⟩) (fun b m => ?_) hF
      · subst e
        rcases List.mem_cons.mp k with rfl | k
        · exact n1 (List.mem_append_right _ m)
        · exact n5 b k b m rfl
      · rcases List.mem_append.mp m with m | m
        · simp [m]
        · rcases List.mem_cons.mp m with rfl | m
          · simp
          · simp [m]
  · exact hF.elim
variable {X : Cx}
/-- slot j holds a list -/
def isL {α : Type} (j : Nat) (f : DEnv → Out α) : DEnv → Out α := fun env => match env[j]? with
  | some (some (_, .lst _)) => f env
  | _ => .bad
theorem isL_run {α : Type} {j : Nat} {f : DEnv → Out α} {env : DEnv} (h : isL j f env ≠ .bad) : (∃ m ds, env[j]? = some (some (m, D.lst ds))) ∧ isL j f env = f env := by
  unfold isL at h ⊢
  split
  · rename_i m ds e
    exact ⟨⟨m, ds, e⟩, rfl⟩
  · rename_i hx
    split at h
    · rename_i m ds e; exact absurd e (hx m ds)
    · exact absurd rfl h
theorem io_tyV {j : Nat} {m : Md} {ds : List D} (gd : Good G B Z H σ env Fs) (h : env[j]? = some (some (m, .lst ds))) : ∃ v, σ[j]? = some (some v) ∧ tyV G.K "list" v H := by
  obtain ⟨v, ev, ho⟩ := gd.read h
  have ho := Own.rep (gd.joi_in j) _ _ _ ho
  obtain ⟨a, ws, rfl, hs, o⟩ := ho.lstR
  exact ⟨_, ev, .inl ⟨rfl, ws, hs⟩⟩
theorem tv_io {σ : L2.St} {H : Hp} {Q : VK} {j : Nat} {c : Chn} {k : Kn} {r : V → List V → Hp → VK → Prop} {bs : List Bool} (hk : KOk G W (true :: c.iofs) bs (rvM r) k) (hb : (Chn.io j c).kinds = bs) (h : TV G W (isL j (eK (.io j c) k)) σ H Q) :
    ∃ v, σ[j]? = some (some v) ∧ tyV G.K "list" v H ∧ seqTE (c.tes G W) σ H fun us H1 => r v us H1 Q := by
  obtain ⟨B, Z, Fs, env, gd, q⟩ := h
  have nb : isL j (eK (.io j c) k) env ≠ .bad := fun e => by rw [e] at q; exact q
  obtain ⟨⟨m, ds, hs⟩, e⟩ := isL_run nb
  rw [e] at q
  obtain ⟨v, ev, ty⟩ := io_tyV gd hs
  obtain ⟨w, ew, q⟩ := tv_chn (c := .io j c) hk rfl hb σ H Q ⟨B, Z, Fs, env, gd, q⟩
  rw [ev] at ew
  obtain rfl : v = w := Option.some.inj (Option.some.inj ew)
  exact ⟨v, ev, ty, q⟩
theorem e_mt {o e : Expr} {es : List Expr} {t : TA} {name : Str} {apos cpos : Pos} {id : String} {r : V → List V → Hp → VK → Prop} {j : Nat} {k : Kn} {bs : List Bool} (dx : DX X G) (slot : PySem.Slot "list" name id) (hty : typeOf (.builtin id) = pure (.type "method_descriptor")) (hm : MtR X id r) (ho : PE X o (tVar j)) (c : Chn) (hk : KOk G W (true :: c.iofs) bs (rvM r) k) (ha : PA X (e :: es) t)
    (ht : t = seqTE (c.tes G W) := by rfl) (hb : (Chn.io j c).kinds = bs := by rfl) (hbase : attributeBase o name X.env (eval o X.env) = eval o X.env := by rfl)
    (hfew : ((backTo cpos (starEach (e :: es) X.env)).all (fun x => !x.1) && (backToKw cpos (keywordEach [] X.env)).all (fun x => x.1.isSome)
      && decide ((e :: es).length + ([] : List Keyword).length + (if ([] : List Keyword).isEmpty then 0 else 1) < 30)) = true := by rfl)
    (hline : (apos.endLine == cpos.line) = true := by rfl) (hs : starEach (e :: es) X.env = (false, eval e X.env) :: starEach es X.env := by rfl) (hplain : (backTo cpos (starEach es X.env)).any (·.1) = false := by rfl) :
    PE X (.Call (.Attribute o name apos) (e :: es) [] cpos) (TV G W (isL j (eK (.io j c) k))) :=
  (pe_bm F.plainAttrs_list slot hty hm ho ha hbase hfew hline hs hplain).imp fun σ H Q h => by
    subst ht
    obtain ⟨v, ev, ty, q⟩ := tv_io hk hb h
    exact ⟨v, ev, by rw [dx.K]; exact ty, q⟩
theorem e_mt0 {o : Expr} {name : Str} {apos cpos : Pos} {id : String} {r : V → List V → Hp → VK → Prop} {j : Nat} {k : Kn} (dx : DX X G) (slot : PySem.Slot "list" name id) (hty : typeOf (.builtin id) = pure (.type "method_descriptor")) (hm : MtR X id r) (ho : PE X o (tVar j)) (hk : KOk G W [true] [true] (rvM r) k)
    (hbase : attributeBase o name X.env (eval o X.env) = eval o X.env := by rfl) (hline : (apos.endLine == cpos.line) = true := by rfl) :
    PE X (.Call (.Attribute o name apos) [] [] cpos) (TV G W (isL j (eK (.io j (.fin [])) k))) :=
  (pe_bm0 F.plainAttrs_list slot hty hm ho hbase hline).imp fun σ H Q h => by
    obtain ⟨v, ev, ty, q⟩ := tv_io (c := .fin []) hk rfl h
    exact ⟨v, ev, by rw [dx.K]; exact ty, q⟩
theorem e_append {o e : Expr} {t : TA} {apos cpos : Pos} {j : Nat} (dx : DX X G) (ho : PE X o (tVar j)) (c : Chn) (ha : PA X [e] t) (hn : c.iofs.any id = false := by rfl) (ht : t = seqTE (c.tes G W) := by rfl) (hb : c.kinds = [true] := by rfl) (hbase : attributeBase o "append" X.env (eval o X.env) = eval o X.env := by rfl)
    (hfew : ((backTo cpos (starEach [e] X.env)).all (fun x => !x.1) && (backToKw cpos (keywordEach [] X.env)).all (fun x => x.1.isSome)
      && decide ([e].length + ([] : List Keyword).length + (if ([] : List Keyword).isEmpty then 0 else 1) < 30)) = true := by rfl)
    (hline : (apos.endLine == cpos.line) = true := by rfl) (hs : starEach [e] X.env = (false, eval e X.env) :: starEach [] X.env := by rfl) (hplain : (backTo cpos (starEach [] X.env)).any (·.1) = false := by rfl) :
    PE X (.Call (.Attribute o "append" apos) [e] [] cpos) (TV G W (isL j (eK (.io j c) appK))) :=
  e_mt dx F.slot_list_append F.type_list_append mt_append ho c (k_app hn) ha ht (by show true :: c.kinds = _; rw [hb]) hbase hfew hline hs hplain
theorem e_pop {o : Expr} {apos cpos : Pos} {j : Nat} (dx : DX X G) (ho : PE X o (tVar j)) (hbase : attributeBase o "pop" X.env (eval o X.env) = eval o X.env := by rfl) (hline : (apos.endLine == cpos.line) = true := by rfl) : PE X (.Call (.Attribute o "pop" apos) [] [] cpos) (TV G W (isL j (eK (.io j (.fin [])) popK))) :=
  e_mt0 dx F.slot_list_pop F.type_list_pop mt_pop ho k_pop hbase hline
/-- name op= e, whole numbers -/
def sAug (i : Nat) (g : List D → Option D) (f : DEnv → Out (D × DEnv)) : Stm := fun env => must (hVar i env) fun dx => f env >>= fun p => must (g [dx, p.1]) fun d => must (putS i d p.2) fun e => .ok (.nx e)
theorem s_aug {i : Nat} {x : Str} {e : Expr} {op : Operator} {h : Int → Int → Int} {f : DEnv → Out (D × DEnv)} {p' pos : Pos} (dx : DX X G) (hi : X.N[i]? = some x) (hx : Loc X.env.scope x) (ho : PIp X op (ipI h)) (he : PE X e (TV G W f)) (hf : X.fn x = true ∨ X.env.scope.names.lookup x = some .local := by first | exact .inl rfl | exact .inr rfl) :
    PS X (.AugAssign (.Name x p') op e pos) (TSt G W (sAug i (bin (bI fun a b => some (.int (h a b)))) f)) :=
  (ps_aug dx.nd hi hx he ho hf).imp fun En σ H ⟨B, Z, Fs, env, gd, q⟩ => by
    unfold sAug at q
    cases hv : hVar i env with
    | none => rw [hv] at q; exact q.elim
    | some d1 =>
      rw [hv, must_some] at q
      have hs : ∃ m, env[i]? = some (some (m, d1)) := by
        unfold hVar at hv
        split at hv
        · rename_i m d e
          split at hv
          · cases hv; exact ⟨m, e⟩
          · cases hv
        · cases hv
      obtain ⟨m, hs⟩ := hs
      obtain ⟨v, ev, ho1⟩ := gd.read hs
      refine ⟨v, ev, B, Z, Fs, env, gd, ?_⟩
      unfold FinV
      cases hf : f env with
      | bad => rw [hf] at q; exact q.elim
      | exc c => rw [hf] at q; exact q σ (AgL.refl gd)
      | ok p =>
        obtain ⟨d2, e2⟩ := p
        rw [hf] at q
        intro v2 Z2 H2 Fs2 F2 p2
        have q : FinS G W B Z H σ env (InF Fs) (must (bin (bI fun a b => some (.int (h a b))) [d1, d2]) fun d => must (putS i d e2) fun e => .ok (.nx e)) En := q
        cases hg : bin (bI fun a b => some (.int (h a b))) [d1, d2] with
        | none => rw [hg] at q; exact q.elim
        | some d3 =>
          rw [hg, must_some] at q
          obtain ⟨a, b, eab, hg⟩ := bin_some hg
          cases eab
          obtain ⟨n1, n2, rfl, rfl, e3⟩ := bI_some hg
          cases e3
          cases hput : putS i (.int (h n1 n2)) e2 with
          | none => rw [hput] at q; exact q.elim
          | some e4 =>
            rw [hput] at q
            have o2 := p2.one
            refine ⟨n1, n2, ho1.1, o2.1, ?_⟩
            have s2 : Stp G B Z2 H2 σ e2 (InF Fs2) Z2 H2 (σ.set i (some (.int (h n1 n2)))) e4 (onF Fs2 i []) := Stp.put p2.st.good (fun a m => m) (fun a m => by cases m) ⟨(show Own G Z2 H2 (.int (h n1 n2)) (.int (h n1 n2)) [] from ⟨rfl, rfl⟩), List.nodup_nil, fun a m => (by cases m), fun a m => (by cases m)⟩ hput
            exact q _ _ _ _ (p2.st.trans p2.st.new s2)

def D.fv : D → Option V
  | .non => some .non
  | .bl b => some (.bl b)
  | .int i => some (.int i)
  | .str s => some (.str s)
  | _ => none
def D.fvs : List D → Option (List V)
  | [] => some []
  | d :: r => match d.fv, D.fvs r with
    | some v, some vs => some (v :: vs)
    | _, _ => none
theorem fv_own {Z H : Hp} {d : D} {v w : V} {F : List Addr} (e : d.fv = some w) (h : Own G Z H d v F) : v = w ∧ flatV w = true := by
  cases d with
  | non => cases e; exact ⟨h.1, rfl⟩
  | bl b => cases e; exact ⟨h.1, rfl⟩
  | int b => cases e; exact ⟨h.1, rfl⟩
  | str b => cases e; exact ⟨h.1, rfl⟩
  | _ => cases e
theorem fvs_own {Z H : Hp} : ∀ {ds : List D} {vs ws : List V} {F : List Addr}, D.fvs ds = some ws → OwnL G Z H ds vs F → vs = ws ∧ ws.all flatV = true
  | [], vs, ws, F, e, h => by
    cases (show some ([] : List V) = some ws from e)
    exact ⟨h.1, rfl⟩
  | d :: r, vs, ws, F, e, h => by
    obtain ⟨v, rest, F1, F2, rfl, rfl, h1, h2⟩ := h
    have e : (match d.fv, D.fvs r with
      | some v, some vs => some (v :: vs)
      | _, _ => none) = some ws := e
    cases hd : d.fv with
    | none => rw [hd] at e; cases e
    | some w =>
      cases hr : D.fvs r with
      | none => rw [hd, hr] at e; cases e
      | some us =>
        rw [hd, hr] at e
        cases e
        obtain ⟨rfl, f1⟩ := fv_own hd h1
        obtain ⟨rfl, f2⟩ := fvs_own hr h2
        exact ⟨rfl, by rw [List.all_cons, f1, f2]; rfl⟩
def inB (x y : D) : Option Bool := match y with
  | .tupF _ ys => match x.fv, D.fvs ys with
    | some v, some vs => some (inV v vs)
    | _, _ => none
  | y => match x.py, y.py with
    | some d, some (.list ds) => iff? (SeqAt.shaped d = true ∧ SeqAt.shaped (.list ds) = true) (ds.any fun z => PyData.eqv z d)
    | _, _ => none
theorem inB_some {x y : D} {b : Bool} (h : inB x y = some b) : (∃ f ys v vs, y = .tupF f ys ∧ x.fv = some v ∧ D.fvs ys = some vs ∧ b = inV v vs) ∨ ∃ d ds, x.py = some d ∧ y.py = some (.list ds) ∧ SeqAt.shaped d = true ∧ SeqAt.shaped (.list ds) = true ∧ b = ds.any fun z => PyData.eqv z d := by
  unfold inB at h
  split at h
  · rename_i f ys
    split at h
    · rename_i v vs h1 h2
      cases h
      exact .inl ⟨f, ys, v, vs, rfl, h1, h2, rfl⟩
    · cases h
  · split at h
    · rename_i d ds h1 h2
      obtain ⟨hc, rfl⟩ := iff?_some h
      exact .inr ⟨d, ds, h1, h2, hc.1, hc.2, rfl⟩
    · cases h
abbrev gNotIn := bin fun a b => (inB a b).map fun k => .bl (!k)
def rNotInA (K : PySem.W.Frag) : R2 := fun x y H Q => rNotInD K x y H Q ∨ rIn K true x y H Q
theorem rop_notIn : ROp G (l2 (rNotInA G.K)) gNotIn := by
  intro ds vs H Q d h e q
  obtain ⟨a, b, rfl, e⟩ := bin_some e
  obtain ⟨x, y, rfl, h1, h2⟩ := own2 h
  obtain ⟨k, hk, rfl⟩ := map_some' e
  rcases inB_some hk with ⟨f, ys, v, vs, rfl, e1, e2, rfl⟩ | ⟨p, ps, e1, e2, s1, s2, rfl⟩
  · obtain ⟨w, ws, rfl, hH, o⟩ := h2
    obtain ⟨rfl, f1⟩ := fv_own e1 h1
    obtain ⟨rfl, f2⟩ := fvs_own e2 o
    exact .inr ⟨w, ws, rfl, .inr hH.seq, f1, f2, done0 q fun Z => ⟨rfl, rfl⟩⟩
  · exact .inl ⟨p, ps, Own.dp _ _ _ h1 e1, Own.dp _ _ _ h2 e2, s1, s2, done0 q fun Z => ⟨rfl, rfl⟩⟩
theorem pure_notIn : PureG gNotIn := by
  intro ds d e
  obtain ⟨a, b, rfl, e⟩ := bin_some e
  obtain ⟨k, hk, rfl⟩ := map_some' e
  rfl
theorem op_notInA (dx : DX X G) : OpR X (compareOp .NotIn) (rNotInA X.K) := OpR.or (op_notInD (by have := dx.un; omega)) op_notIn_seq
end
end DL
namespace DL
open PySem PySem.Spec PyProof.Rows L2
theorem DXW.blk {X : Cx} {G : Gc} {W : Wsh} {s : Shared} {H : Hp} {scope : Scope} {cenv : Env} {fp : List Addr} (d : DXW X G W) : DXW (X.blk s H scope cenv fp) G Wno :=
  ⟨d.dx.blk, fun _ _ _ h => h.elim, takes0.imp fun c d σ H h => by
    obtain ⟨_, _, _, _, _, h⟩ := h
    exact h.elim⟩
theorem bt_len : bootBuiltins "len" = some (.builtin "len") := by decide +kernel
theorem bt_max : bootBuiltins "max" = some (.builtin "max") := by decide +kernel
theorem bt_min : bootBuiltins "min" = some (.builtin "min") := by decide +kernel
theorem bt_all : bootBuiltins "all" = some (.builtin "all") := by decide +kernel
theorem bt_sorted : bootBuiltins "sorted" = some (.builtin "sorted") := by decide +kernel
theorem bt_tuple : bootBuiltins "tuple" = some (.type "tuple") := by decide +kernel
theorem bt_int : bootBuiltins "int" = some (.type "int") := by decide +kernel
theorem bt_str : bootBuiltins "str" = some (.type "str") := by decide +kernel
section
variable {G : Gc} {W : Wsh} {X : Cx} {e : Expr} {es : List Expr} {p pos : Pos} {t : TA} {hs : List SArg}
theorem p_len (dx : DX X G) (hg : Gl X "len") (hm : X.mg "len" = none) (ha : PA X (e :: es) t) (ht : t = seqTE (hs.map (SArg.te G)) := by rfl) (he : starEach (e :: es) X.env = (false, eval e X.env) :: starEach es X.env := by rfl) (hpl : (backTo pos (starEach es X.env)).any (·.1) = false := by rfl) :
    PE X (.Call (.Name "len" p) (e :: es) [] pos) (TPur G (hOp hs gLen)) :=
  p_callB call_len hg hm bt_len (by rw [dx.K]; exact rop_len) pure_len ha ht (by decide) (by decide) he hpl
theorem p_max2 (dx : DX X G) (hg : Gl X "max") (hm : X.mg "max" = none) (ha : PA X (e :: es) t) (ht : t = seqTE (hs.map (SArg.te G)) := by rfl) (he : starEach (e :: es) X.env = (false, eval e X.env) :: starEach es X.env := by rfl) (hpl : (backTo pos (starEach es X.env)).any (·.1) = false := by rfl) (hcl : X.calm = true := by rfl) :
    PE X (.Call (.Name "max" p) (e :: es) [] pos) (TPur G (hOp hs gMax2)) :=
  p_callB (call_max2 hcl) hg hm bt_max rop_max2 pure_max2 ha ht (by decide) (by decide) he hpl
theorem p_min2 (dx : DX X G) (hg : Gl X "min") (hm : X.mg "min" = none) (ha : PA X (e :: es) t) (ht : t = seqTE (hs.map (SArg.te G)) := by rfl) (he : starEach (e :: es) X.env = (false, eval e X.env) :: starEach es X.env := by rfl) (hpl : (backTo pos (starEach es X.env)).any (·.1) = false := by rfl) (hcl : X.calm = true := by rfl) :
    PE X (.Call (.Name "min" p) (e :: es) [] pos) (TPur G (hOp hs gMin2)) :=
  p_callB (call_min2 hcl) hg hm bt_min rop_min2 pure_min2 ha ht (by decide) (by decide) he hpl
theorem e_all (dx : DX X G) (hg : Gl X "all") (hm : X.mg "all" = none) (c : Chn) (ha : PA X (e :: es) t) (ht : t = seqTE (c.tes G W) := by rfl) (hio : c.iofs.any id = false := by rfl) (he : starEach (e :: es) X.env = (false, eval e X.env) :: starEach es X.env := by rfl) (hpl : (backTo pos (starEach es X.env)).any (·.1) = false := by rfl) (hcl : X.calm = true := by rfl) :
    PE X (.Call (.Name "all" p) (e :: es) [] pos) (TV G W (eOp c gAll)) :=
  e_callB (cr_all hcl) hg hm bt_all (by rw [dx.K]; exact rop_all) c ha ht hio (by decide) (by decide) he hpl
theorem p_str1 (dx : DX X G) (hg : Gl X "str") (hm : X.mg "str" = none) (ha : PA X (e :: es) t) (ht : t = seqTE (hs.map (SArg.te G)) := by rfl) (he : starEach (e :: es) X.env = (false, eval e X.env) :: starEach es X.env := by rfl) (hpl : (backTo pos (starEach es X.env)).any (·.1) = false := by rfl) :
    PE X (.Call (.Name "str" p) (e :: es) [] pos) (TPur G (hOp hs gStr)) :=
  p_callT call_str_int hg hm bt_str rop_str1 pure_str1 ha ht (by decide) (by decide) he hpl
theorem e_tupOf (dx : DX X G) (hg : Gl X "tuple") (hm : X.mg "tuple" = none) (c : Chn) (ha : PA X (e :: es) t) (ht : t = seqTE (c.tes G W) := by rfl) (hio : c.iofs.any id = false := by rfl) (he : starEach (e :: es) X.env = (false, eval e X.env) :: starEach es X.env := by rfl) (hpl : (backTo pos (starEach es X.env)).any (·.1) = false := by rfl) :
    PE X (.Call (.Name "tuple" p) (e :: es) [] pos) (TV G W (eOp c gTupOf)) :=
  e_callT call_tuple_of hg hm bt_tuple (by rw [dx.K]; exact rop_tupOf) c ha ht hio (by decide) (by decide) he hpl
end
end DL
namespace DL
open PySem PySem.Spec PyProof.Rows L2
section
variable {G : Gc} {W : Wsh} {X : Cx} {a b e : Expr} {pos : Pos} {h k : DEnv → Option D} {g : List D → Option D} {r : R2} {op : Operator} {i j : Nat} {u v : DEnv → Option D} {cop : CmpOp}
theorem p_binPP (ho : OpR X (binaryOp op) r) (hr : ROp G (l2 r) g) (hp : PureG g) (ha : PE X a (TPur G h)) (hb : PE X b (TPur G k)) : PE X (.BinOp a op b pos) (TPur G (hOp [.pur h, .pur k] g)) := p_bin (s1 := .pur h) (s2 := .pur k) ho hr hp ha hb
theorem p_unP {op : UnaryOp} {r : V → Hp → VK → Prop} (ho : UnR X (unaryOp op) r) (hr : ROp G (l1 r) g) (hp : PureG g) (ha : PE X a (TPur G h)) : PE X (.UnaryOp op a pos) (TPur G (hOp [.pur h] g)) := p_un (s1 := .pur h) ho hr hp ha
theorem p_cmpPP (ho : OpR X (compareOp cop) r) (hr : ROp G (l2 r) g) (hp : PureG g) (ha : PE X a (TPur G h)) (hb : PE X b (TPur G k)) (hm : behindInMarks cop b = false := by first | exact nomark _ | rfl) : PE X (.Compare a [cop] [b] pos) (TPur G (hOp [.pur h, .pur k] g)) := p_cmp (s1 := .pur h) (s2 := .pur k) ho hr hp ha hb hm
theorem t_cmpPP (ho : OpR X (compareOp cop) r) (hr : ROp G (l2 r) g) (hp : PureG g) (ha : PE X a (TPur G h)) (hb : PE X b (TPur G k)) (hm : behindInMarks cop b = false := by first | exact nomark _ | rfl) : PT X (.Compare a [cop] [b] pos) (TBp G (hB (hOp [.pur h, .pur k] g))) := t_cmp (s1 := .pur h) (s2 := .pur k) ho hr hp ha hb hm
theorem hu_eq1 (dx : DX X G) : X.A.units + 64 < cLine := by have := dx.un; omega
end
/-- the law's own promise -/
theorem cut_nil {H : Hp} : cut H [] = H := by
  funext a
  unfold cut
  rw [if_neg (by simp)]
end DL
namespace DL
open PySem PySem.Spec PyProof.Rows L2
/-- the built-in type whose methods the data have -/
def tyD (T : String) (d : D) : Bool := match d with
  | .str _ => T == "str"
  | .tupF true _ => T == "tuple"
  | .lst _ => T == "list"
  | .scr _ => T == "list"
  | .dk _ _ => T == "dict"
  | .dt _ _ => T == "dict"
  | _ => false
section
variable {G : Gc} {W : Wsh} {X : Cx}
theorem tyD_ok {H : Hp} {d : D} {v : V} {T : String} (h : Own G H H d v []) (t : tyD T d = true) : tyW G.K T v H := by
  cases d with
  | str s => rw [h.1]; exact .inl (beq_iff_eq.mp t)
  | tupF f xs =>
    cases f with
    | false => cases t
    | true =>
      obtain ⟨a, vs, rfl, ⟨o, hd, e⟩, _⟩ := h
      exact .inr ⟨beq_iff_eq.mp t, a, vs, rfl, o, hd, e⟩
  | lst xs =>
    obtain ⟨a, vs, rfl, hs, _⟩ := h.lstR
    exact .inl (.inl ⟨beq_iff_eq.mp t, vs, hs⟩)
  | scr ns =>
    obtain ⟨_, a, rfl, hs⟩ := h
    exact .inl (.inl ⟨beq_iff_eq.mp t, _, hs⟩)
  | dk ks vs =>
    obtain ⟨a, ws, F', rfl, _, n, _⟩ := h
    rcases n with ⟨e, _⟩ | ⟨z, _⟩
    · exact .inl (.inr (.inr (.inl ⟨beq_iff_eq.mp t, .inl ⟨_, e⟩⟩)))
    · cases z
  | dt ks vs =>
    obtain ⟨a, ws, F', rfl, _, n, _⟩ := h
    rcases n with ⟨e, _⟩ | ⟨z, _⟩
    · exact .inl (.inr (.inr (.inl ⟨beq_iff_eq.mp t, .inr ⟨_, e⟩⟩)))
    · cases z
  | _ => cases t
theorem plt_ty {i : Nat} {h : DEnv → Option D} {T : String} {σ : L2.St} {H : Hp} {Q : VK} (q : (SArg.plt i h (tyD T)).te G σ H Q) : TPlc G i h σ H fun v H1 => tyW G.K T v H1 ∧ Q v H1 := by
  obtain ⟨B, Z, Fs, env, g, d, hd, ht, q⟩ := q
  exact ⟨B, Z, Fs, env, g, d, hd, fun v H' hs ho => ⟨tyD_ok (Own.rep (joi_le (lay_le (g.sb.trans hs)) (g.sz.trans hs)) _ _ _ ho) ht, q v H' hs ho⟩⟩
variable {o e : Expr} {es : List Expr} {t : TA} {name : Str} {apos cpos : Pos} {T id' : String} {r : V → List V → Hp → VK → Prop} {h : DEnv → Option D} {i : Nat} {hs : List SArg} {g : List D → Option D}
theorem p_mtL (dx : DX X G) (pa : PlainAttrs T) (slot : PySem.Slot T name id') (hty : typeOf (.builtin id') = pure (.type "method_descriptor")) (hm : MtR X id' r) (hr : ROp G (rvM r) g) (hp : PureG g) (ho : PE X o (TPlc G i h)) (ha : PA X (e :: es) t)
    (ht : t = seqTE (hs.map (SArg.te G)) := by rfl) (hbase : attributeBase o name X.env (eval o X.env) = eval o X.env := by rfl)
    (hfew : ((backTo cpos (starEach (e :: es) X.env)).all (fun x => !x.1) && (backToKw cpos (keywordEach [] X.env)).all (fun x => x.1.isSome)
      && decide ((e :: es).length + ([] : List Keyword).length + (if ([] : List Keyword).isEmpty then 0 else 1) < 30)) = true := by rfl)
    (hline : (apos.endLine == cpos.line) = true := by rfl) (hst : starEach (e :: es) X.env = (false, eval e X.env) :: starEach es X.env := by rfl) (hplain : (backTo cpos (starEach es X.env)).any (·.1) = false := by rfl) :
    PE X (.Call (.Attribute o name apos) (e :: es) [] cpos) (TPur G (hOp (.plt i h (tyD T) :: hs) g)) :=
  (pe_bw pa slot hty hm ho ha hbase hfew hline hst hplain).imp fun σ H Q q => by
    have q := plt_ty (tpur_op (hs := .plt i h (tyD T) :: hs) hr hp σ H Q q)
    rw [← dx.K] at q
    rw [ht]
    exact q

def D.strs : List D → Option (List Str)
  | [] => some []
  | .str s :: r => (D.strs r).map (s :: ·)
  | _ => none
theorem map_some2 {α β : Type} {x : Option α} {f : α → β} {b : β} (h : x.map f = some b) : ∃ a, x = some a ∧ f a = b := by
  cases x with
  | none => cases h
  | some a => exact ⟨a, rfl, Option.some.inj h⟩
theorem strs_own {Z H : Hp} : ∀ {ds : List D} {vs : List V} {zs : List Str} {F : List Addr}, D.strs ds = some zs → OwnL G Z H ds vs F → vs = zs.map V.str
  | [], _, _, _, e, h => by
    cases e
    rw [h.1]; rfl
  | d :: ds, vs, zs, F, e, h => by
    obtain ⟨v, r, F1, F2, rfl, _, h1, h2⟩ := h
    cases d with
    | str s =>
      obtain ⟨zs', e', rfl⟩ := map_some2 (show (D.strs ds).map (s :: ·) = some zs from e)
      rw [strs_own e' h2, h1.1]
      rfl
    | _ => cases e
theorem bind_some2 {α β : Type} {x : Option α} {f : α → Option β} {b : β} (h : x.bind f = some b) : ∃ a, x = some a ∧ f a = some b := by
  cases x with
  | none => cases h
  | some a => exact ⟨a, rfl, h⟩
def encD (d : D) : PyData := (d.py).getD .none
def isTup1 : PyData → Bool
  | .tuple (_ :: _) => true
  | _ => false
def isOther : PyData → Bool
  | .none => false
  | .tuple _ => false
  | _ => true
def sortB (ps : List PyData) : Bool := (ps.all fun d => ps.all fun e => PySem.W.alike d e) && (ps.all isTup1 || ps.all isOther) && ps.all fun d => decide (d.depth ≤ 60)
def sortL (xs : List D) : List D := xs.mergeSort (PySem.W.dataLe false encD)
def fSorted (d : D) : Option D := match d with
  | .lst xs => iff? (D.pureL xs = true ∧ (xs.all fun x => x.py.isSome) = true ∧ sortB (xs.map encD) = true) (.lst (sortL xs))
  | _ => none
abbrev gSorted := una fSorted
theorem OwnL.each {Y H : Hp} : ∀ {ds : List D} {vs : List V}, OwnL G Y H ds vs [] → ∀ p ∈ vs.zip ds, Own G Y H p.2 p.1 []
  | [], vs, h => by rw [h.1]; intro p m; cases m
  | d :: ds, vs, h => by
    obtain ⟨v, r, rfl, h1, h2⟩ := OwnL.uncons h
    intro p m
    rcases List.mem_cons.mp m with rfl | m
    · exact h1
    · exact OwnL.each h2 p m
theorem OwnL.of_each {Y H : Hp} : ∀ {ps : List (V × D)}, (∀ p ∈ ps, Own G Y H p.2 p.1 []) → OwnL G Y H (ps.map (·.2)) (ps.map (·.1)) []
  | [], _ => ⟨rfl, rfl⟩
  | p :: ps, h => OwnL.cons_nil (h p List.mem_cons_self) (OwnL.of_each fun q m => h q (List.mem_cons_of_mem _ m))
theorem sortB_ok {ps : List PyData} (h : sortB ps = true) : PySem.W.AllAlike ps ∧ PySem.W.Sortable ps ∧ ∀ d ∈ ps, d.depth ≤ 60 := by
  unfold sortB at h
  simp only [Bool.and_eq_true, Bool.or_eq_true, List.all_eq_true, decide_eq_true_eq] at h
  obtain ⟨⟨h1, h2⟩, h3⟩ := h
  refine ⟨fun d hd e he => h1 d hd e he, ?_, h3⟩
  rcases h2 with h2 | h2
  · refine .inl fun d hd => ?_
    have := h2 d hd
    match d, this with
    | .tuple (x :: r), _ => exact ⟨x, r, rfl⟩
  · refine .inr fun d hd => ?_
    have := h2 d hd
    refine ⟨fun e => ?_, fun xs e => ?_⟩ <;> subst e <;> cases this
theorem pureL_perm {xs ys : List D} (hp : xs.Perm ys) (h : D.pureL xs = true) : D.pureL ys = true := by
  have key : ∀ l : List D, (D.pureL l = true ↔ ∀ d ∈ l, d.pure = true) := fun l => by
    induction l with
    | nil => exact ⟨fun _ d m => (nomatch m), fun _ => rfl⟩
    | cons d r ih =>
      show (d.pure && D.pureL r) = true ↔ _
      rw [Bool.and_eq_true, ih]
      exact ⟨fun ⟨a, b⟩ d m => (List.mem_cons.mp m).elim (fun e => e ▸ a) (b d), fun z => ⟨z d List.mem_cons_self, fun e m => z e (List.mem_cons_of_mem _ m)⟩⟩
  exact (key ys).mpr fun d m => (key xs).mp h d (hp.mem_iff.mpr m)
theorem sortL_perm (xs : List D) : (sortL xs).Perm xs := List.mergeSort_perm _ _
theorem rop_sorted : ROp G (rSortD G.K) gSorted := by
  intro ds vs H Q d h e q
  obtain ⟨a, rfl, e⟩ := una_some e
  obtain ⟨x, rfl, h1⟩ := own1 h
  replace e : fSorted a = some d := e
  unfold fSorted at e
  split at e
  · rename_i xs _
    obtain ⟨⟨hp, hy, hb⟩, rfl⟩ := iff?_some e
    obtain ⟨p, ys, hv, hs, o⟩ := h1.lstR
    subst hv
    have hl : ys.length = xs.length := OwnL.length o
    have e1 : (ys.zip xs).map (·.1) = ys := List.map_fst_zip (Nat.le_of_eq hl)
    have e2 : (ys.zip xs).map (·.2) = xs := List.map_snd_zip (Nat.le_of_eq hl.symm)
    have e3 : ((ys.zip xs).map fun b => encD b.2) = xs.map encD := by
      rw [show (fun b : V × D => encD b.2) = encD ∘ (·.2) from rfl, ← List.map_map, e2]
    obtain ⟨k1, k2, k3⟩ := sortB_ok hb
    have ho := OwnL.each o
    refine ⟨D, encD, p, List.zip ys xs, rfl, by rw [e1]; exact hs, fun b m => ?_, by rw [e3]; exact k1, by rw [e3]; exact k2, fun b m => k3 _ (by rw [← e3]; exact List.mem_map.mpr ⟨b, m, rfl⟩), fun l hn => ?_⟩
    · have hb2 : b.2 ∈ xs := by rw [← e2]; exact List.mem_map.mpr ⟨b, m, rfl⟩
      have := List.all_eq_true.mp hy _ hb2
      refine Own.dp _ _ _ (ho b m) ?_
      unfold encD
      cases hh : b.2.py with
      | none => rw [hh] at this; cases this
      | some z => rfl
    · have e4 : ((ys.zip xs).mergeSort (PySem.W.dataLe false fun b => encD b.2)).map (·.2) = sortL xs := by
        have e5 := List.map_mergeSort (r := PySem.W.dataLe false fun b : V × D => encD b.2) (s := PySem.W.dataLe false encD) (f := fun b : V × D => b.2) (l := List.zip ys xs) (fun a _ b _ => rfl)
        rw [e5, e2]
        rfl
      have o2 : OwnL G H H (sortL xs) (((ys.zip xs).mergeSort (PySem.W.dataLe false fun b => encD b.2)).map (·.1)) [] := by
        rw [← e4]
        exact OwnL.of_each fun b m => ho b (List.mem_mergeSort.mp m)
      exact q _ _ [l] (same_upd hn) (fun Z => new_lst (pureL_perm (sortL_perm xs).symm hp) hn o2 Z) one_nodup fun b m => by rw [List.mem_singleton.mp m]; exact hn
  · cases e
variable {p pos : Pos}
theorem e_sorted (dx : DX X G) (hg : Gl X "sorted") (hm : X.mg "sorted" = none) (c : Chn) (ha : PA X (e :: es) t) (ht : t = seqTE (c.tes G W) := by rfl) (hio : c.iofs.any id = false := by rfl) (he : starEach (e :: es) X.env = (false, eval e X.env) :: starEach es X.env := by rfl) (hpl : (backTo pos (starEach es X.env)).any (·.1) = false := by rfl) :
    PE X (.Call (.Name "sorted" p) (e :: es) [] pos) (TV G W (eOp c gSorted)) :=
  e_callB (cr_sortD (by have := dx.un; omega)) hg hm bt_sorted (r := rSortD X.K) (by rw [dx.K]; exact rop_sorted) c ha ht hio (by decide) (by decide) he hpl
end
end DL
namespace DL
open PySem PySem.Spec PyProof.Rows L2
section
variable {G : Gc} {W : Wsh} {X : Cx}
def rngC (lo c : Int) (n : Nat) : List D := (List.range n).map fun (i : Nat) => D.int (lo + (i : Int) * c)
theorem rngC_at {lo c : Int} {n i : Nat} {x : D} (h : (rngC lo c n)[i]? = some x) : i < n ∧ x = .int (lo + (i : Int) * c) := by
  unfold rngC at h
  rw [List.getElem?_map] at h
  by_cases hi : i < n
  · rw [List.getElem?_range hi] at h
    exact ⟨hi, (Option.some.inj h).symm⟩
  · rw [List.getElem?_eq_none (by simpa using hi)] at h
    cases h
def mkRange3 : List D → Option (List D)
  | [.int i, .int j, .int k] => if k ≠ 0 ∧ k.natAbs < 1073741824 ∧ Builtin.Range.small i j k = true then some (rngC i k (Builtin.Range.rangeSize i j k).toNat) else none
  | _ => none
theorem range3_fits : fits G (fun vs H R => ∃ (i j k : Int) (n : Nat), vs = [.int i, .int j, .int k] ∧ RgC i j k n ∧ R (Itc i k n) H) mkRange3 := by
  intro ds vs Y H xs R ho hy hx q
  unfold mkRange3 at hx
  split at hx
  · rename_i i j k
    split at hx
    · rename_i hr
      cases hx
      obtain ⟨x, y, z, rfl, h1, h2, h3⟩ : ∃ x y z, vs = [x, y, z] ∧ x = V.int i ∧ y = V.int j ∧ z = V.int k := by
        obtain ⟨x, r, rfl, h1, h2⟩ := OwnL.uncons ho
        obtain ⟨y, r, rfl, h3, h4⟩ := OwnL.uncons h2
        obtain ⟨z, r, rfl, h5, h6⟩ := OwnL.uncons h4
        obtain ⟨rfl, _⟩ := h6
        exact ⟨x, y, z, rfl, h1.1, h3.1, h5.1⟩
      subst h1 h2 h3
      refine ⟨i, j, k, _, rfl, ⟨hr.1, hr.2.1, hr.2.2, rangeSize_toNat i j k⟩, q _ H (Same.refl H) fun m H' y t => ⟨fun x e => ?_, fun hl => ?_⟩⟩
      · obtain ⟨hi, rfl⟩ := rngC_at e
        refine ⟨hi, fun v H2 yy => ?_⟩
        obtain ⟨rfl, rfl⟩ := yy
        exact ⟨Same.refl _, rfl, rfl⟩
      · have hl : m = (rngC i k (Builtin.Range.rangeSize i j k).toNat).length := hl
        unfold rngC at hl
        rw [List.length_map, List.length_range] at hl
        exact Nat.le_of_eq hl.symm
    · cases hx
  · cases hx
theorem i_range3 {tg a b c : Expr} {ta : TA} {p pos : Pos} (ops : List Opn) (hg : Gl X "range") (hm : X.mg "range" = none) (ha : PA X [a, b, c] ta) (ht : ta = seqTE (ops.map (Opn.te G W)) := by rfl)
    (hs : starEach [a, b, c] X.env = (false, eval a X.env) :: starEach [b, c] X.env := by rfl) (hpl : (backTo pos (starEach [b, c] X.env)).any (·.1) = false := by rfl) : PI X tg (.Call (.Name "range" p) [a, b, c] [] pos) (TSrc G W ops mkRange3) :=
  src_ok range3_fits (by subst ht; exact pi_range3 hg hm ha hs hpl)

def sigsD (x : Str) : List D := x.cps.toList.map fun c => .str ⟨#[c]⟩
def mkSigs : List D → Option (List D)
  | [.str x] => some (sigsD x)
  | _ => none
def rSigs : RI := fun vs H R => match vs with
  | [v] => ∃ x, v = .str x ∧ R (Its x) H
  | _ => False
theorem sigs_fits : fits G rSigs mkSigs := by
  intro ds vs Y H zs R ho hy hx q
  unfold mkSigs at hx
  split at hx
  · rename_i x
    cases hx
    obtain ⟨v, r, rfl, h1, h2⟩ := OwnL.uncons ho
    obtain ⟨rfl, _⟩ := h2
    refine ⟨x, by rw [h1.1], q _ H (Same.refl H) fun i H' y t => ⟨fun z e => ?_, fun hl => ?_⟩⟩
    · unfold sigsD at e
      rw [List.getElem?_map] at e
      obtain ⟨c, hc, rfl⟩ := map_some2 e
      have hc' : x.cps[i]? = some c := by rw [← Array.getElem?_toList]; exact hc
      refine ⟨(Array.getElem?_eq_some_iff.mp hc').1, fun v H2 yy => ?_⟩
      obtain ⟨rfl, c', h3, rfl⟩ := yy
      rw [hc'] at h3
      cases h3
      exact ⟨Same.refl _, rfl, rfl⟩
    · have hl : i = (sigsD x).length := hl
      unfold sigsD at hl
      rw [List.length_map, Array.length_toList] at hl
      exact Nat.le_of_eq hl.symm
  · cases hx
theorem i_sigs {tg e : Expr} (op : Opn) (he : PE X e (op.te G W)) : PI X tg e (TSrc G W [op] mkSigs) :=
  src_ok (r := rSigs) sigs_fits (pi_str he)
end
end DL
namespace DL
open PySem PySem.Spec PyProof.Rows L2
section
variable {G : Gc} {W : Wsh} {X : Cx}
end
end DL
namespace DL
open PySem PySem.Spec PyProof.Rows L2
section
variable {G : Gc} {W : Wsh} {X : Cx}
theorem p_gstr {x : Str} {s : Str} {t : Tok} {pos : Pos} (hg : Gl X x) (hm : X.mg x = some (.str s t)) (hd : (x == ("__debug__" : Str)) = false := by decide) : PE X (.Name x pos) (TPur G (hC (.str s))) :=
  (pe_glob (v := .str s) hg hm ⟨t, rfl⟩ hd).imp fun σ H Q ⟨B, Z, Fs, env, gd, d, e, q⟩ => by
    cases e
    exact q (.str s) H (Same.refl H) rfl fun Z => ⟨rfl, rfl⟩
def fInS (f : Bool → Bool) (a b : D) : Option D := match a, b with
  | .str x, .str z => match x.cps.toList with
    | [c] => some (.bl (f (decide (c ∈ z.cps.toList))))
    | _ => none
  | _, _ => none
theorem fInS_some {f : Bool → Bool} {a b d : D} (h : fInS f a b = some d) : ∃ (c : Nat) (z : Str), a = .str ⟨#[c]⟩ ∧ b = .str z ∧ d = .bl (f (decide (c ∈ z.cps.toList))) := by
  unfold fInS at h
  split at h
  · rename_i x z
    split at h
    · rename_i c e
      cases h
      refine ⟨c, z, ?_, rfl, rfl⟩
      congr 1
      cases x with
      | mk l =>
        congr 1
        exact Array.toList_inj.mp e
    · cases h
  · cases h
abbrev gInS := bin (fInS id)
theorem rop_inS : ROp G (l2 fun x y H Q => ∃ (c : Nat) (z : Str), x = .str ⟨#[c]⟩ ∧ y = .str z ∧ Q (.bl (decide (c ∈ z.cps.toList))) H) gInS := by
  intro ds vs H Q d h e q
  obtain ⟨a, b, rfl, e⟩ := bin_some e
  obtain ⟨c, z, rfl, rfl, rfl⟩ := fInS_some e
  obtain ⟨x, y, rfl, h1, h2⟩ := own2 h
  exact ⟨c, z, h1.1, h2.1, done0 q fun Z => ⟨rfl, rfl⟩⟩
theorem pure_inS : PureG gInS := by
  intro ds d e
  obtain ⟨a, b, rfl, e⟩ := bin_some e
  obtain ⟨c, z, rfl, rfl, rfl⟩ := fInS_some e
  rfl
end
end DL
namespace DL
open PySem PySem.Spec PyProof.Rows L2
def keyD : D → Option Key
  | .int i => some (.inl i)
  | .str s => some (.inr s)
  | _ => none
def keysL : List D → Option (List Key)
  | [] => some []
  | d :: r => match keyD d, keysL r with
    | some k, some ks => some (k :: ks)
    | _, _ => none
def keysD : D → Option (List Key)
  | .tupF false xs => keysL xs
  | _ => none
section
variable {G : Gc} {W : Wsh} {X : Cx}
theorem keyD_own {Z H : Hp} {d : D} {v : V} {F : List Addr} {k : Key} (e : keyD d = some k) (h : Own G Z H d v F) : v = kV k := by
  cases d with
  | int i => cases e; exact h.1
  | str i => cases e; exact h.1
  | _ => cases e
theorem keysL_own {Z H : Hp} : ∀ {ds : List D} {vs : List V} {F : List Addr} {ks : List Key}, keysL ds = some ks → OwnL G Z H ds vs F → vs = ks.map kV
  | [], _, _, _, e, h => by cases e; exact h.1
  | d :: ds, vs, F, ks, e, h => by
    obtain ⟨v, r, F1, F2, rfl, rfl, h1, h2⟩ := h
    have e : (match keyD d, keysL ds with
      | some k, some ks => some (k :: ks)
      | _, _ => none) = some ks := e
    cases hk : keyD d with
    | none => rw [hk] at e; cases e
    | some k =>
      cases hs : keysL ds with
      | none => rw [hk, hs] at e; cases e
      | some ks2 =>
        rw [hk, hs] at e
        cases e
        rw [keyD_own hk h1, keysL_own hs h2]
        rfl
theorem keysD_own {Z H : Hp} {d : D} {v : V} {F : List Addr} {k : List Key} (e : keysD d = some k) (h : Own G Z H d v F) : ∃ a, v = .ref a ∧ H a = some (.tup (k.map kV)) := by
  unfold keysD at e
  split at e
  · rename_i xs
    obtain ⟨a, vs, rfl, h1, h2⟩ := h
    have := keysL_own e h2
    subst this
    exact ⟨a, rfl, h1⟩
  · cases e
theorem pureL_mem {l : List D} (h : ∀ d ∈ l, d.pure = true) : D.pureL l = true := by
  induction l with
  | nil => rfl
  | cons d r ih =>
    show (d.pure && D.pureL r) = true
    rw [h d List.mem_cons_self, ih fun e m => h e (List.mem_cons_of_mem _ m)]
    rfl
section
variable {κ : Type} [DecidableEq κ]
def lookP (ks : List κ) (ds : List D) (k : κ) : Option D := ((ks.zip ds).find? fun p => decide (p.1 = k)).map (·.2)
def putG {α : Type} (kvs : List (κ × α)) (k : κ) (v : α) : List (κ × α) :=
  if (kvs.any fun kv => decide (kv.1 = k)) = true then kvs.map (fun kv => if kv.1 = k then (kv.1, v) else kv) else kvs ++ [(k, v)]
theorem look_own {Y H : Hp} {k : κ} : ∀ {ks : List κ} {ds : List D} {vs : List V}, OwnL G Y H ds vs [] → ks.length = vs.length → (∀ d, lookP ks ds k = some d → ∃ v, valV (ks.zip vs) k = some v ∧ Own G Y H d v []) ∧ (lookP ks ds k = none → valV (ks.zip vs) k = none)
  | [], ds, vs, h, l => by
    have : vs = [] := List.eq_nil_of_length_eq_zero l.symm
    subst this
    exact ⟨fun d e => (nomatch (show (none : Option D) = some d from e)), fun _ => rfl⟩
  | k0 :: ks, ds, vs, h, l => by
    cases ds with
    | nil => rw [h.1] at l; cases l
    | cons d0 ds =>
      obtain ⟨v0, r, rfl, h1, h2⟩ := OwnL.uncons h
      have ih := look_own (k := k) h2 (by simpa using l)
      by_cases hk : k0 = k
      · refine ⟨fun d e => ?_, fun e => ?_⟩
        · have : lookP (k0 :: ks) (d0 :: ds) k = some d0 := by simp [lookP, hk]
          rw [this] at e
          cases e
          exact ⟨v0, by simp [valV, hk], h1⟩
        · have : lookP (k0 :: ks) (d0 :: ds) k = some d0 := by simp [lookP, hk]
          rw [this] at e
          cases e
      · have e1 : lookP (k0 :: ks) (d0 :: ds) k = lookP ks ds k := by simp [lookP, hk]
        have e2 : valV ((k0 :: ks).zip (v0 :: r)) k = valV (ks.zip r) k := by simp [valV, hk]
        rw [e1, e2]
        exact ih
theorem putG_map {α β : Type} (f : α → β) (L : List (κ × α)) (k : κ) (a : α) : (putG L k a).map (fun p => (p.1, f p.2)) = putG (L.map fun p => (p.1, f p.2)) k (f a) := by
  unfold putG
  have e : ((L.map fun p => (p.1, f p.2)).any fun kv => decide (kv.1 = k)) = L.any fun kv => decide (kv.1 = k) := by rw [List.any_map]; rfl
  rw [e]
  split
  · rw [List.map_map, List.map_map]
    refine List.map_congr_left fun p _ => ?_
    simp only [Function.comp]
    split <;> rfl
  · rw [List.map_append]; rfl
theorem putG_mem {α : Type} {L : List (κ × α)} {k : κ} {a : α} {p : κ × α} (h : p ∈ putG L k a) : p ∈ L ∨ p.2 = a := by
  unfold putG at h
  split at h
  · obtain ⟨q, hq, rfl⟩ := List.mem_map.mp h
    split
    · exact .inr rfl
    · exact .inl hq
  · rcases List.mem_append.mp h with h | h
    · exact .inl h
    · rw [List.mem_singleton.mp h]; exact .inr rfl
/-- keys and values behind d[k] = x -/
def putKs (ks : List κ) (ds : List D) (k : κ) (x : D) : List κ := (putG (ks.zip ds) k x).map (·.1)
def putVs (ks : List κ) (ds : List D) (k : κ) (x : D) : List D := (putG (ks.zip ds) k x).map (·.2)
theorem zip3 : ∀ (ks : List κ) (vs : List V) (ds : List D), vs.length = ds.length → ((ks.zip (vs.zip ds)).map fun p => (p.1, p.2.1)) = ks.zip vs ∧ ((ks.zip (vs.zip ds)).map fun p => (p.1, p.2.2)) = ks.zip ds
  | [], _, _, _ => ⟨rfl, rfl⟩
  | k :: ks, [], [], _ => ⟨rfl, rfl⟩
  | k :: ks, v :: vs, d :: ds, h => by
    obtain ⟨h1, h2⟩ := zip3 ks vs ds (by simpa using h)
    rw [List.zip_cons_cons, List.zip_cons_cons, List.map_cons, List.map_cons, h1, h2]
    exact ⟨rfl, rfl⟩
  | k :: ks, [], d :: ds, h => by cases h
  | k :: ks, v :: vs, [], h => by cases h
theorem put_own {Y H : Hp} {ks : List κ} {ds : List D} {vs : List V} {k : κ} {x : D} {v : V} (h : OwnL G Y H ds vs []) (hx : Own G Y H x v []) (l : ks.length = vs.length) : ∃ ws, OwnL G Y H (putVs ks ds k x) ws [] ∧ (putKs ks ds k x).length = ws.length ∧ putK (ks.zip vs) k v = (putKs ks ds k x).zip ws := by
  have ld := OwnL.length h
  generalize hL : ks.zip (vs.zip ds) = L
  have e1 : (L.map fun p => (p.1, p.2.1)) = ks.zip vs := by
    rw [← hL]; exact (zip3 ks vs ds ld).1
  have e2 : (L.map fun p => (p.1, p.2.2)) = ks.zip ds := by
    rw [← hL]; exact (zip3 ks vs ds ld).2
  have q1 := putG_map (fun p : V × D => p.1) L k (v, x)
  have q2 := putG_map (fun p : V × D => p.2) L k (v, x)
  rw [e1] at q1
  rw [e2] at q2
  have ho : ∀ p ∈ putG L k (v, x), Own G Y H p.2.2 p.2.1 [] := fun p hp => by
    rcases putG_mem hp with hp | hp
    · rw [← hL] at hp
      have := (List.of_mem_zip hp).2
      exact OwnL.each h p.2 this
    · rw [hp]; exact hx
  have ho2 := OwnL.of_each (ps := (putG L k (v, x)).map (·.2)) fun p hp => by
    obtain ⟨q, hq, rfl⟩ := List.mem_map.mp hp
    exact ho q hq
  rw [List.map_map, List.map_map] at ho2
  have k1 : putVs ks ds k x = (putG L k (v, x)).map ((·.2) ∘ (·.2)) := by
    unfold putVs
    rw [← q2, List.map_map]; rfl
  have k2 : putKs ks ds k x = (putG L k (v, x)).map (·.1) := by
    unfold putKs
    rw [← q2, List.map_map]; rfl
  refine ⟨_, by rw [k1]; exact ho2, by rw [k2]; simp, ?_⟩
  show putG (ks.zip vs) k v = _
  rw [k2, ← q1]
  generalize putG L k (v, x) = M
  induction M with
  | nil => rfl
  | cons p M ih => simp only [List.map_cons, List.zip_cons_cons, ih]; rfl
end
theorem dk_read {H : Hp} {ks : List Key} {ds : List D} {x : V} (h : Own G H H (.dk ks ds) x []) : ∃ a ws, x = .ref a ∧ ks.length = ws.length ∧ H a = some (.dK (ks.zip ws)) ∧ OwnL G H H ds ws [] := by
  obtain ⟨a, ws, F', rfl, l, n, o⟩ := h
  rcases n with ⟨h1, _, rfl⟩ | ⟨z, _⟩
  · exact ⟨a, ws, rfl, l, h1, o⟩
  · cases z
theorem dt_read {H : Hp} {ks : List (List Key)} {ds : List D} {x : V} (h : Own G H H (.dt ks ds) x []) : ∃ a ws, x = .ref a ∧ ks.length = ws.length ∧ H a = some (.dT (ks.zip ws)) ∧ OwnL G H H ds ws [] := by
  obtain ⟨a, ws, F', rfl, l, n, o⟩ := h
  rcases n with ⟨h1, _, rfl⟩ | ⟨z, _⟩
  · exact ⟨a, ws, rfl, l, h1, o⟩
  · cases z
def fLook (dd k : D) : Option (Option D) := match dd with
  | .dk ks vs => (keyD k).map fun k => lookP ks vs k
  | .dt ks vs => (keysD k).map fun k => lookP ks vs k
  | _ => none
theorem look_get {H : Hp} {dd k : D} {x y : V} {r : Option D} (e : fLook dd k = some r) (h1 : Own G H H dd x []) (h2 : Own G H H k y []) : ∃ a o, x = .ref a ∧ DGet H a y o ∧ (∀ d, r = some d → ∃ v, o = some v ∧ Own G H H d v []) ∧ (r = none → o = none) := by
  unfold fLook at e
  split at e
  · rename_i ks vs
    obtain ⟨k2, hk, rfl⟩ := map_some2 e
    obtain ⟨a, ws, rfl, l, hH, o⟩ := dk_read h1
    have := keyD_own hk h2
    subst this
    obtain ⟨q1, q2⟩ := look_own (k := k2) o l
    exact ⟨a, _, rfl, .inl ⟨_, k2, .inl hH, rfl, rfl⟩, fun d e => q1 d e, q2⟩
  · rename_i ks vs
    obtain ⟨k2, hk, rfl⟩ := map_some2 e
    obtain ⟨a, ws, rfl, l, hH, o⟩ := dt_read h1
    obtain ⟨b, rfl, hb⟩ := keysD_own hk h2
    obtain ⟨q1, q2⟩ := look_own (k := k2) o l
    exact ⟨a, _, rfl, .inr ⟨_, k2, b, .inl hH, rfl, hb, rfl⟩, fun d e => q1 d e, q2⟩
  · cases e
def fDIn (f : Bool → Bool) (k dd : D) : Option D := (fLook dd k).map fun r => .bl (f r.isSome)
abbrev gDIn := bin (fDIn id)
abbrev gDNotIn := bin (fDIn not)
def rDIn : R2 := fun y x H Q => ∃ a o, x = .ref a ∧ DGet H a y o ∧ Q (.bl o.isSome) H
def rDNotIn : R2 := fun y x H Q => ∃ a o, x = .ref a ∧ DGet H a y o ∧ Q (.bl (!o.isSome)) H
theorem rop_din : ROp G (l2 rDIn) gDIn := by
  intro ds vs H Q d h e q
  obtain ⟨a, b, rfl, e⟩ := bin_some e
  obtain ⟨y, x, rfl, h1, h2⟩ := own2 h
  obtain ⟨r, hr, rfl⟩ := map_some2 (show (fLook b a).map (fun r => D.bl (id r.isSome)) = some d from e)
  obtain ⟨p, o, rfl, hg, k1, k2⟩ := look_get hr h2 h1
  have hb : o.isSome = r.isSome := by
    cases r with
    | none => rw [k2 rfl]; rfl
    | some d => obtain ⟨v, rfl, _⟩ := k1 d rfl; rfl
  refine ⟨p, o, rfl, hg, ?_⟩
  rw [hb]
  exact done0 q fun Z => ⟨rfl, rfl⟩
theorem pure_din : PureG gDIn := by
  intro ds d e
  obtain ⟨a, b, rfl, e⟩ := bin_some e
  obtain ⟨r, hr, rfl⟩ := map_some2 (show (fLook b a).map (fun r => D.bl (id r.isSome)) = some d from e)
  rfl
theorem rop_dnotin : ROp G (l2 rDNotIn) gDNotIn := by
  intro ds vs H Q d h e q
  obtain ⟨a, b, rfl, e⟩ := bin_some e
  obtain ⟨y, x, rfl, h1, h2⟩ := own2 h
  obtain ⟨r, hr, rfl⟩ := map_some2 (show (fLook b a).map (fun r => D.bl (not r.isSome)) = some d from e)
  obtain ⟨p, o, rfl, hg, k1, k2⟩ := look_get hr h2 h1
  have hb : o.isSome = r.isSome := by
    cases r with
    | none => rw [k2 rfl]; rfl
    | some d => obtain ⟨v, rfl, _⟩ := k1 d rfl; rfl
  refine ⟨p, o, rfl, hg, ?_⟩
  rw [hb]
  exact done0 q fun Z => ⟨rfl, rfl⟩
theorem pure_dnotin : PureG gDNotIn := by
  intro ds d e
  obtain ⟨a, b, rfl, e⟩ := bin_some e
  obtain ⟨r, hr, rfl⟩ := map_some2 (show (fLook b a).map (fun r => D.bl (not r.isSome)) = some d from e)
  rfl
variable {o i : Expr} {pos : Pos} {s1 s2 : SArg}
theorem p_din (dx : DX X G) (hi : PE X i (s1.te G)) (ho : PE X o (s2.te G)) (hm : behindInMarks .In o = false := by first | exact nomark _ | rfl) : PE X (.Compare i [.In] [o] pos) (TPur G (hOp [s1, s2] gDIn)) :=
  (pe_cmp (pc_din (by have := dx.un; omega) hi ho) hm).imp fun σ H Q h => tpur_op (r := l2 rDIn) rop_din pure_din σ H Q h
theorem t_din (dx : DX X G) (hi : PE X i (s1.te G)) (ho : PE X o (s2.te G)) (hm : behindInMarks .In o = false := by first | exact nomark _ | rfl) : PT X (.Compare i [.In] [o] pos) (TBp G (hB (hOp [s1, s2] gDIn))) :=
  (pt_cmp (pc_din (by have := dx.un; omega) hi ho) hm).imp fun σ H Q ⟨B, Z, Fs, env, gd, k, hk, q⟩ => by
    have q1 : TPur G (hOp [s1, s2] gDIn) σ H (fun x H' => ∃ k, x = .bl k ∧ Q k H') := ⟨B, Z, Fs, env, gd, .bl k, hB_some hk, fun v H' hs _ ho => ⟨k, (ho Z).1, q H' hs⟩⟩
    exact tpur_op (r := l2 rDIn) rop_din pure_din σ H _ q1
theorem t_dnotin (dx : DX X G) (hi : PE X i (s1.te G)) (ho : PE X o (s2.te G)) (hm : behindInMarks .NotIn o = false := by first | exact nomark _ | rfl) : PT X (.Compare i [.NotIn] [o] pos) (TBp G (hB (hOp [s1, s2] gDNotIn))) :=
  (pt_cmp (pc_dnotin (by have := dx.un; omega) hi ho) hm).imp fun σ H Q ⟨B, Z, Fs, env, gd, k, hk, q⟩ => by
    have q1 : TPur G (hOp [s1, s2] gDNotIn) σ H (fun x H' => ∃ k, x = .bl k ∧ Q k H') := ⟨B, Z, Fs, env, gd, .bl k, hB_some hk, fun v H' hs _ ho => ⟨k, (ho Z).1, q H' hs⟩⟩
    exact tpur_op (r := l2 rDNotIn) rop_dnotin pure_dnotin σ H _ q1

def gNewK : List D → Option D
  | [] => some (.dk [] [])
  | _ => none
theorem rop_newK : ROp G (fun xs H Q => xs = [] ∧ ∀ p, H p = none → Q (.ref p) (upd H p (.dK []))) gNewK := by
  intro ds vs H Q d h e q
  unfold gNewK at e
  split at e
  · cases e
    exact ⟨h.1, fun p hn => q _ _ [p] (same_upd hn) (fun Z => ⟨p, [], [], rfl, rfl, .inr ⟨rfl, upd_same⟩, rfl, rfl⟩) one_nodup fun b m => by rw [List.mem_singleton.mp m]; exact hn⟩
  · cases e
theorem e_newK : PE X (.Dict [] [] pos) (TV G W (eOp (.fin []) gNewK)) := pe_dnewK.imp fun σ H Q h => (tv_op (r := fun xs H Q => xs = [] ∧ ∀ p, H p = none → Q (.ref p) (upd H p (.dK []))) rop_newK rfl σ H Q h).2
/-- {k: v}, both written -/
def gOne (k : Key) (d : D) : List D → Option D
  | [] => some (.dk [k] [d])
  | _ => none
theorem e_one {k v : Expr} {kk : Key} {d : D} {w : V} (hk : PE X k (tC (kV kk))) (hv : PE X v (tC w)) (hd : ∀ Z H, Own G Z H d w []) : PE X (.Dict [some k] [v] pos) (TV G W (eOp (.fin []) (gOne kk d))) :=
  (pe_disp (pps_cons hk hv pps_nil) rfl rfl (by simp) (by simp)).imp fun σ H Q h => by
    have hr : ROp G (fun xs H Q => xs = [] ∧ ∀ p, H p = none → Q (.ref p) (upd H p (.dK [(kk, w)]))) (gOne kk d) := by
      intro ds vs H Q e h e2 q
      unfold gOne at e2
      split at e2
      · cases e2
        exact ⟨h.1, fun p hn => q _ _ [p] (same_upd hn) (fun Z => ⟨p, [w], [], rfl, rfl, .inr ⟨rfl, upd_same⟩, OwnL.cons_nil (hd _ _) ⟨rfl, rfl⟩⟩) one_nodup fun b m => by rw [List.mem_singleton.mp m]; exact hn⟩
      · cases e2
    have q := (tv_op hr rfl σ H Q h).2
    intro p hn
    refine ⟨upd_same, [(kk, w)], rfl, by simp, ?_⟩
    have e : upd (upd H p (.dK [])) p (.dK (mergeK [] [(kk, w)])) = upd H p (.dK [(kk, w)]) := by
      funext b
      by_cases hb : b = p
      · subst hb; rw [upd_same, upd_same]; rfl
      · rw [upd_ne hb, upd_ne hb, upd_ne hb]
    rw [e]
    exact q p hn

variable {e : Expr} {es : List Expr} {t : TA} {hs : List SArg} {p : Pos}
end
section
variable {G : Gc} {W : Wsh} {B Z H : Hp} {σ : L2.St} {env : DEnv} {Fs : Nat → List Addr} {X : Cx}
/-- an owned node written -/
theorem mut_fin2 {T : List Addr} {Y : Hp} {its : List (Bool × D)} {vs : List V} (gd : Good G B Z H σ env Fs) (hd : Hand G B Z H Y Fs its vs T) {a : Addr} {u u2 : HO} {d2 : D} (ha : a ∈ T) (hH : H a = some u) (hM : Mut (some u)) (o2 : Own G Z (upd H a u2) d2 (.ref a) [a]) {Q : VK}
    (hF : FinO G W B Z H σ env (PT_ Fs T) [.ref a] (.ok (.non, [d2], env)) Q) : Q .non (upd H a u2) := by
  have sb : Same B (upd H a u2) := fun b u e => by
    rw [upd_ne (fun z => by rw [z, (hd.fr a ha).1] at e; cases e)]
    exact gd.sb b u e
  have sz : Same Z (upd H a u2) := fun b u e => by rw [gd.z0] at e; cases e
  have nt : ∀ (b : Addr) (w : HO), H b = some w → Still w → b ≠ a := fun b w e st z => by
    rw [z, hH] at e; cases e; exact st hM
  have st : Stp G B Z H σ env (PT_ Fs T) Z (upd H a u2) σ env Fs := by
    refine ⟨Same.refl Z, fun b u e n => ?_, ⟨sb, sz, gd.len, fun i => (gd.sl i).keep gd.sb gd.sz sb sz (Same.refl Z) fun b u e m => ?_, gd.nd, gd.dj, gd.fr, gd.z0, gd.gb⟩, fun b m => .inr (.inl m), fun _ m => .inl m, fun j d e => ⟨⟨d, e⟩, rfl⟩, fun j d e => ⟨e, rfl⟩, fun j d e => ⟨e, rfl⟩, fun j d e => ⟨e, rfl⟩, rfl⟩
    · rw [upd_ne (fun z => n (.inr (by rw [z]; exact ha)))]
      exact e
    · rw [upd_ne (fun z => ?_)]
      · exact e
      · rcases m with m | nm
        · exact hd.dj a ha ⟨i, by rw [← z]; exact m⟩
        · exact nt b u e nm z
  refine hF .non Z _ Fs [a] ⟨st, ⟨.non, [.ref a], [], [a], rfl, rfl, ⟨rfl, rfl⟩, ⟨.ref a, [], [a], [], rfl, by simp, o2, rfl, rfl⟩⟩, one_nodup, fun b m => by rw [List.mem_singleton.mp m]; exact hd.dj a ha, fun b m => by rw [List.mem_singleton.mp m]; exact hd.fr a ha, fun b m => by rw [List.mem_singleton.mp m]; exact .inr (.inr ha)⟩
def setDK : Kn := fun ds e => match ds with
  | [x, .dk ks vs, k] => match keyD k with
    | some k => if x.pure = true ∧ D.pureL vs = true ∧ ks.length < 16777216 then .ok (.non, [.dk (putKs ks vs k x) (putVs ks vs k x)], e) else .bad
    | none => .bad
  | [x, .dt ks vs, k] => match keysD k with
    | some k => if x.pure = true ∧ D.pureL vs = true ∧ ks.length < 16777216 then .ok (.non, [.dt (putKs ks vs k x) (putVs ks vs k x)], e) else .bad
    | none => .bad
  | _ => .bad
def rSetD : List V → Hp → VK → Prop := fun vs H Q => match vs with
  | [v, x, y] => ∃ a H4, x = .ref a ∧ DPut H a y v H4 ∧ Q .non H4
  | _ => False
theorem k_setD : KOk G W [false, true, false] [true, true, true] rSetD setDK := by
  intro B Z H σ env Fs its vs T ios Q gd hd hb hn hF
  obtain ⟨x, d1, d2, rfl⟩ := its3 hb
  unfold setDK at hF
  split at hF
  · rename_i x' ks ws k e
    cases e
    split at hF
    · rename_i kk hk
      split at hF
      · rename_i hc
        obtain ⟨u, v, w, F1, F2, F3, rfl, rfl, h3, h1, h2⟩ := hand3 hd.own
        obtain ⟨a, us, F', rfl, l, n, o⟩ := h1
        rcases n with ⟨z, _⟩ | ⟨rfl, hH⟩
        · rw [gd.z0] at z; cases z
        · have hn : ios = [.ref a] := hn
          subst hn
          have hky := keyD_own hk h2
          subst hky
          obtain ⟨q1, q2⟩ := OwnL.ofPure (Z' := H) ws us F' hc.2.1 o
          have hx := (Own.ofPure (Z' := H) x u F1 hc.1 h3).2
          obtain ⟨us2, o2, l2, e2⟩ := put_own (k := kk) q2 hx l
          have hp2 : D.pureL (putVs ks ws kk x) = true := pureL_mem fun d m => by
            obtain ⟨p, hp, rfl⟩ := List.mem_map.mp m
            rcases putG_mem hp with hp | hp
            · exact List.all_eq_true.mp (by
                have := hc.2.1
                revert this
                generalize ws = l
                intro h
                induction l with
                | nil => rfl
                | cons a l ih =>
                  have h : (a.pure && D.pureL l) = true := h
                  rw [Bool.and_eq_true] at h
                  rw [List.all_cons, h.1, ih h.2]; rfl : (ws.all fun d => d.pure) = true) _ (List.of_mem_zip hp).2
            · rw [hp]; exact hc.1
          refine ⟨a, _, rfl, .inl ⟨_, kk, hH, rfl, by rw [← size_line]; simpa [l] using hc.2.2, rfl⟩, ?_⟩
          rw [e2]
          refine mut_fin2 gd hd (by simp) hH trivial ?_ hF
          refine ⟨a, us2, [], rfl, l2, .inr ⟨rfl, upd_same⟩, ?_⟩
          refine OwnL.keep (fun b u e => by rw [gd.z0] at e; cases e) _ _ [] (fun b u e m => ?_) (OwnL.pure_any (Z' := Z) hp2 o2)
          rw [upd_ne (fun z => ?_)]
          · exact e
          · rcases m with m | m
            · cases m
            · rw [z, hH] at e; cases e; exact m trivial
      · exact hF.elim
    · exact hF.elim
  · rename_i x' ks ws k e
    cases e
    split at hF
    · rename_i kk hk
      split at hF
      · rename_i hc
        obtain ⟨u, v, w, F1, F2, F3, rfl, rfl, h3, h1, h2⟩ := hand3 hd.own
        obtain ⟨a, us, F', rfl, l, n, o⟩ := h1
        rcases n with ⟨z, _⟩ | ⟨rfl, hH⟩
        · rw [gd.z0] at z; cases z
        · have hn : ios = [.ref a] := hn
          subst hn
          obtain ⟨b, rfl, hb2⟩ := keysD_own hk h2
          obtain ⟨q1, q2⟩ := OwnL.ofPure (Z' := H) ws us F' hc.2.1 o
          have hx := (Own.ofPure (Z' := H) x u F1 hc.1 h3).2
          obtain ⟨us2, o2, l2, e2⟩ := put_own (k := kk) q2 hx l
          have hp2 : D.pureL (putVs ks ws kk x) = true := pureL_mem fun d m => by
            obtain ⟨p, hp, rfl⟩ := List.mem_map.mp m
            rcases putG_mem hp with hp | hp
            · exact List.all_eq_true.mp (by
                have := hc.2.1
                revert this
                generalize ws = l
                intro h
                induction l with
                | nil => rfl
                | cons a l ih =>
                  have h : (a.pure && D.pureL l) = true := h
                  rw [Bool.and_eq_true] at h
                  rw [List.all_cons, h.1, ih h.2]; rfl : (ws.all fun d => d.pure) = true) _ (List.of_mem_zip hp).2
            · rw [hp]; exact hc.1
          refine ⟨a, _, rfl, .inr ⟨_, kk, b, hH, rfl, hb2, by rw [← size_line]; simpa [l] using hc.2.2, rfl⟩, ?_⟩
          rw [e2]
          refine mut_fin2 gd hd (by simp) hH trivial ?_ hF
          refine ⟨a, us2, [], rfl, l2, .inr ⟨rfl, upd_same⟩, ?_⟩
          refine OwnL.keep (fun b u e => by rw [gd.z0] at e; cases e) _ _ [] (fun b u e m => ?_) (OwnL.pure_any (Z' := Z) hp2 o2)
          rw [upd_ne (fun z => ?_)]
          · exact e
          · rcases m with m | m
            · cases m
            · rw [z, hH] at e; cases e; exact m trivial
      · exact hF.elim
    · exact hF.elim
  · exact hF.elim
theorem s_setD {o i value : Expr} {to ti te : TE} {pos' pos : Pos} (dx : DX X G) (c : Chn) (hv : PE X value te) (ho : PE X o to) (hi : PE X i ti) (hc : c.tes G W = [te, to, ti] := by rfl) (hn : c.iofs = [false, true, false] := by rfl) (hb : c.kinds = [true, true, true] := by rfl)
    (hs : swapsWith value (some (.Subscript o i pos')) pos.line X.env = pure false := by rfl) : PS X (.Assign [.Subscript o i pos'] value pos) (TSt G W (sExpr (eK c setDK))) :=
  (ps_dput (by have := dx.un; omega) ho hi hv hs).imp fun En σ H ⟨B, Z, Fs, env, gd, q⟩ => by
    have q1 : TV G W (eK c setDK) σ H (fun _ H1 => En.nx σ H1) := by
      refine ⟨B, Z, Fs, env, gd, ?_⟩
      unfold sExpr at q
      unfold FinV
      cases hf : eK c setDK env with
      | bad => rw [hf] at q; exact q.elim
      | exc c => rw [hf] at q; exact q σ (AgL.refl gd)
      | ok p =>
        rw [hf] at q
        exact fun v Z' H' Fs' F p => q σ Z' H' Fs' p.st
    have q2 := tv_chn (c := c) k_setD hn hb σ H _ q1
    rw [hc] at q2
    exact q2

end
end DL
namespace DL
open PySem PySem.Spec PyProof.Rows L2
section
variable {G : Gc} {W : Wsh} {X : Cx}
variable {e dd : Expr} {te td : TE} {p pos kpos : Pos}
end
end DL
namespace DL
open PySem PySem.Spec PyProof.Rows L2
section
variable {G : Gc} {W : Wsh} {B Z H : Hp} {σ : L2.St} {env : DEnv} {Fs : Nat → List Addr} {X : Cx}
end
end DL
namespace DL
open PySem PySem.Spec PyProof.Rows L2
section
variable {G : Gc} {W : Wsh} {X : Cx}
variable {o e : Expr} {es : List Expr} {t : TA} {apos cpos : Pos} {h : DEnv → Option D} {hs : List SArg}
end
end DL
namespace DL
open PySem PySem.Spec PyProof.Rows L2
section
variable {G : Gc} {W : Wsh} {X : Cx}
end
end DL
namespace DL
open PySem PySem.Spec PyProof.Rows L2
section
variable {G : Gc}
end
end DL
namespace DL
open PySem PySem.Spec PyProof.Rows L2
section
variable {G : Gc} {W : Wsh} {X : Cx}
def mx2 (i j : Int) : Int := if j > i then j else i
def rMax3 (f : Int → Int → Int) : List V → Hp → VK → Prop := fun xs H Q => ∃ i j k, xs = [.int i, .int j, .int k] ∧ Q (.int (f (f i j) k)) H
theorem call_max3 (hc : X.calm = true) : CallR X (.builtin "max") (rMax3 mx2) := by
  intro pins s σ H xs us Q I r h
  obtain ⟨i, j, k, rfl, q⟩ := h
  refine call_max3Nu hc pins s σ H _ us Q I r ⟨.int i, .int j, .int k, _, rfl, ?_, q⟩
  have key : ∀ i j : Int, nuMax2 (.int i) (.int j) = some (.int (mx2 i j)) := fun i j => by
    show (some (decide (i < j))).map (fun c => if c = true then V.int j else V.int i) = _
    unfold mx2
    by_cases h : i < j
    · simp [h]
    · simp [h]
  unfold nuMax3
  rw [key i j]
  exact key (mx2 i j) k
def gMax3 : List D → Option D
  | [.int i, .int j, .int k] => some (.int (mx2 (mx2 i j) k))
  | _ => none
theorem rop_max3 : ROp G (rMax3 mx2) gMax3 := by
  intro ds vs H Q d h e q
  match ds, e with
  | [.int i, .int j, .int k], e =>
    cases e
    obtain ⟨x, y, z, rfl, h1, h2, h3⟩ := own3 h
    exact ⟨i, j, k, by rw [h1.1, h2.1, h3.1], done0 q fun Z => ⟨rfl, rfl⟩⟩
theorem pure_max3 : PureG gMax3 := by
  intro ds d e
  match ds, e with
  | [.int i, .int j, .int k], e => cases e; rfl
section
variable {e : Expr} {es : List Expr} {t : TA} {hs : List SArg} {p pos : Pos}
theorem p_max3 (dx : DX X G) (hg : Gl X "max") (hm : X.mg "max" = none) (ha : PA X (e :: es) t) (ht : t = seqTE (hs.map (SArg.te G)) := by rfl) (he : starEach (e :: es) X.env = (false, eval e X.env) :: starEach es X.env := by rfl) (hpl : (backTo pos (starEach es X.env)).any (·.1) = false := by rfl) (hcl : X.calm = true := by rfl) :
    PE X (.Call (.Name "max" p) (e :: es) [] pos) (TPur G (hOp hs gMax3)) :=
  p_callB (call_max3 hcl) hg hm bt_max rop_max3 pure_max3 ha ht (by decide) (by decide) he hpl
end
def rCatLL (K : PySem.W.Frag) : R2 := fun x y H Q => ∃ a b xs ys, x = .ref a ∧ y = .ref b ∧ SqL K H a xs ∧ SqL K H b ys ∧ xs.length + ys.length ≤ sizeLine ∧ ∀ p, H p = none → Q (.ref p) (upd H p (.lst (xs ++ ys)))
theorem op_catLL : OpR X (binaryOp .Add) (rCatLL X.K) := by
  intro pins s σ H x y v u Q I rx ry h
  obtain ⟨a, b, xs, ys, rfl, rfl, ha, hb, hz, q⟩ := h
  cases rx
  cases ry
  obtain ⟨its, r1, p1, _⟩ := I.list ha
  obtain ⟨its2, r2, p2, _⟩ := I.list hb
  obtain ⟨⟨cls, dd, data, sl⟩, ho, hc, n, hd⟩ := id p1.isList
  obtain ⟨⟨cls2, dd2, data2, sl2⟩, ho2, hc2, n2, hd2⟩ := id p2.isList
  simp only at hc hd hc2 hd2
  subst hc hd hc2 hd2
  have e : its.toArray ++ its2.toArray = (its ++ its2).toArray := by simp
  refine concat_meets ⟨_, ho, rfl⟩ ⟨_, ho2, rfl⟩ noFill_list_add seq_list_add PySem.F.slot_list_add PySem.F.entry_list_add (PySem.F.args_list_add_2 _ _) (list_addW a b its.toArray its2.toArray n n2 dd dd2 sl sl2 (by
    rw [List.size_toArray, List.size_toArray, ← r1.length, ← r2.length]; exact hz)) ⟨ho, ho2, ?_⟩
  rw [e]
  refine ⟨.ref s.heap.objs.size, _, I.laid (t' := s.toks) (o := .lst (xs ++ ys)) (fun b ob q => Heap.get?_push_of_some _ q) (Nat.le_refl _) ?_, rfl, q _ (I.hok.fresh (Nat.le_refl _))⟩
  exact ⟨by rw [List.length_append]; exact hz, _, 0, r1.append r2, Heap.get?_push_size _ rfl⟩
def fCatLL (a b : D) : Option D := match a, b with
  | .lst x, .lst y => iff? (D.pureL x = true ∧ D.pureL y = true ∧ x.length + y.length ≤ 16777216) (.lst (x ++ y))
  | _, _ => none
abbrev gCatLL := bin fCatLL
theorem fCatLL_some {a b d : D} (h : fCatLL a b = some d) : ∃ x y, a = .lst x ∧ b = .lst y ∧ (D.pureL x = true ∧ D.pureL y = true ∧ x.length + y.length ≤ 16777216) ∧ d = .lst (x ++ y) := by
  unfold fCatLL at h
  split at h
  · obtain ⟨h1, rfl⟩ := iff?_some h
    exact ⟨_, _, rfl, rfl, h1, rfl⟩
  · cases h
theorem rop_catLL : ROp G (l2 (rCatLL G.K)) gCatLL := by
  intro ds vs H Q d h e q
  obtain ⟨a, b, rfl, e⟩ := bin_some e
  obtain ⟨x, y, rfl, h1, h2⟩ := own2 h
  obtain ⟨a, b, rfl, rfl, hl, rfl⟩ := fCatLL_some e
  obtain ⟨p, us, rfl, e1, o1⟩ := h1.lstR
  obtain ⟨p2, us2, rfl, e2, o2⟩ := h2.lstR
  have l1 := OwnL.length o1
  have l2 := OwnL.length o2
  refine ⟨p, p2, us, us2, rfl, rfl, e1, e2, by rw [← size_line, l1, l2]; exact hl.2.2, fun p3 hn => ?_⟩
  have hpp : D.pureL (a ++ b) = true := by rw [D.pureL_append, hl.1, hl.2.1]; rfl
  have hap := OwnL.append (OwnL.pure_any (Z' := H) hl.1 o1) (OwnL.pure_any (Z' := H) hl.2.1 o2)
  rw [List.append_nil] at hap
  exact q _ _ [p3] (same_upd hn) (fun Z => new_lst hpp hn hap Z) (List.nodup_cons.mpr ⟨by simp, List.nodup_nil⟩) fun a m => by
    rw [List.mem_singleton.mp m]; exact hn
def rLtD (K : PySem.W.Frag) : R2 := fun x y H Q => ∃ d e, Dp K H x d ∧ Dp K H y e ∧ PySem.W.alike d e = true ∧ d ≠ .none ∧ d.depth ≤ 60 ∧ Q (.bl (PySem.W.dataLt d e)) H
theorem op_ltD (hu : X.A.units + 64 < cLine) : OpR X (compareOp .Lt) (rLtD X.K) := by
  intro pins s σ H x y v u Q I rx ry h
  obtain ⟨d, e, hd, he, ha, hn, hdp, q⟩ := h
  obtain ⟨as, r1⟩ := Dp.reads I d x v hd rx
  obtain ⟨bs, r2⟩ := Dp.reads I e y u he ry
  exact PySem.W.lt_data r1 r2 ha hn (by omega) ⟨.bl _, H, I, rfl, q⟩
def fLtD (a b : D) : Option D := match a.py, b.py with
  | some p, some q => iff? (PySem.W.alike p q = true ∧ PySem.W.alike p .none = false ∧ p.depth ≤ 60) (.bl (PySem.W.dataLt p q))
  | _, _ => none
abbrev gLtD := bin fLtD
theorem fLtD_some {a b d : D} (h : fLtD a b = some d) : ∃ p q, a.py = some p ∧ b.py = some q ∧ (PySem.W.alike p q = true ∧ PySem.W.alike p .none = false ∧ p.depth ≤ 60) ∧ d = .bl (PySem.W.dataLt p q) := by
  unfold fLtD at h
  split at h
  · rename_i p q h1 h2
    obtain ⟨h3, rfl⟩ := iff?_some h
    exact ⟨p, q, h1, h2, h3, rfl⟩
  · cases h
theorem rop_ltD : ROp G (l2 (rLtD G.K)) gLtD := by
  intro ds vs H Q d h e q
  obtain ⟨a, b, rfl, e⟩ := bin_some e
  obtain ⟨x, y, rfl, h1, h2⟩ := own2 h
  obtain ⟨p, r, ep, er, hl, rfl⟩ := fLtD_some e
  exact ⟨p, r, Own.dp a x p h1 ep, Own.dp b y r h2 er, hl.1, fun z => (by rw [z] at hl; exact Bool.noConfusion hl.2.1), hl.2.2, done0 q (fun Z => ⟨rfl, rfl⟩)⟩
theorem pure_ltD : PureG gLtD := by
  intro ds d e
  obtain ⟨a, b, rfl, e⟩ := bin_some e
  obtain ⟨p, r, ep, er, hl, rfl⟩ := fLtD_some e
  rfl
def fSlJ (d : D) (lo hi : Option Int) : Option D := match d with
  | .lst _ => fSlL d lo hi
  | .scr _ => fSlL d lo hi
  | _ => fSlP d lo hi
def rSlJ (K : PySem.W.Frag) : RS := fun x lo hi H Q => rSlL K x lo hi H Q ∨ rSlP K x lo hi H Q
theorem sl_J : SlR X (rSlJ X.K) := SlR.or sl_list sl_P
theorem slJ_ok : RSl G (rSlJ G.K) fSlJ := by
  intro a x lo hi H Q d h e q
  unfold fSlJ at e
  split at e
  · exact .inl (slL_ok _ x lo hi H Q d h e q)
  · exact .inl (slL_ok _ x lo hi H Q d h e q)
  · exact .inr (slP_ok _ x lo hi H Q d h e q)
def hChI (p q : Int → Int → Bool) (a b c : DEnv → Option D) : DEnv → Option D := fun env => match a env, b env, c env with
  | some (.int i), some (.int j), some (.int k) => some (.bl (p i j && q j k))
  | _, _, _ => none
theorem hChI_some {p q : Int → Int → Bool} {a b c : DEnv → Option D} {env : DEnv} {d : D} (h : hChI p q a b c env = some d) : ∃ i j k, a env = some (.int i) ∧ b env = some (.int j) ∧ c env = some (.int k) ∧ d = .bl (p i j && q j k) := by
  unfold hChI at h
  split at h
  · rename_i i j k h1 h2 h3
    cases h
    exact ⟨i, j, k, h1, h2, h3, rfl⟩
  · cases h
theorem chI_run {p q : Int → Int → Bool} {h1 h2 h3 : DEnv → Option D} {σ : L2.St} {H : Hp} {Q : VK} (h : TPur G (hChI p q h1 h2 h3) σ H Q) : tChain (rI0 fun i j => V.bl (p i j)) (rI0 fun i j => V.bl (q i j)) (TPur G h1) (TPur G h2) (TPur G h3) σ H Q := by
  obtain ⟨B, Z, Fs, env, gd, d, hd, q0⟩ := h
  obtain ⟨i, j, k, e1, e2, e3, rfl⟩ := hChI_some hd
  refine ⟨B, Z, Fs, env, gd, _, e1, fun v H1 s1 _ o1 => ⟨B, Z, Fs, env, gd.grow s1, _, e2, fun v2 H2 s2 _ o2 => ⟨i, j, (o1 Z).1, (o2 Z).1, p i j, rfl, ?_⟩⟩⟩
  cases hp : p i j with
  | false =>
    rw [if_neg (by decide)]
    exact q0 _ H2 (s1.trans s2) rfl fun Z' => ⟨by rw [hp, Bool.false_and], rfl⟩
  | true =>
    rw [if_pos rfl]
    exact ⟨B, Z, Fs, env, (gd.grow s1).grow s2, _, e3, fun v3 H3 s3 _ o3 => ⟨j, k, (o2 Z).1, (o3 Z).1, q0 _ H3 ((s1.trans s2).trans s3) rfl fun Z' => ⟨by rw [hp, Bool.true_and], rfl⟩⟩⟩
variable {op op' : CmpOp} {p q : Int → Int → Bool} {a b c : Expr} {h1 h2 h3 : DEnv → Option D} {pos : Pos}
theorem p_chI (ho : OpR X (compareOp op) (rI0 fun i j => V.bl (p i j))) (ho' : OpR X (compareOp op') (rI0 fun i j => V.bl (q i j))) (ha : PE X a (TPur G h1)) (hb : PE X b (TPur G h2)) (hc : PE X c (TPur G h3)) (hm : lastMarks [op, op'] [b, c] = false := by with_unfolding_all rfl) : PE X (.Compare a [op, op'] [b, c] pos) (TPur G (hChI p q h1 h2 h3)) :=
  (pe_chain ho ho' ha hb hc hm).imp fun σ H Q h => chI_run h
abbrev leI (i j : Int) : Bool := decide (i ≤ j)
def pTup (h g : DEnv → Option D) : DEnv → Option D := fun env => match h env, g env with
  | some d, some x => if d.pure = true then some (.tup [d, x]) else none
  | _, _ => none
theorem pTup_some {h g : DEnv → Option D} {env : DEnv} {d : D} (e : pTup h g env = some d) : ∃ d0 x, h env = some d0 ∧ g env = some x ∧ d0.pure = true ∧ d = .tup [d0, x] := by
  unfold pTup at e
  split at e
  · rename_i d0 x h1 h2
    split at e
    · rename_i hp
      cases e
      exact ⟨d0, x, h1, h2, hp, rfl⟩
    · cases e
  · cases e
theorem p_tpl {e1 e2 : Expr} {t : TA} {k : Nat} {tpos : Pos} {j : Nat} {h g : DEnv → Option D} (hp : PA X [e1, e2] t) (ht : t = seqTE [TPur G h, TPlc G j g] := by rfl) : PE X (.Tuple [e1, e2] k tpos) (TPlc G j (pTup h g)) :=
  (pe_tup hp).imp fun σ H Q ⟨B, Z, Fs, env, gd, d, hd, q⟩ => by
    subst ht
    obtain ⟨d0, x, e1, e2, hpu, rfl⟩ := pTup_some hd
    refine ⟨B, Z, Fs, env, gd, d0, e1, fun v H1 s1 _ o1 => ⟨B, Z, Fs, env, gd.grow s1, x, e2, fun w H2 s2 o2 => ⟨by show 2 ≤ sizeLine; decide, fun p hn => ?_⟩⟩⟩
    have s3 : Same H2 (upd H2 p (.tup [v, w])) := same_upd hn
    refine q _ _ ((s1.trans s2).trans s3) ⟨p, [v, w], rfl, (upd_same : upd H2 p (.tup [v, w]) p = some (.tup [v, w])), ?_⟩
    exact OwnL.cons_nil (Own.keepT (Same.refl _) (TK.of (s2.trans s3)) (o1 _)) (OwnL.cons_nil (Own.keepT ((gd.grow (s1.trans s2)).joi_up s3 j) (TK.of s3) o2) ⟨rfl, rfl⟩)
end
end DL
namespace DL
open PySem PySem.Spec PyProof.Rows L2
section
variable {G : Gc} {W : Wsh} {X : Cx}
end
end DL
namespace DL
open PySem PySem.Spec PyProof.Rows L2
section
variable {G : Gc} {W : Wsh} {X : Cx}
theorem atI_split {α β : Type} {xs : List α} {ys : List β} {n : Int} {x : α} (h : atI xs n = some x) (hl : ys.length = xs.length) : ∃ a b c y d, xs = a ++ x :: b ∧ ys = c ++ y :: d ∧ c.length = a.length ∧ atI ys n = some y := by
  unfold atI at h ⊢
  rw [hl]
  cases e : ixN xs.length n with
  | none => rw [e] at h; cases h
  | some j =>
    rw [e] at h
    replace h : xs[j]? = some x := h
    obtain ⟨hj, hx⟩ := List.getElem?_eq_some_iff.mp h
    have hj2 : j < ys.length := by omega
    refine ⟨xs.take j, xs.drop (j + 1), ys.take j, ys[j], ys.drop (j + 1), ?_, ?_, by simp; omega, ?_⟩
    · rw [← hx, ← List.drop_eq_getElem_cons hj, List.take_append_drop]
    · rw [← List.drop_eq_getElem_cons hj2, List.take_append_drop]
    · exact List.getElem?_eq_getElem hj2
end
end DL
namespace DL
open PySem PySem.Spec PyProof.Rows L2
section
variable {G : Gc} {W : Wsh} {X : Cx}
end
end DL
namespace DL
open PySem PySem.Spec PyProof.Rows L2
section
variable {G : Gc} {W : Wsh} {X : Cx}
end
end DL
namespace DL
open PySem PySem.Spec PyProof.Rows L2
section
variable {G : Gc} {W : Wsh} {X : Cx}
end
end DL
namespace DL
open PySem PySem.Spec PyProof.Rows L2
section
variable {G : Gc} {W : Wsh} {X : Cx}
end
end DL
namespace DL
open PySem PySem.Spec PyProof.Rows L2
section
variable {G : Gc} {W : Wsh} {X : Cx}
end
end DL
namespace DL
open PySem PySem.Spec PyProof.Rows L2
def mkTail : List D → Option (List D)
  | [.lst xs, .int n] => some (cutD xs (some n) none)
  | _ => none
theorem mkTail_some {ds xs : List D} (h : mkTail ds = some xs) : ∃ ys n, ds = [.lst ys, .int n] ∧ xs = cutD ys (some n) none := by
  unfold mkTail at h
  split at h
  · cases h; exact ⟨_, _, rfl, rfl⟩
  · cases h
section
variable {G : Gc} {W : Wsh} {X : Cx} {B Z H B1 Z1 H1 : Hp} {σ : L2.St} {env env1 : DEnv} {P : Addr → Prop} {Fs1 : Nat → List Addr} {u : DEnv → DEnv}
/-- more is only read -/
theorem Unl.hold0 {F : List Addr} (w : Unl G B Z H σ env P B1 Z1 H1 env1 Fs1 u) (hd : ∀ a, a ∈ F → ¬ InF Fs1 a) : Unl G B Z H σ env P (lay B1 H1 F) Z1 H1 env1 Fs1 u := by
  have g := w.good
  have up : Same B1 (lay B1 H1 F) := lay_up g.sb
  have le : Same (lay B1 H1 F) H1 := lay_le g.sb
  refine ⟨⟨le, g.sz, g.len, fun j => ?_, g.nd, g.dj, fun i a m => ⟨?_, (g.fr i a m).2⟩, g.z0, g.gb.trans up⟩, w.bb.trans up, w.hh, fun Z2 H2 σ2 e2 F2 s => ?_⟩
  · have h := g.sl j
    have j1 : Same (joi B1 Z1) (joi (lay B1 H1 F) Z1) := joi_mono up (Same.refl Z1) le g.sz
    unfold SlotOk at h ⊢
    match hs : env1[j]?, h with
    | some (some (.own, d)), h => exact h
    | some (some (.io, d)), h => exact h
    | some (some (.shr, d)), h => exact h
    | some (some (.brw, d)), h => obtain ⟨v, e, h, f⟩ := h; exact ⟨v, e, Own.keep j1 d v [] (fun _ _ e _ => e) h, f⟩
    | some (some (.lck, d)), h => obtain ⟨v, e, h, f⟩ := h; exact ⟨v, e, Own.keep j1 d v [] (fun _ _ e _ => e) h, f⟩
    | some none, h => exact h
    | none, h => exact h
  · rw [lay_out fun n => hd a n ⟨i, m⟩]
    exact (g.fr i a m).1
  · obtain ⟨F3, s3, h3⟩ := w.out _ _ _ _ _ (s.unB g up g.pm)
    refine ⟨F3, s3, fun a n b => h3 a n ?_⟩
    cases q : B1 a with
    | none => rfl
    | some o =>
      have := up a o q
      rw [b] at this; cases this
theorem i_tail {tg l lo : Expr} {i : Nat} {g hl : DEnv → Option D} {pos p2 : Pos} (dx : DX X G) (hp : PE X l (TPlc G i g)) (pl : PE X lo (TPur G hl)) : PI X tg (.Subscript l (.Slice (some lo) none none p2) pos) (TSrc G W [.plc i g, .pur hl] mkTail) :=
  (pi_any (pe_slice sl_list hp (po_some pl) po_none)).imp fun σ H R ⟨B, Z, Fs, env, g0, q⟩ => by
    have key : seqTE ([Opn.plc i g, Opn.pur hl].map (Opn.te G W)) σ H fun us H2 => ∃ v n, us = [v, .int n] ∧ rSlL X.K v (some n) none H2 fun w H4 => rSeqI X.K [w] H4 R := by
      refine evO_ok (W := W) [.plc i g, .pur hl] B Z H env Fs id [] [] _ (Unl.refl g0) ⟨rfl, rfl⟩ ?_
      cases hr : evO [.plc i g, .pur hl] env with
      | bad => rw [hr] at q; exact q.elim
      | exc c => rw [hr] at q; exact q
      | ok p =>
        obtain ⟨ds, st, env1⟩ := p
        rw [hr] at q
        obtain ⟨xs, hmk, q⟩ := q
        obtain ⟨ys, n, rfl, rfl⟩ := mkTail_some hmk
        intro us B2 Z2 H2 Fs2 w o2
        obtain ⟨v, r1, e1, h1, o3⟩ := OwnL.uncons o2
        obtain ⟨vl, r2, rfl, h2, o4⟩ := OwnL.uncons o3
        obtain ⟨rfl, _⟩ := o4
        obtain ⟨rfl, _⟩ := h2
        rw [List.nil_append] at e1
        subst e1
        have hy : Same (joi B2 Z2) H2 := joi_le w.good.sb w.good.sz
        obtain ⟨a, ws, F', rfl, nn, h3⟩ := h1
        rcases nn with ⟨hs, _, rfl⟩ | ⟨z, _⟩
        · refine ⟨_, n, rfl, a, ws, rfl, .inl (Same.rd hy hs), fun p hn => ?_⟩
          have same := same_upd (o := .lst (cutV ws (some n) none)) hn
          have w4 := w.step (Stp.grow w.good (fun _ m => m) same)
          have hpn : ∀ b, b ∈ [p] → ¬ InF Fs2 b := fun b m n => by
            rw [List.mem_singleton.mp m] at n
            obtain ⟨o, e, _⟩ := w.good.dom n
            rw [hn] at e; cases e
          have w5 := w4.hold0 hpn
          have hl5 : Same (lay B2 (upd H2 p (.lst (cutV ws (some n) none))) [p]) (upd H2 p (.lst (cutV ws (some n) none))) := w5.good.sb
          have hy5 : Same (joi (lay B2 (upd H2 p (.lst (cutV ws (some n) none))) [p]) Z2) (upd H2 p (.lst (cutV ws (some n) none))) := joi_le hl5 w5.good.sz
          have j5 : Same (joi B2 Z2) (joi (lay B2 (upd H2 p (.lst (cutV ws (some n) none))) [p]) Z2) := joi_mono (lay_up w4.good.sb) (Same.refl Z2) hl5 w5.good.sz
          have o5 : OwnL G (joi (lay B2 (upd H2 p (.lst (cutV ws (some n) none))) [p]) Z2) (upd H2 p (.lst (cutV ws (some n) none))) [.lst (cutD ys (some n) none)] [.ref p] [] := by
            refine OwnL.cons_nil ⟨p, cutV ws (some n) none, [], rfl, .inl ⟨.inl (joi_left p _ (by rw [lay_in List.mem_cons_self]; exact upd_same)), rfl, rfl⟩, ?_⟩ ⟨rfl, rfl⟩
            exact OwnL.keepT j5 (TK.of same) (cutD_own h3)
          have hf := seq_fits (G := G) [.lst (cutD ys (some n) none)] [.ref p] _ _ (cutD ys (some n) none) R o5 hy5 rfl fun J H' hs' it => ?_
          · rw [dx.K]; exact hf
          · exact q _ Z2 H' Fs2 J (w5.step (Stp.grow w5.good (fun _ m => m) hs')) it
        · cases z
    refine SArg.mono (a := .plc i g) (fun x H1 k => ?_) (show (SArg.plc i g).te G σ H _ from key)
    obtain ⟨B, Z, Fs, env, gd, d, hd, k⟩ := k
    refine ⟨B, Z, Fs, env, gd, d, hd, fun v H' hs hp ho => ?_⟩
    obtain ⟨v', n, e, k⟩ := k v H' hs hp ho
    cases e
    exact ⟨n, rfl, k⟩
end
end DL
namespace DL
open PySem PySem.Spec PyProof.Rows L2
def Pm.noIo : Pm → Pm
  | .io => .mv
  | m => m
def noOut (F : Fn) : Fn := fun ds => match F ds with
  | .ok (r, _) => .ok (r, [])
  | .exc c => .exc c
  | .bad => .bad
theorem noIo_any : ∀ ms : List Pm, ((ms.map Pm.noIo).map Pm.isIo).any id = false
  | [] => rfl
  | m :: r => by
    rw [List.map_cons, List.map_cons, List.any_cons, noIo_any r]
    cases m <;> rfl
theorem spD_noIo {G : Gc} {ms : List Pm} {F : Fn} {vs : List V} {H : Hp} {Q : VK} {E : XK} (h : spD G (ms.map Pm.noIo) (noOut F) vs H Q E) : spD G ms F vs H Q E := by
  obtain ⟨its, T, Z, h1, h2, h3, h4, h5, h6, hgb, h7⟩ := h
  have ho : (ms.map Pm.noIo).map Pm.own = ms.map Pm.own := by
    rw [List.map_map]
    exact List.map_congr_left fun m _ => by cases m <;> rfl
  refine ⟨its, T, Z, h1.trans ho, h2, h3, h4, h5, h6, hgb, ?_⟩
  unfold noOut at h7
  cases hF : F (its.map (·.2)) with
  | bad => rw [hF] at h7; exact h7.elim
  | exc c => rw [hF] at h7; exact h7
  | ok p =>
    obtain ⟨r, outs⟩ := p
    rw [hF] at h7
    intro v H' Z' A z0 zz sz ex ow nd fr nz
    obtain ⟨v1, r1, F1, F2, e1, e2, o1, o2⟩ := ow
    cases e1
    subst e2
    have hi : ioV ((ms.map Pm.noIo).map Pm.isIo) vs = [] := ioV_none _ _ (noIo_any ms)
    refine h7 v H' Z' F1 z0 zz sz ex ?_ (List.nodup_append.mp nd).1 (fun a m => fr a (List.mem_append_left _ m)) nz
    rw [hi]
    exact ⟨v, [], F1, [], rfl, (List.append_nil _).symm, o1, rfl, rfl⟩
theorem _root_.L2.FnOk.mv {P : Program} {w : World} {K : PySem.W.Frag} {mg : Str → Option Value} {base : Heap} {CX : CXT} {k : Nat} {f : Addr} {fd : FuncData} {ps : List Str} {G : Gc} {ms : List Pm} {F : Fn} (h : FnOk P w K mg base CX k f fd ps (spD G ms F)) : FnOk P w K mg base CX k f fd ps (spD G (ms.map Pm.noIo) (noOut F)) :=
  h.imp fun _ _ _ _ q => spD_noIo q
end DL
namespace DL
open PySem PySem.Spec PyProof.Rows L2
section
variable {G : Gc} {W : Wsh} {X : Cx} {e : Expr} {es : List Expr} {t : TA} {p pos : Pos}
end
end DL
namespace DL
open PySem PySem.Spec PyProof.Rows L2
/-- what is borrowed, as data -/
def unb : D → D
  | .bor d => d
  | d => d
def pUn (g : DEnv → Option D) : DEnv → Option D := fun env => (g env).map unb
section
variable {G : Gc} {W : Wsh} {X : Cx} {B Z H : Hp} {σ : L2.St} {env : DEnv} {Fs : Nat → List Addr}
theorem Own.unb {Y H : Hp} {d : D} {v : V} (hY : Same G.bo Y) (h : Own G Y H d v []) : Own G Y H (unb d) v [] := by
  cases d with
  | bor d => exact Own.keep hY d v [] (fun _ _ e _ => e) h.2.1
  | _ => exact h
theorem Good.bo_at (g : Good G B Z H σ env Fs) (i : Nat) : Same G.bo (joi (lockB B H Fs i) Z) := (g.gb.trans (lockB_up g i)).trans joi_left
theorem l_un {e : Expr} {i : Nat} {g : DEnv → Option D} (h : PE X e (TPlc G i g)) : PE X e (TPlc G i (pUn g)) :=
  h.imp fun σ H Q ⟨B, Z, Fs, env, gd, d, hd, q⟩ => by
    unfold pUn at hd
    obtain ⟨d0, h0, rfl⟩ := Option.map_eq_some_iff.mp hd
    exact ⟨B, Z, Fs, env, gd, d0, h0, fun v H' hs ho => q v H' hs (Own.unb ((gd.grow hs).bo_at i) ho)⟩
end
end DL
namespace DL
open PySem PySem.Spec PyProof.Rows L2
section
variable {G : Gc} {W : Wsh} {X : Cx} {B Z H : Hp} {σ : L2.St} {env : DEnv} {Fs : Nat → List Addr}
end
end DL
namespace DL
open PySem PySem.Spec PyProof.Rows L2
section
variable {G : Gc} {W : Wsh} {X : Cx} {B Z H : Hp} {σ : L2.St} {env : DEnv} {Fs : Nat → List Addr}
end
end DL
namespace DL
open PySem PySem.Spec PyProof.Rows L2
section
variable {G : Gc} {W : Wsh} {X : Cx} {B Z H : Hp} {σ : L2.St} {env : DEnv} {Fs : Nat → List Addr}
section
variable {s e : Expr} {es : List Expr} {t : TA} {c m : Str} {C f : Addr} {fd : FuncData} {ps : List Str} {k : Nat} {ms : List Pm} {F : Fn} {apos pos : Pos} {j i : Nat} {g : DEnv → Option D} {fs : DEnv → Out (D × DEnv)}
end
end
end DL
namespace DL
open PySem PySem.Spec PyProof.Rows L2
section
variable {G : Gc} {W : Wsh} {X : Cx} {B Z H : Hp} {σ : L2.St} {env : DEnv} {Fs : Nat → List Addr}
end
end DL
namespace DL
open PySem PySem.Spec PyProof.Rows L2
def noLck (env : DEnv) : Bool := env.all fun s => match s with
  | some (.lck, _) => false
  | _ => true
def ioOnly (env : DEnv) : DEnv := env.map fun s => match s with
  | some (.io, d) => some (.io, d)
  | _ => none
def ioNob (env : DEnv) : Bool := env.all fun s => match s with
  | some (.io, d) => d.nob
  | _ => true
/-- a scope: the slots are taken otherwise, and nothing borrowed leaves -/
def sScp (cv : DEnv → Option DEnv) (f : Stm) : Stm := fun env => if noLck env = true then must (cv env) fun env1 => match f env1 with
    | .ok (.rt d e) => if d.nob = true ∧ ioNob e = true then .ok (.rt d (ioOnly e)) else .bad
    | .exc c => .exc c
    | _ => .bad
  else .bad
/-- what is owned, borrowed -/
def borO (j : Nat) (env : DEnv) : Option DEnv := match env[j]? with
  | some (some (.own, d)) => if d.isNon = false then some (env.set j (some (.own, .bor d))) else none
  | _ => none
section
variable {K : PySem.W.Frag} {cl : Str → Option Addr} {bo : Hp} {W : Wsh} {X : Cx} {B Z H : Hp} {σ : L2.St} {env : DEnv} {Fs : Nat → List Addr}
/-- a step into a scope -/
def ScpIn (K : PySem.W.Frag) (cl : Str → Option Addr) (bo : Hp) (cv : DEnv → Option DEnv) : Prop := ∀ (B Z H : Hp) (σ : L2.St) (env : DEnv) (Fs : Nat → List Addr) (env1 : DEnv), Good ⟨K, cl, bo⟩ B Z H σ env Fs → cv env = some env1 → ∃ B' Fs1, Same B B' ∧ Good ⟨K, cl, B'⟩ B' Z H σ env1 Fs1 ∧ (∀ a, InF Fs1 a → InF Fs a) ∧ ∀ (j : Nat) (d : D), env[j]? = some (some (Md.io, d)) → env1[j]? = some (some (Md.io, d))
theorem slot_bo {b' B' : Hp} {x : Option (Option V)} {s : Option Slot} {F : List Addr} (hb : Same bo b') (hB : Same B B') (sb' : Same B' H) (sz : Same Z H) (h : SlotOk ⟨K, cl, bo⟩ B Z H x s F) : SlotOk ⟨K, cl, b'⟩ B' Z H x s F := by
  have hj : Same (joi B Z) (joi B' Z) := joi_mono hB (Same.refl Z) sb' sz
  unfold SlotOk at h ⊢
  match s, h with
  | some (some (.own, d)), h => obtain ⟨v, e, h⟩ := h; exact ⟨v, e, Own.bo hb _ _ _ _ h⟩
  | some (some (.io, d)), h => obtain ⟨v, e, h⟩ := h; exact ⟨v, e, Own.bo hb _ _ _ _ h⟩
  | some (some (.shr, d)), h => obtain ⟨v, e, h, f⟩ := h; exact ⟨v, e, Own.bo hb _ _ _ _ h, f⟩
  | some (some (.brw, d)), h => obtain ⟨v, e, h, f⟩ := h; exact ⟨v, e, Own.bo hb _ _ _ _ (Own.keep hj d v [] (fun _ _ e _ => e) h), f⟩
  | some (some (.lck, d)), h => obtain ⟨v, e, h, f⟩ := h; exact ⟨v, e, Own.bo hb _ _ _ _ (Own.keep hj d v [] (fun _ _ e _ => e) h), f⟩
  | some none, h => exact h
  | none, h => exact h
theorem not_non {d : D} {v : V} {Y : Hp} {F : List Addr} {G : Gc} (h : Own G Y H d v F) (hn : d.isNon = false) : v ≠ .non := fun e => by
  have := h.isNon
  rw [decide_eq_true e, hn] at this
  cases this
theorem scp_own (j : Nat) : ScpIn K cl bo (borO j) := by
  intro B Z H σ env Fs env1 g hc
  unfold borO at hc
  split at hc
  · rename_i d hs
    split at hc
    · rename_i hn
      cases hc
      have hj := g.sl j
      rw [hs] at hj
      obtain ⟨v, ev, ho⟩ := hj
      have hl := (List.getElem?_eq_some_iff.mp hs).1
      have up := lockB_up g j
      have le := lockB_le g j
      refine ⟨lockB B H Fs j, offF Fs j, up, ⟨le, g.sz, by rw [List.length_set]; exact g.len, fun i => ?_, fun i => ?_, fun i k a m n => ?_, fun i a m => ?_, g.z0, Same.refl _⟩, fun a m => inF_off m, fun i d' e => ?_⟩
      · by_cases h : i = j
        · subst h
          rw [List.getElem?_set_self hl]
          have h1 := Own.freeze (Z' := lockB B H Fs i) (fun b u e => by rw [g.z0] at e; cases e) d v _ (fun b u m e => by
            unfold lockB
            rw [lay_in m]; exact e) ho
          refine ⟨v, ev, by unfold offF; rw [if_pos rfl], Own.bo (g.gb.trans up) _ _ _ _ h1, not_non ho hn⟩
        · rw [List.getElem?_set_ne fun z => h z.symm]
          have : offF Fs j i = Fs i := by unfold offF; rw [if_neg h]
          rw [this]
          exact slot_bo (g.gb.trans up) up le g.sz (g.sl i)
      · unfold offF
        split
        · exact List.nodup_nil
        · exact g.nd i
      · unfold offF at m n
        split at m
        · cases m
        · split at n
          · cases n
          · exact g.dj i k a m n
      · unfold offF at m
        split at m
        · cases m
        · rename_i h
          refine ⟨?_, (g.fr i a m).2⟩
          unfold lockB
          rw [lay_out fun z => h (g.dj i j a m z)]
          exact (g.fr i a m).1
      · by_cases h : i = j
        · subst h; rw [hs] at e; cases e
        · rw [List.getElem?_set_ne fun z => h z.symm]; exact e
    · cases hc
  · cases hc
theorem DXW.scp {bo' : Hp} (h : DXW X ⟨K, cl, bo⟩ W) : DXW X ⟨K, cl, bo'⟩ W := ⟨⟨h.dx.K, h.dx.nd, h.dx.un⟩, h.wc, h.tk⟩
theorem _root_.L2.PSs.ex {ι : Type} {b : List Stmt} {t : ι → TS} (h : ∀ i, PSs X b (t i)) : PSs X b (fun En σ H => ∃ i, t i En σ H) := ⟨fun pins s σ H D I ⟨i, q⟩ => (h i).run pins s σ H D I q⟩
theorem noLck_at (h : noLck env = true) {i : Nat} {d : D} : env[i]? ≠ some (some (.lck, d)) := fun e => by
  have := List.all_eq_true.mp h _ (List.mem_of_getElem? e)
  cases this
theorem ioOnly_at {e : DEnv} {i : Nat} : (ioOnly e)[i]? = match e[i]? with
    | some (some (.io, d)) => some (some (.io, d))
    | some _ => some none
    | none => none := by
  unfold ioOnly
  rw [List.getElem?_map]
  cases e[i]? with
  | none => rfl
  | some s =>
    match s with
    | some (.io, d) => rfl
    | some (.own, d) => rfl
    | some (.shr, d) => rfl
    | some (.brw, d) => rfl
    | some (.lck, d) => rfl
    | none => rfl
theorem s_scp {cv : DEnv → Option DEnv} {rest : List Stmt} {f : Stm} (hcv : ScpIn K cl bo cv) (h : ∀ bo', PSs X rest (TSt ⟨K, cl, bo'⟩ W f)) : PSs X rest (TSt ⟨K, cl, bo⟩ W (sScp cv f)) :=
  (PSs.ex h).imp fun En σ H ⟨B, Z, Fs, env, g, q⟩ => by
    unfold sScp at q
    split at q
    · rename_i hlk
      cases hc : cv env with
      | none => rw [hc] at q; exact q.elim
      | some env1 =>
        rw [hc] at q
        obtain ⟨B', Fs1, hB, g1, hsub, hio⟩ := hcv B Z H σ env Fs env1 g hc
        refine ⟨B', B', Z, Fs1, env1, g1, ?_⟩
        simp only [must_some] at q
        generalize f env1 = o at q
        match o, q with
        | .bad, q => exact q.elim
        | .exc c, q => exact fun σ' ag H' hs => q σ' ⟨ag.1.trans (g1.len.trans g.len.symm), fun j d e => absurd e (noLck_at hlk)⟩ H' (hB.trans hs)
        | .ok (.nx e), q => exact q.elim
        | .ok (.bk e), q => exact q.elim
        | .ok (.ct e), q => exact q.elim
        | .ok (.rt d e), q =>
          have q : FinS ⟨K, cl, bo⟩ W B Z H σ env (InF Fs) (if d.nob = true ∧ ioNob e = true then .ok (.rt d (ioOnly e)) else .bad) En := q
          split at q
          · rename_i hnb
            intro σ' v Z' H' Fs' F r
            have gd := r.st.good
            have sb' : Same B H' := hB.trans gd.sb
            refine q σ' v Z' H' (fun i => match e[i]? with | some (some (.io, _)) => Fs' i | _ => []) F ⟨⟨r.st.zz, fun a u e n => r.st.ext a u e fun m => n (hsub a m), ⟨sb', gd.sz, by unfold ioOnly; rw [List.length_map]; exact gd.len, fun i => ?_, fun i => ?_, fun i k a m n => ?_, fun i a m => ?_, gd.z0, g.gb⟩, fun a m => ?_, fun a m => ?_, fun i d' hd => ?_, fun i d' hd => ?_, fun i d' hd => ?_, fun i d' hd => ?_, ?_⟩, ?_, r.nd, fun a m n => ?_, fun a m => ?_, fun a m => ?_⟩
            · have hsl := gd.sl i
              rw [ioOnly_at]
              cases he : e[i]? with
              | none => rfl
              | some s =>
                match s, he with
                | some (.io, d'), he =>
                  rw [he] at hsl
                  obtain ⟨w, ew, ow⟩ := hsl
                  have hn : d'.nob = true := List.all_eq_true.mp hnb.2 _ (List.mem_of_getElem? he)
                  exact ⟨w, ew, Own.nob d' w _ hn ow⟩
                | some (.own, _), he => rfl
                | some (.shr, _), he => rfl
                | some (.brw, _), he => rfl
                | some (.lck, _), he => rfl
                | none, he => rfl
            · split
              · exact gd.nd i
              · exact List.nodup_nil
            · split at m
              · split at n
                · exact gd.dj i k a m n
                · cases n
              · cases m
            · split at m
              · refine ⟨?_, (gd.fr i a m).2⟩
                cases eb : B a with
                | none => rfl
                | some u =>
                  have := (gd.fr i a m).1
                  rw [hB a u eb] at this
                  cases this
              · cases m
            · obtain ⟨i, m⟩ := m
              dsimp only at m
              split at m
              · exact (r.st.new a ⟨i, m⟩).imp id (hsub a)
              · cases m
            · exact (r.st.newz a m).imp id fun z => z.imp id (hsub a)
            · obtain ⟨⟨d2, h2⟩, hσ⟩ := r.st.io i d' (hio i d' hd)
              exact ⟨⟨d2, by rw [ioOnly_at, h2]⟩, hσ⟩
            · exact absurd hd (noLck_at hlk)
            · rw [ioOnly_at] at hd
              split at hd <;> cases hd
            · rw [ioOnly_at] at hd
              split at hd <;> cases hd
            · unfold ioOnly
              rw [List.length_map, r.st.ln]
              have := g1.len
              have := g.len
              omega
            · exact Own.nob d v F hnb.1 r.own
            · obtain ⟨i, n⟩ := n
              dsimp only at n
              split at n
              · exact r.dj a m ⟨i, n⟩
              · cases n
            · refine ⟨?_, (r.fr a m).2⟩
              cases eb : B a with
              | none => rfl
              | some u =>
                have := (r.fr a m).1
                rw [hB a u eb] at this
                cases this
            · exact (r.new a m).imp id (hsub a)
          · exact q.elim
    · exact q.elim
end
end DL
namespace DL
open PySem PySem.Spec PyProof.Rows L2
section
variable {G : Gc} {W : Wsh} {X : Cx}
end
end DL
namespace L2
open PySem PySem.Spec PyProof.Rows
end L2
namespace DL
open PySem PySem.Spec PyProof.Rows L2
section
variable {G : Gc} {W : Wsh} {X : Cx}
end
end DL
namespace DL
open PySem PySem.Spec PyProof.Rows L2
end DL
namespace DL
open PySem PySem.Spec PyProof.Rows L2
section
variable {G : Gc} {W : Wsh} {X : Cx}
def fJoin (a : Str) (d : D) : Option D := match d with
  | .lst xs => (D.strs xs).bind fun ys => iff? ((ys.map (·.length)).sum + ys.length * a.length ≤ 16777216) (.str (Txt.join a ys))
  | .tupF _ xs => (D.strs xs).bind fun ys => iff? ((ys.map (·.length)).sum + ys.length * a.length ≤ 16777216) (.str (Txt.join a ys))
  | _ => none
abbrev gJoin (a : Str) := una (fJoin a)
def rJoin (K : PySem.W.Frag) (s : Str) : V → Hp → VK → Prop := fun y H Q => ∃ a p, ∃ ys : List Str, V.str s = .str a ∧ [y] = [.ref p] ∧ (SqL K H p (ys.map V.str) ∨ SqT K H p (ys.map V.str)) ∧ (ys.map (·.length)).sum + ys.length * a.length ≤ 16777216 ∧ Q (.str (Txt.join a ys)) H
theorem rop_join (s : Str) : ROp G (l1 (rJoin G.K s)) (gJoin s) := by
  intro ds vs H Q d h e q
  obtain ⟨a, rfl, e3⟩ := una_some e
  replace e := e3
  obtain ⟨x, rfl, h1⟩ := own1 h
  unfold fJoin at e
  split at e
  · rename_i xs
    obtain ⟨ys, hy, e⟩ := bind_some2 e
    obtain ⟨hl, rfl⟩ := iff?_some e
    obtain ⟨p, ws, rfl, hs, o⟩ := h1.lstR
    have := strs_own hy o
    subst this
    exact ⟨s, p, ys, rfl, rfl, .inl hs, hl, done0 q fun Z => ⟨rfl, rfl⟩⟩
  · rename_i f xs
    obtain ⟨ys, hy, e⟩ := bind_some2 e
    obtain ⟨hl, rfl⟩ := iff?_some e
    cases f with
    | false =>
      obtain ⟨p, ws, rfl, e1, o⟩ := h1
      have := strs_own hy o
      subst this
      exact ⟨s, p, ys, rfl, rfl, .inr (SqT.of e1), hl, done0 q fun Z => ⟨rfl, rfl⟩⟩
    | true =>
      obtain ⟨p, ws, rfl, e1, o⟩ := h1
      have := strs_own hy o
      subst this
      exact ⟨s, p, ys, rfl, rfl, .inr e1.seq, hl, done0 q fun Z => ⟨rfl, rfl⟩⟩
  · cases e
theorem e_join {s : Str} {e : Expr} {te : TE} {kk : _} {p0 apos pos : Pos} (dx : DX X G) (c : Chn) (he : PE X e te) (hc : c.tes G W = [te] := by rfl) (hn : c.iofs.any id = false := by rfl) (hs : starEach [e] X.env = [(false, eval e X.env)] := by rfl) (hbase : attributeBase (.Constant (.str s) kk p0) "join" X.env (eval (.Constant (.str s) kk p0) X.env) = eval (.Constant (.str s) kk p0) X.env := by rfl) (hline : (apos.endLine == pos.line) = true := by rfl) :
    PE X (.Call (.Attribute (.Constant (.str s) kk p0) "join" apos) [e] [] pos) (TV G W (eOp c (gJoin s))) :=
  (pe_join pe_str he hs hbase hline).imp fun σ H Q h => by
    have q := tv_op (r := l1 (rJoin X.K s)) (by rw [dx.K]; exact rop_join s) hn σ H Q h
    rw [hc] at q
    exact ⟨⟨s, rfl⟩, q⟩
end
section
variable {G : Gc} {W : Wsh} {B Z H : Hp} {σ : L2.St} {env : DEnv} {Fs : Nat → List Addr} {X : Cx}
end
end DL
namespace DL
open PySem PySem.Spec PyProof.Rows L2
section
variable {G : Gc} {W : Wsh} {X : Cx}
end
end DL
namespace DL
open PySem PySem.Spec PyProof.Rows L2
section
variable {G : Gc} {W : Wsh} {X : Cx} {B Z H : Hp} {σ : L2.St} {env : DEnv} {Fs : Nat → List Addr}
theorem mut_fin4 {T : List Addr} {Y : Hp} {its : List (Bool × D)} {vs : List V} (gd : Good G B Z H σ env Fs) (hd : Hand G B Z H Y Fs its vs T) {a : Addr} {u u2 : HO} {d2 : D} {v : V} (ha : a ∈ T) (hH : H a = some u) (hM : Mut (some u)) (o2 : Own G Z (upd H a u2) d2 v T) {Q : VK}
    (hF : FinO G W B Z H σ env (PT_ Fs T) [v] (.ok (.non, [d2], env)) Q) : Q .non (upd H a u2) := by
  have sb : Same B (upd H a u2) := fun b u e => by
    rw [upd_ne (fun z => by rw [z, (hd.fr a ha).1] at e; cases e)]
    exact gd.sb b u e
  have sz : Same Z (upd H a u2) := fun b u e => by rw [gd.z0] at e; cases e
  have nt : ∀ (b : Addr) (w : HO), H b = some w → Still w → b ≠ a := fun b w e st z => by
    rw [z, hH] at e; cases e; exact st hM
  have st : Stp G B Z H σ env (PT_ Fs T) Z (upd H a u2) σ env Fs := by
    refine ⟨Same.refl Z, fun b u e n => ?_, ⟨sb, sz, gd.len, fun i => (gd.sl i).keep gd.sb gd.sz sb sz (Same.refl Z) fun b u e m => ?_, gd.nd, gd.dj, gd.fr, gd.z0, gd.gb⟩, fun b m => .inr (.inl m), fun _ m => .inl m, fun j d e => ⟨⟨d, e⟩, rfl⟩, fun j d e => ⟨e, rfl⟩, fun j d e => ⟨e, rfl⟩, fun j d e => ⟨e, rfl⟩, rfl⟩
    · rw [upd_ne (fun z => n (.inr (by rw [z]; exact ha)))]
      exact e
    · rw [upd_ne (fun z => ?_)]
      · exact e
      · rcases m with m | nm
        · exact hd.dj a ha ⟨i, by rw [← z]; exact m⟩
        · exact nt b u e nm z
  refine hF .non Z _ Fs T ⟨st, ⟨.non, [v], [], T, rfl, rfl, ⟨rfl, rfl⟩, ⟨v, [], T, [], rfl, by simp, o2, rfl, rfl⟩⟩, hd.nd, fun b m => hd.dj b m, fun b m => hd.fr b m, fun b m => .inr (.inr m)⟩
def appIxK (k : Int) : Kn := fun ds e => match ds with
  | [.lst xs, y] => match ixN xs.length k with
    | some i => match xs[i]? with
      | some (.lst ys) => if ys.length < 16777216 ∧ y.pure = true then .ok (.non, [.lst (xs.set i (.lst (ys ++ [y])))], e) else .bad
      | _ => .bad
    | none => .bad
  | _ => .bad
def rAppIx (k : Int) : List V → Hp → VK → Prop := fun vs H Q => ∃ a ws l us x, vs = [.ref a, x] ∧ H a = some (.lst ws) ∧ atI ws k = some (.ref l) ∧ H l = some (.lst us) ∧ us.length < sizeLine ∧ Q .non (upd H l (.lst (us ++ [x])))
/-- an item of an owned row, and what stands about it -/
theorem OwnL.atF {xs : List D} {ws : List V} {F : List Addr} {i : Nat} {d : D} (o : OwnL G Z H xs ws F) (hi : xs[i]? = some d) : ∃ w1 v w2 G1 G3 G4, xs = xs.take i ++ d :: xs.drop (i + 1) ∧ ws = w1 ++ v :: w2 ∧ w1.length = i ∧ F = G1 ++ (G3 ++ G4) ∧ OwnL G Z H (xs.take i) w1 G1 ∧ Own G Z H d v G3 ∧ OwnL G Z H (xs.drop (i + 1)) w2 G4 := by
  obtain ⟨hl, e⟩ := List.getElem?_eq_some_iff.mp hi
  have ex : xs = xs.take i ++ d :: xs.drop (i + 1) := by
    rw [← e, List.getElem_cons_drop, List.take_append_drop]
  rw [ex] at o
  obtain ⟨w1, w2, G1, G2, e1, e2, o1, o2⟩ := OwnL.split o
  obtain ⟨v, r, G3, G4, e3, e4, o3, o4⟩ := o2
  subst e3 e4
  exact ⟨w1, v, r, G1, G3, G4, ex, e1, by rw [OwnL.length o1, List.length_take]; omega, e2, o1, o3, o4⟩
theorem k_appIx {k : Int} : KOk G W [true, false] [true, true] (rAppIx k) (appIxK k) := by
  intro B Z H σ env Fs its vs T ios Q gd hd hb hn hF
  obtain ⟨d1, y, rfl⟩ := its2 hb
  unfold appIxK at hF
  split at hF
  · rename_i xs y' e
    cases e
    cases hix : ixN xs.length k with
    | none => rw [hix] at hF; exact hF.elim
    | some i =>
      rw [hix] at hF
      simp only at hF
      split at hF
      · rename_i ys hx
        split at hF
        · rename_i hl
          obtain ⟨hl, hyp⟩ := hl
          obtain ⟨v, w, F1, F2, rfl, rfl, h1, h2⟩ := hand2 hd.own
          obtain ⟨rfl, h2'⟩ := Own.ofPure (Z' := Z) _ w F2 hyp h2
          obtain ⟨a, ws, F', rfl, rfl, hH, o⟩ := h1.alive gd.z0
          have hwl := OwnL.length o
          obtain ⟨w1, vi, w2, G1, G3, G4, ex, ews, hw1, rfl, o1, o3, o4⟩ := OwnL.atF o hx
          obtain ⟨l, us, F3, rfl, rfl, hHl, o5⟩ := o3.alive gd.z0
          have hn : ios = [.ref a] := hn
          subst hn
          have nd := hd.nd
          rw [List.append_nil] at nd
          have nd1 := List.nodup_cons.mp nd
          have nd2 := List.nodup_append.mp nd1.2
          have nd3 := List.nodup_append.mp nd2.2.1
          have nd4 := List.nodup_cons.mp nd3.1
          have hat : atI ws k = some (.ref l) := by
            unfold atI
            rw [hwl, hix, ews]
            show (w1 ++ V.ref l :: w2)[i]? = _
            rw [← hw1, List.getElem?_append_right (Nat.le_refl _), Nat.sub_self]
            rfl
          refine ⟨a, ws, l, us, w, rfl, hH, hat, hHl, by rw [← size_line, OwnL.length o5]; exact hl, ?_⟩
          have hla : l ≠ a := fun z => nd1.1 (by rw [← z]; simp)
          have kp : ∀ (b : Addr) (u : HO), H b = some u → b ≠ l → upd H l (.lst (us ++ [w])) b = some u := fun b u e n => by rw [upd_ne n]; exact e
          have stl : ∀ (b : Addr) (u : HO), H b = some u → Still u → b ≠ l := fun b u e st z => by
            rw [z, hHl] at e; cases e; exact st trivial
          refine mut_fin4 gd hd (by simp) hHl trivial ?_ hF
          refine ⟨a, ws, G1 ++ (l :: F3 ++ G4), rfl, .inr ⟨by simp, kp a _ hH hla.symm⟩, ?_⟩
          have es : xs.set i (.lst (ys ++ [y])) = xs.take i ++ .lst (ys ++ [y]) :: xs.drop (i + 1) := by
            have hil := (List.getElem?_eq_some_iff.mp hx).1
            rw [List.set_eq_take_append_cons_drop, if_pos hil]
          rw [es, ews]
          refine OwnL.append (OwnL.keep (Same.refl Z) _ _ _ (fun b u e m => kp b u e ?_) o1) ⟨.ref l, w2, l :: F3, G4, rfl, rfl, ⟨l, us ++ [w], F3, rfl, .inr ⟨rfl, upd_same⟩, ?_⟩, OwnL.keep (Same.refl Z) _ _ _ (fun b u e m => kp b u e ?_) o4⟩
          · rcases m with m | m
            · exact fun z => nd2.2.2 b m l (by simp) z
            · exact stl b u e m
          · have oy := OwnL.append (OwnL.keep (Same.refl Z) ys us F3 (fun b u e m => kp b u e (by
              rcases m with m | m
              · exact fun z => nd4.1 (z ▸ m)
              · exact stl b u e m)) o5) (OwnL.one (Own.keep (Same.refl Z) y w [] (fun b u e m => kp b u e (by
              rcases m with m | m
              · cases m
              · exact stl b u e m)) h2'))
            rw [List.append_nil] at oy
            exact oy
          · rcases m with m | m
            · exact fun z => nd3.2.2 l List.mem_cons_self b m z.symm
            · exact stl b u e m
        · exact hF.elim
      · exact hF.elim
  · exact hF.elim
/-- slot j: an owned list of lists; k's item of it gets x -/
def apIx (j : Nat) (hk hx : DEnv → Option D) : DEnv → Out (D × DEnv) := fun env => match env[j]?, hk env with
  | some (some (.own, .lst xs)), some (.int k) => match atI xs k with
    | some (.lst _) => eK (.io j (.fin [.pur hx])) (appIxK k) env
    | _ => .bad
  | _, _ => .bad
theorem tpur_more {h : DEnv → Option D} {Q Q' : VK} (hh : ∀ v H', Same H H' → Q v H' → Q' v H') (t : TPur G h σ H Q) : TPur G h σ H Q' := by
  obtain ⟨B, Z, Fs, env, gd, d, e, q⟩ := t
  exact ⟨B, Z, Fs, env, gd, d, e, fun v H' hs hp ho => hh v H' hs (q v H' hs hp ho)⟩
theorem e_apIx {o i e : Expr} {apos cpos spos : Pos} {j : Nat} {hk hx : DEnv → Option D} (dx : DX X G) (ho : PE X o (tVar j)) (hi : PE X i (TPur G hk)) (he : PE X e (TPur G hx)) (hs : PlainIx i := by exact fun _ _ => rfl)
    (hbase : attributeBase (.Subscript o i spos) "append" X.env (eval (.Subscript o i spos) X.env) = eval (.Subscript o i spos) X.env := by rfl)
    (hfew : ((backTo cpos (starEach [e] X.env)).all (fun x => !x.1) && (backToKw cpos (keywordEach [] X.env)).all (fun x => x.1.isSome)
      && decide ([e].length + ([] : List Keyword).length + (if ([] : List Keyword).isEmpty then 0 else 1) < 30)) = true := by rfl)
    (hline : (apos.endLine == cpos.line) = true := by rfl) (hse : starEach [e] X.env = (false, eval e X.env) :: starEach [] X.env := by rfl) (hplain : (backTo cpos (starEach [] X.env)).any (·.1) = false := by rfl) : PE X (.Call (.Attribute (.Subscript o i spos) "append" apos) [e] [] cpos) (TV G W (apIx j hk hx)) :=
  (pe_bm F.plainAttrs_list F.slot_list_append F.type_list_append mt_append (pe_ix ix_list ho hi hs) (pa_cons he pa_nil (hs := hse)) hbase hfew hline hse hplain).imp fun σ H Q h => by
    obtain ⟨B, Z, Fs, env, gd, q⟩ := h
    unfold apIx at q
    split at q
    · rename_i xs k ej ek
      split at q
      · rename_i ys ea
        obtain ⟨v, ev, ow⟩ : ∃ v, σ[j]? = some (some v) ∧ Own G Z H (.lst xs) v (Fs j) := by
          have := gd.sl j
          unfold SlotOk at this
          rw [ej] at this
          obtain ⟨v, e1, e2⟩ := this
          exact ⟨v, e1, e2⟩
        obtain ⟨a, ws, F', rfl, _, hH, o⟩ := ow.alive gd.z0
        have hwl := OwnL.length o
        obtain ⟨i', hix, hxi⟩ : ∃ i', ixN xs.length k = some i' ∧ xs[i']? = some (.lst ys) := by
          unfold atI at ea
          cases hix : ixN xs.length k with
          | none => rw [hix] at ea; cases ea
          | some i' => rw [hix] at ea; exact ⟨i', rfl, ea⟩
        obtain ⟨w1, vi, w2, G1, G3, G4, ex, ews, hw1, _, _, o3, _⟩ := OwnL.atF o hxi
        obtain ⟨l, us, F3, rfl, _, hHl, _⟩ := o3.alive gd.z0
        have hat : atI ws k = some (.ref l) := by
          unfold atI
          rw [hwl, hix, ews]
          show (w1 ++ V.ref l :: w2)[i']? = _
          rw [← hw1, List.getElem?_append_right (Nat.le_refl _), Nat.sub_self]
          rfl
        refine ⟨.ref a, ev, B, Z, Fs, env, gd, .int k, ek, fun w H1 hs1 _ ho1 => ?_⟩
        have hw : w = .int k := (ho1 Z).1
        subst hw
        have q1 : TV G W (eK (.io j (.fin [.pur hx])) (appIxK k)) σ H1 Q := ⟨B, Z, Fs, env, gd.grow hs1, FinV.later (Stp.grow gd (fun _ m => m) hs1) (fun _ m => .inr m) q⟩
        obtain ⟨v2, ev2, q2⟩ := tv_chn (c := .io j (.fin [.pur hx])) (k_appIx (k := k)) rfl rfl σ H1 Q q1
        rw [ev] at ev2
        cases ev2
        refine ⟨a, ws, k, .ref l, rfl, rfl, by rw [dx.K]; exact .inl (.inl (hs1 _ _ hH)), hat, .inl ⟨rfl, us, .inl (.inl (hs1 _ _ hHl))⟩, ?_⟩
        refine tpur_more (fun u H2 hs2 q3 => ?_) q2
        obtain ⟨a2, ws2, l2, us2, x2, e2, g1, g2, g3, g4, g5⟩ := q3
        cases e2
        rw [hs2 _ _ (hs1 _ _ hH)] at g1
        cases g1
        rw [hat] at g2
        cases g2
        exact ⟨l, us2, u, rfl, rfl, g3, g4, g5⟩
      · exact q.elim
    · exact q.elim
end
@[simp] theorem z_apix {j : Nat} {hk hx : DEnv → Option D} {env : DEnv} : apIx j hk hx env = match env[j]?, hk env with
  | some (some (.own, .lst xs)), some (.int k) => match atI xs k with
    | some (.lst _) => eK (.io j (.fin [.pur hx])) (appIxK k) env
    | _ => .bad
  | _, _ => .bad := rfl
@[simp] theorem z_appixk {k : Int} {xs : List D} {y : D} {e : DEnv} : appIxK k [.lst xs, y] e = match ixN xs.length k with
    | some i => match xs[i]? with
      | some (.lst ys) => if ys.length < 16777216 ∧ y.pure = true then .ok (.non, [.lst (xs.set i (.lst (ys ++ [y])))], e) else .bad
      | _ => .bad
    | none => .bad := rfl
end DL
namespace DL
open PySem PySem.Spec PyProof.Rows L2
section
variable {G : Gc} {W : Wsh} {X : Cx}
end
end DL
namespace DL
open PySem PySem.Spec PyProof.Rows L2
/-- what the top tells of an own refusal's class, made over ValueError -/
structure Ecl (K : PySem.W.Frag) (mg : Str → Option Value) (cl : Str → Option Addr) (c : Str) : Prop where
  ex : ∃ C, cl c = some C ∧ mg c = some (.ref C) ∧ PySem.W.excIn K C [.type "ValueError", .type "Exception", .type "BaseException", .type "object"] "ValueError.__new__" = true ∧ PySem.W.keepIn K (.ref C) = true ∧ PySem.W.subIn K (.ref C) (.type "BaseException") = some true ∧ PySem.W.typeIn K (.ref C) = some (.type "type")
def sRaise (c : Str) : Stm := fun _ => .exc c
section
variable {G : Gc} {W : Wsh} {X : Cx}
theorem s_raise {x m : Str} {j : _} {p p2 pos rpos : Pos} (dw : DXW X G W) (he : Ecl X.K X.mg G.cl x) (hcl : X.calm = true := by rfl) (hg : Gl X x := by rfl) (hdb : (x == ("__debug__" : Str)) = false := by decide) : PS X (.Raise (some (.Call (.Name x p) [.Constant (.str m) j p2] [] pos)) none rpos) (TSt G W (sRaise x)) := by
  obtain ⟨C, h1, h2, h3, h4, h5, h6⟩ := he.ex
  exact (ps_raise hcl dw.tk (pmk_own PySem.F.excBase_ValueError h3 h2 h4 (raises_own h5 h6) hg hdb)).imp fun En σ H ⟨B, Z, Fs, env, gd, q⟩ => ⟨rfl, x, C, rfl, h1, q σ (AgL.refl gd) H gd.sb⟩
end
mutual
/-- no caught refusal in it -/
def D.noE : D → Bool
  | .tupF _ ds => D.noEL ds
  | .lst ds => D.noEL ds
  | .dk _ ds => D.noEL ds
  | .dt _ ds => D.noEL ds
  | .obj c _ ds => decide (c ≠ exName) && D.noEL ds
  | .fob c _ ds => decide (c ≠ exName) && D.noEL ds
  | .exn _ => false
  | .fn c => decide (c ≠ exName)
  | .bor d => D.noE d
  | .non => true
  | .bl _ => true
  | .int _ => true
  | .str _ => true
  | .scr _ => true
def D.noEL : List D → Bool
  | [] => true
  | d :: r => d.noE && D.noEL r
end
/-- the table with the caught one -/
def clE (cl : Str → Option Addr) (a : Addr) : Str → Option Addr := fun c => if c = exName then some a else cl c
theorem clE_up {cl : Str → Option Addr} {a : Addr} (h : cl exName = none) {c : Str} {C : Addr} (e : cl c = some C) : clE cl a c = some C := by
  unfold clE
  rw [if_neg (fun z => by rw [z, h] at e; cases e)]
  exact e
theorem clE_dn {cl : Str → Option Addr} {a : Addr} {c : Str} (h : c ≠ exName) : clE cl a c = cl c := if_neg h
section
variable {K : PySem.W.Frag} {cl : Str → Option Addr} {bo : Hp} {a : Addr}
mutual
theorem Own.clUp (hx : cl exName = none) {H : Hp} : ∀ (Z : Hp) (d : D) (v : V) (F : List Addr), Own ⟨K, cl, bo⟩ Z H d v F → Own ⟨K, clE cl a, bo⟩ Z H d v F
  | _, .non, _, _, h => h
  | _, .bl _, _, _, h => h
  | _, .int _, _, _, h => h
  | _, .str _, _, _, h => h
  | _, .scr _, _, _, h => h
  | Z, .tupF f ds, v, F, h => by
    obtain ⟨a, vs, e, h1, h2⟩ := h
    exact ⟨a, vs, e, h1, OwnL.clUp hx Z ds vs F h2⟩
  | Z, .lst ds, v, F, h => by
    obtain ⟨a, vs, F', e, n, h2⟩ := h
    exact ⟨a, vs, F', e, n, OwnL.clUp hx Z ds vs F' h2⟩
  | Z, .dk ks ds, v, F, h => by
    obtain ⟨a, vs, F', e, l, n, h2⟩ := h
    exact ⟨a, vs, F', e, l, n, OwnL.clUp hx Z ds vs F' h2⟩
  | Z, .dt ks ds, v, F, h => by
    obtain ⟨a, vs, F', e, l, n, h2⟩ := h
    exact ⟨a, vs, F', e, l, n, OwnL.clUp hx Z ds vs F' h2⟩
  | Z, .obj c fs ds, v, F, h => by
    obtain ⟨b, vs, F', C, dx, e, ec, l, n, h2⟩ := h
    exact ⟨b, vs, F', C, dx, e, clE_up hx ec, l, n, OwnL.clUp hx Z ds vs F' h2⟩
  | Z, .fob c fs ds, v, F, h => by
    obtain ⟨b, vs, C, dx, e, ec, l, n, h2⟩ := h
    exact ⟨b, vs, C, dx, e, clE_up hx ec, l, n, OwnL.clUp hx Z ds vs F h2⟩
  | _, .exn _, _, _, h => by
    obtain ⟨_, b, _, e⟩ := h
    rw [show (⟨K, cl, bo⟩ : Gc).cl exName = none from hx] at e
    cases e
  | _, .bor d, v, F, h => ⟨h.1, Own.clUp hx bo d v [] h.2.1, h.2.2⟩
  | _, .fn c, _, _, h => ⟨h.1, h.2.imp fun _ z => ⟨z.1, clE_up hx z.2⟩⟩
theorem OwnL.clUp (hx : cl exName = none) {H : Hp} : ∀ (Z : Hp) (ds : List D) (vs : List V) (F : List Addr), OwnL ⟨K, cl, bo⟩ Z H ds vs F → OwnL ⟨K, clE cl a, bo⟩ Z H ds vs F
  | _, [], _, _, h => h
  | Z, d :: ds, vs, F, h => by
    obtain ⟨v, r, F1, F2, e1, e2, h1, h2⟩ := h
    exact ⟨v, r, F1, F2, e1, e2, Own.clUp hx Z d v F1 h1, OwnL.clUp hx Z ds r F2 h2⟩
end
mutual
theorem Own.clDn {H : Hp} : ∀ (Z : Hp) (d : D) (v : V) (F : List Addr), d.noE = true → Own ⟨K, clE cl a, bo⟩ Z H d v F → Own ⟨K, cl, bo⟩ Z H d v F
  | _, .non, _, _, _, h => h
  | _, .bl _, _, _, _, h => h
  | _, .int _, _, _, _, h => h
  | _, .str _, _, _, _, h => h
  | _, .scr _, _, _, _, h => h
  | Z, .tupF f ds, v, F, q, h => by
    obtain ⟨a, vs, e, h1, h2⟩ := h
    exact ⟨a, vs, e, h1, OwnL.clDn Z ds vs F q h2⟩
  | Z, .lst ds, v, F, q, h => by
    obtain ⟨a, vs, F', e, n, h2⟩ := h
    exact ⟨a, vs, F', e, n, OwnL.clDn Z ds vs F' q h2⟩
  | Z, .dk ks ds, v, F, q, h => by
    obtain ⟨a, vs, F', e, l, n, h2⟩ := h
    exact ⟨a, vs, F', e, l, n, OwnL.clDn Z ds vs F' q h2⟩
  | Z, .dt ks ds, v, F, q, h => by
    obtain ⟨a, vs, F', e, l, n, h2⟩ := h
    exact ⟨a, vs, F', e, l, n, OwnL.clDn Z ds vs F' q h2⟩
  | Z, .obj c fs ds, v, F, q, h => by
    have q : (decide (c ≠ exName) && D.noEL ds) = true := q
    rw [Bool.and_eq_true, decide_eq_true_eq] at q
    obtain ⟨b, vs, F', C, dx, e, ec, l, n, h2⟩ := h
    exact ⟨b, vs, F', C, dx, e, (clE_dn q.1).symm.trans ec, l, n, OwnL.clDn Z ds vs F' q.2 h2⟩
  | Z, .fob c fs ds, v, F, q, h => by
    have q : (decide (c ≠ exName) && D.noEL ds) = true := q
    rw [Bool.and_eq_true, decide_eq_true_eq] at q
    obtain ⟨b, vs, C, dx, e, ec, l, n, h2⟩ := h
    exact ⟨b, vs, C, dx, e, (clE_dn q.1).symm.trans ec, l, n, OwnL.clDn Z ds vs F q.2 h2⟩
  | _, .exn _, _, _, q, _ => by cases q
  | _, .bor d, v, F, q, h => ⟨h.1, Own.clDn bo d v [] q h.2.1, h.2.2⟩
  | _, .fn c, _, _, q, h => ⟨h.1, h.2.imp fun _ z => ⟨z.1, (clE_dn (of_decide_eq_true (show decide (c ≠ exName) = true from q))).symm.trans z.2⟩⟩
theorem OwnL.clDn {H : Hp} : ∀ (Z : Hp) (ds : List D) (vs : List V) (F : List Addr), D.noEL ds = true → OwnL ⟨K, clE cl a, bo⟩ Z H ds vs F → OwnL ⟨K, cl, bo⟩ Z H ds vs F
  | _, [], _, _, _, h => h
  | Z, d :: ds, vs, F, q, h => by
    have q' : (d.noE && D.noEL ds) = true := q
    rw [Bool.and_eq_true] at q'
    obtain ⟨v, r, F1, F2, e1, e2, h1, h2⟩ := h
    exact ⟨v, r, F1, F2, e1, e2, Own.clDn Z d v F1 q'.1 h1, OwnL.clDn Z ds r F2 q'.2 h2⟩
end
end
end DL
namespace DL
open PySem PySem.Spec PyProof.Rows L2
/-- a slot that is kept over a try: one of ks, or one that is read elsewhere anyway -/
def kpB (ks : List Nat) (env : DEnv) (j : Nat) : Bool := match env[j]? with
  | some (some (.own, _)) => decide (j ∈ ks)
  | some (some (.brw, _)) => decide (j ∈ ks)
  | some (some (.lck, _)) => true
  | _ => false
def hold1 (k : Bool) : Slot → Slot
  | some (.own, d) => some (if k = true then .lck else .own, d)
  | some (.brw, d) => some (if k = true then .lck else .brw, d)
  | s => s
def hold (ks : List Nat) (env : DEnv) : DEnv := env.mapIdx fun j s => hold1 (decide (j ∈ ks)) s
def onlyK (ks : List Nat) (env : DEnv) : DEnv := env.mapIdx fun j s => if kpB ks env j = true then s else none
def noIoS (env : DEnv) : Bool := env.all fun s => match s with
  | some (.io, _) => false
  | some (.shr, _) => false
  | _ => true
def noEs (env : DEnv) : Bool := env.all fun s => match s with
  | some (_, d) => d.noE
  | none => true
section
variable {G : Gc} {B Z H : Hp} {σ : L2.St} {env : DEnv} {Fs : Nat → List Addr} {ks : List Nat}
theorem hold_at {j : Nat} : (hold ks env)[j]? = env[j]?.map (hold1 (decide (j ∈ ks))) := by
  unfold hold; rw [List.getElem?_mapIdx]
theorem onlyK_at {j : Nat} : (onlyK ks env)[j]? = env[j]?.map fun s => if kpB ks env j = true then s else none := by
  unfold onlyK; rw [List.getElem?_mapIdx]
/-- what a slot that is not kept owns -/
def Ow (ks : List Nat) (env : DEnv) (Fs : Nat → List Addr) (a : Addr) : Prop := ∃ i, kpB ks env i = false ∧ a ∈ Fs i
open Classical in
/-- all but that stands -/
noncomputable def holdB (B H : Hp) (ks : List Nat) (env : DEnv) (Fs : Nat → List Addr) : Hp := fun a => if Ow ks env Fs a then B a else H a
def holdF (ks : List Nat) (env : DEnv) (Fs : Nat → List Addr) : Nat → List Addr := fun i => if kpB ks env i = true then [] else Fs i
theorem holdF_sub {a : Addr} {i : Nat} (m : a ∈ holdF ks env Fs i) : a ∈ Fs i ∧ kpB ks env i = false := by
  unfold holdF at m
  split at m
  · cases m
  · rename_i h
    exact ⟨m, by simpa using h⟩
theorem holdB_ow {a : Addr} (h : Ow ks env Fs a) : holdB B H ks env Fs a = B a := by unfold holdB; rw [if_pos h]
theorem holdB_no {a : Addr} (h : ¬ Ow ks env Fs a) : holdB B H ks env Fs a = H a := by unfold holdB; rw [if_neg h]
theorem holdB_le (g : Good G B Z H σ env Fs) : Same (holdB B H ks env Fs) H := fun a o e => by
  by_cases h : Ow ks env Fs a
  · rw [holdB_ow h] at e; exact g.sb a o e
  · rw [holdB_no h] at e; exact e
theorem holdB_up (g : Good G B Z H σ env Fs) : Same B (holdB B H ks env Fs) := fun a o e => by
  by_cases h : Ow ks env Fs a
  · rw [holdB_ow h]; exact e
  · rw [holdB_no h]; exact g.sb a o e
theorem not_ow (g : Good G B Z H σ env Fs) {a : Addr} {j : Nat} (hk : kpB ks env j = true) (m : a ∈ Fs j) : ¬ Ow ks env Fs a := fun ⟨i, h1, h2⟩ => by
  have := g.dj i j a h2 m
  rw [this, hk] at h1
  cases h1
theorem not_ow_still (g : Good G B Z H σ env Fs) {a : Addr} {u : HO} (e : H a = some u) (st : Still u) : ¬ Ow ks env Fs a := fun ⟨i, _, h2⟩ => g.tup e st ⟨i, h2⟩
theorem noIo_at (h : noIoS env = true) {j : Nat} {d : D} : env[j]? ≠ some (some (.io, d)) ∧ env[j]? ≠ some (some (.shr, d)) := by
  constructor
  · intro e
    have := List.all_eq_true.mp h _ (List.mem_of_getElem? e)
    exact Bool.false_ne_true this
  · intro e
    have := List.all_eq_true.mp h _ (List.mem_of_getElem? e)
    exact Bool.false_ne_true this
theorem Good.hold (g : Good G B Z H σ env Fs) (hio : noIoS env = true) : Good G (holdB B H ks env Fs) Z H σ (hold ks env) (holdF ks env Fs) := by
  have le := holdB_le (ks := ks) g
  have up := holdB_up (ks := ks) g
  have jm : Same (joi B Z) (joi (holdB B H ks env Fs) Z) := joi_mono up (Same.refl Z) le g.sz
  have zr : Same Z (joi (holdB B H ks env Fs) Z) := joi_right le g.sz
  refine ⟨le, g.sz, by unfold DL.hold; rw [List.length_mapIdx]; exact g.len, fun i => ?_, fun i => ?_, fun i j a m n => g.dj i j a (holdF_sub m).1 (holdF_sub n).1, fun i a m => ?_, g.z0, g.gb.trans up⟩
  · have hs := g.sl i
    rw [hold_at]
    cases he : env[i]? with
    | none =>
      rw [he] at hs
      have : Fs i = [] := hs
      show holdF ks env Fs i = []
      unfold holdF
      rw [this]
      split <;> rfl
    | some s =>
      rw [he] at hs
      match s, he, hs with
      | none, he, hs =>
        have : Fs i = [] := hs
        show holdF ks env Fs i = []
        unfold holdF
        rw [this]
        split <;> rfl
      | some (.own, d), he, hs =>
        obtain ⟨v, ev, ho⟩ := hs
        have hk : kpB ks env i = decide (i ∈ ks) := by unfold kpB; rw [he]
        by_cases hm : i ∈ ks
        · rw [decide_eq_true hm]
          refine ⟨v, ev, ?_, ?_⟩
          · refine Own.freeze zr d v (Fs i) (fun b u m e => ?_) ho
            refine joi_left b u ?_
            rw [holdB_no (not_ow g (by rw [hk]; exact decide_eq_true hm) m)]
            exact e
          · unfold holdF
            rw [hk, decide_eq_true hm]
            rfl
        · rw [decide_eq_false hm]
          refine ⟨v, ev, ?_⟩
          have : holdF ks env Fs i = Fs i := by
            unfold holdF
            rw [hk, decide_eq_false hm]
            rfl
          rw [this]
          exact ho
      | some (.brw, d), he, hs =>
        obtain ⟨v, ev, ho, hf⟩ := hs
        have hF : holdF ks env Fs i = [] := by
          unfold holdF
          rw [hf]
          split <;> rfl
        have ho2 := Own.keep jm d v [] (fun _ _ e _ => e) ho
        by_cases hm : i ∈ ks
        · rw [decide_eq_true hm]; exact ⟨v, ev, ho2, hF⟩
        · rw [decide_eq_false hm]; exact ⟨v, ev, ho2, hF⟩
      | some (.lck, d), he, hs =>
        obtain ⟨v, ev, ho, hf⟩ := hs
        have hF : holdF ks env Fs i = [] := by
          unfold holdF
          rw [hf]
          split <;> rfl
        exact ⟨v, ev, Own.keep jm d v [] (fun _ _ e _ => e) ho, hF⟩
      | some (.io, d), he, hs => exact absurd he (noIo_at hio).1
      | some (.shr, d), he, hs => exact absurd he (noIo_at hio).2
  · unfold holdF
    split
    · exact List.nodup_nil
    · exact g.nd i
  · obtain ⟨m1, m2⟩ := holdF_sub m
    exact ⟨(holdB_ow ⟨i, m2, m1⟩).trans (g.fr i a m1).1, (g.fr i a m1).2⟩
theorem kp_slot {j : Nat} (h : kpB ks env j = true) : ∃ m d, env[j]? = some (some (m, d)) ∧ (hold ks env)[j]? = some (some (.lck, d)) ∧ (m = .own ∨ m = .brw ∨ m = .lck) := by
  unfold kpB at h
  split at h
  · rename_i d e
    exact ⟨.own, d, e, by rw [hold_at, e]; simp [hold1, h], .inl rfl⟩
  · rename_i d e
    exact ⟨.brw, d, e, by rw [hold_at, e]; simp [hold1, h], .inr (.inl rfl)⟩
  · rename_i d e
    exact ⟨.lck, d, e, by rw [hold_at, e]; simp [hold1], .inr (.inr rfl)⟩
  · cases h
/-- a kept slot at a heap where what was held stands -/
theorem kept_slot (g : Good G B Z H σ env Fs) {Z' H' : Hp} {σ' : L2.St} (hz : Same Z Z') (hH : Same (holdB B H ks env Fs) H') (sz' : Same Z' H') {j : Nat} (hk : kpB ks env j = true) (hσ : σ'[j]? = σ[j]?) : SlotOk G B Z' H' σ'[j]? env[j]? (Fs j) := by
  obtain ⟨m, d, e, _, hm⟩ := kp_slot hk
  have hs := g.sl j
  have sbH : Same B H' := (holdB_up g).trans hH
  have st : ∀ b u, H b = some u → Still u → H' b = some u := fun b u e s => hH b u (by rw [holdB_no (not_ow_still g e s)]; exact e)
  have jm : Same (joi B Z) (joi B Z') := joi_mono (Same.refl B) hz sbH sz'
  rw [e] at hs ⊢
  rw [hσ]
  rcases hm with rfl | rfl | rfl
  · obtain ⟨v, ev, ho⟩ := hs
    exact ⟨v, ev, Own.keep hz d v (Fs j) (fun b u e m => m.elim (fun m => hH b u (by rw [holdB_no (not_ow g hk m)]; exact e)) (st b u e)) ho⟩
  · obtain ⟨v, ev, ho, hf⟩ := hs
    exact ⟨v, ev, Own.keep jm d v [] (fun b u e m => m.elim (fun m => by cases m) (st b u e)) ho, hf⟩
  · obtain ⟨v, ev, ho, hf⟩ := hs
    exact ⟨v, ev, Own.keep jm d v [] (fun b u e m => m.elim (fun m => by cases m) (st b u e)) ho, hf⟩
end
end DL
namespace DL
open PySem PySem.Spec PyProof.Rows L2
section
variable {K : PySem.W.Frag} {cl : Str → Option Addr} {bo : Hp} {W : Wsh} {X : Cx} {B Z H : Hp} {σ : L2.St} {env : DEnv} {Fs : Nat → List Addr} {ks : List Nat}
/-- the suite's start -/
def suiF (ks : List Nat) (env : DEnv) (Fs : Nat → List Addr) : Nat → List Addr := fun j => if kpB ks env j = true then Fs j else []
theorem suiF_sub {a : Addr} {j : Nat} (m : a ∈ suiF ks env Fs j) : a ∈ Fs j ∧ kpB ks env j = true := by
  unfold suiF at m
  split at m
  · rename_i h; exact ⟨m, h⟩
  · cases m
theorem Good.suite {i : Nat} {c : Str} {a : Addr} {H' : Hp} {σ' : L2.St} (g : Good ⟨K, cl, bo⟩ B Z H σ env Fs) (hx : cl exName = none) (hi : kpB ks env i = false) (hil : i < env.length) (hH : Same (holdB B H ks env Fs) H') (ag : AgL (DL.hold ks env) σ σ') : Good ⟨K, clE cl a, bo⟩ B Z H' (σ'.set i (some (.ref a))) ((onlyK ks env).set i (some (.own, .exn c))) (suiF ks env Fs) := by
  have sbH : Same B H' := (holdB_up g).trans hH
  have szH : Same Z H' := fun b u e => by rw [g.z0] at e; cases e
  refine ⟨sbH, szH, by rw [List.length_set, List.length_set, ag.1]; unfold onlyK DL.hold; rw [List.length_mapIdx, List.length_mapIdx], fun j => ?_, fun j => ?_, fun j k b m n => g.dj j k b (suiF_sub m).1 (suiF_sub n).1, fun j b m => g.fr j b (suiF_sub m).1, g.z0, g.gb⟩
  · by_cases hj : i = j
    · subst hj
      rw [List.getElem?_set_self (show i < σ'.length by rw [ag.1]; unfold DL.hold; rw [List.length_mapIdx]; exact hil), List.getElem?_set_self (show i < (onlyK ks env).length by unfold onlyK; rw [List.length_mapIdx]; exact hil)]
      refine ⟨.ref a, rfl, ?_, a, rfl, ?_⟩
      · unfold suiF
        rw [hi]
        rfl
      · show clE cl a exName = some a
        unfold clE
        rw [if_pos rfl]
    · rw [List.getElem?_set_ne hj, List.getElem?_set_ne hj, onlyK_at]
      by_cases hk : kpB ks env j = true
      · obtain ⟨m, d, e, e2, hm⟩ := kp_slot hk
        have hs := kept_slot (ks := ks) g (Same.refl Z) hH szH hk (ag.2 j d e2)
        have hF : suiF ks env Fs j = Fs j := by unfold suiF; rw [if_pos hk]
        rw [e] at hs ⊢
        rw [Option.map_some, if_pos hk, hF]
        rcases hm with rfl | rfl | rfl
        · obtain ⟨v, ev, ho⟩ := hs
          exact ⟨v, ev, Own.clUp hx _ _ _ _ ho⟩
        · obtain ⟨v, ev, ho, hf⟩ := hs
          exact ⟨v, ev, Own.clUp hx _ _ _ _ ho, hf⟩
        · obtain ⟨v, ev, ho, hf⟩ := hs
          exact ⟨v, ev, Own.clUp hx _ _ _ _ ho, hf⟩
      · have hF : suiF ks env Fs j = [] := by unfold suiF; rw [if_neg hk]
        rw [hF]
        cases env[j]? with
        | none => exact rfl
        | some s =>
          rw [Option.map_some, if_neg hk]
          exact rfl
  · unfold suiF
    split
    · exact g.nd j
    · exact List.nodup_nil
theorem noEs_at {e : DEnv} (h : noEs e = true) {j : Nat} {m : Md} {d : D} (he : e[j]? = some (some (m, d))) : d.noE = true := List.all_eq_true.mp h _ (List.mem_of_getElem? he)
/-- from the suite's start to its end, as a step of the try -/
theorem Stp.suite {i : Nat} {c : Str} {a : Addr} {H' Z2 H2 : Hp} {σ' σ2 : L2.St} {e2 : DEnv} {F2 : Nat → List Addr} (g : Good ⟨K, cl, bo⟩ B Z H σ env Fs) (hio : noIoS env = true) (hi : kpB ks env i = false) (hil : i < env.length) (hH : Same (holdB B H ks env Fs) H') (ag : AgL (DL.hold ks env) σ σ') (hn : noEs (e2.set i none) = true)
    (s : Stp ⟨K, clE cl a, bo⟩ B Z H' (σ'.set i (some (.ref a))) ((onlyK ks env).set i (some (.own, .exn c))) (InF (suiF ks env Fs)) Z2 H2 σ2 e2 F2) : Stp ⟨K, cl, bo⟩ B Z H σ env (InF Fs) Z2 H2 (σ2.set i none) (e2.set i none) (fun j => if j = i then [] else F2 j) := by
  have gd := s.good
  have old : ∀ b u, H b = some u → ¬ InF Fs b → H' b = some u := fun b u e n => hH b u (by
    rw [holdB_no (fun ⟨k, _, m⟩ => n ⟨k, m⟩)]; exact e)
  have sub : ∀ b, InF (suiF ks env Fs) b → InF Fs b := fun b ⟨j, m⟩ => ⟨j, (suiF_sub m).1⟩
  have back : ∀ b, H' b = none → H b = none ∨ InF Fs b := fun b z => by
    cases q : H b with
    | none => exact .inl rfl
    | some u =>
      refine .inr (Classical.byContradiction fun n => ?_)
      rw [old b u q n] at z
      cases z
  have hlen : e2.length = env.length := s.ln.trans (by rw [List.length_set]; unfold onlyK; rw [List.length_mapIdx])
  -- slots of the start
  have st1 : ∀ j, j ≠ i → ((onlyK ks env).set i (some (.own, .exn c)))[j]? = env[j]?.map (fun s => if kpB ks env j = true then s else none) := fun j hj => by
    rw [List.getElem?_set_ne (fun z => hj z.symm), onlyK_at]
  have stσ : ∀ j d, kpB ks env j = true → (DL.hold ks env)[j]? = some (some (.lck, d)) → j ≠ i → (σ'.set i (some (V.ref a)) : L2.St)[j]? = σ[j]? := fun j d hk e hj => by
    rw [List.getElem?_set_ne (fun z => hj z.symm)]
    exact ag.2 j d e
  refine ⟨s.zz, fun b u e n => s.ext b u (old b u e n) fun m => n (sub b m), ⟨gd.sb, gd.sz, by rw [List.length_set, List.length_set]; exact gd.len, fun j => ?_, fun j => ?_, fun j k b m n => ?_, fun j b m => ?_, gd.z0, g.gb⟩, fun b m => ?_, fun b m => ?_, fun j d h => absurd h (noIo_at hio).1, fun j d h => ?_, fun j d h => ?_, fun j d h => ?_, by rw [List.length_set]; exact hlen⟩
  · by_cases hj : j = i
    · subst hj
      simp only [if_pos]
      cases q : (e2.set j none)[j]? with
      | none => exact rfl
      | some sl =>
        have : sl = none := by
          rw [List.getElem?_set_self (by omega)] at q
          cases q; rfl
        subst this
        exact rfl
    · simp only [if_neg hj]
      have hs := gd.sl j
      rw [List.getElem?_set_ne (fun z => hj z.symm), List.getElem?_set_ne (fun z => hj z.symm)]
      cases he : e2[j]? with
      | none => rw [he] at hs; exact hs
      | some sl =>
        rw [he] at hs
        match sl, he, hs with
        | none, he, hs => exact hs
        | some (m, d), he, hs =>
          have hd : d.noE = true := noEs_at hn (j := j) (m := m) (by rw [List.getElem?_set_ne (fun z => hj z.symm)]; exact he)
          cases m with
          | own => obtain ⟨v, ev, ho⟩ := hs; exact ⟨v, ev, Own.clDn _ _ _ _ hd ho⟩
          | io => obtain ⟨v, ev, ho⟩ := hs; exact ⟨v, ev, Own.clDn _ _ _ _ hd ho⟩
          | shr => obtain ⟨v, ev, ho, hf⟩ := hs; exact ⟨v, ev, Own.clDn _ _ _ _ hd ho, hf⟩
          | brw => obtain ⟨v, ev, ho, hf⟩ := hs; exact ⟨v, ev, Own.clDn _ _ _ _ hd ho, hf⟩
          | lck => obtain ⟨v, ev, ho, hf⟩ := hs; exact ⟨v, ev, Own.clDn _ _ _ _ hd ho, hf⟩
  · show (if j = i then ([] : List Addr) else F2 j).Nodup
    split
    · exact List.nodup_nil
    · exact gd.nd j
  · split at m
    · cases m
    · split at n
      · cases n
      · exact gd.dj j k b m n
  · split at m
    · cases m
    · exact gd.fr j b m
  · obtain ⟨j, m⟩ := m
    have m : b ∈ (if j = i then ([] : List Addr) else F2 j) := m
    split at m
    · cases m
    · rcases s.new b ⟨j, m⟩ with z | z
      · exact back b z
      · exact .inr (sub b z)
  · rcases s.newz b m with z | z | z
    · exact .inl z
    · exact .inr (back b z)
    · exact .inr (.inr (sub b z))
  · have hk : kpB ks env j = true := by unfold kpB; rw [h]
    have hj : j ≠ i := fun z => by rw [z, hi] at hk; cases hk
    obtain ⟨m', d', q1, q2, _⟩ := kp_slot hk
    rw [h] at q1
    cases q1
    have h1 := st1 j hj
    rw [h, Option.map_some, if_pos hk] at h1
    obtain ⟨p1, p2⟩ := s.lk j d h1
    rw [List.getElem?_set_ne (fun z => hj z.symm), List.getElem?_set_ne (fun z => hj z.symm)]
    exact ⟨p1, p2.trans (stσ j d hk q2 hj)⟩
  · have hj : j ≠ i := fun z => by
      rw [z, List.getElem?_set_self (by omega)] at h
      cases h
    rw [List.getElem?_set_ne (fun z => hj z.symm)] at h
    obtain ⟨p1, p2⟩ := s.bw j d h
    rw [st1 j hj] at p1
    by_cases hk : kpB ks env j = true
    · obtain ⟨m', d', q1, q2, _⟩ := kp_slot hk
      rw [q1, Option.map_some, if_pos hk] at p1
      cases p1
      rw [List.getElem?_set_ne (fun z => hj z.symm)]
      exact ⟨q1, p2.trans (stσ j d hk q2 hj)⟩
    · cases q : env[j]? with
      | none => rw [q] at p1; cases p1
      | some sl => rw [q, Option.map_some, if_neg hk] at p1; cases p1
  · have hj : j ≠ i := fun z => by
      rw [z, List.getElem?_set_self (by omega)] at h
      cases h
    rw [List.getElem?_set_ne (fun z => hj z.symm)] at h
    obtain ⟨p1, p2⟩ := s.lb j d h
    rw [st1 j hj] at p1
    by_cases hk : kpB ks env j = true
    · obtain ⟨m', d', q1, q2, _⟩ := kp_slot hk
      rw [q1, Option.map_some, if_pos hk] at p1
      cases p1
      rw [List.getElem?_set_ne (fun z => hj z.symm)]
      exact ⟨q1, p2.trans (stσ j d hk q2 hj)⟩
    · cases q : env[j]? with
      | none => rw [q] at p1; cases p1
      | some sl => rw [q, Option.map_some, if_neg hk] at p1; cases p1
end
end DL
namespace DL
open PySem PySem.Spec PyProof.Rows L2
section
variable {K : PySem.W.Frag} {cl : Str → Option Addr} {bo : Hp} {W : Wsh} {X : Cx}
theorem DXW.tr {pn : List (Addr × Obj)} {xe : Value → Shared → Prop} {Wk : WX} (dw : DXW X ⟨K, cl, bo⟩ W) (tk : Takes (X.tr pn xe) Wk) : DXW (X.tr pn xe) ⟨K, cl, bo⟩ (fun c σ H => ∃ C, cl c = some C ∧ Wk (.ref C) none σ H) :=
  ⟨⟨dw.dx.K, dw.dx.nd, dw.dx.un⟩, fun c σ H ⟨C, e, _⟩ => ⟨C, e⟩, tk.imp fun cls d σ H' ⟨e, c, C, e2, e3, C', e4, w⟩ => by
    have e3 : cl c = some C := e3
    rw [e3] at e4
    cases e4
    subst e e2
    exact w⟩
/-- what a clause says of a class: taken, or not -/
def ClOf (K : PySem.W.Frag) (cl : Str → Option Addr) (CX : Addr) (b : Bool) (cs : List Str) : Prop := ∀ c ∈ cs, ∃ C, cl c = some C ∧ PySem.W.exmOne K (.ref C) (.ref CX) = some b
end
end DL
namespace DL
open PySem PySem.Spec PyProof.Rows L2
/-- slot i: the caught refusal, of the class c: so the answer is b -/
def hIsE (i : Nat) (c : Str) (b : Bool) : DEnv → Option D := fun env => match env[i]? with
  | some (some (.own, .exn c')) => if c' = c then some (.bl b) else none
  | _ => none
section
variable {K : PySem.W.Frag} {cl : Str → Option Addr} {bo : Hp} {X : Cx} {a DA : Addr} {oe : Obj} {pn : List (Addr × Obj)} {e cE : Expr} {p pos tpos : Pos} {i : Nat} {c : Str} {b : Bool}
theorem exn_at {B Z H : Hp} {σ : L2.St} {env : DEnv} {Fs : Nat → List Addr} {d : D} (g : Good ⟨K, clE cl a, bo⟩ B Z H σ env Fs) (h : hIsE i c b env = some d) : d = .bl b ∧ σ[i]? = some (some (.ref a)) := by
  unfold hIsE at h
  split at h
  · rename_i c' he
    split at h
    · cases h
      have := g.sl i
      unfold SlotOk at this
      rw [he] at this
      obtain ⟨v, ev, _, b', e1, e2⟩ := this
      have e2 : clE cl a exName = some b' := e2
      unfold clE at e2
      rw [if_pos rfl] at e2
      cases e2
      rw [e1] at ev
      exact ⟨rfl, ev⟩
    · cases h
  · cases h
end
@[simp] theorem z_ise {i : Nat} {c : Str} {b : Bool} {env : DEnv} : hIsE i c b env = match env[i]? with
  | some (some (.own, .exn c')) => if c' = c then some (.bl b) else none
  | _ => none := rfl
end DL
namespace DL
open PySem PySem.Spec PyProof.Rows L2
section
variable {env : DEnv} {i j : Nat} {d e : D} {m : Md} {h k : DEnv → Option D}
@[simp] theorem z_var : hVar i env = match env[i]? with
  | some (some (_, d)) => if d.pure = true then some d else none
  | _ => none := rfl
@[simp] theorem z_pvar : pVar i env = match env[i]? with
  | some (some (_, d)) => some d
  | _ => none := rfl
@[simp] theorem z_c : hC d env = some d := rfl
@[simp] theorem z_rd {g : DEnv → Option D} : hRd g env = match g env with
  | some d => if d.pure = true then some d else none
  | none => none := rfl
@[simp] theorem z_pix {g : DEnv → Option D} : pIx g h env = match g env, h env with
  | some d, some k => gAt d k
  | _, _ => none := rfl
@[simp] theorem z_at {n : Int} : gAt d (.int n) = dIx d n := rfl
@[simp] theorem z_ixl {xs : List D} {n : Int} : dIx (.lst xs) n = atI xs n := rfl
@[simp] theorem z_ixt {xs : List D} {n : Int} {fl : Bool} : dIx (.tupF fl xs) n = atI xs n := rfl
@[simp] theorem z_hop {hs : List SArg} {g : List D → Option D} : hOp hs g env = match evS hs env with
  | some ds => g ds
  | none => none := rfl
@[simp] theorem z_s0 : evS [] env = some [] := rfl
@[simp] theorem z_s1 {a : SArg} {r : List SArg} : evS (a :: r) env = match a.val env with
  | some d => match evS r env with
    | some ds => some (d :: ds)
    | none => none
  | none => none := rfl
@[simp] theorem z_vpur : (SArg.pur h).val env = h env := rfl
@[simp] theorem z_vplc {g : DEnv → Option D} : (SArg.plc i g).val env = g env := rfl
@[simp] theorem z_vint : (SArg.int h).val env = match h env with
  | some d => onlyInt d
  | none => none := rfl
@[simp] theorem z_oi {n : Int} : onlyInt (.int n) = some (.int n) := rfl
@[simp] theorem z_vplt {g : DEnv → Option D} {T : D → Bool} : (SArg.plt i g T).val env = match g env with
  | some d => onlyT T d
  | none => none := rfl
@[simp] theorem z_vput {T : D → Bool} : (SArg.put h T).val env = match h env with
  | some d => onlyT T d
  | none => none := rfl
@[simp] theorem z_ep : eP h env = must (h env) fun d => .ok (d, env) := rfl
@[simp] theorem z_mov : eMov i env = match env[i]? with
  | some (some (m, d)) => if m = .own then .ok (d, env.set i none) else .bad
  | _ => .bad := rfl
@[simp] theorem z_cfin {hs : List SArg} {k : Kn} : evC (.fin hs) k env = must (evS hs env) fun ds => k ds env := rfl
@[simp] theorem z_cown {f : DEnv → Out (D × DEnv)} {c : Chn} {k : Kn} : evC (.own f c) k env = (f env >>= fun p => evC c (fun ds e => k (p.1 :: ds) e) p.2) := rfl
@[simp] theorem z_cpur {c : Chn} {k : Kn} : evC (.pur h c) k env = must (h env) fun d => evC c (fun ds e => k (d :: ds) e) env := rfl
@[simp] theorem z_cplc {g : DEnv → Option D} {c : Chn} {k : Kn} : evC (.plc i g c) k env = must (g env) fun d => evC c (fun ds e => k (d :: ds) e) (lock i env) >>= fun q => .ok (q.1, q.2.1, unlock env q.2.2) := rfl
@[simp] theorem z_cio {c : Chn} {k : Kn} : evC (.io j c) k env = match env[j]? with
  | some (some (m, d)) => if m.mut = true then evC c (fun ds e => k (d :: ds) e) (env.set j none) >>= fun q => match q.2.1 with
      | o :: os => .ok (q.1, os, q.2.2.set j (some (m, o)))
      | [] => .bad
    else .bad
  | _ => .bad := rfl
@[simp] theorem z_ek {c : Chn} {k : Kn} : eK c k env = (evC c k env >>= fun q => .ok (q.1, q.2.2)) := rfl
@[simp] theorem z_opk {g : List D → Option D} {ds : List D} : opK g ds env = must (g ds) fun d => .ok (d, [], env) := rfl
@[simp] theorem z_callk {ms : List Pm} {F : Fn} {ds : List D} : callK ms F ds env = match F ds with
  | .ok (r, o) => .ok (r, o, env)
  | .exc c => if ms.all (fun (m : Pm) => !m.own) = true then .exc c else .bad
  | .bad => .bad := rfl
@[simp] theorem z_mut1 : Md.mut .own = true := rfl
@[simp] theorem z_mut2 : Md.mut .io = true := rfl
@[simp] theorem z_lock0 {s : Slot} {r : DEnv} : lock 0 (s :: r) = lock1 s :: r := rfl
@[simp] theorem z_lock1 {s : Slot} {r : DEnv} : lock (i + 1) (s :: r) = s :: lock i r := rfl
@[simp] theorem z_l1 : lock1 (some (.own, d)) = some (.lck, d) := rfl
@[simp] theorem z_l2 : lock1 (some (.io, d)) = some (.lck, d) := rfl
@[simp] theorem z_l3 : lock1 (some (.brw, d)) = some (.brw, d) := rfl
@[simp] theorem z_l4 : lock1 (some (.lck, d)) = some (.lck, d) := rfl
@[simp] theorem z_l5 : lock1 none = none := rfl
@[simp] theorem z_un0 : unlock [] [] = [] := rfl
@[simp] theorem z_un1 {s t : Slot} {r u : DEnv} : unlock (s :: r) (t :: u) = unl1 s t :: unlock r u := rfl
@[simp] theorem z_u1 : unl1 (some (.own, d)) (some (.lck, e)) = some (.own, e) := rfl
@[simp] theorem z_u2 : unl1 (some (.io, d)) (some (.lck, e)) = some (.io, e) := rfl
@[simp] theorem z_u3 {s : Slot} : unl1 none s = s := rfl
@[simp] theorem z_u4 {s : Slot} : unl1 (some (.brw, d)) s = s := rfl
@[simp] theorem z_u5 {s : Slot} : unl1 (some (.lck, d)) s = s := rfl
@[simp] theorem z_u6 {s : Slot} : unl1 s none = none := by
  match s with
  | none => rfl
  | some (.own, _) => rfl
  | some (.io, _) => rfl
  | some (.shr, _) => rfl
  | some (.brw, _) => rfl
  | some (.lck, _) => rfl
@[simp] theorem z_u7 {s : Slot} : unl1 s (some (.own, d)) = some (.own, d) := by
  match s with
  | none => rfl
  | some (.own, _) => rfl
  | some (.io, _) => rfl
  | some (.shr, _) => rfl
  | some (.brw, _) => rfl
  | some (.lck, _) => rfl
@[simp] theorem z_u8 {s : Slot} : unl1 s (some (.io, d)) = some (.io, d) := by
  match s with
  | none => rfl
  | some (.own, _) => rfl
  | some (.io, _) => rfl
  | some (.shr, _) => rfl
  | some (.brw, _) => rfl
  | some (.lck, _) => rfl
@[simp] theorem z_u9 {s : Slot} : unl1 s (some (.brw, d)) = some (.brw, d) := by
  match s with
  | none => rfl
  | some (.own, _) => rfl
  | some (.io, _) => rfl
  | some (.shr, _) => rfl
  | some (.brw, _) => rfl
  | some (.lck, _) => rfl
-- statements
variable {f g : Stm} {fe : DEnv → Out (D × DEnv)} {c : DEnv → Option Bool} {ce : DEnv → Out (Bool × DEnv)}
@[simp] theorem z_nop : sNop env = .ok (.nx env) := rfl
@[simp] theorem z_seq : sSeq f g env = (f env >>= fun fl => match fl with
  | .nx e => g e
  | fl => .ok fl) := rfl
@[simp] theorem z_if : sIf c f g env = must (c env) fun b => if b = true then f env else g env := rfl
@[simp] theorem z_ife : sIfE ce f g env = (ce env >>= fun p => if p.1 = true then f p.2 else g p.2) := rfl
@[simp] theorem z_ret : sRet fe env = (fe env >>= fun p => .ok (.rt p.1 p.2)) := rfl
@[simp] theorem z_expr : sExpr fe env = (fe env >>= fun p => .ok (.nx p.2)) := rfl
@[simp] theorem z_cont : sCont env = .ok (.ct env) := rfl
@[simp] theorem z_free : free? i env = match env[i]? with
  | some (some (.io, _)) => false
  | some (some (.lck, _)) => false
  | some _ => true
  | none => false := rfl
@[simp] theorem z_put : putS i d env = if free? i env = true then some (env.set i (some (.own, d))) else none := rfl
@[simp] theorem z_set : sSet i fe env = (fe env >>= fun p => must (putS i p.1 p.2) fun e => .ok (.nx e)) := rfl
@[simp] theorem z_dr0 : dropS [] env = some env := rfl
@[simp] theorem z_dr1 {r : List Nat} : dropS (i :: r) env = if free? i env = true then dropS r (env.set i none) else none := rfl
@[simp] theorem z_drop {is : List Nat} : sDrop is env = must (dropS is env) fun e => .ok (.nx e) := rfl
@[simp] theorem z_aug {o : List D → Option D} : sAug i o fe env = must (hVar i env) fun dx => fe env >>= fun p => must (o [dx, p.1]) fun d => must (putS i d p.2) fun e => .ok (.nx e) := rfl
@[simp] theorem z_isl {α : Type} {f : DEnv → Out α} : isL j f env = match env[j]? with
  | some (some (_, .lst _)) => f env
  | _ => .bad := rfl
-- tests
@[simp] theorem z_hb : hB h env = match h env with
  | some d => d.toBl
  | none => none := rfl
@[simp] theorem z_eb : eB fe env = (fe env >>= fun p => must p.1.toBl fun b => .ok (b, p.2)) := rfl
@[simp] theorem z_ebp : eBp c env = must (c env) fun b => .ok (b, env) := rfl
@[simp] theorem z_not : hNot c env = match c env with
  | some b => some (!b)
  | none => none := rfl
@[simp] theorem z_note : eNot ce env = (ce env >>= fun p => .ok (!p.1, p.2)) := rfl
@[simp] theorem z_and {c2 : DEnv → Option Bool} : hAnd c c2 env = match c env with
  | some b => if b = true then c2 env else some false
  | none => none := rfl
@[simp] theorem z_or {c2 : DEnv → Option Bool} : hOr c c2 env = match c env with
  | some b => if b = true then some true else c2 env
  | none => none := rfl
@[simp] theorem z_ore {c2 : DEnv → Out (Bool × DEnv)} : eOr ce c2 env = (ce env >>= fun p => if p.1 = true then .ok (true, p.2) else c2 p.2) := rfl
@[simp] theorem z_andv : hAndV h k env = match hB h env with
  | some b => if b = true then k env else some (.bl false)
  | none => none := rfl
@[simp] theorem z_notv : hNotV h env = match hB h env with
  | some b => some (.bl (!b))
  | none => none := rfl
@[simp] theorem z_andve {f2 : DEnv → Out (D × DEnv)} : eAndV fe f2 env = (eB fe env >>= fun p => if p.1 = true then f2 p.2 else .ok (.bl false, p.2)) := rfl
variable {n n2 : Int} {b b2 : Bool} {xs ys : List D} {s t : Str}
@[simp] theorem z_bin {o : D → D → Option D} : bin o [d, e] = o d e := rfl
@[simp] theorem z_una {o : D → Option D} : una o [d] = o d := rfl
@[simp] theorem z_bi {o : Int → Int → Option D} : bI o (.int n) (.int n2) = o n n2 := rfl
@[simp] theorem z_addi : fAdd (.int n) (.int n2) = some (.int (n + n2)) := rfl
@[simp] theorem z_adds : fAdd (.str s) (.str t) = iff? (s.length + t.length ≤ 16777216) (.str (s ++ t)) := rfl
@[simp] theorem z_addt : fAdd (.tup xs) (.tup ys) = iff? (D.pureL xs = true ∧ D.pureL ys = true ∧ xs.length + ys.length ≤ 16777216) (.tup (xs ++ ys)) := rfl
@[simp] theorem z_lti : fLt (.int n) (.int n2) = some (.bl (decide (n < n2))) := rfl
@[simp] theorem z_lts : fLt (.str s) (.str t) = some (.bl (decide (s.cps.toList < t.cps.toList))) := rfl
@[simp] theorem z_tobl : D.toBl (.bl b) = some b := rfl
@[simp] theorem z_toint : D.toInt (.int n) = some n := rfl
@[simp] theorem z_tolst : D.toLst (.lst xs) = some xs := rfl
@[simp] theorem z_totup : D.toTup (.tup xs) = some xs := rfl
@[simp] theorem z_torow1 : D.toRow (.lst xs) = some xs := rfl
@[simp] theorem z_torow2 {ns : List Int} : D.toRow (.scr ns) = some (ns.map .int) := rfl
@[simp] theorem z_pint : D.pure (.int n) = true := rfl
@[simp] theorem z_pbl : D.pure (.bl b) = true := rfl
@[simp] theorem z_pstr : D.pure (.str s) = true := rfl
@[simp] theorem z_pnon : D.pure .non = true := rfl
@[simp] theorem z_ptup {fl : Bool} : D.pure (.tupF fl xs) = D.pureL xs := rfl
@[simp] theorem z_plst : D.pure (.lst xs) = false := rfl
@[simp] theorem z_pl0 : D.pureL [] = true := rfl
@[simp] theorem z_pl1 : D.pureL (d :: xs) = (d.pure && D.pureL xs) := rfl
@[simp] theorem z_pints (ns : List Int) : D.pureL (ns.map .int) = true := pureL_ints ns
theorem pureL_map {α : Type} {φ : α → D} (hp : ∀ a, (φ a).pure = true) : ∀ l : List α, D.pureL (l.map φ) = true
  | [] => rfl
  | a :: r => by rw [List.map_cons, z_pl1, hp a, pureL_map hp r]; rfl
@[simp] theorem z_lenl : fLen (.lst xs) = some (.int xs.length) := rfl
@[simp] theorem z_lent {fl : Bool} : fLen (.tupF fl xs) = some (.int xs.length) := rfl
@[simp] theorem z_lens {ns : List Int} : fLen (.scr ns) = some (.int ns.length) := rfl
@[simp] theorem z_lenstr : fLen (.str s) = iff? (s.length ≤ 16777216) (.int s.length) := rfl
@[simp] theorem z_to1 : fTupOf (.lst xs) = iff? (D.pureL xs = true) (.tup xs) := rfl
@[simp] theorem z_to2 {fl : Bool} : fTupOf (.tupF fl xs) = iff? (D.pureL xs = true) (.tupF fl xs) := rfl
@[simp] theorem z_ftup : fTup xs = iff? (D.pureL xs = true ∧ xs.length ≤ 16777216) (.tup xs) := rfl
@[simp] theorem z_dsp {mk : List D → D} : dspK mk xs env = if xs.length ≤ 16777216 then .ok (mk xs, [], env) else .bad := rfl
@[simp] theorem z_app : appK [.lst xs, d] env = if xs.length < 16777216 then .ok (.non, [.lst (xs ++ [d])], env) else .bad := rfl
@[simp] theorem z_pop : popK [.lst xs] env = match xs.getLast? with
  | some y => .ok (y, [.lst xs.dropLast], env)
  | none => .bad := rfl
@[simp] theorem z_isi {T : String} : gIsi T [d] = d.ty.map fun t => .bl (tyLe t T) := rfl
@[simp] theorem z_slh {o : D → Option Int → Option Int → Option D} : slH o [d, .int n] = o d none (some n) := rfl
@[simp] theorem z_sll {o : D → Option Int → Option Int → Option D} : slL o [d, .int n] = o d (some n) none := rfl
@[simp] theorem z_sl2 {o : D → Option Int → Option Int → Option D} : sl2 o [d, .int n, .int n2] = o d (some n) (some n2) := rfl
@[simp] theorem z_iff_pos {α : Type} {p : Prop} [Decidable p] {a : α} (h : p) : iff? p a = some a := if_pos h
@[simp] theorem z_ty1 : D.ty (.int n) = some "int" := rfl
@[simp] theorem z_ty2 : D.ty (.bl b) = some "bool" := rfl
@[simp] theorem z_ty3 : D.ty (.str s) = some "str" := rfl
@[simp] theorem z_ty4 {fl : Bool} : D.ty (.tupF fl xs) = some "tuple" := rfl
@[simp] theorem z_ty5 : D.ty (.lst xs) = some "list" := rfl
@[simp] theorem z_ty6 : D.ty .non = some "NoneType" := rfl
-- loops
variable {bd : D → DEnv → Option DEnv} {ops : List Opn} {mk : List D → Option (List D)} {cl : List Nat} {elt : DEnv → Out (D × DEnv)} {vs : List Nat}
@[simp] theorem z_o0 : evO [] env = .ok ([], [], env) := rfl
@[simp] theorem z_o1 {r : List Opn} : evO (.pur h :: r) env = must (h env) fun d => evO r env >>= fun q => .ok (d :: q.1, q.2.1, q.2.2) := rfl
@[simp] theorem z_o2 {g : DEnv → Option D} {r : List Opn} : evO (.plc i g :: r) env = must (g env) fun d => evO r (lock i env) >>= fun q => .ok (d :: q.1, q.2.1 ++ [env], q.2.2) := rfl
@[simp] theorem z_o3 {r : List Opn} : evO (.own fe :: r) env = (fe env >>= fun p => evO r p.2 >>= fun q => .ok (p.1 :: q.1, q.2.1, q.2.2)) := rfl
@[simp] theorem z_ul0 : unlk [] env = env := rfl
@[simp] theorem z_ul1 {e0 : DEnv} {st : List DEnv} : unlk (e0 :: st) env = unlk st (unlock e0 env) := rfl
@[simp] theorem z_for : sFor ops mk bd cl f env = (evO ops env >>= fun q => must (mk q.1) fun xs => forD bd cl f xs q.2.2 >>= unS q.2.1) := rfl
@[simp] theorem z_uns1 {st : List DEnv} : unS st (.nx env) = .ok (.nx (unlk st env)) := rfl
@[simp] theorem z_uns2 {st : List DEnv} : unS st (.rt d env) = .ok (.rt d (unlk st env)) := rfl
@[simp] theorem z_lc : lcE ops mk bd ce elt vs env = (evO ops env >>= fun q => must (mk q.1) fun xs => must (hideS vs q.2.2) fun e0 => if xs.length < 16777216 then must (noEx (lcG bd ce elt vs xs e0)) fun r => .ok (.lst r.1, unlk q.2.1 (backS vs q.2.2 r.2)) else .bad) := rfl
@[simp] theorem z_yes : eYes env = .ok (true, env) := rfl
@[simp] theorem z_noex {α : Type} {a : α} : noEx (.ok a) = some a := rfl
@[simp] theorem z_hid0 : hideS [] env = some env := rfl
@[simp] theorem z_hid1 {v : Nat} {r : List Nat} : hideS (v :: r) env = match hideS r env with
  | some e => if hid? v e = true then some (e.set v none) else none
  | none => none := rfl
@[simp] theorem z_hid : hid? i env = match env[i]? with
  | some none => true
  | some (some (.own, d)) => d.pure
  | _ => false := rfl
@[simp] theorem z_bk0 {env0 : DEnv} : backS [] env0 env = env := rfl
@[simp] theorem z_bk1 {v : Nat} {r : List Nat} {env0 : DEnv} : backS (v :: r) env0 env = (backS r env0 env).set v (env0[v]?.getD none) := rfl
@[simp] theorem z_bname : bName i d env = if free? i env = true then some (env.set i (some (if d.pure = true then .own else .brw, d))) else none := rfl
@[simp] theorem z_btup {f : List D → DEnv → Option DEnv} {fl : Bool} : bTup f (.tupF fl xs) env = f xs env := rfl
@[simp] theorem z_bnil : bNil [] env = some env := rfl
@[simp] theorem z_bcons {f : D → DEnv → Option DEnv} {h : List D → DEnv → Option DEnv} : bCons f h (d :: xs) env = match f d env with
  | some e => h xs e
  | none => none := rfl
@[simp] theorem z_mkl : mkSeq [.lst xs] = some xs := rfl
@[simp] theorem z_mkt {fl : Bool} : mkSeq [.tupF fl xs] = some xs := rfl
@[simp] theorem z_mkz {a b : D} : mkZip [a, b] = match a.toSeq, b.toSeq with
  | some xs, some ys => some (zipD xs ys)
  | _, _ => none := rfl
@[simp] theorem z_seq1 : D.toSeq (.lst xs) = some xs := rfl
@[simp] theorem z_seq2 {fl : Bool} : D.toSeq (.tupF fl xs) = some xs := rfl
@[simp] theorem z_mkr1 : mkRange1 [.int n] = if inRng n = true then some (rngD 0 n.toNat) else none := rfl
@[simp] theorem z_run {N : Nat} {ms : List Pm} {body : Stm} {ds : List D} : runFn N ms body ds = if ds.length = ms.length then body (startD N ms ds) >>= fun fl => match fl with
    | .nx e => must (outsFrom ms 0 e) fun o => .ok (.non, o)
    | .rt d e => must (outsFrom ms 0 e) fun o => .ok (d, o)
    | _ => .bad
  else .bad := rfl
@[simp] theorem z_start {N : Nat} {ms : List Pm} {ds : List D} : startD N ms ds = slotsOf ms ds ++ List.replicate (N - ms.length) none := rfl
@[simp] theorem z_slots1 {m : Pm} {ms : List Pm} {ds : List D} : slotsOf (m :: ms) (d :: ds) = some (m.md, d) :: slotsOf ms ds := rfl
@[simp] theorem z_slots0 {ds : List D} : slotsOf [] ds = [] := by cases ds <;> rfl
@[simp] theorem z_md1 : Pm.md .b = .brw := rfl
@[simp] theorem z_md2 : Pm.md .io = .io := rfl
@[simp] theorem z_md3 : Pm.md .mv = .own := rfl
@[simp] theorem z_out0 : outsFrom [] j env = some [] := rfl
@[simp] theorem z_out1 {ms : List Pm} : outsFrom (.io :: ms) j env = match env[j]?, outsFrom ms (j + 1) env with
    | some (some (.io, d)), some r => some (r ++ [d])
    | _, _ => none := rfl
@[simp] theorem z_out2 {ms : List Pm} : outsFrom (.b :: ms) j env = outsFrom ms (j + 1) env := rfl
@[simp] theorem z_out3 {ms : List Pm} : outsFrom (.mv :: ms) j env = outsFrom ms (j + 1) env := rfl
end
section
variable {α β : Type} {bd : D → DEnv → Option DEnv} {cl : List Nat} {body : Stm} {elt : DEnv → Out (D × DEnv)} {ce : DEnv → Out (Bool × DEnv)}
/-- a turn that goes on -/
def Turn1 (bd : D → DEnv → Option DEnv) (cl : List Nat) (body : Stm) (x : D) (e e' : DEnv) : Prop := (must (bd x e) fun e1 => body e1 >>= fun fl => match fl with
    | .nx e2 => must (dropS cl e2) fun e3 => .ok (Flw.nx e3)
    | .ct e2 => must (dropS cl e2) fun e3 => .ok (Flw.nx e3)
    | .bk e2 => .bad
    | .rt d e2 => .bad) = .ok (.nx e')
theorem forD_cons {x : D} {xs : List D} {e e' : DEnv} (h : Turn1 bd cl body x e e') : forD bd cl body (x :: xs) e = forD bd cl body xs e' := by
  unfold Turn1 at h
  rw [forD]
  cases hb : bd x e with
  | none => rw [hb] at h; cases h
  | some e1 =>
    rw [hb, must_some] at h
    rw [must_some]
    cases hf : body e1 with
    | bad => rw [hf] at h; cases h
    | exc c => rw [hf] at h; cases h
    | ok fl =>
      rw [hf] at h
      cases fl with
      | nx e2 =>
        have h : (must (dropS cl e2) fun e3 => Out.ok (Flw.nx e3)) = .ok (.nx e') := h
        show (must (dropS cl e2) fun e => forD bd cl body xs e) = _
        cases hd : dropS cl e2 with
        | none => rw [hd] at h; cases h
        | some e3 => rw [hd] at h; cases h; rfl
      | ct e2 =>
        have h : (must (dropS cl e2) fun e3 => Out.ok (Flw.nx e3)) = .ok (.nx e') := h
        show (must (dropS cl e2) fun e => forD bd cl body xs e) = _
        cases hd : dropS cl e2 with
        | none => rw [hd] at h; cases h
        | some e3 => rw [hd] at h; cases h; rfl
      | bk e2 => cases h
      | rt d e2 => cases h
theorem lcG_cons {x : D} {xs : List D} {e e' : DEnv} {d : D} (h : (must (bd x e) fun e => elt e >>= fun q => must (dropS cl q.2) fun e2 => Out.ok (q.1, e2)) = .ok (d, e')) : lcG bd eYes elt cl (x :: xs) e = (lcG bd eYes elt cl xs e' >>= fun r => .ok (d :: r.1, r.2)) := by
  rw [lcG]
  cases hb : bd x e with
  | none => rw [hb] at h; cases h
  | some e1 =>
    rw [hb, must_some] at h
    rw [must_some]
    show (Out.ok (true, e1) >>= _) = _
    simp only [Out.bind_ok, if_true]
    cases he : elt e1 with
    | bad => rw [he] at h; cases h
    | exc c => rw [he] at h; cases h
    | ok q =>
      obtain ⟨d2, e2⟩ := q
      rw [he] at h
      have h : (must (dropS cl e2) fun e3 => Out.ok (d2, e3)) = .ok (d, e') := h
      simp only [Out.bind_ok]
      cases hd : dropS cl e2 with
      | none => rw [hd] at h; cases h
      | some e3 =>
        rw [hd] at h
        cases h
        rfl
/-- a comprehension whose items are not told in full -/
theorem lcG_ex {γ : Type} {st : α → DEnv} {φ : β → D} {ω : γ → D} {R : γ → Prop} {I : α → Prop} : ∀ (xs : List β) (a : α), I a → (∀ a x, x ∈ xs → I a → ∃ r b, R r ∧ I b ∧ (must (bd (φ x) (st a)) fun e => elt e >>= fun q => must (dropS cl q.2) fun e2 => Out.ok (q.1, e2)) = .ok (ω r, st b)) →
    ∃ (rs : List γ) (b : α), rs.length = xs.length ∧ (∀ r ∈ rs, R r) ∧ I b ∧ lcG bd eYes elt cl (xs.map φ) (st a) = .ok (rs.map ω, st b)
  | [], a, hI, _ => ⟨[], a, rfl, fun r h => (by cases h), hI, rfl⟩
  | x :: xs, a, hI, h => by
    obtain ⟨r, b, h1, h2, h3⟩ := h a x List.mem_cons_self hI
    obtain ⟨rs, c, g1, g2, g3, g4⟩ := lcG_ex xs b h2 fun d y hy => h d y (List.mem_cons_of_mem _ hy)
    refine ⟨r :: rs, c, by rw [List.length_cons, List.length_cons, g1], fun q hq => ?_, g3, ?_⟩
    · rcases List.mem_cons.mp hq with rfl | hq
      · exact h1
      · exact g2 q hq
    · rw [List.map_cons, lcG_cons h3, g4]
      rfl
end
end DL
namespace DL
open PySem PySem.Spec PyProof.Rows L2
structure EqOk {α : Type} [DecidableEq α] (φ : α → D) (n : Nat) : Prop where
  py : ∀ a, ∃ p, (φ a).py = some p ∧ p.canLay0 = true ∧ p.depth ≤ n
  eqv : ∀ a b p q, (φ a).py = some p → (φ b).py = some q → PyData.eqv p q = decide (a = b)
section
variable {α β : Type} [DecidableEq α] [DecidableEq β] {φ : α → D} {ψ : β → D} {n m : Nat}
theorem beq_dec {γ : Type} [BEq γ] [LawfulBEq γ] [DecidableEq γ] (a b : γ) : (a == b) = decide (a = b) := by
  rw [Bool.eq_iff_iff, beq_iff_eq, decide_eq_true_eq]
theorem EqOk.int : EqOk D.int 0 := ⟨fun a => ⟨_, rfl, rfl, Nat.le_refl _⟩, fun a b p q hp hq => by
  cases hp; cases hq
  simp only [PyData.eqv]
  exact beq_dec a b⟩
theorem EqOk.bl : EqOk D.bl 0 := ⟨fun a => ⟨_, rfl, rfl, Nat.le_refl _⟩, fun a b p q hp hq => by
  cases hp; cases hq
  simp only [PyData.eqv]
  exact beq_dec a b⟩
theorem EqOk.items (h : EqOk φ n) : ∀ xs : List α, ∃ ps, D.pyL (xs.map φ) = some ps ∧ PyData.canLayAll0 ps = true ∧ PyData.depthAll ps ≤ n
  | [] => ⟨[], rfl, rfl, Nat.zero_le _⟩
  | x :: r => by
    obtain ⟨p, h1, h2, h3⟩ := h.py x
    obtain ⟨ps, g1, g2, g3⟩ := EqOk.items h r
    refine ⟨p :: ps, ?_, ?_, ?_⟩
    · rw [List.map_cons, D.pyL, h1, g1]
    · rw [PyData.canLayAll0, h2, g2]; rfl
    · rw [PyData.depthAll]; exact Nat.max_le.mpr ⟨h3, g3⟩
theorem EqOk.itemsEq (h : EqOk φ n) : ∀ (xs ys : List α) (ps qs : List PyData), D.pyL (xs.map φ) = some ps → D.pyL (ys.map φ) = some qs → PyData.eqvAll ps qs = decide (xs = ys)
  | [], [], ps, qs, h1, h2 => by
    cases (show some ([] : List PyData) = some ps from h1)
    cases (show some ([] : List PyData) = some qs from h2)
    simp [PyData.eqvAll]
  | [], y :: ys, ps, qs, h1, h2 => by
    cases (show some ([] : List PyData) = some ps from h1)
    obtain ⟨q, e1, _⟩ := h.py y
    obtain ⟨qs', g1, _⟩ := h.items ys
    rw [List.map_cons, D.pyL, e1, g1] at h2
    cases h2
    simp [PyData.eqvAll]
  | x :: xs, [], ps, qs, h1, h2 => by
    cases (show some ([] : List PyData) = some qs from h2)
    obtain ⟨q, e1, _⟩ := h.py x
    obtain ⟨qs', g1, _⟩ := h.items xs
    rw [List.map_cons, D.pyL, e1, g1] at h1
    cases h1
    simp [PyData.eqvAll]
  | x :: xs, y :: ys, ps, qs, h1, h2 => by
    obtain ⟨p, e1, _⟩ := h.py x
    obtain ⟨ps', g1, _⟩ := h.items xs
    rw [List.map_cons, D.pyL, e1, g1] at h1
    cases h1
    obtain ⟨q, e2, _⟩ := h.py y
    obtain ⟨qs', g2, _⟩ := h.items ys
    rw [List.map_cons, D.pyL, e2, g2] at h2
    cases h2
    rw [PyData.eqvAll, h.eqv x y p q e1 e2, EqOk.itemsEq h xs ys _ _ g1 g2, ← Bool.decide_and]
    exact decide_eq_decide.mpr (by rw [List.cons.injEq])
theorem EqOk.lst (h : EqOk φ n) : EqOk (fun xs : List α => D.lst (xs.map φ)) (n + 1) := ⟨fun xs => by
    obtain ⟨ps, h1, h2, h3⟩ := h.items xs
    refine ⟨.list ps, ?_, ?_, ?_⟩
    · show (D.pyL (xs.map φ)).map PyData.list = _
      rw [h1]; rfl
    · rw [PyData.canLay0]; exact h2
    · rw [PyData.depth]; omega, fun xs ys p q hp hq => by
    obtain ⟨ps, h1, _⟩ := h.items xs
    obtain ⟨qs, h2, _⟩ := h.items ys
    have hp : (D.pyL (xs.map φ)).map PyData.list = some p := hp
    have hq : (D.pyL (ys.map φ)).map PyData.list = some q := hq
    rw [h1] at hp
    rw [h2] at hq
    cases hp
    cases hq
    simp only [PyData.eqv]
    exact h.itemsEq xs ys ps qs h1 h2⟩
theorem EqOk.tup (h : EqOk φ n) : EqOk (fun xs : List α => D.tup (xs.map φ)) (n + 1) := ⟨fun xs => by
    obtain ⟨ps, h1, h2, h3⟩ := h.items xs
    refine ⟨.tuple ps, ?_, ?_, ?_⟩
    · show (D.pyL (xs.map φ)).map PyData.tuple = _
      rw [h1]; rfl
    · rw [PyData.canLay0]; exact h2
    · rw [PyData.depth]; omega, fun xs ys p q hp hq => by
    obtain ⟨ps, h1, _⟩ := h.items xs
    obtain ⟨qs, h2, _⟩ := h.items ys
    have hp : (D.pyL (xs.map φ)).map PyData.tuple = some p := hp
    have hq : (D.pyL (ys.map φ)).map PyData.tuple = some q := hq
    rw [h1] at hp
    rw [h2] at hq
    cases hp
    cases hq
    simp only [PyData.eqv]
    exact h.itemsEq xs ys ps qs h1 h2⟩
theorem shaped_of {p : PyData} (h1 : p.canLay0 = true) (h2 : p.depth ≤ n) (hn : n ≤ 64) : SeqAt.shaped p = true := by
  unfold SeqAt.shaped
  rw [h1, decide_eq_true (by omega)]; rfl
theorem EqOk.eq (h : EqOk φ n) (a b : α) (hn : n ≤ 64 := by decide) : gEqB (φ a) (φ b) = some (decide (a = b)) := by
  obtain ⟨p, h1, h2, h3⟩ := h.py a
  obtain ⟨q, k1, k2, k3⟩ := h.py b
  unfold gEqB
  rw [h1, k1]
  show iff? (SeqAt.shaped p = true ∧ SeqAt.shaped q = true) (PyData.eqv p q) = _
  rw [iff?_pos ⟨shaped_of h2 h3 hn, shaped_of k2 k3 hn⟩, h.eqv a b p q h1 k1]
theorem EqOk.mem (h : EqOk φ n) (a : α) (xs : List α) (hn : n ≤ 63 := by decide) : inB (φ a) (.lst (xs.map φ)) = some (decide (a ∈ xs)) := by
  obtain ⟨p, h1, h2, h3⟩ := h.py a
  obtain ⟨ps, g1, g2, g3⟩ := h.items xs
  have e : (D.lst (xs.map φ)).py = some (.list ps) := by
    show (D.pyL (xs.map φ)).map PyData.list = _
    rw [g1]; rfl
  unfold inB
  simp only [h1, e]
  rw [iff?_pos ⟨shaped_of h2 h3 (Nat.le_succ_of_le hn), shaped_of (n := n + 1) (by rw [PyData.canLay0]; exact g2) (by rw [PyData.depth]; omega) (by omega)⟩]
  have key : ∀ (xs : List α) (ps : List PyData), D.pyL (xs.map φ) = some ps → (ps.any fun z => PyData.eqv z p) = decide (a ∈ xs) := fun xs => by
    induction xs with
    | nil =>
      intro ps g
      cases (show some ([] : List PyData) = some ps from g)
      simp
    | cons x r ih =>
      intro ps g
      obtain ⟨q, e1, _⟩ := h.py x
      obtain ⟨qs, e2, _⟩ := h.items r
      rw [List.map_cons, D.pyL, e1, e2] at g
      cases g
      rw [List.any_cons, h.eqv x a q p e1 h1, ih qs e2]
      by_cases hx : x = a
      · subst hx; simp
      · have : ¬ a = x := fun z => hx z.symm
        simp [hx, this]
  rw [key xs ps g1]
/-- what is compared with itself -/
theorem eq_same {d : D} {p : PyData} (h1 : d.py = some p) (h2 : p.canLay0 = true) (h3 : p.depth ≤ 64) : gEqB d d = some true := by
  unfold gEqB
  rw [h1]
  show iff? (SeqAt.shaped p = true ∧ SeqAt.shaped p = true) (PyData.eqv p p) = _
  rw [iff?_pos ⟨shaped_of h2 h3 (Nat.le_refl _), shaped_of h2 h3 (Nat.le_refl _)⟩, SeqAt.eqv_refl p h2]
end
@[simp] theorem eq_nil0 : gEqB (.lst []) (.lst []) = some true := (EqOk.int.lst.eq [] []).trans (by simp)
@[simp] theorem eq_int (a b : Int) : gEqB (.int a) (.int b) = some (decide (a = b)) := EqOk.int.eq a b
@[simp] theorem eq_nilI (ns : List Int) : gEqB (.lst (ns.map .int)) (.lst []) = some (decide (ns = [])) := EqOk.int.lst.eq ns []
theorem inRng_of {i : Int} (h : -1000000000 ≤ i ∧ i ≤ 1000000000) : inRng i = true := by
  unfold inRng
  exact decide_eq_true (by omega)
theorem log_lt {n k : Nat} (h : n < 2 ^ k) (hk : 0 < k) : n.log2 < k := by
  by_cases h0 : n = 0
  · rw [h0]; simpa using hk
  · exact (Nat.log2_lt h0).mpr h
@[simp] theorem log_9000 {n : Nat} (h : n < 18446744073709551616) : n.log2 < 9000 := Nat.lt_of_lt_of_le (log_lt (k := 64) (by simpa using h) (by decide)) (by decide)
@[simp] theorem log_1920 {n : Nat} (h : n < 18446744073709551616) : n.log2 < 1920 := Nat.lt_of_lt_of_le (log_lt (k := 64) (by simpa using h) (by decide)) (by decide)
/-- a number of less than k bits -/
def Bd (k : Nat) (n : Int) : Prop := n.natAbs < 2 ^ k
section
variable {j k : Nat} {a b : Int}
theorem Bd.mono (h : Bd j a) (hk : j ≤ k) : Bd k a := Nat.lt_of_lt_of_le h (Nat.pow_le_pow_right (by decide) hk)
theorem Bd.add (h : Bd k a) (h2 : Bd k b) : Bd (k + 1) (a + b) := by
  unfold Bd at *
  have := Int.natAbs_add_le a b
  rw [Nat.pow_succ]
  omega
theorem Bd.neg (h : Bd k a) : Bd k (-a) := by
  unfold Bd at *
  rw [Int.natAbs_neg]; exact h
theorem Bd.sub (h : Bd k a) (h2 : Bd k b) : Bd (k + 1) (a - b) := by
  rw [Int.sub_eq_add_neg]
  exact h.add h2.neg
theorem Bd.log (h : Bd k a) (hk : 0 < k) : a.natAbs.log2 < k := by
  unfold Bd at h
  by_cases h0 : a.natAbs = 0
  · rw [h0]; simpa using hk
  · exact (Nat.log2_lt h0).mpr h
theorem mulOk (h : Bd j a) (h2 : Bd k b) (hj : j < 30000000 := by decide) (hk : k < 30000000 := by decide) : MulOk a b := by
  unfold MulOk
  have h1 := (h.mono (Nat.le_succ j)).log (Nat.succ_pos j)
  have h3 := (h2.mono (Nat.le_succ k)).log (Nat.succ_pos k)
  omega
end
end DL
namespace DL
open PySem PySem.Spec PyProof.Rows L2
section
variable {env : DEnv} {xs ys : List D} {s t : Str} {d : D} {T : String}
@[simp] theorem z_onlyT {f : D → Bool} : onlyT f d = if f d = true then some d else none := rfl
@[simp] theorem z_tyS : tyD T (.str s) = (T == "str") := rfl
@[simp] theorem z_tyT : tyD T (.tupF true xs) = (T == "tuple") := rfl
@[simp] theorem z_tyL : tyD T (.lst xs) = (T == "list") := rfl
@[simp] theorem z_strs : ∀ l : List Str, D.strs (l.map .str) = some l
  | [] => rfl
  | a :: r => by
    show (D.strs (r.map .str)).map (a :: ·) = _
    rw [z_strs r]; rfl
@[simp] theorem z_toTupA {fl : Bool} : D.toTupA (.tupF fl xs) = some xs := rfl
@[simp] theorem z_mkr3 {a b c : Int} : mkRange3 [.int a, .int b, .int c] = if c ≠ 0 ∧ c.natAbs < 1073741824 ∧ Builtin.Range.small a b c = true then some (rngC a c (Builtin.Range.rangeSize a b c).toNat) else none := rfl
@[simp] theorem z_sorted : fSorted (.lst xs) = iff? (D.pureL xs = true ∧ (xs.all fun x => x.py.isSome) = true ∧ sortB (xs.map encD) = true) (.lst (sortL xs)) := rfl
@[simp] theorem z_mksigs : mkSigs [.str s] = some (sigsD s) := rfl
@[simp] theorem z_slps {lo hi : Option Int} : fSlP (.str s) lo hi = iff? (s.length ≤ 16777216) (.str (cutS s lo hi)) := rfl
@[simp] theorem z_slpt {lo hi : Option Int} : fSlP (.tup xs) lo hi = iff? (D.pureL xs = true) (.tup (cutD xs lo hi)) := rfl
@[simp] theorem z_ixs {n : Int} : fIx (.str s) (.int n) = match atI s.cps.toList n with
    | some c => iff? (s.length ≤ 16777216) (.str ⟨#[c]⟩)
    | none => none := rfl
@[simp] theorem z_ixlst {n : Int} : fIx (.lst xs) (.int n) = match atI xs n with
    | some e => iff? (e.pure = true) e
    | none => none := rfl
@[simp] theorem z_ixtup {n : Int} {fl : Bool} : fIx (.tupF fl xs) (.int n) = match atI xs n with
    | some e => iff? (e.pure = true) e
    | none => none := rfl
@[simp] theorem z_ixscr {n : Int} {ns : List Int} : fIx (.scr ns) (.int n) = match dIx (.scr ns) n with
    | some e => iff? (e.pure = true) e
    | none => none := rfl
@[simp] theorem z_fsl1 {lo hi : Option Int} : fSlL (.lst xs) lo hi = iff? (D.pureL xs = true) (.lst (cutD xs lo hi)) := rfl
@[simp] theorem z_fsl2 {ns : List Int} {lo hi : Option Int} : fSlL (.scr ns) lo hi = some (.lst (cutD (ns.map .int) lo hi)) := iff?_pos (pureL_ints ns) _
@[simp] theorem z_pstrs (l : List Str) : D.pureL (l.map .str) = true := pureL_map (fun _ => rfl) l
@[simp] theorem z_inS {f : Bool → Bool} {c : Nat} {z : Str} : fInS f (.str ⟨#[c]⟩) (.str z) = some (.bl (f (decide (c ∈ z.cps.toList)))) := rfl
@[simp] theorem z_isnon0 : D.isNon .non = true := rfl
@[simp] theorem z_isnon1 {n : Int} : D.isNon (.int n) = false := rfl
@[simp] theorem z_isnon2 {b : Bool} : D.isNon (.bl b) = false := rfl
@[simp] theorem z_isnon3 : D.isNon (.str s) = false := rfl
@[simp] theorem z_isnon4 {fl : Bool} : D.isNon (.tupF fl xs) = false := rfl
@[simp] theorem z_isnon5 : D.isNon (.lst xs) = false := rfl
end
theorem pow_eq {b e : Int} {r : Int} (h : 0 ≤ e ∧ e ≤ 1000 ∧ b.natAbs < 1000000) (hr : b ^ e.toNat = r) : gPow [.int b, .int e] = some (.int r) := by
  simp only [z_bin, z_bi]
  rw [iff?_pos h, hr]
theorem eq_str {a b : Str} (ha : PyData.strOk a = true) (hb : PyData.strOk b = true) : gEqB (.str a) (.str b) = some (decide (a = b)) := by
  unfold gEqB
  show iff? (SeqAt.shaped (.str a) = true ∧ SeqAt.shaped (.str b) = true) (PyData.eqv (.str a) (.str b)) = _
  have h1 : SeqAt.shaped (.str a) = true := shaped_of (n := 0) (by rw [PyData.canLay0]; exact ha) (Nat.le_refl _) (by decide)
  have h2 : SeqAt.shaped (.str b) = true := shaped_of (n := 0) (by rw [PyData.canLay0]; exact hb) (Nat.le_refl _) (by decide)
  rw [iff?_pos ⟨h1, h2⟩]
  simp only [PyData.eqv]
  rw [beq_dec]
/-- data that are compared -/
def Lay (n : Nat) (d : D) : Prop := ∃ q, d.py = some q ∧ q.canLay0 = true ∧ q.depth ≤ n
theorem Lay.items {n : Nat} : ∀ {ds : List D}, (∀ d ∈ ds, Lay n d) → ∃ qs, D.pyL ds = some qs ∧ PyData.canLayAll0 qs = true ∧ PyData.depthAll qs ≤ n
  | [], _ => ⟨[], rfl, rfl, Nat.zero_le _⟩
  | d :: ds, h => by
    obtain ⟨q, h1, h2, h3⟩ := h d List.mem_cons_self
    obtain ⟨qs, g1, g2, g3⟩ := Lay.items fun e m => h e (List.mem_cons_of_mem _ m)
    refine ⟨q :: qs, ?_, ?_, ?_⟩
    · rw [D.pyL, h1, g1]
    · rw [PyData.canLayAll0, h2, g2]; rfl
    · rw [PyData.depthAll]; exact Nat.max_le.mpr ⟨h3, g3⟩
theorem Lay.tup {n : Nat} {f : Bool} {ds : List D} (h : ∀ d ∈ ds, Lay n d) : Lay (n + 1) (.tupF f ds) := by
  obtain ⟨qs, h1, h2, h3⟩ := Lay.items h
  refine ⟨.tuple qs, ?_, ?_, ?_⟩
  · show (D.pyL ds).map PyData.tuple = _
    rw [h1]; rfl
  · rw [PyData.canLay0]; exact h2
  · rw [PyData.depth]; omega
theorem Lay.lst {n : Nat} {ds : List D} (h : ∀ d ∈ ds, Lay n d) : Lay (n + 1) (.lst ds) := by
  obtain ⟨qs, h1, h2, h3⟩ := Lay.items h
  refine ⟨.list qs, ?_, ?_, ?_⟩
  · show (D.pyL ds).map PyData.list = _
    rw [h1]; rfl
  · rw [PyData.canLay0]; exact h2
  · rw [PyData.depth]; omega
theorem Lay.int {n : Nat} {i : Int} : Lay n (.int i) := ⟨_, rfl, rfl, Nat.zero_le _⟩
theorem Lay.bl {n : Nat} {i : Bool} : Lay n (.bl i) := ⟨_, rfl, rfl, Nat.zero_le _⟩
theorem Lay.str {n : Nat} {s : Str} (h : PyData.strOk s = true) : Lay n (.str s) := ⟨_, rfl, by rw [PyData.canLay0]; exact h, Nat.zero_le _⟩
theorem Lay.ints {n : Nat} {l : List Int} : ∀ d ∈ l.map D.int, Lay n d := fun d h => by
  obtain ⟨i, _, rfl⟩ := List.mem_map.mp h
  exact Lay.int
theorem Lay.same {n : Nat} {d : D} (h : Lay n d) (hn : n ≤ 64) : gEqB d d = some true := by
  obtain ⟨q, h1, h2, h3⟩ := h
  exact eq_same h1 h2 (by omega)
/-- a text of code points that are told apart -/
abbrev OStr := {s : Str // PyData.strOk s = true}
theorem EqOk.str : EqOk (fun s : OStr => D.str s.1) 0 := ⟨fun a => ⟨.str a.1, rfl, by rw [PyData.canLay0]; exact a.2, Nat.le_refl _⟩, fun a b p q hp hq => by
  cases hp; cases hq
  simp only [PyData.eqv]
  rw [beq_dec]
  exact decide_eq_decide.mpr ⟨fun e => Subtype.ext e, fun e => by rw [e]⟩⟩
theorem cutD_take' (xs : List D) (t : Nat) : cutD xs none (some (t : Int)) = xs.take t := by
  unfold cutD
  rw [HT.sIx_none, HT.sIx_nat]
  simp
theorem cutD_drop' (xs : List D) (t : Nat) : cutD xs (some (t : Int)) none = xs.drop t := by
  unfold cutD
  rw [HT.sIx_none, HT.sIx_nat]
  by_cases h : t ≤ xs.length
  · rw [Nat.min_eq_left h, List.take_of_length_le]
    simp
  · have h2 : xs.length ≤ t := by omega
    rw [Nat.min_eq_right h2, List.drop_of_length_le h2, List.drop_of_length_le (Nat.le_refl _)]
    simp
theorem cutD_mid (xs : List D) (a b : Nat) : cutD xs (some (a : Int)) (some (b : Int)) = (xs.take b).drop a := by
  unfold cutD
  rw [HT.sIx_nat, HT.sIx_nat, List.drop_take]
  by_cases h : a ≤ xs.length
  · rw [Nat.min_eq_left h]
    by_cases hb : b ≤ xs.length
    · rw [Nat.min_eq_left hb]
    · have hb : xs.length ≤ b := by omega
      rw [Nat.min_eq_right hb, List.take_of_length_le (by simp), List.take_of_length_le (by simp; omega)]
  · have h : xs.length ≤ a := by omega
    rw [Nat.min_eq_right h, List.drop_of_length_le (Nat.le_refl _), List.drop_of_length_le h]
    simp
def WhR (c : DEnv → Out (Bool × DEnv)) (body : Stm) (e : DEnv) (o : Flw) : Prop := ∃ n, whileN c body n e = .ok o
theorem WhR.stop {c : DEnv → Out (Bool × DEnv)} {body : Stm} {e e2 : DEnv} (h : c e = .ok (false, e2)) : WhR c body e (.nx e2) := ⟨1, by
  show (c e >>= _) = _
  rw [h]
  rfl⟩
theorem WhR.step {c : DEnv → Out (Bool × DEnv)} {body : Stm} {e e1 e2 : DEnv} {o : Flw} (h : c e = .ok (true, e1)) (hb : body e1 = .ok (.nx e2) ∨ body e1 = .ok (.ct e2)) (k : WhR c body e2 o) : WhR c body e o := by
  obtain ⟨n, hn⟩ := k
  refine ⟨n + 1, ?_⟩
  rw [whileN, h]
  simp only [Out.bind_ok, if_true]
  rcases hb with hb | hb
  · rw [hb]; exact hn
  · rw [hb]; exact hn
theorem WhR.sw {c : DEnv → Out (Bool × DEnv)} {body : Stm} {e : DEnv} {o : Flw} (k : WhR c body e o) : sWhile c body e = .ok o := by
  obtain ⟨n, hn⟩ := k
  exact sWhile_of hn (by intro z; cases z)
section
variable {α β : Type} {bd : D → DEnv → Option DEnv} {cl : List Nat} {body : Stm} {elt : DEnv → Out (D × DEnv)} {ce : DEnv → Out (Bool × DEnv)}
end
@[simp] theorem z_pcomp {α : Type} (f : α → Int) (l : List α) : D.pureL (l.map (D.int ∘ f)) = true := pureL_map (fun _ => rfl) l
theorem rng_map (n : Nat) : rngD 0 n = (List.range n).map fun k : Nat => D.int (k : Int) := by
  unfold rngD
  simp
@[simp] theorem at0 {α : Type} (a : α) (l : List α) : atI (a :: l) 0 = some a := atI_nat (j := 0) rfl
@[simp] theorem at1 {α : Type} (a b : α) (l : List α) : atI (a :: b :: l) 1 = some b := atI_nat (j := 1) rfl
@[simp] theorem at2 {α : Type} (a b c : α) (l : List α) : atI (a :: b :: c :: l) 2 = some c := atI_nat (j := 2) rfl
/-- the script's cells -/
def cv (ns : List Int) (k : Nat) : Int := ns.getD k 0
theorem scr_ix {ns : List Int} {k : Nat} (h : k < ns.length) : fIx (.scr ns) (.int k) = some (.int (cv ns k)) := by
  have e : dIx (.scr ns) k = some (.int (cv ns k)) := by
    show (atI ns (k : Int)).map D.int = _
    rw [atI_nat (j := k) (List.getElem?_eq_getElem h)]
    simp [cv, h]
  rw [z_ixscr, e]
  rfl
end DL
namespace DL
open PySem PySem.Spec PyProof.Rows L2
/-- a suite by the class of what is caught -/
def hTab : List (Str × Stm) → Str → Stm
  | [], _ => sNever
  | (c, f) :: t, x => if x = c then f else hTab t x
theorem hTab_here {c : Str} {f : Stm} {t : List (Str × Stm)} : hTab ((c, f) :: t) c = f := by
  unfold hTab
  rw [if_pos rfl]
theorem hTab_next {x c : Str} {f : Stm} {t : List (Str × Stm)} (h : x ≠ c) : hTab ((c, f) :: t) x = hTab t x := by
  conv => lhs; unfold hTab
  rw [if_neg h]
section
variable {K : PySem.W.Frag} {cl : Str → Option Addr} {bo : Hp} {W : Wsh} {X : Cx}
theorem clof_nil {CX : Addr} {b : Bool} : ClOf K cl CX b [] := fun c h => by cases h
theorem clof_cons {CX C : Addr} {b : Bool} {c : Str} {cs : List Str} (h1 : cl c = some C) (h2 : PySem.W.exmOne K (.ref C) (.ref CX) = some b) (h : ClOf K cl CX b cs) : ClOf K cl CX b (c :: cs) := fun x hx => by
  rcases List.mem_cons.mp hx with rfl | hx
  · exact ⟨C, h1, h2⟩
  · exact h x hx
end
/-- the law's promise, of one text -/
def spLaw (K : PySem.W.Frag) (F : Fn) : Sp := fun vs H Q _ => ∃ a ns, vs = [V.ref a] ∧ SqL K H a (ns.map V.int) ∧ F [.scr ns] = .ok (.bl true, []) ∧ ∀ H', Q (.bl true) H'
theorem sp_law {K : PySem.W.Frag} {cl : Str → Option Addr} {F : Fn} {vs : List V} {H : Hp} {Q : VK} {E : XK} (h : spLaw K F vs H Q E) : spD ⟨K, cl, fun _ => none⟩ [.b] F vs H Q E := by
  obtain ⟨a, ns, rfl, hS, hF, hQ⟩ := h
  refine ⟨[(false, .scr ns)], [], fun _ => none, rfl, ⟨.ref a, [], [], [], rfl, rfl, ⟨⟨rfl, a, rfl, by rw [cut_nil]; exact hS⟩, rfl⟩, rfl, rfl⟩, List.nodup_nil, (fun b u e => by cases e), (fun b m => by cases m), fun _ => rfl, (fun b u e => by cases e), ?_⟩
  show match F [.scr ns] with
    | .ok (r, outs) => _
    | .exc c => _
    | .bad => False
  rw [hF]
  intro v H' Z' A _ _ _ _ ho _ _ _
  obtain ⟨v', r, F1, F2, e1, e2, h1, h2⟩ := ho
  cases e1
  rw [h1.1]
  exact hQ H'
theorem law_sp0 {K : PySem.W.Frag} {F : Fn} {H : Hp} {a : Addr} {ns : List Int} (hS : SqL K H a (ns.map V.int)) (hF : F [.scr ns] = .ok (.bl true, [])) : spLaw K F [.ref a] H (fun v _ => v = .bl true) fun _ _ _ => False := ⟨a, ns, rfl, hS, hF, fun _ => rfl⟩
@[simp] theorem z_raise {c : Str} {env : DEnv} : sRaise c env = .exc c := rfl
end DL
namespace DL
open PySem PySem.Spec PyProof.Rows L2
section
variable {X : Cx}
end
section
variable {G : Gc} {W : Wsh} {X : Cx} {B Z H : Hp} {σ : L2.St} {env : DEnv} {Fs : Nat → List Addr}
end
end DL
namespace DL
open PySem PySem.Spec PyProof.Rows L2
section
variable {env : DEnv} {g : DEnv → Option D} {cs fs : List Str} {c f m : Str} {vs xs : List D} {d x : D} {j : Nat}
@[simp] theorem z_pun : pUn g env = (g env).map unb := rfl
@[simp] theorem z_unb1 : unb (.bor d) = d := rfl
@[simp] theorem z_unb2 {fl : Bool} : unb (.tupF fl xs) = .tupF fl xs := rfl
@[simp] theorem z_unb3 : unb (.lst xs) = .lst xs := rfl
@[simp] theorem z_scp {cv : DEnv → Option DEnv} {h : Stm} : sScp cv h env = if noLck env = true then must (cv env) fun env1 => match h env1 with
    | .ok (.rt d e) => if d.nob = true ∧ ioNob e = true then .ok (.rt d (ioOnly e)) else .bad
    | .exc c => .exc c
    | _ => .bad
  else .bad := rfl
@[simp] theorem z_boro : borO j env = match env[j]? with
  | some (some (.own, d)) => if d.isNon = false then some (env.set j (some (.own, .bor d))) else none
  | _ => none := rfl
@[simp] theorem z_nolck0 : noLck [] = true := rfl
@[simp] theorem z_nolck1 {r : DEnv} : noLck (none :: r) = noLck r := rfl
@[simp] theorem z_nolck2 {r : DEnv} : noLck (some (.own, d) :: r) = noLck r := rfl
@[simp] theorem z_nolck3 {r : DEnv} : noLck (some (.brw, d) :: r) = noLck r := rfl
@[simp] theorem z_nolck4 {r : DEnv} : noLck (some (.io, d) :: r) = noLck r := rfl
@[simp] theorem z_nolck5 {r : DEnv} : noLck (some (.shr, d) :: r) = noLck r := rfl
@[simp] theorem z_nolck6 {r : DEnv} : noLck (some (.lck, d) :: r) = false := rfl
@[simp] theorem z_ioo0 : ioOnly [] = [] := rfl
@[simp] theorem z_ioo1 {s : Slot} {r : DEnv} : ioOnly (s :: r) = (match s with
  | some (.io, d) => some (.io, d)
  | _ => none) :: ioOnly r := rfl
@[simp] theorem z_iob0 : ioNob [] = true := rfl
@[simp] theorem z_iob1 {s : Slot} {r : DEnv} : ioNob (s :: r) = ((match s with
  | some (.io, d) => d.nob
  | _ => true) && ioNob r) := rfl
end
end DL
namespace DL
open PySem PySem.Spec PyProof.Rows L2
section
variable {K : PySem.W.Frag} {cl : Str → Option Addr} {bo : Hp} {W : Wsh} {X : Cx} {B Z H : Hp} {σ : L2.St} {env : DEnv} {Fs : Nat → List Addr} {ks : List Nat}
end
end DL
namespace DL
open PySem PySem.Spec PyProof.Rows L2
section
variable {G : Gc} {W : Wsh} {X : Cx}
end
end DL
namespace DL
open PySem PySem.Spec PyProof.Rows L2
/-- the way to the list, by values -/
def ptV (H : Hp) : List Int → V → V → Prop
  | [], v, w => v = w
  | i :: p, v, w => ∃ f a ws u, v = .ref a ∧ TupAt H f a ws ∧ atI ws i = some u ∧ ptV H p u w
section
variable {G : Gc} {W : Wsh} {X : Cx} {B Z H : Hp} {σ : L2.St} {env : DEnv} {Fs : Nat → List Addr}
theorem ptV.keep {H' : Hp} (k : ∀ b u, H b = some u → Still u → H' b = some u) : ∀ {p : List Int} {v w : V}, ptV H p v w → ptV H' p v w
  | [], _, _, h => h
  | _ :: _, _, _, ⟨f, a, ws, u, e, t, q, r⟩ => ⟨f, a, ws, u, e, t.keep k, q, r.keep k⟩
end
end DL
namespace DL
open PySem PySem.Spec PyProof.Rows L2
section
variable {G G' : Gc} {B Z H : Hp} {σ : L2.St} {env : DEnv} {Fs : Nat → List Addr}
end
section
variable {K : PySem.W.Frag} {cl : Str → Option Addr} {bo : Hp} {W : Wsh} {X : Cx} {B Z H : Hp} {σ : L2.St} {env : DEnv} {Fs : Nat → List Addr}
end
end DL
namespace DL
open PySem PySem.Spec PyProof.Rows L2
section
variable {G : Gc} {W : Wsh} {X : Cx} {B Z H : Hp} {σ : L2.St} {env : DEnv} {Fs : Nat → List Addr}
end
end DL
namespace DL
open PySem PySem.Spec PyProof.Rows L2
section
variable {K : PySem.W.Frag} {cl : Str → Option Addr} {bo : Hp} {W : Wsh} {X : Cx} {B Z H : Hp} {σ : L2.St} {env : DEnv} {Fs : Nat → List Addr} {ks : List Nat} {G : Gc}
end
end DL
namespace DL
open PySem PySem.Spec PyProof.Rows L2
section
variable {X : Cx} {G : Gc}
end
end DL
namespace DL
open PySem PySem.Spec PyProof.Rows L2
section
variable {X : Cx} {G : Gc}
end
end DL
namespace DL
open PySem PySem.Spec PyProof.Rows L2
section
variable {X : Cx} {G : Gc}
end
end DL
namespace DL
open PySem PySem.Spec PyProof.Rows L2
def distN {α : Type} [DecidableEq α] : List α → Nat
  | [] => 0
  | a :: l => if a ∈ l then distN l else distN l + 1
theorem dist_len {α : Type} [DecidableEq α] : ∀ (l L : List α), L.Nodup → (∀ x, x ∈ L ↔ x ∈ l) → L.length = distN l
  | [], L, _, h => by
    cases L with
    | nil => rfl
    | cons a L => exact absurd ((h a).mp List.mem_cons_self) (by simp)
  | a :: l, L, hn, h => by
    unfold distN
    by_cases ha : a ∈ l
    · rw [if_pos ha]
      refine dist_len l L hn fun x => ?_
      rw [h x, List.mem_cons]
      exact ⟨fun e => e.elim (fun e => by rw [e]; exact ha) id, .inr⟩
    · rw [if_neg ha]
      have hm : a ∈ L := (h a).mpr List.mem_cons_self
      have he := dist_len l (L.erase a) (hn.erase a) fun x => by
        rw [hn.mem_erase_iff, h x, List.mem_cons]
        constructor
        · rintro ⟨h1, h2 | h2⟩
          · exact absurd h2 h1
          · exact h2
        · exact fun h2 => ⟨fun e => ha (by rw [← e]; exact h2), .inr h2⟩
      rw [← he, List.length_erase_of_mem hm]
      have := List.length_pos_of_mem hm
      omega
theorem dist_le {α : Type} [DecidableEq α] : ∀ l : List α, distN l ≤ l.length
  | [] => Nat.le_refl _
  | a :: l => by
    unfold distN
    have := dist_le l
    rw [List.length_cons]
    split <;> omega
section
variable {X : Cx} {G : Gc}
variable {W : Wsh} {e : Expr} {p p2 pos : Pos}
end
end DL
namespace DL
open PySem PySem.Spec PyProof.Rows L2
section
variable {X : Cx} {G : Gc} {W : Wsh}
end
end DL
namespace DL
open PySem PySem.Spec PySem.Calls PyProof.Rows L2
section
variable {prog : Program} {w : World} {A : Around} {E : Value → Shared → Prop} {s : Shared} {κ : PyProof.Rows.KeyKind}
end
section
variable {X : Cx} {G : Gc} {W : Wsh}
variable {e : Expr} {es : List Expr} {t : TA} {p pos : Pos}
end
end DL
namespace DL
open PySem PySem.Spec PyProof.Rows L2
section
variable {G : Gc} {W : Wsh} {X : Cx}
end
end DL
namespace DL
open PySem PySem.Spec PyProof.Rows L2
section
variable {X : Cx} {G : Gc} {W : Wsh}
variable {e : Expr} {t : TA} {hs : List SArg} {p p2 pos pos2 : Pos}
end
end DL
namespace DL
open PySem PySem.Spec PyProof.Rows L2
section
variable {X : Cx} {G : Gc} {W : Wsh}
end
end DL
namespace DL
open PySem PySem.Spec PyProof.Rows L2
section
variable {X : Cx} {CX : CXT} {k : Nat} {C f : Addr} {mc : Value} {fd : FuncData} {ps : List Str} {sp : Sp} {E : L2.St → XK} {m : Str} {pos apos : Pos} {o e : Expr} {es : List Expr} {t : TA}
end
section
variable {G : Gc} {W : Wsh} {X : Cx}
end
end DL
namespace DL
open PySem PySem.Spec PyProof.Rows L2
section
variable {G : Gc} {W : Wsh} {X : Cx} {B Z H H' : Hp} {σ : L2.St} {env : DEnv} {Fs : Nat → List Addr}
theorem Good.heap (g : Good G B Z H σ env Fs) (sb : Same B H') (k : ∀ b u i, H b = some u → (b ∈ Fs i ∨ Still u) → H' b = some u) : Good G B Z H' σ env Fs :=
  have sz : Same Z H' := fun b u e => by rw [g.z0] at e; cases e
  ⟨sb, sz, g.len, fun i => (g.sl i).keep g.sb g.sz sb sz (Same.refl Z) fun b u e m => k b u i e m, g.nd, g.dj, g.fr, g.z0, g.gb⟩
end
end DL
namespace DL
open PySem PySem.Spec PyProof.Rows L2
section
variable {G : Gc} {W : Wsh} {X : Cx} {B Z H : Hp} {σ : L2.St} {env : DEnv} {Fs : Nat → List Addr}
end
end DL
namespace DL
open PySem PySem.Spec PyProof.Rows L2
section
variable {G : Gc} {W : Wsh} {X : Cx}
end
end DL
namespace DL
open PySem PySem.Spec PyProof.Rows L2
section
variable {G : Gc} {W : Wsh} {X : Cx}
end
end DL
namespace DL
open PySem PySem.Spec PyProof.Rows L2
section
variable {G : Gc} {W : Wsh} {X : Cx}
end
end DL
namespace DL
open PySem PySem.Spec PyProof.Rows L2
section
variable {G : Gc} {W : Wsh} {X : Cx}
end
end DL
namespace DL
open PySem PySem.Spec PyProof.Rows L2
section
variable {X : Cx} {G : Gc}
end
end DL
namespace DL
open PySem PySem.Spec PyProof.Rows L2
section
variable {G : Gc} {W : Wsh} {X : Cx}
end
end DL
namespace DL
open PySem PySem.Spec PyProof.Rows L2
section
variable {K : PySem.W.Frag} {cl : Str → Option Addr} {bo : Hp} {W : Wsh} {X : Cx}
end
end DL
namespace DL
open PySem PySem.Spec PyProof.Rows L2
section
variable {G : Gc} {W : Wsh} {X : Cx}
end
end DL
namespace DL
open PySem PySem.Spec PyProof.Rows L2
def fIntS : D → Option D
  | .str s => match intText? s with
    | some n => iff? (s.length ≤ 640) (.int n)
    | none => none
  | _ => none
abbrev gIntS := una fIntS
section
variable {G : Gc} {W : Wsh} {X : Cx} {e : Expr} {es : List Expr} {t : TA} {p p2 pos : Pos}
def rIntS : List V → Hp → VK → Prop := fun xs H Q => ∃ a n, xs = [V.str a] ∧ PySem.intText? a = some n ∧ a.length ≤ 640 ∧ Q (.int n) H
theorem fIntS_some {a d : D} (h : fIntS a = some d) : ∃ s n, a = .str s ∧ intText? s = some n ∧ s.length ≤ 640 ∧ d = .int n := by
  unfold fIntS at h
  split at h
  · rename_i s
    split at h
    · rename_i n hn
      obtain ⟨h1, rfl⟩ := iff?_some h
      exact ⟨s, n, rfl, hn, h1, rfl⟩
    · cases h
  · cases h
theorem rop_intS : ROp G rIntS gIntS := by
  intro ds vs H Q d h e q
  obtain ⟨a, rfl, e⟩ := una_some e
  obtain ⟨x, rfl, h1⟩ := own1 h
  obtain ⟨s, n, rfl, hn, hl, rfl⟩ := fIntS_some e
  obtain ⟨rfl, _⟩ := h1
  exact ⟨s, n, rfl, hn, hl, done0 q fun Z => ⟨rfl, rfl⟩⟩
theorem pure_intS : PureG gIntS := by
  intro ds d e
  obtain ⟨a, rfl, e⟩ := una_some e
  obtain ⟨s, n, rfl, hn, hl, rfl⟩ := fIntS_some e
  rfl
theorem p_intS {hs : List SArg} (dx : DX X G) (hg : Gl X "int") (hm : X.mg "int" = none) (ha : PA X (e :: es) t) (ht : t = seqTE (hs.map (SArg.te G)) := by rfl) (he : starEach (e :: es) X.env = (false, eval e X.env) :: starEach es X.env := by rfl) (hpl : (backTo pos (starEach es X.env)).any (·.1) = false := by rfl) : PE X (.Call (.Name "int" p) (e :: es) [] pos) (TPur G (hOp hs gIntS)) :=
  p_callT call_int_str hg hm bt_int rop_intS pure_intS ha ht (by decide) (by decide) he hpl
end
@[simp] theorem z_intS {d : D} : gIntS [d] = fIntS d := rfl
end DL
namespace DL
open PySem PySem.Spec PyProof.Rows L2
section
variable {K : Type} [DecidableEq K]
def addN (σ : List K) (k : K) : List K := if k ∈ σ then σ else σ ++ [k]
def gotN (xs : List K) : Nat → List K
  | 0 => []
  | i + 1 => match xs[i]? with
    | some x => addN (gotN xs i) x
    | none => gotN xs i
theorem addN_nodup {σ : List K} {k : K} (h : σ.Nodup) : (addN σ k).Nodup := by
  unfold addN
  split
  · exact h
  · rename_i hn
    rw [List.nodup_append]
    refine ⟨h, by simp, fun a ha b hb e => hn ?_⟩
    rw [← List.mem_singleton.mp hb, ← e]; exact ha
theorem addN_mem {σ : List K} {k x : K} : x ∈ addN σ k ↔ x ∈ σ ∨ x = k := by
  unfold addN
  split
  · rename_i h
    exact ⟨.inl, fun h1 => h1.elim id fun e => e ▸ h⟩
  · rw [List.mem_append, List.mem_singleton]
theorem addN_len (σ : List K) (k : K) : (addN σ k).length = if decide (k ∈ σ) = true then σ.length else σ.length + 1 := by
  unfold addN
  by_cases h : k ∈ σ
  · rw [if_pos h, if_pos (decide_eq_true h)]
  · rw [if_neg h, if_neg (by rw [decide_eq_true_eq]; exact h), List.length_append]; rfl
theorem gotN_succ {xs : List K} {i : Nat} (h : i < xs.length) : gotN xs (i + 1) = addN (gotN xs i) xs[i] := by
  show (match xs[i]? with
    | some x => addN (gotN xs i) x
    | none => gotN xs i) = _
  rw [List.getElem?_eq_getElem h]
theorem gotN_nodup (xs : List K) : ∀ i, (gotN xs i).Nodup
  | 0 => List.nodup_nil
  | i + 1 => by
    by_cases h : i < xs.length
    · rw [gotN_succ h]; exact addN_nodup (gotN_nodup xs i)
    · show (match xs[i]? with
        | some x => addN (gotN xs i) x
        | none => gotN xs i).Nodup
      rw [List.getElem?_eq_none (by omega)]
      exact gotN_nodup xs i
theorem gotN_mem {xs : List K} {x : K} : ∀ i, i ≤ xs.length → (x ∈ gotN xs i ↔ x ∈ xs.take i)
  | 0, _ => by rw [List.take_zero]; exact Iff.rfl
  | i + 1, h => by
    rw [gotN_succ h, addN_mem, gotN_mem i (by omega), List.take_succ, List.getElem?_eq_getElem h, List.mem_append]
    simp
theorem gotN_le (xs : List K) : ∀ i, i ≤ xs.length → (gotN xs i).length ≤ i
  | 0, _ => Nat.le_refl _
  | i + 1, h => by
    rw [gotN_succ h, addN_len]
    have := gotN_le xs i (by omega)
    split <;> omega
theorem gotN_dist (xs : List K) : (gotN xs xs.length).length = distN xs :=
  dist_len xs _ (gotN_nodup xs _) fun x => by rw [gotN_mem _ (Nat.le_refl _), List.take_length]
end
section
variable {prog : Program} {w : World} {A : Around} {R : Result → Shared → Prop} {I : Addr} {fp wr : List Addr} {G : Array GenState → Array GenState → Prop} {n : Nat} {P : Nat → Value → Prop} {St : Nat → Shared → Prop}
theorem fillS (W : WalksS prog w A.in1 I fp wr G n P St) (S : Addr) (hSf : S ∉ fp) (xs : List Str) (hsz : xs.length = n) (hb : n + 1 < scanBound)
    (hval : ∀ i v, P i v → ∃ t, v = .str (xs.getD i Str.empty) t) :
    ∀ (k i : Nat) (s : Shared), n - i = k → i ≤ n → St i s →
      s.heap.SetOf (PySem.strKind prog w) S (fun k' => decide (k' ∈ gotN xs i)) (gotN xs i).length →
      (∀ s', Moved (S :: wr) G s s' → s'.heap.SetOf (PySem.strKind prog w) S (fun k' => decide (k' ∈ gotN xs n)) (gotN xs n).length → R (.ok (.ret .none)) s') →
      codeAny (model prog w) A (.builtin "set.update.loop" ⟨[.ref S, .ref I], []⟩) R s := by
  have hSw : S ∉ wr := fun h => hSf (W.sub _ h)
  have hsub : ∀ b ∈ wr, b ∈ S :: wr := fun b hb => List.mem_cons_of_mem _ hb
  intro k
  induction k with
  | zero =>
    intro i s hk hi hst hS hR
    have hin : i = n := by omega
    subst hin
    refine codeAny_builtin PyProof.Rows.F.entry_set_update_loop ?_
    rw [Around.under_plainId PyProof.Rows.F.plain_set_update_loop _]
    show wpAny _ A.in1 (pyNext (.ref I) >>= _) _ _ s
    refine wpAny_bind (W.done s _ _ hst fun s' hm => ?_)
    show wpAny _ A.in1 (ret Value.none) _ _ s'
    exact wpAny_pure (hR s' (hm.mono hsub) (by
      obtain ⟨o, es, ep, t, ho, rest⟩ := hS
      exact ⟨o, es, ep, t, hm.heap S _ hSw ho, rest⟩))
  | succ k ih =>
    intro i s hk hi hst hS hR
    have hlt : i < n := by omega
    have hlx : i < xs.length := by omega
    refine codeAny_builtin PyProof.Rows.F.entry_set_update_loop ?_
    rw [Around.under_plainId PyProof.Rows.F.plain_set_update_loop _]
    show wpAny _ A.in1 (pyNext (.ref I) >>= _) _ _ s
    refine wpAny_bind (W.item i s _ _ hlt hst fun v s' hP hst' hm => ?_)
    obtain ⟨t, rfl⟩ := hval i v hP
    have hx : xs.getD i Str.empty = xs[i] := by rw [List.getD_eq_getElem?_getD, List.getElem?_eq_getElem hlx]; rfl
    rw [hx]
    have hS' : s'.heap.SetOf (PySem.strKind prog w) S (fun k' => decide (k' ∈ gotN xs i)) (gotN xs i).length := by
      obtain ⟨o, es, ep, tb, ho, rest⟩ := hS
      exact ⟨o, es, ep, tb, hm.heap S _ hSw ho, rest⟩
    show wpAny _ A.in1 (holding [Value.str xs[i] t] (setAdd S (.str xs[i] t)) >>= _) _ _ s'
    refine wpAny_bind (wpAny_holding ?_)
    unfold setAdd
    refine wpAny_holding ?_
    refine wpAny_bind ((PySem.strKind prog w).pyHash (k := xs[i]) (strKind_is _ _ _ _) ?_)
    have hroom : (gotN xs i).length + 1 < scanBound := by have := gotN_le xs i (by omega); omega
    refine wpAny_setAddHashed_of (knd := PySem.strKind prog w) (s := { s' with toks := s'.toks + 1 }) (strKind_is _ _ _ _) rfl hS' hroom fun h' hsb hS2 => ?_
    have hSi : h'.SetOf (PySem.strKind prog w) S (fun k' => decide (k' ∈ gotN xs (i + 1))) (gotN xs (i + 1)).length :=
      SetOf_congr hS2 (fun k' => by
        rw [gotN_succ hlx]
        rw [← Bool.decide_or]
        exact decide_eq_decide.mpr addN_mem.symm) (by rw [gotN_succ hlx, addN_len])
    refine wpAny_pure ⟨plainId_quiet PyProof.Rows.F.plain_set_update_loop _, ih (i + 1) _ (by omega) hlt (W.frame _ s' _ _ hst' (Nat.le_succ _) fun b hb o e => ?_) hSi fun s'' hm'' hS'' => ?_⟩
    · rw [hsb.2 b (fun h : b = S => hSf (by rw [← h]; exact hb))]; exact e
    · refine hR s'' (Moved.trans W.gtrans ((hm.mono hsub).then_heap (Nat.le_succ _) fun b o hb e => ?_) hm'') hS''
      rw [hsb.2 b (fun h : b = S => hb (by rw [h]; exact List.mem_cons_self))]; exact e
end
section
variable {prog : Program} {w : World} {A : Around} {E : Value → Shared → Prop} {s : Shared}
set_option maxHeartbeats 3200000 in
theorem set_strs {l : Addr} {items : Array Value} {xs : List Str} {Q : Value → Shared → Prop}
    (hh : A.handled = none) (hl : s.heap.IsList l items) (hi : PyProof.Rows.StrsAre items.toList xs) (hb : xs.length + 1 < scanBound)
    (h : ∀ (h' : Heap) (tk : Nat), h'.SetOf (PySem.strKind prog w) s.heap.objs.size (fun k' => decide (k' ∈ gotN xs xs.length)) (distN xs) →
      (∀ b o, b < s.heap.objs.size → s.heap.get? b = some o → h'.get? b = some o) → Q (.ref s.heap.objs.size) { s with heap := h', toks := tk }) :
    wpAny (model prog w) A (call (.type "set") [.ref l]) Q E s := by
  have hsz : xs.length = items.size := by rw [← StrsAre.len_eq hi, Array.length_toList]
  obtain ⟨c, tl, hmro⟩ := PySem.F.called_set.mro
  have hmade := PySem.F.called_set.made
  have hsub := PySem.F.called_set.sub
  refine wpAny_call (codeAny_of_tree ?_)
  show wpAny _ _ (callAny (.type "set") _) _ _ _
  refine wpAny_pure ⟨Code.quiet_builtin _ (by decide +kernel), codeAny_builtin PySem.F.entry_type_call ?_⟩
  rw [Around.under_plain (weight_type_call_type "set" [.ref l] []) rfl]
  have h1 := PySem.F.called_set.notType
  have h2 := PySem.F.called_set.canCreate
  have hct := PySem.F.typeCall_set_1 (.ref l)
  repeat (any_goals (first | assumption | wp_step))
  refine codeAny_mono (code_set_new_1 (.ref l) (E := E) (Q₁ := fun obj s₁ => ∃ led : Bool, obj = .ref s.heap.objs.size ∧ s₁ = { s with heap := s.heap.push { cls := .type "set", dict := none, data := .set #[] 0 (.fresh 0 0 led) } }) fun led => ⟨led, rfl, rfl⟩) fun r s₁ hr => ?_
  cases r with
  | error e => exact hr
  | ok fl =>
    cases fl with
    | ret obj =>
      obtain ⟨led, rfl, rfl⟩ := hr
      have hS : (s.heap.push { cls := .type "set", dict := none, data := .set #[] 0 (.fresh 0 0 led) }).get? s.heap.objs.size = some { cls := .type "set", dict := none, data := .set #[] 0 (.fresh 0 0 led) } := Heap.get?_push_size _ rfl
      have hT : Shared.TypeIs { s with heap := s.heap.push { cls := .type "set", dict := none, data := .set #[] 0 (.fresh 0 0 led) } } (.ref s.heap.objs.size) "set" := ⟨_, hS, rfl⟩
      have hli := PySem.F.called_set.init.lookup
      have hbi := PySem.F.called_set.init.bind (.ref s.heap.objs.size)
      repeat (any_goals (first | assumption | wp_step))
      refine codeAny_mono (codeAny_call_builtin (R := wants (fun r s₂ => r = .none ∧ ∃ h' tk, s₂ = { s with heap := h', toks := tk } ∧
          h'.SetOf (PySem.strKind prog w) s.heap.objs.size (fun k' => decide (k' ∈ gotN xs xs.length)) (distN xs) ∧
          (∀ b o, b < s.heap.objs.size → s.heap.get? b = some o → h'.get? b = some o)) E) PySem.F.called_set.init.plain PySem.F.entry_set_init (check_set_init_1 hT ?_)) fun r₂ s₂ hr₂ => ?_
      · obtain ⟨ol, hol, hcl, nl, hdl⟩ := hl
        obtain ⟨ocls, odict, odata, oslots⟩ := ol
        simp only at hcl hdl
        subst hcl; subst hdl
        have hol' : (s.heap.push { cls := .type "set", dict := none, data := .set #[] 0 (.fresh 0 0 led) }).get? l = some { cls := .type "list", dict := odict, data := .seq items nl, slots := oslots } := Heap.get?_push_of_some _ hol
        have hsls := PySem.F.sub_list_set
        have hslf := PySem.F.sub_list_frozenset
        have hne : (Value.type "list" == Value.type "dict") = false := by decide
        have hl1 : (s.heap.push { cls := .type "set", dict := none, data := .set #[] 0 (.fresh 0 0 led) }).IsList l items := ⟨_, hol', rfl, nl, rfl⟩
        unfold Builtin.«set.__init__» noKeywords Builtin.Frozenset.updateFrom
        generalize hPI : pyIter = PI
        wp_walk
        subst hPI
        refine wpAny_pyIter_list hl1 ?_
        refine wpAny_bind (wpAny_runValue ?_)
        have hlS : l < s.heap.objs.size := Heap.lt_size hol
        have hh3 : A.in1.in1.in1.handled = none := by simp [hh]
        have hneI : l ≠ (s.heap.push { cls := .type "set", dict := none, data := .set #[] 0 (.fresh 0 0 led) }).objs.size := by
          rw [Heap.size_push]; exact Nat.ne_of_lt (Nat.lt_succ_of_lt hlS)
        have hSf : s.heap.objs.size ∉ [(s.heap.push { cls := .type "set", dict := none, data := .set #[] 0 (.fresh 0 0 led) }).objs.size, l] := by
          rw [Heap.size_push]; simp only [List.mem_cons, List.mem_singleton, List.not_mem_nil, or_false, not_or]
          exact ⟨Nat.ne_of_lt (Nat.lt_succ_self _), Nat.ne_of_gt hlS⟩
        have hval : ∀ (i : Nat) (v : Value), items[i]? = some v → ∃ t, v = .str (xs.getD i Str.empty) t := fun i v hv => SS.strs_at hi i v (by rw [Array.getElem?_toList]; exact hv)
        refine fillS ((Walks.list hh3 _ l hneI items).toS) s.heap.objs.size
          hSf xs hsz (by rw [← hsz]; exact hb) hval (items.size - 0) 0 _ (by omega) (Nat.zero_le _)
          ⟨⟨_, Heap.get?_push_size _ rfl, rfl, rfl⟩, (hl1.push _)⟩ ?hS0 ?hR
        case hS0 =>
          have hget : ((s.heap.push { cls := .type "set", dict := none, data := .set #[] 0 (.fresh 0 0 led) }).push { cls := .type "list_iterator", data := .fields #[.ref l, .int 0 0] }).get? s.heap.objs.size
              = some { cls := .type "set", dict := none, data := .set #[] 0 (.fresh 0 0 led) } := Heap.get?_push_of_some _ hS
          exact PyProof.Rows.SetOf_congr ((PyProof.Rows.setObjOf_fresh (knd := PySem.strKind prog w) led).setOf hget (by unfold scanBound; omega)) (fun _ => rfl) rfl
        case hR =>
          intro s' hm hS'
          obtain ⟨h', g', d', tk', os'⟩ := s'
          have eg : g' = s.gens := hm.gens
          have ed : d' = s.drawn := hm.drawn
          have eo : os' = s.os := hm.os
          subst eg; subst ed; subst eo
          show wpAny _ _ _ _ _ _
          refine wpAny_pure ?_
          show wpAny _ _ (ret Value.none) _ _ _
          rw [← hsz] at hS'
          rw [gotN_dist] at hS'
          refine wpAny_pure ⟨rfl, h', tk', rfl, hS', fun b o hb e => ?_⟩
          have hb1 : b ≠ s.heap.objs.size := Nat.ne_of_lt hb
          have hb2 : b ≠ (s.heap.push { cls := .type "set", dict := none, data := .set #[] 0 (.fresh 0 0 led) }).objs.size := by
            rw [Heap.size_push]; exact Nat.ne_of_lt (Nat.lt_succ_of_lt hb)
          exact hm.heap b o (by simp only [List.mem_cons, List.mem_singleton, List.not_mem_nil, or_false, not_or]; exact ⟨hb1, hb2⟩) (Heap.get?_push_of_some _ (Heap.get?_push_of_some _ e))
      · cases r₂ with
        | error e => exact hr₂
        | ok fl₂ =>
          cases fl₂ with
          | ret r =>
            obtain ⟨rfl, h', tk, rfl, hS', hk'⟩ := hr₂
            repeat (any_goals (first | assumption | wp_step))
            exact h _ _ hS' hk'
          | _ => exact hr₂.elim
    | _ => exact hr.elim
end
def fDistS : D → Option D
  | .lst ds => if ds.length < 64 then (D.strs ds).map fun zs => .int (distN zs : Nat) else none
  | _ => none
abbrev gDistS := una fDistS
def rLenSetS (K : PySem.W.Frag) : List V → Hp → VK → Prop := l1 fun x H Q => ∃ l : Addr, x = V.ref l ∧ ∃ xs : List Str, SqL K H l (xs.map V.str) ∧ xs.length < 64 ∧ Q (.int (distN xs : Nat)) H
section
variable {X : Cx} {G : Gc}
theorem pe_lenSetS {a : Expr} {ta : TE} {p p2 q pos : Pos} (hc : X.calm = true) (hg : Gl X "len") (hm : X.mg "len" = none) (hg2 : Gl X "set") (hm2 : X.mg "set" = none) (ha : PE X a ta)
    (na : starEach [a] X.env = (false, eval a X.env) :: starEach [] X.env := by rfl) : PE X (.Call (.Name "len" p) [.Call (.Name "set" p2) [a] [] q] [] pos) (fun σ H Q => ta σ H fun x H1 => rLenSetS X.K [x] H1 Q) := by
  refine ⟨fun pins s σ H Q I h => ?_⟩
  refine Call_ (ld_blt I hg hm PySem.boot_len ?_)
  refine PyProof.Rows.callWith_builtin1 (PyProof.Rows.args_cons ?_ rfl) rfl rfl
  refine Call_ (ld_blt I hg2 hm2 PyProof.Rows.boot_set ?_)
  refine PyProof.Rows.callWith_type1 (PyProof.Rows.args_cons (thn (ha.run pins s σ H _ I h) fun v s1 ⟨x, H1, I1, r1, q1⟩ => PyProof.Rows.args_nil ?_) na) na rfl
  obtain ⟨l, rfl, xs, hq, h1, q1⟩ := q1
  cases r1
  obtain ⟨its, r, pl, hz⟩ := I1.list hq
  refine set_strs (I1.ok.hd hc) pl.isList (xs := xs) (by simpa using strsAre_of r) (by unfold scanBound; omega) fun h' tk hS hk => ?_
  refine PyProof.Rows.args_nil ?_
  obtain ⟨o, es, ep, t, ho, hex, hd, _, _, _, hf, hn⟩ := hS
  have hdl := dist_le xs
  have I2 : Inv X pins σ H1 { s1 with heap := h', toks := tk } := I1.kept fun b o e => hk b o (Heap.lt_size e) e
  refine call_len_set ho hex hd hf (by rw [hn] <;> omega) ⟨.int (distN xs : Nat), H1, I2.tok _, ⟨_, by rw [hn]⟩, q1⟩
theorem rop_distS : ROp G (rLenSetS G.K) gDistS := by
  intro ds vs H Q d h e q
  obtain ⟨a, rfl, e⟩ := una_some e
  obtain ⟨x, rfl, h1⟩ := own1 h
  cases a with
  | lst xs =>
    have e : (if xs.length < 64 then (D.strs xs).map fun zs => D.int (distN zs : Nat) else none) = some d := e
    by_cases hl : xs.length < 64
    · rw [if_pos hl] at e
      obtain ⟨p, ys, rfl, hs, o⟩ := h1.lstR
      obtain ⟨zs, hk, rfl⟩ := map_some' e
      have e1 := strs_own hk o
      have h2 := OwnL.length o
      rw [e1] at hs
      rw [e1, List.length_map] at h2
      exact ⟨p, rfl, zs, hs, by omega, done0 q fun Z => ⟨rfl, rfl⟩⟩
    · rw [if_neg hl] at e; cases e
  | _ => cases e
variable {W : Wsh} {e : Expr} {p p2 pos : Pos}
theorem e_distS {te : TE} {pos2 : Pos} (dx : DX X G) (c : Chn) (hg : Gl X "len") (hm : X.mg "len" = none) (hg2 : Gl X "set") (hm2 : X.mg "set" = none) (he : PE X e te) (hc : c.tes G W = [te] := by rfl) (hn : c.iofs.any id = false := by rfl)
    (hs : starEach [e] X.env = (false, eval e X.env) :: starEach [] X.env := by rfl) (hcl : X.calm = true := by rfl) :
    PE X (.Call (.Name "len" p) [.Call (.Name "set" p2) [e] [] pos2] [] pos) (TV G W (eOp c gDistS)) :=
  (pe_lenSetS hcl hg hm hg2 hm2 he hs).imp fun σ H Q h => by
    have q := tv_op (r := rLenSetS X.K) (by rw [dx.K]; exact rop_distS) hn σ H Q h
    rw [hc] at q
    exact q
end
@[simp] theorem z_distS {x : D} : gDistS [x] = fDistS x := rfl
end DL
namespace DL
open PySem PySem.Spec PyProof.Rows L2
def gDGet2 : List D → Option D
  | [dd, k, x] => match fLook dd k with
    | some (some d) => iff? (d.pure = true) d
    | some none => iff? (x.pure = true) x
    | none => none
  | _ => none
def rDGet2 : V → List V → Hp → VK → Prop := fun x xs H Q => ∃ a y z o, x = .ref a ∧ xs = [y, z] ∧ DGet H a y o ∧ Q (o.getD z) H
section
variable {X : Cx} {G : Gc} {W : Wsh}
theorem mt_dget2 (hu : X.A.units + 1 < cLine) : MtR X "dict.get" rDGet2 := by
  intro pins s σ H x xs v us Q I rx rs h
  obtain ⟨a, y, z, o, rfl, rfl, g, q⟩ := h
  cases rx
  cases rs with
  | cons r1 t =>
    cases t with
    | cons r2 t2 =>
      cases t2
      exact d_get2 hu I g r1 r2 fun w' s' I' rw' => ⟨_, H, I', rw', q⟩
theorem gDGet2_some {ds : List D} {d : D} (e : gDGet2 ds = some d) : ∃ dd k x, ds = [dd, k, x] ∧ ((fLook dd k = some (some d) ∧ d.pure = true) ∨ (fLook dd k = some none ∧ x = d ∧ d.pure = true)) := by
  match ds, e with
  | [dd, k, x], e =>
    have e : (match fLook dd k with
      | some (some d) => iff? (d.pure = true) d
      | some none => iff? (x.pure = true) x
      | none => none) = some d := e
    refine ⟨dd, k, x, rfl, ?_⟩
    cases hl : fLook dd k with
    | none => rw [hl] at e; cases e
    | some o =>
      cases o with
      | none =>
        rw [hl] at e
        obtain ⟨hp, rfl⟩ := iff?_some e
        exact .inr ⟨rfl, rfl, hp⟩
      | some d2 =>
        rw [hl] at e
        obtain ⟨hp, rfl⟩ := iff?_some e
        exact .inl ⟨rfl, hp⟩
theorem rop_dget2 : ROp G (rvM rDGet2) gDGet2 := by
  intro ds vs H Q d h e q
  obtain ⟨dd, k, x, rfl, ee⟩ := gDGet2_some e
  obtain ⟨vd, vk, vx, rfl, h1, h2, h3⟩ := own3 h
  clear e
  rcases ee with ⟨e, hp⟩ | ⟨e, rfl, hp⟩
  · obtain ⟨p, o, rfl, hg, k1, _⟩ := look_get e h1 h2
    obtain ⟨v, rfl, hv⟩ := k1 d rfl
    exact ⟨p, vk, vx, some v, rfl, rfl, hg, done0 q fun Z => (Own.ofPure (Z' := Z) d v [] hp hv).2⟩
  · obtain ⟨p, o, rfl, hg, _, k2⟩ := look_get e h1 h2
    have := k2 rfl
    subst this
    exact ⟨p, vk, vx, none, rfl, rfl, hg, done0 q fun Z => (Own.ofPure (Z' := Z) x vx [] hp h3).2⟩
theorem pure_dget2 : PureG gDGet2 := by
  intro ds d e
  obtain ⟨dd, k, x, rfl, ee⟩ := gDGet2_some e
  rcases ee with ⟨_, hp⟩ | ⟨_, _, hp⟩ <;> exact hp
variable {o e : Expr} {es : List Expr} {t : TA} {apos cpos : Pos} {h : DEnv → Option D} {i : Nat} {hs : List SArg}
theorem p_dget2 (dx : DX X G) (ho : PE X o (TPlc G i h)) (ha : PA X (e :: es) t)
    (ht : t = seqTE (hs.map (SArg.te G)) := by rfl) (hbase : attributeBase o "get" X.env (eval o X.env) = eval o X.env := by rfl)
    (hfew : ((backTo cpos (starEach (e :: es) X.env)).all (fun x => !x.1) && (backToKw cpos (keywordEach [] X.env)).all (fun x => x.1.isSome)
      && decide ((e :: es).length + ([] : List Keyword).length + (if ([] : List Keyword).isEmpty then 0 else 1) < 30)) = true := by rfl)
    (hline : (apos.endLine == cpos.line) = true := by rfl) (hst : starEach (e :: es) X.env = (false, eval e X.env) :: starEach es X.env := by rfl) (hplain : (backTo cpos (starEach es X.env)).any (·.1) = false := by rfl) :
    PE X (.Call (.Attribute o "get" apos) (e :: es) [] cpos) (TPur G (hOp (.plt i h (tyD "dict") :: hs) gDGet2)) :=
  p_mtL dx PySem.F.plainAttrs_dict PySem.F.slot_dict_get PySem.F.type_dict_get (mt_dget2 (by have := dx.un; omega)) rop_dget2 pure_dget2 ho ha ht hbase hfew hline hst hplain
end
@[simp] theorem z_dget2 {dd k x : D} : gDGet2 [dd, k, x] = match fLook dd k with
    | some (some d) => iff? (d.pure = true) d
    | some none => iff? (x.pure = true) x
    | none => none := rfl
end DL
namespace DL
open PySem PySem.Spec PyProof.Rows L2
section
variable {prog : Program} {w : World} {A : Around} {E : Value → Shared → Prop} {s : Shared} {z TI TO T i1 i2 i3 : Addr} {fp1 fp2 fp3 : List Addr} {n n1 n2 n3 i : Nat} {P1 P2 P3 : Nat → Value → Prop} {St1 St2 St3 : Nat → Heap → Prop}
variable {L b : Addr} {S0 : Shared} {acc : Array Value} {c : Nat}
variable {R : Result → Shared → Prop}
end
end DL
namespace DL
open PySem PySem.Spec PyProof.Rows L2
section
variable {prog : Program} {w : World} {A : Around} {E : Value → Shared → Prop} {s : Shared} {z TI TO i1 i2 i3 L b : Addr} {fp1 fp2 fp3 : List Addr} {n1 n2 n3 : Nat} {P1 P2 P3 : Nat → Value → Prop} {St1 St2 St3 : Nat → Heap → Prop} {R : Result → Shared → Prop}
end
section
variable {P : Program} {w : World} {H H' : Hp} {h h' : Heap} {fs ex : List Addr}
end
/-- the heap with the new list and its new tuples -/
def hz3 (H : Hp) (L : Addr) (ts : List Addr) (xs ys us : List V) : Hp := fun b => if b = L then some (.lst (ts.map V.ref)) else match ts.findIdx? (· == b) with
  | some i => some (.tup [xs.getD i .non, ys.getD i .non, us.getD i .non])
  | none => H b
section
variable {X : Cx}
end
section
variable {G : Gc} {W : Wsh} {X : Cx}
end
end DL
namespace DL
open PySem PySem.Spec PyProof.Rows L2
section
variable {X : Cx} {pins : List (Addr × Obj)} {σ : L2.St} {H : Hp} {s : Shared}
theorem Inv_keepSuite {a : Addr} {q : Addr × Obj} (I : Inv (X.suite a (q :: (X.pn ++ pins))) [] σ H s) (ok : X.Ok) : Inv X (q :: pins) σ H s :=
  ⟨ok, I.os, I.bare, I.base, I.loc, I.cell, I.free, I.freeC, fun p hp => I.pin p (by
    rw [List.append_nil]
    rcases List.mem_append.mp hp with h | h
    · exact List.mem_cons_of_mem _ (List.mem_append_left _ h)
    · rcases List.mem_cons.mp h with h | h
      · rw [h]; exact List.mem_cons_self
      · exact List.mem_cons_of_mem _ (List.mem_append_right _ h)), I.hok, I.len⟩
theorem Inv_keepTr {q : Addr × Obj} {xe : Value → Shared → Prop} (I : Inv X (q :: pins) σ H s) : Inv (X.tr (q :: (X.pn ++ pins)) xe) [] σ H s :=
  ⟨I.ok.toTry _ _, I.os, I.bare, I.base, I.loc, I.cell, I.free, I.freeC, fun p hp => I.pin p (by
    rw [List.append_nil] at hp
    rcases List.mem_cons.mp hp with h | h
    · rw [h]; exact List.mem_append_right _ List.mem_cons_self
    · rcases List.mem_append.mp h with h | h
      · exact List.mem_append_left _ h
      · exact List.mem_append_right _ (List.mem_cons_of_mem _ h)), I.hok, I.len⟩
theorem Inv_ofKeep {q : Addr × Obj} {xe : Value → Shared → Prop} {pn' : List (Addr × Obj)} (I : Inv (X.tr (q :: (X.pn ++ pins)) xe) pn' σ H s) (ok : X.Ok) : Inv X pins σ H s :=
  ⟨ok, I.os, I.bare, I.base, I.loc, I.cell, I.free, I.freeC, fun p hp => I.pin p (List.mem_append_left _ (List.mem_cons_of_mem _ hp)), I.hok, I.len⟩
end
/-- what the clause wishes of an exception of the body, the rest being run behind it -/
def wKp (K : PySem.W.Frag) (c : Value) (i : Nat) (ts tr : Addr → Value → Option Addr → TS) (Wout : WX) (D : Ends) : WX := fun cls d σ H =>
  ∃ b, PySem.W.exmOne K cls c = some b ∧ (b = true → ∀ a, H a = none → ts a cls d { nx := fun σ' H' => tr a cls d D (σ'.set i none) H', rt := fun _ _ => False, bk := fun _ _ => False, ct := fun _ _ => False } (σ.set i (some (.ref a))) H) ∧
    (b = false → Wout cls d σ H)
section
variable {X : Cx} {x n : Str} {c : Value} {i : Nat} {body suite rest : List Stmt} {b₀ : Stmt} {np pos pos' : Pos} {tb : WX → TS} {ts tr : Addr → Value → Option Addr → TS} {Wout : WX}
theorem pss_try_keep (hs : X.stack = X.env :: X.outer) (hf : X.env.frame = some X.env.locals) (hN : X.N.Nodup) (hi : X.N[i]? = some n) (hln : X.env.kindOf n = some .local) (hc : Names X x c) (tk : Takes X Wout)
    (hb : ∀ (W : WX) (pn : List (Addr × Obj)) (xe : Value → Shared → Prop), Takes (X.tr pn xe) W → PassesOwn (model X.prog X.w) X.A X.env xe → PSs (X.tr pn xe) body (tb W))
    (hsu : ∀ (a : Addr) (oe : Obj) (cls : Value) (d : Option Addr) (pn : List (Addr × Obj)), Zc cls d oe → (∃ vs, oe.data = .fields vs) → PSs (X.suite a ((a, oe) :: pn)) (b₀ :: suite) (ts a cls d))
    (hr : ∀ (a : Addr) (oe : Obj) (cls : Value) (d : Option Addr) (pn : List (Addr × Obj)), Zc cls d oe → (∃ vs, oe.data = .fields vs) → PSs (X.tr ((a, oe) :: pn) X.xe) rest (tr a cls d)) :
    PSs X (.Try body [.ExceptHandler (some (.Name x np)) (some n) (b₀ :: suite) pos'] [] [] pos :: rest) (fun D σ H => tb (wKp X.K c i ts tr Wout D) { D with nx := fun _ _ => False } σ H) := by
  refine ⟨fun pins s σ H D I h => ?_⟩
  have ok := I.ok
  have hfr : X.A.frames = some (X.env :: X.outer) := by rw [ok.frames, hs]
  have hloc : Loc X.env.scope n := .inl hln
  refine wpAny_execs_cons (thn (Q := fun f s1 => match f with
    | .next => wpAny (model X.prog X.w) X.A (execs rest X.env) (SP X pins D) X.xe s1
    | f => SP X pins D f s1) ?main fun f s1 q => by cases f <;> exact q)
  have toSP : ∀ {f : Flow} {s1 : Shared}, SP X pins { D with nx := fun _ _ => False } f s1 → (match f with
    | .next => wpAny (model X.prog X.w) X.A (execs rest X.env) (SP X pins D) X.xe s1
    | f => SP X pins D f s1) := fun {f s1} q => by
    cases f with
    | next => obtain ⟨_, _, _, z⟩ := q; exact z.elim
    | brk => exact q
    | cont => exact q
    | ret u => exact q
  refine wpAny_Try_except ?_
  refine wpAny_mono ((hb (wKp X.K c i ts tr Wout D) (X.pn ++ pins) (fun e s₁ => wpAny (model X.prog X.w) X.A (noteFrame e X.env) (fun _ s₂ => wpAny (model X.prog X.w) X.A (setFlight e none) (fun _ s₃ =>
    wpAny (model X.prog X.w) X.A (handleBy e X.env [.ExceptHandler (some (.Name x np)) (some n) (b₀ :: suite) pos']) (fun f s4 => match f with
    | .next => wpAny (model X.prog X.w) X.A (execs rest X.env) (SP X pins D) X.xe s4
    | f => SP X pins D f s4) X.xe s₃) X.xe s₂) X.xe s₁) (fun u s' xx => ?_) PassesOwn.looking).run [] s σ H { D with nx := fun _ _ => False } (I.toTry _) h) (fun f s1 hsp => ?_) (fun e s1 he => he)
  · -- the catch
    obtain ⟨a, B, sI, pins', σ', H', cls, d, rfl, J', nb, up, sky, na, os, ag, b, hb1, hyes, hno⟩ := xx
    have J : Inv X pins σ' H' sI := J'.ofTry ok
    have sky' : Sky B (X.env :: X.outer) a (Zc cls d) X.env.locals s'.heap := by rw [← hs]; exact sky
    show wpAny (model X.prog X.w) X.A (noteFrame (.ref a) X.env) _ _ _
    refine Sky.land Zc.steady hfr hf sky' fun h3 fl3 up3 => ?_
    have J3 : Inv X pins σ' H' { s' with heap := h3 } := J.landed nb fl3.1 (up.trans up3) os ag
    obtain ⟨oe3, vs3, he3, hz3, hd3⟩ := fl3.there
    have notFr : ∀ {h : Heap} {o : Obj} {vs : Array Value}, h.FunFrames B (X.env :: X.outer) → h.get? a = some o → o.data = .fields vs → a ∉ frs (X.env :: X.outer) := fun {h o vs} ff e dd hm => by
      obtain ⟨_, o', e', hnf⟩ := ff.mem hm
      rw [e] at e'; cases e'
      exact hnf _ dd
    have nfr := notFr fl3.2.2.1 he3 hd3
    have nL : a ≠ X.env.locals := fun z => nfr (List.mem_filterMap.mpr ⟨X.env, List.mem_cons_self, by rw [hf, z]⟩)
    have nF : a ∉ X.fs := fun hm => by
      obtain ⟨e, he, q⟩ := List.mem_filterMap.mp hm
      exact nfr (List.mem_filterMap.mpr ⟨e, List.mem_cons_of_mem _ he, q⟩)
    have S3 := J3.suite he3 hd3 na nL nF
    refine wpAny_handleBy_cons (codeAny_handlers_test ?_) (by intro q; cases q)
    have LT : PySem.W.Looks (model X.prog X.w) h3 (typeOf (.ref a)) cls := fun A Q E s k q => wpAny_typeOf_ref (k _ _ he3) (by rw [hz3.1]; exact q)
    have LM := PySem.W.exm_one (M := model X.prog X.w) (J3.kIn) LT hb1
    have test : ∀ {Q : Value → Shared → Prop} {E : Value → Shared → Prop}, Q c { s' with heap := h3 } → wpAny (model X.prog X.w) (X.A.mark (some (.ref a))) (eval (.Name x np) X.env) Q E { s' with heap := h3 } := fun {Q E} q => by
      obtain ⟨hg, hdbg, hm | ⟨hm, hv, hnn⟩⟩ := hc
      · exact ld_glob (X := X.suite a ((a, oe3) :: (X.pn ++ pins))) S3 hg hm q hdbg
      · exact ld_blt (X := X.suite a ((a, oe3) :: (X.pn ++ pins))) S3 hg hm hv q hnn hdbg
    refine test (LM.here ?_)
    cases b with
    | true =>
      refine codeAny_handlers_suite_as ?_
      refine HandSPX.lands_againZ fl3 fun h4 fl4 up4 => ?_
      have J4 : Inv X pins σ' H' { s' with heap := h4 } := J.landed nb fl4.1 ((up.trans up3).trans up4) os ag
      obtain ⟨oe4, vs4, he4, hz4, hd4⟩ := fl4.there
      have S4 := J4.suite he4 hd4 na nL nF
      refine store_ok (X := X.suite a ((a, oe4) :: (X.pn ++ pins))) (v := .ref a) S4 hN hi hloc rfl (fun s5 S5 => ?_) (.inr hln)
      refine wpAny_mono ((hsu a oe4 cls d (X.pn ++ pins) hz4 ⟨_, hd4⟩).run [] s5 _ H' _ S5 (hyes rfl a na)) (fun f s6 hsp => ?_) (fun _ _ z => False.elim z)
      cases f with
      | next =>
        obtain ⟨σ6, H6, S6, q6⟩ := hsp
        refine gone_ok (Inv_keepSuite S6 ok) hN hi hln fun s7 J7 => ?_
        refine wpAny_mono ((hr a oe4 cls d (X.pn ++ pins) hz4 ⟨_, hd4⟩).run [] s7 _ H6 D (Inv_keepTr J7) q6) (fun f s8 hq => ?_) (fun _ _ z => z)
        cases f with
        | next =>
          obtain ⟨σ8, H8, S8, q8⟩ := hq
          exact ⟨σ8, H8, Inv_ofKeep S8 ok, q8⟩
        | brk =>
          obtain ⟨σ8, H8, S8, q8⟩ := hq
          exact ⟨σ8, H8, Inv_ofKeep S8 ok, q8⟩
        | cont =>
          obtain ⟨σ8, H8, S8, q8⟩ := hq
          exact ⟨σ8, H8, Inv_ofKeep S8 ok, q8⟩
        | ret u =>
          obtain ⟨v8, σ8, H8, S8, r8, q8⟩ := hq
          exact ⟨v8, σ8, H8, Inv_ofKeep S8 ok, r8, q8⟩
      | brk =>
        obtain ⟨_, _, _, q6⟩ := hsp
        exact q6.elim
      | cont =>
        obtain ⟨_, _, _, q6⟩ := hsp
        exact q6.elim
      | ret u =>
        obtain ⟨_, _, _, _, _, q6⟩ := hsp
        exact q6.elim
    | false =>
      show wpAny _ X.A (handleBy (.ref a) X.env []) _ _ _
      refine wpAny_handleBy_nil ?_
      obtain ⟨k1, k2, k3, oe, vs, T, oT, ts', he, hz, hd, h1, hr⟩ := id fl3
      unfold PySem.passOn
      refine wpAny_bind (wpAny_field he hd h1 ?_)
      rw [if_neg (show ¬ ((Value.ref T == Value.none) = true) from by simp)]
      have fin : wpAny (model X.prog X.w) X.A (setFlight (.ref a) X.env.frame) (fun _ s4 => wpAny (model X.prog X.w) X.A (throw (.ref a) : Sem Flow) (fun f s5 => match f with
    | .next => wpAny (model X.prog X.w) X.A (execs rest X.env) (SP X pins D) X.xe s5
    | f => SP X pins D f s5) X.xe s4) X.xe { s' with heap := h3 } := by
        rw [hf]
        refine HandSPX.setFlight_upZ fl3 fun h4 hh4 up4 => wpAny_throw (tk _ _ ?_)
        exact ⟨a, B, sI, pins, σ', H', cls, d, rfl, J, nb, (up.trans up3).trans up4, .inr (.inr (by rw [hs]; exact hh4)), na, os, ag, hno rfl⟩
      first
        | exact wpAny_bind (wpAny_pure (wpAny_bind fin))
        | exact wpAny_bind fin
  · cases f with
    | next =>
      obtain ⟨σ', H', J', q⟩ := hsp
      exact q.elim
    | brk =>
      obtain ⟨σ', H', J', q⟩ := hsp
      exact ⟨σ', H', J'.ofTry ok, q⟩
    | cont =>
      obtain ⟨σ', H', J', q⟩ := hsp
      exact ⟨σ', H', J'.ofTry ok, q⟩
    | ret u =>
      obtain ⟨v, σ', H', J', r, q⟩ := hsp
      exact ⟨v, σ', H', J'.ofTry ok, r, q⟩
end
end DL
namespace DL
open PySem PySem.Spec PyProof.Rows L2
def endK (i : Nat) : Out Flw → Out Flw
  | .ok (.rt d e) => if d.noE = true ∧ noEs (e.set i none) = true then .ok (.rt d (e.set i none)) else .bad
  | _ => .bad
/-- i: the clause's name, ix: what keeps it; the body always refuses -/
def sKeep (i ix : Nat) (ks : List Nat) (cs ns : List Str) (body : Stm) (rE : Str → Stm) : Stm := fun env => if noIoS env = true ∧ kpB ks env i = false ∧ kpB ks env ix = false ∧ i < env.length ∧ ix < env.length ∧ i ≠ ix then match body (hold ks env) with
    | .exc c => if c ∈ cs then endK ix (rE c ((onlyK ks env).set ix (some (.own, .exn c)))) else if c ∈ ns then .exc c else .bad
    | _ => .bad
  else .bad
def tKeep (i ix : Nat) (a : Addr) : TS := fun D σ H => σ[i]? = some (some (.ref a)) ∧ D.nx (σ.set ix (some (.ref a))) H
section
variable {K : PySem.W.Frag} {cl : Str → Option Addr} {bo : Hp} {W : Wsh} {X : Cx}
theorem s_keep {x n : Str} {i ix : Nat} {CX : Addr} {ks : List Nat} {cs ns : List Str} {body suite rest : List Stmt} {b₀ : Stmt} {np pos pos' : Pos} {fb : Stm} {fe : Str → Stm} (dw : DXW X ⟨K, cl, bo⟩ W) (hx : cl exName = none) (gC : X.mg x = some (.ref CX)) (hyes : ClOf X.K cl CX true cs) (hno : ClOf X.K cl CX false ns) (hi : X.N[i]? = some n)
    (hb : ∀ (W' : Wsh) (pn : List (Addr × Obj)) (xe : Value → Shared → Prop), DXW (X.tr pn xe) ⟨K, cl, bo⟩ W' → PassesOwn (model X.prog X.w) X.A X.env xe → PSs (X.tr pn xe) body (TSt ⟨K, cl, bo⟩ W' fb))
    (hsu : ∀ (a : Addr) (oe : Obj) (pn : List (Addr × Obj)), PSs (X.suite a ((a, oe) :: pn)) (b₀ :: suite) (tKeep i ix a))
    (hr : ∀ (a : Addr) (oe : Obj) (C : Addr) (pn : List (Addr × Obj)) (c : Str), cl c = some C → c ∈ cs → Zc (.ref C) none oe → (∃ vs, oe.data = .fields vs) → PSs (X.tr ((a, oe) :: pn) X.xe) rest (TSt ⟨K, clE cl a, bo⟩ (fun _ _ _ => False) (fe c)))
    (hs : X.stack = X.env :: X.outer := by rfl) (hf : X.env.frame = some X.env.locals := by rfl) (hln : X.env.kindOf n = some .local := by rfl) (hgl : Gl X x := by rfl) (hdb : (x == ("__debug__" : Str)) = false := by decide) :
    PSs X (.Try body [.ExceptHandler (some (.Name x np)) (some n) (b₀ :: suite) pos'] [] [] pos :: rest) (TSt ⟨K, cl, bo⟩ W (sKeep i ix ks cs ns fb fe)) :=
  (pss_try_keep (i := i) (tb := fun Wk => TSt ⟨K, cl, bo⟩ (fun c σ H => ∃ C, cl c = some C ∧ Wk (.ref C) none σ H) fb)
    (ts := fun a cls d => tKeep i ix a)
    (tr := fun a cls d En σ H => ∃ c C, cl c = some C ∧ c ∈ cs ∧ cls = .ref C ∧ d = none ∧ TSt ⟨K, clE cl a, bo⟩ (fun _ _ _ => False) (fe c) En σ H)
    hs hf dw.dx.nd hi hln ⟨hgl, hdb, .inl gC⟩ dw.tk (fun Wk pn xe tk hp => hb _ pn xe (dw.tr tk) hp)
    (fun a oe cls d pn hz hf => hsu a oe pn)
    (fun a oe cls d pn hz hf => ⟨fun pins s σ H D I ⟨c, C, e1, hm, e2, e3, q⟩ => by
      subst e2 e3
      exact (hr a oe C pn c e1 hm hz hf).run pins s σ H D I q⟩)).imp fun En σ H ⟨B, Z, Fs, env, g, q⟩ => by
    unfold sKeep at q
    split at q
    · rename_i hc
      obtain ⟨hio, hki, hkx, hil, hxl, hne⟩ := hc
      refine ⟨holdB B H ks env Fs, Z, holdF ks env Fs, hold ks env, g.hold hio, ?_⟩
      generalize hfb : fb (hold ks env) = ob at q ⊢
      match ob, q with
      | .bad, q => exact q.elim
      | .ok (.nx e), q => exact q.elim
      | .ok (.bk e), q => exact q.elim
      | .ok (.ct e), q => exact q.elim
      | .ok (.rt d e), q => exact q.elim
      | .exc c, q =>
        intro σ' ag H' hH
        have q : FinS ⟨K, cl, bo⟩ W B Z H σ env (InF Fs) (if c ∈ cs then endK ix (fe c ((onlyK ks env).set ix (some (.own, .exn c)))) else if c ∈ ns then .exc c else .bad) En := q
        split at q
        · rename_i hcs
          obtain ⟨C, e1, e2⟩ := hyes c hcs
          refine ⟨C, e1, true, e2, fun _ a na => ?_, fun z => by cases z⟩
          have hlen : σ'.length = env.length := ag.1.trans (by unfold hold; rw [List.length_mapIdx])
          have hsl : (σ'.set i (some (V.ref a)) : L2.St)[i]? = some (some (.ref a)) := List.getElem?_set_self (by omega)
          have ag2 : AgL (hold ks env) σ (σ'.set i none) := ⟨by rw [List.length_set]; exact ag.1, fun j d e => by
            have hk : kpB ks env j = true := by
              unfold hold at e
              rw [List.getElem?_mapIdx] at e
              unfold kpB
              cases he : env[j]? with
              | none => rw [he] at e; cases e
              | some sl =>
                rw [he] at e
                match sl, e with
                | none, e => cases e
                | some (.own, d'), e =>
                  by_cases hj : j ∈ ks
                  · simp [hj]
                  · simp [hold1, hj] at e
                | some (.brw, d'), e =>
                  by_cases hj : j ∈ ks
                  · simp [hj]
                  · simp [hold1, hj] at e
                | some (.lck, d'), e => rfl
                | some (.io, d'), e => simp [hold1] at e
                | some (.shr, d'), e => simp [hold1] at e
            have hj : j ≠ i := fun z => by rw [z, hki] at hk; cases hk
            rw [List.getElem?_set_ne (fun z => hj z.symm)]
            exact ag.2 j d e⟩
          refine ⟨hsl, c, C, e1, hcs, rfl, rfl, ?_⟩
          have hσ : (((σ'.set i (some (V.ref a))).set ix (some (V.ref a))).set i none : L2.St) = (σ'.set i none).set ix (some (.ref a)) := by
            rw [List.set_comm _ _ hne.symm, List.set_set]
          rw [hσ]
          refine ⟨B, Z, suiF ks env Fs, (onlyK ks env).set ix (some (.own, .exn c)), g.suite hx hkx hxl hH ag2, ?_⟩
          generalize fe c ((onlyK ks env).set ix (some (.own, .exn c))) = oh at q ⊢
          match oh, q with
          | .bad, q => exact q.elim
          | .exc c2, q => exact q.elim
          | .ok (.nx e), q => exact q.elim
          | .ok (.bk e), q => exact q.elim
          | .ok (.ct e), q => exact q.elim
          | .ok (.rt d e), q =>
            have q : FinS ⟨K, cl, bo⟩ W B Z H σ env (InF Fs) (if d.noE = true ∧ noEs (e.set ix none) = true then .ok (.rt d (e.set ix none)) else .bad) En := q
            split at q
            · rename_i hn
              intro σ2 v Z2 H2 F2 F r
              refine q _ v Z2 H2 _ F ⟨Stp.suite g hio hkx hxl hH ag2 hn.2 r.st, Own.clDn _ _ _ _ hn.1 r.own, r.nd, fun b m ⟨j, n⟩ => ?_, r.fr, fun b m => ?_⟩
              · have n : b ∈ (if j = ix then ([] : List Addr) else F2 j) := n
                split at n
                · cases n
                · exact r.dj b m ⟨j, n⟩
              · rcases r.new b m with z | ⟨j, z⟩
                · cases p : H b with
                  | none => exact .inl rfl
                  | some u =>
                    refine .inr (Classical.byContradiction fun nn => ?_)
                    rw [hH b u (by rw [holdB_no (fun ⟨k, _, m⟩ => nn ⟨k, m⟩)]; exact p)] at z
                    cases z
                · exact .inr ⟨j, (suiF_sub z).1⟩
            · exact q.elim
        · split at q
          · rename_i hns
            obtain ⟨C, e1, e2⟩ := hno c hns
            refine ⟨C, e1, false, e2, fun z => (by cases z), fun _ => ⟨rfl, c, C, rfl, e1, ?_⟩⟩
            refine q σ' ⟨ag.1.trans (by unfold hold; rw [List.length_mapIdx]), fun j d e => ?_⟩ H' ((holdB_up g).trans hH)
            have hk : kpB ks env j = true := by unfold kpB; rw [e]
            obtain ⟨m', d', q1, q2, _⟩ := kp_slot hk
            rw [e] at q1
            cases q1
            exact ag.2 j d q2
          · exact q.elim
    · exact q.elim
/-- the suite `x = e` -/
theorem s_keepA {X : Cx} {i ix : Nat} {x n : Str} {p1 p2 pos : Pos} {a : Addr} (hN : X.N.Nodup) (hi : X.N[ix]? = some x) (hx : Loc X.env.scope x) (he : PE X (.Name n p2) (tVar i)) (hs : swapsWith (.Name n p2) (some (.Name x p1)) pos.line X.env = pure false := by rfl) (hf : X.fn x = true ∨ X.env.scope.names.lookup x = some .local := by first | exact .inl rfl | exact .inr rfl | assumption) :
    PSs X [.Assign [.Name x p1] (.Name n p2) pos] (tKeep i ix a) :=
  (pss_one (ps_set hN hi hx he hs hf)).imp fun En σ H ⟨e, q⟩ => ⟨_, e, q⟩
theorem call_isK {a D : Addr} {oe : Obj} {pn : List (Addr × Obj)} {xe : Value → Shared → Prop} (C : ExcC X.K D) (hz : Zc (.ref D) none oe) (hf : ∃ vs, oe.data = .fields vs) : CallR (X.tr ((a, oe) :: pn) xe) (.builtin "isinstance") (rIsE X.K D a) := by
  intro pins s σ H xs us Q I r h
  obtain ⟨c, cv, b, rfl, hcv, e, q⟩ := h
  cases r with
  | cons rx rr =>
    cases rr with
    | cons rt rr =>
      cases rr
      cases rx
      have ec := hcv _ rt
      subst ec
      obtain ⟨hget, _⟩ := I.pin (a, oe) (List.mem_append.mpr (.inl List.mem_cons_self))
      obtain ⟨vs, hv⟩ := hf
      have J : PySem.W.InstAt s.heap a oe D none := by
        obtain ⟨oc, od, oda, osl⟩ := oe
        obtain ⟨h1, h2⟩ := hz
        dsimp only at h1 h2 hv
        subst h1 h2 hv
        exact ⟨hget, rfl, rfl, trivial⟩
      exact PySem.W.kia_one (PySem.W.handS_kitx_exc C.hg C.hk C.hs C.hd C.ha C.hn C.ht C.hm) I.kIn J e (fun z => nomatch z) fun tk => ⟨.bl b, H, I.kept (t' := tk) fun _ _ z => z, rfl, q⟩
theorem p_isK {DA : Addr} {oe : Obj} (dw : DXW X ⟨K, cl, bo⟩ W) (a : Addr) (pn : List (Addr × Obj)) {e cE : Expr} {p pos : Pos} {i : Nat} {c : Str} {b : Bool} {cv : V} {cu : Value} (XC : ExcC X.K DA) (hz : Zc (.ref DA) none oe) (hf : ∃ vs, oe.data = .fields vs) (he : PE (X.tr ((a, oe) :: pn) X.xe) e (tVar i)) (hcE : PE (X.tr ((a, oe) :: pn) X.xe) cE (tC cv)) (hcv : ∀ u, RelV cv u → u = cu) (hk : PySem.W.kitOne X.K (.ref DA) cu = some b) (hm : X.mg "isinstance" = none) (hg : Gl (X.tr ((a, oe) :: pn) X.xe) "isinstance" := by rfl)
    (hs : starEach [e, cE] (X.tr ((a, oe) :: pn) X.xe).env = (false, eval e (X.tr ((a, oe) :: pn) X.xe).env) :: starEach [cE] (X.tr ((a, oe) :: pn) X.xe).env := by rfl) (hs2 : starEach [cE] (X.tr ((a, oe) :: pn) X.xe).env = (false, eval cE (X.tr ((a, oe) :: pn) X.xe).env) :: starEach [] (X.tr ((a, oe) :: pn) X.xe).env := by rfl) (hpl : (backTo pos (starEach [cE] (X.tr ((a, oe) :: pn) X.xe).env)).any (·.1) = false := by rfl) :
    PE (X.tr ((a, oe) :: pn) X.xe) (.Call (.Name "isinstance" p) [e, cE] [] pos) (TPur ⟨K, clE cl a, bo⟩ (hIsE i c b)) :=
  (pe_callB (call_isK XC hz hf) hg hm rfl (pa_cons he (pa_cons hcE pa_nil hs2) hs) (he := hs) (hpl := hpl)).imp fun σ H Q ⟨B, Z, Fs, env, g, d, hd, q⟩ => by
    obtain ⟨rfl, ev⟩ := exn_at g hd
    exact ⟨.ref a, ev, cv, cu, b, rfl, hcv, hk, q (.bl b) H (Same.refl H) rfl fun _ => ⟨rfl, rfl⟩⟩
end
@[simp] theorem z_keep {i ix : Nat} {ks : List Nat} {cs ns : List Str} {body : Stm} {rE : Str → Stm} {env : DEnv} : sKeep i ix ks cs ns body rE env = if noIoS env = true ∧ kpB ks env i = false ∧ kpB ks env ix = false ∧ i < env.length ∧ ix < env.length ∧ i ≠ ix then match body (hold ks env) with
    | .exc c => if c ∈ cs then endK ix (rE c ((onlyK ks env).set ix (some (.own, .exn c)))) else if c ∈ ns then .exc c else .bad
    | _ => .bad
  else .bad := rfl
@[simp] theorem z_endk {i : Nat} {d : D} {e : DEnv} : endK i (.ok (.rt d e)) = if d.noE = true ∧ noEs (e.set i none) = true then .ok (.rt d (e.set i none)) else .bad := rfl
end DL
namespace DL
open PySem PySem.Spec PyProof.Rows L2
section
variable {K : PySem.W.Frag} {cl : Str → Option Addr} {bo : Hp} {W : Wsh} {X : Cx}
theorem DXW.kp {a : Addr} {pn : List (Addr × Obj)} (dw : DXW X ⟨K, cl, bo⟩ W) : DXW (X.tr pn X.xe) ⟨K, clE cl a, bo⟩ (fun _ _ _ => False) :=
  ⟨⟨dw.dx.K, dw.dx.nd, dw.dx.un⟩, fun c σ H h => h.elim, fun u s' ⟨_, _, _, _, _, _, _, _, _, _, _, _, _, _, _, _, h⟩ => by
    obtain ⟨_, c, C, _, _, h⟩ := h
    exact h.elim⟩
end
end DL
namespace DL
open PySem PySem.Spec PyProof.Rows L2
section
variable {G : Gc} {W : Wsh} {X : Cx}
end
end DL
namespace DL
open PySem PySem.Spec PyProof.Rows L2
section
variable {X : Cx} {G : Gc} {W : Wsh}
end
end DL
namespace DL
open PySem PySem.Spec PyProof.Rows L2
section
variable {X : Cx} {G : Gc} {W : Wsh} {e hi : Expr} {pos p2 : Pos} {r : RS} {f : D → Option Int → Option Int → Option D} {te th : TE}
end
end DL
namespace DL
open PySem PySem.Spec PyProof.Rows L2
section
variable {G : Gc}
end
end DL
namespace DL
open PySem PySem.Spec PySem.Calls PyProof.Rows L2
section
variable {X : Cx} {G : Gc} {W : Wsh}
variable {e : Expr} {es : List Expr} {t : TA} {p pos : Pos}
end
end DL
namespace DL
open PySem PySem.Spec PyProof.Rows L2
section
variable {K : PySem.W.Frag} {cl : Str → Option Addr} {bo : Hp}
end
end DL
namespace DL
open PySem PySem.Spec PyProof.Rows L2
section
variable {G : Gc} {W : Wsh} {X : Cx}
end
end DL
namespace DL
open PySem PySem.Spec PyProof.Rows L2
section
variable {P : Program} {w : World} {A : Around} {E : Value → Shared → Prop} {s : Shared}
/-- a tuple of numbers and texts stands at b -/
abbrev MixT (P : Program) (w : World) (h : Heap) (ks : List Key) (b : Addr) : Prop := IsTupleKey (mixKind P w) h ks b
abbrev mHash (P : Program) (w : World) (ks : List Key) : Int := tupleKeyHash (mixKind P w) ks
end
end DL
namespace DL
open PySem PySem.Spec PyProof.Rows L2
def rowsM (P : Program) (w : World) (L : List (Addr × List Key)) : List (Int × Value) := L.map fun p => (mHash P w p.2, Value.ref p.1)
/-- the set at a holds the tuples L -/
structure MSet (P : Program) (w : World) (h : Heap) (a : Addr) (L : List (Addr × List Key)) (es : Array (Int × Value)) (ep : Nat) (t : SetTable) : Prop where
  ob : ∃ o, h.get? a = some o ∧ o.ExactSet ∧ o.data = .set es ep t
  rows : es.toList = rowsM P w L
  tab : TabOk t (L.map fun p => mHash P w p.2)
  nd : (L.map (·.2)).Nodup
  tup : ∀ p ∈ L, MixT P w h p.2 p.1
  room : L.length * 5 < t.mask * 3
  few : L.length < 64
section
variable {P : Program} {w : World} {A : Around} {E : Value → Shared → Prop} {s : Shared} {a : Addr} {L : List (Addr × List Key)} {es : Array (Int × Value)} {ep : Nat} {t : SetTable}
theorem rowsM_len (P : Program) (w : World) (L : List (Addr × List Key)) : (rowsM P w L).length = L.length := List.length_map ..
theorem MSet.size (R : MSet P w s.heap a L es ep t) : es.size = L.length := by
  rw [← Array.length_toList, R.rows, rowsM_len]
theorem MSet.at (R : MSet P w s.heap a L es ep t) {i : Nat} {p : Addr × List Key} (h : L[i]? = some p) : es[i]? = some (mHash P w p.2, Value.ref p.1) := by
  rw [← Array.getElem?_toList, R.rows]
  show (L.map _)[i]? = _
  rw [List.getElem?_map, h]; rfl
end
end DL
namespace DL
open PySem PySem.Spec PyProof.Rows L2
section
variable {P : Program} {w : World} {A : Around} {E : Value → Shared → Prop} {s : Shared} {a : Addr} {L : List (Addr × List Key)} {es : Array (Int × Value)} {ep : Nat} {t : SetTable}
end
end DL
namespace DL
open PySem PySem.Spec PyProof.Rows L2
section
variable {P : Program} {w : World} {A : Around} {E : Value → Shared → Prop} {s : Shared} {a : Addr} {L : List (Addr × List Key)} {es : Array (Int × Value)} {ep : Nat} {t : SetTable}
end
end DL
namespace DL
open PySem PySem.Spec PyProof.Rows L2
section
variable {P : Program} {w : World} {A : Around} {E : Value → Shared → Prop} {s : Shared} {a : Addr} {L : List (Addr × List Key)} {es : Array (Int × Value)} {ep : Nat} {t : SetTable}
end
end DL
namespace DL
open PySem PySem.Spec PyProof.Rows L2
section
variable {P : Program} {w : World}
theorem mix_keep {h h' : Heap} {ks : List Key} {b : Addr} (x : MixT P w h ks b) (hk : ∀ o, h.get? b = some o → h'.get? b = some o) : MixT P w h' ks b := by
  obtain ⟨o, its, cap, g1, g2, g3, g4⟩ := x
  exact ⟨o, its, cap, hk o g1, g2, g3, g4⟩
theorem MSet.keep {h h' : Heap} {a : Addr} {L : List (Addr × List Key)} {es : Array (Int × Value)} {ep : Nat} {t : SetTable} (R : MSet P w h a L es ep t) (ha : ∀ o, h.get? a = some o → h'.get? a = some o) (ht : ∀ p ∈ L, ∀ o, h.get? p.1 = some o → h'.get? p.1 = some o) : MSet P w h' a L es ep t := by
  obtain ⟨o, g1, g2, g3⟩ := R.ob
  exact ⟨⟨o, ha o g1, g2, g3⟩, R.rows, R.tab, R.nd, fun p hp => mix_keep (R.tup p hp) (ht p hp), R.room, R.few⟩
/-- what the set has of the first i -/
def Has (P : Program) (w : World) (h : Heap) (a : Addr) (xs : List (Addr × List Key)) (i : Nat) : Prop := ∃ L es ep t, MSet P w h a L es ep t ∧ (∀ p ∈ L, p ∈ xs.take i) ∧ ∀ p ∈ xs.take i, p.2 ∈ L.map (·.2)
theorem Has.len {h : Heap} {a : Addr} {xs : List (Addr × List Key)} (H : Has P w h a xs xs.length) : ∃ L es ep t, MSet P w h a L es ep t ∧ L.length = distN (xs.map (·.2)) := by
  obtain ⟨L, es, ep, t, R, h1, h2⟩ := H
  rw [List.take_length] at h1 h2
  refine ⟨L, es, ep, t, R, ?_⟩
  have := dist_len (xs.map (·.2)) (L.map (·.2)) R.nd fun k => ⟨fun hk => by
    obtain ⟨p, hp, rfl⟩ := List.mem_map.mp hk
    exact List.mem_map.mpr ⟨p, h1 p hp, rfl⟩, fun hk => by
    obtain ⟨p, hp, rfl⟩ := List.mem_map.mp hk
    exact h2 p hp⟩
  rwa [List.length_map] at this
end
section
variable {prog : Program} {w : World} {A : Around} {R : Result → Shared → Prop} {I : Addr} {fp wr : List Addr} {G : Array GenState → Array GenState → Prop} {n : Nat} {P : Nat → Value → Prop} {St : Nat → Shared → Prop}
end
end DL
namespace DL
open PySem PySem.Spec PyProof.Rows L2
section
variable {prog : Program} {w : World} {A : Around} {E : Value → Shared → Prop} {s : Shared}
end
end DL
namespace DL
open PySem PySem.Spec PyProof.Rows L2
section
variable {X : Cx} {G : Gc}
end
end DL
namespace DL
open PySem PySem.Spec PyProof.Rows L2
section
variable {X : Cx} {G : Gc}
variable {W : Wsh} {e : Expr} {p p2 pos : Pos}
end
end DL
namespace DL
open PySem PySem.Spec PyProof.Rows L2
section
variable {G : Gc} {W : Wsh} {X : Cx}
def takeL : Kn := fun ds e => match ds with
  | [.lst xs, .int n] => match atI xs n with
    | some x => .ok (x, [], e)
    | none => .bad
  | _ => .bad
theorem k_takeL : KOk G W [false, false] [true, true] (l2 (rIxL G.K)) takeL := by
  intro B Z H σ env Fs its vs T ios Q gd hd hb hn hF
  obtain ⟨d1, d2, rfl⟩ := its2 hb
  unfold takeL at hF
  split at hF
  · rename_i xs n e
    cases e
    split at hF
    · rename_i x hx
      obtain ⟨v, w, F1, F2, rfl, rfl, h1, h2⟩ := hand2 hd.own
      obtain ⟨rfl, rfl⟩ := (show w = .int n ∧ F2 = [] from h2)
      obtain ⟨a, ws, F', rfl, hFs, hH, o⟩ := Own.alive gd.z0 h1
      subst hFs
      subst hn
      obtain ⟨p, q, c, y, d, rfl, rfl, hcl, hy⟩ := atI_split hx (OwnL.length o)
      obtain ⟨w1, w2, G1, G2, e1, rfl, o1, o2⟩ := OwnL.split o
      obtain ⟨y', r, G3, G4, rfl, rfl, o3, o4⟩ := o2
      have hl1 := OwnL.length o1
      obtain ⟨ec, ed⟩ := List.append_inj e1 (by rw [hcl, hl1])
      obtain ⟨rfl, rfl⟩ := List.cons.inj ed
      refine ⟨a, _, n, y, rfl, rfl, SqL.of hH, hy, ?_⟩
      have nd := hd.nd
      simp only [List.append_nil] at nd
      have n2 := (List.nodup_cons.mp nd).2
      have n3 := (List.nodup_append.mp (List.nodup_append.mp n2).2.1).1
      have sub : ∀ b, b ∈ G3 → b ∈ ((a :: (G1 ++ (G3 ++ G4))) ++ []) := fun b m => by simp [m]
      refine hF y Z H Fs G3 ⟨Stp.refl gd fun b m => .inl m, ⟨y, [], G3, [], rfl, by simp, o3, rfl, rfl⟩, n3, fun b m => hd.dj b (sub b m), fun b m => hd.fr b (sub b m), fun b m => .inr (.inr (sub b m))⟩
    · exact hF.elim
  · exact hF.elim
theorem e_takeL {a b : Expr} {pos : Pos} {f : DEnv → Out (D × DEnv)} {h : DEnv → Option D} (dx : DX X G) (ha : PE X a (TV G W f)) (hb : PE X b (TPur G h)) (hs : PlainIx b := by exact fun _ _ => rfl) : PE X (.Subscript a b pos) (TV G W (eK (.own f (.fin [.pur h])) takeL)) :=
  (pe_ix ix_list ha hb hs).imp fun σ H Q q => by
    have q := tv_chn (c := .own f (.fin [.pur h])) k_takeL rfl rfl σ H Q q
    rw [← dx.K] at q
    exact q
theorem p_fn {x : Str} {f : Addr} {pos : Pos} (hg : Gl X x) (hm : X.mg x = some (.ref f)) (hc : G.cl x = some f) (hdb : (x == ("__debug__" : Str)) = false := by decide) : PE X (.Name x pos) (TPur G (hC (.fn x))) :=
  (pe_glob (v := .ref f) hg hm rfl hdb).imp fun σ H Q ⟨B, Z, Fs, env, gd, d', hd', q⟩ => by
    cases hd'
    exact q (.ref f) H (Same.refl H) rfl fun Z' => ⟨rfl, f, rfl, hc⟩
theorem slot_fn {B Z H : Hp} {σ : L2.St} {env : DEnv} {Fs : Nat → List Addr} {j : Nat} {m : Md} {x : Str} (g : Good G B Z H σ env Fs) (e : env[j]? = some (some (m, .fn x))) : ∃ f, σ[j]? = some (some (.ref f)) ∧ G.cl x = some f := by
  have h := g.sl j
  rw [e] at h
  cases m with
  | own => obtain ⟨v, ev, _, a, rfl, hc⟩ := h; exact ⟨a, ev, hc⟩
  | io => obtain ⟨v, ev, _, a, rfl, hc⟩ := h; exact ⟨a, ev, hc⟩
  | shr => obtain ⟨v, ev, ⟨_, a, rfl, hc⟩, _⟩ := h; exact ⟨a, ev, hc⟩
  | brw => obtain ⟨v, ev, ⟨_, a, rfl, hc⟩, _⟩ := h; exact ⟨a, ev, hc⟩
  | lck => obtain ⟨v, ev, ⟨_, a, rfl, hc⟩, _⟩ := h; exact ⟨a, ev, hc⟩
/-- a def that stands in the table -/
structure FnAt (X : Cx) (G : Gc) (ms : List Pm) (x : Str) (F : Fn) : Prop where
  ex : ∃ (k : Nat) (f : Addr) (fd : FuncData) (ps : List Str), FnOk X.prog X.w X.K X.mg X.base (L2.CX X.prog X.w) k f fd ps (spD G ms F) ∧ Room k X.A ∧ PySem.W.keepIn X.K (.ref f) = true ∧ Binds X.K fd ps [] ∧ G.cl x = some f
theorem ask_nil {ms : List Pm} : ∀ (x : Str) (F : Fn), ([] : List (Str × Fn)).lookup x = some F → FnAt X G ms x F := fun x F h => by cases h
theorem ask_cons {ms : List Pm} {a : Str} {f : Fn} {fs : List (Str × Fn)} (h : FnAt X G ms a f) (r : ∀ x F, fs.lookup x = some F → FnAt X G ms x F) : ∀ (x : Str) (F : Fn), ((a, f) :: fs).lookup x = some F → FnAt X G ms x F := fun x F e => by
  rw [List.lookup_cons] at e
  split at e
  · rename_i hx
    rw [beq_iff_eq] at hx
    subst hx
    cases e
    exact h
  · exact r x F e
/-- the def that slot j holds is asked -/
def eAsk (j : Nat) (c : Chn) (ms : List Pm) (fs : List (Str × Fn)) : DEnv → Out (D × DEnv) := fun env => match env[j]? with
  | some (some (_, .fn x)) => match fs.lookup x with
    | some F => eK c (callK ms F) env
    | none => .bad
  | _ => .bad
theorem e_ask {ms : List Pm} {fs : List (Str × Fn)} {j : Nat} {y : Str} {p pos : Pos} {e : Expr} {es : List Expr} {t : TA} (dw : DXW X G W) (hfs : ∀ x F, fs.lookup x = some F → FnAt X G ms x F) (hN : X.N[j]? = some y) (hv : Vis X.env.scope y) (c : Chn)
    (ha : PA X (e :: es) t) (ht : t = seqTE (c.tes G W) := by rfl) (hi : c.iofs = ms.map Pm.isIo := by rfl) (hf : fitB ms c.kinds = true := by rfl) (hdb : (y == ("__debug__" : Str)) = false := by decide) (hcd : (y == ("__classdict__" : Str)) = false := by decide) (he : starEach (e :: es) X.env = (false, eval e X.env) :: starEach es X.env := by rfl) (hpl : (backTo pos (starEach es X.env)).any (·.1) = false := by rfl) :
    PE X (.Call (.Name y p) (e :: es) [] pos) (TV G W (eAsk j c ms fs)) := by
  refine ⟨fun pins s σ H Q I h => ?_⟩
  obtain ⟨B, Z, Fs, env, gd, hF⟩ := h
  have key : ∃ x F m, env[j]? = some (some (m, .fn x)) ∧ fs.lookup x = some F ∧ FinV G W B Z H σ env (InF Fs) (eK c (callK ms F) env) Q := by
    unfold eAsk at hF
    split at hF
    · rename_i m x hs
      split at hF
      · rename_i F hl
        exact ⟨x, F, m, hs, hl, hF⟩
      · exact hF.elim
    · exact hF.elim
  obtain ⟨x, F, m, hs, hl, hF⟩ := key
  obtain ⟨f, ev, hc⟩ := slot_fn gd hs
  obtain ⟨k, f2, fd, ps, FO, hr, hk, hb, hc2⟩ := (hfs x F hl).ex
  obtain rfl : f = f2 := Option.some.inj (hc.symm.trans hc2)
  have q : tCallS (spD G ms F) (wishX G W) t σ H Q := by
    subst ht
    exact tv_chnS (c := c) (call_kok (F := F) hf dw.wc σ) hi rfl H Q ⟨B, Z, Fs, env, gd, hF⟩
  refine wpAny_Call_Name_kw (thn ((pe_var (pos := p) hN hv hdb hcd).run pins s σ H (fun v H1 => v = .ref f ∧ H1 = H) I ⟨.ref f, ev, rfl, rfl⟩) fun u s1 ⟨v, H1, I1, r1, q1⟩ => ?_)
  obtain ⟨rfl, rfl⟩ := q1
  cases r1
  refine PySem.W.callWith_K (h₀ := X.base) I.ok.mod.kin hk (thn (ha.run pos pins s1 σ _ _ I1 q) fun us s2 ⟨vs, H2, I2, r, q2⟩ => ⟨I2.kIn, ?_⟩) he hpl
  exact run_fnS FO hr hb (dw.passes σ) I2 r q2
end
@[simp] theorem z_takeL {xs : List D} {n : Int} {e : DEnv} : takeL [.lst xs, .int n] e = match atI xs n with
  | some x => .ok (x, [], e)
  | none => .bad := rfl
@[simp] theorem z_fnpure {c : Str} : (D.fn c).pure = true := rfl
end DL
namespace DL
open PySem PySem.Spec PyProof.Rows L2
noncomputable section
/-- run_end(text, start, signs) -/
def b_run_end : Stm := (sSeq (sSet 3 (eP (hVar 1)))
  (sSeq (sWhile (eBp (hAnd (hB (hOp [.pur (hVar 3), .pur (hOp [.pur (hVar 0)] gLen)] gLt)) (hB (hOp [.pur (hOp [.pur (hVar 0), .pur (hVar 3)] gIx), .pur (hVar 2)] gInS)))) (sSeq (sAug 3 (bin (bI fun a b => some (.int (a + b)))) (eP (hC (.int 1))))
  sNop))
  (sSeq (sRet (eP (hVar 3)))
  sNop)))
def fn_run_end : Fn := runFn 4 [.b, .b, .b] b_run_end

/-- word_end(text, start) -/
def b_word_end : Stm := (sSeq (sIf (hB (hOp [.pur (hOp [.pur (hVar 0), .pur (hVar 1)] gIx), .pur (hC (.str ";"))] gEq)) (sSeq (sRet (eP (hOp [.pur (hVar 1), .pur (hC (.int 1))] gAdd)))
  sNop) sNop)
  (sSeq (sSet 2 (eK (.fin [.pur (hVar 0), .pur (hVar 1), .pur (hC (.str "abcdefghijklmnopqrstuvwxyz"))]) (callK [.b, .b, .b] fn_run_end)))
  (sSeq (sIf (hB (hOp [.pur (hVar 2), .pur (hVar 1)] gGt)) (sSeq (sRet (eP (hVar 2)))
  sNop) sNop)
  (sSeq (sSet 2 (eK (.fin [.pur (hVar 0), .pur (hVar 1), .pur (hC (.str "0123456789"))]) (callK [.b, .b, .b] fn_run_end)))
  (sSeq (sIf (hOr (hB (hOp [.pur (hVar 2), .pur (hVar 1)] gEq)) (hB (hOp [.pur (hOp [.pur (hVar 2), .pur (hVar 1)] gSub), .pur (hC (.int 60))] gGt))) (sSeq (sRaise "NoText")
  sNop) sNop)
  (sSeq (sIf (hAnd (hB (hOp [.pur (hOp [.pur (hVar 0), .pur (hVar 1)] gIx), .pur (hC (.str "0"))] gEq)) (hB (hOp [.pur (hOp [.pur (hVar 2), .pur (hVar 1)] gSub), .pur (hC (.int 1))] gGt))) (sSeq (sRaise "NoText")
  sNop) sNop)
  (sSeq (sRet (eP (hVar 2)))
  sNop)))))))
def fn_word_end : Fn := runFn 3 [.b, .b] b_word_end

/-- words(text) -/
def b_words : Stm := (sSeq (sIf (hNot (hB (hOp [.plc 0 (pUn (pVar 0))] (gIsi "str")))) (sSeq (sRaise "NoText")
  sNop) sNop)
  (sSeq (sSet 1 (eK (.fin []) (dspK .lst)))
  (sSeq (sSet 2 (eP (hC (.int 0))))
  (sSeq (sWhile (eBp (hB (hOp [.pur (hVar 2), .pur (hOp [.pur (hVar 0)] gLen)] gLt))) (sSeq (sSeq (sIf (hB (hOp [.pur (hOp [.pur (hVar 0), .pur (hVar 2)] gIx), .pur (hC (.str " "))] gEq)) (sSeq (sAug 2 (bin (bI fun a b => some (.int (a + b)))) (eP (hC (.int 1))))
  (sSeq sCont
  sNop)) sNop)
  (sSeq (sSet 3 (eK (.fin [.pur (hVar 0), .pur (hVar 2)]) (callK [.b, .b] fn_word_end)))
  (sSeq (sExpr (isL 1 (eK (.io 1 (.fin [.pur (hOp [.pur (hVar 0), .int (hVar 2), .int (hVar 3)] (sl2 fSlP))])) appK)))
  (sSeq (sSet 2 (eP (hVar 3)))
  sNop)))) (sDrop [3])))
  (sSeq (sRet (eMov 1))
  sNop)))))
def fn_words : Fn := runFn 4 [.b] b_words

/-- is_name(word) -/
def b_is_name : Stm := (sSeq (sRet (eP (hAndV (hOp [.pur (hOp [.pur (hVar 0), .pur (hC (.int 0))] gIx), .pur (hC (.str "abcdefghijklmnopqrstuvwxyz"))] gInS) (hAndV (hOp [.pur (hOp [.pur (hVar 0)] gLen), .pur (hC (.int 8))] gLe) (hOp [.pur (hVar 0), .pur (hC (.str "moves"))] gNe)))))
  sNop)
def fn_is_name : Fn := runFn 1 [.b] b_is_name

/-- is_number(word) -/
def b_is_number : Stm := (sSeq (sRet (eP (hOp [.pur (hOp [.pur (hVar 0), .pur (hC (.int 0))] gIx), .pur (hC (.str "0123456789"))] gInS)))
  sNop)
def fn_is_number : Fn := runFn 1 [.b] b_is_number

/-- parts_between(row) -/
def b_parts_between : Stm := (sSeq (sSet 1 (eK (.own (eK (.fin []) (dspK .lst)) (.fin [])) (dspK .lst)))
  (sSeq (sFor [.plc 0 (pVar 0)] mkSeq (bName 2) [2] (sSeq (sIf (hB (hOp [.pur (hVar 2), .pur (hC (.str ";"))] gEq)) (sSeq (sExpr (isL 1 (eK (.io 1 (.own (eK (.fin []) (dspK .lst)) (.fin []))) appK)))
  sNop) (sSeq (sExpr (apIx 1 (hOp [.pur (hC (.int 1))] gNeg) (hVar 2)))
  sNop))
  sNop))
  (sSeq (sRet (eMov 1))
  sNop)))
def fn_parts_between : Fn := runFn 3 [.b] b_parts_between

/-- moves_by(part) -/
def b_moves_by : Stm := (sSeq (sIfE (eOr (eB (eOp (.plc 0 (pVar 0) (.own (eK (.fin []) (dspK .lst)) (.fin []))) gEq)) (eOr (eBp (hB (hOp [.pur (hRd (pIx (pVar 0) (hC (.int 0)))), .pur (hC (.str "moves"))] gNe))) (eBp (hB (hOp [.pur (hOp [.plc 0 (pVar 0)] gLen), .pur (hC (.int 6))] gGt))))) (sSeq (sRaise "NoText")
  sNop) sNop)
  (sSeq (sFor [.own (eOp (.fin [.plc 0 (pVar 0), .int (hC (.int 1))]) (slL fSlL))] mkSeq (bName 1) [1] (sSeq (sIfE (eNot (eB (eK (.fin [.pur (hVar 1)]) (callK [.b] fn_is_name)))) (sSeq (sRaise "NoText")
  sNop) sNop)
  sNop))
  (sSeq (sRet (eOp (.fin [.plc 0 (pVar 0), .int (hC (.int 1))]) (slL fSlL)))
  sNop)))
def fn_moves_by : Fn := runFn 2 [.b] b_moves_by

/-- states_of(chart) -/
def b_states_of : Stm := (sSeq (sSet 1 (eP (hC (.int 0))))
  (sSeq (sFor [.plc 0 (pIx (pVar 0) (hC (.int 1)))] mkSeq (bTup (bCons (bName 2) (bCons (bName 3) (bCons (bName 4) bNil)))) [2, 3, 4] (sSeq (sSet 1 (eP (hOp [.pur (hVar 1), .pur (hVar 2), .pur (hVar 4)] gMax3)))
  sNop))
  (sSeq (sRet (eP (hOp [.pur (hVar 1), .pur (hC (.int 1))] gAdd)))
  sNop)))
def fn_states_of : Fn := runFn 5 [.b] b_states_of

/-- states_come_to(arcs) -/
def b_states_come_to : Stm := (sSeq (sSet 1 (eOp (.fin []) (gOne (.inl 0) (.bl true))))
  (sSeq (sSet 2 (eK (.fin [.pur (hC (.int 0))]) (dspK .lst)))
  (sSeq (sWhile (eB (eOp (.plc 2 (pVar 2) (.own (eK (.fin []) (dspK .lst)) (.fin []))) gNe)) (sSeq (sSeq (sSet 3 (isL 2 (eK (.io 2 (.fin [])) popK)))
  (sSeq (sFor [.plc 0 (pVar 0)] mkSeq (bTup (bCons (bName 4) (bCons (bName 5) (bCons (bName 6) bNil)))) [4, 5, 6] (sSeq (sIf (hAnd (hB (hOp [.pur (hVar 4), .pur (hVar 3)] gEq)) (hB (hOp [.pur (hVar 6), .plc 1 (pVar 1)] gDNotIn))) (sSeq (sExpr (eK (.pur (hC (.bl true)) (.io 1 (.fin [.pur (hVar 6)]))) setDK))
  (sSeq (sExpr (isL 2 (eK (.io 2 (.fin [.pur (hVar 6)])) appK)))
  sNop)) sNop)
  sNop))
  sNop)) (sDrop [3, 4, 5, 6])))
  (sSeq (sRet (eMov 1))
  sNop))))
def fn_states_come_to : Fn := runFn 7 [.b] b_states_come_to

/-- is_move_name(text) -/
def b_is_move_name : Stm := (sSeq (sSet 1 (eP (hC (.str "abcdefghijklmnopqrstuvwxyz"))))
  (sSeq (sRet (eAndV (eP (hChI leI leI (hC (.int 1)) (hOp [.pur (hVar 0)] gLen) (hC (.int 8)))) (eAndV (eP (hOp [.pur (hVar 0), .pur (hC (.str "moves"))] gNe)) (eOp (.own (lcE [.pur (hVar 0)] mkSigs (bName 2) eYes (eP (hOp [.pur (hVar 2), .pur (hVar 1)] gInS)) [2]) (.fin [])) gAll))))
  sNop))
def fn_is_move_name : Fn := runFn 3 [.b] b_is_move_name

/-- is_rising(row) -/
def b_is_rising : Stm := (sSeq (sRet (eOp (.own (lcE [.own (eOp (.fin [.plc 0 (pVar 0), .int (hOp [.pur (hC (.int 1))] gNeg)]) (slH fSlJ)), .own (eOp (.fin [.plc 0 (pVar 0), .int (hC (.int 1))]) (slL fSlJ))] mkZip (bTup (bCons (bName 1) (bCons (bName 2) bNil))) eYes (eP (hOp [.pur (hVar 1), .pur (hVar 2)] gLtD)) [1, 2]) (.fin [])) gAll))
  sNop)
def fn_is_rising : Fn := runFn 3 [.b] b_is_rising

/-- is_chart(moves, arcs) -/
def b_is_chart : Stm := (sSeq (sIfE (eOr (eBp (hB (hOp [.pur (hOp [.pur (hVar 0)] gLen), .pur (hC (.int 5))] gGt))) (eOr (eNot (eB (eK (.fin [.pur (hVar 0)]) (callK [.b] fn_is_rising)))) (eNot (eB (eOp (.own (lcE [.pur (hVar 0)] mkSeq (bName 3) eYes (eK (.fin [.pur (hVar 3)]) (callK [.b] fn_is_move_name)) [3]) (.fin [])) gAll))))) (sSeq (sRet (eP (hC (.bl false))))
  sNop) sNop)
  (sSeq (sIfE (eOr (eBp (hB (hOp [.pur (hOp [.plc 1 (pVar 1)] gLen), .pur (hC (.int 60))] gGt))) (eNot (eB (eK (.fin [.plc 1 (pVar 1)]) (callK [.b] fn_is_rising))))) (sSeq (sRet (eP (hC (.bl false))))
  sNop) sNop)
  (sSeq (sFor [.plc 1 (pVar 1)] mkSeq (bTup (bCons (bName 2) (bCons (bName 3) (bCons (bName 4) bNil)))) [2, 3, 4] (sSeq (sIf (hOr (hB (hOp [.pur (hVar 3), .pur (hVar 0)] gNotIn)) (hOr (hB (hOp [.pur (hOp [.pur (hVar 2), .pur (hVar 4)] gMin2), .pur (hC (.int 0))] gLt)) (hB (hOp [.pur (hOp [.pur (hVar 2), .pur (hVar 4)] gMax2), .pur (hC (.int 11))] gGt)))) (sSeq (sRet (eP (hC (.bl false))))
  sNop) sNop)
  sNop))
  (sSeq (sSet 5 (eK (.fin [.plc 1 (pVar 1)]) (callK [.b] fn_states_come_to)))
  (sSeq (sRet (eOp (.own (lcE [.own (eK (.fin [.plc 1 (pTup (hVar 0) (pVar 1))]) (callK [.b] fn_states_of))] mkRange1 (bName 6) eYes (eP (hOp [.pur (hVar 6), .plc 5 (pVar 5)] gDIn)) [6]) (.fin [])) gAll))
  sNop)))))
def fn_is_chart : Fn := runFn 7 [.b, .b] b_is_chart

/-- arc_by(part) -/
def b_arc_by : Stm := (sSeq (sIfE (eOr (eBp (hB (hOp [.pur (hOp [.plc 0 (pVar 0)] gLen), .pur (hC (.int 3))] gNe))) (eOr (eNot (eB (eK (.fin [.pur (hRd (pIx (pVar 0) (hC (.int 0))))]) (callK [.b] fn_is_number)))) (eOr (eNot (eB (eK (.fin [.pur (hRd (pIx (pVar 0) (hC (.int 1))))]) (callK [.b] fn_is_name)))) (eNot (eB (eK (.fin [.pur (hRd (pIx (pVar 0) (hC (.int 2))))]) (callK [.b] fn_is_number))))))) (sSeq (sRaise "NoText")
  sNop) sNop)
  (sSeq (sRet (eP (hOp [.pur (hOp [.pur (hRd (pIx (pVar 0) (hC (.int 0))))] gIntS), .pur (hRd (pIx (pVar 0) (hC (.int 1)))), .pur (hOp [.pur (hRd (pIx (pVar 0) (hC (.int 2))))] gIntS)] fTup)))
  sNop))
def fn_arc_by : Fn := runFn 1 [.b] b_arc_by

/-- read_chart(text) -/
def b_read_chart : Stm := (sSeq (sSet 1 (eK (.own (eK (.fin [.plc 0 (pVar 0)]) (callK [.b] fn_words)) (.fin [])) (callK [.b] fn_parts_between)))
  (sSeq (sSet 2 (eK (.fin [.plc 1 (pIx (pVar 1) (hC (.int 0)))]) (callK [.b] fn_moves_by)))
  (sSeq (sSet 3 (lcE [.plc 1 (pVar 1), .pur (hC (.int 1))] mkTail (bName 5) eYes (eK (.fin [.plc 5 (pVar 5)]) (callK [.b] fn_arc_by)) [5]))
  (sSeq (sIf (hB (hOp [.pur (hOp [.plc 3 (pVar 3)] gLen), .pur (hC (.int 60))] gGt)) (sSeq (sRaise "NoText")
  sNop) sNop)
  (sSeq (sSet 4 (eK (.own (eOp (.own (eOp (.fin [.plc 2 (pVar 2)]) gSorted) (.fin [])) gTupOf) (.own (eOp (.fin [.plc 3 (pVar 3)]) gSorted) (.fin []))) (dspK .tup)))
  (sSeq (sIfE (eNot (eB (eK (.fin [.pur (hRd (pIx (pVar 4) (hC (.int 0)))), .plc 4 (pIx (pVar 4) (hC (.int 1)))]) (callK [.b, .b] fn_is_chart)))) (sSeq (sRaise "NoChart")
  sNop) sNop)
  (sSeq (sRet (eMov 4))
  sNop)))))))
def fn_read_chart : Fn := runFn 6 [.b] b_read_chart

/-- place_by(part) -/
def b_place_by : Stm := (sSeq (sIfE (eOr (eB (eOp (.plc 0 (pVar 0) (.own (eK (.fin []) (dspK .lst)) (.fin []))) gEq)) (eOr (eBp (hB (hOp [.pur (hOp [.pur (hOp [.plc 0 (pVar 0)] gLen), .pur (hC (.int 3))] gMod), .pur (hC (.int 1))] gNe))) (eNot (eB (eK (.fin [.pur (hRd (pIx (pVar 0) (hC (.int 0))))]) (callK [.b] fn_is_number)))))) (sSeq (sRaise "NoText")
  sNop) sNop)
  (sSeq (sSet 1 (eK (.fin []) (dspK .lst)))
  (sSeq (sFor [.pur (hC (.int 1)), .pur (hOp [.plc 0 (pVar 0)] gLen), .pur (hC (.int 3))] mkRange3 (bName 2) [2] (sSeq (sIfE (eOr (eNot (eB (eK (.fin [.pur (hRd (pIx (pVar 0) (hVar 2)))]) (callK [.b] fn_is_name)))) (eOr (eNot (eB (eK (.fin [.pur (hRd (pIx (pVar 0) (hOp [.pur (hVar 2), .pur (hC (.int 1))] gAdd)))]) (callK [.b] fn_is_number)))) (eNot (eB (eK (.fin [.pur (hRd (pIx (pVar 0) (hOp [.pur (hVar 2), .pur (hC (.int 2))] gAdd)))]) (callK [.b] fn_is_number)))))) (sSeq (sRaise "NoText")
  sNop) sNop)
  (sSeq (sExpr (isL 1 (eK (.io 1 (.fin [.pur (hOp [.pur (hRd (pIx (pVar 0) (hVar 2))), .pur (hOp [.pur (hRd (pIx (pVar 0) (hOp [.pur (hVar 2), .pur (hC (.int 1))] gAdd)))] gIntS), .pur (hOp [.pur (hRd (pIx (pVar 0) (hOp [.pur (hVar 2), .pur (hC (.int 2))] gAdd)))] gIntS)] fTup)])) appK)))
  sNop)))
  (sSeq (sRet (eK (.pur (hOp [.pur (hRd (pIx (pVar 0) (hC (.int 0))))] gIntS) (.own (eMov 1) (.fin []))) (dspK .tup)))
  sNop))))
def fn_place_by : Fn := runFn 3 [.b] b_place_by

/-- place_for(moves, beads, told) -/
def b_place_for : Stm := (sSeq (sSet 3 (eOp (.fin []) gNewK))
  (sSeq (sSet 4 (eOp (.fin []) gNewK))
  (sSeq (sFor [.plc 2 (pVar 2)] mkSeq (bTup (bCons (bName 5) (bCons (bName 6) (bCons (bName 7) bNil)))) [5, 6, 7] (sSeq (sIf (hOr (hB (hOp [.pur (hVar 5), .pur (hVar 0)] gNotIn)) (hB (hOp [.pur (hVar 5), .plc 3 (pVar 3)] gDIn))) (sSeq (sRaise "NoNet")
  sNop) sNop)
  (sSeq (sExpr (eK (.pur (hVar 6) (.io 3 (.fin [.pur (hVar 5)]))) setDK))
  (sSeq (sExpr (eK (.pur (hVar 7) (.io 4 (.fin [.pur (hVar 5)]))) setDK))
  sNop))))
  (sSeq (sRet (eK (.pur (hVar 1) (.own (eOp (.own (lcE [.pur (hVar 0)] mkSeq (bName 8) eYes (eP (hOp [.plt 3 (pVar 3) (tyD "dict"), .pur (hVar 8), .pur (hC (.int 0))] gDGet2)) [8]) (.fin [])) gTupOf) (.own (eOp (.own (lcE [.pur (hVar 0)] mkSeq (bName 8) eYes (eP (hOp [.plt 4 (pVar 4) (tyD "dict"), .pur (hVar 8), .pur (hC (.int 0))] gDGet2)) [8]) (.fin [])) gTupOf) (.fin [])))) (dspK .tup)))
  sNop))))
def fn_place_for : Fn := runFn 9 [.b, .b, .b] b_place_for

/-- read_net(text) -/
def b_read_net : Stm := (sSeq (sSet 1 (eK (.own (eK (.fin [.plc 0 (pVar 0)]) (callK [.b] fn_words)) (.fin [])) (callK [.b] fn_parts_between)))
  (sSeq (sSet 2 (eK (.fin [.plc 1 (pIx (pVar 1) (hC (.int 0)))]) (callK [.b] fn_moves_by)))
  (sSeq (sSet 3 (lcE [.plc 1 (pVar 1), .pur (hC (.int 1))] mkTail (bName 5) eYes (eK (.fin [.plc 5 (pVar 5)]) (callK [.b] fn_place_by)) [5]))
  (sSeq (sIf (hB (hOp [.pur (hOp [.plc 3 (pVar 3)] gLen), .pur (hC (.int 200))] gGt)) (sSeq (sRaise "NoText")
  sNop) sNop)
  (sSeq (sIfE (eB (eOp (.own (eOp (.fin [.plc 2 (pVar 2)]) gDistS) (.fin [.pur (hOp [.plc 2 (pVar 2)] gLen)])) gLt)) (sSeq (sRaise "NoNet")
  sNop) sNop)
  (sSeq (sSet 4 (eOp (.own (eOp (.fin [.plc 2 (pVar 2)]) gSorted) (.fin [])) gTupOf))
  (sSeq (sRet (eK (.pur (hVar 4) (.own (lcE [.plc 3 (pVar 3)] mkSeq (bTup (bCons (bName 6) (bCons (bName 7) bNil))) eYes (eK (.fin [.pur (hVar 4), .pur (hVar 6), .plc 7 (pVar 7)]) (callK [.b, .b, .b] fn_place_for)) [6, 7]) (.fin []))) (dspK .tup)))
  sNop)))))))
def fn_read_net : Fn := runFn 8 [.b] b_read_net

/-- _law_cell_at(_law_script, _law_k) -/
def b_law_cell_at : Stm := (sSeq (sIf (hB (hOp [.pur (hVar 1), .pur (hOp [.plc 0 (pVar 0)] gLen)] gLt)) (sSeq (sRet (eP (hOp [.plc 0 (pVar 0), .pur (hVar 1)] gIx)))
  sNop) sNop)
  (sSeq (sRet (eP (hC (.int 0))))
  sNop))
def fn_law_cell_at : Fn := runFn 2 [.b, .b] b_law_cell_at

/-- _law_word_by(_law_cell) -/
def b_law_word_by : Stm := (sSeq (sSet 1 (eP (hOp [.pur (hVar 0), .pur (hOp [.pur (hC (.int 10)), .pur (hC (.int 64))] gPow)] gMod)))
  (sSeq (sIf (hB (hOp [.pur (hOp [.pur (hVar 1), .pur (hC (.int 3))] gMod), .pur (hC (.int 0))] gEq)) (sSeq (sRet (eOp (.own (eK (.fin [.pur (hC (.str "moves")), .pur (hC (.str "a")), .pur (hC (.str "b")), .pur (hC (.str "zz"))]) (dspK .lst)) (.fin [.pur (hOp [.pur (hOp [.pur (hVar 1), .pur (hC (.int 3))] gDiv), .pur (hC (.int 4))] gMod)])) gIx))
  sNop) sNop)
  (sSeq (sIf (hB (hOp [.pur (hOp [.pur (hVar 1), .pur (hC (.int 3))] gMod), .pur (hC (.int 1))] gEq)) (sSeq (sRet (eP (hOp [.pur (hOp [.pur (hOp [.pur (hVar 1), .pur (hC (.int 3))] gDiv), .pur (hOp [.pur (hC (.int 10)), .pur (hC (.int 60))] gPow)] gMod)] gStr)))
  sNop) sNop)
  (sSeq (sRet (eP (hC (.str ";"))))
  sNop))))
def fn_law_word_by : Fn := runFn 2 [.b] b_law_word_by

/-- _law_figures(_law_number, _law_count) -/
def b_law_figures : Stm := (sSeq (sSet 2 (eP (hC (.str ""))))
  (sSeq (sFor [.pur (hVar 1)] mkRange1 (bName 3) [3] (sSeq (sSet 0 (eP (hOp [.pur (hOp [.pur (hOp [.pur (hVar 0), .pur (hC (.int 48271))] gMul), .pur (hC (.int 2147483647))] gMod), .pur (hC (.int 1))] gAdd)))
  (sSeq (sSet 2 (eP (hOp [.pur (hVar 2), .pur (hOp [.pur (hC (.str "0123456789")), .pur (hOp [.pur (hVar 0), .pur (hC (.int 10))] gMod)] gIx)] gAdd)))
  sNop)))
  (sSeq (sRet (eP (hVar 2)))
  sNop)))
def fn_law_figures : Fn := runFn 4 [.b, .b] b_law_figures

/-- _law_bad_by(_law_cell) -/
def b_law_bad_by : Stm := (sSeq (sSet 1 (eP (hOp [.pur (hOp [.pur (hVar 0), .pur (hC (.int 3))] gDiv), .pur (hOp [.pur (hC (.int 10)), .pur (hC (.int 20))] gPow)] gMod)))
  (sSeq (sSet 2 (eP (hOp [.pur (hVar 0), .pur (hC (.int 3))] gMod)))
  (sSeq (sIf (hB (hOp [.pur (hVar 2), .pur (hC (.int 0))] gEq)) (sSeq (sSet 3 (eP (hC (.str "!\"#$&'()*+,-./:<=>?@ABCDEFGHIJKLMNOPQRSTUVWXYZ[\\]^_`{|}~\n\t"))))
  (sSeq (sRet (eP (hOp [.pur (hVar 3), .pur (hOp [.pur (hVar 1), .pur (hOp [.pur (hVar 3)] gLen)] gMod)] gIx)))
  sNop)) sNop)
  (sSeq (sIf (hB (hOp [.pur (hVar 2), .pur (hC (.int 1))] gEq)) (sSeq (sRet (eOp (.pur (hC (.str "7")) (.own (eK (.fin [.pur (hVar 1), .pur (hOp [.pur (hC (.int 60)), .pur (hOp [.pur (hOp [.pur (hVar 1), .pur (hC (.int 2))] gDiv), .pur (hC (.int 30))] gMod)] gAdd)]) (callK [.b, .b] fn_law_figures)) (.fin []))) gAdd))
  sNop) sNop)
  (sSeq (sRet (eOp (.pur (hC (.str "0")) (.own (eK (.fin [.pur (hVar 1), .pur (hOp [.pur (hC (.int 1)), .pur (hOp [.pur (hOp [.pur (hVar 1), .pur (hC (.int 2))] gDiv), .pur (hC (.int 9))] gMod)] gAdd)]) (callK [.b, .b] fn_law_figures)) (.fin []))) gAdd))
  sNop)))))
def fn_law_bad_by : Fn := runFn 4 [.b] b_law_bad_by

/-- _law_refused(_law_ask, _law_thing) -/
def b_law_refused : Stm := (sSeq (sSet 2 (eP (hC .non)))
  (sKeep 3 2 [] ["NoChart", "NoNet", "NoText"] [] (sSeq (sExpr (eAsk 0 (.fin [.plc 1 (pVar 1)]) [.b] [("words", fn_words), ("read_chart", fn_read_chart), ("read_net", fn_read_net)]))
  sNop) (hTab [("NoChart", (sSeq (sIf (hOr (hNot (hB (hIsE 2 "NoChart" false))) (hNot (hB (hIsE 2 "NoChart" true)))) (sSeq (sRet (eP (hC (.bl false))))
  sNop) sNop)
  (sSeq (sIf (hOr (hB (hIsE 2 "NoChart" true)) (hOr (hB (hIsE 2 "NoChart" false)) (hB (hIsE 2 "NoChart" false)))) (sSeq (sRet (eP (hC (.bl false))))
  sNop) sNop)
  (sSeq (sIf (hOr (hB (hIsE 2 "NoChart" false)) (hOr (hB (hIsE 2 "NoChart" false)) (hB (hIsE 2 "NoChart" false)))) (sSeq (sRet (eP (hC (.bl false))))
  sNop) sNop)
  (sSeq (sRet (eP (hNotV (hIsE 2 "NoChart" false))))
  sNop))))), ("NoNet", (sSeq (sIf (hOr (hNot (hB (hIsE 2 "NoNet" false))) (hNot (hB (hIsE 2 "NoNet" true)))) (sSeq (sRet (eP (hC (.bl false))))
  sNop) sNop)
  (sSeq (sIf (hOr (hB (hIsE 2 "NoNet" false)) (hOr (hB (hIsE 2 "NoNet" true)) (hB (hIsE 2 "NoNet" false)))) (sSeq (sRet (eP (hC (.bl false))))
  sNop) sNop)
  (sSeq (sIf (hOr (hB (hIsE 2 "NoNet" false)) (hOr (hB (hIsE 2 "NoNet" false)) (hB (hIsE 2 "NoNet" false)))) (sSeq (sRet (eP (hC (.bl false))))
  sNop) sNop)
  (sSeq (sRet (eP (hNotV (hIsE 2 "NoNet" false))))
  sNop))))), ("NoText", (sSeq (sIf (hOr (hNot (hB (hIsE 2 "NoText" true))) (hNot (hB (hIsE 2 "NoText" true)))) (sSeq (sRet (eP (hC (.bl false))))
  sNop) sNop)
  (sSeq (sIf (hOr (hB (hIsE 2 "NoText" false)) (hOr (hB (hIsE 2 "NoText" false)) (hB (hIsE 2 "NoText" false)))) (sSeq (sRet (eP (hC (.bl false))))
  sNop) sNop)
  (sSeq (sIf (hOr (hB (hIsE 2 "NoText" false)) (hOr (hB (hIsE 2 "NoText" false)) (hB (hIsE 2 "NoText" false)))) (sSeq (sRet (eP (hC (.bl false))))
  sNop) sNop)
  (sSeq (sRet (eP (hNotV (hIsE 2 "NoText" false))))
  sNop)))))])))
def fn_law_refused : Fn := runFn 4 [.b, .b] b_law_refused

/-- law(_law_script) -/
def b_law : Stm := (sSeq (sSet 1 (lcE [.own (eOp (.fin [.plc 0 (pVar 0), .int (hC (.int 3)), .int (hC (.int 15))]) (sl2 fSlL))] mkSeq (bName 5) eYes (eK (.fin [.pur (hVar 5)]) (callK [.b] fn_law_word_by)) [5]))
  (sScp (borO 1)
  (sSeq (sSet 2 (eOp (.own (eK (.fin [.plc 0 (pVar 0), .pur (hC (.int 0))]) (callK [.b, .b] fn_law_cell_at)) (.fin [.pur (hOp [.pur (hOp [.plc 1 (pUn (pVar 1))] gLen), .pur (hC (.int 1))] gAdd)])) gMod))
  (sSeq (sSet 3 (eOp (.own (eOp (.own (eOp (.own (eOp (.fin [.plc 1 (pUn (pVar 1)), .int (hVar 2)]) (slH fSlL)) (.own (eK (.own (eK (.own (eK (.fin [.plc 0 (pVar 0), .pur (hC (.int 1))]) (callK [.b, .b] fn_law_cell_at)) (.fin [])) (callK [.b] fn_law_bad_by)) (.fin [])) (dspK .lst)) (.fin []))) gCatLL) (.own (eOp (.fin [.plc 1 (pUn (pVar 1)), .int (hVar 2)]) (slL fSlL)) (.fin []))) gCatLL) (.fin [])) (gJoin " ")))
  (sSeq (sIfE (eB (eOp (.own (eOp (.own (eK (.fin [.plc 0 (pVar 0), .pur (hC (.int 2))]) (callK [.b, .b] fn_law_cell_at)) (.fin [.pur (hC (.int 5))])) gMod) (.fin [.pur (hC (.int 1))])) gEq)) (sSeq (sSet 4 (eOp (.own (eK (.fin [.plc 0 (pVar 0), .pur (hC (.int 2))]) (callK [.b, .b] fn_law_cell_at)) (.fin [.pur (hOp [.pur (hC (.int 10)), .pur (hC (.int 9))] gPow)])) gMod))
  (sSeq (sSet 3 (eK (.own (eK (.pur (hC .non) (.pur (hVar 4) (.pur (hC (.bl true)) (.pur (hVar 1) (.pur (hOp [.pur (hC (.str "moves"))] fTup) (.own (eOp (.fin []) (gOne (.inr "moves") (.str "a"))) (.fin []))))))) (dspK .lst)) (.fin [.pur (hOp [.pur (hOp [.pur (hVar 4), .pur (hC (.int 5))] gDiv), .pur (hC (.int 6))] gMod)])) takeL))
  sNop)) sNop)
  (sSeq (sIfE (eOr (eNot (eB (eK (.fin [.pur (hC (.fn "words")), .plc 3 (pVar 3)]) (callK [.b, .b] fn_law_refused)))) (eOr (eNot (eB (eK (.fin [.pur (hC (.fn "read_chart")), .plc 3 (pVar 3)]) (callK [.b, .b] fn_law_refused)))) (eNot (eB (eK (.fin [.pur (hC (.fn "read_net")), .plc 3 (pVar 3)]) (callK [.b, .b] fn_law_refused)))))) (sSeq (sRet (eP (hC (.bl false))))
  sNop) sNop)
  (sSeq (sRet (eOp (.own (eK (.own (eOp (.fin [.plc 1 (pUn (pVar 1))]) (gJoin " ")) (.fin [])) (callK [.b] fn_words)) (.fin [.plc 1 (pUn (pVar 1))])) gEq))
  sNop)))))))
def fn_law : Fn := runFn 6 [.b] b_law
end
end DL
namespace DL
open PySem PySem.Spec PyProof.Rows L2
def ltr : List Nat := (List.range 26).map (97 + ·)
theorem alpha_eq : ("abcdefghijklmnopqrstuvwxyz" : Str) = SX.S ltr := by decide +kernel
theorem nil_eq : ("" : Str) = SX.S [] := by decide +kernel
theorem p10_20 : gPow [.int 10, .int 20] = some (.int 100000000000000000000) := pow_eq (by decide) (by decide +kernel)
end DL
namespace DL
open PySem PySem.Spec PyProof.Rows L2
section
variable {env : DEnv} {ks : List Key} {kt : List (List Key)} {vs xs : List D} {d x : D} {k : Key} {n : Int} {s : Str}
@[simp] theorem z_keyi : keyD (.int n) = some (.inl n) := rfl
@[simp] theorem z_keys : keyD (.str s) = some (.inr s) := rfl
@[simp] theorem z_keysd : keysD (.tupF false xs) = keysL xs := rfl
@[simp] theorem z_keysl0 : keysL [] = some [] := rfl
@[simp] theorem z_keysl1 : keysL (d :: xs) = match keyD d, keysL xs with
    | some k, some ks => some (k :: ks)
    | _, _ => none := rfl
@[simp] theorem z_gone : gOne k d [] = some (.dk [k] [d]) := rfl
@[simp] theorem z_newk : gNewK [] = some (.dk [] []) := rfl
@[simp] theorem z_din {f : Bool → Bool} : fDIn f x d = (fLook d x).map fun r => .bl (f r.isSome) := rfl
@[simp] theorem z_look1 : fLook (.dk ks vs) x = (keyD x).map fun k => lookP ks vs k := rfl
@[simp] theorem z_look2 : fLook (.dt kt vs) x = (keysD x).map fun k => lookP kt vs k := rfl
@[simp] theorem z_setd1 : setDK [x, .dk ks vs, d] env = match keyD d with
    | some k => if x.pure = true ∧ D.pureL vs = true ∧ ks.length < 16777216 then .ok (.non, [.dk (putKs ks vs k x) (putVs ks vs k x)], env) else .bad
    | none => .bad := rfl
@[simp] theorem z_setd2 : setDK [x, .dt kt vs, d] env = match keysD d with
    | some k => if x.pure = true ∧ D.pureL vs = true ∧ kt.length < 16777216 then .ok (.non, [.dt (putKs kt vs k x) (putVs kt vs k x)], env) else .bad
    | none => .bad := rfl
@[simp] theorem z_notn1 : D.toBl (.bl true) = some true := rfl
end
section
variable {κ : Type} [DecidableEq κ] {α : Type}
/-- a set, kept as a dict -/
def ins (L : List α) [DecidableEq α] (a : α) : List α := if a ∈ L then L else L ++ [a]
end
end DL
namespace DL
open PySem PySem.Spec PyProof.Rows L2
def fig : List Nat := (List.range 10).map (48 + ·)
theorem fig_eq : ("0123456789" : Str) = SX.S fig := by decide +kernel
theorem semi_eq : (";" : Str) = SX.S [59] := by decide +kernel
theorem blank_eq : (" " : Str) = SX.S [32] := by decide +kernel
theorem zero_eq : ("0" : Str) = SX.S [48] := by decide +kernel
theorem mem_ltr {c : Nat} : c ∈ ltr ↔ 97 ≤ c ∧ c < 123 := by
  unfold ltr
  simp only [List.mem_map, List.mem_range]
  exact ⟨fun ⟨a, h, e⟩ => by omega, fun h => ⟨c - 97, by omega, by omega⟩⟩
theorem mem_fig {c : Nat} : c ∈ fig ↔ 48 ≤ c ∧ c < 58 := by
  unfold fig
  simp only [List.mem_map, List.mem_range]
  exact ⟨fun ⟨a, h, e⟩ => by omega, fun h => ⟨c - 48, by omega, by omega⟩⟩
/-- how far a run of some signs goes -/
def run (sg : List Nat) : List Nat → Nat
  | [] => 0
  | c :: r => if c ∈ sg then run sg r + 1 else 0
theorem S_toList (l : List Nat) : (SX.S l).cps.toList = l := by simp [SX.S]
theorem run_end_ok (l sg : List Nat) (s : Nat) (hs : s ≤ l.length) (hl : l.length ≤ 100000) : fn_run_end [.str (SX.S l), .int s, .str (SX.S sg)] = .ok (.int ((s + run sg (l.drop s) : Nat) : Int), []) := by
  have key : ∀ (k e : Nat), e + k = l.length → WhR (eBp (hAnd (hB (hOp [.pur (hVar 3), .pur (hOp [.pur (hVar 0)] gLen)] gLt)) (hB (hOp [.pur (hOp [.pur (hVar 0), .pur (hVar 3)] gIx), .pur (hVar 2)] gInS)))) (sSeq (sAug 3 (bin (bI fun a b => some (.int (a + b)))) (eP (hC (.int 1))))
  sNop) [some (.brw, .str (SX.S l)), some (.brw, .int s), some (.brw, .str (SX.S sg)), some (.own, .int (e : Int))] (.nx [some (.brw, .str (SX.S l)), some (.brw, .int s), some (.brw, .str (SX.S sg)), some (.own, .int ((e + run sg (l.drop e) : Nat) : Int))]) := fun k => by
    have hsz : (SX.S l).length ≤ 16777216 := by rw [SX.S_len]; omega
    induction k with
    | zero =>
      intro e he
      have h1 : l.drop e = [] := List.drop_of_length_le (by omega)
      have h2 : ¬ (e : Int) < ((SX.S l).length : Int) := by rw [SX.S_len]; omega
      rw [h1]
      refine WhR.stop ?_
      generalize SX.S l = L at *
      simp [hsz, h2, run]
    | succ k ih =>
      intro e he
      have hlt : e < l.length := by omega
      have h2 : (e : Int) < ((SX.S l).length : Int) := by rw [SX.S_len]; omega
      have h3 : atI (SX.S l).cps.toList (e : Int) = some l[e] := by rw [S_toList]; exact atI_nat (List.getElem?_eq_getElem hlt)
      have h4 : l.drop e = l[e] :: l.drop (e + 1) := List.drop_eq_getElem_cons hlt
      rw [h4]
      have hsg : (SX.S sg).cps.toList = sg := S_toList sg
      by_cases hc : l[e] ∈ sg
      · have er : e + run sg (l[e] :: l.drop (e + 1)) = e + 1 + run sg (l.drop (e + 1)) := by
          show e + (if l[e] ∈ sg then run sg (l.drop (e + 1)) + 1 else 0) = _
          rw [if_pos hc]
          omega
        rw [er]
        refine WhR.step (e1 := [some (.brw, .str (SX.S l)), some (.brw, .int s), some (.brw, .str (SX.S sg)), some (.own, .int (e : Int))]) ?_ (.inl ?_) (ih (e + 1) (by omega))
        · generalize l[e] = c at *
          generalize SX.S l = L at *
          generalize SX.S sg = G at *
          simp [hsz, h2, h3, hsg, hc]
        · simp
      · have er : run sg (l[e] :: l.drop (e + 1)) = 0 := by
          show (if l[e] ∈ sg then run sg (l.drop (e + 1)) + 1 else 0) = _
          rw [if_neg hc]
        rw [er, Nat.add_zero]
        refine WhR.stop ?_
        generalize l[e] = c at *
        generalize SX.S l = L at *
        generalize SX.S sg = G at *
        simp [hsz, h2, h3, hsg, hc]
  have hw := (key (l.length - s) s (by omega)).sw
  generalize s + run sg (l.drop s) = r at *
  generalize SX.S l = L at *
  generalize SX.S sg = G at *
  simp [fn_run_end, b_run_end, hw]
/-- a word -/
def WName (w : List Nat) : Prop := w ≠ [] ∧ ∀ c ∈ w, c ∈ ltr
def WNum (w : List Nat) : Prop := w ≠ [] ∧ (∀ c ∈ w, c ∈ fig) ∧ w.length ≤ 60 ∧ (1 < w.length → w.head? ≠ some 48)
def WOk (w : List Nat) : Prop := w.length ≤ 60 ∧ (w = [59] ∨ WName w ∨ WNum w)
/-- what follows a word does not go on with it -/
def Ends (w r : List Nat) : Prop := (WName w → ∀ c, r.head? = some c → c ∉ ltr) ∧ (WNum w → ∀ c, r.head? = some c → c ∉ fig)
theorem run_app {sg : List Nat} : ∀ {w r : List Nat}, (∀ c ∈ w, c ∈ sg) → (∀ c, r.head? = some c → c ∉ sg) → run sg (w ++ r) = w.length
  | [], [], _, _ => rfl
  | [], c :: r, _, h => by
    unfold run
    rw [List.nil_append]
    simp only
    rw [if_neg (h c rfl)]; rfl
  | c :: w, r, h, h2 => by
    show (if c ∈ sg then run sg (w ++ r) + 1 else 0) = _
    rw [if_pos (h c List.mem_cons_self), run_app (fun d m => h d (List.mem_cons_of_mem _ m)) h2]
    rfl
theorem head_S {l pre w r : List Nat} {c : Nat} {w2 : List Nat} (hl : l = pre ++ w ++ r) (hw : w = c :: w2) : atI (SX.S l).cps.toList (pre.length : Int) = some c := by
  rw [S_toList]
  refine atI_nat ?_
  rw [hl, hw, List.append_assoc, List.getElem?_append_right (Nat.le_refl _)]
  simp
theorem okS {l : List Nat} (h : ∀ c ∈ l, c < 200) : PyData.strOk (SX.S l) = true := by
  show (SX.S l).cps.all (fun c => decide (c < 0x110000)) = true
  simp only [SX.S, List.all_toArray, List.all_eq_true, decide_eq_true_eq]
  intro c hc
  have := h c hc
  omega
theorem ok1 {c : Nat} (h : c < 200) : PyData.strOk (⟨#[c]⟩ : Str) = true := okS (l := [c]) fun d hd => by rw [List.mem_singleton.mp hd]; exact h
theorem eq1 {c d : Nat} (hc : c < 200) (hd : d < 200) : gEqB (.str ⟨#[c]⟩) (.str (SX.S [d])) = some (decide (c = d)) := by
  rw [eq_str (ok1 hc) (okS (l := [d]) fun e he => by rw [List.mem_singleton.mp he]; exact hd)]
  congr 1
  exact decide_eq_decide.mpr ⟨fun h => (List.cons.inj (SX.S_inj (a := [c]) (b := [d]) h)).1, fun h => by rw [h]⟩
theorem word_end_ok {l pre w r : List Nat} (hl : l = pre ++ w ++ r) (hw : WOk w) (he : Ends w r) (hn : l.length ≤ 100000) (hsm : ∀ c ∈ w, c < 200) : fn_word_end [.str (SX.S l), .int pre.length] = .ok (.int ((pre.length + w.length : Nat) : Int), []) := by
  have hsz : (SX.S l).length ≤ 16777216 := by rw [SX.S_len]; omega
  have hp : pre.length ≤ l.length := by rw [hl, List.append_assoc, List.length_append]; omega
  have hdr : l.drop pre.length = w ++ r := by rw [hl, List.append_assoc]; simp
  have r1 := run_end_ok l ltr pre.length hp hn
  have r2 := run_end_ok l fig pre.length hp hn
  rw [hdr] at r1 r2
  obtain ⟨c, w2, hcw⟩ : ∃ c w2, w = c :: w2 := by
    rcases hw.2 with h | h | h
    · exact ⟨59, [], h⟩
    · exact List.exists_cons_of_ne_nil h.1
    · exact List.exists_cons_of_ne_nil h.1
  have hat := head_S hl hcw
  have hc200 : c < 200 := hsm c (by rw [hcw]; exact List.mem_cons_self)
  have q59 := eq1 hc200 (show 59 < 200 by decide)
  have q48 := eq1 hc200 (show 48 < 200 by decide)
  rcases hw.2 with h | h | h
  · have hc59 : c = 59 := by rw [h] at hcw; exact (List.cons.inj hcw).1.symm
    have hwl : w.length = 1 := by rw [h]; rfl
    subst hc59
    rw [hwl]
    generalize SX.S l = L at *
    simp [fn_word_end, b_word_end, semi_eq, hat, hsz, q59]
  · have e1 := run_app (sg := ltr) h.2 (he.1 h)
    have hc59 : ¬ c = 59 := by
      have := mem_ltr.mp (h.2 c (by rw [hcw]; exact List.mem_cons_self))
      omega
    rw [e1] at r1
    have hpos : 0 < w.length := List.length_pos_iff.mpr h.1
    have hgt : ((pre.length + w.length : Nat) : Int) > (pre.length : Int) := by omega
    generalize pre.length + w.length = pe at *
    generalize SX.S l = L at *
    simp [fn_word_end, b_word_end, semi_eq, alpha_eq, hat, hsz, q59, hc59, r1, hgt]
  · have e2 := run_app (sg := fig) h.2.1 (he.2 h)
    have hcf := mem_fig.mp (h.2.1 c (by rw [hcw]; exact List.mem_cons_self))
    have hc59 : ¬ c = 59 := by omega
    have e1 : run ltr (w ++ r) = 0 := by
      rw [hcw]
      show (if c ∈ ltr then run ltr (w2 ++ r) + 1 else 0) = _
      rw [if_neg fun z => by have := mem_ltr.mp z; omega]
    rw [e1, Nat.add_zero] at r1
    rw [e2] at r2
    have hpos : 0 < w.length := List.length_pos_iff.mpr h.1
    have h60 := h.2.2.1
    have n1 : ¬ ((pre.length : Int) > (pre.length : Int)) := by omega
    have n2 : ¬ (((pre.length + w.length : Nat) : Int) = (pre.length : Int)) := by omega
    have n3 : ((pre.length + w.length : Nat) : Int) - (pre.length : Int) = (w.length : Int) := by omega
    have n4 : ¬ ((w.length : Int) > 60) := by omega
    have n5 : c = 48 → ¬ ((w.length : Int) > 1) := fun h48 => by
      intro hgt
      refine h.2.2.2 (by omega) ?_
      rw [hcw, h48]; rfl
    generalize pre.length + w.length = pe at *
    generalize (pre.length : Int) = ps at *
    generalize (w.length : Int) = wl at *
    generalize SX.S l = L at *
    by_cases h48 : c = 48
    · have n6 := n5 h48
      subst h48
      simp [fn_word_end, b_word_end, semi_eq, alpha_eq, fig_eq, zero_eq, hat, hsz, q59, q48, hc59, r1, r2, n1, n2, n3, n4, n6]
    · simp [fn_word_end, b_word_end, semi_eq, alpha_eq, fig_eq, zero_eq, hat, hsz, q59, q48, hc59, r1, r2, n1, n2, n3, n4, h48]
end DL
namespace DL
open PySem PySem.Spec PyProof.Rows L2
noncomputable section
/-- blanks and a word -/
abbrev Pc := Nat × List Nat
def txt : List Pc → Nat → List Nat
  | [], t => List.replicate t 32
  | p :: ps, t => List.replicate p.1 32 ++ (p.2 ++ txt ps t)
def hd0 (w : List Nat) : Nat := w.headD 0
def touch (a b : List Nat) : Bool := if hd0 a ∈ ltr then decide (hd0 b ∈ ltr) else decide (hd0 a ∈ fig) && decide (hd0 b ∈ fig)
def Sp : List Pc → Prop
  | [] => True
  | [_] => True
  | x :: y :: r => (y.1 = 0 → touch x.2 y.2 = false) ∧ Sp (y :: r)
theorem wok_ne {w : List Nat} (h : WOk w) : w ≠ [] := by
  rcases h.2 with h | h | h
  · rw [h]; simp
  · exact h.1
  · exact h.1
theorem wok_small {w : List Nat} (h : WOk w) : ∀ c ∈ w, c < 200 := fun c hc => by
  rcases h.2 with h | h | h
  · rw [h, List.mem_singleton] at hc; omega
  · have := mem_ltr.mp (h.2 c hc); omega
  · have := mem_fig.mp (h.2.1 c hc); omega
theorem ends_ok {w : List Nat} {ps : List Pc} {t : Nat} (hw : WOk w) (b : Nat) (hs : Sp ((b, w) :: ps)) (hp : ∀ p ∈ ps, WOk p.2) : Ends w (txt ps t) := by
  have key : ∀ c, (txt ps t).head? = some c → (c = 32 ∨ ∃ p ∈ ps, p.1 = 0 ∧ touch w p.2 = false ∧ hd0 p.2 = c) := fun c hc => by
    cases ps with
    | nil =>
      left
      unfold txt at hc
      cases t with
      | zero => cases hc
      | succ t => rw [List.replicate_succ] at hc; exact (Option.some.inj hc).symm
    | cons p ps =>
      unfold txt at hc
      obtain ⟨b2, w2⟩ := p
      cases b2 with
      | zero =>
        right
        refine ⟨(0, w2), List.mem_cons_self, rfl, hs.1 rfl, ?_⟩
        have hne := wok_ne (hp _ List.mem_cons_self)
        obtain ⟨d, r, e⟩ := List.exists_cons_of_ne_nil hne
        simp only at e
        rw [e] at hc ⊢
        exact Option.some.inj hc
      | succ b2 =>
        left
        rw [List.replicate_succ] at hc
        exact (Option.some.inj hc).symm
  have hh : ∀ sg : List Nat, w ≠ [] → (∀ c ∈ w, c ∈ sg) → hd0 w ∈ sg := fun sg hne hall => by
    obtain ⟨d, r, e⟩ := List.exists_cons_of_ne_nil hne
    rw [e]
    exact hall d (by rw [e]; exact List.mem_cons_self)
  refine ⟨fun hn c hc hl => ?_, fun hn c hc hl => ?_⟩
  · rcases key c hc with rfl | ⟨p, hp2, h0, ht, hd⟩
    · have := mem_ltr.mp hl; omega
    · unfold touch at ht
      rw [if_pos (hh ltr hn.1 hn.2), hd] at ht
      simp only [decide_eq_false_iff_not] at ht
      exact ht hl
  · rcases key c hc with rfl | ⟨p, hp2, h0, ht, hd⟩
    · have := mem_fig.mp hl; omega
    · unfold touch at ht
      have hf := hh fig hn.1 hn.2.1
      have hnl : ¬ hd0 w ∈ ltr := fun z => by
        have := mem_ltr.mp z
        have := mem_fig.mp hf
        omega
      rw [if_neg hnl, hd, decide_eq_true hf, decide_eq_true hl] at ht
      cases ht
abbrev wC : DEnv → Out (Bool × DEnv) := (eBp (hB (hOp [.pur (hVar 2), .pur (hOp [.pur (hVar 0)] gLen)] gLt)))
abbrev wB : Stm := (sSeq (sSeq (sIf (hB (hOp [.pur (hOp [.pur (hVar 0), .pur (hVar 2)] gIx), .pur (hC (.str " "))] gEq)) (sSeq (sAug 2 (bin (bI fun a b => some (.int (a + b)))) (eP (hC (.int 1))))
  (sSeq sCont
  sNop)) sNop)
  (sSeq (sSet 3 (eK (.fin [.pur (hVar 0), .pur (hVar 2)]) (callK [.b, .b] fn_word_end)))
  (sSeq (sExpr (isL 1 (eK (.io 1 (.fin [.pur (hOp [.pur (hVar 0), .int (hVar 2), .int (hVar 3)] (sl2 fSlP))])) appK)))
  (sSeq (sSet 2 (eP (hVar 3)))
  sNop)))) (sDrop [3]))
abbrev wSt (l : List Nat) (e : Nat) (found : List (List Nat)) : DEnv := [some (.brw, .str (SX.S l)), some (.own, .lst (found.map fun w => .str (SX.S w))), some (.own, .int e), none]
theorem w_blanks {l : List Nat} {o : Flw} {found : List (List Nat)} (hn : l.length ≤ 100000) : ∀ (b : Nat) (pre r : List Nat), l = pre ++ (List.replicate b 32 ++ r) → WhR wC wB (wSt l (pre.length + b) found) o → WhR wC wB (wSt l pre.length found) o
  | 0, pre, r, _, h => h
  | b + 1, pre, r, hl, h => by
    have hat : atI (SX.S l).cps.toList (pre.length : Int) = some 32 := by
      rw [S_toList]
      refine atI_nat ?_
      rw [hl, List.getElem?_append_right (Nat.le_refl _), List.replicate_succ]
      simp
    have hsz : (SX.S l).length ≤ 16777216 := by rw [SX.S_len]; omega
    have hlt : (pre.length : Int) < ((SX.S l).length : Int) := by
      rw [SX.S_len, hl]; simp; omega
    have q32 := eq1 (show 32 < 200 by decide) (show 32 < 200 by decide)
    have ih := w_blanks (o := o) (found := found) hn b (pre ++ [32]) r (by rw [hl, List.replicate_succ]; simp) (by
      have : (pre ++ [32]).length + b = pre.length + (b + 1) := by simp; omega
      rw [this]; exact h)
    have e1 : (pre ++ [32]).length = pre.length + 1 := by simp
    rw [e1] at ih
    refine WhR.step (e1 := wSt l pre.length found) ?_ (.inr (?_ : _ = Out.ok (Flw.ct (wSt l (pre.length + 1) found)))) ih
    · simp only [wSt]
      generalize SX.S l = L at *
      simp [hsz, hlt]
    · simp only [wSt]
      generalize SX.S l = L at *
      simp [blank_eq, hat, hsz, q32]
theorem cutS_mid (l : List Nat) (a b : Nat) : cutS (SX.S l) (some (a : Int)) (some (b : Int)) = SX.S ((l.take b).drop a) := by
  unfold cutS
  rw [HT.sIx_nat, HT.sIx_nat, S_toList, SX.S_len, List.drop_take]
  simp only [SX.S]
  congr 1
  by_cases h : a ≤ l.length
  · rw [Nat.min_eq_left h]
    by_cases hb : b ≤ l.length
    · rw [Nat.min_eq_left hb]
    · have hb : l.length ≤ b := by omega
      rw [Nat.min_eq_right hb, List.take_of_length_le (by simp), List.take_of_length_le (by simp; omega)]
  · have h : l.length ≤ a := by omega
    rw [Nat.min_eq_right h, List.drop_of_length_le (Nat.le_refl _), List.drop_of_length_le h]
    simp
theorem w_words {l : List Nat} {t : Nat} (hn : l.length ≤ 100000) : ∀ (ps : List Pc) (pre : List Nat) (found : List (List Nat)), l = pre ++ txt ps t → Sp ps → (∀ p ∈ ps, WOk p.2) → found.length + ps.length ≤ 1000 → WhR wC wB (wSt l pre.length found) (.nx (wSt l l.length (found ++ ps.map (·.2))))
  | [], pre, found, hl, _, _, _ => by
    have hl2 : l = pre ++ (List.replicate t 32 ++ []) := by rw [hl]; simp [txt]
    have e : pre.length + t = l.length := by rw [hl2]; simp
    refine w_blanks hn t pre [] hl2 ?_
    rw [e, List.map_nil, List.append_nil]
    refine WhR.stop ?_
    have hsz : (SX.S l).length ≤ 16777216 := by rw [SX.S_len]; omega
    have hlt : ¬ (l.length : Int) < ((SX.S l).length : Int) := by rw [SX.S_len]; omega
    simp only [wSt]
    generalize SX.S l = L at *
    simp [hsz, hlt]
  | p :: ps, pre, found, hl, hs, hp, hf => by
    obtain ⟨b, w⟩ := p
    have hw := hp _ List.mem_cons_self
    simp only at hw
    have hl1 : l = pre ++ (List.replicate b 32 ++ (w ++ txt ps t)) := hl
    have hl2 : l = (pre ++ List.replicate b 32) ++ w ++ txt ps t := by rw [hl1]; simp
    refine w_blanks hn b pre _ hl1 ?_
    have e0 : pre.length + b = (pre ++ List.replicate b 32).length := by simp
    rw [e0]
    have hwe := word_end_ok hl2 hw (ends_ok hw b hs fun q hq => hp q (List.mem_cons_of_mem _ hq)) hn (wok_small hw)
    obtain ⟨c, w2, hcw⟩ := List.exists_cons_of_ne_nil (wok_ne hw)
    have hat := head_S hl2 hcw
    have hsz : (SX.S l).length ≤ 16777216 := by rw [SX.S_len]; omega
    have hwl : 0 < w.length := List.length_pos_iff.mpr (wok_ne hw)
    have hlt : ((pre ++ List.replicate b 32).length : Int) < ((SX.S l).length : Int) := by
      rw [SX.S_len, hl2]; simp; omega
    have hc : c < 200 := wok_small hw c (by rw [hcw]; exact List.mem_cons_self)
    have hc32 : ¬ c = 32 := fun z => by
      subst z
      rcases hw.2 with h | h | h
      · rw [h] at hcw; exact absurd (List.cons.inj hcw).1 (by decide)
      · have := mem_ltr.mp (h.2 32 (by rw [hcw]; exact List.mem_cons_self)); omega
      · have := mem_fig.mp (h.2.1 32 (by rw [hcw]; exact List.mem_cons_self)); omega
    have q32 := eq1 hc (show 32 < 200 by decide)
    rw [decide_eq_false hc32] at q32
    have hcut := cutS_mid l (pre ++ List.replicate b 32).length ((pre ++ List.replicate b 32).length + w.length)
    have hmid : (l.take ((pre ++ List.replicate b 32).length + w.length)).drop (pre ++ List.replicate b 32).length = w := by
      have : (pre ++ List.replicate b 32).length + w.length = ((pre ++ List.replicate b 32) ++ w).length := by simp; omega
      rw [this]
      conv => lhs; rw [hl2]
      rw [List.take_left', List.drop_left']
      · rfl
      · rfl
    rw [hmid] at hcut
    have ih := w_words (t := t) hn ps ((pre ++ List.replicate b 32) ++ w) (found ++ [w]) hl2 (by
      cases ps with
      | nil => trivial
      | cons q r => exact hs.2) (fun q hq => hp q (List.mem_cons_of_mem _ hq)) (by
      rw [List.length_cons] at hf
      simp; omega)
    have e1 : ((pre ++ List.replicate b 32) ++ w).length = (pre ++ List.replicate b 32).length + w.length := List.length_append
    have e2 : found ++ [w] ++ ps.map (·.2) = found ++ ((b, w) :: ps).map (·.2) := by simp
    rw [e1, e2] at ih
    generalize (pre ++ List.replicate b 32).length = pe at *
    have hfl : found.length < 16777216 := by omega
    refine WhR.step (e1 := wSt l pe found) ?_ (.inl (?_ : _ = Out.ok (Flw.nx (wSt l (pe + w.length) (found ++ [w]))))) ih
    · simp only [wSt]
      generalize SX.S l = L at *
      simp [hsz, hlt]
    · simp only [wSt]
      generalize hL : SX.S l = L at *
      generalize pe + w.length = pw at *
      simp [blank_eq, hat, hsz, q32, hwe, hcut, hfl]
theorem words_ok {ps : List Pc} {t : Nat} (hn : (txt ps t).length ≤ 100000) (hs : Sp ps) (hp : ∀ p ∈ ps, WOk p.2) (hl : ps.length ≤ 1000) : fn_words [.str (SX.S (txt ps t))] = .ok (.lst (ps.map fun p => .str (SX.S p.2)), []) := by
  have h := (w_words (l := txt ps t) (t := t) hn ps [] [] rfl hs hp (by simp; omega)).sw
  have e : (([] : List (List Nat)) ++ ps.map (·.2)).map (fun w => D.str (SX.S w)) = ps.map fun p => .str (SX.S p.2) := by
    rw [List.nil_append, List.map_map]; rfl
  simp only [wSt, e, List.map_nil, List.length_nil] at h
  rw [show ((0 : Nat) : Int) = 0 from rfl] at h
  generalize (ps.map fun p : Pc => D.str (SX.S p.2)) = out at *
  generalize SX.S (txt ps t) = L at *
  have hu : unb (D.str L) = D.str L := rfl
  simp [fn_words, b_words, tyLe, h, hu]
end
end DL
namespace DL
open PySem PySem.Spec PyProof.Rows L2
theorem head_num : ∀ n : Nat, 1 ≤ n → (TL.numL n).head? ≠ some 48 := fun n => by
  induction n using Nat.strongRecOn with
  | _ n ih =>
    intro h1
    by_cases h : n < 10
    · rw [TL.numL_lt h]
      intro e
      have := Option.some.inj e
      omega
    · rw [TL.numL_step (by omega)]
      have h2 := ih (n / 10) (by omega) (by omega)
      obtain ⟨d, r, e⟩ := List.exists_cons_of_ne_nil (TL.numL_ne (n / 10))
      rw [e] at h2 ⊢
      exact h2
theorem num_ok (n : Nat) (h : n < 10 ^ 60) : WNum (TL.numL n) := by
  refine ⟨TL.numL_ne n, fun c hc => ?_, TL.numL_len (by decide) h, fun h1 => ?_⟩
  · have := TL.numL_digits n c hc
    exact mem_fig.mpr (by omega)
  · by_cases h0 : n = 0
    · subst h0
      rw [TL.numL_lt (by decide)] at h1
      exact absurd h1 (by decide)
    · exact head_num n (by omega)
theorem str_ok {v : Int} (h0 : 0 ≤ v) (h1 : v < 1000000000000000000000000000000000000000000000000000000000000) : ∃ w, fStr (.int v) = some (.str (SX.S w)) ∧ WNum w := by
  obtain ⟨n, rfl⟩ := Int.eq_ofNat_of_zero_le h0
  have hp : (2 : Nat) ^ 200 = 1606938044258990275541962092341162602522202993782792835301376 := by decide +kernel
  have hb : Bd 200 (n : Int) := by
    unfold Bd
    rw [hp]
    omega
  have hlog := hb.log (by decide)
  refine ⟨TL.numL n, ?_, num_ok n (by
    have : (10 : Nat) ^ 60 = 1000000000000000000000000000000000000000000000000000000000000 := by decide +kernel
    rw [this]
    omega)⟩
  show iff? _ _ = _
  rw [iff?_pos (by omega)]
  congr 2
  exact SX.num_S n
end DL
namespace DL
open PySem PySem.Spec PyProof.Rows L2
/-- a loop that ends in a refusal -/
def WhX (c : DEnv → Out (Bool × DEnv)) (body : Stm) (e : DEnv) (x : Str) : Prop := ∃ n, whileN c body n e = .exc x
theorem WhX.now {c : DEnv → Out (Bool × DEnv)} {body : Stm} {e e1 : DEnv} {x : Str} (h : c e = .ok (true, e1)) (hb : body e1 = .exc x) : WhX c body e x := ⟨1, by
  rw [whileN, h]
  simp only [Out.bind_ok, if_true]
  rw [hb]; rfl⟩
theorem WhX.step {c : DEnv → Out (Bool × DEnv)} {body : Stm} {e e1 e2 : DEnv} {x : Str} (h : c e = .ok (true, e1)) (hb : body e1 = .ok (.nx e2) ∨ body e1 = .ok (.ct e2)) (k : WhX c body e2 x) : WhX c body e x := by
  obtain ⟨n, hn⟩ := k
  refine ⟨n + 1, ?_⟩
  rw [whileN, h]
  simp only [Out.bind_ok, if_true]
  rcases hb with hb | hb
  · rw [hb]; exact hn
  · rw [hb]; exact hn
theorem WhX.sw {c : DEnv → Out (Bool × DEnv)} {body : Stm} {e : DEnv} {x : Str} (k : WhX c body e x) : sWhile c body e = .exc x := by
  obtain ⟨n, hn⟩ := k
  exact sWhile_of hn (by simp)
/-- what no word is: a sign, too many figures, a nought ahead -/
def Bad (b : List Nat) : Prop := (∃ c, b = [c] ∧ c ∉ ltr ∧ c ∉ fig ∧ c ≠ 59 ∧ c ≠ 32 ∧ c < 200) ∨ (b ≠ [] ∧ (∀ c ∈ b, c ∈ fig) ∧ (60 < b.length ∨ 1 < b.length ∧ b.head? = some 48))
theorem word_bad {l pre b r : List Nat} (hl : l = pre ++ b ++ r) (hb : Bad b) (hr : ∀ c, r.head? = some c → c ∉ fig) (hn : l.length ≤ 100000) : fn_word_end [.str (SX.S l), .int pre.length] = .exc "NoText" := by
  have hsz : (SX.S l).length ≤ 16777216 := by rw [SX.S_len]; omega
  have hp : pre.length ≤ l.length := by rw [hl, List.append_assoc, List.length_append]; omega
  have hdr : l.drop pre.length = b ++ r := by rw [hl, List.append_assoc]; simp
  have r1 := run_end_ok l ltr pre.length hp hn
  have r2 := run_end_ok l fig pre.length hp hn
  rw [hdr] at r1 r2
  rcases hb with ⟨c, rfl, h1, h2, h3, h4, h5⟩ | ⟨h1, h2, h3⟩
  · have hat := head_S hl (w2 := []) rfl
    have q59 := eq1 h5 (show 59 < 200 by decide)
    rw [decide_eq_false h3] at q59
    have e1 : run ltr ([c] ++ r) = 0 := by
      show (if c ∈ ltr then _ else 0) = 0
      rw [if_neg h1]
    have e2 : run fig ([c] ++ r) = 0 := by
      show (if c ∈ fig then _ else 0) = 0
      rw [if_neg h2]
    rw [e1, Nat.add_zero] at r1
    rw [e2, Nat.add_zero] at r2
    have n1 : ¬ ((pre.length : Int) > (pre.length : Int)) := by omega
    generalize (pre.length : Int) = ps at *
    generalize SX.S l = L at *
    simp [fn_word_end, b_word_end, semi_eq, alpha_eq, fig_eq, hat, hsz, q59, r1, r2, n1]
  · obtain ⟨c, w2, hcw⟩ := List.exists_cons_of_ne_nil h1
    have hat := head_S hl hcw
    have hcf := mem_fig.mp (h2 c (by rw [hcw]; exact List.mem_cons_self))
    have q59 := eq1 (show c < 200 by omega) (show 59 < 200 by decide)
    rw [decide_eq_false (by omega : ¬ c = 59)] at q59
    have q48 := eq1 (show c < 200 by omega) (show 48 < 200 by decide)
    have e2 := run_app (sg := fig) h2 hr
    have e1 : run ltr (b ++ r) = 0 := by
      rw [hcw]
      show (if c ∈ ltr then run ltr (w2 ++ r) + 1 else 0) = _
      rw [if_neg fun z => by have := mem_ltr.mp z; omega]
    rw [e1, Nat.add_zero] at r1
    rw [e2] at r2
    have hpos : 0 < b.length := List.length_pos_iff.mpr h1
    have n1 : ¬ ((pre.length : Int) > (pre.length : Int)) := by omega
    have n2 : ¬ (((pre.length + b.length : Nat) : Int) = (pre.length : Int)) := by omega
    have n3 : ((pre.length + b.length : Nat) : Int) - (pre.length : Int) = (b.length : Int) := by omega
    by_cases h60 : 60 < b.length
    · have n4 : (60 : Int) < (b.length : Int) := by omega
      generalize pre.length + b.length = pe at *
      generalize (pre.length : Int) = ps at *
      generalize (b.length : Int) = wl at *
      generalize SX.S l = L at *
      simp [fn_word_end, b_word_end, semi_eq, alpha_eq, fig_eq, zero_eq, hat, hsz, q59, q48, r1, r2, n1, n2, n3, n4]
    · have h3 := h3.resolve_left h60
      have hc48 : c = 48 := by
        have := h3.2
        rw [hcw] at this
        exact Option.some.inj this
      have n4 : ¬ (60 : Int) < (b.length : Int) := by omega
      have n5 : (1 : Int) < (b.length : Int) := by omega
      subst hc48
      generalize pre.length + b.length = pe at *
      generalize (pre.length : Int) = ps at *
      generalize (b.length : Int) = wl at *
      generalize SX.S l = L at *
      simp [fn_word_end, b_word_end, semi_eq, alpha_eq, fig_eq, zero_eq, hat, hsz, q59, q48, r1, r2, n1, n2, n3, n4, n5]
end DL
namespace DL
open PySem PySem.Spec PyProof.Rows L2
noncomputable section
/-- words, a blank behind each -/
def tx (ws : List (List Nat)) (z : List Nat) : List Nat := ws.foldr (fun w acc => w ++ 32 :: acc) z
theorem tx_cons (w : List Nat) (ws : List (List Nat)) (z : List Nat) : tx (w :: ws) z = w ++ 32 :: tx ws z := rfl
theorem not32 : 32 ∉ ltr ∧ 32 ∉ fig := ⟨fun h => by have := mem_ltr.mp h; omega, fun h => by have := mem_fig.mp h; omega⟩
theorem w_bad {l : List Nat} {b r : List Nat} (hb : Bad b) (hr : ∀ c, r.head? = some c → c ∉ fig) (hn : l.length ≤ 100000) : ∀ (ws : List (List Nat)) (pre : List Nat) (found : List (List Nat)), l = pre ++ tx ws (b ++ r) → (∀ w ∈ ws, WOk w) → found.length + ws.length ≤ 1000 → WhX wC wB (wSt l pre.length found) "NoText"
  | [], pre, found, hl, _, _ => by
    have hl2 : l = pre ++ b ++ r := by rw [hl, List.append_assoc]; rfl
    have hwe := word_bad hl2 hb hr hn
    obtain ⟨c, b2, hcb⟩ : ∃ c b2, b = c :: b2 := by
      rcases hb with ⟨c, rfl, _⟩ | ⟨h, _⟩
      · exact ⟨c, [], rfl⟩
      · exact List.exists_cons_of_ne_nil h
    have hc : c < 200 ∧ c ≠ 32 := by
      rcases hb with ⟨d, rfl, _, _, _, h1, h2⟩ | ⟨_, h, _⟩
      · cases hcb; exact ⟨h2, h1⟩
      · have := mem_fig.mp (h c (by rw [hcb]; exact List.mem_cons_self))
        omega
    have hat := head_S hl2 hcb
    have hsz : (SX.S l).length ≤ 16777216 := by rw [SX.S_len]; omega
    have hlt : (pre.length : Int) < ((SX.S l).length : Int) := by
      rw [SX.S_len, hl2, hcb]; simp; omega
    have q32 := eq1 hc.1 (show 32 < 200 by decide)
    rw [decide_eq_false hc.2] at q32
    generalize pre.length = pe at *
    have hcT : wC (wSt l pe found) = .ok (true, wSt l pe found) := by
      simp only [wSt]
      generalize SX.S l = L at *
      simp [hsz, hlt]
    have hbO : Pm.b.own = false := rfl
    refine WhX.now hcT ?_
    simp only [wSt]
    generalize SX.S l = L at *
    simp [blank_eq, hat, hsz, q32, hwe, hbO]
  | w :: ws, pre, found, hl, hp, hf => by
    have hw := hp _ List.mem_cons_self
    have hl2 : l = pre ++ w ++ 32 :: tx ws (b ++ r) := by rw [hl, tx_cons, List.append_assoc]
    have hE : Ends w (32 :: tx ws (b ++ r)) := ⟨fun _ c hc => by cases hc; exact not32.1, fun _ c hc => by cases hc; exact not32.2⟩
    have hwe := word_end_ok hl2 hw hE hn (wok_small hw)
    obtain ⟨c, w2, hcw⟩ := List.exists_cons_of_ne_nil (wok_ne hw)
    have hat := head_S hl2 hcw
    have hsz : (SX.S l).length ≤ 16777216 := by rw [SX.S_len]; omega
    have hwl : 0 < w.length := List.length_pos_iff.mpr (wok_ne hw)
    have hlt : (pre.length : Int) < ((SX.S l).length : Int) := by
      rw [SX.S_len, hl2]; simp; omega
    have hlt2 : ((pre.length + w.length : Nat) : Int) < ((SX.S l).length : Int) := by
      rw [SX.S_len, hl2]; simp; omega
    have hc : c < 200 := wok_small hw c (by rw [hcw]; exact List.mem_cons_self)
    have hc32 : ¬ c = 32 := fun z => by
      subst z
      rcases hw.2 with h | h | h
      · rw [h] at hcw; exact absurd (List.cons.inj hcw).1 (by decide)
      · exact not32.1 (h.2 32 (by rw [hcw]; exact List.mem_cons_self))
      · exact not32.2 (h.2.1 32 (by rw [hcw]; exact List.mem_cons_self))
    have q32 := eq1 hc (show 32 < 200 by decide)
    rw [decide_eq_false hc32] at q32
    have q33 := eq1 (show 32 < 200 by decide) (show 32 < 200 by decide)
    have hcut := cutS_mid l pre.length (pre.length + w.length)
    have hmid : (l.take (pre.length + w.length)).drop pre.length = w := by
      have : pre.length + w.length = (pre ++ w).length := by simp
      rw [this]
      conv => lhs; rw [hl2]
      rw [List.take_left', List.drop_left']
      · rfl
      · rfl
    rw [hmid] at hcut
    have hat2 : atI (SX.S l).cps.toList ((pre.length + w.length : Nat) : Int) = some 32 := by
      rw [S_toList]
      refine atI_nat ?_
      rw [hl2, show pre.length + w.length = (pre ++ w).length by simp, List.getElem?_append_right (Nat.le_refl _), Nat.sub_self]
      rfl
    have ih := w_bad (l := l) hb hr hn ws (pre ++ w ++ [32]) (found ++ [w]) (by rw [hl2]; simp) (fun q hq => hp q (List.mem_cons_of_mem _ hq)) (by rw [List.length_cons] at hf; simp; omega)
    have e1 : (pre ++ w ++ [32]).length = pre.length + w.length + 1 := by simp; omega
    rw [e1] at ih
    have hfl : found.length < 16777216 := by omega
    have e2 : ((pre.length + w.length + 1 : Nat) : Int) = ((pre.length + w.length : Nat) : Int) + 1 := by omega
    generalize pre.length + w.length = pw at *
    generalize pre.length = pe at *
    refine WhX.step (e1 := wSt l pe found) ?_ (.inl (?_ : _ = Out.ok (Flw.nx (wSt l pw (found ++ [w]))))) (WhX.step (e1 := wSt l pw (found ++ [w])) ?_ (.inr (?_ : _ = Out.ok (Flw.ct (wSt l (pw + 1) (found ++ [w]))))) ih)
    · simp only [wSt]
      generalize SX.S l = L at *
      simp [hsz, hlt]
    · simp only [wSt]
      generalize hL : SX.S l = L at *
      simp [blank_eq, hat, hsz, q32, hwe, hcut, hfl]
    · simp only [wSt]
      generalize SX.S l = L at *
      simp [hsz, hlt2]
    · simp only [wSt]
      rw [e2]
      generalize SX.S l = L at *
      simp [blank_eq, hat2, hsz, q33]
theorem words_bad {ws : List (List Nat)} {b r : List Nat} (hb : Bad b) (hr : ∀ c, r.head? = some c → c ∉ fig) (hw : ∀ w ∈ ws, WOk w) (hl : ws.length ≤ 1000) (hn : (tx ws (b ++ r)).length ≤ 100000) : fn_words [.str (SX.S (tx ws (b ++ r)))] = .exc "NoText" := by
  have h := (w_bad hb hr hn ws [] [] rfl hw (by simpa using hl)).sw
  simp only [wSt, List.map_nil, List.length_nil] at h
  rw [show ((0 : Nat) : Int) = 0 from rfl] at h
  generalize SX.S (tx ws (b ++ r)) = L at *
  have hu : unb (D.str L) = D.str L := rfl
  simp [fn_words, b_words, tyLe, h, hu]
/-- what is no text -/
theorem words_no {d : D} {t : String} (h : (unb d).ty = some t) (hs : tyLe t "str" = false) : fn_words [d] = .exc "NoText" := by
  simp [fn_words, b_words, h, hs]
theorem chart_no {d : D} (h : fn_words [d] = .exc "NoText") : fn_read_chart [d] = .exc "NoText" := by
  have hbO : Pm.b.own = false := rfl
  simp [fn_read_chart, b_read_chart, h, hbO]
theorem net_no {d : D} (h : fn_words [d] = .exc "NoText") : fn_read_net [d] = .exc "NoText" := by
  have hbO : Pm.b.own = false := rfl
  simp [fn_read_net, b_read_net, h, hbO]
end
end DL
namespace DL
open PySem PySem.Spec PyProof.Rows L2
theorem cell_ok (ns : List Int) (k : Int) (h : 0 ≤ k) : fn_law_cell_at [.scr ns, .int k] = .ok (.int (cv ns k.toNat), []) := by
  obtain ⟨n, rfl⟩ := Int.eq_ofNat_of_zero_le h
  by_cases hn : n < ns.length
  · have e := scr_ix hn
    simp only [z_ixscr] at e
    simp [fn_law_cell_at, b_law_cell_at, hn, e]
  · have e : cv ns n = 0 := by simp [cv, List.getD_eq_getElem?_getD, List.getElem?_eq_none (Nat.le_of_not_lt hn)]
    simp [fn_law_cell_at, b_law_cell_at, hn, e]
theorem p10_64 : gPow [.int 10, .int 64] = some (.int (10000000000000000000000000000000000000000000000000000000000000000)) := pow_eq (by decide) (by decide +kernel)
theorem p10_60 : gPow [.int 10, .int 60] = some (.int (1000000000000000000000000000000000000000000000000000000000000)) := pow_eq (by decide) (by decide +kernel)
theorem p10_9 : gPow [.int 10, .int 9] = some (.int (1000000000)) := pow_eq (by decide) (by decide +kernel)
theorem moves_S : ("moves" : Str) = SX.S [109, 111, 118, 101, 115] := by decide +kernel
theorem a_S : ("a" : Str) = SX.S [97] := by decide +kernel
theorem b_S : ("b" : Str) = SX.S [98] := by decide +kernel
theorem zz_S : ("zz" : Str) = SX.S [122, 122] := by decide +kernel
theorem name_W {l : List Nat} (h : (decide (l ≠ []) && (l.all fun c => decide (97 ≤ c ∧ c < 123)) && decide (l.length ≤ 60)) = true) : WOk l := by
  simp only [Bool.and_eq_true, decide_eq_true_eq, List.all_eq_true] at h
  exact ⟨h.2, .inr (.inl ⟨h.1.1, fun c hc => mem_ltr.mpr (h.1.2 c hc)⟩)⟩
theorem wby_ok (c : Int) : ∃ w, fn_law_word_by [.int c] = .ok (.str (SX.S w), []) ∧ WOk w := by
  have h0 := Int.emod_nonneg c (show (10000000000000000000000000000000000000000000000000000000000000000 : Int) ≠ 0 by decide)
  have p64 := p10_64
  have p60 := p10_60
  obtain ⟨q, hq⟩ : ∃ q : Int, c % 10000000000000000000000000000000000000000000000000000000000000000 = q := ⟨_, rfl⟩
  rw [hq] at h0
  have m : q % 3 = 0 ∨ q % 3 = 1 ∨ q % 3 = 2 := by omega
  rcases m with m | m | m
  · have k4 : q / 3 % 4 = 0 ∨ q / 3 % 4 = 1 ∨ q / 3 % 4 = 2 ∨ q / 3 % 4 = 3 := by omega
    have hat : ∃ w, atI [D.str "moves", .str "a", .str "b", .str "zz"] (q / 3 % 4) = some (.str (SX.S w)) ∧ WOk w := by
      rcases k4 with e | e | e | e
      · rw [e]; exact ⟨_, by rw [moves_S]; rfl, name_W (by decide)⟩
      · rw [e]; exact ⟨_, by rw [a_S]; rfl, name_W (by decide)⟩
      · rw [e]; exact ⟨_, by rw [b_S]; rfl, name_W (by decide)⟩
      · rw [e]; exact ⟨_, by rw [zz_S]; rfl, name_W (by decide)⟩
    obtain ⟨w, hat, hw⟩ := hat
    refine ⟨w, ?_, hw⟩
    simp [fn_law_word_by, b_law_word_by, p64, hq, m, hat]
  · have h1 := Int.emod_nonneg (q / 3) (show (1000000000000000000000000000000000000000000000000000000000000 : Int) ≠ 0 by decide)
    have h2 := Int.emod_lt_of_pos (q / 3) (show (0 : Int) < 1000000000000000000000000000000000000000000000000000000000000 by decide)
    obtain ⟨w, hw, hn⟩ := str_ok h1 h2
    refine ⟨w, ?_, hn.2.2.1, .inr (.inr hn)⟩
    simp [fn_law_word_by, b_law_word_by, p64, p60, hq, m, hw]
  · refine ⟨[59], ?_, by decide, .inl rfl⟩
    simp [fn_law_word_by, b_law_word_by, p64, hq, m, semi_eq]
theorem fig_at (n : Int) : atI (SX.S fig).cps.toList (n % 10) = some (48 + (n % 10).toNat) ∧ 48 + (n % 10).toNat ∈ fig := by
  have h1 := Int.emod_nonneg n (show (10 : Int) ≠ 0 by decide)
  have h2 := Int.emod_lt_of_pos n (show (0 : Int) < 10 by decide)
  obtain ⟨j, hj⟩ := Int.eq_ofNat_of_zero_le h1
  rw [hj] at h1 h2 ⊢
  have hj2 : j < 10 := by omega
  refine ⟨?_, mem_fig.mpr (by omega)⟩
  rw [S_toList, atI_nat (j := j) (v := 48 + j)]
  · rfl
  · unfold fig
    rw [List.getElem?_map, List.getElem?_range hj2]
    rfl
def fgB : Stm := (sSeq (sSet 0 (eP (hOp [.pur (hOp [.pur (hOp [.pur (hVar 0), .pur (hC (.int 48271))] gMul), .pur (hC (.int 2147483647))] gMod), .pur (hC (.int 1))] gAdd)))
  (sSeq (sSet 2 (eP (hOp [.pur (hVar 2), .pur (hOp [.pur (hC (.str "0123456789")), .pur (hOp [.pur (hVar 0), .pur (hC (.int 10))] gMod)] gIx)] gAdd)))
  sNop))
theorem fg_eq : b_law_figures = (sSeq (sSet 2 (eP (hC (.str ""))))
  (sSeq (sFor [.pur (hVar 1)] mkRange1 (bName 3) [3] fgB)
  (sSeq (sRet (eP (hVar 2)))
  sNop))) := rfl
theorem S_app (a b : List Nat) : SX.S a ++ SX.S b = SX.S (a ++ b) := by
  show (⟨(SX.S a).cps ++ (SX.S b).cps⟩ : Str) = _
  simp [SX.S]
theorem fg_run (k : Nat) : ∀ (xs : List D) (md : Md) (n : Int) (w : List Nat), (md = .brw ∨ md = .own) → Bd 70 n → w.length + xs.length ≤ 100 → (∀ c ∈ w, c ∈ fig) → (∀ x ∈ xs, x.pure = true) →
    ∃ (md2 : Md) (n2 : Int) (w2 : List Nat), forD (bName 3) [3] fgB xs [some (md, .int n), some (.brw, .int k), some (.own, .str (SX.S w)), none] = .ok (.nx [some (md2, .int n2), some (.brw, .int k), some (.own, .str (SX.S w2)), none]) ∧ w2.length = w.length + xs.length ∧ (∀ c ∈ w2, c ∈ fig) ∧ (md2 = .brw ∨ md2 = .own)
  | [], md, n, w, hm, _, _, hf, _ => ⟨md, n, w, rfl, rfl, hf, hm⟩
  | x :: xs, md, n, w, hm, hn, hl, hf, hx => by
    rw [List.length_cons] at hl
    have m1 : MulOk n 48271 := mulOk (j := 70) (k := 20) hn (by unfold Bd; decide)
    have h1 := Int.emod_nonneg (n * 48271) (show (2147483647 : Int) ≠ 0 by decide)
    have h2 := Int.emod_lt_of_pos (n * 48271) (show (0 : Int) < 2147483647 by decide)
    have hxp := hx x List.mem_cons_self
    generalize hz : n * 48271 % 2147483647 + 1 = z at *
    have hb : Bd 70 z := by
      unfold Bd
      have : (2147483648 : Nat) < 2 ^ 70 := by decide
      omega
    obtain ⟨a1, a2⟩ := fig_at z
    have hs := S_app w [48 + (z % 10).toNat]
    have l1 : (SX.S w).length + 1 ≤ 16777216 := by rw [SX.S_len]; omega
    have lf : (SX.S fig).length ≤ 16777216 := by decide +kernel
    have ht : Turn1 (bName 3) [3] fgB x [some (md, .int n), some (.brw, .int k), some (.own, .str (SX.S w)), none] [some (.own, .int z), some (.brw, .int k), some (.own, .str (SX.S (w ++ [48 + (z % 10).toNat]))), none] := by
      have l2 : (⟨#[48 + (z % 10).toNat]⟩ : Str).length = 1 := rfl
      have e3 : SX.S [48 + (z % 10).toNat] = (⟨#[48 + (z % 10).toNat]⟩ : Str) := rfl
      rw [← hs, e3]
      generalize SX.S w = L at *
      have l1' : L.length + (⟨#[48 + (z % 10).toNat]⟩ : Str).length ≤ 16777216 := by omega
      unfold Turn1 fgB
      rcases hm with rfl | rfl
      · simp [m1, hz, hxp, fig_eq, a1, l1', lf]
      · simp [m1, hz, hxp, fig_eq, a1, l1', lf]
    obtain ⟨md2, n2, w2, g1, g2, g3, g4⟩ := fg_run k xs .own z (w ++ [48 + (z % 10).toNat]) (.inr rfl) hb (by simp; omega) (fun c hc => (List.mem_append.mp hc).elim (hf c) fun q => by rw [List.mem_singleton.mp q]; exact a2) fun y hy => hx y (List.mem_cons_of_mem _ hy)
    refine ⟨md2, n2, w2, by rw [forD_cons ht]; exact g1, by rw [g2]; simp; omega, g3, g4⟩
theorem figures_ok (n : Int) (k : Nat) (hn : Bd 70 n) (hk : k ≤ 100) : ∃ w, fn_law_figures [.int n, .int k] = .ok (.str (SX.S w), []) ∧ w.length = k ∧ ∀ c ∈ w, c ∈ fig := by
  have rO : rngD 0 k = (List.range k).map fun j : Nat => D.int (j : Int) := rng_map _
  have iO : inRng (k : Int) = true := inRng_of (by omega)
  obtain ⟨md2, n2, w2, g1, g2, g3, g4⟩ := fg_run k ((List.range k).map fun j : Nat => D.int (j : Int)) .brw n [] (.inl rfl) hn (by simp; omega) (fun c hc => by cases hc) (fun x hx => by
    obtain ⟨j, _, rfl⟩ := List.mem_map.mp hx
    rfl)
  refine ⟨w2, ?_, by rw [g2]; simp, g3⟩
  generalize (List.range k).map (fun j : Nat => D.int (j : Int)) = RD at *
  rcases g4 with rfl | rfl
  · simp [fn_law_figures, fg_eq, nil_eq, rO, iO, g1]
  · simp [fn_law_figures, fg_eq, nil_eq, rO, iO, g1]
def sgns : List Nat := [33, 34, 35, 36, 38, 39, 40, 41, 42, 43, 44, 45, 46, 47, 58, 60, 61, 62, 63, 64] ++ (List.range 26).map (65 + ·) ++ [91, 92, 93, 94, 95, 96, 123, 124, 125, 126, 10, 9]
theorem sgns_eq : ("!\"#$&'()*+,-./:<=>?@ABCDEFGHIJKLMNOPQRSTUVWXYZ[\\]^_`{|}~\n\t" : Str) = SX.S sgns := by decide +kernel
theorem sgns_bad : ∀ c ∈ sgns, c ∉ ltr ∧ c ∉ fig ∧ c ≠ 59 ∧ c ≠ 32 ∧ c < 200 := fun c hc => by
  have h : (sgns.all fun c => decide (¬ (97 ≤ c ∧ c < 123) ∧ ¬ (48 ≤ c ∧ c < 58) ∧ c ≠ 59 ∧ c ≠ 32 ∧ c < 200)) = true := by decide +kernel
  have h := of_decide_eq_true (List.all_eq_true.mp h c hc)
  exact ⟨fun z => h.1 (mem_ltr.mp z), fun z => h.2.1 (mem_fig.mp z), h.2.2⟩
theorem seven_S : ("7" : Str) = SX.S [55] := by decide +kernel
theorem zero_S : ("0" : Str) = SX.S [48] := by decide +kernel
theorem bad_ok (c : Int) : ∃ b, fn_law_bad_by [.int c] = .ok (.str (SX.S b), []) ∧ Bad b ∧ b.length ≤ 200 := by
  have p20 := p10_20
  have h1 := Int.emod_nonneg (c / 3) (show (100000000000000000000 : Int) ≠ 0 by decide)
  have h2 := Int.emod_lt_of_pos (c / 3) (show (0 : Int) < 100000000000000000000 by decide)
  obtain ⟨q, hq⟩ : ∃ q : Int, c / 3 % 100000000000000000000 = q := ⟨_, rfl⟩
  rw [hq] at h1 h2
  have hqb : Bd 70 q := by
    unfold Bd
    have : (100000000000000000000 : Nat) < 2 ^ 70 := by decide
    omega
  have m : c % 3 = 0 ∨ c % 3 = 1 ∨ c % 3 = 2 := by omega
  rcases m with m | m | m
  · have hlen : (SX.S sgns).length = 58 := by decide +kernel
    have g1 := Int.emod_nonneg q (show (58 : Int) ≠ 0 by decide)
    have g2 := Int.emod_lt_of_pos q (show (0 : Int) < 58 by decide)
    obtain ⟨j, hj⟩ := Int.eq_ofNat_of_zero_le g1
    have hjl : j < sgns.length := by
      have : sgns.length = 58 := by decide +kernel
      omega
    have hat : atI (SX.S sgns).cps.toList (q % 58) = some sgns[j] := by
      rw [hj, S_toList]
      exact atI_nat (List.getElem?_eq_getElem hjl)
    refine ⟨[sgns[j]], ?_, .inl ⟨_, rfl, sgns_bad _ (List.getElem_mem hjl)⟩, by simp⟩
    have hS : SX.S [sgns[j]] = (⟨#[sgns[j]]⟩ : Str) := rfl
    rw [hS]
    generalize sgns[j] = z at *
    have hS16 : (SX.S sgns).length ≤ 16777216 := by omega
    have hlI : ((SX.S sgns).length : Int) = 58 := by omega
    have hb := sgns_eq
    clear hlen
    generalize SX.S sgns = SG at *
    simp [fn_law_bad_by, b_law_bad_by, p20, hq, m, hb, hlI, hat, hS16]
  · obtain ⟨k, hk⟩ : ∃ k : Nat, 60 + q / 2 % 30 = (k : Int) := ⟨(60 + q / 2 % 30).toNat, by omega⟩
    obtain ⟨w, g1, g2, g3⟩ := figures_ok q k hqb (by omega)
    have hs := S_app [55] w
    refine ⟨[55] ++ w, ?_, .inr ⟨by simp, fun d hd => (List.mem_append.mp hd).elim (fun z => by rw [List.mem_singleton.mp z]; exact mem_fig.mpr (by omega)) (g3 d), .inl (by simp; omega)⟩, by simp; omega⟩
    rw [← hs]
    have l1 : (SX.S [55]).length + (SX.S w).length ≤ 16777216 := by rw [SX.S_len, SX.S_len]; simp; omega
    generalize SX.S w = L at *
    generalize hS7 : SX.S [55] = S7 at *
    simp [fn_law_bad_by, b_law_bad_by, p20, hq, m, seven_S, hS7, hk, g1, l1]
  · obtain ⟨k, hk⟩ : ∃ k : Nat, 1 + q / 2 % 9 = (k : Int) := ⟨(1 + q / 2 % 9).toNat, by omega⟩
    obtain ⟨w, g1, g2, g3⟩ := figures_ok q k hqb (by omega)
    have hs := S_app [48] w
    refine ⟨[48] ++ w, ?_, .inr ⟨by simp, fun d hd => (List.mem_append.mp hd).elim (fun z => by rw [List.mem_singleton.mp z]; exact mem_fig.mpr (by omega)) (g3 d), .inr ⟨by simp; omega, rfl⟩⟩, by simp; omega⟩
    rw [← hs]
    have l1 : (SX.S [48]).length + (SX.S w).length ≤ 16777216 := by rw [SX.S_len, SX.S_len]; simp; omega
    generalize SX.S w = L at *
    generalize hS7 : SX.S [48] = S7 at *
    simp [fn_law_bad_by, b_law_bad_by, p20, hq, m, zero_S, hS7, hk, g1, l1]
end DL
namespace DL
open PySem PySem.Spec PyProof.Rows L2
noncomputable section
def asks : List (Str × Fn) := [("words", fn_words), ("read_chart", fn_read_chart), ("read_net", fn_read_net)]
def rfK : Stm := (sKeep 3 2 [] ["NoChart", "NoNet", "NoText"] [] (sSeq (sExpr (eAsk 0 (.fin [.plc 1 (pVar 1)]) [.b] asks))
  sNop) (hTab [("NoChart", (sSeq (sIf (hOr (hNot (hB (hIsE 2 "NoChart" false))) (hNot (hB (hIsE 2 "NoChart" true)))) (sSeq (sRet (eP (hC (.bl false))))
  sNop) sNop)
  (sSeq (sIf (hOr (hB (hIsE 2 "NoChart" true)) (hOr (hB (hIsE 2 "NoChart" false)) (hB (hIsE 2 "NoChart" false)))) (sSeq (sRet (eP (hC (.bl false))))
  sNop) sNop)
  (sSeq (sIf (hOr (hB (hIsE 2 "NoChart" false)) (hOr (hB (hIsE 2 "NoChart" false)) (hB (hIsE 2 "NoChart" false)))) (sSeq (sRet (eP (hC (.bl false))))
  sNop) sNop)
  (sSeq (sRet (eP (hNotV (hIsE 2 "NoChart" false))))
  sNop))))), ("NoNet", (sSeq (sIf (hOr (hNot (hB (hIsE 2 "NoNet" false))) (hNot (hB (hIsE 2 "NoNet" true)))) (sSeq (sRet (eP (hC (.bl false))))
  sNop) sNop)
  (sSeq (sIf (hOr (hB (hIsE 2 "NoNet" false)) (hOr (hB (hIsE 2 "NoNet" true)) (hB (hIsE 2 "NoNet" false)))) (sSeq (sRet (eP (hC (.bl false))))
  sNop) sNop)
  (sSeq (sIf (hOr (hB (hIsE 2 "NoNet" false)) (hOr (hB (hIsE 2 "NoNet" false)) (hB (hIsE 2 "NoNet" false)))) (sSeq (sRet (eP (hC (.bl false))))
  sNop) sNop)
  (sSeq (sRet (eP (hNotV (hIsE 2 "NoNet" false))))
  sNop))))), ("NoText", (sSeq (sIf (hOr (hNot (hB (hIsE 2 "NoText" true))) (hNot (hB (hIsE 2 "NoText" true)))) (sSeq (sRet (eP (hC (.bl false))))
  sNop) sNop)
  (sSeq (sIf (hOr (hB (hIsE 2 "NoText" false)) (hOr (hB (hIsE 2 "NoText" false)) (hB (hIsE 2 "NoText" false)))) (sSeq (sRet (eP (hC (.bl false))))
  sNop) sNop)
  (sSeq (sIf (hOr (hB (hIsE 2 "NoText" false)) (hOr (hB (hIsE 2 "NoText" false)) (hB (hIsE 2 "NoText" false)))) (sSeq (sRet (eP (hC (.bl false))))
  sNop) sNop)
  (sSeq (sRet (eP (hNotV (hIsE 2 "NoText" false))))
  sNop)))))]))
theorem rf_eq : b_law_refused = (sSeq (sSet 2 (eP (hC .non))) rfK) := rfl
theorem ref_ok {x : Str} {F : Fn} {d : D} (hx : asks.lookup x = some F) (hf : F [d] = .exc "NoText") : fn_law_refused [.fn x, d] = .ok (.bl true, []) := by
  have hh : hold [] [some (.brw, .fn x), some (.brw, d), some (.own, .non), none] = [some (.brw, .fn x), some (.brw, d), some (.own, .non), none] := by
    simp [hold, hold1, List.mapIdx_cons]
  have hk : onlyK [] [some (.brw, .fn x), some (.brw, d), some (.own, .non), none] = [none, none, none, none] := by
    simp [onlyK, kpB, List.mapIdx_cons]
  have n1 : ¬ (Str.ofString "NoText" = Str.ofString "NoChart") := by decide +kernel
  have n2 : ¬ (Str.ofString "NoText" = Str.ofString "NoNet") := by decide +kernel
  have ha : eAsk 0 (.fin [.plc 1 (pVar 1)]) [.b] asks [some (.brw, .fn x), some (.brw, d), some (.own, .non), none] = .exc "NoText" := by
    unfold eAsk
    simp only [List.getElem?_cons_zero, hx]
    simp [hf, show Pm.b.own = false from rfl]
  simp [fn_law_refused, rf_eq, rfK, ha, hh, hk, hTab, n1, n2, noIoS, kpB, noEs, D.noE, show Pm.b.own = false from rfl]
end
end DL
namespace DL
open PySem PySem.Spec PyProof.Rows L2
noncomputable section
section
variable {s : Str} {xs ys : List D}
@[simp] theorem z_join1 : fJoin s (.lst xs) = (D.strs xs).bind fun ys => iff? ((ys.map (·.length)).sum + ys.length * s.length ≤ 16777216) (.str (Txt.join s ys)) := rfl
@[simp] theorem z_catll : fCatLL (.lst xs) (.lst ys) = iff? (D.pureL xs = true ∧ D.pureL ys = true ∧ xs.length + ys.length ≤ 16777216) (.lst (xs ++ ys)) := rfl
end
/-- words, a blank between two -/
def jn : List (List Nat) → List Nat
  | [] => []
  | [w] => w
  | w :: v :: ws => w ++ 32 :: jn (v :: ws)
theorem join_eq (sep : Str) (ws : List Str) : Txt.join sep ws = Str.join sep ws := StrLaws.glued_eq_join sep ws
theorem join_S : ∀ ws : List (List Nat), Txt.join " " (ws.map SX.S) = SX.S (jn ws)
  | [] => by
    show ("" : Str) = _
    rw [nil_eq]; rfl
  | [w] => rfl
  | w :: v :: ws => by
    have ih := join_S (v :: ws)
    have : Txt.join " " ((w :: v :: ws).map SX.S) = SX.S w ++ " " ++ Txt.join " " ((v :: ws).map SX.S) := by
      rw [join_eq, join_eq]; rfl
    rw [this, ih, blank_eq, S_app, S_app]
    show SX.S (w ++ [32] ++ jn (v :: ws)) = SX.S (w ++ 32 :: jn (v :: ws))
    simp
theorem jn_tx : ∀ (ws : List (List Nat)) (b : List Nat) (us : List (List Nat)), jn (ws ++ b :: us) = tx ws (b ++ (match us with
    | [] => []
    | _ => 32 :: jn us))
  | [], b, [] => by simp [jn, tx]
  | [], b, u :: us => by
    show b ++ 32 :: jn (u :: us) = b ++ 32 :: jn (u :: us)
    rfl
  | [w], b, us => by
    have := jn_tx [] b us
    show w ++ 32 :: jn (b :: us) = w ++ 32 :: tx [] _
    rw [← this]; rfl
  | w :: v :: ws, b, us => by
    have := jn_tx (v :: ws) b us
    show w ++ 32 :: jn (v :: ws ++ b :: us) = w ++ 32 :: tx (v :: ws) _
    rw [← this]
theorem jn_txt : ∀ (w : List Nat) (ws : List (List Nat)), jn (w :: ws) = txt ((0, w) :: ws.map fun v => (1, v)) 0
  | w, [] => by simp [jn, txt]
  | w, v :: ws => by
    have ih := jn_txt v ws
    show w ++ 32 :: jn (v :: ws) = _
    rw [ih]
    simp [txt]
theorem jn_len {k : Nat} : ∀ ws : List (List Nat), (∀ w ∈ ws, w.length ≤ k) → (jn ws).length ≤ ws.length * (k + 1)
  | [], _ => by simp [jn]
  | [w], h => by
    have := h w List.mem_cons_self
    simp [jn]; omega
  | w :: v :: ws, h => by
    have ih := jn_len (v :: ws) fun x hx => h x (List.mem_cons_of_mem _ hx)
    have := h w List.mem_cons_self
    show (w ++ 32 :: jn (v :: ws)).length ≤ _
    rw [List.length_append, List.length_cons, List.length_cons, Nat.add_mul, Nat.one_mul]
    omega
theorem strs_S : ∀ ws : List (List Nat), D.strs (ws.map fun w => D.str (SX.S w)) = some (ws.map SX.S)
  | [] => rfl
  | w :: ws => by
    show (D.strs (ws.map fun w => D.str (SX.S w))).map (SX.S w :: ·) = _
    rw [strs_S ws]; rfl
theorem sum_leS {k : Nat} : ∀ ws : List (List Nat), (∀ w ∈ ws, w.length ≤ k) → ((ws.map SX.S).map (·.length)).sum ≤ ws.length * k
  | [], _ => by simp
  | w :: ws, h => by
    have ih := sum_leS ws fun x hx => h x (List.mem_cons_of_mem _ hx)
    have := h w List.mem_cons_self
    rw [List.map_cons, List.map_cons, List.sum_cons, List.length_cons, Nat.add_mul, Nat.one_mul, SX.S_len]
    omega
theorem join_ok {ws : List (List Nat)} (h : ∀ w ∈ ws, w.length ≤ 200) (hl : ws.length ≤ 100) : fJoin " " (.lst (ws.map fun w => D.str (SX.S w))) = some (.str (SX.S (jn ws))) := by
  have h1 := sum_leS ws h
  have h2 : ws.length * 200 ≤ 100 * 200 := Nat.mul_le_mul_right _ hl
  have h3 : ((" " : Str)).length = 1 := by decide +kernel
  rw [z_join1, strs_S, Option.bind_some, iff?_pos (by rw [h3, List.length_map]; omega), join_S]
theorem words_row {ws : List (List Nat)} (h : ∀ w ∈ ws, WOk w) (hl : ws.length ≤ 100) : fn_words [.str (SX.S (jn ws))] = .ok (.lst (ws.map fun w => D.str (SX.S w)), []) := by
  cases ws with
  | nil =>
    exact words_ok (ps := []) (t := 0) (by simp [txt]) trivial (fun p hp => by cases hp) (by simp)
  | cons w ws =>
    rw [jn_txt]
    have hlen : (txt ((0, w) :: ws.map fun v => (1, v)) 0).length ≤ 100000 := by
      rw [← jn_txt]
      have := jn_len (k := 60) (w :: ws) fun x hx => (h x hx).1
      have h2 : (w :: ws).length * 61 ≤ 100 * 61 := Nat.mul_le_mul_right _ hl
      omega
    have hs : ∀ (p : Pc) (l : List (List Nat)), Sp (p :: l.map fun v => (1, v)) := fun p l => by
      induction l generalizing p with
      | nil => trivial
      | cons v l ih => exact ⟨fun z => (by cases z), ih (1, v)⟩
    have := words_ok (ps := (0, w) :: ws.map fun v => (1, v)) (t := 0) hlen (hs _ _) (fun p hp => by
      rcases List.mem_cons.mp hp with rfl | hp
      · exact h w List.mem_cons_self
      · obtain ⟨v, hv, rfl⟩ := List.mem_map.mp hp
        exact h v (List.mem_cons_of_mem _ hv)) (by rw [List.length_cons, List.length_map]; rw [List.length_cons] at hl; omega)
    rw [this]
    congr 3
    rw [List.map_cons, List.map_cons, List.map_map]
    rfl
end
end DL
namespace DL
open PySem PySem.Spec PyProof.Rows L2
noncomputable section
def y1 : Stm := (sSet 1 (lcE [.own (eOp (.fin [.plc 0 (pVar 0), .int (hC (.int 3)), .int (hC (.int 15))]) (sl2 fSlL))] mkSeq (bName 5) eYes (eK (.fin [.pur (hVar 5)]) (callK [.b] fn_law_word_by)) [5]))
def y2 : Stm := (sSet 2 (eOp (.own (eK (.fin [.plc 0 (pVar 0), .pur (hC (.int 0))]) (callK [.b, .b] fn_law_cell_at)) (.fin [.pur (hOp [.pur (hOp [.plc 1 (pUn (pVar 1))] gLen), .pur (hC (.int 1))] gAdd)])) gMod))
def y3 : Stm := (sSet 3 (eOp (.own (eOp (.own (eOp (.own (eOp (.fin [.plc 1 (pUn (pVar 1)), .int (hVar 2)]) (slH fSlL)) (.own (eK (.own (eK (.own (eK (.fin [.plc 0 (pVar 0), .pur (hC (.int 1))]) (callK [.b, .b] fn_law_cell_at)) (.fin [])) (callK [.b] fn_law_bad_by)) (.fin [])) (dspK .lst)) (.fin []))) gCatLL) (.own (eOp (.fin [.plc 1 (pUn (pVar 1)), .int (hVar 2)]) (slL fSlL)) (.fin []))) gCatLL) (.fin [])) (gJoin " ")))
def y4 : Stm := (sIfE (eB (eOp (.own (eOp (.own (eK (.fin [.plc 0 (pVar 0), .pur (hC (.int 2))]) (callK [.b, .b] fn_law_cell_at)) (.fin [.pur (hC (.int 5))])) gMod) (.fin [.pur (hC (.int 1))])) gEq)) (sSeq (sSet 4 (eOp (.own (eK (.fin [.plc 0 (pVar 0), .pur (hC (.int 2))]) (callK [.b, .b] fn_law_cell_at)) (.fin [.pur (hOp [.pur (hC (.int 10)), .pur (hC (.int 9))] gPow)])) gMod))
  (sSeq (sSet 3 (eK (.own (eK (.pur (hC .non) (.pur (hVar 4) (.pur (hC (.bl true)) (.pur (hVar 1) (.pur (hOp [.pur (hC (.str "moves"))] fTup) (.own (eOp (.fin []) (gOne (.inr "moves") (.str "a"))) (.fin []))))))) (dspK .lst)) (.fin [.pur (hOp [.pur (hOp [.pur (hVar 4), .pur (hC (.int 5))] gDiv), .pur (hC (.int 6))] gMod)])) takeL))
  sNop)) sNop)
def y5 : Stm := (sIfE (eOr (eNot (eB (eK (.fin [.pur (hC (.fn "words")), .plc 3 (pVar 3)]) (callK [.b, .b] fn_law_refused)))) (eOr (eNot (eB (eK (.fin [.pur (hC (.fn "read_chart")), .plc 3 (pVar 3)]) (callK [.b, .b] fn_law_refused)))) (eNot (eB (eK (.fin [.pur (hC (.fn "read_net")), .plc 3 (pVar 3)]) (callK [.b, .b] fn_law_refused)))))) (sSeq (sRet (eP (hC (.bl false))))
  sNop) sNop)
def y6 : Stm := (sRet (eOp (.own (eK (.own (eOp (.fin [.plc 1 (pUn (pVar 1))]) (gJoin " ")) (.fin [])) (callK [.b] fn_words)) (.fin [.plc 1 (pUn (pVar 1))])) gEq))
theorem law_eq : b_law = (sSeq y1 (sScp (borO 1) (sSeq y2 (sSeq y3 (sSeq y4 (sSeq y5 (sSeq y6 sNop))))))) := rfl
@[simp] theorem z_pbor {d : D} : D.pure (.bor d) = true := rfl
theorem seq_nxG {f g : Stm} {env e : DEnv} (h : f env = .ok (.nx e)) : sSeq f g env = g e := by
  rw [z_seq, h]; rfl
theorem seq_rtG {f g : Stm} {env e : DEnv} {d : D} (h : f env = .ok (.rt d e)) : sSeq f g env = .ok (.rt d e) := by
  rw [z_seq, h]; rfl
abbrev rD (rs : List (List Nat)) : D := .lst (rs.map fun w => .str (SX.S w))
theorem y1_ok (ns : List Int) : ∃ rs : List (List Nat), rs.length ≤ 12 ∧ (∀ w ∈ rs, WOk w) ∧ y1 [some (.brw, .scr ns), none, none, none, none, none] = .ok (.nx [some (.brw, .scr ns), some (.own, rD rs), none, none, none, none]) := by
  obtain ⟨rs, u, h1, h2, _, h4⟩ := lcG_ex (bd := bName 5) (cl := [5]) (elt := (eK (.fin [.pur (hVar 5)]) (callK [.b] fn_law_word_by))) (γ := List Nat) (st := fun _ : Unit => [some (.brw, .scr ns), none, none, none, none, none]) (φ := D.int) (ω := fun w => D.str (SX.S w)) (R := WOk) (I := fun _ => True) ((ns.take 15).drop 3) () trivial fun a x hx _ => by
    obtain ⟨w, e1, e2⟩ := wby_ok x
    refine ⟨w, (), e2, trivial, ?_⟩
    simp [e1]
  have hl : rs.length ≤ 12 := by rw [h1, List.length_drop, List.length_take]; omega
  refine ⟨rs, hl, h2, ?_⟩
  have hcut : cutD (ns.map D.int) (some 3) (some 15) = ((ns.take 15).drop 3).map D.int := by
    have := cutD_mid (ns.map D.int) 3 15
    rw [← List.map_take, ← List.map_drop] at this
    exact this
  have hlc : (((ns.take 15).drop 3).map D.int).length < 16777216 := by rw [List.length_map, List.length_drop, List.length_take]; omega
  generalize ((ns.take 15).drop 3).map D.int = CD at *
  dsimp only [rD]
  generalize (rs.map fun w => D.str (SX.S w)) = RD at *
  unfold y1
  simp [hcut, h4, hlc]
theorem row_pure (rs : List (List Nat)) : D.pureL (rs.map fun w => D.str (SX.S w)) = true := pureL_map (fun _ => rfl) rs
theorem y4_ok {ns : List Int} {rs : List (List Nat)} {k : Nat} {l : List Nat} (h : fn_words [.str (SX.S l)] = .exc "NoText") : ∃ (d : D) (s4 : Slot), fn_words [d] = .exc "NoText" ∧ (s4 = none ∨ ∃ q : Int, s4 = some (.own, .int q)) ∧ y4 [some (.brw, .scr ns), some (.own, .bor (rD rs)), some (.own, .int k), some (.own, .str (SX.S l)), none, none] = .ok (.nx [some (.brw, .scr ns), some (.own, .bor (rD rs)), some (.own, .int k), some (.own, d), s4, none]) := by
  have c2 := cell_ok ns 2 (by decide)
  generalize cv ns (2 : Int).toNat = x2 at c2
  by_cases h5 : x2 % 5 = 1
  · have p9 := p10_9
    obtain ⟨q, hq⟩ : ∃ q : Int, x2 % 1000000000 = q := ⟨_, rfl⟩
    have key : ∃ d, atI [D.non, .int q, .bl true, .bor (rD rs), .tup [.str "moves"], .dk [.inr "moves"] [.str "a"]] (q / 5 % 6) = some d ∧ fn_words [d] = .exc "NoText" := by
      have k6 : q / 5 % 6 = 0 ∨ q / 5 % 6 = 1 ∨ q / 5 % 6 = 2 ∨ q / 5 % 6 = 3 ∨ q / 5 % 6 = 4 ∨ q / 5 % 6 = 5 := by omega
      rcases k6 with e | e | e | e | e | e <;> rw [e]
      · exact ⟨_, rfl, words_no (t := "NoneType") rfl (by decide +kernel)⟩
      · exact ⟨_, rfl, words_no (t := "int") rfl (by decide +kernel)⟩
      · exact ⟨_, rfl, words_no (t := "bool") rfl (by decide +kernel)⟩
      · exact ⟨_, rfl, words_no (t := "list") rfl (by decide +kernel)⟩
      · exact ⟨_, rfl, words_no (t := "tuple") rfl (by decide +kernel)⟩
      · exact ⟨_, rfl, words_no (t := "dict") rfl (by decide +kernel)⟩
    obtain ⟨d, hat, hd⟩ := key
    refine ⟨d, some (.own, .int q), hd, .inr ⟨q, rfl⟩, ?_⟩
    generalize rD rs = RR at *
    generalize SX.S l = L at *
    unfold y4
    simp [c2, h5, p9, hq, hat]
  · refine ⟨_, none, h, .inl rfl, ?_⟩
    generalize rD rs = RR at *
    generalize SX.S l = L at *
    unfold y4
    simp [c2, h5]
theorem ask_w : asks.lookup ("words" : Str) = some fn_words := by
  unfold asks
  rw [List.lookup_cons, show (("words" : Str) == "words") = true by decide +kernel]
theorem ask_c : asks.lookup ("read_chart" : Str) = some fn_read_chart := by
  unfold asks
  rw [List.lookup_cons, show (("read_chart" : Str) == "words") = false by decide +kernel]
  simp only
  rw [List.lookup_cons, show (("read_chart" : Str) == "read_chart") = true by decide +kernel]
theorem ask_n : asks.lookup ("read_net" : Str) = some fn_read_net := by
  unfold asks
  rw [List.lookup_cons, show (("read_net" : Str) == "words") = false by decide +kernel]
  simp only
  rw [List.lookup_cons, show (("read_net" : Str) == "read_chart") = false by decide +kernel]
  simp only
  rw [List.lookup_cons, show (("read_net" : Str) == "read_net") = true by decide +kernel]
theorem y5_ok {ns : List Int} {rs : List (List Nat)} {k : Nat} {s4 : Slot} {d : D} (h : fn_words [d] = .exc "NoText") (h4 : s4 = none ∨ ∃ q : Int, s4 = some (.own, .int q)) : y5 [some (.brw, .scr ns), some (.own, .bor (rD rs)), some (.own, .int k), some (.own, d), s4, none] = .ok (.nx [some (.brw, .scr ns), some (.own, .bor (rD rs)), some (.own, .int k), some (.own, d), s4, none]) := by
  have r1 := ref_ok ask_w h
  have r2 := ref_ok ask_c (chart_no h)
  have r3 := ref_ok ask_n (net_no h)
  generalize rD rs = RR at *
  unfold y5
  rcases h4 with rfl | ⟨q, rfl⟩
  · simp [r1, r2, r3]
  · simp [r1, r2, r3]
theorem y6_ok {ns : List Int} {rs : List (List Nat)} {k : Nat} {s4 : Slot} {d : D} (hw : ∀ w ∈ rs, WOk w) (hl : rs.length ≤ 12) (h4 : s4 = none ∨ ∃ q : Int, s4 = some (.own, .int q)) : y6 [some (.brw, .scr ns), some (.own, .bor (rD rs)), some (.own, .int k), some (.own, d), s4, none] = .ok (.rt (.bl true) [some (.brw, .scr ns), some (.own, .bor (rD rs)), some (.own, .int k), some (.own, d), s4, none]) := by
  have j := join_ok (ws := rs) (fun w hx => by have := (hw w hx).1; omega) (by omega)
  have r := words_row hw (by omega)
  have e : gEqB (rD rs) (rD rs) = some true := Lay.same (n := 2) (Lay.lst fun x hx => by
    obtain ⟨w, hm, rfl⟩ := List.mem_map.mp hx
    exact Lay.str (okS (wok_small (hw w hm)))) (by decide)
  dsimp only [rD] at *
  generalize (rs.map fun w => D.str (SX.S w)) = RD at *
  generalize SX.S (jn rs) = J at *
  have hu : unb (.bor (.lst RD)) = .lst RD := rfl
  have j' : gJoin " " [.lst RD] = some (.str J) := j
  unfold y6
  rcases h4 with rfl | ⟨q, rfl⟩
  · simp [hu, j, r, e]
  · simp [hu, j, r, e]
theorem y2_ok (ns : List Int) (rs : List (List Nat)) (hl : rs.length ≤ 12) : ∃ k : Nat, k ≤ rs.length ∧ y2 [some (.brw, .scr ns), some (.own, .bor (rD rs)), none, none, none, none] = .ok (.nx [some (.brw, .scr ns), some (.own, .bor (rD rs)), some (.own, .int k), none, none, none]) := by
  have c0 := cell_ok ns 0 (by decide)
  generalize cv ns (0 : Int).toNat = x0 at c0
  have g1 := Int.emod_nonneg x0 (show ((rs.length : Int) + 1) ≠ 0 by omega)
  have g2 := Int.emod_lt_of_pos x0 (show (0 : Int) < (rs.length : Int) + 1 by omega)
  obtain ⟨k, hk⟩ := Int.eq_ofNat_of_zero_le g1
  refine ⟨k, by omega, ?_⟩
  have lr : ((rs.map fun w => D.str (SX.S w)).length : Int) = (rs.length : Int) := by rw [List.length_map]
  have n1 : ¬ ((rs.length : Int) + 1 = 0) := by omega
  have n2 : 0 < (rs.length : Int) + 1 := by omega
  have n3 : ((rs.length : Int) + 1).natAbs.log2 < 9000 := by
    have : Bd 10 ((rs.length : Int) + 1) := by unfold Bd; omega
    exact Nat.lt_trans (this.log (by decide)) (by decide)
  dsimp only [rD]
  have hu : ∀ x : List D, unb (.bor (.lst x)) = .lst x := fun x => rfl
  generalize (rs.map fun w => D.str (SX.S w)) = RD at *
  unfold y2
  simp [hu, c0, lr, n1, n2, n3, hk]
theorem y3_ok (ns : List Int) {rs : List (List Nat)} (hw : ∀ w ∈ rs, WOk w) (hl : rs.length ≤ 12) {k : Nat} (hk : k ≤ rs.length) : ∃ l : List Nat, fn_words [.str (SX.S l)] = .exc "NoText" ∧ y3 [some (.brw, .scr ns), some (.own, .bor (rD rs)), some (.own, .int k), none, none, none] = .ok (.nx [some (.brw, .scr ns), some (.own, .bor (rD rs)), some (.own, .int k), some (.own, .str (SX.S l)), none, none]) := by
  have c1 := cell_ok ns 1 (by decide)
  generalize cv ns (1 : Int).toNat = x1 at c1
  obtain ⟨b, hb, hB, hbl⟩ := bad_ok x1
  have hall : ∀ w ∈ rs.take k ++ b :: rs.drop k, w.length ≤ 200 := fun w hx => by
    rcases List.mem_append.mp hx with h | h
    · have := (hw w (List.mem_of_mem_take h)).1; omega
    · rcases List.mem_cons.mp h with rfl | h
      · exact hbl
      · have := (hw w (List.mem_of_mem_drop h)).1; omega
  have hlen : (rs.take k ++ b :: rs.drop k).length ≤ 100 := by
    rw [List.length_append, List.length_cons, List.length_take, List.length_drop]; omega
  have hj := join_ok hall hlen
  have hjl := jn_len (k := 200) _ hall
  have hjl2 : (rs.take k ++ b :: rs.drop k).length * 201 ≤ 100 * 201 := Nat.mul_le_mul_right _ hlen
  refine ⟨jn (rs.take k ++ b :: rs.drop k), ?_, ?_⟩
  · rw [jn_tx] at hjl ⊢
    refine words_bad hB (fun c hc => ?_) (fun w hx => hw w (List.mem_of_mem_take hx)) (by rw [List.length_take]; omega) (by omega)
    cases hd : rs.drop k with
    | nil => rw [hd] at hc; cases hc
    | cons u us => rw [hd] at hc; cases hc; exact not32.2
  · have e1 : (rs.take k ++ b :: rs.drop k).map (fun w => D.str (SX.S w)) = (rs.map fun w => D.str (SX.S w)).take k ++ (D.str (SX.S b) :: (rs.map fun w => D.str (SX.S w)).drop k) := by
      rw [List.map_append, List.map_cons, List.map_take, List.map_drop]
    rw [e1] at hj
    have t1 := cutD_take' (rs.map fun w => D.str (SX.S w)) k
    have t2 := cutD_drop' (rs.map fun w => D.str (SX.S w)) k
    have hp := row_pure rs
    have p1 : D.pureL ((rs.map fun w => D.str (SX.S w)).take k) = true := D.pureL_take _ _ hp
    have p2 : D.pureL ((rs.map fun w => D.str (SX.S w)).drop k) = true := D.pureL_drop _ _ hp
    have p3 : D.pureL ((rs.map fun w => D.str (SX.S w)).take k ++ [D.str (SX.S b)]) = true := by
      have := row_pure (rs.take k ++ [b])
      rw [List.map_append, List.map_take] at this
      exact this
    have l1 : ((rs.map fun w => D.str (SX.S w)).take k).length ≤ 12 := by rw [List.length_take, List.length_map]; omega
    have l2 : ((rs.map fun w => D.str (SX.S w)).drop k).length ≤ 12 := by rw [List.length_drop, List.length_map]; omega
    dsimp only [rD]
    have hu : ∀ x : List D, unb (.bor (.lst x)) = .lst x := fun x => rfl
    generalize SX.S (jn (rs.take k ++ b :: rs.drop k)) = J at *
    clear e1 hjl hjl2 hall hlen
    generalize (rs.map fun w => D.str (SX.S w)) = RD at *
    generalize RD.take k = R1 at *
    generalize RD.drop k = R2 at *
    generalize SX.S b = SB at *
    have g1 : R1.length + 1 ≤ 16777216 := by omega
    have g2 : R1.length + 1 + R2.length ≤ 16777216 := by omega
    rw [z_join1] at hj
    unfold y3
    simp [hu, c1, hb, t1, t2, hp, p1, p2, p3, g1, g2, hj]
theorem law_true (ns : List Int) (hl : ns.length ≤ 63) (hb : ∀ z ∈ ns, Builtin.Int.intBits z ≤ 1048576) : fn_law [.scr ns] = .ok (.bl true, []) := by
  obtain ⟨rs, r1, r2, s1⟩ := y1_ok ns
  obtain ⟨k, k1, s2⟩ := y2_ok ns rs r1
  obtain ⟨l, l1, s3⟩ := y3_ok ns r2 r1 k1
  obtain ⟨d, s4, d1, d2, s4'⟩ := y4_ok (ns := ns) (rs := rs) (k := k) l1
  have s5 := y5_ok (ns := ns) (rs := rs) (k := k) d1 d2
  have s6 := y6_ok (ns := ns) (k := k) (d := d) r2 r1 d2
  have hin : (sSeq y2 (sSeq y3 (sSeq y4 (sSeq y5 (sSeq y6 sNop))))) [some (.brw, .scr ns), some (.own, .bor (rD rs)), none, none, none, none] = .ok (.rt (.bl true) [some (.brw, .scr ns), some (.own, .bor (rD rs)), some (.own, .int k), some (.own, d), s4, none]) := by
    rw [seq_nxG s2, seq_nxG s3, seq_nxG s4', seq_nxG s5, seq_rtG s6]
  have hlaw : ∃ e, b_law [some (.brw, .scr ns), none, none, none, none, none] = .ok (.rt (.bl true) e) := by
    rw [law_eq, seq_nxG s1]
    generalize sSeq y2 (sSeq y3 (sSeq y4 (sSeq y5 (sSeq y6 sNop)))) = B at *
    have hn : (rD rs).isNon = false := rfl
    generalize rD rs = RR at *
    rcases d2 with rfl | ⟨q, rfl⟩
    · simp [hin, hn, show (D.bl true).nob = true from rfl]
    · simp [hin, hn, show (D.bl true).nob = true from rfl]
  obtain ⟨e, hb⟩ := hlaw
  have hr : fn_law [.scr ns] = (b_law [some (.brw, .scr ns), none, none, none, none, none] >>= fun fl => match fl with
      | .nx e => must (outsFrom [.b] 0 e) fun o => .ok (.non, o)
      | .rt d e => must (outsFrom [.b] 0 e) fun o => .ok (d, o)
      | _ => .bad) := rfl
  rw [hr, hb]
  rfl
end
end DL
namespace DL
open PySem PySem.Spec PyProof.Rows L2
noncomputable section
def topS (i : Nat) : Stmt := PySem.Challenge.pw_netfinder_k02_no_words.main.body.getD i (.Pass ⟨0, 0, 0, 0⟩)
abbrev s_run_end : Stmt := topS 13
abbrev N_run_end : List Str := ["text", "start", "signs", "end"]
abbrev P_run_end : List Str := ["text", "start", "signs"]
theorem sc_run_end : FnScope N_run_end P_run_end (defScope s_run_end) := ⟨rfl, rfl, rfl, by decide +kernel, rfl, by decide +kernel, by decide +kernel⟩
abbrev s_word_end : Stmt := topS 14
abbrev N_word_end : List Str := ["text", "start", "end"]
abbrev P_word_end : List Str := ["text", "start"]
theorem sc_word_end : FnScope N_word_end P_word_end (defScope s_word_end) := ⟨rfl, rfl, rfl, by decide +kernel, rfl, by decide +kernel, by decide +kernel⟩
abbrev s_words : Stmt := topS 15
abbrev N_words : List Str := ["text", "found", "here", "end"]
abbrev P_words : List Str := ["text"]
theorem sc_words : FnScope N_words P_words (defScope s_words) := ⟨rfl, rfl, rfl, by decide +kernel, rfl, by decide +kernel, by decide +kernel⟩
abbrev s_is_name : Stmt := topS 16
abbrev N_is_name : List Str := ["word"]
abbrev P_is_name : List Str := ["word"]
theorem sc_is_name : FnScope N_is_name P_is_name (defScope s_is_name) := ⟨rfl, rfl, rfl, by decide +kernel, rfl, by decide +kernel, by decide +kernel⟩
abbrev s_is_number : Stmt := topS 17
abbrev N_is_number : List Str := ["word"]
abbrev P_is_number : List Str := ["word"]
theorem sc_is_number : FnScope N_is_number P_is_number (defScope s_is_number) := ⟨rfl, rfl, rfl, by decide +kernel, rfl, by decide +kernel, by decide +kernel⟩
abbrev s_parts_between : Stmt := topS 18
abbrev N_parts_between : List Str := ["row", "parts", "word"]
abbrev P_parts_between : List Str := ["row"]
theorem sc_parts_between : FnScope N_parts_between P_parts_between (defScope s_parts_between) := ⟨rfl, rfl, rfl, by decide +kernel, rfl, by decide +kernel, by decide +kernel⟩
abbrev s_moves_by : Stmt := topS 19
abbrev N_moves_by : List Str := ["part", "word"]
abbrev P_moves_by : List Str := ["part"]
theorem sc_moves_by : FnScope N_moves_by P_moves_by (defScope s_moves_by) := ⟨rfl, rfl, rfl, by decide +kernel, rfl, by decide +kernel, by decide +kernel⟩
abbrev s_states_of : Stmt := topS 21
abbrev N_states_of : List Str := ["chart", "most", "one", "move", "other"]
abbrev P_states_of : List Str := ["chart"]
theorem sc_states_of : FnScope N_states_of P_states_of (defScope s_states_of) := ⟨rfl, rfl, rfl, by decide +kernel, rfl, by decide +kernel, by decide +kernel⟩
abbrev s_states_come_to : Stmt := topS 22
abbrev N_states_come_to : List Str := ["arcs", "there", "todo", "state", "one", "move", "other"]
abbrev P_states_come_to : List Str := ["arcs"]
theorem sc_states_come_to : FnScope N_states_come_to P_states_come_to (defScope s_states_come_to) := ⟨rfl, rfl, rfl, by decide +kernel, rfl, by decide +kernel, by decide +kernel⟩
abbrev s_is_move_name : Stmt := topS 23
abbrev N_is_move_name : List Str := ["text", "letters", "sign"]
abbrev P_is_move_name : List Str := ["text"]
theorem sc_is_move_name : FnScope N_is_move_name P_is_move_name (defScope s_is_move_name) := ⟨rfl, rfl, rfl, by decide +kernel, rfl, by decide +kernel, by decide +kernel⟩
abbrev s_is_rising : Stmt := topS 24
abbrev N_is_rising : List Str := ["row", "one", "other"]
abbrev P_is_rising : List Str := ["row"]
theorem sc_is_rising : FnScope N_is_rising P_is_rising (defScope s_is_rising) := ⟨rfl, rfl, rfl, by decide +kernel, rfl, by decide +kernel, by decide +kernel⟩
abbrev s_is_chart : Stmt := topS 25
abbrev N_is_chart : List Str := ["moves", "arcs", "one", "move", "other", "there", "state"]
abbrev P_is_chart : List Str := ["moves", "arcs"]
theorem sc_is_chart : FnScope N_is_chart P_is_chart (defScope s_is_chart) := ⟨rfl, rfl, rfl, by decide +kernel, rfl, by decide +kernel, by decide +kernel⟩
abbrev s_arc_by : Stmt := topS 27
abbrev N_arc_by : List Str := ["part"]
abbrev P_arc_by : List Str := ["part"]
theorem sc_arc_by : FnScope N_arc_by P_arc_by (defScope s_arc_by) := ⟨rfl, rfl, rfl, by decide +kernel, rfl, by decide +kernel, by decide +kernel⟩
abbrev s_read_chart : Stmt := topS 28
abbrev N_read_chart : List Str := ["text", "parts", "moves", "arcs", "chart", "part"]
abbrev P_read_chart : List Str := ["text"]
theorem sc_read_chart : FnScope N_read_chart P_read_chart (defScope s_read_chart) := ⟨rfl, rfl, rfl, by decide +kernel, rfl, by decide +kernel, by decide +kernel⟩
abbrev s_place_by : Stmt := topS 30
abbrev N_place_by : List Str := ["part", "told", "k"]
abbrev P_place_by : List Str := ["part"]
theorem sc_place_by : FnScope N_place_by P_place_by (defScope s_place_by) := ⟨rfl, rfl, rfl, by decide +kernel, rfl, by decide +kernel, by decide +kernel⟩
abbrev s_place_for : Stmt := topS 31
abbrev N_place_for : List Str := ["moves", "beads", "told", "takes", "gives", "name", "taken", "given", "move"]
abbrev P_place_for : List Str := ["moves", "beads", "told"]
theorem sc_place_for : FnScope N_place_for P_place_for (defScope s_place_for) := ⟨rfl, rfl, rfl, by decide +kernel, rfl, by decide +kernel, by decide +kernel⟩
abbrev s_read_net : Stmt := topS 32
abbrev N_read_net : List Str := ["text", "parts", "names", "rows", "moves", "part", "beads", "told"]
abbrev P_read_net : List Str := ["text"]
theorem sc_read_net : FnScope N_read_net P_read_net (defScope s_read_net) := ⟨rfl, rfl, rfl, by decide +kernel, rfl, by decide +kernel, by decide +kernel⟩
abbrev s_law_cell_at : Stmt := topS 34
abbrev N_law_cell_at : List Str := ["_law_script", "_law_k"]
abbrev P_law_cell_at : List Str := ["_law_script", "_law_k"]
theorem sc_law_cell_at : FnScope N_law_cell_at P_law_cell_at (defScope s_law_cell_at) := ⟨rfl, rfl, rfl, by decide +kernel, rfl, by decide +kernel, by decide +kernel⟩
abbrev s_law_word_by : Stmt := topS 35
abbrev N_law_word_by : List Str := ["_law_cell", "_law_number"]
abbrev P_law_word_by : List Str := ["_law_cell"]
theorem sc_law_word_by : FnScope N_law_word_by P_law_word_by (defScope s_law_word_by) := ⟨rfl, rfl, rfl, by decide +kernel, rfl, by decide +kernel, by decide +kernel⟩
abbrev s_law_figures : Stmt := topS 36
abbrev N_law_figures : List Str := ["_law_number", "_law_count", "_law_found", "_law_k"]
abbrev P_law_figures : List Str := ["_law_number", "_law_count"]
theorem sc_law_figures : FnScope N_law_figures P_law_figures (defScope s_law_figures) := ⟨rfl, rfl, rfl, by decide +kernel, rfl, by decide +kernel, by decide +kernel⟩
abbrev s_law_bad_by : Stmt := topS 37
abbrev N_law_bad_by : List Str := ["_law_cell", "_law_number", "_law_way", "_law_some"]
abbrev P_law_bad_by : List Str := ["_law_cell"]
theorem sc_law_bad_by : FnScope N_law_bad_by P_law_bad_by (defScope s_law_bad_by) := ⟨rfl, rfl, rfl, by decide +kernel, rfl, by decide +kernel, by decide +kernel⟩
abbrev s_law_refused : Stmt := topS 38
abbrev N_law_refused : List Str := ["_law_ask", "_law_thing", "_law_error", "e"]
abbrev P_law_refused : List Str := ["_law_ask", "_law_thing"]
theorem sc_law_refused : FnScope N_law_refused P_law_refused (defScope s_law_refused) := ⟨rfl, rfl, rfl, by decide +kernel, rfl, by decide +kernel, by decide +kernel⟩
abbrev s_law : Stmt := topS 39
abbrev N_law : List Str := ["_law_script", "_law_row", "_law_where", "_law_thing", "_law_number", "_law_cell"]
abbrev P_law : List Str := ["_law_script"]
theorem sc_law : FnScope N_law P_law (defScope s_law) := ⟨rfl, rfl, rfl, by decide +kernel, rfl, by decide +kernel, by decide +kernel⟩
set_option maxHeartbeats 0 in
/-- what the top has written -/
structure Fx (K : PySem.W.Frag) (mg : Str → Option Value) (cl : Str → Option Addr) where
  f_run_end : Addr
  d_run_end : FuncData
  F_run_end : L2.Fun K "run_end" "run_end" s_run_end f_run_end d_run_end
  b_run_end : Binds K d_run_end P_run_end []
  g_run_end : mg "run_end" = some (.ref f_run_end)
  f_word_end : Addr
  d_word_end : FuncData
  F_word_end : L2.Fun K "word_end" "word_end" s_word_end f_word_end d_word_end
  b_word_end : Binds K d_word_end P_word_end []
  g_word_end : mg "word_end" = some (.ref f_word_end)
  f_words : Addr
  d_words : FuncData
  F_words : L2.Fun K "words" "words" s_words f_words d_words
  b_words : Binds K d_words P_words []
  g_words : mg "words" = some (.ref f_words)
  f_is_name : Addr
  d_is_name : FuncData
  F_is_name : L2.Fun K "is_name" "is_name" s_is_name f_is_name d_is_name
  b_is_name : Binds K d_is_name P_is_name []
  g_is_name : mg "is_name" = some (.ref f_is_name)
  f_is_number : Addr
  d_is_number : FuncData
  F_is_number : L2.Fun K "is_number" "is_number" s_is_number f_is_number d_is_number
  b_is_number : Binds K d_is_number P_is_number []
  g_is_number : mg "is_number" = some (.ref f_is_number)
  f_parts_between : Addr
  d_parts_between : FuncData
  F_parts_between : L2.Fun K "parts_between" "parts_between" s_parts_between f_parts_between d_parts_between
  b_parts_between : Binds K d_parts_between P_parts_between []
  g_parts_between : mg "parts_between" = some (.ref f_parts_between)
  f_moves_by : Addr
  d_moves_by : FuncData
  F_moves_by : L2.Fun K "moves_by" "moves_by" s_moves_by f_moves_by d_moves_by
  b_moves_by : Binds K d_moves_by P_moves_by []
  g_moves_by : mg "moves_by" = some (.ref f_moves_by)
  f_states_of : Addr
  d_states_of : FuncData
  F_states_of : L2.Fun K "states_of" "states_of" s_states_of f_states_of d_states_of
  b_states_of : Binds K d_states_of P_states_of []
  g_states_of : mg "states_of" = some (.ref f_states_of)
  f_states_come_to : Addr
  d_states_come_to : FuncData
  F_states_come_to : L2.Fun K "states_come_to" "states_come_to" s_states_come_to f_states_come_to d_states_come_to
  b_states_come_to : Binds K d_states_come_to P_states_come_to []
  g_states_come_to : mg "states_come_to" = some (.ref f_states_come_to)
  f_is_move_name : Addr
  d_is_move_name : FuncData
  F_is_move_name : L2.Fun K "is_move_name" "is_move_name" s_is_move_name f_is_move_name d_is_move_name
  b_is_move_name : Binds K d_is_move_name P_is_move_name []
  g_is_move_name : mg "is_move_name" = some (.ref f_is_move_name)
  f_is_rising : Addr
  d_is_rising : FuncData
  F_is_rising : L2.Fun K "is_rising" "is_rising" s_is_rising f_is_rising d_is_rising
  b_is_rising : Binds K d_is_rising P_is_rising []
  g_is_rising : mg "is_rising" = some (.ref f_is_rising)
  f_is_chart : Addr
  d_is_chart : FuncData
  F_is_chart : L2.Fun K "is_chart" "is_chart" s_is_chart f_is_chart d_is_chart
  b_is_chart : Binds K d_is_chart P_is_chart []
  g_is_chart : mg "is_chart" = some (.ref f_is_chart)
  f_arc_by : Addr
  d_arc_by : FuncData
  F_arc_by : L2.Fun K "arc_by" "arc_by" s_arc_by f_arc_by d_arc_by
  b_arc_by : Binds K d_arc_by P_arc_by []
  g_arc_by : mg "arc_by" = some (.ref f_arc_by)
  f_read_chart : Addr
  d_read_chart : FuncData
  F_read_chart : L2.Fun K "read_chart" "read_chart" s_read_chart f_read_chart d_read_chart
  b_read_chart : Binds K d_read_chart P_read_chart []
  g_read_chart : mg "read_chart" = some (.ref f_read_chart)
  f_place_by : Addr
  d_place_by : FuncData
  F_place_by : L2.Fun K "place_by" "place_by" s_place_by f_place_by d_place_by
  b_place_by : Binds K d_place_by P_place_by []
  g_place_by : mg "place_by" = some (.ref f_place_by)
  f_place_for : Addr
  d_place_for : FuncData
  F_place_for : L2.Fun K "place_for" "place_for" s_place_for f_place_for d_place_for
  b_place_for : Binds K d_place_for P_place_for []
  g_place_for : mg "place_for" = some (.ref f_place_for)
  f_read_net : Addr
  d_read_net : FuncData
  F_read_net : L2.Fun K "read_net" "read_net" s_read_net f_read_net d_read_net
  b_read_net : Binds K d_read_net P_read_net []
  g_read_net : mg "read_net" = some (.ref f_read_net)
  f_law_cell_at : Addr
  d_law_cell_at : FuncData
  F_law_cell_at : L2.Fun K "_law_cell_at" "_law_cell_at" s_law_cell_at f_law_cell_at d_law_cell_at
  b_law_cell_at : Binds K d_law_cell_at P_law_cell_at []
  g_law_cell_at : mg "_law_cell_at" = some (.ref f_law_cell_at)
  f_law_word_by : Addr
  d_law_word_by : FuncData
  F_law_word_by : L2.Fun K "_law_word_by" "_law_word_by" s_law_word_by f_law_word_by d_law_word_by
  b_law_word_by : Binds K d_law_word_by P_law_word_by []
  g_law_word_by : mg "_law_word_by" = some (.ref f_law_word_by)
  f_law_figures : Addr
  d_law_figures : FuncData
  F_law_figures : L2.Fun K "_law_figures" "_law_figures" s_law_figures f_law_figures d_law_figures
  b_law_figures : Binds K d_law_figures P_law_figures []
  g_law_figures : mg "_law_figures" = some (.ref f_law_figures)
  f_law_bad_by : Addr
  d_law_bad_by : FuncData
  F_law_bad_by : L2.Fun K "_law_bad_by" "_law_bad_by" s_law_bad_by f_law_bad_by d_law_bad_by
  b_law_bad_by : Binds K d_law_bad_by P_law_bad_by []
  g_law_bad_by : mg "_law_bad_by" = some (.ref f_law_bad_by)
  f_law_refused : Addr
  d_law_refused : FuncData
  F_law_refused : L2.Fun K "_law_refused" "_law_refused" s_law_refused f_law_refused d_law_refused
  b_law_refused : Binds K d_law_refused P_law_refused []
  g_law_refused : mg "_law_refused" = some (.ref f_law_refused)
  f_law : Addr
  d_law : FuncData
  F_law : L2.Fun K "law" "law" s_law f_law d_law
  b_law : Binds K d_law P_law []
  g_law : mg "law" = some (.ref f_law)
  n_ValueError : mg "ValueError" = none
  n_all : mg "all" = none
  n_int : mg "int" = none
  n_isinstance : mg "isinstance" = none
  n_len : mg "len" = none
  n_max : mg "max" = none
  n_min : mg "min" = none
  n_range : mg "range" = none
  n_set : mg "set" = none
  n_sorted : mg "sorted" = none
  n_str : mg "str" = none
  n_tuple : mg "tuple" = none
  n_zip : mg "zip" = none
  t_FIGURES : Tok
  c_FIGURES : mg "FIGURES" = some (.str "0123456789" t_FIGURES)
  t_LETTERS : Tok
  c_LETTERS : mg "LETTERS" = some (.str "abcdefghijklmnopqrstuvwxyz" t_LETTERS)
  x0 : cl exName = none
  X_NetError : Addr
  xl_NetError : cl "NetError" = some X_NetError
  xm_NetError : mg "NetError" = some (.ref X_NetError)
  xe_NetError : PySem.W.excIn K X_NetError [.type "ValueError", .type "Exception", .type "BaseException", .type "object"] "ValueError.__new__" = true
  xk_NetError : PySem.W.keepIn K (.ref X_NetError) = true
  xb_NetError : PySem.W.subIn K (.ref X_NetError) (.type "BaseException") = some true
  xt_NetError : PySem.W.typeIn K (.ref X_NetError) = some (.type "type")
  X_NoCase : Addr
  xl_NoCase : cl "NoCase" = some X_NoCase
  xm_NoCase : mg "NoCase" = some (.ref X_NoCase)
  xe_NoCase : PySem.W.excIn K X_NoCase [.type "ValueError", .type "Exception", .type "BaseException", .type "object"] "ValueError.__new__" = true
  xk_NoCase : PySem.W.keepIn K (.ref X_NoCase) = true
  xb_NoCase : PySem.W.subIn K (.ref X_NoCase) (.type "BaseException") = some true
  xt_NoCase : PySem.W.typeIn K (.ref X_NoCase) = some (.type "type")
  X_NoChart : Addr
  xl_NoChart : cl "NoChart" = some X_NoChart
  xm_NoChart : mg "NoChart" = some (.ref X_NoChart)
  xe_NoChart : PySem.W.excIn K X_NoChart [.type "ValueError", .type "Exception", .type "BaseException", .type "object"] "ValueError.__new__" = true
  xk_NoChart : PySem.W.keepIn K (.ref X_NoChart) = true
  xb_NoChart : PySem.W.subIn K (.ref X_NoChart) (.type "BaseException") = some true
  xt_NoChart : PySem.W.typeIn K (.ref X_NoChart) = some (.type "type")
  X_NoNet : Addr
  xl_NoNet : cl "NoNet" = some X_NoNet
  xm_NoNet : mg "NoNet" = some (.ref X_NoNet)
  xe_NoNet : PySem.W.excIn K X_NoNet [.type "ValueError", .type "Exception", .type "BaseException", .type "object"] "ValueError.__new__" = true
  xk_NoNet : PySem.W.keepIn K (.ref X_NoNet) = true
  xb_NoNet : PySem.W.subIn K (.ref X_NoNet) (.type "BaseException") = some true
  xt_NoNet : PySem.W.typeIn K (.ref X_NoNet) = some (.type "type")
  X_NoRun : Addr
  xl_NoRun : cl "NoRun" = some X_NoRun
  xm_NoRun : mg "NoRun" = some (.ref X_NoRun)
  xe_NoRun : PySem.W.excIn K X_NoRun [.type "ValueError", .type "Exception", .type "BaseException", .type "object"] "ValueError.__new__" = true
  xk_NoRun : PySem.W.keepIn K (.ref X_NoRun) = true
  xb_NoRun : PySem.W.subIn K (.ref X_NoRun) (.type "BaseException") = some true
  xt_NoRun : PySem.W.typeIn K (.ref X_NoRun) = some (.type "type")
  X_NoStretch : Addr
  xl_NoStretch : cl "NoStretch" = some X_NoStretch
  xm_NoStretch : mg "NoStretch" = some (.ref X_NoStretch)
  xe_NoStretch : PySem.W.excIn K X_NoStretch [.type "ValueError", .type "Exception", .type "BaseException", .type "object"] "ValueError.__new__" = true
  xk_NoStretch : PySem.W.keepIn K (.ref X_NoStretch) = true
  xb_NoStretch : PySem.W.subIn K (.ref X_NoStretch) (.type "BaseException") = some true
  xt_NoStretch : PySem.W.typeIn K (.ref X_NoStretch) = some (.type "type")
  X_NoText : Addr
  xl_NoText : cl "NoText" = some X_NoText
  xm_NoText : mg "NoText" = some (.ref X_NoText)
  xe_NoText : PySem.W.excIn K X_NoText [.type "ValueError", .type "Exception", .type "BaseException", .type "object"] "ValueError.__new__" = true
  xk_NoText : PySem.W.keepIn K (.ref X_NoText) = true
  xb_NoText : PySem.W.subIn K (.ref X_NoText) (.type "BaseException") = some true
  xt_NoText : PySem.W.typeIn K (.ref X_NoText) = some (.type "type")
  X_OtherMoves : Addr
  xl_OtherMoves : cl "OtherMoves" = some X_OtherMoves
  xm_OtherMoves : mg "OtherMoves" = some (.ref X_OtherMoves)
  xe_OtherMoves : PySem.W.excIn K X_OtherMoves [.type "ValueError", .type "Exception", .type "BaseException", .type "object"] "ValueError.__new__" = true
  xk_OtherMoves : PySem.W.keepIn K (.ref X_OtherMoves) = true
  xb_OtherMoves : PySem.W.subIn K (.ref X_OtherMoves) (.type "BaseException") = some true
  xt_OtherMoves : PySem.W.typeIn K (.ref X_OtherMoves) = some (.type "type")
  X_TooGreat : Addr
  xl_TooGreat : cl "TooGreat" = some X_TooGreat
  xm_TooGreat : mg "TooGreat" = some (.ref X_TooGreat)
  xe_TooGreat : PySem.W.excIn K X_TooGreat [.type "ValueError", .type "Exception", .type "BaseException", .type "object"] "ValueError.__new__" = true
  xk_TooGreat : PySem.W.keepIn K (.ref X_TooGreat) = true
  xb_TooGreat : PySem.W.subIn K (.ref X_TooGreat) (.type "BaseException") = some true
  xt_TooGreat : PySem.W.typeIn K (.ref X_TooGreat) = some (.type "type")
  xy_NoChart : ExcC K X_NoChart
  xy_NoNet : ExcC K X_NoNet
  xy_NoText : ExcC K X_NoText
  xq_NoChart_NetError : PySem.W.exmOne K (.ref X_NoChart) (.ref X_NetError) = some true
  xq_NoNet_NetError : PySem.W.exmOne K (.ref X_NoNet) (.ref X_NetError) = some true
  xq_NoText_NetError : PySem.W.exmOne K (.ref X_NoText) (.ref X_NetError) = some true
  xi_NoChart_NoCase : PySem.W.kitOne K (.ref X_NoChart) (.ref X_NoCase) = some false
  xi_NoChart_NoChart : PySem.W.kitOne K (.ref X_NoChart) (.ref X_NoChart) = some true
  xi_NoChart_NoNet : PySem.W.kitOne K (.ref X_NoChart) (.ref X_NoNet) = some false
  xi_NoChart_NoRun : PySem.W.kitOne K (.ref X_NoChart) (.ref X_NoRun) = some false
  xi_NoChart_NoStretch : PySem.W.kitOne K (.ref X_NoChart) (.ref X_NoStretch) = some false
  xi_NoChart_NoText : PySem.W.kitOne K (.ref X_NoChart) (.ref X_NoText) = some false
  xi_NoChart_OtherMoves : PySem.W.kitOne K (.ref X_NoChart) (.ref X_OtherMoves) = some false
  xi_NoChart_TooGreat : PySem.W.kitOne K (.ref X_NoChart) (.ref X_TooGreat) = some false
  xi_NoChart_ValueError : PySem.W.kitOne K (.ref X_NoChart) (.type "ValueError") = some true
  xi_NoNet_NoCase : PySem.W.kitOne K (.ref X_NoNet) (.ref X_NoCase) = some false
  xi_NoNet_NoChart : PySem.W.kitOne K (.ref X_NoNet) (.ref X_NoChart) = some false
  xi_NoNet_NoNet : PySem.W.kitOne K (.ref X_NoNet) (.ref X_NoNet) = some true
  xi_NoNet_NoRun : PySem.W.kitOne K (.ref X_NoNet) (.ref X_NoRun) = some false
  xi_NoNet_NoStretch : PySem.W.kitOne K (.ref X_NoNet) (.ref X_NoStretch) = some false
  xi_NoNet_NoText : PySem.W.kitOne K (.ref X_NoNet) (.ref X_NoText) = some false
  xi_NoNet_OtherMoves : PySem.W.kitOne K (.ref X_NoNet) (.ref X_OtherMoves) = some false
  xi_NoNet_TooGreat : PySem.W.kitOne K (.ref X_NoNet) (.ref X_TooGreat) = some false
  xi_NoNet_ValueError : PySem.W.kitOne K (.ref X_NoNet) (.type "ValueError") = some true
  xi_NoText_NoCase : PySem.W.kitOne K (.ref X_NoText) (.ref X_NoCase) = some false
  xi_NoText_NoChart : PySem.W.kitOne K (.ref X_NoText) (.ref X_NoChart) = some false
  xi_NoText_NoNet : PySem.W.kitOne K (.ref X_NoText) (.ref X_NoNet) = some false
  xi_NoText_NoRun : PySem.W.kitOne K (.ref X_NoText) (.ref X_NoRun) = some false
  xi_NoText_NoStretch : PySem.W.kitOne K (.ref X_NoText) (.ref X_NoStretch) = some false
  xi_NoText_NoText : PySem.W.kitOne K (.ref X_NoText) (.ref X_NoText) = some true
  xi_NoText_OtherMoves : PySem.W.kitOne K (.ref X_NoText) (.ref X_OtherMoves) = some false
  xi_NoText_TooGreat : PySem.W.kitOne K (.ref X_NoText) (.ref X_TooGreat) = some false
  xi_NoText_ValueError : PySem.W.kitOne K (.ref X_NoText) (.type "ValueError") = some true
  fv_read_chart : cl "read_chart" = some f_read_chart
  fv_read_net : cl "read_net" = some f_read_net
  fv_words : cl "words" = some f_words
theorem Fx.ecl_NoChart {K : PySem.W.Frag} {mg : Str → Option Value} {cl : Str → Option Addr} (fx : Fx K mg cl) : Ecl K mg cl "NoChart" := ⟨fx.X_NoChart, fx.xl_NoChart, fx.xm_NoChart, fx.xe_NoChart, fx.xk_NoChart, fx.xb_NoChart, fx.xt_NoChart⟩
theorem Fx.ecl_NoNet {K : PySem.W.Frag} {mg : Str → Option Value} {cl : Str → Option Addr} (fx : Fx K mg cl) : Ecl K mg cl "NoNet" := ⟨fx.X_NoNet, fx.xl_NoNet, fx.xm_NoNet, fx.xe_NoNet, fx.xk_NoNet, fx.xb_NoNet, fx.xt_NoNet⟩
theorem Fx.ecl_NoText {K : PySem.W.Frag} {mg : Str → Option Value} {cl : Str → Option Addr} (fx : Fx K mg cl) : Ecl K mg cl "NoText" := ⟨fx.X_NoText, fx.xl_NoText, fx.xm_NoText, fx.xe_NoText, fx.xk_NoText, fx.xb_NoText, fx.xt_NoText⟩
section
variable {P : Program} {w : World} {K : PySem.W.Frag} {mg : Str → Option Value} {base : Heap} {cl : Str → Option Addr} {bo : Hp}
theorem ok_run_end {k : Nat} (fx : Fx K mg cl) : FnOk P w K mg base (L2.CX P w) (k + 1) fx.f_run_end fx.d_run_end P_run_end (spD ⟨K, cl, bo⟩ [.b, .b, .b] fn_run_end) := by
  refine def_ok (k := k + 0) (N := N_run_end) (ms := [.b, .b, .b]) (body := b_run_end) fx.F_run_end sc_run_end rfl fun cdv A outer s H E W hr dw hp => ?_
  exact (s_cons (s_set dw.dx rfl (by first | exact .inl rfl | exact .inr rfl) (e_p (p_var (pv 1))))
  (s_cons (s_while hp (t_p (w_and (t_cmpPP op_ltA rop_lt pure_lt (p_var (pv 3)) (p_len (hs := [.pur (hVar 0)]) dw.dx (by rfl) fx.n_len (pa_cons (p_var (pv 0)) pa_nil))) (w_and1 (t_cmpPP op_in_sign rop_inS pure_inS (p_ixo (s1 := .pur (hVar 0)) (s2 := .pur (hVar 3)) dw.dx (p_var (pv 0)) (p_var (pv 3))) (p_var (pv 2))))).pt) (s_cons (s_aug dw.dx rfl (by first | exact .inl rfl | exact .inr rfl) ip_add (e_p p_int))
  s_nil))
  (s_cons (s_ret (e_p (p_var (pv 3))))
  s_nil)))
theorem ok_word_end {k : Nat} (fx : Fx K mg cl) : FnOk P w K mg base (L2.CX P w) (k + 2) fx.f_word_end fx.d_word_end P_word_end (spD ⟨K, cl, bo⟩ [.b, .b] fn_word_end) := by
  refine def_ok (k := k + 1) (N := N_word_end) (ms := [.b, .b]) (body := b_word_end) fx.F_word_end sc_word_end rfl fun cdv A outer s H E W hr dw hp => ?_
  exact (s_cons (s_if (t_cmpPP (op_eqD (hu_eq1 dw.dx)) rop_eq pure_eq (p_ixo (s1 := .pur (hVar 0)) (s2 := .pur (hVar 1)) dw.dx (p_var (pv 0)) (p_var (pv 1))) p_str) (s_cons (s_ret (e_p (p_binPP op_addA rop_add pure_add (p_var (pv 1)) p_int)))
  s_nil) s_nil)
  (s_cons (s_set dw.dx rfl (by first | exact .inl rfl | exact .inr rfl) (e_call dw (ok_run_end (k := k + 0) fx) hr (by rfl) fx.g_run_end fx.F_run_end.kp fx.b_run_end (.fin [.pur (hVar 0), .pur (hVar 1), .pur (hC (.str "abcdefghijklmnopqrstuvwxyz"))]) (pa_cons (p_var (pv 0)) (pa_cons (p_var (pv 1)) (pa_cons (p_gstr (by rfl) fx.c_LETTERS) pa_nil)))))
  (s_cons (s_if (t_cmpPP op_gt rop_gt pure_gt (p_var (pv 2)) (p_var (pv 1))) (s_cons (s_ret (e_p (p_var (pv 2))))
  s_nil) s_nil)
  (s_cons (s_set dw.dx rfl (by first | exact .inl rfl | exact .inr rfl) (e_call dw (ok_run_end (k := k + 0) fx) hr (by rfl) fx.g_run_end fx.F_run_end.kp fx.b_run_end (.fin [.pur (hVar 0), .pur (hVar 1), .pur (hC (.str "0123456789"))]) (pa_cons (p_var (pv 0)) (pa_cons (p_var (pv 1)) (pa_cons (p_gstr (by rfl) fx.c_FIGURES) pa_nil)))))
  (s_cons (s_if (w_or (t_cmpPP (op_eqD (hu_eq1 dw.dx)) rop_eq pure_eq (p_var (pv 2)) (p_var (pv 1))) (w_or1 (t_cmpPP op_gt rop_gt pure_gt (p_binPP op_sub rop_sub pure_sub (p_var (pv 2)) (p_var (pv 1))) p_int))).pt (s_cons (s_raise dw fx.ecl_NoText)
  s_nil) s_nil)
  (s_cons (s_if (w_and (t_cmpPP (op_eqD (hu_eq1 dw.dx)) rop_eq pure_eq (p_ixo (s1 := .pur (hVar 0)) (s2 := .pur (hVar 1)) dw.dx (p_var (pv 0)) (p_var (pv 1))) p_str) (w_and1 (t_cmpPP op_gt rop_gt pure_gt (p_binPP op_sub rop_sub pure_sub (p_var (pv 2)) (p_var (pv 1))) p_int))).pt (s_cons (s_raise dw fx.ecl_NoText)
  s_nil) s_nil)
  (s_cons (s_ret (e_p (p_var (pv 2))))
  s_nil)))))))
theorem ok_words {k : Nat} (fx : Fx K mg cl) : FnOk P w K mg base (L2.CX P w) (k + 3) fx.f_words fx.d_words P_words (spD ⟨K, cl, bo⟩ [.b] fn_words) := by
  refine def_ok (k := k + 2) (N := N_words) (ms := [.b]) (body := b_words) fx.F_words sc_words rfl fun cdv A outer s H E W hr dw hp => ?_
  exact (s_cons (s_if (t_not (t_val (p_isi (s1 := .plc 0 (pUn (pVar 0))) dw.dx (by decide) (by rfl) fx.n_isinstance (by rfl) fx.n_str bt_str (l_un (p_plc (pv 0)))))) (s_cons (s_raise dw fx.ecl_NoText)
  s_nil) s_nil)
  (s_cons (s_set dw.dx rfl (by first | exact .inl rfl | exact .inr rfl) (e_lst (.fin []) pa_nil))
  (s_cons (s_set dw.dx rfl (by first | exact .inl rfl | exact .inr rfl) (e_p p_int))
  (s_cons (s_while hp (t_p (t_cmpPP op_ltA rop_lt pure_lt (p_var (pv 2)) (p_len (hs := [.pur (hVar 0)]) dw.dx (by rfl) fx.n_len (pa_cons (p_var (pv 0)) pa_nil)))) (s_drop [3] (s_cons (s_if (t_cmpPP (op_eqD (hu_eq1 dw.dx)) rop_eq pure_eq (p_ixo (s1 := .pur (hVar 0)) (s2 := .pur (hVar 2)) dw.dx (p_var (pv 0)) (p_var (pv 2))) p_str) (s_cons (s_aug dw.dx rfl (by first | exact .inl rfl | exact .inr rfl) ip_add (e_p p_int))
  (s_cons s_cont
  s_nil)) s_nil)
  (s_cons (s_set dw.dx rfl (by first | exact .inl rfl | exact .inr rfl) (e_call dw (ok_word_end (k := k + 0) fx) hr (by rfl) fx.g_word_end fx.F_word_end.kp fx.b_word_end (.fin [.pur (hVar 0), .pur (hVar 2)]) (pa_cons (p_var (pv 0)) (pa_cons (p_var (pv 2)) pa_nil))))
  (s_cons (s_expr (e_append dw.dx (pv 1) (.fin [.pur (hOp [.pur (hVar 0), .int (hVar 2), .int (hVar 3)] (sl2 fSlP))]) (pa_cons (p_sl2 (s1 := .pur (hVar 0)) sl_P slP_ok slP_pure (p_var (pv 0)) (p_var (pv 2)) (p_var (pv 3))) pa_nil)))
  (s_cons (s_set dw.dx rfl (by first | exact .inl rfl | exact .inr rfl) (e_p (p_var (pv 3))))
  s_nil))))))
  (s_cons (s_ret (e_mov (pv 1)))
  s_nil)))))
theorem ok_is_name {k : Nat} (fx : Fx K mg cl) : FnOk P w K mg base (L2.CX P w) (k + 1) fx.f_is_name fx.d_is_name P_is_name (spD ⟨K, cl, bo⟩ [.b] fn_is_name) := by
  refine def_ok (k := k + 0) (N := N_is_name) (ms := [.b]) (body := b_is_name) fx.F_is_name sc_is_name rfl fun cdv A outer s H E W hr dw hp => ?_
  exact (s_cons (s_ret (e_p (p_and (p_cmpPP op_in_sign rop_inS pure_inS (p_ixo (s1 := .pur (hVar 0)) (s2 := .pur (hC (.int 0))) dw.dx (p_var (pv 0)) p_int) (p_gstr (by rfl) fx.c_LETTERS)) (p_and (p_cmpPP op_le rop_le pure_le (p_len (hs := [.pur (hVar 0)]) dw.dx (by rfl) fx.n_len (pa_cons (p_var (pv 0)) pa_nil)) p_int) (p_one (p_cmpPP (op_neD (hu_eq1 dw.dx)) rop_ne pure_ne (p_var (pv 0)) p_str))))))
  s_nil)
theorem ok_is_number {k : Nat} (fx : Fx K mg cl) : FnOk P w K mg base (L2.CX P w) (k + 1) fx.f_is_number fx.d_is_number P_is_number (spD ⟨K, cl, bo⟩ [.b] fn_is_number) := by
  refine def_ok (k := k + 0) (N := N_is_number) (ms := [.b]) (body := b_is_number) fx.F_is_number sc_is_number rfl fun cdv A outer s H E W hr dw hp => ?_
  exact (s_cons (s_ret (e_p (p_cmpPP op_in_sign rop_inS pure_inS (p_ixo (s1 := .pur (hVar 0)) (s2 := .pur (hC (.int 0))) dw.dx (p_var (pv 0)) p_int) (p_gstr (by rfl) fx.c_FIGURES))))
  s_nil)
theorem ok_parts_between {k : Nat} (fx : Fx K mg cl) : FnOk P w K mg base (L2.CX P w) (k + 1) fx.f_parts_between fx.d_parts_between P_parts_between (spD ⟨K, cl, bo⟩ [.b] fn_parts_between) := by
  refine def_ok (k := k + 0) (N := N_parts_between) (ms := [.b]) (body := b_parts_between) fx.F_parts_between sc_parts_between rfl fun cdv A outer s H E W hr dw hp => ?_
  exact (s_cons (s_set dw.dx rfl (by first | exact .inl rfl | exact .inr rfl) (e_lst (.own (eK (.fin []) (dspK .lst)) (.fin [])) (pa_cons (e_lst (.fin []) pa_nil) pa_nil)))
  (s_cons (s_for [2] dw.dx hp (i_seq (.plc 0 (pVar 0)) dw.dx (p_plc (pv 0))) (pg_name (i := 2) sc_parts_between.nd rfl (by first | exact .inl rfl | exact .inr rfl)) bind_name (s_cons (s_if (t_cmpPP (op_eqD (hu_eq1 dw.dx)) rop_eq pure_eq (p_var (pv 2)) p_str) (s_cons (s_expr (e_append dw.dx (pv 1) (.own (eK (.fin []) (dspK .lst)) (.fin [])) (pa_cons (e_lst (.fin []) pa_nil) pa_nil)))
  s_nil) (s_cons (s_expr (e_apIx dw.dx (pv 1) (p_unP un_neg rop_neg pure_neg p_int) (p_var (pv 2))))
  s_nil))
  s_nil))
  (s_cons (s_ret (e_mov (pv 1)))
  s_nil)))
theorem ok_moves_by {k : Nat} (fx : Fx K mg cl) : FnOk P w K mg base (L2.CX P w) (k + 2) fx.f_moves_by fx.d_moves_by P_moves_by (spD ⟨K, cl, bo⟩ [.b] fn_moves_by) := by
  refine def_ok (k := k + 1) (N := N_moves_by) (ms := [.b]) (body := b_moves_by) fx.F_moves_by sc_moves_by rfl fun cdv A outer s H E W hr dw hp => ?_
  exact (s_cons (s_ifE (w_orE (t_cmpE (op_eqD (hu_eq1 dw.dx)) rop_eq (.plc 0 (pVar 0) (.own (eK (.fin []) (dspK .lst)) (.fin []))) (p_plc (pv 0)) (e_lst (.fin []) pa_nil)) (w_orE (t_p (t_cmpPP (op_neD (hu_eq1 dw.dx)) rop_ne pure_ne (p_rd (l_ix dw.dx (p_plc (pv 0)) p_int)) p_str)) (w_or1 (t_p (t_cmpPP op_gt rop_gt pure_gt (p_len (hs := [.plc 0 (pVar 0)]) dw.dx (by rfl) fx.n_len (pa_cons (p_plc (pv 0)) pa_nil)) p_int))))).pt (s_cons (s_raise dw fx.ecl_NoText)
  s_nil) s_nil)
  (s_cons (s_for [1] dw.dx hp (i_seq (.own (eOp (.fin [.plc 0 (pVar 0), .int (hC (.int 1))]) (slL fSlL))) dw.dx (e_slL (W := W) sl_list (slL_ok (G := ⟨K, cl, bo⟩)) (.fin [.plc 0 (pVar 0), .int (hC (.int 1))]) (p_plc (pv 0)) p_int)) (pg_name (i := 1) sc_moves_by.nd rfl (by first | exact .inl rfl | exact .inr rfl)) bind_name (s_cons (s_ifE (t_notE (t_valE (e_call dw (ok_is_name (k := k + 0) fx) hr (by rfl) fx.g_is_name fx.F_is_name.kp fx.b_is_name (.fin [.pur (hVar 1)]) (pa_cons (p_var (pv 1)) pa_nil)))) (s_cons (s_raise dw fx.ecl_NoText)
  s_nil) s_nil)
  s_nil))
  (s_cons (s_ret (e_slL (W := W) sl_list (slL_ok (G := ⟨K, cl, bo⟩)) (.fin [.plc 0 (pVar 0), .int (hC (.int 1))]) (p_plc (pv 0)) p_int))
  s_nil)))
theorem ok_states_of {k : Nat} (fx : Fx K mg cl) : FnOk P w K mg base (L2.CX P w) (k + 1) fx.f_states_of fx.d_states_of P_states_of (spD ⟨K, cl, bo⟩ [.b] fn_states_of) := by
  refine def_ok (k := k + 0) (N := N_states_of) (ms := [.b]) (body := b_states_of) fx.F_states_of sc_states_of rfl fun cdv A outer s H E W hr dw hp => ?_
  exact (s_cons (s_set dw.dx rfl (by first | exact .inl rfl | exact .inr rfl) (e_p p_int))
  (s_cons (s_for [2, 3, 4] dw.dx hp (i_seq (.plc 0 (pIx (pVar 0) (hC (.int 1)))) dw.dx (l_ix dw.dx (p_plc (pv 0)) p_int)) (pg_tup rfl (pgs_cons (pg_name (i := 2) sc_states_of.nd rfl (by first | exact .inl rfl | exact .inr rfl)) (pgs_cons (pg_name (i := 3) sc_states_of.nd rfl (by first | exact .inl rfl | exact .inr rfl)) (pgs_cons (pg_name (i := 4) sc_states_of.nd rfl (by first | exact .inl rfl | exact .inr rfl)) pgs_nil)))) (bind_tup rfl (binds_cons bind_name (binds_cons bind_name (binds_cons bind_name binds_nil))) (bCons_len (bCons_len (bCons_len bNil_len)))) (s_cons (s_set dw.dx rfl (by first | exact .inl rfl | exact .inr rfl) (e_p (p_max3 (hs := [.pur (hVar 1), .pur (hVar 2), .pur (hVar 4)]) dw.dx (by rfl) fx.n_max (pa_cons (p_var (pv 1)) (pa_cons (p_var (pv 2)) (pa_cons (p_var (pv 4)) pa_nil))))))
  s_nil))
  (s_cons (s_ret (e_p (p_binPP op_addA rop_add pure_add (p_var (pv 1)) p_int)))
  s_nil)))
theorem ok_states_come_to {k : Nat} (fx : Fx K mg cl) : FnOk P w K mg base (L2.CX P w) (k + 1) fx.f_states_come_to fx.d_states_come_to P_states_come_to (spD ⟨K, cl, bo⟩ [.b] fn_states_come_to) := by
  refine def_ok (k := k + 0) (N := N_states_come_to) (ms := [.b]) (body := b_states_come_to) fx.F_states_come_to sc_states_come_to rfl fun cdv A outer s H E W hr dw hp => ?_
  exact (s_cons (s_set dw.dx rfl (by first | exact .inl rfl | exact .inr rfl) (e_one (kk := .inl 0) (d := (.bl true)) pe_int pe_bl fun _ _ => ⟨rfl, rfl⟩))
  (s_cons (s_set dw.dx rfl (by first | exact .inl rfl | exact .inr rfl) (e_lst (.fin [.pur (hC (.int 0))]) (pa_cons p_int pa_nil)))
  (s_cons (s_while hp (t_cmpE (op_neD (hu_eq1 dw.dx)) rop_ne (.plc 2 (pVar 2) (.own (eK (.fin []) (dspK .lst)) (.fin []))) (p_plc (pv 2)) (e_lst (.fin []) pa_nil)) (s_drop [3, 4, 5, 6] (s_cons (s_set dw.dx rfl (by first | exact .inl rfl | exact .inr rfl) (e_pop dw.dx (pv 2)))
  (s_cons (s_for [4, 5, 6] dw.dx hp (i_seq (.plc 0 (pVar 0)) dw.dx (p_plc (pv 0))) (pg_tup rfl (pgs_cons (pg_name (i := 4) sc_states_come_to.nd rfl (by first | exact .inl rfl | exact .inr rfl)) (pgs_cons (pg_name (i := 5) sc_states_come_to.nd rfl (by first | exact .inl rfl | exact .inr rfl)) (pgs_cons (pg_name (i := 6) sc_states_come_to.nd rfl (by first | exact .inl rfl | exact .inr rfl)) pgs_nil)))) (bind_tup rfl (binds_cons bind_name (binds_cons bind_name (binds_cons bind_name binds_nil))) (bCons_len (bCons_len (bCons_len bNil_len)))) (s_cons (s_if (w_and (t_cmpPP (op_eqD (hu_eq1 dw.dx)) rop_eq pure_eq (p_var (pv 4)) (p_var (pv 3))) (w_and1 (t_dnotin (s1 := .pur (hVar 6)) (s2 := .plc 1 (pVar 1)) dw.dx (p_var (pv 6)) (p_plc (pv 1))))).pt (s_cons (s_setD dw.dx (.pur (hC (.bl true)) (.io 1 (.fin [.pur (hVar 6)]))) p_bl (pv 1) (p_var (pv 6)))
  (s_cons (s_expr (e_append dw.dx (pv 2) (.fin [.pur (hVar 6)]) (pa_cons (p_var (pv 6)) pa_nil)))
  s_nil)) s_nil)
  s_nil))
  s_nil))))
  (s_cons (s_ret (e_mov (pv 1)))
  s_nil))))
theorem ok_is_move_name {k : Nat} (fx : Fx K mg cl) : FnOk P w K mg base (L2.CX P w) (k + 1) fx.f_is_move_name fx.d_is_move_name P_is_move_name (spD ⟨K, cl, bo⟩ [.b] fn_is_move_name) := by
  refine def_ok (k := k + 0) (N := N_is_move_name) (ms := [.b]) (body := b_is_move_name) fx.F_is_move_name sc_is_move_name rfl fun cdv A outer s H E W hr dw hp => ?_
  exact (s_cons (s_set dw.dx rfl (by first | exact .inl rfl | exact .inr rfl) (e_p p_str))
  (s_cons (s_ret (e_and (e_p (p_chI (p := leI) (q := leI) op_le op_le p_int (p_len (hs := [.pur (hVar 0)]) dw.dx (by rfl) fx.n_len (pa_cons (p_var (pv 0)) pa_nil)) p_int)) (e_and (e_p (p_cmpPP (op_neD (hu_eq1 dw.dx)) rop_ne pure_ne (p_var (pv 0)) p_str)) (p_one (e_all dw.dx (by rfl) fx.n_all (.own (lcE [.pur (hVar 0)] mkSigs (bName 2) eYes (eP (hOp [.pur (hVar 2), .pur (hVar 1)] gInS)) [2]) (.fin [])) (pa_cons (e_lc (own := [("sign", 2)]) dw.dx (i_sigs (.pur (hVar 0)) (p_var (pv 0))) (blkOk_by (N := N_is_move_name) (sc := (defScope s_is_move_name)) (by decide +kernel)) bind_name (fun _ _ _ _ _ => (pg_name (i := 2) sc_is_move_name.nd rfl (by first | exact .inl rfl | exact .inr rfl))) (fun _ _ _ _ _ => ts_nil) (fun _ _ _ _ _ => (e_p (p_cmpPP op_in_sign rop_inS pure_inS (p_var (pv 2)) (p_var (pv 1)))))) pa_nil))))))
  s_nil))
theorem ok_is_rising {k : Nat} (fx : Fx K mg cl) : FnOk P w K mg base (L2.CX P w) (k + 1) fx.f_is_rising fx.d_is_rising P_is_rising (spD ⟨K, cl, bo⟩ [.b] fn_is_rising) := by
  refine def_ok (k := k + 0) (N := N_is_rising) (ms := [.b]) (body := b_is_rising) fx.F_is_rising sc_is_rising rfl fun cdv A outer s H E W hr dw hp => ?_
  exact (s_cons (s_ret (e_all dw.dx (by rfl) fx.n_all (.own (lcE [.own (eOp (.fin [.plc 0 (pVar 0), .int (hOp [.pur (hC (.int 1))] gNeg)]) (slH fSlJ)), .own (eOp (.fin [.plc 0 (pVar 0), .int (hC (.int 1))]) (slL fSlJ))] mkZip (bTup (bCons (bName 1) (bCons (bName 2) bNil))) eYes (eP (hOp [.pur (hVar 1), .pur (hVar 2)] gLtD)) [1, 2]) (.fin [])) (pa_cons (e_lc (own := [("one", 1), ("other", 2)]) dw.dx (i_zip [.own (eOp (.fin [.plc 0 (pVar 0), .int (hOp [.pur (hC (.int 1))] gNeg)]) (slH fSlJ)), .own (eOp (.fin [.plc 0 (pVar 0), .int (hC (.int 1))]) (slL fSlJ))] dw.dx (by rfl) fx.n_zip (pa_cons (e_slH (W := W) sl_J (slJ_ok (G := ⟨K, cl, bo⟩)) (.fin [.plc 0 (pVar 0), .int (hOp [.pur (hC (.int 1))] gNeg)]) (p_plc (pv 0)) (p_unP un_neg rop_neg pure_neg p_int)) (pa_cons (e_slL (W := W) sl_J (slJ_ok (G := ⟨K, cl, bo⟩)) (.fin [.plc 0 (pVar 0), .int (hC (.int 1))]) (p_plc (pv 0)) p_int) pa_nil))) (blkOk_by (N := N_is_rising) (sc := (defScope s_is_rising)) (by decide +kernel)) (bind_tup rfl (binds_cons bind_name (binds_cons bind_name binds_nil)) (bCons_len (bCons_len bNil_len))) (fun _ _ _ _ _ => (pg_tup rfl (pgs_cons (pg_name (i := 1) sc_is_rising.nd rfl (by first | exact .inl rfl | exact .inr rfl)) (pgs_cons (pg_name (i := 2) sc_is_rising.nd rfl (by first | exact .inl rfl | exact .inr rfl)) pgs_nil)))) (fun _ _ _ _ _ => ts_nil) (fun _ _ _ _ _ => (e_p (p_cmpPP (op_ltD (hu_eq1 dw.blk.dx)) rop_ltD pure_ltD (p_var (pv 1)) (p_var (pv 2)))))) pa_nil)))
  s_nil)
theorem ok_is_chart {k : Nat} (fx : Fx K mg cl) : FnOk P w K mg base (L2.CX P w) (k + 2) fx.f_is_chart fx.d_is_chart P_is_chart (spD ⟨K, cl, bo⟩ [.b, .b] fn_is_chart) := by
  refine def_ok (k := k + 1) (N := N_is_chart) (ms := [.b, .b]) (body := b_is_chart) fx.F_is_chart sc_is_chart rfl fun cdv A outer s H E W hr dw hp => ?_
  exact (s_cons (s_ifE (w_orE (t_p (t_cmpPP op_gt rop_gt pure_gt (p_len (hs := [.pur (hVar 0)]) dw.dx (by rfl) fx.n_len (pa_cons (p_var (pv 0)) pa_nil)) p_int)) (w_orE (t_notE (t_valE (e_call dw (ok_is_rising (k := k + 0) fx) hr (by rfl) fx.g_is_rising fx.F_is_rising.kp fx.b_is_rising (.fin [.pur (hVar 0)]) (pa_cons (p_var (pv 0)) pa_nil)))) (w_or1 (t_notE (t_valE (e_all dw.dx (by rfl) fx.n_all (.own (lcE [.pur (hVar 0)] mkSeq (bName 3) eYes (eK (.fin [.pur (hVar 3)]) (callK [.b] fn_is_move_name)) [3]) (.fin [])) (pa_cons (e_lc (own := [("move", 3)]) dw.dx (i_seq (.pur (hVar 0)) dw.dx (p_var (pv 0))) (blkOk_by (N := N_is_chart) (sc := (defScope s_is_chart)) (by decide +kernel)) bind_name (fun _ _ _ _ _ => (pg_name (i := 3) sc_is_chart.nd rfl (by first | exact .inl rfl | exact .inr rfl))) (fun _ _ _ _ _ => ts_nil) (fun _ _ _ _ _ => (e_call dw.blk (ok_is_move_name (k := k + 0) fx) hr (by rfl) fx.g_is_move_name fx.F_is_move_name.kp fx.b_is_move_name (.fin [.pur (hVar 3)]) (pa_cons (p_var (pv 3)) pa_nil)))) pa_nil))))))).pt (s_cons (s_ret (e_p p_bl))
  s_nil) s_nil)
  (s_cons (s_ifE (w_orE (t_p (t_cmpPP op_gt rop_gt pure_gt (p_len (hs := [.plc 1 (pVar 1)]) dw.dx (by rfl) fx.n_len (pa_cons (p_plc (pv 1)) pa_nil)) p_int)) (w_or1 (t_notE (t_valE (e_call dw (ok_is_rising (k := k + 0) fx) hr (by rfl) fx.g_is_rising fx.F_is_rising.kp fx.b_is_rising (.fin [.plc 1 (pVar 1)]) (pa_cons (p_plc (pv 1)) pa_nil)))))).pt (s_cons (s_ret (e_p p_bl))
  s_nil) s_nil)
  (s_cons (s_for [2, 3, 4] dw.dx hp (i_seq (.plc 1 (pVar 1)) dw.dx (p_plc (pv 1))) (pg_tup rfl (pgs_cons (pg_name (i := 2) sc_is_chart.nd rfl (by first | exact .inl rfl | exact .inr rfl)) (pgs_cons (pg_name (i := 3) sc_is_chart.nd rfl (by first | exact .inl rfl | exact .inr rfl)) (pgs_cons (pg_name (i := 4) sc_is_chart.nd rfl (by first | exact .inl rfl | exact .inr rfl)) pgs_nil)))) (bind_tup rfl (binds_cons bind_name (binds_cons bind_name (binds_cons bind_name binds_nil))) (bCons_len (bCons_len (bCons_len bNil_len)))) (s_cons (s_if (w_or (t_cmpPP (op_notInA dw.dx) rop_notIn pure_notIn (p_var (pv 3)) (p_var (pv 0))) (w_or (t_cmpPP op_ltA rop_lt pure_lt (p_min2 (hs := [.pur (hVar 2), .pur (hVar 4)]) dw.dx (by rfl) fx.n_min (pa_cons (p_var (pv 2)) (pa_cons (p_var (pv 4)) pa_nil))) p_int) (w_or1 (t_cmpPP op_gt rop_gt pure_gt (p_max2 (hs := [.pur (hVar 2), .pur (hVar 4)]) dw.dx (by rfl) fx.n_max (pa_cons (p_var (pv 2)) (pa_cons (p_var (pv 4)) pa_nil))) p_int)))).pt (s_cons (s_ret (e_p p_bl))
  s_nil) s_nil)
  s_nil))
  (s_cons (s_set dw.dx rfl (by first | exact .inl rfl | exact .inr rfl) (e_call dw (ok_states_come_to (k := k + 0) fx) hr (by rfl) fx.g_states_come_to fx.F_states_come_to.kp fx.b_states_come_to (.fin [.plc 1 (pVar 1)]) (pa_cons (p_plc (pv 1)) pa_nil)))
  (s_cons (s_ret (e_all dw.dx (by rfl) fx.n_all (.own (lcE [.own (eK (.fin [.plc 1 (pTup (hVar 0) (pVar 1))]) (callK [.b] fn_states_of))] mkRange1 (bName 6) eYes (eP (hOp [.pur (hVar 6), .plc 5 (pVar 5)] gDIn)) [6]) (.fin [])) (pa_cons (e_lc (own := [("state", 6)]) dw.dx (i_range1 [.own (eK (.fin [.plc 1 (pTup (hVar 0) (pVar 1))]) (callK [.b] fn_states_of))] (by rfl) fx.n_range (pa_cons (e_call dw (ok_states_of (k := k + 0) fx) hr (by rfl) fx.g_states_of fx.F_states_of.kp fx.b_states_of (.fin [.plc 1 (pTup (hVar 0) (pVar 1))]) (pa_cons (p_tpl (pa_cons (p_var (pv 0)) (pa_cons (p_plc (pv 1)) pa_nil))) pa_nil)) pa_nil)) (blkOk_by (N := N_is_chart) (sc := (defScope s_is_chart)) (by decide +kernel)) bind_name (fun _ _ _ _ _ => (pg_name (i := 6) sc_is_chart.nd rfl (by first | exact .inl rfl | exact .inr rfl))) (fun _ _ _ _ _ => ts_nil) (fun _ _ _ _ _ => (e_p (p_din (s1 := .pur (hVar 6)) (s2 := .plc 5 (pVar 5)) dw.blk.dx (p_var (pv 6)) (p_plc (pv 5)))))) pa_nil)))
  s_nil)))))
theorem ok_arc_by {k : Nat} (fx : Fx K mg cl) : FnOk P w K mg base (L2.CX P w) (k + 2) fx.f_arc_by fx.d_arc_by P_arc_by (spD ⟨K, cl, bo⟩ [.b] fn_arc_by) := by
  refine def_ok (k := k + 1) (N := N_arc_by) (ms := [.b]) (body := b_arc_by) fx.F_arc_by sc_arc_by rfl fun cdv A outer s H E W hr dw hp => ?_
  exact (s_cons (s_ifE (w_orE (t_p (t_cmpPP (op_neD (hu_eq1 dw.dx)) rop_ne pure_ne (p_len (hs := [.plc 0 (pVar 0)]) dw.dx (by rfl) fx.n_len (pa_cons (p_plc (pv 0)) pa_nil)) p_int)) (w_orE (t_notE (t_valE (e_call dw (ok_is_number (k := k + 0) fx) hr (by rfl) fx.g_is_number fx.F_is_number.kp fx.b_is_number (.fin [.pur (hRd (pIx (pVar 0) (hC (.int 0))))]) (pa_cons (p_rd (l_ix dw.dx (p_plc (pv 0)) p_int)) pa_nil)))) (w_orE (t_notE (t_valE (e_call dw (ok_is_name (k := k + 0) fx) hr (by rfl) fx.g_is_name fx.F_is_name.kp fx.b_is_name (.fin [.pur (hRd (pIx (pVar 0) (hC (.int 1))))]) (pa_cons (p_rd (l_ix dw.dx (p_plc (pv 0)) p_int)) pa_nil)))) (w_or1 (t_notE (t_valE (e_call dw (ok_is_number (k := k + 0) fx) hr (by rfl) fx.g_is_number fx.F_is_number.kp fx.b_is_number (.fin [.pur (hRd (pIx (pVar 0) (hC (.int 2))))]) (pa_cons (p_rd (l_ix dw.dx (p_plc (pv 0)) p_int)) pa_nil)))))))).pt (s_cons (s_raise dw fx.ecl_NoText)
  s_nil) s_nil)
  (s_cons (s_ret (e_p (p_tup (hs := [.pur (hOp [.pur (hRd (pIx (pVar 0) (hC (.int 0))))] gIntS), .pur (hRd (pIx (pVar 0) (hC (.int 1)))), .pur (hOp [.pur (hRd (pIx (pVar 0) (hC (.int 2))))] gIntS)]) (pa_cons (p_intS (hs := [.pur (hRd (pIx (pVar 0) (hC (.int 0))))]) dw.dx (by rfl) fx.n_int (pa_cons (p_rd (l_ix dw.dx (p_plc (pv 0)) p_int)) pa_nil)) (pa_cons (p_rd (l_ix dw.dx (p_plc (pv 0)) p_int)) (pa_cons (p_intS (hs := [.pur (hRd (pIx (pVar 0) (hC (.int 2))))]) dw.dx (by rfl) fx.n_int (pa_cons (p_rd (l_ix dw.dx (p_plc (pv 0)) p_int)) pa_nil)) pa_nil))))))
  s_nil))
theorem ok_read_chart {k : Nat} (fx : Fx K mg cl) : FnOk P w K mg base (L2.CX P w) (k + 4) fx.f_read_chart fx.d_read_chart P_read_chart (spD ⟨K, cl, bo⟩ [.b] fn_read_chart) := by
  refine def_ok (k := k + 3) (N := N_read_chart) (ms := [.b]) (body := b_read_chart) fx.F_read_chart sc_read_chart rfl fun cdv A outer s H E W hr dw hp => ?_
  exact (s_cons (s_set dw.dx rfl (by first | exact .inl rfl | exact .inr rfl) (e_call dw (ok_parts_between (k := k + 2) fx) hr (by rfl) fx.g_parts_between fx.F_parts_between.kp fx.b_parts_between (.own (eK (.fin [.plc 0 (pVar 0)]) (callK [.b] fn_words)) (.fin [])) (pa_cons (e_call dw (ok_words (k := k + 0) fx) hr (by rfl) fx.g_words fx.F_words.kp fx.b_words (.fin [.plc 0 (pVar 0)]) (pa_cons (p_plc (pv 0)) pa_nil)) pa_nil)))
  (s_cons (s_set dw.dx rfl (by first | exact .inl rfl | exact .inr rfl) (e_call dw (ok_moves_by (k := k + 1) fx) hr (by rfl) fx.g_moves_by fx.F_moves_by.kp fx.b_moves_by (.fin [.plc 1 (pIx (pVar 1) (hC (.int 0)))]) (pa_cons (l_ix dw.dx (p_plc (pv 1)) p_int) pa_nil)))
  (s_cons (s_setLc (own := [("part", 5)]) dw.dx rfl rfl (sw_true rfl rfl rfl (by decide +kernel)) (i_tail dw.dx (p_plc (pv 1)) p_int) (blkOk_by (N := N_read_chart) (sc := (defScope s_read_chart)) (by decide +kernel)) bind_name (fun _ _ _ _ _ => (pg_name (i := 5) sc_read_chart.nd rfl (by first | exact .inl rfl | exact .inr rfl))) (fun _ _ _ _ _ => ts_nil) (fun _ _ _ _ _ => (e_call dw.blk (ok_arc_by (k := k + 1) fx) hr (by rfl) fx.g_arc_by fx.F_arc_by.kp fx.b_arc_by (.fin [.plc 5 (pVar 5)]) (pa_cons (p_plc (pv 5)) pa_nil))))
  (s_cons (s_if (t_cmpPP op_gt rop_gt pure_gt (p_len (hs := [.plc 3 (pVar 3)]) dw.dx (by rfl) fx.n_len (pa_cons (p_plc (pv 3)) pa_nil)) p_int) (s_cons (s_raise dw fx.ecl_NoText)
  s_nil) s_nil)
  (s_cons (s_set dw.dx rfl (by first | exact .inl rfl | exact .inr rfl) (e_tup (.own (eOp (.own (eOp (.fin [.plc 2 (pVar 2)]) gSorted) (.fin [])) gTupOf) (.own (eOp (.fin [.plc 3 (pVar 3)]) gSorted) (.fin []))) (pa_cons (e_tupOf dw.dx (by rfl) fx.n_tuple (.own (eOp (.fin [.plc 2 (pVar 2)]) gSorted) (.fin [])) (pa_cons (e_sorted dw.dx (by rfl) fx.n_sorted (.fin [.plc 2 (pVar 2)]) (pa_cons (p_plc (pv 2)) pa_nil)) pa_nil)) (pa_cons (e_sorted dw.dx (by rfl) fx.n_sorted (.fin [.plc 3 (pVar 3)]) (pa_cons (p_plc (pv 3)) pa_nil)) pa_nil))))
  (s_cons (s_ifE (t_notE (t_valE (e_call dw (ok_is_chart (k := k + 1) fx) hr (by rfl) fx.g_is_chart fx.F_is_chart.kp fx.b_is_chart (.fin [.pur (hRd (pIx (pVar 4) (hC (.int 0)))), .plc 4 (pIx (pVar 4) (hC (.int 1)))]) (pa_cons (p_rd (l_ix dw.dx (p_plc (pv 4)) p_int)) (pa_cons (l_ix dw.dx (p_plc (pv 4)) p_int) pa_nil))))) (s_cons (s_raise dw fx.ecl_NoChart)
  s_nil) s_nil)
  (s_cons (s_ret (e_mov (pv 4)))
  s_nil)))))))
theorem ok_place_by {k : Nat} (fx : Fx K mg cl) : FnOk P w K mg base (L2.CX P w) (k + 2) fx.f_place_by fx.d_place_by P_place_by (spD ⟨K, cl, bo⟩ [.b] fn_place_by) := by
  refine def_ok (k := k + 1) (N := N_place_by) (ms := [.b]) (body := b_place_by) fx.F_place_by sc_place_by rfl fun cdv A outer s H E W hr dw hp => ?_
  exact (s_cons (s_ifE (w_orE (t_cmpE (op_eqD (hu_eq1 dw.dx)) rop_eq (.plc 0 (pVar 0) (.own (eK (.fin []) (dspK .lst)) (.fin []))) (p_plc (pv 0)) (e_lst (.fin []) pa_nil)) (w_orE (t_p (t_cmpPP (op_neD (hu_eq1 dw.dx)) rop_ne pure_ne (p_binPP op_mod rop_mod pure_mod (p_len (hs := [.plc 0 (pVar 0)]) dw.dx (by rfl) fx.n_len (pa_cons (p_plc (pv 0)) pa_nil)) p_int) p_int)) (w_or1 (t_notE (t_valE (e_call dw (ok_is_number (k := k + 0) fx) hr (by rfl) fx.g_is_number fx.F_is_number.kp fx.b_is_number (.fin [.pur (hRd (pIx (pVar 0) (hC (.int 0))))]) (pa_cons (p_rd (l_ix dw.dx (p_plc (pv 0)) p_int)) pa_nil))))))).pt (s_cons (s_raise dw fx.ecl_NoText)
  s_nil) s_nil)
  (s_cons (s_set dw.dx rfl (by first | exact .inl rfl | exact .inr rfl) (e_lst (.fin []) pa_nil))
  (s_cons (s_for [2] dw.dx hp (i_range3 [.pur (hC (.int 1)), .pur (hOp [.plc 0 (pVar 0)] gLen), .pur (hC (.int 3))] (by rfl) fx.n_range (pa_cons p_int (pa_cons (p_len (hs := [.plc 0 (pVar 0)]) dw.dx (by rfl) fx.n_len (pa_cons (p_plc (pv 0)) pa_nil)) (pa_cons p_int pa_nil)))) (pg_name (i := 2) sc_place_by.nd rfl (by first | exact .inl rfl | exact .inr rfl)) bind_name (s_cons (s_ifE (w_orE (t_notE (t_valE (e_call dw (ok_is_name (k := k + 0) fx) hr (by rfl) fx.g_is_name fx.F_is_name.kp fx.b_is_name (.fin [.pur (hRd (pIx (pVar 0) (hVar 2)))]) (pa_cons (p_rd (l_ix dw.dx (p_plc (pv 0)) (p_var (pv 2)))) pa_nil)))) (w_orE (t_notE (t_valE (e_call dw (ok_is_number (k := k + 0) fx) hr (by rfl) fx.g_is_number fx.F_is_number.kp fx.b_is_number (.fin [.pur (hRd (pIx (pVar 0) (hOp [.pur (hVar 2), .pur (hC (.int 1))] gAdd)))]) (pa_cons (p_rd (l_ix dw.dx (p_plc (pv 0)) (p_binPP op_addA rop_add pure_add (p_var (pv 2)) p_int))) pa_nil)))) (w_or1 (t_notE (t_valE (e_call dw (ok_is_number (k := k + 0) fx) hr (by rfl) fx.g_is_number fx.F_is_number.kp fx.b_is_number (.fin [.pur (hRd (pIx (pVar 0) (hOp [.pur (hVar 2), .pur (hC (.int 2))] gAdd)))]) (pa_cons (p_rd (l_ix dw.dx (p_plc (pv 0)) (p_binPP op_addA rop_add pure_add (p_var (pv 2)) p_int))) pa_nil))))))).pt (s_cons (s_raise dw fx.ecl_NoText)
  s_nil) s_nil)
  (s_cons (s_expr (e_append dw.dx (pv 1) (.fin [.pur (hOp [.pur (hRd (pIx (pVar 0) (hVar 2))), .pur (hOp [.pur (hRd (pIx (pVar 0) (hOp [.pur (hVar 2), .pur (hC (.int 1))] gAdd)))] gIntS), .pur (hOp [.pur (hRd (pIx (pVar 0) (hOp [.pur (hVar 2), .pur (hC (.int 2))] gAdd)))] gIntS)] fTup)]) (pa_cons (p_tup (hs := [.pur (hRd (pIx (pVar 0) (hVar 2))), .pur (hOp [.pur (hRd (pIx (pVar 0) (hOp [.pur (hVar 2), .pur (hC (.int 1))] gAdd)))] gIntS), .pur (hOp [.pur (hRd (pIx (pVar 0) (hOp [.pur (hVar 2), .pur (hC (.int 2))] gAdd)))] gIntS)]) (pa_cons (p_rd (l_ix dw.dx (p_plc (pv 0)) (p_var (pv 2)))) (pa_cons (p_intS (hs := [.pur (hRd (pIx (pVar 0) (hOp [.pur (hVar 2), .pur (hC (.int 1))] gAdd)))]) dw.dx (by rfl) fx.n_int (pa_cons (p_rd (l_ix dw.dx (p_plc (pv 0)) (p_binPP op_addA rop_add pure_add (p_var (pv 2)) p_int))) pa_nil)) (pa_cons (p_intS (hs := [.pur (hRd (pIx (pVar 0) (hOp [.pur (hVar 2), .pur (hC (.int 2))] gAdd)))]) dw.dx (by rfl) fx.n_int (pa_cons (p_rd (l_ix dw.dx (p_plc (pv 0)) (p_binPP op_addA rop_add pure_add (p_var (pv 2)) p_int))) pa_nil)) pa_nil)))) pa_nil)))
  s_nil)))
  (s_cons (s_ret (e_tup (.pur (hOp [.pur (hRd (pIx (pVar 0) (hC (.int 0))))] gIntS) (.own (eMov 1) (.fin []))) (pa_cons (p_intS (hs := [.pur (hRd (pIx (pVar 0) (hC (.int 0))))]) dw.dx (by rfl) fx.n_int (pa_cons (p_rd (l_ix dw.dx (p_plc (pv 0)) p_int)) pa_nil)) (pa_cons (e_mov (pv 1)) pa_nil))))
  s_nil))))
theorem ok_place_for {k : Nat} (fx : Fx K mg cl) : FnOk P w K mg base (L2.CX P w) (k + 1) fx.f_place_for fx.d_place_for P_place_for (spD ⟨K, cl, bo⟩ [.b, .b, .b] fn_place_for) := by
  refine def_ok (k := k + 0) (N := N_place_for) (ms := [.b, .b, .b]) (body := b_place_for) fx.F_place_for sc_place_for rfl fun cdv A outer s H E W hr dw hp => ?_
  exact (s_cons (s_set dw.dx rfl (by first | exact .inl rfl | exact .inr rfl) e_newK)
  (s_cons (s_set dw.dx rfl (by first | exact .inl rfl | exact .inr rfl) e_newK)
  (s_cons (s_for [5, 6, 7] dw.dx hp (i_seq (.plc 2 (pVar 2)) dw.dx (p_plc (pv 2))) (pg_tup rfl (pgs_cons (pg_name (i := 5) sc_place_for.nd rfl (by first | exact .inl rfl | exact .inr rfl)) (pgs_cons (pg_name (i := 6) sc_place_for.nd rfl (by first | exact .inl rfl | exact .inr rfl)) (pgs_cons (pg_name (i := 7) sc_place_for.nd rfl (by first | exact .inl rfl | exact .inr rfl)) pgs_nil)))) (bind_tup rfl (binds_cons bind_name (binds_cons bind_name (binds_cons bind_name binds_nil))) (bCons_len (bCons_len (bCons_len bNil_len)))) (s_cons (s_if (w_or (t_cmpPP (op_notInA dw.dx) rop_notIn pure_notIn (p_var (pv 5)) (p_var (pv 0))) (w_or1 (t_din (s1 := .pur (hVar 5)) (s2 := .plc 3 (pVar 3)) dw.dx (p_var (pv 5)) (p_plc (pv 3))))).pt (s_cons (s_raise dw fx.ecl_NoNet)
  s_nil) s_nil)
  (s_cons (s_setD dw.dx (.pur (hVar 6) (.io 3 (.fin [.pur (hVar 5)]))) (p_var (pv 6)) (pv 3) (p_var (pv 5)))
  (s_cons (s_setD dw.dx (.pur (hVar 7) (.io 4 (.fin [.pur (hVar 5)]))) (p_var (pv 7)) (pv 4) (p_var (pv 5)))
  s_nil))))
  (s_cons (s_ret (e_tup (.pur (hVar 1) (.own (eOp (.own (lcE [.pur (hVar 0)] mkSeq (bName 8) eYes (eP (hOp [.plt 3 (pVar 3) (tyD "dict"), .pur (hVar 8), .pur (hC (.int 0))] gDGet2)) [8]) (.fin [])) gTupOf) (.own (eOp (.own (lcE [.pur (hVar 0)] mkSeq (bName 8) eYes (eP (hOp [.plt 4 (pVar 4) (tyD "dict"), .pur (hVar 8), .pur (hC (.int 0))] gDGet2)) [8]) (.fin [])) gTupOf) (.fin [])))) (pa_cons (p_var (pv 1)) (pa_cons (e_tupOf dw.dx (by rfl) fx.n_tuple (.own (lcE [.pur (hVar 0)] mkSeq (bName 8) eYes (eP (hOp [.plt 3 (pVar 3) (tyD "dict"), .pur (hVar 8), .pur (hC (.int 0))] gDGet2)) [8]) (.fin [])) (pa_cons (e_lc (own := [("move", 8)]) dw.dx (i_seq (.pur (hVar 0)) dw.dx (p_var (pv 0))) (blkOk_by (N := N_place_for) (sc := (defScope s_place_for)) (by decide +kernel)) bind_name (fun _ _ _ _ _ => (pg_name (i := 8) sc_place_for.nd rfl (by first | exact .inl rfl | exact .inr rfl))) (fun _ _ _ _ _ => ts_nil) (fun _ _ _ _ _ => (e_p (p_dget2 (hs := [.pur (hVar 8), .pur (hC (.int 0))]) dw.blk.dx (p_plc (pv 3)) (pa_cons (p_var (pv 8)) (pa_cons p_int pa_nil)))))) pa_nil)) (pa_cons (e_tupOf dw.dx (by rfl) fx.n_tuple (.own (lcE [.pur (hVar 0)] mkSeq (bName 8) eYes (eP (hOp [.plt 4 (pVar 4) (tyD "dict"), .pur (hVar 8), .pur (hC (.int 0))] gDGet2)) [8]) (.fin [])) (pa_cons (e_lc (own := [("move", 8)]) dw.dx (i_seq (.pur (hVar 0)) dw.dx (p_var (pv 0))) (blkOk_by (N := N_place_for) (sc := (defScope s_place_for)) (by decide +kernel)) bind_name (fun _ _ _ _ _ => (pg_name (i := 8) sc_place_for.nd rfl (by first | exact .inl rfl | exact .inr rfl))) (fun _ _ _ _ _ => ts_nil) (fun _ _ _ _ _ => (e_p (p_dget2 (hs := [.pur (hVar 8), .pur (hC (.int 0))]) dw.blk.dx (p_plc (pv 4)) (pa_cons (p_var (pv 8)) (pa_cons p_int pa_nil)))))) pa_nil)) pa_nil)))))
  s_nil))))
theorem ok_read_net {k : Nat} (fx : Fx K mg cl) : FnOk P w K mg base (L2.CX P w) (k + 4) fx.f_read_net fx.d_read_net P_read_net (spD ⟨K, cl, bo⟩ [.b] fn_read_net) := by
  refine def_ok (k := k + 3) (N := N_read_net) (ms := [.b]) (body := b_read_net) fx.F_read_net sc_read_net rfl fun cdv A outer s H E W hr dw hp => ?_
  exact (s_cons (s_set dw.dx rfl (by first | exact .inl rfl | exact .inr rfl) (e_call dw (ok_parts_between (k := k + 2) fx) hr (by rfl) fx.g_parts_between fx.F_parts_between.kp fx.b_parts_between (.own (eK (.fin [.plc 0 (pVar 0)]) (callK [.b] fn_words)) (.fin [])) (pa_cons (e_call dw (ok_words (k := k + 0) fx) hr (by rfl) fx.g_words fx.F_words.kp fx.b_words (.fin [.plc 0 (pVar 0)]) (pa_cons (p_plc (pv 0)) pa_nil)) pa_nil)))
  (s_cons (s_set dw.dx rfl (by first | exact .inl rfl | exact .inr rfl) (e_call dw (ok_moves_by (k := k + 1) fx) hr (by rfl) fx.g_moves_by fx.F_moves_by.kp fx.b_moves_by (.fin [.plc 1 (pIx (pVar 1) (hC (.int 0)))]) (pa_cons (l_ix dw.dx (p_plc (pv 1)) p_int) pa_nil)))
  (s_cons (s_setLc (own := [("part", 5)]) dw.dx rfl rfl (sw_true rfl rfl rfl (by decide +kernel)) (i_tail dw.dx (p_plc (pv 1)) p_int) (blkOk_by (N := N_read_net) (sc := (defScope s_read_net)) (by decide +kernel)) bind_name (fun _ _ _ _ _ => (pg_name (i := 5) sc_read_net.nd rfl (by first | exact .inl rfl | exact .inr rfl))) (fun _ _ _ _ _ => ts_nil) (fun _ _ _ _ _ => (e_call dw.blk (ok_place_by (k := k + 1) fx) hr (by rfl) fx.g_place_by fx.F_place_by.kp fx.b_place_by (.fin [.plc 5 (pVar 5)]) (pa_cons (p_plc (pv 5)) pa_nil))))
  (s_cons (s_if (t_cmpPP op_gt rop_gt pure_gt (p_len (hs := [.plc 3 (pVar 3)]) dw.dx (by rfl) fx.n_len (pa_cons (p_plc (pv 3)) pa_nil)) p_int) (s_cons (s_raise dw fx.ecl_NoText)
  s_nil) s_nil)
  (s_cons (s_ifE (t_cmpE op_ltA rop_lt (.own (eOp (.fin [.plc 2 (pVar 2)]) gDistS) (.fin [.pur (hOp [.plc 2 (pVar 2)] gLen)])) (e_distS dw.dx (.fin [.plc 2 (pVar 2)]) (by rfl) fx.n_len (by rfl) fx.n_set (p_plc (pv 2))) (p_len (hs := [.plc 2 (pVar 2)]) dw.dx (by rfl) fx.n_len (pa_cons (p_plc (pv 2)) pa_nil))) (s_cons (s_raise dw fx.ecl_NoNet)
  s_nil) s_nil)
  (s_cons (s_set dw.dx rfl (by first | exact .inl rfl | exact .inr rfl) (e_tupOf dw.dx (by rfl) fx.n_tuple (.own (eOp (.fin [.plc 2 (pVar 2)]) gSorted) (.fin [])) (pa_cons (e_sorted dw.dx (by rfl) fx.n_sorted (.fin [.plc 2 (pVar 2)]) (pa_cons (p_plc (pv 2)) pa_nil)) pa_nil)))
  (s_cons (s_ret (e_tup (.pur (hVar 4) (.own (lcE [.plc 3 (pVar 3)] mkSeq (bTup (bCons (bName 6) (bCons (bName 7) bNil))) eYes (eK (.fin [.pur (hVar 4), .pur (hVar 6), .plc 7 (pVar 7)]) (callK [.b, .b, .b] fn_place_for)) [6, 7]) (.fin []))) (pa_cons (p_var (pv 4)) (pa_cons (e_lc (own := [("beads", 6), ("told", 7)]) dw.dx (i_seq (.plc 3 (pVar 3)) dw.dx (p_plc (pv 3))) (blkOk_by (N := N_read_net) (sc := (defScope s_read_net)) (by decide +kernel)) (bind_tup rfl (binds_cons bind_name (binds_cons bind_name binds_nil)) (bCons_len (bCons_len bNil_len))) (fun _ _ _ _ _ => (pg_tup rfl (pgs_cons (pg_name (i := 6) sc_read_net.nd rfl (by first | exact .inl rfl | exact .inr rfl)) (pgs_cons (pg_name (i := 7) sc_read_net.nd rfl (by first | exact .inl rfl | exact .inr rfl)) pgs_nil)))) (fun _ _ _ _ _ => ts_nil) (fun _ _ _ _ _ => (e_call dw.blk (ok_place_for (k := k + 2) fx) hr (by rfl) fx.g_place_for fx.F_place_for.kp fx.b_place_for (.fin [.pur (hVar 4), .pur (hVar 6), .plc 7 (pVar 7)]) (pa_cons (p_var (pv 4)) (pa_cons (p_var (pv 6)) (pa_cons (p_plc (pv 7)) pa_nil)))))) pa_nil))))
  s_nil)))))))
theorem ok_law_cell_at {k : Nat} (fx : Fx K mg cl) : FnOk P w K mg base (L2.CX P w) (k + 1) fx.f_law_cell_at fx.d_law_cell_at P_law_cell_at (spD ⟨K, cl, bo⟩ [.b, .b] fn_law_cell_at) := by
  refine def_ok (k := k + 0) (N := N_law_cell_at) (ms := [.b, .b]) (body := b_law_cell_at) fx.F_law_cell_at sc_law_cell_at rfl fun cdv A outer s H E W hr dw hp => ?_
  exact (s_cons (s_if (t_cmpPP op_ltA rop_lt pure_lt (p_var (pv 1)) (p_len (hs := [.plc 0 (pVar 0)]) dw.dx (by rfl) fx.n_len (pa_cons (p_plc (pv 0)) pa_nil))) (s_cons (s_ret (e_p (p_ixo (s1 := .plc 0 (pVar 0)) (s2 := .pur (hVar 1)) dw.dx (p_plc (pv 0)) (p_var (pv 1)))))
  s_nil) s_nil)
  (s_cons (s_ret (e_p p_int))
  s_nil))
theorem ok_law_word_by {k : Nat} (fx : Fx K mg cl) : FnOk P w K mg base (L2.CX P w) (k + 1) fx.f_law_word_by fx.d_law_word_by P_law_word_by (spD ⟨K, cl, bo⟩ [.b] fn_law_word_by) := by
  refine def_ok (k := k + 0) (N := N_law_word_by) (ms := [.b]) (body := b_law_word_by) fx.F_law_word_by sc_law_word_by rfl fun cdv A outer s H E W hr dw hp => ?_
  exact (s_cons (s_set dw.dx rfl (by first | exact .inl rfl | exact .inr rfl) (e_p (p_binPP op_mod rop_mod pure_mod (p_var (pv 0)) (p_binPP op_pow rop_pow pure_pow p_int p_int))))
  (s_cons (s_if (t_cmpPP (op_eqD (hu_eq1 dw.dx)) rop_eq pure_eq (p_binPP op_mod rop_mod pure_mod (p_var (pv 1)) p_int) p_int) (s_cons (s_ret (e_ixo dw.dx (.own (eK (.fin [.pur (hC (.str "moves")), .pur (hC (.str "a")), .pur (hC (.str "b")), .pur (hC (.str "zz"))]) (dspK .lst)) (.fin [.pur (hOp [.pur (hOp [.pur (hVar 1), .pur (hC (.int 3))] gDiv), .pur (hC (.int 4))] gMod)])) (e_lst (.fin [.pur (hC (.str "moves")), .pur (hC (.str "a")), .pur (hC (.str "b")), .pur (hC (.str "zz"))]) (pa_cons p_str (pa_cons p_str (pa_cons p_str (pa_cons p_str pa_nil))))) (p_binPP op_mod rop_mod pure_mod (p_binPP op_fdivW rop_div pure_div (p_var (pv 1)) p_int) p_int)))
  s_nil) s_nil)
  (s_cons (s_if (t_cmpPP (op_eqD (hu_eq1 dw.dx)) rop_eq pure_eq (p_binPP op_mod rop_mod pure_mod (p_var (pv 1)) p_int) p_int) (s_cons (s_ret (e_p (p_str1 (hs := [.pur (hOp [.pur (hOp [.pur (hVar 1), .pur (hC (.int 3))] gDiv), .pur (hOp [.pur (hC (.int 10)), .pur (hC (.int 60))] gPow)] gMod)]) dw.dx (by rfl) fx.n_str (pa_cons (p_binPP op_mod rop_mod pure_mod (p_binPP op_fdivW rop_div pure_div (p_var (pv 1)) p_int) (p_binPP op_pow rop_pow pure_pow p_int p_int)) pa_nil))))
  s_nil) s_nil)
  (s_cons (s_ret (e_p p_str))
  s_nil))))
theorem ok_law_figures {k : Nat} (fx : Fx K mg cl) : FnOk P w K mg base (L2.CX P w) (k + 1) fx.f_law_figures fx.d_law_figures P_law_figures (spD ⟨K, cl, bo⟩ [.b, .b] fn_law_figures) := by
  refine def_ok (k := k + 0) (N := N_law_figures) (ms := [.b, .b]) (body := b_law_figures) fx.F_law_figures sc_law_figures rfl fun cdv A outer s H E W hr dw hp => ?_
  exact (s_cons (s_set dw.dx rfl (by first | exact .inl rfl | exact .inr rfl) (e_p p_str))
  (s_cons (s_for [3] dw.dx hp (i_range1 [.pur (hVar 1)] (by rfl) fx.n_range (pa_cons (p_var (pv 1)) pa_nil)) (pg_name (i := 3) sc_law_figures.nd rfl (by first | exact .inl rfl | exact .inr rfl)) bind_name (s_cons (s_set dw.dx rfl (by first | exact .inl rfl | exact .inr rfl) (e_p (p_binPP op_addA rop_add pure_add (p_binPP op_mod rop_mod pure_mod (p_binPP op_mulD rop_mul pure_mul (p_var (pv 0)) p_int) p_int) p_int)))
  (s_cons (s_set dw.dx rfl (by first | exact .inl rfl | exact .inr rfl) (e_p (p_binPP op_addA rop_add pure_add (p_var (pv 2)) (p_ixo (s1 := .pur (hC (.str "0123456789"))) (s2 := .pur (hOp [.pur (hVar 0), .pur (hC (.int 10))] gMod)) dw.dx p_str (p_binPP op_mod rop_mod pure_mod (p_var (pv 0)) p_int)))))
  s_nil)))
  (s_cons (s_ret (e_p (p_var (pv 2))))
  s_nil)))
theorem ok_law_bad_by {k : Nat} (fx : Fx K mg cl) : FnOk P w K mg base (L2.CX P w) (k + 2) fx.f_law_bad_by fx.d_law_bad_by P_law_bad_by (spD ⟨K, cl, bo⟩ [.b] fn_law_bad_by) := by
  refine def_ok (k := k + 1) (N := N_law_bad_by) (ms := [.b]) (body := b_law_bad_by) fx.F_law_bad_by sc_law_bad_by rfl fun cdv A outer s H E W hr dw hp => ?_
  exact (s_cons (s_set dw.dx rfl (by first | exact .inl rfl | exact .inr rfl) (e_p (p_binPP op_mod rop_mod pure_mod (p_binPP op_fdivW rop_div pure_div (p_var (pv 0)) p_int) (p_binPP op_pow rop_pow pure_pow p_int p_int))))
  (s_cons (s_set dw.dx rfl (by first | exact .inl rfl | exact .inr rfl) (e_p (p_binPP op_mod rop_mod pure_mod (p_var (pv 0)) p_int)))
  (s_cons (s_if (t_cmpPP (op_eqD (hu_eq1 dw.dx)) rop_eq pure_eq (p_var (pv 2)) p_int) (s_cons (s_set dw.dx rfl (by first | exact .inl rfl | exact .inr rfl) (e_p p_str))
  (s_cons (s_ret (e_p (p_ixo (s1 := .pur (hVar 3)) (s2 := .pur (hOp [.pur (hVar 1), .pur (hOp [.pur (hVar 3)] gLen)] gMod)) dw.dx (p_var (pv 3)) (p_binPP op_mod rop_mod pure_mod (p_var (pv 1)) (p_len (hs := [.pur (hVar 3)]) dw.dx (by rfl) fx.n_len (pa_cons (p_var (pv 3)) pa_nil))))))
  s_nil)) s_nil)
  (s_cons (s_if (t_cmpPP (op_eqD (hu_eq1 dw.dx)) rop_eq pure_eq (p_var (pv 2)) p_int) (s_cons (s_ret (e_bin op_addA rop_add (.pur (hC (.str "7")) (.own (eK (.fin [.pur (hVar 1), .pur (hOp [.pur (hC (.int 60)), .pur (hOp [.pur (hOp [.pur (hVar 1), .pur (hC (.int 2))] gDiv), .pur (hC (.int 30))] gMod)] gAdd)]) (callK [.b, .b] fn_law_figures)) (.fin []))) p_str (e_call dw (ok_law_figures (k := k + 0) fx) hr (by rfl) fx.g_law_figures fx.F_law_figures.kp fx.b_law_figures (.fin [.pur (hVar 1), .pur (hOp [.pur (hC (.int 60)), .pur (hOp [.pur (hOp [.pur (hVar 1), .pur (hC (.int 2))] gDiv), .pur (hC (.int 30))] gMod)] gAdd)]) (pa_cons (p_var (pv 1)) (pa_cons (p_binPP op_addA rop_add pure_add p_int (p_binPP op_mod rop_mod pure_mod (p_binPP op_fdivW rop_div pure_div (p_var (pv 1)) p_int) p_int)) pa_nil)))))
  s_nil) s_nil)
  (s_cons (s_ret (e_bin op_addA rop_add (.pur (hC (.str "0")) (.own (eK (.fin [.pur (hVar 1), .pur (hOp [.pur (hC (.int 1)), .pur (hOp [.pur (hOp [.pur (hVar 1), .pur (hC (.int 2))] gDiv), .pur (hC (.int 9))] gMod)] gAdd)]) (callK [.b, .b] fn_law_figures)) (.fin []))) p_str (e_call dw (ok_law_figures (k := k + 0) fx) hr (by rfl) fx.g_law_figures fx.F_law_figures.kp fx.b_law_figures (.fin [.pur (hVar 1), .pur (hOp [.pur (hC (.int 1)), .pur (hOp [.pur (hOp [.pur (hVar 1), .pur (hC (.int 2))] gDiv), .pur (hC (.int 9))] gMod)] gAdd)]) (pa_cons (p_var (pv 1)) (pa_cons (p_binPP op_addA rop_add pure_add p_int (p_binPP op_mod rop_mod pure_mod (p_binPP op_fdivW rop_div pure_div (p_var (pv 1)) p_int) p_int)) pa_nil)))))
  s_nil)))))
theorem ok_law_refused {k : Nat} (fx : Fx K mg cl) : FnOk P w K mg base (L2.CX P w) (k + 5) fx.f_law_refused fx.d_law_refused P_law_refused (spD ⟨K, cl, bo⟩ [.b, .b] fn_law_refused) := by
  refine def_ok (k := k + 4) (N := N_law_refused) (ms := [.b, .b]) (body := b_law_refused) fx.F_law_refused sc_law_refused rfl fun cdv A outer s H E W hr dw hp => ?_
  exact (s_cons (s_set dw.dx rfl (by first | exact .inl rfl | exact .inr rfl) (e_p p_non))
  (s_keep (i := 3) (ix := 2) (ks := []) (cs := ["NoChart", "NoNet", "NoText"]) (ns := []) (fe := hTab [("NoChart", (sSeq (sIf (hOr (hNot (hB (hIsE 2 "NoChart" false))) (hNot (hB (hIsE 2 "NoChart" true)))) (sSeq (sRet (eP (hC (.bl false))))
  sNop) sNop)
  (sSeq (sIf (hOr (hB (hIsE 2 "NoChart" true)) (hOr (hB (hIsE 2 "NoChart" false)) (hB (hIsE 2 "NoChart" false)))) (sSeq (sRet (eP (hC (.bl false))))
  sNop) sNop)
  (sSeq (sIf (hOr (hB (hIsE 2 "NoChart" false)) (hOr (hB (hIsE 2 "NoChart" false)) (hB (hIsE 2 "NoChart" false)))) (sSeq (sRet (eP (hC (.bl false))))
  sNop) sNop)
  (sSeq (sRet (eP (hNotV (hIsE 2 "NoChart" false))))
  sNop))))), ("NoNet", (sSeq (sIf (hOr (hNot (hB (hIsE 2 "NoNet" false))) (hNot (hB (hIsE 2 "NoNet" true)))) (sSeq (sRet (eP (hC (.bl false))))
  sNop) sNop)
  (sSeq (sIf (hOr (hB (hIsE 2 "NoNet" false)) (hOr (hB (hIsE 2 "NoNet" true)) (hB (hIsE 2 "NoNet" false)))) (sSeq (sRet (eP (hC (.bl false))))
  sNop) sNop)
  (sSeq (sIf (hOr (hB (hIsE 2 "NoNet" false)) (hOr (hB (hIsE 2 "NoNet" false)) (hB (hIsE 2 "NoNet" false)))) (sSeq (sRet (eP (hC (.bl false))))
  sNop) sNop)
  (sSeq (sRet (eP (hNotV (hIsE 2 "NoNet" false))))
  sNop))))), ("NoText", (sSeq (sIf (hOr (hNot (hB (hIsE 2 "NoText" true))) (hNot (hB (hIsE 2 "NoText" true)))) (sSeq (sRet (eP (hC (.bl false))))
  sNop) sNop)
  (sSeq (sIf (hOr (hB (hIsE 2 "NoText" false)) (hOr (hB (hIsE 2 "NoText" false)) (hB (hIsE 2 "NoText" false)))) (sSeq (sRet (eP (hC (.bl false))))
  sNop) sNop)
  (sSeq (sIf (hOr (hB (hIsE 2 "NoText" false)) (hOr (hB (hIsE 2 "NoText" false)) (hB (hIsE 2 "NoText" false)))) (sSeq (sRet (eP (hC (.bl false))))
  sNop) sNop)
  (sSeq (sRet (eP (hNotV (hIsE 2 "NoText" false))))
  sNop)))))]) dw fx.x0 fx.xm_NetError (clof_cons fx.xl_NoChart fx.xq_NoChart_NetError (clof_cons fx.xl_NoNet fx.xq_NoNet_NetError (clof_cons fx.xl_NoText fx.xq_NoText_NetError clof_nil))) clof_nil rfl (fun W' pn xe dwt hp => (s_cons (s_expr (e_ask dwt (ask_cons ⟨_, _, _, _, ok_words (k := k + 1) fx, hr, fx.F_words.kp, fx.b_words, fx.fv_words⟩ (ask_cons ⟨_, _, _, _, ok_read_chart (k := k + 0) fx, hr, fx.F_read_chart.kp, fx.b_read_chart, fx.fv_read_chart⟩ (ask_cons ⟨_, _, _, _, ok_read_net (k := k + 0) fx, hr, fx.F_read_net.kp, fx.b_read_net, fx.fv_read_net⟩ ask_nil))) rfl (by first | exact .inl rfl | exact .inr rfl) (.fin [.plc 1 (pVar 1)]) (pa_cons (p_plc (pv 1)) pa_nil)))
  s_nil)) (fun a oe pn => s_keepA dw.dx.nd rfl (by first | exact .inl rfl | exact .inr rfl) (pv 3)) (fun a oe C pn c hC hm hz hf => by
    simp only [List.mem_cons, List.not_mem_nil, or_false] at hm
    rcases hm with rfl | rfl | rfl
    · obtain rfl : C = fx.X_NoChart := Option.some.inj (hC.symm.trans fx.xl_NoChart)
      rw [hTab_here]
      exact (s_cons (s_if (w_or (t_not (t_val (p_isK dw a pn (cv := (.ref fx.X_NoText)) (cu := (.ref fx.X_NoText)) fx.xy_NoChart hz hf (pv 2) (pe_glob (by rfl) fx.xm_NoText (by rfl)) (fun _ r => r) fx.xi_NoChart_NoText fx.n_isinstance))) (w_or1 (t_not (t_val (p_isK dw a pn (cv := (.ty "ValueError")) (cu := (.type "ValueError")) fx.xy_NoChart hz hf (pv 2) (pe_bltn (v := .ty "ValueError") (by rfl) fx.n_ValueError (by rfl) (by rfl)) (fun _ r => r) fx.xi_NoChart_ValueError fx.n_isinstance))))).pt (s_cons (s_ret (e_p p_bl))
  s_nil) s_nil)
  (s_cons (s_if (w_or (t_val (p_isK dw a pn (cv := (.ref fx.X_NoChart)) (cu := (.ref fx.X_NoChart)) fx.xy_NoChart hz hf (pv 2) (pe_glob (by rfl) fx.xm_NoChart (by rfl)) (fun _ r => r) fx.xi_NoChart_NoChart fx.n_isinstance)) (w_or (t_val (p_isK dw a pn (cv := (.ref fx.X_NoNet)) (cu := (.ref fx.X_NoNet)) fx.xy_NoChart hz hf (pv 2) (pe_glob (by rfl) fx.xm_NoNet (by rfl)) (fun _ r => r) fx.xi_NoChart_NoNet fx.n_isinstance)) (w_or1 (t_val (p_isK dw a pn (cv := (.ref fx.X_TooGreat)) (cu := (.ref fx.X_TooGreat)) fx.xy_NoChart hz hf (pv 2) (pe_glob (by rfl) fx.xm_TooGreat (by rfl)) (fun _ r => r) fx.xi_NoChart_TooGreat fx.n_isinstance))))).pt (s_cons (s_ret (e_p p_bl))
  s_nil) s_nil)
  (s_cons (s_if (w_or (t_val (p_isK dw a pn (cv := (.ref fx.X_OtherMoves)) (cu := (.ref fx.X_OtherMoves)) fx.xy_NoChart hz hf (pv 2) (pe_glob (by rfl) fx.xm_OtherMoves (by rfl)) (fun _ r => r) fx.xi_NoChart_OtherMoves fx.n_isinstance)) (w_or (t_val (p_isK dw a pn (cv := (.ref fx.X_NoStretch)) (cu := (.ref fx.X_NoStretch)) fx.xy_NoChart hz hf (pv 2) (pe_glob (by rfl) fx.xm_NoStretch (by rfl)) (fun _ r => r) fx.xi_NoChart_NoStretch fx.n_isinstance)) (w_or1 (t_val (p_isK dw a pn (cv := (.ref fx.X_NoCase)) (cu := (.ref fx.X_NoCase)) fx.xy_NoChart hz hf (pv 2) (pe_glob (by rfl) fx.xm_NoCase (by rfl)) (fun _ r => r) fx.xi_NoChart_NoCase fx.n_isinstance))))).pt (s_cons (s_ret (e_p p_bl))
  s_nil) s_nil)
  (s_cons (s_ret (e_p (p_not (p_isK dw a pn (cv := (.ref fx.X_NoRun)) (cu := (.ref fx.X_NoRun)) fx.xy_NoChart hz hf (pv 2) (pe_glob (by rfl) fx.xm_NoRun (by rfl)) (fun _ r => r) fx.xi_NoChart_NoRun fx.n_isinstance))))
  s_nil))))
    · obtain rfl : C = fx.X_NoNet := Option.some.inj (hC.symm.trans fx.xl_NoNet)
      rw [hTab_next (show ("NoNet" : Str) ≠ "NoChart" by decide +kernel)]; rw [hTab_here]
      exact (s_cons (s_if (w_or (t_not (t_val (p_isK dw a pn (cv := (.ref fx.X_NoText)) (cu := (.ref fx.X_NoText)) fx.xy_NoNet hz hf (pv 2) (pe_glob (by rfl) fx.xm_NoText (by rfl)) (fun _ r => r) fx.xi_NoNet_NoText fx.n_isinstance))) (w_or1 (t_not (t_val (p_isK dw a pn (cv := (.ty "ValueError")) (cu := (.type "ValueError")) fx.xy_NoNet hz hf (pv 2) (pe_bltn (v := .ty "ValueError") (by rfl) fx.n_ValueError (by rfl) (by rfl)) (fun _ r => r) fx.xi_NoNet_ValueError fx.n_isinstance))))).pt (s_cons (s_ret (e_p p_bl))
  s_nil) s_nil)
  (s_cons (s_if (w_or (t_val (p_isK dw a pn (cv := (.ref fx.X_NoChart)) (cu := (.ref fx.X_NoChart)) fx.xy_NoNet hz hf (pv 2) (pe_glob (by rfl) fx.xm_NoChart (by rfl)) (fun _ r => r) fx.xi_NoNet_NoChart fx.n_isinstance)) (w_or (t_val (p_isK dw a pn (cv := (.ref fx.X_NoNet)) (cu := (.ref fx.X_NoNet)) fx.xy_NoNet hz hf (pv 2) (pe_glob (by rfl) fx.xm_NoNet (by rfl)) (fun _ r => r) fx.xi_NoNet_NoNet fx.n_isinstance)) (w_or1 (t_val (p_isK dw a pn (cv := (.ref fx.X_TooGreat)) (cu := (.ref fx.X_TooGreat)) fx.xy_NoNet hz hf (pv 2) (pe_glob (by rfl) fx.xm_TooGreat (by rfl)) (fun _ r => r) fx.xi_NoNet_TooGreat fx.n_isinstance))))).pt (s_cons (s_ret (e_p p_bl))
  s_nil) s_nil)
  (s_cons (s_if (w_or (t_val (p_isK dw a pn (cv := (.ref fx.X_OtherMoves)) (cu := (.ref fx.X_OtherMoves)) fx.xy_NoNet hz hf (pv 2) (pe_glob (by rfl) fx.xm_OtherMoves (by rfl)) (fun _ r => r) fx.xi_NoNet_OtherMoves fx.n_isinstance)) (w_or (t_val (p_isK dw a pn (cv := (.ref fx.X_NoStretch)) (cu := (.ref fx.X_NoStretch)) fx.xy_NoNet hz hf (pv 2) (pe_glob (by rfl) fx.xm_NoStretch (by rfl)) (fun _ r => r) fx.xi_NoNet_NoStretch fx.n_isinstance)) (w_or1 (t_val (p_isK dw a pn (cv := (.ref fx.X_NoCase)) (cu := (.ref fx.X_NoCase)) fx.xy_NoNet hz hf (pv 2) (pe_glob (by rfl) fx.xm_NoCase (by rfl)) (fun _ r => r) fx.xi_NoNet_NoCase fx.n_isinstance))))).pt (s_cons (s_ret (e_p p_bl))
  s_nil) s_nil)
  (s_cons (s_ret (e_p (p_not (p_isK dw a pn (cv := (.ref fx.X_NoRun)) (cu := (.ref fx.X_NoRun)) fx.xy_NoNet hz hf (pv 2) (pe_glob (by rfl) fx.xm_NoRun (by rfl)) (fun _ r => r) fx.xi_NoNet_NoRun fx.n_isinstance))))
  s_nil))))
    · obtain rfl : C = fx.X_NoText := Option.some.inj (hC.symm.trans fx.xl_NoText)
      rw [hTab_next (show ("NoText" : Str) ≠ "NoChart" by decide +kernel)]; rw [hTab_next (show ("NoText" : Str) ≠ "NoNet" by decide +kernel)]; rw [hTab_here]
      exact (s_cons (s_if (w_or (t_not (t_val (p_isK dw a pn (cv := (.ref fx.X_NoText)) (cu := (.ref fx.X_NoText)) fx.xy_NoText hz hf (pv 2) (pe_glob (by rfl) fx.xm_NoText (by rfl)) (fun _ r => r) fx.xi_NoText_NoText fx.n_isinstance))) (w_or1 (t_not (t_val (p_isK dw a pn (cv := (.ty "ValueError")) (cu := (.type "ValueError")) fx.xy_NoText hz hf (pv 2) (pe_bltn (v := .ty "ValueError") (by rfl) fx.n_ValueError (by rfl) (by rfl)) (fun _ r => r) fx.xi_NoText_ValueError fx.n_isinstance))))).pt (s_cons (s_ret (e_p p_bl))
  s_nil) s_nil)
  (s_cons (s_if (w_or (t_val (p_isK dw a pn (cv := (.ref fx.X_NoChart)) (cu := (.ref fx.X_NoChart)) fx.xy_NoText hz hf (pv 2) (pe_glob (by rfl) fx.xm_NoChart (by rfl)) (fun _ r => r) fx.xi_NoText_NoChart fx.n_isinstance)) (w_or (t_val (p_isK dw a pn (cv := (.ref fx.X_NoNet)) (cu := (.ref fx.X_NoNet)) fx.xy_NoText hz hf (pv 2) (pe_glob (by rfl) fx.xm_NoNet (by rfl)) (fun _ r => r) fx.xi_NoText_NoNet fx.n_isinstance)) (w_or1 (t_val (p_isK dw a pn (cv := (.ref fx.X_TooGreat)) (cu := (.ref fx.X_TooGreat)) fx.xy_NoText hz hf (pv 2) (pe_glob (by rfl) fx.xm_TooGreat (by rfl)) (fun _ r => r) fx.xi_NoText_TooGreat fx.n_isinstance))))).pt (s_cons (s_ret (e_p p_bl))
  s_nil) s_nil)
  (s_cons (s_if (w_or (t_val (p_isK dw a pn (cv := (.ref fx.X_OtherMoves)) (cu := (.ref fx.X_OtherMoves)) fx.xy_NoText hz hf (pv 2) (pe_glob (by rfl) fx.xm_OtherMoves (by rfl)) (fun _ r => r) fx.xi_NoText_OtherMoves fx.n_isinstance)) (w_or (t_val (p_isK dw a pn (cv := (.ref fx.X_NoStretch)) (cu := (.ref fx.X_NoStretch)) fx.xy_NoText hz hf (pv 2) (pe_glob (by rfl) fx.xm_NoStretch (by rfl)) (fun _ r => r) fx.xi_NoText_NoStretch fx.n_isinstance)) (w_or1 (t_val (p_isK dw a pn (cv := (.ref fx.X_NoCase)) (cu := (.ref fx.X_NoCase)) fx.xy_NoText hz hf (pv 2) (pe_glob (by rfl) fx.xm_NoCase (by rfl)) (fun _ r => r) fx.xi_NoText_NoCase fx.n_isinstance))))).pt (s_cons (s_ret (e_p p_bl))
  s_nil) s_nil)
  (s_cons (s_ret (e_p (p_not (p_isK dw a pn (cv := (.ref fx.X_NoRun)) (cu := (.ref fx.X_NoRun)) fx.xy_NoText hz hf (pv 2) (pe_glob (by rfl) fx.xm_NoRun (by rfl)) (fun _ r => r) fx.xi_NoText_NoRun fx.n_isinstance))))
  s_nil))))
)))
theorem ok_law {k : Nat} (fx : Fx K mg cl) : FnOk P w K mg base (L2.CX P w) (k + 6) fx.f_law fx.d_law P_law (spD ⟨K, cl, bo⟩ [.b] fn_law) := by
  refine def_ok (k := k + 5) (N := N_law) (ms := [.b]) (body := b_law) fx.F_law sc_law rfl fun cdv A outer s H E W hr dw hp => ?_
  exact (s_cons (s_setLc (own := [("_law_cell", 5)]) dw.dx rfl rfl (sw_true rfl rfl rfl (by decide +kernel)) (i_seq (.own (eOp (.fin [.plc 0 (pVar 0), .int (hC (.int 3)), .int (hC (.int 15))]) (sl2 fSlL))) dw.dx (e_sl2 (W := W) sl_list (slL_ok (G := ⟨K, cl, bo⟩)) (.fin [.plc 0 (pVar 0), .int (hC (.int 3)), .int (hC (.int 15))]) (p_plc (pv 0)) p_int p_int)) (blkOk_by (N := N_law) (sc := (defScope s_law)) (by decide +kernel)) bind_name (fun _ _ _ _ _ => (pg_name (i := 5) sc_law.nd rfl (by first | exact .inl rfl | exact .inr rfl))) (fun _ _ _ _ _ => ts_nil) (fun _ _ _ _ _ => (e_call dw.blk (ok_law_word_by (k := k + 4) fx) hr (by rfl) fx.g_law_word_by fx.F_law_word_by.kp fx.b_law_word_by (.fin [.pur (hVar 5)]) (pa_cons (p_var (pv 5)) pa_nil))))
  (s_scp (scp_own 1) fun bo1 => (fun (dw1 : DXW _ ⟨K, cl, bo1⟩ _) =>
  (s_cons (s_set dw1.dx rfl (by first | exact .inl rfl | exact .inr rfl) (e_bin op_mod rop_mod (.own (eK (.fin [.plc 0 (pVar 0), .pur (hC (.int 0))]) (callK [.b, .b] fn_law_cell_at)) (.fin [.pur (hOp [.pur (hOp [.plc 1 (pUn (pVar 1))] gLen), .pur (hC (.int 1))] gAdd)])) (e_call dw1 (ok_law_cell_at (k := k + 4) fx) hr (by rfl) fx.g_law_cell_at fx.F_law_cell_at.kp fx.b_law_cell_at (.fin [.plc 0 (pVar 0), .pur (hC (.int 0))]) (pa_cons (p_plc (pv 0)) (pa_cons p_int pa_nil))) (p_binPP op_addA rop_add pure_add (p_len (hs := [.plc 1 (pUn (pVar 1))]) dw1.dx (by rfl) fx.n_len (pa_cons (l_un (p_plc (pv 1))) pa_nil)) p_int)))
  (s_cons (s_set dw1.dx rfl (by first | exact .inl rfl | exact .inr rfl) (e_join dw1.dx (.own (eOp (.own (eOp (.own (eOp (.fin [.plc 1 (pUn (pVar 1)), .int (hVar 2)]) (slH fSlL)) (.own (eK (.own (eK (.own (eK (.fin [.plc 0 (pVar 0), .pur (hC (.int 1))]) (callK [.b, .b] fn_law_cell_at)) (.fin [])) (callK [.b] fn_law_bad_by)) (.fin [])) (dspK .lst)) (.fin []))) gCatLL) (.own (eOp (.fin [.plc 1 (pUn (pVar 1)), .int (hVar 2)]) (slL fSlL)) (.fin []))) gCatLL) (.fin [])) (e_bin op_catLL rop_catLL (.own (eOp (.own (eOp (.fin [.plc 1 (pUn (pVar 1)), .int (hVar 2)]) (slH fSlL)) (.own (eK (.own (eK (.own (eK (.fin [.plc 0 (pVar 0), .pur (hC (.int 1))]) (callK [.b, .b] fn_law_cell_at)) (.fin [])) (callK [.b] fn_law_bad_by)) (.fin [])) (dspK .lst)) (.fin []))) gCatLL) (.own (eOp (.fin [.plc 1 (pUn (pVar 1)), .int (hVar 2)]) (slL fSlL)) (.fin []))) (e_bin op_catLL rop_catLL (.own (eOp (.fin [.plc 1 (pUn (pVar 1)), .int (hVar 2)]) (slH fSlL)) (.own (eK (.own (eK (.own (eK (.fin [.plc 0 (pVar 0), .pur (hC (.int 1))]) (callK [.b, .b] fn_law_cell_at)) (.fin [])) (callK [.b] fn_law_bad_by)) (.fin [])) (dspK .lst)) (.fin []))) (e_slH (W := W) sl_list (slL_ok (G := ⟨K, cl, bo1⟩)) (.fin [.plc 1 (pUn (pVar 1)), .int (hVar 2)]) (l_un (p_plc (pv 1))) (p_var (pv 2))) (e_lst (.own (eK (.own (eK (.fin [.plc 0 (pVar 0), .pur (hC (.int 1))]) (callK [.b, .b] fn_law_cell_at)) (.fin [])) (callK [.b] fn_law_bad_by)) (.fin [])) (pa_cons (e_call dw1 (ok_law_bad_by (k := k + 3) fx) hr (by rfl) fx.g_law_bad_by fx.F_law_bad_by.kp fx.b_law_bad_by (.own (eK (.fin [.plc 0 (pVar 0), .pur (hC (.int 1))]) (callK [.b, .b] fn_law_cell_at)) (.fin [])) (pa_cons (e_call dw1 (ok_law_cell_at (k := k + 4) fx) hr (by rfl) fx.g_law_cell_at fx.F_law_cell_at.kp fx.b_law_cell_at (.fin [.plc 0 (pVar 0), .pur (hC (.int 1))]) (pa_cons (p_plc (pv 0)) (pa_cons p_int pa_nil))) pa_nil)) pa_nil))) (e_slL (W := W) sl_list (slL_ok (G := ⟨K, cl, bo1⟩)) (.fin [.plc 1 (pUn (pVar 1)), .int (hVar 2)]) (l_un (p_plc (pv 1))) (p_var (pv 2))))))
  (s_cons (s_ifE (t_cmpE (op_eqD (hu_eq1 dw1.dx)) rop_eq (.own (eOp (.own (eK (.fin [.plc 0 (pVar 0), .pur (hC (.int 2))]) (callK [.b, .b] fn_law_cell_at)) (.fin [.pur (hC (.int 5))])) gMod) (.fin [.pur (hC (.int 1))])) (e_bin op_mod rop_mod (.own (eK (.fin [.plc 0 (pVar 0), .pur (hC (.int 2))]) (callK [.b, .b] fn_law_cell_at)) (.fin [.pur (hC (.int 5))])) (e_call dw1 (ok_law_cell_at (k := k + 4) fx) hr (by rfl) fx.g_law_cell_at fx.F_law_cell_at.kp fx.b_law_cell_at (.fin [.plc 0 (pVar 0), .pur (hC (.int 2))]) (pa_cons (p_plc (pv 0)) (pa_cons p_int pa_nil))) p_int) p_int) (s_cons (s_set dw1.dx rfl (by first | exact .inl rfl | exact .inr rfl) (e_bin op_mod rop_mod (.own (eK (.fin [.plc 0 (pVar 0), .pur (hC (.int 2))]) (callK [.b, .b] fn_law_cell_at)) (.fin [.pur (hOp [.pur (hC (.int 10)), .pur (hC (.int 9))] gPow)])) (e_call dw1 (ok_law_cell_at (k := k + 4) fx) hr (by rfl) fx.g_law_cell_at fx.F_law_cell_at.kp fx.b_law_cell_at (.fin [.plc 0 (pVar 0), .pur (hC (.int 2))]) (pa_cons (p_plc (pv 0)) (pa_cons p_int pa_nil))) (p_binPP op_pow rop_pow pure_pow p_int p_int)))
  (s_cons (s_set dw1.dx rfl (by first | exact .inl rfl | exact .inr rfl) (e_takeL dw1.dx (e_lst (.pur (hC .non) (.pur (hVar 4) (.pur (hC (.bl true)) (.pur (hVar 1) (.pur (hOp [.pur (hC (.str "moves"))] fTup) (.own (eOp (.fin []) (gOne (.inr "moves") (.str "a"))) (.fin []))))))) (pa_cons p_non (pa_cons (p_var (pv 4)) (pa_cons p_bl (pa_cons (p_var (pv 1)) (pa_cons (p_tup (hs := [.pur (hC (.str "moves"))]) (pa_cons p_str pa_nil)) (pa_cons (e_one (kk := .inr "moves") (d := .str "a") pe_str pe_str fun _ _ => ⟨rfl, rfl⟩) pa_nil))))))) (p_binPP op_mod rop_mod pure_mod (p_binPP op_fdivW rop_div pure_div (p_var (pv 4)) p_int) p_int)))
  s_nil)) s_nil)
  (s_cons (s_ifE (w_orE (t_notE (t_valE (e_call dw1 (ok_law_refused (k := k + 0) fx) hr (by rfl) fx.g_law_refused fx.F_law_refused.kp fx.b_law_refused (.fin [.pur (hC (.fn "words")), .plc 3 (pVar 3)]) (pa_cons (p_fn (by rfl) fx.g_words fx.fv_words) (pa_cons (p_plc (pv 3)) pa_nil))))) (w_orE (t_notE (t_valE (e_call dw1 (ok_law_refused (k := k + 0) fx) hr (by rfl) fx.g_law_refused fx.F_law_refused.kp fx.b_law_refused (.fin [.pur (hC (.fn "read_chart")), .plc 3 (pVar 3)]) (pa_cons (p_fn (by rfl) fx.g_read_chart fx.fv_read_chart) (pa_cons (p_plc (pv 3)) pa_nil))))) (w_or1 (t_notE (t_valE (e_call dw1 (ok_law_refused (k := k + 0) fx) hr (by rfl) fx.g_law_refused fx.F_law_refused.kp fx.b_law_refused (.fin [.pur (hC (.fn "read_net")), .plc 3 (pVar 3)]) (pa_cons (p_fn (by rfl) fx.g_read_net fx.fv_read_net) (pa_cons (p_plc (pv 3)) pa_nil)))))))).pt (s_cons (s_ret (e_p p_bl))
  s_nil) s_nil)
  (s_cons (s_ret (e_cmp (op_eqD (hu_eq1 dw1.dx)) rop_eq (.own (eK (.own (eOp (.fin [.plc 1 (pUn (pVar 1))]) (gJoin " ")) (.fin [])) (callK [.b] fn_words)) (.fin [.plc 1 (pUn (pVar 1))])) (e_call dw1 (ok_words (k := k + 2) fx) hr (by rfl) fx.g_words fx.F_words.kp fx.b_words (.own (eOp (.fin [.plc 1 (pUn (pVar 1))]) (gJoin " ")) (.fin [])) (pa_cons (e_join dw1.dx (.fin [.plc 1 (pUn (pVar 1))]) (l_un (p_plc (pv 1)))) pa_nil)) (l_un (p_plc (pv 1)))))
  s_nil)))))) (DXW.scp dw)))
end
set_option maxHeartbeats 0 in
theorem all_mk {l : PySem.W.OpenLaw} {w : World} {K : PySem.W.Frag} {h : Heap} {mg : Str → Option Value} {fa : Addr} (X : K.In h) (G : h.Ns mainGlobals mg) (hfa : mg "law" = some (.ref fa))
    {f_run_end : Addr} {od_run_end an_run_end : Option Addr} {sl_run_end : Array (Option Value)} {oc_run_end kV_run_end dc_run_end pm_run_end cd_run_end ct_run_end : Value}
    (a_run_end : PySem.W.nsIn K mainGlobals "run_end" = some (some (.ref f_run_end)))
    (l_run_end : K.lookup f_run_end = some ⟨oc_run_end, od_run_end, .func (PySem.W.fnOf "run_end" "run_end" (defArgs s_run_end) (defBody s_run_end) (defScope s_run_end) .none kV_run_end dc_run_end pm_run_end an_run_end cd_run_end ct_run_end), sl_run_end⟩) (c_run_end : PySem.W.codeIn K cd_run_end "run_end" = true) (k_run_end : PySem.W.keepIn K (.ref f_run_end) = true)
    {f_word_end : Addr} {od_word_end an_word_end : Option Addr} {sl_word_end : Array (Option Value)} {oc_word_end kV_word_end dc_word_end pm_word_end cd_word_end ct_word_end : Value}
    (a_word_end : PySem.W.nsIn K mainGlobals "word_end" = some (some (.ref f_word_end)))
    (l_word_end : K.lookup f_word_end = some ⟨oc_word_end, od_word_end, .func (PySem.W.fnOf "word_end" "word_end" (defArgs s_word_end) (defBody s_word_end) (defScope s_word_end) .none kV_word_end dc_word_end pm_word_end an_word_end cd_word_end ct_word_end), sl_word_end⟩) (c_word_end : PySem.W.codeIn K cd_word_end "word_end" = true) (k_word_end : PySem.W.keepIn K (.ref f_word_end) = true)
    {f_words : Addr} {od_words an_words : Option Addr} {sl_words : Array (Option Value)} {oc_words kV_words dc_words pm_words cd_words ct_words : Value}
    (a_words : PySem.W.nsIn K mainGlobals "words" = some (some (.ref f_words)))
    (l_words : K.lookup f_words = some ⟨oc_words, od_words, .func (PySem.W.fnOf "words" "words" (defArgs s_words) (defBody s_words) (defScope s_words) .none kV_words dc_words pm_words an_words cd_words ct_words), sl_words⟩) (c_words : PySem.W.codeIn K cd_words "words" = true) (k_words : PySem.W.keepIn K (.ref f_words) = true)
    {f_is_name : Addr} {od_is_name an_is_name : Option Addr} {sl_is_name : Array (Option Value)} {oc_is_name kV_is_name dc_is_name pm_is_name cd_is_name ct_is_name : Value}
    (a_is_name : PySem.W.nsIn K mainGlobals "is_name" = some (some (.ref f_is_name)))
    (l_is_name : K.lookup f_is_name = some ⟨oc_is_name, od_is_name, .func (PySem.W.fnOf "is_name" "is_name" (defArgs s_is_name) (defBody s_is_name) (defScope s_is_name) .none kV_is_name dc_is_name pm_is_name an_is_name cd_is_name ct_is_name), sl_is_name⟩) (c_is_name : PySem.W.codeIn K cd_is_name "is_name" = true) (k_is_name : PySem.W.keepIn K (.ref f_is_name) = true)
    {f_is_number : Addr} {od_is_number an_is_number : Option Addr} {sl_is_number : Array (Option Value)} {oc_is_number kV_is_number dc_is_number pm_is_number cd_is_number ct_is_number : Value}
    (a_is_number : PySem.W.nsIn K mainGlobals "is_number" = some (some (.ref f_is_number)))
    (l_is_number : K.lookup f_is_number = some ⟨oc_is_number, od_is_number, .func (PySem.W.fnOf "is_number" "is_number" (defArgs s_is_number) (defBody s_is_number) (defScope s_is_number) .none kV_is_number dc_is_number pm_is_number an_is_number cd_is_number ct_is_number), sl_is_number⟩) (c_is_number : PySem.W.codeIn K cd_is_number "is_number" = true) (k_is_number : PySem.W.keepIn K (.ref f_is_number) = true)
    {f_parts_between : Addr} {od_parts_between an_parts_between : Option Addr} {sl_parts_between : Array (Option Value)} {oc_parts_between kV_parts_between dc_parts_between pm_parts_between cd_parts_between ct_parts_between : Value}
    (a_parts_between : PySem.W.nsIn K mainGlobals "parts_between" = some (some (.ref f_parts_between)))
    (l_parts_between : K.lookup f_parts_between = some ⟨oc_parts_between, od_parts_between, .func (PySem.W.fnOf "parts_between" "parts_between" (defArgs s_parts_between) (defBody s_parts_between) (defScope s_parts_between) .none kV_parts_between dc_parts_between pm_parts_between an_parts_between cd_parts_between ct_parts_between), sl_parts_between⟩) (c_parts_between : PySem.W.codeIn K cd_parts_between "parts_between" = true) (k_parts_between : PySem.W.keepIn K (.ref f_parts_between) = true)
    {f_moves_by : Addr} {od_moves_by an_moves_by : Option Addr} {sl_moves_by : Array (Option Value)} {oc_moves_by kV_moves_by dc_moves_by pm_moves_by cd_moves_by ct_moves_by : Value}
    (a_moves_by : PySem.W.nsIn K mainGlobals "moves_by" = some (some (.ref f_moves_by)))
    (l_moves_by : K.lookup f_moves_by = some ⟨oc_moves_by, od_moves_by, .func (PySem.W.fnOf "moves_by" "moves_by" (defArgs s_moves_by) (defBody s_moves_by) (defScope s_moves_by) .none kV_moves_by dc_moves_by pm_moves_by an_moves_by cd_moves_by ct_moves_by), sl_moves_by⟩) (c_moves_by : PySem.W.codeIn K cd_moves_by "moves_by" = true) (k_moves_by : PySem.W.keepIn K (.ref f_moves_by) = true)
    {f_states_of : Addr} {od_states_of an_states_of : Option Addr} {sl_states_of : Array (Option Value)} {oc_states_of kV_states_of dc_states_of pm_states_of cd_states_of ct_states_of : Value}
    (a_states_of : PySem.W.nsIn K mainGlobals "states_of" = some (some (.ref f_states_of)))
    (l_states_of : K.lookup f_states_of = some ⟨oc_states_of, od_states_of, .func (PySem.W.fnOf "states_of" "states_of" (defArgs s_states_of) (defBody s_states_of) (defScope s_states_of) .none kV_states_of dc_states_of pm_states_of an_states_of cd_states_of ct_states_of), sl_states_of⟩) (c_states_of : PySem.W.codeIn K cd_states_of "states_of" = true) (k_states_of : PySem.W.keepIn K (.ref f_states_of) = true)
    {f_states_come_to : Addr} {od_states_come_to an_states_come_to : Option Addr} {sl_states_come_to : Array (Option Value)} {oc_states_come_to kV_states_come_to dc_states_come_to pm_states_come_to cd_states_come_to ct_states_come_to : Value}
    (a_states_come_to : PySem.W.nsIn K mainGlobals "states_come_to" = some (some (.ref f_states_come_to)))
    (l_states_come_to : K.lookup f_states_come_to = some ⟨oc_states_come_to, od_states_come_to, .func (PySem.W.fnOf "states_come_to" "states_come_to" (defArgs s_states_come_to) (defBody s_states_come_to) (defScope s_states_come_to) .none kV_states_come_to dc_states_come_to pm_states_come_to an_states_come_to cd_states_come_to ct_states_come_to), sl_states_come_to⟩) (c_states_come_to : PySem.W.codeIn K cd_states_come_to "states_come_to" = true) (k_states_come_to : PySem.W.keepIn K (.ref f_states_come_to) = true)
    {f_is_move_name : Addr} {od_is_move_name an_is_move_name : Option Addr} {sl_is_move_name : Array (Option Value)} {oc_is_move_name kV_is_move_name dc_is_move_name pm_is_move_name cd_is_move_name ct_is_move_name : Value}
    (a_is_move_name : PySem.W.nsIn K mainGlobals "is_move_name" = some (some (.ref f_is_move_name)))
    (l_is_move_name : K.lookup f_is_move_name = some ⟨oc_is_move_name, od_is_move_name, .func (PySem.W.fnOf "is_move_name" "is_move_name" (defArgs s_is_move_name) (defBody s_is_move_name) (defScope s_is_move_name) .none kV_is_move_name dc_is_move_name pm_is_move_name an_is_move_name cd_is_move_name ct_is_move_name), sl_is_move_name⟩) (c_is_move_name : PySem.W.codeIn K cd_is_move_name "is_move_name" = true) (k_is_move_name : PySem.W.keepIn K (.ref f_is_move_name) = true)
    {f_is_rising : Addr} {od_is_rising an_is_rising : Option Addr} {sl_is_rising : Array (Option Value)} {oc_is_rising kV_is_rising dc_is_rising pm_is_rising cd_is_rising ct_is_rising : Value}
    (a_is_rising : PySem.W.nsIn K mainGlobals "is_rising" = some (some (.ref f_is_rising)))
    (l_is_rising : K.lookup f_is_rising = some ⟨oc_is_rising, od_is_rising, .func (PySem.W.fnOf "is_rising" "is_rising" (defArgs s_is_rising) (defBody s_is_rising) (defScope s_is_rising) .none kV_is_rising dc_is_rising pm_is_rising an_is_rising cd_is_rising ct_is_rising), sl_is_rising⟩) (c_is_rising : PySem.W.codeIn K cd_is_rising "is_rising" = true) (k_is_rising : PySem.W.keepIn K (.ref f_is_rising) = true)
    {f_is_chart : Addr} {od_is_chart an_is_chart : Option Addr} {sl_is_chart : Array (Option Value)} {oc_is_chart kV_is_chart dc_is_chart pm_is_chart cd_is_chart ct_is_chart : Value}
    (a_is_chart : PySem.W.nsIn K mainGlobals "is_chart" = some (some (.ref f_is_chart)))
    (l_is_chart : K.lookup f_is_chart = some ⟨oc_is_chart, od_is_chart, .func (PySem.W.fnOf "is_chart" "is_chart" (defArgs s_is_chart) (defBody s_is_chart) (defScope s_is_chart) .none kV_is_chart dc_is_chart pm_is_chart an_is_chart cd_is_chart ct_is_chart), sl_is_chart⟩) (c_is_chart : PySem.W.codeIn K cd_is_chart "is_chart" = true) (k_is_chart : PySem.W.keepIn K (.ref f_is_chart) = true)
    {f_arc_by : Addr} {od_arc_by an_arc_by : Option Addr} {sl_arc_by : Array (Option Value)} {oc_arc_by kV_arc_by dc_arc_by pm_arc_by cd_arc_by ct_arc_by : Value}
    (a_arc_by : PySem.W.nsIn K mainGlobals "arc_by" = some (some (.ref f_arc_by)))
    (l_arc_by : K.lookup f_arc_by = some ⟨oc_arc_by, od_arc_by, .func (PySem.W.fnOf "arc_by" "arc_by" (defArgs s_arc_by) (defBody s_arc_by) (defScope s_arc_by) .none kV_arc_by dc_arc_by pm_arc_by an_arc_by cd_arc_by ct_arc_by), sl_arc_by⟩) (c_arc_by : PySem.W.codeIn K cd_arc_by "arc_by" = true) (k_arc_by : PySem.W.keepIn K (.ref f_arc_by) = true)
    {f_read_chart : Addr} {od_read_chart an_read_chart : Option Addr} {sl_read_chart : Array (Option Value)} {oc_read_chart kV_read_chart dc_read_chart pm_read_chart cd_read_chart ct_read_chart : Value}
    (a_read_chart : PySem.W.nsIn K mainGlobals "read_chart" = some (some (.ref f_read_chart)))
    (l_read_chart : K.lookup f_read_chart = some ⟨oc_read_chart, od_read_chart, .func (PySem.W.fnOf "read_chart" "read_chart" (defArgs s_read_chart) (defBody s_read_chart) (defScope s_read_chart) .none kV_read_chart dc_read_chart pm_read_chart an_read_chart cd_read_chart ct_read_chart), sl_read_chart⟩) (c_read_chart : PySem.W.codeIn K cd_read_chart "read_chart" = true) (k_read_chart : PySem.W.keepIn K (.ref f_read_chart) = true)
    {f_place_by : Addr} {od_place_by an_place_by : Option Addr} {sl_place_by : Array (Option Value)} {oc_place_by kV_place_by dc_place_by pm_place_by cd_place_by ct_place_by : Value}
    (a_place_by : PySem.W.nsIn K mainGlobals "place_by" = some (some (.ref f_place_by)))
    (l_place_by : K.lookup f_place_by = some ⟨oc_place_by, od_place_by, .func (PySem.W.fnOf "place_by" "place_by" (defArgs s_place_by) (defBody s_place_by) (defScope s_place_by) .none kV_place_by dc_place_by pm_place_by an_place_by cd_place_by ct_place_by), sl_place_by⟩) (c_place_by : PySem.W.codeIn K cd_place_by "place_by" = true) (k_place_by : PySem.W.keepIn K (.ref f_place_by) = true)
    {f_place_for : Addr} {od_place_for an_place_for : Option Addr} {sl_place_for : Array (Option Value)} {oc_place_for kV_place_for dc_place_for pm_place_for cd_place_for ct_place_for : Value}
    (a_place_for : PySem.W.nsIn K mainGlobals "place_for" = some (some (.ref f_place_for)))
    (l_place_for : K.lookup f_place_for = some ⟨oc_place_for, od_place_for, .func (PySem.W.fnOf "place_for" "place_for" (defArgs s_place_for) (defBody s_place_for) (defScope s_place_for) .none kV_place_for dc_place_for pm_place_for an_place_for cd_place_for ct_place_for), sl_place_for⟩) (c_place_for : PySem.W.codeIn K cd_place_for "place_for" = true) (k_place_for : PySem.W.keepIn K (.ref f_place_for) = true)
    {f_read_net : Addr} {od_read_net an_read_net : Option Addr} {sl_read_net : Array (Option Value)} {oc_read_net kV_read_net dc_read_net pm_read_net cd_read_net ct_read_net : Value}
    (a_read_net : PySem.W.nsIn K mainGlobals "read_net" = some (some (.ref f_read_net)))
    (l_read_net : K.lookup f_read_net = some ⟨oc_read_net, od_read_net, .func (PySem.W.fnOf "read_net" "read_net" (defArgs s_read_net) (defBody s_read_net) (defScope s_read_net) .none kV_read_net dc_read_net pm_read_net an_read_net cd_read_net ct_read_net), sl_read_net⟩) (c_read_net : PySem.W.codeIn K cd_read_net "read_net" = true) (k_read_net : PySem.W.keepIn K (.ref f_read_net) = true)
    {f_law_cell_at : Addr} {od_law_cell_at an_law_cell_at : Option Addr} {sl_law_cell_at : Array (Option Value)} {oc_law_cell_at kV_law_cell_at dc_law_cell_at pm_law_cell_at cd_law_cell_at ct_law_cell_at : Value}
    (a_law_cell_at : PySem.W.nsIn K mainGlobals "_law_cell_at" = some (some (.ref f_law_cell_at)))
    (l_law_cell_at : K.lookup f_law_cell_at = some ⟨oc_law_cell_at, od_law_cell_at, .func (PySem.W.fnOf "_law_cell_at" "_law_cell_at" (defArgs s_law_cell_at) (defBody s_law_cell_at) (defScope s_law_cell_at) .none kV_law_cell_at dc_law_cell_at pm_law_cell_at an_law_cell_at cd_law_cell_at ct_law_cell_at), sl_law_cell_at⟩) (c_law_cell_at : PySem.W.codeIn K cd_law_cell_at "_law_cell_at" = true) (k_law_cell_at : PySem.W.keepIn K (.ref f_law_cell_at) = true)
    {f_law_word_by : Addr} {od_law_word_by an_law_word_by : Option Addr} {sl_law_word_by : Array (Option Value)} {oc_law_word_by kV_law_word_by dc_law_word_by pm_law_word_by cd_law_word_by ct_law_word_by : Value}
    (a_law_word_by : PySem.W.nsIn K mainGlobals "_law_word_by" = some (some (.ref f_law_word_by)))
    (l_law_word_by : K.lookup f_law_word_by = some ⟨oc_law_word_by, od_law_word_by, .func (PySem.W.fnOf "_law_word_by" "_law_word_by" (defArgs s_law_word_by) (defBody s_law_word_by) (defScope s_law_word_by) .none kV_law_word_by dc_law_word_by pm_law_word_by an_law_word_by cd_law_word_by ct_law_word_by), sl_law_word_by⟩) (c_law_word_by : PySem.W.codeIn K cd_law_word_by "_law_word_by" = true) (k_law_word_by : PySem.W.keepIn K (.ref f_law_word_by) = true)
    {f_law_figures : Addr} {od_law_figures an_law_figures : Option Addr} {sl_law_figures : Array (Option Value)} {oc_law_figures kV_law_figures dc_law_figures pm_law_figures cd_law_figures ct_law_figures : Value}
    (a_law_figures : PySem.W.nsIn K mainGlobals "_law_figures" = some (some (.ref f_law_figures)))
    (l_law_figures : K.lookup f_law_figures = some ⟨oc_law_figures, od_law_figures, .func (PySem.W.fnOf "_law_figures" "_law_figures" (defArgs s_law_figures) (defBody s_law_figures) (defScope s_law_figures) .none kV_law_figures dc_law_figures pm_law_figures an_law_figures cd_law_figures ct_law_figures), sl_law_figures⟩) (c_law_figures : PySem.W.codeIn K cd_law_figures "_law_figures" = true) (k_law_figures : PySem.W.keepIn K (.ref f_law_figures) = true)
    {f_law_bad_by : Addr} {od_law_bad_by an_law_bad_by : Option Addr} {sl_law_bad_by : Array (Option Value)} {oc_law_bad_by kV_law_bad_by dc_law_bad_by pm_law_bad_by cd_law_bad_by ct_law_bad_by : Value}
    (a_law_bad_by : PySem.W.nsIn K mainGlobals "_law_bad_by" = some (some (.ref f_law_bad_by)))
    (l_law_bad_by : K.lookup f_law_bad_by = some ⟨oc_law_bad_by, od_law_bad_by, .func (PySem.W.fnOf "_law_bad_by" "_law_bad_by" (defArgs s_law_bad_by) (defBody s_law_bad_by) (defScope s_law_bad_by) .none kV_law_bad_by dc_law_bad_by pm_law_bad_by an_law_bad_by cd_law_bad_by ct_law_bad_by), sl_law_bad_by⟩) (c_law_bad_by : PySem.W.codeIn K cd_law_bad_by "_law_bad_by" = true) (k_law_bad_by : PySem.W.keepIn K (.ref f_law_bad_by) = true)
    {f_law_refused : Addr} {od_law_refused an_law_refused : Option Addr} {sl_law_refused : Array (Option Value)} {oc_law_refused kV_law_refused dc_law_refused pm_law_refused cd_law_refused ct_law_refused : Value}
    (a_law_refused : PySem.W.nsIn K mainGlobals "_law_refused" = some (some (.ref f_law_refused)))
    (l_law_refused : K.lookup f_law_refused = some ⟨oc_law_refused, od_law_refused, .func (PySem.W.fnOf "_law_refused" "_law_refused" (defArgs s_law_refused) (defBody s_law_refused) (defScope s_law_refused) .none kV_law_refused dc_law_refused pm_law_refused an_law_refused cd_law_refused ct_law_refused), sl_law_refused⟩) (c_law_refused : PySem.W.codeIn K cd_law_refused "_law_refused" = true) (k_law_refused : PySem.W.keepIn K (.ref f_law_refused) = true)
    {f_law : Addr} {od_law an_law : Option Addr} {sl_law : Array (Option Value)} {oc_law kV_law dc_law pm_law cd_law ct_law : Value}
    (a_law : PySem.W.nsIn K mainGlobals "law" = some (some (.ref f_law)))
    (l_law : K.lookup f_law = some ⟨oc_law, od_law, .func (PySem.W.fnOf "law" "law" (defArgs s_law) (defBody s_law) (defScope s_law) .none kV_law dc_law pm_law an_law cd_law ct_law), sl_law⟩) (c_law : PySem.W.codeIn K cd_law "law" = true) (k_law : PySem.W.keepIn K (.ref f_law) = true)
    (z_ValueError : PySem.W.nsIn K mainGlobals "ValueError" = some none)
    (z_all : PySem.W.nsIn K mainGlobals "all" = some none)
    (z_int : PySem.W.nsIn K mainGlobals "int" = some none)
    (z_isinstance : PySem.W.nsIn K mainGlobals "isinstance" = some none)
    (z_len : PySem.W.nsIn K mainGlobals "len" = some none)
    (z_max : PySem.W.nsIn K mainGlobals "max" = some none)
    (z_min : PySem.W.nsIn K mainGlobals "min" = some none)
    (z_range : PySem.W.nsIn K mainGlobals "range" = some none)
    (z_set : PySem.W.nsIn K mainGlobals "set" = some none)
    (z_sorted : PySem.W.nsIn K mainGlobals "sorted" = some none)
    (z_str : PySem.W.nsIn K mainGlobals "str" = some none)
    (z_tuple : PySem.W.nsIn K mainGlobals "tuple" = some none)
    (z_zip : PySem.W.nsIn K mainGlobals "zip" = some none)
    {x_FIGURES : Str} {t_FIGURES : Tok} (v_FIGURES : PySem.W.nsIn K mainGlobals "FIGURES" = some (some (.str x_FIGURES t_FIGURES))) (q_FIGURES : x_FIGURES = "0123456789")
    {x_LETTERS : Str} {t_LETTERS : Tok} (v_LETTERS : PySem.W.nsIn K mainGlobals "LETTERS" = some (some (.str x_LETTERS t_LETTERS))) (q_LETTERS : x_LETTERS = "abcdefghijklmnopqrstuvwxyz")
    {X_NetError : Addr} (ax_NetError : PySem.W.nsIn K mainGlobals "NetError" = some (some (.ref X_NetError))) (xe_NetError : PySem.W.excIn K X_NetError [.type "ValueError", .type "Exception", .type "BaseException", .type "object"] "ValueError.__new__" = true) (xk_NetError : PySem.W.keepIn K (.ref X_NetError) = true) (xb_NetError : PySem.W.subIn K (.ref X_NetError) (.type "BaseException") = some true) (xt_NetError : PySem.W.typeIn K (.ref X_NetError) = some (.type "type"))
    {X_NoCase : Addr} (ax_NoCase : PySem.W.nsIn K mainGlobals "NoCase" = some (some (.ref X_NoCase))) (xe_NoCase : PySem.W.excIn K X_NoCase [.type "ValueError", .type "Exception", .type "BaseException", .type "object"] "ValueError.__new__" = true) (xk_NoCase : PySem.W.keepIn K (.ref X_NoCase) = true) (xb_NoCase : PySem.W.subIn K (.ref X_NoCase) (.type "BaseException") = some true) (xt_NoCase : PySem.W.typeIn K (.ref X_NoCase) = some (.type "type"))
    {X_NoChart : Addr} (ax_NoChart : PySem.W.nsIn K mainGlobals "NoChart" = some (some (.ref X_NoChart))) (xe_NoChart : PySem.W.excIn K X_NoChart [.type "ValueError", .type "Exception", .type "BaseException", .type "object"] "ValueError.__new__" = true) (xk_NoChart : PySem.W.keepIn K (.ref X_NoChart) = true) (xb_NoChart : PySem.W.subIn K (.ref X_NoChart) (.type "BaseException") = some true) (xt_NoChart : PySem.W.typeIn K (.ref X_NoChart) = some (.type "type"))
    {X_NoNet : Addr} (ax_NoNet : PySem.W.nsIn K mainGlobals "NoNet" = some (some (.ref X_NoNet))) (xe_NoNet : PySem.W.excIn K X_NoNet [.type "ValueError", .type "Exception", .type "BaseException", .type "object"] "ValueError.__new__" = true) (xk_NoNet : PySem.W.keepIn K (.ref X_NoNet) = true) (xb_NoNet : PySem.W.subIn K (.ref X_NoNet) (.type "BaseException") = some true) (xt_NoNet : PySem.W.typeIn K (.ref X_NoNet) = some (.type "type"))
    {X_NoRun : Addr} (ax_NoRun : PySem.W.nsIn K mainGlobals "NoRun" = some (some (.ref X_NoRun))) (xe_NoRun : PySem.W.excIn K X_NoRun [.type "ValueError", .type "Exception", .type "BaseException", .type "object"] "ValueError.__new__" = true) (xk_NoRun : PySem.W.keepIn K (.ref X_NoRun) = true) (xb_NoRun : PySem.W.subIn K (.ref X_NoRun) (.type "BaseException") = some true) (xt_NoRun : PySem.W.typeIn K (.ref X_NoRun) = some (.type "type"))
    {X_NoStretch : Addr} (ax_NoStretch : PySem.W.nsIn K mainGlobals "NoStretch" = some (some (.ref X_NoStretch))) (xe_NoStretch : PySem.W.excIn K X_NoStretch [.type "ValueError", .type "Exception", .type "BaseException", .type "object"] "ValueError.__new__" = true) (xk_NoStretch : PySem.W.keepIn K (.ref X_NoStretch) = true) (xb_NoStretch : PySem.W.subIn K (.ref X_NoStretch) (.type "BaseException") = some true) (xt_NoStretch : PySem.W.typeIn K (.ref X_NoStretch) = some (.type "type"))
    {X_NoText : Addr} (ax_NoText : PySem.W.nsIn K mainGlobals "NoText" = some (some (.ref X_NoText))) (xe_NoText : PySem.W.excIn K X_NoText [.type "ValueError", .type "Exception", .type "BaseException", .type "object"] "ValueError.__new__" = true) (xk_NoText : PySem.W.keepIn K (.ref X_NoText) = true) (xb_NoText : PySem.W.subIn K (.ref X_NoText) (.type "BaseException") = some true) (xt_NoText : PySem.W.typeIn K (.ref X_NoText) = some (.type "type"))
    {X_OtherMoves : Addr} (ax_OtherMoves : PySem.W.nsIn K mainGlobals "OtherMoves" = some (some (.ref X_OtherMoves))) (xe_OtherMoves : PySem.W.excIn K X_OtherMoves [.type "ValueError", .type "Exception", .type "BaseException", .type "object"] "ValueError.__new__" = true) (xk_OtherMoves : PySem.W.keepIn K (.ref X_OtherMoves) = true) (xb_OtherMoves : PySem.W.subIn K (.ref X_OtherMoves) (.type "BaseException") = some true) (xt_OtherMoves : PySem.W.typeIn K (.ref X_OtherMoves) = some (.type "type"))
    {X_TooGreat : Addr} (ax_TooGreat : PySem.W.nsIn K mainGlobals "TooGreat" = some (some (.ref X_TooGreat))) (xe_TooGreat : PySem.W.excIn K X_TooGreat [.type "ValueError", .type "Exception", .type "BaseException", .type "object"] "ValueError.__new__" = true) (xk_TooGreat : PySem.W.keepIn K (.ref X_TooGreat) = true) (xb_TooGreat : PySem.W.subIn K (.ref X_TooGreat) (.type "BaseException") = some true) (xt_TooGreat : PySem.W.typeIn K (.ref X_TooGreat) = some (.type "type"))
    (yhg_NoChart : PySem.W.findIn K (.ref X_NoChart) "__getattribute__" = some (some (.builtin "BaseException.__getattribute__")))
    (yhk_NoChart : PySem.W.findIn K (.ref X_NoChart) "__getattr__" = some none)
    (yhs_NoChart : PySem.W.subIn K (.ref X_NoChart) (.type "BaseException") = some true)
    (yhd_NoChart : PySem.W.hasDictIn K X_NoChart = true)
    (yha_NoChart : PySem.W.findIn K (.ref X_NoChart) "__class__" = some (some (.builtin "object.__class__")))
    (yhn_NoChart : PySem.W.specialIn K (.builtin "object.__class__") "__get__" = some (some (.builtin "getset_descriptor.__get__")))
    (yht_NoChart : PySem.W.takesIn K (.builtin "object.__class__") = some true)
    (yhm_NoChart : PySem.W.mroIn K X_NoChart (.type "object") = some true)
    (yhg_NoNet : PySem.W.findIn K (.ref X_NoNet) "__getattribute__" = some (some (.builtin "BaseException.__getattribute__")))
    (yhk_NoNet : PySem.W.findIn K (.ref X_NoNet) "__getattr__" = some none)
    (yhs_NoNet : PySem.W.subIn K (.ref X_NoNet) (.type "BaseException") = some true)
    (yhd_NoNet : PySem.W.hasDictIn K X_NoNet = true)
    (yha_NoNet : PySem.W.findIn K (.ref X_NoNet) "__class__" = some (some (.builtin "object.__class__")))
    (yhn_NoNet : PySem.W.specialIn K (.builtin "object.__class__") "__get__" = some (some (.builtin "getset_descriptor.__get__")))
    (yht_NoNet : PySem.W.takesIn K (.builtin "object.__class__") = some true)
    (yhm_NoNet : PySem.W.mroIn K X_NoNet (.type "object") = some true)
    (yhg_NoText : PySem.W.findIn K (.ref X_NoText) "__getattribute__" = some (some (.builtin "BaseException.__getattribute__")))
    (yhk_NoText : PySem.W.findIn K (.ref X_NoText) "__getattr__" = some none)
    (yhs_NoText : PySem.W.subIn K (.ref X_NoText) (.type "BaseException") = some true)
    (yhd_NoText : PySem.W.hasDictIn K X_NoText = true)
    (yha_NoText : PySem.W.findIn K (.ref X_NoText) "__class__" = some (some (.builtin "object.__class__")))
    (yhn_NoText : PySem.W.specialIn K (.builtin "object.__class__") "__get__" = some (some (.builtin "getset_descriptor.__get__")))
    (yht_NoText : PySem.W.takesIn K (.builtin "object.__class__") = some true)
    (yhm_NoText : PySem.W.mroIn K X_NoText (.type "object") = some true)
    (xq_NoChart_NetError : PySem.W.exmOne K (.ref X_NoChart) (.ref X_NetError) = some true)
    (xq_NoNet_NetError : PySem.W.exmOne K (.ref X_NoNet) (.ref X_NetError) = some true)
    (xq_NoText_NetError : PySem.W.exmOne K (.ref X_NoText) (.ref X_NetError) = some true)
    (xi_NoChart_NoCase : PySem.W.kitOne K (.ref X_NoChart) (.ref X_NoCase) = some false)
    (xi_NoChart_NoChart : PySem.W.kitOne K (.ref X_NoChart) (.ref X_NoChart) = some true)
    (xi_NoChart_NoNet : PySem.W.kitOne K (.ref X_NoChart) (.ref X_NoNet) = some false)
    (xi_NoChart_NoRun : PySem.W.kitOne K (.ref X_NoChart) (.ref X_NoRun) = some false)
    (xi_NoChart_NoStretch : PySem.W.kitOne K (.ref X_NoChart) (.ref X_NoStretch) = some false)
    (xi_NoChart_NoText : PySem.W.kitOne K (.ref X_NoChart) (.ref X_NoText) = some false)
    (xi_NoChart_OtherMoves : PySem.W.kitOne K (.ref X_NoChart) (.ref X_OtherMoves) = some false)
    (xi_NoChart_TooGreat : PySem.W.kitOne K (.ref X_NoChart) (.ref X_TooGreat) = some false)
    (xi_NoChart_ValueError : PySem.W.kitOne K (.ref X_NoChart) (.type "ValueError") = some true)
    (xi_NoNet_NoCase : PySem.W.kitOne K (.ref X_NoNet) (.ref X_NoCase) = some false)
    (xi_NoNet_NoChart : PySem.W.kitOne K (.ref X_NoNet) (.ref X_NoChart) = some false)
    (xi_NoNet_NoNet : PySem.W.kitOne K (.ref X_NoNet) (.ref X_NoNet) = some true)
    (xi_NoNet_NoRun : PySem.W.kitOne K (.ref X_NoNet) (.ref X_NoRun) = some false)
    (xi_NoNet_NoStretch : PySem.W.kitOne K (.ref X_NoNet) (.ref X_NoStretch) = some false)
    (xi_NoNet_NoText : PySem.W.kitOne K (.ref X_NoNet) (.ref X_NoText) = some false)
    (xi_NoNet_OtherMoves : PySem.W.kitOne K (.ref X_NoNet) (.ref X_OtherMoves) = some false)
    (xi_NoNet_TooGreat : PySem.W.kitOne K (.ref X_NoNet) (.ref X_TooGreat) = some false)
    (xi_NoNet_ValueError : PySem.W.kitOne K (.ref X_NoNet) (.type "ValueError") = some true)
    (xi_NoText_NoCase : PySem.W.kitOne K (.ref X_NoText) (.ref X_NoCase) = some false)
    (xi_NoText_NoChart : PySem.W.kitOne K (.ref X_NoText) (.ref X_NoChart) = some false)
    (xi_NoText_NoNet : PySem.W.kitOne K (.ref X_NoText) (.ref X_NoNet) = some false)
    (xi_NoText_NoRun : PySem.W.kitOne K (.ref X_NoText) (.ref X_NoRun) = some false)
    (xi_NoText_NoStretch : PySem.W.kitOne K (.ref X_NoText) (.ref X_NoStretch) = some false)
    (xi_NoText_NoText : PySem.W.kitOne K (.ref X_NoText) (.ref X_NoText) = some true)
    (xi_NoText_OtherMoves : PySem.W.kitOne K (.ref X_NoText) (.ref X_OtherMoves) = some false)
    (xi_NoText_TooGreat : PySem.W.kitOne K (.ref X_NoText) (.ref X_TooGreat) = some false)
    (xi_NoText_ValueError : PySem.W.kitOne K (.ref X_NoText) (.type "ValueError") = some true)
    : ∃ fd : FuncData, (∀ (s : Shared) (v : Value), BindsTo s fd ⟨[v], []⟩ [("_law_script", v)]) ∧ ∀ base : Heap, K.In base → base.Ns mainGlobals mg → FnOk l.prog w K mg base (L2.CX l.prog w) 6 fa fd P_law (spLaw K fn_law) := by
  have e := hfa.symm.trans (PySem.W.mg_of X G a_law)
  cases e
  have F_run_end := fun_mk (st := s_run_end) l_run_end c_run_end k_run_end
  have b_run_end := F_run_end.binds (ps := P_run_end) fun _ _ _ _ _ _ us hl => match us, hl with | [_, _, _], _ => rfl
  have F_word_end := fun_mk (st := s_word_end) l_word_end c_word_end k_word_end
  have b_word_end := F_word_end.binds (ps := P_word_end) fun _ _ _ _ _ _ us hl => match us, hl with | [_, _], _ => rfl
  have F_words := fun_mk (st := s_words) l_words c_words k_words
  have b_words := F_words.binds (ps := P_words) fun _ _ _ _ _ _ us hl => match us, hl with | [_], _ => rfl
  have F_is_name := fun_mk (st := s_is_name) l_is_name c_is_name k_is_name
  have b_is_name := F_is_name.binds (ps := P_is_name) fun _ _ _ _ _ _ us hl => match us, hl with | [_], _ => rfl
  have F_is_number := fun_mk (st := s_is_number) l_is_number c_is_number k_is_number
  have b_is_number := F_is_number.binds (ps := P_is_number) fun _ _ _ _ _ _ us hl => match us, hl with | [_], _ => rfl
  have F_parts_between := fun_mk (st := s_parts_between) l_parts_between c_parts_between k_parts_between
  have b_parts_between := F_parts_between.binds (ps := P_parts_between) fun _ _ _ _ _ _ us hl => match us, hl with | [_], _ => rfl
  have F_moves_by := fun_mk (st := s_moves_by) l_moves_by c_moves_by k_moves_by
  have b_moves_by := F_moves_by.binds (ps := P_moves_by) fun _ _ _ _ _ _ us hl => match us, hl with | [_], _ => rfl
  have F_states_of := fun_mk (st := s_states_of) l_states_of c_states_of k_states_of
  have b_states_of := F_states_of.binds (ps := P_states_of) fun _ _ _ _ _ _ us hl => match us, hl with | [_], _ => rfl
  have F_states_come_to := fun_mk (st := s_states_come_to) l_states_come_to c_states_come_to k_states_come_to
  have b_states_come_to := F_states_come_to.binds (ps := P_states_come_to) fun _ _ _ _ _ _ us hl => match us, hl with | [_], _ => rfl
  have F_is_move_name := fun_mk (st := s_is_move_name) l_is_move_name c_is_move_name k_is_move_name
  have b_is_move_name := F_is_move_name.binds (ps := P_is_move_name) fun _ _ _ _ _ _ us hl => match us, hl with | [_], _ => rfl
  have F_is_rising := fun_mk (st := s_is_rising) l_is_rising c_is_rising k_is_rising
  have b_is_rising := F_is_rising.binds (ps := P_is_rising) fun _ _ _ _ _ _ us hl => match us, hl with | [_], _ => rfl
  have F_is_chart := fun_mk (st := s_is_chart) l_is_chart c_is_chart k_is_chart
  have b_is_chart := F_is_chart.binds (ps := P_is_chart) fun _ _ _ _ _ _ us hl => match us, hl with | [_, _], _ => rfl
  have F_arc_by := fun_mk (st := s_arc_by) l_arc_by c_arc_by k_arc_by
  have b_arc_by := F_arc_by.binds (ps := P_arc_by) fun _ _ _ _ _ _ us hl => match us, hl with | [_], _ => rfl
  have F_read_chart := fun_mk (st := s_read_chart) l_read_chart c_read_chart k_read_chart
  have b_read_chart := F_read_chart.binds (ps := P_read_chart) fun _ _ _ _ _ _ us hl => match us, hl with | [_], _ => rfl
  have F_place_by := fun_mk (st := s_place_by) l_place_by c_place_by k_place_by
  have b_place_by := F_place_by.binds (ps := P_place_by) fun _ _ _ _ _ _ us hl => match us, hl with | [_], _ => rfl
  have F_place_for := fun_mk (st := s_place_for) l_place_for c_place_for k_place_for
  have b_place_for := F_place_for.binds (ps := P_place_for) fun _ _ _ _ _ _ us hl => match us, hl with | [_, _, _], _ => rfl
  have F_read_net := fun_mk (st := s_read_net) l_read_net c_read_net k_read_net
  have b_read_net := F_read_net.binds (ps := P_read_net) fun _ _ _ _ _ _ us hl => match us, hl with | [_], _ => rfl
  have F_law_cell_at := fun_mk (st := s_law_cell_at) l_law_cell_at c_law_cell_at k_law_cell_at
  have b_law_cell_at := F_law_cell_at.binds (ps := P_law_cell_at) fun _ _ _ _ _ _ us hl => match us, hl with | [_, _], _ => rfl
  have F_law_word_by := fun_mk (st := s_law_word_by) l_law_word_by c_law_word_by k_law_word_by
  have b_law_word_by := F_law_word_by.binds (ps := P_law_word_by) fun _ _ _ _ _ _ us hl => match us, hl with | [_], _ => rfl
  have F_law_figures := fun_mk (st := s_law_figures) l_law_figures c_law_figures k_law_figures
  have b_law_figures := F_law_figures.binds (ps := P_law_figures) fun _ _ _ _ _ _ us hl => match us, hl with | [_, _], _ => rfl
  have F_law_bad_by := fun_mk (st := s_law_bad_by) l_law_bad_by c_law_bad_by k_law_bad_by
  have b_law_bad_by := F_law_bad_by.binds (ps := P_law_bad_by) fun _ _ _ _ _ _ us hl => match us, hl with | [_], _ => rfl
  have F_law_refused := fun_mk (st := s_law_refused) l_law_refused c_law_refused k_law_refused
  have b_law_refused := F_law_refused.binds (ps := P_law_refused) fun _ _ _ _ _ _ us hl => match us, hl with | [_, _], _ => rfl
  have F_law := fun_mk (st := s_law) l_law c_law k_law
  have b_law := F_law.binds (ps := P_law) fun _ _ _ _ _ _ us hl => match us, hl with | [_], _ => rfl
  subst q_FIGURES
  subst q_LETTERS
  let fx : Fx K mg (fun c => if c = "NetError" then some X_NetError else if c = "NoCase" then some X_NoCase else if c = "NoChart" then some X_NoChart else if c = "NoNet" then some X_NoNet else if c = "NoRun" then some X_NoRun else if c = "NoStretch" then some X_NoStretch else if c = "NoText" then some X_NoText else if c = "OtherMoves" then some X_OtherMoves else if c = "TooGreat" then some X_TooGreat else if c = "read_chart" then some f_read_chart else if c = "read_net" then some f_read_net else if c = "words" then some f_words else none) := ⟨_, _, F_run_end, b_run_end, PySem.W.mg_of X G a_run_end, _, _, F_word_end, b_word_end, PySem.W.mg_of X G a_word_end, _, _, F_words, b_words, PySem.W.mg_of X G a_words, _, _, F_is_name, b_is_name, PySem.W.mg_of X G a_is_name, _, _, F_is_number, b_is_number, PySem.W.mg_of X G a_is_number, _, _, F_parts_between, b_parts_between, PySem.W.mg_of X G a_parts_between, _, _, F_moves_by, b_moves_by, PySem.W.mg_of X G a_moves_by, _, _, F_states_of, b_states_of, PySem.W.mg_of X G a_states_of, _, _, F_states_come_to, b_states_come_to, PySem.W.mg_of X G a_states_come_to, _, _, F_is_move_name, b_is_move_name, PySem.W.mg_of X G a_is_move_name, _, _, F_is_rising, b_is_rising, PySem.W.mg_of X G a_is_rising, _, _, F_is_chart, b_is_chart, PySem.W.mg_of X G a_is_chart, _, _, F_arc_by, b_arc_by, PySem.W.mg_of X G a_arc_by, _, _, F_read_chart, b_read_chart, PySem.W.mg_of X G a_read_chart, _, _, F_place_by, b_place_by, PySem.W.mg_of X G a_place_by, _, _, F_place_for, b_place_for, PySem.W.mg_of X G a_place_for, _, _, F_read_net, b_read_net, PySem.W.mg_of X G a_read_net, _, _, F_law_cell_at, b_law_cell_at, PySem.W.mg_of X G a_law_cell_at, _, _, F_law_word_by, b_law_word_by, PySem.W.mg_of X G a_law_word_by, _, _, F_law_figures, b_law_figures, PySem.W.mg_of X G a_law_figures, _, _, F_law_bad_by, b_law_bad_by, PySem.W.mg_of X G a_law_bad_by, _, _, F_law_refused, b_law_refused, PySem.W.mg_of X G a_law_refused, _, _, F_law, b_law, PySem.W.mg_of X G a_law, PySem.W.mg_none_of X G z_ValueError, PySem.W.mg_none_of X G z_all, PySem.W.mg_none_of X G z_int, PySem.W.mg_none_of X G z_isinstance, PySem.W.mg_none_of X G z_len, PySem.W.mg_none_of X G z_max, PySem.W.mg_none_of X G z_min, PySem.W.mg_none_of X G z_range, PySem.W.mg_none_of X G z_set, PySem.W.mg_none_of X G z_sorted, PySem.W.mg_none_of X G z_str, PySem.W.mg_none_of X G z_tuple, PySem.W.mg_none_of X G z_zip, _, PySem.W.mg_of X G v_FIGURES, _, PySem.W.mg_of X G v_LETTERS, ((if_neg (by decide +kernel)).trans ((if_neg (by decide +kernel)).trans ((if_neg (by decide +kernel)).trans ((if_neg (by decide +kernel)).trans ((if_neg (by decide +kernel)).trans ((if_neg (by decide +kernel)).trans ((if_neg (by decide +kernel)).trans ((if_neg (by decide +kernel)).trans ((if_neg (by decide +kernel)).trans ((if_neg (by decide +kernel)).trans ((if_neg (by decide +kernel)).trans ((if_neg (by decide +kernel)).trans rfl)))))))))))), X_NetError, (if_pos rfl), PySem.W.mg_of X G ax_NetError, xe_NetError, xk_NetError, xb_NetError, xt_NetError, X_NoCase, ((if_neg (by decide +kernel)).trans (if_pos rfl)), PySem.W.mg_of X G ax_NoCase, xe_NoCase, xk_NoCase, xb_NoCase, xt_NoCase, X_NoChart, ((if_neg (by decide +kernel)).trans ((if_neg (by decide +kernel)).trans (if_pos rfl))), PySem.W.mg_of X G ax_NoChart, xe_NoChart, xk_NoChart, xb_NoChart, xt_NoChart, X_NoNet, ((if_neg (by decide +kernel)).trans ((if_neg (by decide +kernel)).trans ((if_neg (by decide +kernel)).trans (if_pos rfl)))), PySem.W.mg_of X G ax_NoNet, xe_NoNet, xk_NoNet, xb_NoNet, xt_NoNet, X_NoRun, ((if_neg (by decide +kernel)).trans ((if_neg (by decide +kernel)).trans ((if_neg (by decide +kernel)).trans ((if_neg (by decide +kernel)).trans (if_pos rfl))))), PySem.W.mg_of X G ax_NoRun, xe_NoRun, xk_NoRun, xb_NoRun, xt_NoRun, X_NoStretch, ((if_neg (by decide +kernel)).trans ((if_neg (by decide +kernel)).trans ((if_neg (by decide +kernel)).trans ((if_neg (by decide +kernel)).trans ((if_neg (by decide +kernel)).trans (if_pos rfl)))))), PySem.W.mg_of X G ax_NoStretch, xe_NoStretch, xk_NoStretch, xb_NoStretch, xt_NoStretch, X_NoText, ((if_neg (by decide +kernel)).trans ((if_neg (by decide +kernel)).trans ((if_neg (by decide +kernel)).trans ((if_neg (by decide +kernel)).trans ((if_neg (by decide +kernel)).trans ((if_neg (by decide +kernel)).trans (if_pos rfl))))))), PySem.W.mg_of X G ax_NoText, xe_NoText, xk_NoText, xb_NoText, xt_NoText, X_OtherMoves, ((if_neg (by decide +kernel)).trans ((if_neg (by decide +kernel)).trans ((if_neg (by decide +kernel)).trans ((if_neg (by decide +kernel)).trans ((if_neg (by decide +kernel)).trans ((if_neg (by decide +kernel)).trans ((if_neg (by decide +kernel)).trans (if_pos rfl)))))))), PySem.W.mg_of X G ax_OtherMoves, xe_OtherMoves, xk_OtherMoves, xb_OtherMoves, xt_OtherMoves, X_TooGreat, ((if_neg (by decide +kernel)).trans ((if_neg (by decide +kernel)).trans ((if_neg (by decide +kernel)).trans ((if_neg (by decide +kernel)).trans ((if_neg (by decide +kernel)).trans ((if_neg (by decide +kernel)).trans ((if_neg (by decide +kernel)).trans ((if_neg (by decide +kernel)).trans (if_pos rfl))))))))), PySem.W.mg_of X G ax_TooGreat, xe_TooGreat, xk_TooGreat, xb_TooGreat, xt_TooGreat, ⟨yhg_NoChart, yhk_NoChart, yhs_NoChart, yhd_NoChart, yha_NoChart, yhn_NoChart, yht_NoChart, yhm_NoChart⟩, ⟨yhg_NoNet, yhk_NoNet, yhs_NoNet, yhd_NoNet, yha_NoNet, yhn_NoNet, yht_NoNet, yhm_NoNet⟩, ⟨yhg_NoText, yhk_NoText, yhs_NoText, yhd_NoText, yha_NoText, yhn_NoText, yht_NoText, yhm_NoText⟩, xq_NoChart_NetError, xq_NoNet_NetError, xq_NoText_NetError, xi_NoChart_NoCase, xi_NoChart_NoChart, xi_NoChart_NoNet, xi_NoChart_NoRun, xi_NoChart_NoStretch, xi_NoChart_NoText, xi_NoChart_OtherMoves, xi_NoChart_TooGreat, xi_NoChart_ValueError, xi_NoNet_NoCase, xi_NoNet_NoChart, xi_NoNet_NoNet, xi_NoNet_NoRun, xi_NoNet_NoStretch, xi_NoNet_NoText, xi_NoNet_OtherMoves, xi_NoNet_TooGreat, xi_NoNet_ValueError, xi_NoText_NoCase, xi_NoText_NoChart, xi_NoText_NoNet, xi_NoText_NoRun, xi_NoText_NoStretch, xi_NoText_NoText, xi_NoText_OtherMoves, xi_NoText_TooGreat, xi_NoText_ValueError, ((if_neg (by decide +kernel)).trans ((if_neg (by decide +kernel)).trans ((if_neg (by decide +kernel)).trans ((if_neg (by decide +kernel)).trans ((if_neg (by decide +kernel)).trans ((if_neg (by decide +kernel)).trans ((if_neg (by decide +kernel)).trans ((if_neg (by decide +kernel)).trans ((if_neg (by decide +kernel)).trans (if_pos rfl)))))))))), ((if_neg (by decide +kernel)).trans ((if_neg (by decide +kernel)).trans ((if_neg (by decide +kernel)).trans ((if_neg (by decide +kernel)).trans ((if_neg (by decide +kernel)).trans ((if_neg (by decide +kernel)).trans ((if_neg (by decide +kernel)).trans ((if_neg (by decide +kernel)).trans ((if_neg (by decide +kernel)).trans ((if_neg (by decide +kernel)).trans (if_pos rfl))))))))))), ((if_neg (by decide +kernel)).trans ((if_neg (by decide +kernel)).trans ((if_neg (by decide +kernel)).trans ((if_neg (by decide +kernel)).trans ((if_neg (by decide +kernel)).trans ((if_neg (by decide +kernel)).trans ((if_neg (by decide +kernel)).trans ((if_neg (by decide +kernel)).trans ((if_neg (by decide +kernel)).trans ((if_neg (by decide +kernel)).trans ((if_neg (by decide +kernel)).trans (if_pos rfl))))))))))))⟩
  exact ⟨_, fun s v => .of_eq rfl, fun base _ _ => (ok_law (k := 0) fx).imp fun _ _ _ _ h => sp_law h⟩
end
end DL
open PySem PySem.W PyProof.Rows
set_option maxHeartbeats 0 in
theorem PySem.Challenge.cw_netfinder_k02_no_words_holds : PySem.Challenge.rw_netfinder_k02_no_words.Holds := by
  w_on; o_law; k_head; (case hw => w_witness2)
  k_fill
  refine L2.walk_ofB (l := PySem.Challenge.rw_netfinder_k02_no_words) (n := 63) (k := 6) (x := "_law_script") (CX := fun w => L2.CX PySem.Challenge.rw_netfinder_k02_no_words.prog w) (sp := fun w => DL.spLaw _ DL.fn_law) rfl (by decide) rfl ⟨rfl, by decide, by decide⟩ (fun w h Y => PySem.W.kIn_of Y) ?F (fun w H a ns hl hb _ hS => DL.law_sp0 hS (DL.law_true ns hl hb)) ?X
  case F =>
    intro w mg fa h KX G hmg
    refine' DL.all_mk KX G hmg ?a_run_end ?l_run_end ?c_run_end ?k_run_end ?a_word_end ?l_word_end ?c_word_end ?k_word_end ?a_words ?l_words ?c_words ?k_words ?a_is_name ?l_is_name ?c_is_name ?k_is_name ?a_is_number ?l_is_number ?c_is_number ?k_is_number ?a_parts_between ?l_parts_between ?c_parts_between ?k_parts_between ?a_moves_by ?l_moves_by ?c_moves_by ?k_moves_by ?a_states_of ?l_states_of ?c_states_of ?k_states_of ?a_states_come_to ?l_states_come_to ?c_states_come_to ?k_states_come_to ?a_is_move_name ?l_is_move_name ?c_is_move_name ?k_is_move_name ?a_is_rising ?l_is_rising ?c_is_rising ?k_is_rising ?a_is_chart ?l_is_chart ?c_is_chart ?k_is_chart ?a_arc_by ?l_arc_by ?c_arc_by ?k_arc_by ?a_read_chart ?l_read_chart ?c_read_chart ?k_read_chart ?a_place_by ?l_place_by ?c_place_by ?k_place_by ?a_place_for ?l_place_for ?c_place_for ?k_place_for ?a_read_net ?l_read_net ?c_read_net ?k_read_net ?a_law_cell_at ?l_law_cell_at ?c_law_cell_at ?k_law_cell_at ?a_law_word_by ?l_law_word_by ?c_law_word_by ?k_law_word_by ?a_law_figures ?l_law_figures ?c_law_figures ?k_law_figures ?a_law_bad_by ?l_law_bad_by ?c_law_bad_by ?k_law_bad_by ?a_law_refused ?l_law_refused ?c_law_refused ?k_law_refused ?a_law ?l_law ?c_law ?k_law ?z_ValueError ?z_all ?z_int ?z_isinstance ?z_len ?z_max ?z_min ?z_range ?z_set ?z_sorted ?z_str ?z_tuple ?z_zip ?v_FIGURES ?q_FIGURES ?v_LETTERS ?q_LETTERS ?ax_NetError ?xe_NetError ?xk_NetError ?xb_NetError ?xt_NetError ?ax_NoCase ?xe_NoCase ?xk_NoCase ?xb_NoCase ?xt_NoCase ?ax_NoChart ?xe_NoChart ?xk_NoChart ?xb_NoChart ?xt_NoChart ?ax_NoNet ?xe_NoNet ?xk_NoNet ?xb_NoNet ?xt_NoNet ?ax_NoRun ?xe_NoRun ?xk_NoRun ?xb_NoRun ?xt_NoRun ?ax_NoStretch ?xe_NoStretch ?xk_NoStretch ?xb_NoStretch ?xt_NoStretch ?ax_NoText ?xe_NoText ?xk_NoText ?xb_NoText ?xt_NoText ?ax_OtherMoves ?xe_OtherMoves ?xk_OtherMoves ?xb_OtherMoves ?xt_OtherMoves ?ax_TooGreat ?xe_TooGreat ?xk_TooGreat ?xb_TooGreat ?xt_TooGreat ?yhg_NoChart ?yhk_NoChart ?yhs_NoChart ?yhd_NoChart ?yha_NoChart ?yhn_NoChart ?yht_NoChart ?yhm_NoChart ?yhg_NoNet ?yhk_NoNet ?yhs_NoNet ?yhd_NoNet ?yha_NoNet ?yhn_NoNet ?yht_NoNet ?yhm_NoNet ?yhg_NoText ?yhk_NoText ?yhs_NoText ?yhd_NoText ?yha_NoText ?yhn_NoText ?yht_NoText ?yhm_NoText ?xq_NoChart_NetError ?xq_NoNet_NetError ?xq_NoText_NetError ?xi_NoChart_NoCase ?xi_NoChart_NoChart ?xi_NoChart_NoNet ?xi_NoChart_NoRun ?xi_NoChart_NoStretch ?xi_NoChart_NoText ?xi_NoChart_OtherMoves ?xi_NoChart_TooGreat ?xi_NoChart_ValueError ?xi_NoNet_NoCase ?xi_NoNet_NoChart ?xi_NoNet_NoNet ?xi_NoNet_NoRun ?xi_NoNet_NoStretch ?xi_NoNet_NoText ?xi_NoNet_OtherMoves ?xi_NoNet_TooGreat ?xi_NoNet_ValueError ?xi_NoText_NoCase ?xi_NoText_NoChart ?xi_NoText_NoNet ?xi_NoText_NoRun ?xi_NoText_NoStretch ?xi_NoText_NoText ?xi_NoText_OtherMoves ?xi_NoText_TooGreat ?xi_NoText_ValueError
    (case a_run_end => k_is); (case l_run_end => k_is); (case c_run_end => k_is); (case k_run_end => k_is); (case a_word_end => k_is); (case l_word_end => k_is); (case c_word_end => k_is); (case k_word_end => k_is); (case a_words => k_is); (case l_words => k_is); (case c_words => k_is); (case k_words => k_is); (case a_is_name => k_is); (case l_is_name => k_is); (case c_is_name => k_is); (case k_is_name => k_is); (case a_is_number => k_is); (case l_is_number => k_is); (case c_is_number => k_is); (case k_is_number => k_is); (case a_parts_between => k_is); (case l_parts_between => k_is); (case c_parts_between => k_is); (case k_parts_between => k_is); (case a_moves_by => k_is); (case l_moves_by => k_is); (case c_moves_by => k_is); (case k_moves_by => k_is); (case a_states_of => k_is); (case l_states_of => k_is); (case c_states_of => k_is); (case k_states_of => k_is); (case a_states_come_to => k_is); (case l_states_come_to => k_is); (case c_states_come_to => k_is); (case k_states_come_to => k_is); (case a_is_move_name => k_is); (case l_is_move_name => k_is); (case c_is_move_name => k_is); (case k_is_move_name => k_is); (case a_is_rising => k_is); (case l_is_rising => k_is); (case c_is_rising => k_is); (case k_is_rising => k_is); (case a_is_chart => k_is); (case l_is_chart => k_is); (case c_is_chart => k_is); (case k_is_chart => k_is); (case a_arc_by => k_is); (case l_arc_by => k_is); (case c_arc_by => k_is); (case k_arc_by => k_is); (case a_read_chart => k_is); (case l_read_chart => k_is); (case c_read_chart => k_is); (case k_read_chart => k_is); (case a_place_by => k_is); (case l_place_by => k_is); (case c_place_by => k_is); (case k_place_by => k_is); (case a_place_for => k_is); (case l_place_for => k_is); (case c_place_for => k_is); (case k_place_for => k_is); (case a_read_net => k_is); (case l_read_net => k_is); (case c_read_net => k_is); (case k_read_net => k_is); (case a_law_cell_at => k_is); (case l_law_cell_at => k_is); (case c_law_cell_at => k_is); (case k_law_cell_at => k_is); (case a_law_word_by => k_is); (case l_law_word_by => k_is); (case c_law_word_by => k_is); (case k_law_word_by => k_is); (case a_law_figures => k_is); (case l_law_figures => k_is); (case c_law_figures => k_is); (case k_law_figures => k_is); (case a_law_bad_by => k_is); (case l_law_bad_by => k_is); (case c_law_bad_by => k_is); (case k_law_bad_by => k_is); (case a_law_refused => k_is); (case l_law_refused => k_is); (case c_law_refused => k_is); (case k_law_refused => k_is); (case a_law => k_is); (case l_law => k_is); (case c_law => k_is); (case k_law => k_is); (case z_ValueError => k_is); (case z_all => k_is); (case z_int => k_is); (case z_isinstance => k_is); (case z_len => k_is); (case z_max => k_is); (case z_min => k_is); (case z_range => k_is); (case z_set => k_is); (case z_sorted => k_is); (case z_str => k_is); (case z_tuple => k_is); (case z_zip => k_is); (case v_FIGURES => k_is); (case v_LETTERS => k_is); (case ax_NetError => k_is); (case xe_NetError => k_exc); (case xk_NetError => k_is); (case xb_NetError => k_is); (case xt_NetError => k_is); (case ax_NoCase => k_is); (case xe_NoCase => k_exc); (case xk_NoCase => k_is); (case xb_NoCase => k_is); (case xt_NoCase => k_is); (case ax_NoChart => k_is); (case xe_NoChart => k_exc); (case xk_NoChart => k_is); (case xb_NoChart => k_is); (case xt_NoChart => k_is); (case ax_NoNet => k_is); (case xe_NoNet => k_exc); (case xk_NoNet => k_is); (case xb_NoNet => k_is); (case xt_NoNet => k_is); (case ax_NoRun => k_is); (case xe_NoRun => k_exc); (case xk_NoRun => k_is); (case xb_NoRun => k_is); (case xt_NoRun => k_is); (case ax_NoStretch => k_is); (case xe_NoStretch => k_exc); (case xk_NoStretch => k_is); (case xb_NoStretch => k_is); (case xt_NoStretch => k_is); (case ax_NoText => k_is); (case xe_NoText => k_exc); (case xk_NoText => k_is); (case xb_NoText => k_is); (case xt_NoText => k_is); (case ax_OtherMoves => k_is); (case xe_OtherMoves => k_exc); (case xk_OtherMoves => k_is); (case xb_OtherMoves => k_is); (case xt_OtherMoves => k_is); (case ax_TooGreat => k_is); (case xe_TooGreat => k_exc); (case xk_TooGreat => k_is); (case xb_TooGreat => k_is); (case xt_TooGreat => k_is); (case yhg_NoChart => k_is); (case yhk_NoChart => k_is); (case yhs_NoChart => k_is); (case yhd_NoChart => k_is); (case yha_NoChart => k_is); (case yhn_NoChart => k_is); (case yht_NoChart => k_is); (case yhm_NoChart => k_is); (case yhg_NoNet => k_is); (case yhk_NoNet => k_is); (case yhs_NoNet => k_is); (case yhd_NoNet => k_is); (case yha_NoNet => k_is); (case yhn_NoNet => k_is); (case yht_NoNet => k_is); (case yhm_NoNet => k_is); (case yhg_NoText => k_is); (case yhk_NoText => k_is); (case yhs_NoText => k_is); (case yhd_NoText => k_is); (case yha_NoText => k_is); (case yhn_NoText => k_is); (case yht_NoText => k_is); (case yhm_NoText => k_is); (case xq_NoChart_NetError => first | k_is | rfl | decide +kernel); (case xq_NoNet_NetError => first | k_is | rfl | decide +kernel); (case xq_NoText_NetError => first | k_is | rfl | decide +kernel); (case xi_NoChart_NoCase => first | k_is | rfl | decide +kernel); (case xi_NoChart_NoChart => first | k_is | rfl | decide +kernel); (case xi_NoChart_NoNet => first | k_is | rfl | decide +kernel); (case xi_NoChart_NoRun => first | k_is | rfl | decide +kernel); (case xi_NoChart_NoStretch => first | k_is | rfl | decide +kernel); (case xi_NoChart_NoText => first | k_is | rfl | decide +kernel); (case xi_NoChart_OtherMoves => first | k_is | rfl | decide +kernel); (case xi_NoChart_TooGreat => first | k_is | rfl | decide +kernel); (case xi_NoChart_ValueError => first | k_is | rfl | decide +kernel); (case xi_NoNet_NoCase => first | k_is | rfl | decide +kernel); (case xi_NoNet_NoChart => first | k_is | rfl | decide +kernel); (case xi_NoNet_NoNet => first | k_is | rfl | decide +kernel); (case xi_NoNet_NoRun => first | k_is | rfl | decide +kernel); (case xi_NoNet_NoStretch => first | k_is | rfl | decide +kernel); (case xi_NoNet_NoText => first | k_is | rfl | decide +kernel); (case xi_NoNet_OtherMoves => first | k_is | rfl | decide +kernel); (case xi_NoNet_TooGreat => first | k_is | rfl | decide +kernel); (case xi_NoNet_ValueError => first | k_is | rfl | decide +kernel); (case xi_NoText_NoCase => first | k_is | rfl | decide +kernel); (case xi_NoText_NoChart => first | k_is | rfl | decide +kernel); (case xi_NoText_NoNet => first | k_is | rfl | decide +kernel); (case xi_NoText_NoRun => first | k_is | rfl | decide +kernel); (case xi_NoText_NoStretch => first | k_is | rfl | decide +kernel); (case xi_NoText_NoText => first | k_is | rfl | decide +kernel); (case xi_NoText_OtherMoves => first | k_is | rfl | decide +kernel); (case xi_NoText_TooGreat => first | k_is | rfl | decide +kernel); (case xi_NoText_ValueError => first | k_is | rfl | decide +kernel); (case q_FIGURES => first | rfl | decide +kernel); (case q_LETTERS => first | rfl | decide +kernel)
  case X =>
    intro w H s e s2 h
    obtain ⟨_, _, _, _, _, _, _, _, _, _, _, _, h⟩ := h
    exact h

