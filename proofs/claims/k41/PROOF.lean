import PyProof.Rows.All
import Wide.All
import OpenK.AllK
import Wide.FinOn
import PyProof.ListRange
import HandS.Base
import HandS.Call
import HandS.List
import HandS.Rev
import HandS.RevTup
import HandS.TupMul
import KE.GoesNew
import KE.GoesMore
import HandS.Iter
import HandS.Zip
import HandS.ForMost
import HandS.Strs
import HandS.Replace
import HandS.Deep
import KE.SortData
import HandS.Conv
import KE.KDictSum
import PyProof.Draws
import PyProof.EnumMake
import HandS.Walk
import HandS.Zip0
import HandS.Wide
import HandS.TupAny
import HandS.IsInst
import HandS.ForExc
import HandS.More
import PyProof.FactsAll.list_3
import HandS.WordsExc
import HandS.TupLe
import HandS.Text
import HandS.Dict
import HandS.WordsDict
import HandS.TupLen
import HandS.SortKw
import KE.DataMinMax
import HandS.Flt
import KE.DataCmp
import PyProof.Rows.SeqMore
import PyProof.StrOps2
import HandS.Codes
import HandS.EndBits
import PySem.Challenge.RW_netfinder_k41_kernels
set_option Elab.async false
set_option linter.all false
set_option maxRecDepth 100000
/-! list(reversed(xs)), xs a list -/
namespace DL
open PySem PySem.Spec PyProof.Rows L2
section
variable {prog : Program} {w : World} {A : Around} {E : Value → Shared → Prop} {s : Shared}
theorem rev_ext {R : Result → Shared → Prop} {it l S : Addr} {items : Array Value} {c0 : Nat} (hh : A.handled = none) (hit : s.heap.IsRevIter it l ((items.size : Int) - 1)) (hl : s.heap.IsList l items) (hne : l ≠ it) (hn : items.size ≤ sizeLine)
    (hS : s.heap.get? S = some { cls := .type "list", data := .seq #[] c0 }) (ne1 : S ≠ it) (ne2 : S ≠ l)
    (hR : ∀ h2 tk acc c2, (∀ b o, b ≠ S → b ≠ it → s.heap.get? b = some o → h2.get? b = some o) → h2.get? S = some { cls := .type "list", dict := none, data := .seq acc c2, slots := #[] } →
      ItemsOf (fun i v => items[items.size - 1 - i]? = some v) acc items.size → R (.ok (.ret .none)) { s with heap := h2, toks := tk }) :
    wpAny (model prog w) A.in1 (Builtin.List.listExtendWith (.ref S) (.ref it) .none)
      (fun fin s2 => match fin with
        | .done f => R (.ok f) s2
        | .again c => c.quiet = true ∧ codeAny (model prog w) A c R s2) (fun e s2 => R (.error e) s2) s := by
  have Wk := (Walks.listRev (prog := prog) (w := w) (A := A.in1) hh it l hne items).toS
  have fS : S ∉ [it, l] := by
    simp only [List.mem_cons, List.not_mem_nil, or_false, not_or]
    exact ⟨ne1, ne2⟩
  have tI : s.TypeIs (.ref it) "list_reverseiterator" := hit.typeIs
  have z1 : Builtin.List.listSameRef (.ref S) (.ref it) = false := by simp [Builtin.List.listSameRef, ne1]
  unfold Builtin.List.listExtendWith
  refine wpAny_bind (wpAny_typeOf tI ?_)
  rw [if_neg (by rw [z1]; decide)]
  refine wpAny_bind (wpAny_pyIter_revIter hit ?_)
  refine wpAny_bind (wpAny_holding ?_)
  unfold Builtin.List.listLengthHint
  refine wpAny_bind (wpAny_specialOf tI RT.nolen_lri ?_)
  show wpAny _ A.in1 (specialOf (Value.ref it) (Str.ofString "__length_hint__") >>= _) _ _ _
  refine wpAny_bind (wpAny_specialOf tI RT.hint_lri ?_)
  generalize hid : ("list_reverseiterator.__length_hint__" : String) = id0
  wp_delta
  rw [show splitId id0 = some ("list_reverseiterator", "__length_hint__") from by subst hid; decide +kernel]
  subst hid
  refine wpAny_bind (wpAny_isInstance (b := true) tI (by rw [isSubtype_type]; kernel_rfl) ?_)
  refine wpAny_pure ?_
  rw [if_neg (by decide)]
  have e0 : ((items.size : Nat) : Int) - 1 - ((0 : Nat) : Int) = (items.size : Int) - 1 := by omega
  refine wpAny_pure ⟨plainId_quiet F.plain_extend_loop _, codeAny_extend_loopS Wk hn _ fS _ items.size 0 _ _ _ rfl (Nat.zero_le _) ⟨Nat.zero_le _, (by rw [e0]; exact hit), hl⟩ hS (ItemsOf.nil _) fun s2 acc c2 hm hS2 hacc => ?_⟩
  rw [Moved.eq_with hm]
  refine hR s2.heap s2.toks acc c2 (fun b o hb hi e => hm.heap b o (fun hmem => ?_) e) hS2 hacc
  rcases List.mem_cons.mp hmem with e' | hmem
  · exact hb e'
  · exact hi (List.mem_singleton.mp hmem)
theorem rev_init {R : Result → Shared → Prop} {it l S : Addr} {items : Array Value} (hh : A.handled = none) (hit : s.heap.IsRevIter it l ((items.size : Int) - 1)) (hl : s.heap.IsList l items) (hne : l ≠ it) (hn : items.size ≤ sizeLine)
    (hS : s.heap.get? S = some { cls := .type "list", data := .seq #[] }) (ne1 : S ≠ it) (ne2 : S ≠ l)
    (hR : ∀ h2 tk acc c2, (∀ b o, b ≠ S → b ≠ it → s.heap.get? b = some o → h2.get? b = some o) → h2.get? S = some { cls := .type "list", dict := none, data := .seq acc c2, slots := #[] } →
      ItemsOf (fun i v => items[items.size - 1 - i]? = some v) acc items.size → R (.ok (.ret .none)) { s with heap := h2, toks := tk }) :
    wpAny (model prog w) A.in1 (Builtin.«list.__init__» ⟨[.ref S, .ref it], []⟩)
      (fun fin s2 => match fin with
        | .done f => R (.ok f) s2
        | .again c => c.quiet = true ∧ codeAny (model prog w) A c R s2) (fun e s2 => R (.error e) s2) s := by
  show wpAny _ _ (do
    let old ← Builtin.List.listItems (.ref S)
    Builtin.List.listUpdate (.ref S) (fun _ => #[])
    letGo old.toList.reverse
    Builtin.List.listExtendWith (.ref S) (.ref it) .none) _ _ s
  refine wpAny_bind ?_
  unfold Builtin.List.listItems
  refine wpAny_bind (wpAny_seqItems hS rfl (wpAny_pure ?_))
  show wpAny _ _ (updateSeq S (fun _ => #[]) >>= fun _ =>
    letGo (#[] : Array Value).toList.reverse >>= fun _ =>
    Builtin.List.listExtendWith (.ref S) (.ref it) .none) _ _ s
  refine wpAny_bind (wpAny_updateSeq hS rfl ?_)
  have hS3 := Heap.get?_update_self (Obj.mapSeq (fun _ => (#[] : Array Value))) hS rfl
  have oth : ∀ b o, b ≠ S → s.heap.get? b = some o →
      (s.heap.update S (Obj.mapSeq (fun _ => (#[] : Array Value)))).get? b = some o := fun b o hb e => (Heap.get?_update_other _ _ (Ne.symm hb)).trans e
  refine wpAny_bind (wpAny_letGo ?_)
  refine rev_ext hh (hit.at fun o e => oth it o (Ne.symm ne1) e) ?_ hne hn hS3 ne1 ne2 fun h2 tk acc c2 hk hS2 hacc => ?_
  · obtain ⟨o, e, r⟩ := hl
    exact ⟨o, oth l o (Ne.symm ne2) e, r⟩
  · exact hR h2 tk acc c2 (fun b o hb hi e => hk b o hb hi (oth b o hb e)) hS2 hacc
theorem call_lrev {it l : Addr} {items : Array Value} {Q : Value → Shared → Prop} (hh : A.handled = none) (hit : s.heap.IsRevIter it l ((items.size : Int) - 1)) (hl : s.heap.IsList l items) (hne : l ≠ it) (hn : items.size ≤ sizeLine)
    (hQ : ∀ h2 tk acc c2, (∀ b o, b ≠ it → s.heap.get? b = some o → h2.get? b = some o) → h2.get? s.heap.objs.size = some { cls := .type "list", dict := none, data := .seq acc c2, slots := #[] } →
      ItemsOf (fun i v => items[items.size - 1 - i]? = some v) acc items.size → Q (.ref s.heap.objs.size) { s with heap := h2, toks := tk }) :
    wpAny (model prog w) A (call (.type "list") [.ref it]) Q E s := by
  obtain ⟨oi, hoi, _⟩ := id hit
  obtain ⟨ol, hol, _⟩ := id hl
  refine callType_codes (Q₁ := fun obj s₁ => obj = .ref s.heap.objs.size ∧ s₁ = { s with heap := s.heap.push { cls := .type "list", data := .seq #[] } })
    F.called_list (F.typeCall_list_1 _) F.entry_list_init (code_list_new _ ⟨rfl, rfl⟩) fun obj s₁ h₁ => ?_
  obtain ⟨rfl, rfl⟩ := h₁
  have hS : (s.heap.push { cls := .type "list", data := .seq #[] }).get? s.heap.objs.size = some { cls := .type "list", data := .seq #[] } := Heap.get?_push_size _ rfl
  refine ⟨⟨_, hS, rfl⟩, F.args_list_init_2 _ _, rev_init (A := A.in1) hh (hit.at fun o e => Heap.get?_push_of_some _ e) (hl.push _) hne hn hS (Nat.ne_of_gt (Heap.lt_size hoi)) (Nat.ne_of_gt (Heap.lt_size hol)) fun h2 tk acc c2 hk hS2 hacc => ?_⟩
  exact ⟨rfl, hQ h2 tk acc c2 (fun b o hb e => hk b o (Nat.ne_of_lt (Heap.lt_size e)) hb (Heap.get?_push_of_some _ e)) hS2 hacc⟩
end
section
variable {X : Cx}
def tLRev (K : PySem.W.Frag) (te : TE) : TE := fun σ H Q => te σ H fun v H1 => ∃ (a : Addr) (xs : List V), v = .ref a ∧ SqL K H1 a xs ∧ ∀ q, H1 q = none → Q (.ref q) (upd H1 q (.lst xs.reverse))
theorem pe_lrev {e : Expr} {te : TE} {p p2 pos pos2 : Pos} (hc : X.calm = true) (hg : Gl X "list") (hm : X.mg "list" = none) (hg2 : Gl X "reversed") (hm2 : X.mg "reversed" = none) (he : PE X e te)
    (hs : starEach [e] X.env = (false, eval e X.env) :: starEach [] X.env := by rfl)
    (hs2 : starEach [.Call (.Name "reversed" p2) [e] [] pos2] X.env = (false, eval (.Call (.Name "reversed" p2) [e] [] pos2) X.env) :: starEach [] X.env := by rfl) :
    PE X (.Call (.Name "list" p) [.Call (.Name "reversed" p2) [e] [] pos2] [] pos) (tLRev X.K te) := by
  refine ⟨fun ps sh sg hp QQ inv h => ?_⟩
  have inner : ∀ (R : Value → Shared → Prop), (∀ u s1 v H1, Inv X ps sg H1 s1 → RelV v u → (∃ (a : Addr) (xs : List V), v = .ref a ∧ SqL X.K H1 a xs ∧ ∀ q, H1 q = none → QQ (.ref q) (upd H1 q (.lst xs.reverse))) →
      wpAny (model X.prog X.w) X.A (call (.type "reversed") [u]) R X.xe s1) → wpAny (model X.prog X.w) X.A (eval (.Call (.Name "reversed" p2) [e] [] pos2) X.env) R X.xe sh := fun R k =>
    Call_ (ld_blt inv hg2 hm2 PyProof.Rows.boot_reversed (PyProof.Rows.callWith_type1 (args_cons (thn (he.run ps sh sg hp _ inv h) fun u s1 ⟨v, H1, I1, r1, q1⟩ => args_nil (k u s1 v H1 I1 r1 q1)) hs) hs rfl))
  refine Call_ (ld_blt inv hg hm boot_list (PyProof.Rows.callWith_type1 (args_cons (inner _ fun u s1 v H1 I1 r1 q1 => ?_) hs2) hs2 rfl))
  obtain ⟨a, xs, ev, hq, q⟩ := q1
  subst ev
  obtain rfl : u = Value.ref a := r1
  obtain ⟨its, rv, p', hz⟩ := I1.list hq
  refine call_reversed_list p'.isList (args_nil ?_)
  have k0 : ∀ b o, s1.heap.get? b = some o → (s1.heap.push (revObj a ((its.toArray.size : Int) - 1))).get? b = some o := fun b o e => Heap.get?_push_of_some _ e
  have I2 : Inv X ps sg H1 { s1 with heap := s1.heap.push (revObj a ((its.toArray.size : Int) - 1)) } := I1.kept (t' := s1.toks) k0
  have fp := I1.fpOk (H' := H1) (b := s1.heap.objs.size) (Nat.le_refl _) (I1.hok.fresh (Nat.le_refl _))
  have hl := p'.isList
  obtain ⟨ol, hol, _⟩ := id hl
  have hne : a ≠ s1.heap.objs.size := Nat.ne_of_lt (Heap.lt_size hol)
  have hn : its.toArray.size ≤ sizeLine := by
    rw [List.size_toArray, ← rv.length]
    exact hz
  refine call_lrev (s := { s1 with heap := s1.heap.push (revObj a ((its.toArray.size : Int) - 1)) }) (I1.ok.hd hc) ⟨_, Heap.get?_push_size _ rfl, rfl, rfl⟩ (hl.push _) hne hn fun h2 tk acc c2 hk hS hi => ?_
  have szp : ({ s1 with heap := s1.heap.push (revObj a ((its.toArray.size : Int) - 1)) } : Shared).heap.objs.size = s1.heap.objs.size + 1 := Heap.size_push ..
  have fr : H1 ({ s1 with heap := s1.heap.push (revObj a ((its.toArray.size : Int) - 1)) } : Shared).heap.objs.size = none := I2.hok.fresh (Nat.le_refl _)
  generalize hD : ({ s1 with heap := s1.heap.push (revObj a ((its.toArray.size : Int) - 1)) } : Shared).heap.objs.size = dd at hS fr szp
  have Dn : dd ≠ s1.heap.objs.size := by omega
  obtain ⟨f0, f1, f2, f3, f4, f5⟩ := fp
  have I3 : Inv X ps sg (upd H1 dd (.lst xs.reverse)) { s1 with heap := h2, toks := tk } := by
    refine Inv.turnedNew (s := { s1 with heap := s1.heap.push (revObj a ((its.toArray.size : Int) - 1)) }) (t' := tk) (ch := [s1.heap.objs.size]) I2 (fun b o hb e => hk b o (by simpa using hb) e) (fun b hb => ?_) (by rw [← hD]; exact Nat.le_refl _) ?_
    · obtain rfl : b = s1.heap.objs.size := by simpa using hb
      exact ⟨f0, f1, f2, f3, f4, f5⟩
    · refine ⟨?_, acc.toList, c2, RT.vals_rev rv hi, ?_⟩
      · rw [List.length_reverse]; exact hz
      · rw [Array.toArray_toList]; exact hS
  exact ⟨.ref dd, _, I3, rfl, q dd fr⟩
end
end DL

set_option maxHeartbeats 4000000
/-! a tuple times 0, 1 or less -/
namespace DL
open PySem PySem.Spec PyProof.Rows L2
theorem tup_mul_none (l : Addr) (items : Array Value) (n : Nat) (dd : Option Addr) (sl : Array (Option Value)) (x : Int) (u : Tok) (c0 : (decide (x < -(2 ^ 63)) || decide (x ≥ 2 ^ 63)) = false) (c1 : (items.isEmpty || x == 1) = false) (c2 : (decide (x ≤ 0) || items.isEmpty) = true) :
    Meets (Builtin.«tuple.__mul__» ⟨[.ref l, .int x u], []⟩) (fun _ R s => s.heap.get? l = some { cls := .type "tuple", dict := dd, data := .seq items n, slots := sl } ∧
      R (.ok (.ret (Value.ref s.heap.objs.size))) { s with heap := s.heap.push { cls := Value.type "tuple", data := Data.seq #[] }, toks := s.toks }) :=
  .of_wp fun prog w A R s h => by
    obtain ⟨hp, g, d, tk, os⟩ := s
    obtain ⟨hl, h⟩ := h
    have f1 := AutoSeq1.idx_int
    wp_walk using AutoSeq1.wpAny_loadPart' hl
    repeat (first
      | (refine wpAny_ite_false (decide_eq_false (by rw [c0]; exact Bool.false_ne_true)) ?_; wp_walk using AutoSeq1.wpAny_loadPart' hl)
      | (refine wpAny_ite_false (decide_eq_false (by rw [c1]; exact Bool.false_ne_true)) ?_; wp_walk using AutoSeq1.wpAny_loadPart' hl)
      | (refine wpAny_ite_true (decide_eq_true c2) ?_; wp_walk using AutoSeq1.wpAny_loadPart' hl))
    all_goals first
      | exact ⟨_, rfl, h⟩
      | skip
theorem tup_mul_same (l : Addr) (items : Array Value) (n : Nat) (dd : Option Addr) (sl : Array (Option Value)) (x : Int) (u : Tok) (c0 : (decide (x < -(2 ^ 63)) || decide (x ≥ 2 ^ 63)) = false) (c1 : (items.isEmpty || x == 1) = true) :
    Meets (Builtin.«tuple.__mul__» ⟨[.ref l, .int x u], []⟩) (fun _ R s => s.heap.get? l = some { cls := .type "tuple", dict := dd, data := .seq items n, slots := sl } ∧
      R (.ok (.ret (Value.ref l))) s) :=
  .of_wp fun prog w A R s h => by
    obtain ⟨hp, g, d, tk, os⟩ := s
    obtain ⟨hl, h⟩ := h
    have f1 := AutoSeq1.idx_int
    wp_walk using AutoSeq1.wpAny_loadPart' hl
    repeat (first
      | (refine wpAny_ite_false (decide_eq_false (by rw [c0]; exact Bool.false_ne_true)) ?_; wp_walk using AutoSeq1.wpAny_loadPart' hl)
      | (refine wpAny_ite_true (decide_eq_true c1) ?_; wp_walk using AutoSeq1.wpAny_loadPart' hl))
    all_goals first
      | exact ⟨_, rfl, h⟩
      | skip
section
variable {X : Cx}
/-- a tuple times an int -/
def rRepAny (K : PySem.W.Frag) : R2 := fun x y H Q => ∃ l k xs, x = .ref l ∧ y = .int k ∧ SqT K H l xs ∧ -1000 ≤ k ∧ k ≤ 1000 ∧ xs.length ≤ 1000 ∧ ((xs = [] ∨ k = 1) → Q (.ref l) H) ∧ (xs ≠ [] → k ≤ 0 → ∀ p, H p = none → Q (.ref p) (upd H p (.tup []))) ∧
  (xs ≠ [] → 2 ≤ k → ∀ p, H p = none → Q (.ref p) (upd H p (.tup (List.replicate k.toNat xs).flatten)))
theorem op_repAny : OpR X (binaryOp .Mult) (rRepAny X.K) := by
  intro ps sh sg hp x y v u Q inv rx ry h
  obtain ⟨l, k, xs, rfl, rfl, hT, k0, k1, hz, qs, qn, qr⟩ := h
  by_cases h2 : xs ≠ [] ∧ 2 ≤ k
  · exact op_repT ps sh sg hp _ _ v u Q inv rx ry ⟨l, k, xs, rfl, rfl, hT, h2.1, h2.2, k1, hz, qr h2.1 h2.2⟩
  · cases rx
    obtain ⟨t, rfl⟩ := ry
    obtain ⟨its, r, ⟨⟨cls, dd, data, sl⟩, ho, hc, n, hd⟩, hs⟩ := inv.tuple hT
    simp only at hc hd
    subst hc hd
    have hle : its.length = xs.length := r.length.symm
    have c0 : (decide (k < -(2 ^ 63)) || decide (k ≥ 2 ^ 63)) = false := by
      rw [decide_eq_false (by omega), decide_eq_false (by omega)] <;> rfl
    by_cases hs : xs = [] ∨ k = 1
    · have c1 : (its.toArray.isEmpty || k == 1) = true := by
        rcases hs with e | e
        · subst e
          have : its = [] := List.eq_nil_of_length_eq_zero hle
          subst this
          rfl
        · subst e
          simp
      refine wpAny_binaryOp_repeat_ref (T := "tuple") (U := "int") (by decide) ⟨_, ho, rfl⟩ (fun s' => typeIs_int s' k t) noFill_tuple_mul F.fills_int_mul F.slot_int_rmul repeat_tuple F.slot_int_index.lookup
        (call_meets F.slot_int_rmul (typeIs_int sh k t) F.entry_int_rmul (F.args_int_rmul_2 _ _) (int_rmul_tuple k t l its.toArray n dd sl)
          ⟨ho, rfl, ⟨_, ho, rfl⟩, call_meets F.slot_tuple_mul ⟨_, ho, rfl⟩ F.entry_tuple_mul (F.args_tuple_mul_2 _ _) (tup_mul_same l its.toArray n dd sl k t c0 c1) ⟨ho, ?_⟩⟩)
      exact ⟨.ref l, hp, inv, rfl, qs hs⟩
    · have hne : xs ≠ [] := fun e => hs (.inl e)
      have hk1 : k ≠ 1 := fun e => hs (.inr e)
      have hk : k ≤ 0 := by
        by_cases h : 2 ≤ k
        · exact absurd ⟨hne, h⟩ h2
        · omega
      have hi : its.toArray.isEmpty = false := by
        cases its with
        | nil => exact absurd (List.eq_nil_of_length_eq_zero hle.symm) hne
        | cons a b => rfl
      have c1 : (its.toArray.isEmpty || k == 1) = false := by
        rw [hi, Bool.false_or]
        exact beq_eq_false_iff_ne.mpr hk1
      have c2 : (decide (k ≤ 0) || its.toArray.isEmpty) = true := by
        rw [hi, Bool.or_false]
        exact decide_eq_true hk
      refine wpAny_binaryOp_repeat_ref (T := "tuple") (U := "int") (by decide) ⟨_, ho, rfl⟩ (fun s' => typeIs_int s' k t) noFill_tuple_mul F.fills_int_mul F.slot_int_rmul repeat_tuple F.slot_int_index.lookup
        (call_meets F.slot_int_rmul (typeIs_int sh k t) F.entry_int_rmul (F.args_int_rmul_2 _ _) (int_rmul_tuple k t l its.toArray n dd sl)
          ⟨ho, rfl, ⟨_, ho, rfl⟩, call_meets F.slot_tuple_mul ⟨_, ho, rfl⟩ F.entry_tuple_mul (F.args_tuple_mul_2 _ _) (tup_mul_none l its.toArray n dd sl k t c0 c1 c2) ⟨ho, ?_⟩⟩)
      refine ⟨.ref sh.heap.objs.size, _, inv.laid (t' := sh.toks) (o := .tup []) (fun b ob q => Heap.get?_push_of_some _ q) (Nat.le_refl _) ?_, rfl, qn hne hk _ (inv.hok.fresh (Nat.le_refl _))⟩
      exact ⟨Nat.zero_le _, [], .nil, IsTup.new _ _⟩
end
end DL

/-! zip of two, each a list or a tuple -/
namespace DL
open PySem PySem.Spec PyProof.Rows L2
def Sq (K : PySem.W.Frag) (k : Bool) (H : Hp) (a : Addr) (xs : List V) : Prop := match k with
  | true => SqL K H a xs
  | false => SqT K H a xs
def SqIt (k : Bool) (h : Heap) (it a : Addr) (i : Nat) : Prop := match k with
  | true => h.IsListIter it a i
  | false => h.IsTupleIter it a i
def SqAt (k : Bool) (h : Heap) (a : Addr) (items : Array Value) : Prop := match k with
  | true => h.IsList a items
  | false => h.IsTuple a items
theorem SqIt.at {k : Bool} {h h' : Heap} {it a : Addr} {i : Nat} (x : SqIt k h it a i) (e : ∀ o, h.get? it = some o → h'.get? it = some o) : SqIt k h' it a i := by
  cases k with
  | true => exact Heap.IsListIter.at x e
  | false => exact Heap.IsTupleIter.at x e
theorem SqIt.obj {k : Bool} {h : Heap} {it a : Addr} {i : Nat} (x : SqIt k h it a i) : ∃ o, h.get? it = some o ∧ ∀ v, o.data ≠ .cell v := by
  cases k with
  | true =>
    obtain ⟨o, e, _, d⟩ := x
    exact ⟨o, e, fun v q => by rw [d] at q; cases q⟩
  | false =>
    obtain ⟨o, e, _, d⟩ := x
    exact ⟨o, e, fun v q => by rw [d] at q; cases q⟩
theorem draws_sq {prog : Program} {w : World} {A : Around} (hh : A.handled = none) (k : Bool) (it l : Addr) (hne : l ≠ it) (items : Array Value) :
    Draws prog w A it [it, l] items.size (fun i v => items[i]? = some v) (fun i h => SqIt k h it l i ∧ SqAt k h l items) := by
  cases k with
  | true => exact Draws.list hh it l hne items
  | false => exact Draws.tuple hh it l hne items
theorem sq_items {X : Cx} {pins : List (Addr × Obj)} {σ : L2.St} {H : Hp} {s : Shared} {k : Bool} {a : Addr} {xs : List V} (I : Inv X pins σ H s) (h : Sq X.K k H a xs) : ∃ its : List Value, Vals xs its ∧ SqAt k s.heap a its.toArray ∧ a < s.heap.objs.size := by
  cases k with
  | true =>
    obtain ⟨its, rv, p, _⟩ := I.list h
    have q := p.isList
    obtain ⟨o, e, _⟩ := id q
    exact ⟨its, rv, q, Heap.lt_size e⟩
  | false =>
    obtain ⟨its, rv, p, _⟩ := I.tuple h
    obtain ⟨o, e, _⟩ := id p
    exact ⟨its, rv, p, Heap.lt_size e⟩
theorem sq_inj {X : Cx} {pins : List (Addr × Obj)} {σ : L2.St} {H : Hp} {s : Shared} {k : Bool} {a : Addr} {xs ys : List V} (I : Inv X pins σ H s) (h : Sq X.K k H a xs) (h2 : Sq X.K k H a ys) : xs = ys := by
  cases k with
  | true => exact I.list_inj h h2
  | false => exact I.tuple_inj h h2
/-- the two as they stand at each turn, the items in new pairs -/
def ItzX (K : PySem.W.Frag) (k1 k2 : Bool) (a b : Addr) : It :=
  ⟨fun i H => ∃ (xs ys : List V) (x y : V), Sq K k1 H a xs ∧ Sq K k2 H b ys ∧ xs[i]? = some x ∧ ys[i]? = some y,
    fun i H v H' => ∃ T x y, v = .ref T ∧ H T = none ∧ H' = upd H T (.tup [x, y]) ∧ (∀ xs, Sq K k1 H a xs → xs[i]? = some x) ∧ ∀ ys, Sq K k2 H b ys → ys[i]? = some y,
    fun i H => ∃ xs ys : List V, Sq K k1 H a xs ∧ Sq K k2 H b ys ∧ i = min xs.length ys.length⟩
theorem turn_zipX {P : Program} {w : World} {K : PySem.W.Frag} {elts : List Expr} {kk : Nat} {tpos : Pos} {k1 k2 : Bool} {a b z TI TO i1 i2 : Addr} (S : ZipSep2 z TI TO i1 i2 [i1, a] [i2, b]) (na : a ≠ i1) (nb : b ≠ i2) :
    Turn P w K (.Tuple elts kk tpos) (ItzX K k1 k2 a b) [z, TI, TO, i1, i2] z (fun i h => IsZip h z TI TO .none ∧ IsTupOf2 h TI (.ref i1) (.ref i2) ∧ (∃ x y, IsTupOf2 h TO x y) ∧ SqIt k1 h i1 a i ∧ SqIt k2 h i2 b i) where
  mem := by simp
  obj := fun i h st c hc => by
    obtain ⟨hz, hTI, ⟨x, y, hTO⟩, t1, t2⟩ := st
    have e' : c = z ∨ c = TI ∨ c = TO ∨ c = i1 ∨ c = i2 := by simpa using hc
    rcases e' with q | q | q | q | q
    · subst q; exact ⟨_, hz, fun v q => nomatch q⟩
    · subst q; exact ⟨_, hTI, fun v q => nomatch q⟩
    · subst q; exact ⟨_, hTO, fun v q => nomatch q⟩
    · subst q; exact t1.obj
    · subst q; exact t2.obj
  keep := fun i h h' st k => by
    obtain ⟨hz, hTI, ⟨x, y, hTO⟩, t1, t2⟩ := st
    exact ⟨k z (by simp) _ hz, k TI (by simp) _ hTI, ⟨x, y, k TO (by simp) _ hTO⟩, t1.at fun o q => k i1 (by simp) o q, t2.at fun o q => k i2 (by simp) o q⟩
  item := by
    intro X hP hw hK hc i ps sh sg H E inv hf st hg
    subst hP hw hK
    obtain ⟨hz, hTI, hTO, t1, t2⟩ := st
    obtain ⟨xs, ys, x, y, hqx, hqy, hx, hy⟩ := hg
    obtain ⟨its, rv, p, la⟩ := sq_items inv hqx
    obtain ⟨its2, rv2, p2, lb⟩ := sq_items inv hqy
    obtain ⟨u, hu, ru⟩ := rv.get hx
    obtain ⟨u2, hu2, ru2⟩ := rv2.get hy
    have W := GoesN.zip2 (A := X.A) (elts := elts) (x1 := kk) (pos := tpos) S (draws_sq (prog := X.prog) (w := X.w) (A := X.A.in1) (inv.ok.hd hc) k1 i1 a na its.toArray) (draws_sq (prog := X.prog) (w := X.w) (A := X.A.in1) (inv.ok.hd hc) k2 i2 b nb its2.toArray)
    have hi : i < min its.toArray.size its2.toArray.size := by
      have h1 := (List.getElem?_eq_some_iff.mp hu).1
      have h2 := (List.getElem?_eq_some_iff.mp hu2).1
      rw [List.size_toArray, List.size_toArray]
      omega
    have hin : ∀ c, c ∈ [z, TI, TO, i1, i2] → ∃ o, sh.heap.get? c = some o := fun c hcm => by
      have e' : c = z ∨ c = TI ∨ c = TO ∨ c = i1 ∨ c = i2 := by simpa using hcm
      obtain ⟨x0, y0, hTO0⟩ := hTO
      rcases e' with q | q | q | q | q
      · subst q; exact ⟨_, hz⟩
      · subst q; exact ⟨_, hTI⟩
      · subst q; exact ⟨_, hTO0⟩
      · subst q; exact ⟨_, t1.obj.choose_spec.1⟩
      · subst q; exact ⟨_, t2.obj.choose_spec.1⟩
    refine W.goes i sh (fun v s2 => ∃ x H', Inv X ps sg H' s2 ∧ RelV x v ∧ (ItzX X.K k1 k2 a b).yld i H x H' ∧ (IsZip s2.heap z TI TO .none ∧ IsTupOf2 s2.heap TI (.ref i1) (.ref i2) ∧ (∃ x y, IsTupOf2 s2.heap TO x y) ∧ SqIt k1 s2.heap i1 a (i + 1) ∧ SqIt k2 s2.heap i2 b (i + 1)) ∧ ∀ c ∈ [z, TI, TO, i1, i2], H' c = none) E hi ⟨hz, hTI, hTO, ⟨t1, p⟩, t2, p2⟩ fun v h2 tk hY hst hk _ => ?_
    obtain ⟨T, w1, w2, rfl, hT, g1, g2, hIs⟩ := hY
    obtain ⟨hz', hTI', hTO', ⟨t1', _⟩, t2', _⟩ := hst
    have e1 : w1 = u := by
      have : its[i]? = some w1 := by simpa using g1
      rw [hu] at this
      exact (Option.some.inj this).symm
    have e2 : w2 = u2 := by
      have : its2[i]? = some w2 := by simpa using g2
      rw [hu2] at this
      exact (Option.some.inj this).symm
    subst e1 e2
    have new : ObjOk X.prog X.w (upd H T (.tup [x, y])) h2 T (.tup [x, y]) := ⟨by show 2 ≤ sizeLine; decide, [w1, w2], .cons ru (.cons ru2 .nil), hIs⟩
    have inv2 : Inv X ps sg (upd H T (.tup [x, y])) { sh with heap := h2, toks := tk } := inv.turnedNew (t' := tk) (ch := [z, TI, TO, i1, i2]) (fun c o hb q => hk c o (fun m => hb (by
      have m' : c = z ∨ c = TO ∨ c = i1 ∨ c = i2 := by simpa using m
      rcases m' with m | m | m | m <;> simp [m])) q) hf hT new
    refine ⟨.ref T, _, inv2, rfl, ⟨T, x, y, rfl, inv.hok.fresh hT, rfl, fun l hl => by rw [sq_inj inv hl hqx]; exact hx, fun l hl => by rw [sq_inj inv hl hqy]; exact hy⟩, ⟨hz', hTI', hTO', t1', t2'⟩, fun c hcm => ?_⟩
    obtain ⟨o, eo⟩ := hin c hcm
    rw [upd_ne (Nat.ne_of_lt (Nat.lt_of_lt_of_le (Heap.lt_size eo) hT))]
    exact (hf c hcm).1
  done := by
    intro X hP hw hK hc i ps sh sg H E inv hf st hg
    subst hP hw hK
    obtain ⟨hz, hTI, hTO, t1, t2⟩ := st
    obtain ⟨xs, ys, hqx, hqy, hend⟩ := hg
    obtain ⟨its, rv, p, la⟩ := sq_items inv hqx
    obtain ⟨its2, rv2, p2, lb⟩ := sq_items inv hqy
    have W := GoesN.zip2 (A := X.A) (elts := elts) (x1 := kk) (pos := tpos) S (draws_sq (prog := X.prog) (w := X.w) (A := X.A.in1) (inv.ok.hd hc) k1 i1 a na its.toArray) (draws_sq (prog := X.prog) (w := X.w) (A := X.A.in1) (inv.ok.hd hc) k2 i2 b nb its2.toArray)
    have en : min its.toArray.size its2.toArray.size = i := by
      rw [List.size_toArray, List.size_toArray, ← rv.length, ← rv2.length, hend]
    refine W.stops sh (fun s2 => Inv X ps sg H s2) E (by rw [en]; exact ⟨hz, hTI, hTO, ⟨t1, p⟩, t2, p2⟩) fun h2 tk hk _ => ?_
    exact inv.turnedL (t' := tk) (ch := [z, TI, TO, i1, i2]) (fun c o hb q => hk c o (fun m => hb (by
      have m' : c = z ∨ c = TO ∨ c = i1 ∨ c = i2 := by simpa using m
      rcases m' with m | m | m | m <;> simp [m])) q) hf
  self := fun A i s Q E st h => wpAny_pyIter_zip st.1 h

theorem begins_sq {k : Bool} {h : Heap} {a : Addr} {items : Array Value} : ∃ o : Obj, Begins (.ref a) o (fun h => SqAt k h a items) ∧ ∀ (h : Heap) (it : Addr), h.get? it = some o → SqIt k h it a 0 := by
  cases k with
  | true => exact ⟨_, begins_list a items, fun h it e => ⟨_, e, rfl, rfl⟩⟩
  | false => exact ⟨_, begins_tuple a items, fun h it e => ⟨_, e, rfl, rfl⟩⟩
def rZipX (K : PySem.W.Frag) : List V → Hp → (It → Hp → Prop) → Prop := fun vs H1 R => ∃ a b xs ys k1 k2, vs = [.ref a, .ref b] ∧ Sq K k1 H1 a xs ∧ Sq K k2 H1 b ys ∧ R (ItzX K k1 k2 a b) H1
theorem pi_zipX {X : Cx} {e e2 : Expr} {ta : TA} {p pos tpos : Pos} {elts : List Expr} {kk : Nat} (hg : Gl X "zip") (hm : X.mg "zip" = none) (ha : PA X [e, e2] ta)
    (hs : starEach [e, e2] X.env = (false, eval e X.env) :: starEach [e2] X.env := by rfl) (hpl : (backTo pos (starEach [e2] X.env)).any (·.1) = false := by rfl) :
    PI X (.Tuple elts kk tpos) (.Call (.Name "zip" p) [e, e2] [] pos) (fun σ H R => ta σ H fun vs H1 => rZipX X.K vs H1 R) := by
  refine ⟨fun ps sh sg H R inv h => ?_⟩
  refine Call_ (ld_blt inv hg hm PyProof.Rows.boot_zip (PyProof.Rows.callWith_type1 (thn (ha.run pos ps sh sg H _ inv h) fun us s1 ⟨vs, H1, I1, r1, q1⟩ => ?_) hs hpl))
  obtain ⟨a, b, xs, ys, k1, k2, ex, hqx, hqy, q⟩ := q1
  subst ex
  cases r1 with
  | cons r rr =>
    cases rr with
    | cons r' rr =>
      cases rr
      cases r
      cases r'
      obtain ⟨its, rv, p1, la⟩ := sq_items I1 hqx
      obtain ⟨its2, rv2, p2, lb⟩ := sq_items I1 hqy
      obtain ⟨o1, B1, j1⟩ := begins_sq (k := k1) (h := s1.heap) (a := a) (items := its.toArray)
      obtain ⟨o2, B2, j2⟩ := begins_sq (k := k2) (h := s1.heap) (a := b) (items := its2.toArray)
      have fresh5 : ∀ c, c ∈ [s1.heap.objs.size + 4, s1.heap.objs.size + 2, s1.heap.objs.size + 3, s1.heap.objs.size, s1.heap.objs.size + 1] → FpOk X ps H1 c := fun c hcm => by
        have hle : s1.heap.objs.size ≤ c := by
          simp only [List.mem_cons, List.not_mem_nil, or_false] at hcm
          rcases hcm with z | z | z | z | z <;> rw [z]
          · exact Nat.le_add_right _ _
          · exact Nat.le_add_right _ _
          · exact Nat.le_add_right _ _
          · exact Nat.le_refl _
          · exact Nat.le_add_right _ _
        exact I1.fpOk hle (I1.hok.fresh hle)
      refine zip_begins2 B1 B2 p1 p2 fun h2 hz hTI hTO g1 g2 hsz hk => wpAny_pyIter_zip hz ?_
      have I2 : Inv X ps sg H1 { s1 with heap := h2 } := I1.kept (t' := s1.toks) hk
      refine ⟨s1.heap.objs.size + 4, [s1.heap.objs.size + 4, s1.heap.objs.size + 2, s1.heap.objs.size + 3, s1.heap.objs.size, s1.heap.objs.size + 1], _, _, H1, rfl, I2, turn_zipX (k1 := k1) (k2 := k2) (zip_sep2 (N := s1.heap.objs.size) (fp1 := [a]) (fp2 := [b]) (fun c m => by rw [List.mem_singleton.mp m]; exact la) (fun c m => by rw [List.mem_singleton.mp m]; exact lb)) (Nat.ne_of_lt la) (Nat.ne_of_lt (Nat.lt_succ_of_lt lb)), ⟨hz, hTI, ⟨_, _, hTO⟩, j1 _ _ g1, j2 _ _ g2⟩, fresh5, q⟩
end DL

set_option maxHeartbeats 4000000
/-! tuples of the plain kind and their methods; sorted by data -/
namespace DL
open PySem PySem.Spec PyProof.Rows L2
/-- a tuple known to be of the plain kind -/
def PlT (H : Hp) (p : Addr) (ys : List V) : Prop := ∃ o : Obj, o.dict = none ∧ H p = some (.frz o (.tup ys))
section
variable {X : Cx}
theorem PlT.is {pins : List (Addr × Obj)} {σ : L2.St} {H : Hp} {s : Shared} {p : Addr} {ys : List V} (I : Inv X pins σ H s) (h : PlT H p ys) : s.TypeIs (.ref p) "tuple" ∧ ∃ ob, s.heap.get? p = some ob ∧ ob.dict = none := by
  obtain ⟨o, hd, e⟩ := h
  obtain ⟨h1, h2⟩ := (show ObjOk X.prog X.w H s.heap p (.frz o (.tup ys)) from I.hok p _ e)
  obtain ⟨_, its, _, o2, e2, hc, _⟩ := h2
  rw [h1] at e2
  cases e2
  exact ⟨⟨o, h1, hc⟩, o, h1, hd⟩
def rTupX (K : PySem.W.Frag) : List V → Hp → VK → Prop := fun xs H Q => ∃ p ys, xs = [.ref p] ∧ SqL K H p ys ∧ ∀ l (o : Obj), H l = none → o.dict = none → Q (.ref l) (upd H l (.frz o (.tup ys)))
theorem call_tupX : CallR X (.type "tuple") (rTupX X.K) := by
  intro pins s σ H xs us Q I r h
  obtain ⟨p, ys, rfl, hq, q⟩ := h
  obtain ⟨u, rfl, rx⟩ := vals1 r
  cases rx
  obtain ⟨its, r', pl, hz⟩ := I.list hq
  have hlen := r'.length
  refine call_tuple_list pl.isList (fun h' kp => ?_) (by simp only [List.size_toArray] <;> omega)
  have I1 : Inv X pins σ H { s with heap := h' } := I.kept (t' := s.toks) kp
  have I2 : Inv X pins σ (upd H h'.objs.size (.frz { cls := .type "tuple", data := .seq its.toArray } (.tup ys))) { s with heap := h'.push { cls := .type "tuple", data := .seq its.toArray } } :=
    I1.laid (t' := s.toks) (fun b o e => Heap.get?_push_of_some _ e) (Nat.le_refl _) (show ObjOk X.prog X.w _ _ _ (.frz { cls := .type "tuple", data := .seq its.toArray } (.tup ys)) from ⟨Heap.get?_push_size _ rfl, hz, its, r', IsTup.new _ _⟩)
  exact ⟨.ref h'.objs.size, _, I2, rfl, q _ _ (I1.hok.fresh (Nat.le_refl _)) rfl⟩
/-- what a method is asked of -/
def tyW (K : PySem.W.Frag) (T : String) (x : V) (H : Hp) : Prop := tyV K T x H ∨ (T = "tuple" ∧ ∃ p ys, x = .ref p ∧ PlT H p ys)
theorem tyW_is {pins : List (Addr × Obj)} {σ : L2.St} {H : Hp} {s : Shared} {T : String} {x : V} {v : Value} (I : Inv X pins σ H s) (r : RelV x v) (ty : tyW X.K T x H) :
    s.TypeIs v T ∧ ∀ a, v = .ref a → ∃ ob, s.heap.get? a = some ob ∧ ob.dict = none := by
  rcases ty with ty | ⟨rfl, p, ys, rfl, h⟩
  · exact tyV_is I r ty
  · cases r
    obtain ⟨h1, h2⟩ := h.is I
    exact ⟨h1, fun a e => by cases e; exact h2⟩
variable {o e : Expr} {es : List Expr} {to : TE} {t : TA} {name : Str} {apos cpos : Pos} {T id : String} {r : V → List V → Hp → VK → Prop}
def tBW0 (K : PySem.W.Frag) (T : String) (r : V → List V → Hp → VK → Prop) (to : TE) : TE := fun σ H Q => to σ H fun x H1 => tyW K T x H1 ∧ r x [] H1 Q
def tBW (K : PySem.W.Frag) (T : String) (r : V → List V → Hp → VK → Prop) (to : TE) (t : TA) : TE := fun σ H Q => to σ H fun x H1 => tyW K T x H1 ∧ t σ H1 fun xs H2 => r x xs H2 Q
theorem pe_bw0 (pa : PlainAttrs T) (slot : PySem.Slot T name id) (hty : typeOf (.builtin id) = pure (.type "method_descriptor")) (hm : MtR X id r) (ho : PE X o to)
    (hbase : attributeBase o name X.env (eval o X.env) = eval o X.env := by rfl) (hline : (apos.endLine == cpos.line) = true := by rfl) : PE X (.Call (.Attribute o name apos) [] [] cpos) (tBW0 X.K T r to) := by
  refine ⟨fun pins s σ H Q I h => ?_⟩
  refine wpAny_Call_method0_late hbase hline (thn (ho.run pins s σ H _ I h) fun v s1 ⟨x, H1, I1, r1, ty, q1⟩ => ?_)
  obtain ⟨h1, h2⟩ := tyW_is I1 r1 ty
  exact ⟨T, id, pa, slot, hty, h1, h2, Calls.callWith_builtin rfl (PySem.evalArgs_none (hm pins s1 σ H1 x [] v [] Q I1 r1 .nil q1))⟩
theorem pe_bw (pa : PlainAttrs T) (slot : PySem.Slot T name id) (hty : typeOf (.builtin id) = pure (.type "method_descriptor")) (hm : MtR X id r) (ho : PE X o to) (ha : PA X (e :: es) t)
    (hbase : attributeBase o name X.env (eval o X.env) = eval o X.env := by rfl)
    (hfew : ((backTo cpos (starEach (e :: es) X.env)).all (fun x => !x.1) && (backToKw cpos (keywordEach [] X.env)).all (fun x => x.1.isSome)
      && decide ((e :: es).length + ([] : List Keyword).length + (if ([] : List Keyword).isEmpty then 0 else 1) < 30)) = true := by rfl)
    (hline : (apos.endLine == cpos.line) = true := by rfl) (hs : starEach (e :: es) X.env = (false, eval e X.env) :: starEach es X.env := by rfl) (hplain : (backTo cpos (starEach es X.env)).any (·.1) = false := by rfl) :
    PE X (.Call (.Attribute o name apos) (e :: es) [] cpos) (tBW X.K T r to t) := by
  refine ⟨fun pins s σ H Q I h => ?_⟩
  refine wpAny_Call_method_late hbase hfew hline rfl (thn (ho.run pins s σ H _ I h) fun v s1 ⟨x, H1, I1, r1, ty, q1⟩ => ?_)
  obtain ⟨h1, h2⟩ := tyW_is I1 r1 ty
  refine ⟨T, id, pa, slot, hty, h1, h2, ?_⟩
  have hA := ha.run cpos pins s1 σ H1 _ I1 q1
  rw [hs] at hA ⊢
  refine Calls.callWith_builtin (by show (false || (backTo cpos (starEach es X.env)).any (·.1)) = false; rw [hplain] <;> rfl) (Calls.evalArgs_plain ?_)
  exact thn hA fun us s2 ⟨vs, H2, I2, r2, q2⟩ => hm pins s2 σ H2 x vs v us Q I2 r1 r2 q2
/-- sorted(xs), by what the items read as -/
def rSortD (K : PySem.W.Frag) : List V → Hp → VK → Prop := fun xs H Q => ∃ (β : Type) (enc : β → PyData) (p : Addr) (bs : List (V × β)), xs = [.ref p] ∧ SqL K H p (bs.map (·.1)) ∧ (∀ b ∈ bs, Dp K H b.1 (enc b.2)) ∧
  PySem.W.AllAlike (bs.map fun b => enc b.2) ∧ PySem.W.Sortable (bs.map fun b => enc b.2) ∧ (∀ b ∈ bs, (enc b.2).depth ≤ 60) ∧
  ∀ l, H l = none → Q (.ref l) (upd H l (.lst ((bs.mergeSort (PySem.W.dataLe false fun b => enc b.2)).map (·.1))))
theorem each_of {β : Type} {P : Value → V × β → Prop} : ∀ {bs : List (V × β)} {its : List Value}, Vals (bs.map (·.1)) its → (∀ b v, b ∈ bs → RelV b.1 v → P v b) → PySem.W.EachIs P its bs
  | [], _, .nil, _ => .nil
  | b :: bs, _, .cons r t, h => .cons (h b _ List.mem_cons_self r) (each_of t fun b v m => h b v (List.mem_cons_of_mem _ m))
theorem vals_of_each {β : Type} : ∀ {bs : List (V × β)} {its : List Value}, PySem.W.EachIs (fun v b => RelV b.1 v) its bs → Vals (bs.map (·.1)) its
  | [], _, .nil => .nil
  | b :: bs, _, .cons r t => .cons r (vals_of_each t)
theorem cr_sortD (hu : X.A.units + 64 < cLine) : CallR X (.builtin "sorted") (rSortD X.K) := by
  intro pins s σ H xs us Q I r h
  obtain ⟨β, enc, p, bs, rfl, hq, hd, ha, hs, hdep, q⟩ := h
  obtain ⟨u, rfl, rx⟩ := vals1 r
  cases rx
  obtain ⟨its, r', pl, hz⟩ := I.list hq
  have hlen := r'.length
  rw [List.length_map] at hlen hz
  refine PySem.W.sorted_data (vs := its) (bs := bs) (enc := fun b => enc b.2) (R := fun v b => RelV b.1 v) pl.isList (each_of r' fun b v m r => r) (each_of r' fun b v m r => Dp.reads I _ _ _ (hd b m) r) ha hs hz (fun b m => ?_) fun out ho eo => ?_
  · have := hdep b m
    omega
  · obtain ⟨c, hc⟩ := sortedAll_at s.heap its out.toArray
    have hv := vals_of_each eo
    refine ⟨.ref (s.heap.objs.size + 1), _, I.laid (t' := s.toks) (o := .lst ((bs.mergeSort (PySem.W.dataLe false fun b => enc b.2)).map (·.1))) (fun b o e => sortedAll_old e) (Nat.le_succ _) ?_, rfl, q _ (I.hok.fresh (Nat.le_succ _))⟩
    refine ⟨?_, out, c, hv, hc⟩
    rw [List.length_map, List.length_mergeSort]
    exact hz
end
end DL

set_option maxHeartbeats 4000000
/-! sorted(d), d a dict with tuple keys -/
namespace DL
open PySem PySem.Spec PyProof.Rows L2
def keyPy1 : Key → PyData
  | .inl i => .int i
  | .inr s => .str s
def keyPy (k : List Key) : PyData := .tuple (k.map keyPy1)
theorem key_dp1 {K : PySem.W.Frag} {H : Hp} (k : Key) : Dp K H (kV k) (keyPy1 k) := by
  cases k with
  | inl i => exact .int i
  | inr s => exact .str s
theorem keys_dp {K : PySem.W.Frag} {H : Hp} : ∀ k : List Key, DpAll K H (k.map kV) (k.map keyPy1)
  | [] => .nil
  | a :: k => .cons (key_dp1 a) (keys_dp k)
section
variable {X : Cx}
/-- the keys' tuples, sorted -/
def rSortT (K : PySem.W.Frag) : List V → Hp → VK → Prop := fun xs H Q => ∃ d kvs, xs = [V.ref d] ∧ Rd H d (.dT kvs) ∧ PySem.W.AllAlike (kvs.map fun p => keyPy p.1) ∧ PySem.W.Sortable (kvs.map fun p => keyPy p.1) ∧ (∀ p ∈ kvs, (keyPy p.1).depth ≤ 60) ∧
  ∀ l (ps : List (Addr × List Key)), H l = none → (∀ x ∈ ps, H x.1 = some (.tup (x.2.map kV))) → ps.map (·.2) = (kvs.map (·.1)).mergeSort (PySem.W.dataLe false keyPy) → Q (.ref l) (upd H l (.lst (ps.map fun x => V.ref x.1)))
theorem each_refs {P : Value → Addr × List Key → Prop} : ∀ {bs : List (Addr × List Key)}, (∀ b ∈ bs, P (Value.ref b.1) b) → PySem.W.EachIs P (bs.map fun b => Value.ref b.1) bs
  | [], _ => .nil
  | b :: bs, h => .cons (h b List.mem_cons_self) (each_refs fun c m => h c (List.mem_cons_of_mem _ m))
theorem refs_of_each : ∀ {bs : List (Addr × List Key)} {its : List Value}, PySem.W.EachIs (fun v b => v = Value.ref b.1) its bs → its = bs.map fun b => Value.ref b.1
  | [], _, .nil => rfl
  | b :: bs, _, .cons r t => by rw [List.map_cons, ← refs_of_each t, r]
theorem paired_all {H : Hp} : ∀ {kvs : List (List Key × V)} {bs : List Addr}, IsKeys H kvs bs → ∀ x ∈ bs.zip (kvs.map (·.1)), H x.1 = some (.tup (x.2.map kV))
  | _, _, .nil => fun x m => by cases m
  | _, _, .cons h t => fun x m => by
    rw [List.map_cons, List.zip_cons_cons] at m
    rcases List.mem_cons.mp m with rfl | m
    · exact h
    · exact paired_all t x m
theorem cr_sortT (hc : X.calm = true) (hu : X.A.units + 64 < cLine) : CallR X (.builtin "sorted") (rSortT X.K) := by
  intro pins s σ H xs us Q I r h
  obtain ⟨d, kvs, rfl, hd, ha, hs2, hdep, q⟩ := h
  obtain ⟨u, rfl, rx⟩ := r.one
  cases rx
  obtain ⟨z, hs, ks, pr, o, es, ep, ho, hx, hdt, he, hn⟩ := (show ObjOk X.prog X.w H s.heap d (.dT kvs) from hd.ok I.hok)
  have l1 : es.size = ks.length := size_of_entries he
  have l2 : kvs.length = ks.length := Paired.length pr
  have hz' : es.size ≤ sizeLine := by omega
  refine Calls.call_function_entry kind_sorted plain_sorted entry_sorted (args_sorted1 _) ?_
  unfold Builtin.«sorted»
  refine wpAny_bind (m := checkCount "sorted" 1 1 _) (wpAny_pure ?_)
  refine wpAny_bind (PySem.W.kdu_collect (A := X.A.in1) (kdl_raw hs hx hdt) (I.ok.hd hc) ho hz' fun h' tk acc kp it => ?_)
  have ea : acc.toList = ks.map fun x => Value.ref x.2.1 := by
    have hl : acc.toList.length = ks.length := by rw [Array.length_toList, it.1]; exact l1
    apply List.ext_getElem?
    intro j
    rw [List.getElem?_map]
    cases hj : acc.toList[j]? with
    | none =>
      have h1 := List.getElem?_eq_none_iff.mp hj
      rw [List.getElem?_eq_none (by omega)]
      all_goals rfl
    | some v =>
      obtain ⟨en, hen, hv⟩ := it.2 j v (by rw [← Array.getElem?_toList]; exact hj)
      have qe := entry_at he j
      rw [hen] at qe
      cases hb : ks[j]? with
      | none =>
        rw [hb] at qe
        exact nomatch (show some en = none from qe)
      | some b =>
        rw [hb] at qe
        have e2 : en = entryOfKey (tupleKind (mixKind X.prog X.w)) b := Option.some.inj qe
        rw [hv, e2]
        all_goals rfl
  -- the keys and their tuples
  have hik : IsKeys H kvs (ks.map fun x => x.2.1) := isKeys_of pr
  have hpl : ((ks.map fun x => x.2.1).length) = (kvs.map (·.1)).length := by rw [List.length_map, List.length_map]; omega
  generalize hbs : (ks.map fun x => x.2.1).zip (kvs.map (·.1)) = bs
  have hb1 : bs.map (·.1) = ks.map fun x => x.2.1 := by rw [← hbs]; exact List.map_fst_zip (Nat.le_of_eq hpl)
  have hb2 : bs.map (·.2) = kvs.map (·.1) := by rw [← hbs]; exact List.map_snd_zip (Nat.le_of_eq hpl.symm)
  have hbt : ∀ x ∈ bs, H x.1 = some (.tup (x.2.map kV)) := by rw [← hbs]; exact paired_all hik
  have eb : acc.toList = bs.map fun b => Value.ref b.1 := by
    rw [ea, show (fun b : Addr × List Key => Value.ref b.1) = Value.ref ∘ (·.1) from rfl, ← List.map_map, hb1, List.map_map]
    rfl
  have hal : acc.toList.length ≤ sizeLine := by rw [eb, List.length_map, ← List.length_map (f := fun b : Addr × List Key => b.1), hb1, List.length_map]; omega
  refine wpAny_bind (wpAny_newList ?_ hal)
  -- the new list
  have I1 : Inv X pins σ H { s with heap := h', toks := tk } := I.kept kp
  have hpy : (bs.map fun b => keyPy b.2) = kvs.map fun p => keyPy p.1 := by
    rw [show (fun b : Addr × List Key => keyPy b.2) = keyPy ∘ (·.2) from rfl, ← List.map_map, hb2, List.map_map]
    rfl
  have hD : (h'.push { cls := .type "list", data := .seq acc.toList.toArray }).get? h'.objs.size = some (seqObj "list" acc.toList.toArray 0) := Heap.get?_push_size _ rfl
  have rd : ∀ b ∈ bs, ∃ as, Reads h' (Value.ref b.1) (keyPy b.2) as := fun b m => by
    refine Dp.reads I1 (keyPy b.2) (.ref b.1) (.ref b.1) ?_ rfl
    refine .tup (SqT.of (hbt b m)) ?_
    exact keys_dp b.2
  have er : PySem.W.EachIs (fun v b => ∃ as, Reads (PySem.W.sortingHeap (h'.push { cls := .type "list", data := .seq acc.toList.toArray }) h'.objs.size acc.toList) v (keyPy b.2) as) acc.toList bs := by
    rw [eb]
    refine each_refs fun b m => ?_
    obtain ⟨as, r⟩ := rd b m
    exact ⟨as, PyProof.Rows.Reads.keeps (fun b2 o2 e => PySem.W.sortingHeap_old (Nat.ne_of_lt (Heap.lt_size e)) (Heap.get?_push_of_some _ e)) r⟩
  have ev : PySem.W.EachIs (fun v (b : Addr × List Key) => v = Value.ref b.1) acc.toList bs := by
    rw [eb]
    exact each_refs fun b m => rfl
  have hL : bs.length ≤ sizeLine := by rw [← List.length_map (f := fun b : Addr × List Key => Value.ref b.1), ← eb]; exact hal
  have hdep2 : ∀ b, b ∈ bs → X.A.in1.in1.units + (keyPy b.2).depth < cLine := fun b m => by
    have h1 : keyPy b.2 ∈ kvs.map fun p => keyPy p.1 := by rw [← hpy]; exact List.mem_map.mpr ⟨b, m, rfl⟩
    obtain ⟨p, hp, e⟩ := List.mem_map.mp h1
    have := hdep p hp
    rw [← e]
    show X.A.units + 2 + _ < _
    omega
  have hg : wpAny (model X.prog X.w) X.A.in1 (call (.builtin "list.sort") [.ref h'.objs.size]) (fun _ s' => EP X pins σ Q (.ref h'.objs.size) s') X.xe { s with heap := h'.push { cls := .type "list", data := .seq acc.toList.toArray }, toks := tk } := by
    refine wpAny_call_entry slot_list_sort ⟨_, hD, rfl⟩ entry_list_sort (PySem.W.list_sort_vals (s := { s with heap := h'.push { cls := .type "list", data := .seq acc.toList.toArray }, toks := tk }) (κ := PySem.W.dataKind (PySem.W.sortingHeap (h'.push { cls := .type "list", data := .seq acc.toList.toArray }) h'.objs.size acc.toList) (bs.map fun b => keyPy b.2)) hD
      (PySem.W.SortsAt.data (s := { s with heap := PySem.W.sortingHeap (h'.push { cls := .type "list", data := .seq acc.toList.toArray }) h'.objs.size acc.toList, toks := tk }) (PySem.W.each_map (R := fun v d => ∃ as, Reads (PySem.W.sortingHeap (h'.push { cls := .type "list", data := .seq acc.toList.toArray }) h'.objs.size acc.toList) v d as) (fun b : Addr × List Key => keyPy b.2) er) (by rw [hpy]; exact ha) (by rw [hpy]; exact hs2) (PySem.W.bound_map hdep2)) hal ⟨.none, rfl, ?_⟩) (args_list_sort _)
    have eo := PySem.W.sortVals_data (enc := fun b : Addr × List Key => keyPy b.2) false ev er (by rw [hpy]; exact ha)
    have hout := refs_of_each eo
    obtain ⟨c, hc2⟩ := sortedHeap_at (out := (PySem.W.sortVals (PySem.W.dataKind (PySem.W.sortingHeap (h'.push { cls := .type "list", data := .seq acc.toList.toArray }) h'.objs.size acc.toList) (bs.map fun b => keyPy b.2)) false acc.toList acc.toList).toArray) (vs := acc.toList) hD
    have hlt : h'.objs.size < (h'.push { cls := .type "list", data := .seq acc.toList.toArray }).objs.size := Heap.lt_size hD
    refine ⟨.ref h'.objs.size, _, I1.laid (t' := _) (o := .lst ((bs.mergeSort (PySem.W.dataLe false fun b => keyPy b.2)).map fun x => V.ref x.1)) (fun b2 o2 e => ?_) (Nat.le_refl _) ?_, rfl, q _ _ (I1.hok.fresh (Nat.le_refl _)) (fun x m => hbt x (List.mem_mergeSort.mp m)) ?_⟩
    · have e2 : (h'.push { cls := .type "list", data := .seq acc.toList.toArray }).get? b2 = some o2 := Heap.get?_push_of_some _ e
      rw [sortedHeap_old (Nat.ne_of_lt (Heap.lt_size e)) (Heap.lt_size e2)]
      exact e2
    · refine ⟨?_, _, c, ?_, hc2⟩
      · rw [List.length_map, List.length_mergeSort]
        exact hL
      · rw [hout]
        have : ∀ l : List (Addr × List Key), Vals (l.map fun x => V.ref x.1) (l.map fun b => Value.ref b.1) := fun l => by
          induction l with
          | nil => exact .nil
          | cons a l ih => exact .cons rfl ih
        exact this _
    · rw [← hb2]
      exact List.map_mergeSort (fun a _ b _ => rfl)
  refine wpAny_bind (wpAny_holding (wpAny_mono hg (fun _ s' x => ?_) fun _ _ e => e))
  exact wpAny_pure ⟨_, rfl, x⟩
end
end DL

set_option maxHeartbeats 4000000
/-! enumerate of a tuple -/
namespace DL
open PySem PySem.Spec PyProof.Rows L2
open PySem.Sem (wp)
open AutoSeq1 (wpAny_loadPart')
theorem meets_enumerate_newT (l : Addr) (items : Array Value) (n : Nat) (dct : Option Addr) (sl : Array (Option Value)) :
    Meets (Builtin.«enumerate.__new__» ⟨[.type "enumerate", .ref l], []⟩) (fun _ R s => s.heap.get? l = some { cls := .type "tuple", dict := dct, data := .seq items n, slots := sl } ∧
      R (.ok (.ret (.ref (s.heap.push { cls := .type "tuple_iterator", data := .fields #[.ref l, .int 0 0] }).objs.size)))
        { s with heap := (s.heap.push { cls := .type "tuple_iterator", data := .fields #[.ref l, .int 0 0] }).push { cls := .type "enumerate", data := .fields #[.none, .bool false, .ref s.heap.objs.size, rawInt 0, .none, .none] } }) :=
  .of_wp fun prog w A R s h => by
    obtain ⟨hp, g, d, tk, os⟩ := s; obtain ⟨hl, h⟩ := h
    have hsub := sub_enumerate
    have hL : Heap.IsTuple (Shared.heap ⟨hp, g, d, tk, os⟩) l items := ⟨_, hl, rfl, n, rfl⟩
    wp_walk using wpAny_loadPart' hl
    refine wpAny_stack_any fun st => wpAny_pure ?_
    split
    · rename_i c _ _ _ _ _
      cases (c == Value.type "enumerate")
      · wp_walk using wpAny_loadPart' hl, wpAny_pyIter_tuple hL
        exact ⟨_, rfl, h⟩
      · wp_walk using wpAny_loadPart' hl, wpAny_pyIter_tuple hL
        exact ⟨_, rfl, h⟩
    · wp_walk using wpAny_loadPart' hl, wpAny_pyIter_tuple hL
      exact ⟨_, rfl, h⟩
section
variable {prog : Program} {w : World} {A : Around} {E : Value → Shared → Prop} {s : Shared}
theorem call_enumerate_tuple {l : Addr} {items : Array Value} {Q : Value → Shared → Prop} (hL : s.heap.IsTuple l items)
    (h : ∀ h', IsEnum h' (s.heap.objs.size + 1) s.heap.objs.size 0 .none → h'.IsTupleIter s.heap.objs.size l 0 → h'.objs.size = s.heap.objs.size + 2 →
      (∀ b o, s.heap.get? b = some o → h'.get? b = some o) → Q (.ref (s.heap.objs.size + 1)) { s with heap := h' }) :
    wpAny (model prog w) A (call (.type "enumerate") [.ref l]) Q E s := by
  obtain ⟨⟨c, dct, dat, sl⟩, hl, hc, n, hd⟩ := hL
  replace hc : c = .type "tuple" := hc
  replace hd : dat = .seq items n := hd
  subst hc hd
  refine callType_new F.called_enumerate (by decide) (F.typeCall_enumerate_1 _) (F.newCall_enumerate_1 _) (fun obj => F.args_object_init_2 obj _) F.entry_enumerate_new
    (meets_enumerate_newT l items n dct sl) ⟨hl, ?_⟩
  have hz : (s.heap.push { cls := .type "tuple_iterator", data := .fields #[.ref l, .int 0 0] }).objs.size = s.heap.objs.size + 1 := Heap.size_push ..
  show _ ∧ _
  rw [hz]
  have he : IsEnum ((s.heap.push { cls := .type "tuple_iterator", data := .fields #[.ref l, .int 0 0] }).push
      { cls := .type "enumerate", data := .fields #[.none, .bool false, .ref s.heap.objs.size, rawInt 0, .none, .none] }) (s.heap.objs.size + 1) s.heap.objs.size 0 .none := by
    have := Heap.get?_push_size (s.heap.push { cls := .type "tuple_iterator", data := .fields #[.ref l, .int 0 0] })
      (o := { cls := .type "enumerate", data := .fields #[.none, .bool false, .ref s.heap.objs.size, rawInt 0, .none, .none] }) rfl
    rw [hz] at this; exact this
  refine ⟨⟨_, he, rfl⟩, h _ he ⟨_, Heap.get?_push_of_some _ (Heap.get?_push_size _ rfl), rfl, rfl⟩ (by rw [Heap.size_push, hz]) fun b o x => Heap.get?_push_of_some _ (Heap.get?_push_of_some _ x)⟩
end
theorem draws_tup {prog : Program} {w : World} {A : Around} (hh : A.handled = none) {it l : Addr} {items : Array Value} (hne : l ≠ it) :
    Draws prog w A it [it, l] items.size (fun i v => items[i]? = some v) (fun i h => h.IsTupleIter it l i ∧ h.IsTuple l items) where
  live := fun i h st => let ⟨o, ho, _⟩ := st.1; ⟨o, ho⟩
  frame := fun i h h' st k => ⟨let ⟨o, ho, r⟩ := st.1; ⟨o, k it (by simp) o ho, r⟩, let ⟨o, ho, r⟩ := st.2; ⟨o, k l (by simp) o ho, r⟩⟩
  item := fun i s Q E hi st hQ => by
    obtain ⟨x, hx⟩ : ∃ x, items[i]? = some x := ⟨items[i], by simp [hi]⟩
    exact RZ.nextOf_tuple_item st.1 st.2 hx fun h' a b => hQ x h' s.toks hx ⟨a, st.2.extBut b.extBut hne⟩ b
  done := fun s Q E st hE => RZ.nextOf_tuple_end hh st.1 st.2 (by simp) hE
/-- the tuple at a as it stands at each turn, each item in a new pair -/
def IteT (K : PySem.W.Frag) (a : Addr) : It :=
  ⟨fun i H => ∃ (xs : List V) (x : V), SqT K H a xs ∧ xs[i]? = some x, fun i H v H' => ∃ T x, v = .ref T ∧ H T = none ∧ H' = upd H T (.tup [.int (i : Nat), x]) ∧ ∀ xs, SqT K H a xs → xs[i]? = some x, fun i H => ∃ xs : List V, SqT K H a xs ∧ xs.length ≤ i⟩
theorem turn_enumT {P : Program} {w : World} {K : PySem.W.Frag} {elts : List Expr} {kk : Nat} {tpos : Pos} (a e it : Addr) :
    Turn P w K (.Tuple elts kk tpos) (IteT K a) [e, it] e (fun i h => (∃ old, IsEnum h e it ((i : Nat) : Int) old) ∧ h.IsTupleIter it a i ∧ e ≠ it) where
  mem := by simp
  obj := fun i h st b hb => by
    obtain ⟨⟨old, he⟩, ⟨o, ho, hc, hd⟩, _⟩ := st
    have e' : b = e ∨ b = it := by simpa using hb
    rcases e' with z | z
    · rw [z]; exact ⟨_, he, fun v q => nomatch q⟩
    · rw [z]; exact ⟨o, ho, fun v q => by rw [hd] at q; cases q⟩
  keep := fun i h h' st k => let ⟨⟨old, he⟩, hi, hne⟩ := st; ⟨⟨old, k e (by simp) _ he⟩, hi.at fun o q => k it (by simp) o q, hne⟩
  item := by
    intro X hP hw hK hc i pins s σ H E I hf st hg
    subst hP hw hK
    obtain ⟨⟨old, he⟩, hit, hne⟩ := st
    obtain ⟨xs, x, hq, hx⟩ := hg
    obtain ⟨its, rv, p, hz⟩ := I.tuple hq
    replace p : s.heap.IsTuple a its.toArray := p
    obtain ⟨u, hu, ru⟩ := rv.get hx
    have hel : e < s.heap.objs.size := Heap.lt_size he
    have hil : it < s.heap.objs.size := by obtain ⟨_, q, _⟩ := hit; exact Heap.lt_size q
    have hai : a ≠ it := fun z => by
      obtain ⟨o1, q1, c1, _⟩ := p
      obtain ⟨o2, q2, c2, _⟩ := hit
      rw [z, q2] at q1
      cases q1
      rw [c2] at c1
      injection c1 with c3
      exact absurd c3 (by decide)
    have hea : e ≠ a := fun z => by
      obtain ⟨o1, q1, c1, _⟩ := p
      have q2 : s.heap.get? e = some _ := he
      rw [z, q1] at q2
      cases q2
      injection c1 with c3
      exact absurd c3 (by decide)
    have hh : X.A.in1.handled = none := I.ok.hd hc
    have hi : i < its.toArray.size := by
      have := (List.getElem?_eq_some_iff.mp hu).1
      simpa using this
    refine wpAny_pyNext_enum_itemD (draws_tup hh hai) he ⟨hit, p⟩ hi hne (by simp [hne, hea]) fun x2 h' tk hx2 ho hst hT hsz hk => ?_
    have hxu : x2 = u := by
      have h2 : its.toArray[i]? = some u := by simpa using hu
      rw [h2] at hx2
      exact (Option.some.inj hx2).symm
    subst hxu
    obtain ⟨hit', _⟩ := hst
    refine ⟨_, rfl, wpAny_letOwnedTupleGo_enum (s := { s with heap := h', toks := tk + 1 }) ho fun h'' he' sb => ?_⟩
    have hT2 : h''.get? s.heap.objs.size = some { cls := .type "tuple", data := .seq #[.int i tk, x2] } := (sb.2 _ (Nat.ne_of_gt hel)).trans hT
    have new : ObjOk X.prog X.w (upd H s.heap.objs.size (.tup [.int (i : Nat), x])) h'' s.heap.objs.size (.tup [.int (i : Nat), x]) :=
      ⟨by show 2 ≤ sizeLine; decide, [.int i tk, x2], .cons ⟨_, rfl⟩ (.cons ru .nil), ⟨_, hT2, rfl, _, rfl⟩⟩
    have I1 : Inv X pins σ (upd H s.heap.objs.size (.tup [.int (i : Nat), x])) { s with heap := h'', toks := tk + 1 } :=
      I.turnedNew (ch := [e, it]) (fun b ob hb q => (sb.2 b (fun z => hb (by simp [z]))).trans (hk b ob (fun z => hb (by simp [z])) (fun z => hb (by simp [z])) q)) hf (Nat.le_refl _) new
    refine ⟨.ref s.heap.objs.size, _, I1, rfl, ⟨_, x, rfl, I.hok.fresh (Nat.le_refl _), rfl, fun ys hy => by rw [I.tuple_inj hy hq]; exact hx⟩, ⟨⟨x2, ?_⟩, hit'.at fun o q => (sb.2 it (Ne.symm hne)).trans q, hne⟩, fun b hb => ?_⟩
    · have e1 : ((i + 1 : Nat) : Int) = (i : Int) + 1 := by omega
      rw [e1]; exact he'
    · have hb' : b < s.heap.objs.size := by
        have e' : b = e ∨ b = it := by simpa using hb
        rcases e' with z | z
        · rw [z]; exact hel
        · rw [z]; exact hil
      rw [upd_ne (Nat.ne_of_lt hb')]
      exact (hf b hb).1
  done := by
    intro X hP hw hK hc i pins s σ H E I hf st hg
    subst hP hw hK
    obtain ⟨⟨old, he⟩, hit, hne⟩ := st
    obtain ⟨xs, hq, hx⟩ := hg
    obtain ⟨its, rv, p, hz⟩ := I.tuple hq
    replace p : s.heap.IsTuple a its.toArray := p
    obtain ⟨f0, f1, f2, f3, f4, f5⟩ := hf it (by simp)
    have hl := rv.length
    have hai : a ≠ it := fun z => by
      obtain ⟨o1, q1, c1, _⟩ := p
      obtain ⟨o2, q2, c2, _⟩ := hit
      rw [z, q2] at q1
      cases q1
      rw [c2] at c1
      injection c1 with c3
      exact absurd c3 (by decide)
    have hh : X.A.in1.handled = none := I.ok.hd hc
    have hT : s.TypeIs (.ref e) "enumerate" := ⟨_, he, rfl⟩
    unfold pyNext
    refine wpAny_bind (wpAny_attempt (wpAny_callSpecial?_slot (name := Str.ofString "__next__") hT F.slot_enumerate_next
      (wpAny_call_entry F.slot_enumerate_next hT F.entry_enumerate_next ?_ (F.args_enumerate_next_1 _))))
    show wpAny _ _ (field (.ref e) 2 >>= _) _ _ _
    refine wpAny_bind (wpAny_field he rfl (x := .ref it) rfl ?_)
    refine wpAny_bind (RZ.nextOf_tuple_end hh hit p (by simp; omega) fun h' x he' hx' => ?_)
    obtain ⟨o, ho, hc⟩ := hx'
    refine wpAny_bind (wpAny_isInstance (T := "StopIteration") (b := true) ⟨o, ho, hc⟩ isSubtype_stop ?_)
    exact wpAny_pure ⟨rfl, I.turned (t' := s.toks) (fun b o hb q => he' b o hb q) f0 f1 f3 f4 f5⟩
  self := fun A i s Q E st h => let ⟨⟨_, he⟩, _⟩ := st; wpAny_pyIter_enum he h
def iEnumT (K : PySem.W.Frag) (ta : TA) : TI := fun σ H R => ta σ H fun vs H1 => ∃ a xs, vs = [.ref a] ∧ SqT K H1 a xs ∧ R (IteT K a) H1
theorem pi_enumT {X : Cx} {e : Expr} {ta : TA} {p pos tpos : Pos} {elts : List Expr} {kk : Nat} (hg : Gl X "enumerate") (hm : X.mg "enumerate" = none) (ha : PA X [e] ta) (hs : starEach [e] X.env = [(false, eval e X.env)] := by rfl) :
    PI X (.Tuple elts kk tpos) (.Call (.Name "enumerate" p) [e] [] pos) (iEnumT X.K ta) := by
  refine ⟨fun pins s σ H R I h => ?_⟩
  refine Call_ (ld_blt I hg hm boot_enumerate (PyProof.Rows.callWith_type1 (thn (ha.run pos pins s σ H _ I h) fun us s1 ⟨vs, H1, I1, r1, q1⟩ => ?_) hs rfl))
  obtain ⟨a, xs, ex, hq, q⟩ := q1
  subst ex
  cases r1 with
  | cons r rr =>
    cases rr
    cases r
    obtain ⟨its, rv, p', hz⟩ := I1.tuple hq
    replace p' : s1.heap.IsTuple a its.toArray := p'
    refine call_enumerate_tuple p' fun h' he hit hsz hk => wpAny_pyIter_enum he ?_
    have I2 : Inv X pins σ H1 { s1 with heap := h' } := I1.kept (t' := s1.toks) hk
    refine ⟨s1.heap.objs.size + 1, [s1.heap.objs.size + 1, s1.heap.objs.size], _, _, H1, rfl, I2, turn_enumT a (s1.heap.objs.size + 1) s1.heap.objs.size, ⟨⟨.none, he⟩, hit, Nat.succ_ne_self _⟩, fun b hb => ?_, q⟩
    have e' : b = s1.heap.objs.size + 1 ∨ b = s1.heap.objs.size := by simpa using hb
    have hle : s1.heap.objs.size ≤ b := by
      rcases e' with z | z
      · rw [z]; exact Nat.le_add_right _ _
      · rw [z]; exact Nat.le_refl _
    exact I1.fpOk hle (I1.hok.fresh hle)
end DL

namespace DL
open PySem PySem.Spec PyProof.Rows L2

/-! ### data trees -/
inductive D where
  | non
  | bl (b : Bool)
  | int (i : Int)
  | str (s : Str)
  /-- the script -/
  | scr (ns : List Int)
  /-- a tuple; true: it is known to be one of the plain kind -/
  | tupF (f : Bool) (xs : List D)
  | lst (xs : List D)
  | dk (ks : List Key) (vs : List D)
  | dt (ks : List (List Key)) (vs : List D)
  | obj (c : Str) (fs : List Str) (vs : List D)

abbrev D.tup (xs : List D) : D := .tupF false xs

mutual
def D.pure : D → Bool
  | .non => true
  | .bl _ => true
  | .int _ => true
  | .str _ => true
  | .scr _ => false
  | .tupF _ xs => D.pureL xs
  | .lst _ => false
  | .dk _ _ => false
  | .dt _ _ => false
  | .obj _ _ _ => false
def D.pureL : List D → Bool
  | [] => true
  | d :: r => d.pure && D.pureL r
end

/-- what an operation ends in: a value, a refusal of an own class, or nothing that is known -/
inductive Out (α : Type) where
  | ok (a : α)
  | exc (c : Str)
  | bad
def Out.bind {α β : Type} (x : Out α) (f : α → Out β) : Out β := match x with
  | .ok a => f a
  | .exc c => .exc c
  | .bad => .bad
instance : Monad Out where
  pure := Out.ok
  bind := Out.bind
@[simp] theorem Out.bind_ok {α β : Type} (a : α) (f : α → Out β) : (Out.ok a >>= f) = f a := rfl
@[simp] theorem Out.bind_exc {α β : Type} (c : Str) (f : α → Out β) : (Out.exc c >>= f) = Out.exc c := rfl
@[simp] theorem Out.bind_bad {α β : Type} (f : α → Out β) : ((Out.bad : Out α) >>= f) = Out.bad := rfl
@[simp] theorem Out.pure_eq {α : Type} (a : α) : (Pure.pure a : Out α) = Out.ok a := rfl
theorem Out.bind_assoc {α β γ : Type} (x : Out α) (f : α → Out β) (g : β → Out γ) : ((x >>= f) >>= g) = (x >>= fun a => f a >>= g) := by
  cases x <;> rfl

/-! ### where data stand in the heap -/
/-- what is never written -/
def Still (u : HO) : Prop := ¬ Mut (some u)
theorem still_tup {vs : List V} : Still (.tup vs) := id
theorem still_frz {o : Obj} {u : HO} : Still (.frz o u) := id
def TupAt (H : Hp) (f : Bool) (a : Addr) (vs : List V) : Prop := match f with
  | false => H a = some (.tup vs)
  | true => ∃ o : Obj, o.dict = none ∧ H a = some (.frz o (.tup vs))
theorem TupAt.keep {H H' : Hp} {f : Bool} {a : Addr} {vs : List V} (k : ∀ b u, H b = some u → Still u → H' b = some u) (h : TupAt H f a vs) : TupAt H' f a vs := by
  cases f with
  | false => exact k _ _ h still_tup
  | true =>
    obtain ⟨o, e, h⟩ := h
    exact ⟨o, e, k _ _ h still_frz⟩
theorem TupAt.seq {K : PySem.W.Frag} {H : Hp} {f : Bool} {a : Addr} {vs : List V} (h : TupAt H f a vs) : SqT K H a vs := by
  cases f with
  | false => exact SqT.of h
  | true =>
    obtain ⟨o, e, h⟩ := h
    exact .inl (.inr ⟨o, h⟩)
structure Gc where
  K : PySem.W.Frag
  cl : Str → Option Addr

/-- the object o at a: frozen (in Z), or owned -/
def Nod (Z H : Hp) (o : HO) (a : Addr) (F F' : List Addr) : Prop := (Z a = some o ∧ F = [] ∧ F' = []) ∨ (F = a :: F' ∧ H a = some o)
theorem Same.rd {Z Z' : Hp} {a : Addr} {u : HO} (hz : Same Z Z') (h : Rd Z a u) : Rd Z' a u := h.imp (fun e => hz _ _ e) fun ⟨o, e⟩ => ⟨o, hz _ _ e⟩
def NodL (Z H : Hp) (vs : List V) (a : Addr) (F F' : List Addr) : Prop := (Rd Z a (.lst vs) ∧ F = [] ∧ F' = []) ∨ (F = a :: F' ∧ H a = some (.lst vs))

mutual
/-- the data d stand in H at v; the nodes that may be written are those at F, each once; all others that can be written stand in Z -/
def Own (G : Gc) (Z H : Hp) : D → V → List Addr → Prop
  | .non, v, F => v = .non ∧ F = []
  | .bl b, v, F => v = .bl b ∧ F = []
  | .int i, v, F => v = .int i ∧ F = []
  | .str s, v, F => v = .str s ∧ F = []
  | .scr ns, v, F => F = [] ∧ ∃ a, v = .ref a ∧ SqL G.K Z a (ns.map V.int)
  | .tupF f ds, v, F => ∃ a vs, v = .ref a ∧ TupAt H f a vs ∧ OwnL G Z H ds vs F
  | .lst ds, v, F => ∃ a vs F', v = .ref a ∧ NodL Z H vs a F F' ∧ OwnL G Z H ds vs F'
  | .dk ks ds, v, F => ∃ a vs F', v = .ref a ∧ ks.length = vs.length ∧ Nod Z H (.dK (ks.zip vs)) a F F' ∧ OwnL G Z H ds vs F'
  | .dt ks ds, v, F => ∃ a vs F', v = .ref a ∧ ks.length = vs.length ∧ Nod Z H (.dT (ks.zip vs)) a F F' ∧ OwnL G Z H ds vs F'
  | .obj c fs ds, v, F => ∃ a vs F' C dx, v = .ref a ∧ G.cl c = some C ∧ fs.length = vs.length ∧ Nod Z H (.ins C dx (fs.zip vs)) a F F' ∧ OwnL G Z H ds vs F'
def OwnL (G : Gc) (Z H : Hp) : List D → List V → List Addr → Prop
  | [], vs, F => vs = [] ∧ F = []
  | d :: ds, vs, F => ∃ v r F1 F2, vs = v :: r ∧ F = F1 ++ F2 ∧ Own G Z H d v F1 ∧ OwnL G Z H ds r F2
end

/-- all of A stands in H -/
theorem Same.nod {Z Z' H H' : Hp} {o : HO} {a : Addr} {F F' : List Addr} (hz : Same Z Z') (hk : ∀ b u, H b = some u → b ∈ F → H' b = some u) (n : Nod Z H o a F F') : Nod Z' H' o a F F' := by
  rcases n with ⟨h, e⟩ | ⟨e, h⟩
  · exact .inl ⟨hz _ _ h, e⟩
  · exact .inr ⟨e, hk _ _ h (by rw [e]; exact List.mem_cons_self)⟩
theorem Same.nodL {Z Z' H H' : Hp} {vs : List V} {a : Addr} {F F' : List Addr} (hz : Same Z Z') (hk : ∀ b u, H b = some u → b ∈ F → H' b = some u) (n : NodL Z H vs a F F') : NodL Z' H' vs a F F' := by
  rcases n with ⟨h, e⟩ | ⟨e, h⟩
  · exact .inl ⟨Same.rd hz h, e⟩
  · exact .inr ⟨e, hk _ _ h (by rw [e]; exact List.mem_cons_self)⟩
theorem Nod.sub {Z H : Hp} {o : HO} {a : Addr} {F F' : List Addr} (n : Nod Z H o a F F') : ∀ b ∈ F', b ∈ F := by
  rcases n with ⟨_, _, e⟩ | ⟨e, _⟩
  · rw [e]; intro b h; cases h
  · rw [e]; intro b h; exact List.mem_cons_of_mem _ h
theorem NodL.sub {Z H : Hp} {vs : List V} {a : Addr} {F F' : List Addr} (n : NodL Z H vs a F F') : ∀ b ∈ F', b ∈ F := by
  rcases n with ⟨_, _, e⟩ | ⟨e, _⟩
  · rw [e]; intro b h; cases h
  · rw [e]; intro b h; exact List.mem_cons_of_mem _ h

section
variable {G : Gc} {Z Z' H H' : Hp}
mutual
/-- data stay where the heap keeps their owned nodes and the tuples, and Z grows -/
theorem Own.keep (hz : Same Z Z') : ∀ (d : D) (v : V) (F : List Addr), (∀ b u, H b = some u → (b ∈ F ∨ Still u) → H' b = some u) → Own G Z H d v F → Own G Z' H' d v F
  | .non, _, _, _, h => h
  | .bl _, _, _, _, h => h
  | .int _, _, _, _, h => h
  | .str _, _, _, _, h => h
  | .scr _, _, _, _, h => ⟨h.1, h.2.imp fun _ z => ⟨z.1, hz.seq z.2⟩⟩
  | .tupF f ds, v, F, k, h => by
    obtain ⟨a, vs, e, h1, h2⟩ := h
    exact ⟨a, vs, e, h1.keep fun b u q st => k b u q (.inr st), OwnL.keep hz ds vs F k h2⟩
  | .lst ds, v, F, k, h => by
    obtain ⟨a, vs, F', e, n, h2⟩ := h
    exact ⟨a, vs, F', e, Same.nodL hz (fun b u q m => k b u q (.inl m)) n, OwnL.keep hz ds vs F' (fun b u q m => k b u q (m.imp (n.sub b) id)) h2⟩
  | .dk ks ds, v, F, k, h => by
    obtain ⟨a, vs, F', e, l, n, h2⟩ := h
    exact ⟨a, vs, F', e, l, Same.nod hz (fun b u q m => k b u q (.inl m)) n, OwnL.keep hz ds vs F' (fun b u q m => k b u q (m.imp (n.sub b) id)) h2⟩
  | .dt ks ds, v, F, k, h => by
    obtain ⟨a, vs, F', e, l, n, h2⟩ := h
    exact ⟨a, vs, F', e, l, Same.nod hz (fun b u q m => k b u q (.inl m)) n, OwnL.keep hz ds vs F' (fun b u q m => k b u q (m.imp (n.sub b) id)) h2⟩
  | .obj c fs ds, v, F, k, h => by
    obtain ⟨a, vs, F', C, dx, e, ec, l, n, h2⟩ := h
    exact ⟨a, vs, F', C, dx, e, ec, l, Same.nod hz (fun b u q m => k b u q (.inl m)) n, OwnL.keep hz ds vs F' (fun b u q m => k b u q (m.imp (n.sub b) id)) h2⟩
theorem OwnL.keep (hz : Same Z Z') : ∀ (ds : List D) (vs : List V) (F : List Addr), (∀ b u, H b = some u → (b ∈ F ∨ Still u) → H' b = some u) → OwnL G Z H ds vs F → OwnL G Z' H' ds vs F
  | [], _, _, _, h => h
  | d :: ds, vs, F, k, h => by
    obtain ⟨v, r, F1, F2, e1, e2, h1, h2⟩ := h
    subst e2
    exact ⟨v, r, F1, F2, e1, rfl, Own.keep hz d v F1 (fun b u q m => k b u q (m.imp (fun z => List.mem_append_left _ z) id)) h1, OwnL.keep hz ds r F2 (fun b u q m => k b u q (m.imp (fun z => List.mem_append_right _ z) id)) h2⟩
end

mutual
/-- data are read in all of the heap -/
theorem Own.rep (hz : Same Z H) : ∀ (d : D) (v : V) (F : List Addr), Own G Z H d v F → Own G H H d v []
  | .non, _, _, h => ⟨h.1, rfl⟩
  | .bl _, _, _, h => ⟨h.1, rfl⟩
  | .int _, _, _, h => ⟨h.1, rfl⟩
  | .str _, _, _, h => ⟨h.1, rfl⟩
  | .scr _, _, _, h => ⟨rfl, h.2.imp fun _ z => ⟨z.1, hz.seq z.2⟩⟩
  | .tupF f ds, v, F, h => by
    obtain ⟨a, vs, e, h1, h2⟩ := h
    exact ⟨a, vs, e, h1, OwnL.rep hz ds vs F h2⟩
  | .lst ds, v, F, h => by
    obtain ⟨a, vs, F', e, n, h2⟩ := h
    refine ⟨a, vs, [], e, .inl ⟨?_, rfl, rfl⟩, OwnL.rep hz ds vs F' h2⟩
    rcases n with ⟨h, _⟩ | ⟨_, h⟩
    · exact Same.rd hz h
    · exact Rd.of h
  | .dk ks ds, v, F, h => by
    obtain ⟨a, vs, F', e, l, n, h2⟩ := h
    refine ⟨a, vs, [], e, l, .inl ⟨?_, rfl, rfl⟩, OwnL.rep hz ds vs F' h2⟩
    rcases n with ⟨h, _⟩ | ⟨_, h⟩
    · exact hz _ _ h
    · exact h
  | .dt ks ds, v, F, h => by
    obtain ⟨a, vs, F', e, l, n, h2⟩ := h
    refine ⟨a, vs, [], e, l, .inl ⟨?_, rfl, rfl⟩, OwnL.rep hz ds vs F' h2⟩
    rcases n with ⟨h, _⟩ | ⟨_, h⟩
    · exact hz _ _ h
    · exact h
  | .obj c fs ds, v, F, h => by
    obtain ⟨a, vs, F', C, dx, e, ec, l, n, h2⟩ := h
    refine ⟨a, vs, [], C, dx, e, ec, l, .inl ⟨?_, rfl, rfl⟩, OwnL.rep hz ds vs F' h2⟩
    rcases n with ⟨h, _⟩ | ⟨_, h⟩
    · exact hz _ _ h
    · exact h
theorem OwnL.rep (hz : Same Z H) : ∀ (ds : List D) (vs : List V) (F : List Addr), OwnL G Z H ds vs F → OwnL G H H ds vs []
  | [], _, _, h => ⟨h.1, rfl⟩
  | d :: ds, vs, F, h => by
    obtain ⟨v, r, F1, F2, e1, e2, h1, h2⟩ := h
    exact ⟨v, r, [], [], e1, rfl, Own.rep hz d v F1 h1, OwnL.rep hz ds r F2 h2⟩
end

mutual
/-- owned nodes frozen -/
theorem Own.freeze (hz : Same Z Z') : ∀ (d : D) (v : V) (F : List Addr), (∀ b u, b ∈ F → H b = some u → Z' b = some u) → Own G Z H d v F → Own G Z' H d v []
  | .non, _, _, _, h => ⟨h.1, rfl⟩
  | .bl _, _, _, _, h => ⟨h.1, rfl⟩
  | .int _, _, _, _, h => ⟨h.1, rfl⟩
  | .str _, _, _, _, h => ⟨h.1, rfl⟩
  | .scr _, _, _, _, h => ⟨rfl, h.2.imp fun _ z => ⟨z.1, hz.seq z.2⟩⟩
  | .tupF f ds, v, F, k, h => by
    obtain ⟨a, vs, e, h1, h2⟩ := h
    exact ⟨a, vs, e, h1, OwnL.freeze hz ds vs F k h2⟩
  | .lst ds, v, F, k, h => by
    obtain ⟨a, vs, F', e, n, h2⟩ := h
    refine ⟨a, vs, [], e, .inl ⟨?_, rfl, rfl⟩, OwnL.freeze hz ds vs F' (fun b u m => k b u (n.sub b m)) h2⟩
    rcases n with ⟨h, _⟩ | ⟨e, h⟩
    · exact Same.rd hz h
    · exact Rd.of (k _ _ (by rw [e]; exact List.mem_cons_self) h)
  | .dk ks ds, v, F, k, h => by
    obtain ⟨a, vs, F', e, l, n, h2⟩ := h
    refine ⟨a, vs, [], e, l, .inl ⟨?_, rfl, rfl⟩, OwnL.freeze hz ds vs F' (fun b u m => k b u (n.sub b m)) h2⟩
    rcases n with ⟨h, _⟩ | ⟨e, h⟩
    · exact hz _ _ h
    · exact k _ _ (by rw [e]; exact List.mem_cons_self) h
  | .dt ks ds, v, F, k, h => by
    obtain ⟨a, vs, F', e, l, n, h2⟩ := h
    refine ⟨a, vs, [], e, l, .inl ⟨?_, rfl, rfl⟩, OwnL.freeze hz ds vs F' (fun b u m => k b u (n.sub b m)) h2⟩
    rcases n with ⟨h, _⟩ | ⟨e, h⟩
    · exact hz _ _ h
    · exact k _ _ (by rw [e]; exact List.mem_cons_self) h
  | .obj c fs ds, v, F, k, h => by
    obtain ⟨a, vs, F', C, dx, e, ec, l, n, h2⟩ := h
    refine ⟨a, vs, [], C, dx, e, ec, l, .inl ⟨?_, rfl, rfl⟩, OwnL.freeze hz ds vs F' (fun b u m => k b u (n.sub b m)) h2⟩
    rcases n with ⟨h, _⟩ | ⟨e, h⟩
    · exact hz _ _ h
    · exact k _ _ (by rw [e]; exact List.mem_cons_self) h
theorem OwnL.freeze (hz : Same Z Z') : ∀ (ds : List D) (vs : List V) (F : List Addr), (∀ b u, b ∈ F → H b = some u → Z' b = some u) → OwnL G Z H ds vs F → OwnL G Z' H ds vs []
  | [], _, _, _, h => ⟨h.1, rfl⟩
  | d :: ds, vs, F, k, h => by
    obtain ⟨v, r, F1, F2, e1, e2, h1, h2⟩ := h
    subst e2
    exact ⟨v, r, [], [], e1, rfl, Own.freeze hz d v F1 (fun b u m => k b u (List.mem_append_left _ m)) h1, OwnL.freeze hz ds r F2 (fun b u m => k b u (List.mem_append_right _ m)) h2⟩
end

mutual
/-- owned nodes stand in the heap, and may be written -/
theorem Own.dom : ∀ (d : D) (v : V) (F : List Addr), Own G Z H d v F → ∀ a ∈ F, ∃ o, H a = some o ∧ Mut (some o)
  | .non, _, _, h => fun a m => by rw [h.2] at m; cases m
  | .bl _, _, _, h => fun a m => by rw [h.2] at m; cases m
  | .int _, _, _, h => fun a m => by rw [h.2] at m; cases m
  | .str _, _, _, h => fun a m => by rw [h.2] at m; cases m
  | .scr _, _, _, h => fun a m => by rw [h.1] at m; cases m
  | .tupF f ds, v, F, h => by
    obtain ⟨a, vs, e, h1, h2⟩ := h
    exact OwnL.dom ds vs F h2
  | .lst ds, v, F, h => by
    obtain ⟨a, vs, F', e, n, h2⟩ := h
    rcases n with ⟨_, e, _⟩ | ⟨e, q⟩
    · rw [e]; intro a m; cases m
    · rw [e]
      intro b m
      rcases List.mem_cons.mp m with rfl | m
      · exact ⟨_, q, trivial⟩
      · exact OwnL.dom ds vs F' h2 b m
  | .dk ks ds, v, F, h => by
    obtain ⟨a, vs, F', e, l, n, h2⟩ := h
    rcases n with ⟨_, e, _⟩ | ⟨e, q⟩
    · rw [e]; intro a m; cases m
    · rw [e]
      intro b m
      rcases List.mem_cons.mp m with rfl | m
      · exact ⟨_, q, trivial⟩
      · exact OwnL.dom ds vs F' h2 b m
  | .dt ks ds, v, F, h => by
    obtain ⟨a, vs, F', e, l, n, h2⟩ := h
    rcases n with ⟨_, e, _⟩ | ⟨e, q⟩
    · rw [e]; intro a m; cases m
    · rw [e]
      intro b m
      rcases List.mem_cons.mp m with rfl | m
      · exact ⟨_, q, trivial⟩
      · exact OwnL.dom ds vs F' h2 b m
  | .obj c fs ds, v, F, h => by
    obtain ⟨a, vs, F', C, dx, e, ec, l, n, h2⟩ := h
    rcases n with ⟨_, e, _⟩ | ⟨e, q⟩
    · rw [e]; intro a m; cases m
    · rw [e]
      intro b m
      rcases List.mem_cons.mp m with rfl | m
      · exact ⟨_, q, trivial⟩
      · exact OwnL.dom ds vs F' h2 b m
theorem OwnL.dom : ∀ (ds : List D) (vs : List V) (F : List Addr), OwnL G Z H ds vs F → ∀ a ∈ F, ∃ o, H a = some o ∧ Mut (some o)
  | [], _, _, h => fun a m => by rw [h.2] at m; cases m
  | d :: ds, vs, F, h => by
    obtain ⟨v, r, F1, F2, e1, e2, h1, h2⟩ := h
    subst e2
    intro a m
    rcases List.mem_append.mp m with m | m
    · exact Own.dom d v F1 h1 a m
    · exact OwnL.dom ds r F2 h2 a m
end

mutual
/-- pure data own nothing and lean on no frozen node -/
theorem Own.ofPure : ∀ (d : D) (v : V) (F : List Addr), d.pure = true → Own G Z H d v F → F = [] ∧ Own G Z' H d v []
  | .non, _, _, _, h => ⟨h.2, h.1, rfl⟩
  | .bl _, _, _, _, h => ⟨h.2, h.1, rfl⟩
  | .int _, _, _, _, h => ⟨h.2, h.1, rfl⟩
  | .str _, _, _, _, h => ⟨h.2, h.1, rfl⟩
  | .tupF f ds, v, F, p, h => by
    obtain ⟨a, vs, e, h1, h2⟩ := h
    obtain ⟨q1, q2⟩ := OwnL.ofPure ds vs F p h2
    exact ⟨q1, a, vs, e, h1, q2⟩
  | .scr _, v, F, p, h => by cases p
  | .lst ds, v, F, p, h => by cases p
  | .dk ks ds, v, F, p, h => by cases p
  | .dt ks ds, v, F, p, h => by cases p
  | .obj c fs ds, v, F, p, h => by cases p
theorem OwnL.ofPure : ∀ (ds : List D) (vs : List V) (F : List Addr), D.pureL ds = true → OwnL G Z H ds vs F → F = [] ∧ OwnL G Z' H ds vs []
  | [], _, _, _, h => ⟨h.2, h.1, rfl⟩
  | d :: ds, vs, F, p, h => by
    obtain ⟨v, r, F1, F2, e1, e2, h1, h2⟩ := h
    have p' : (d.pure && D.pureL ds) = true := p
    simp only [Bool.and_eq_true] at p'
    obtain ⟨q1, q2⟩ := Own.ofPure d v F1 p'.1 h1
    obtain ⟨r1, r2⟩ := OwnL.ofPure ds r F2 p'.2 h2
    exact ⟨by rw [e2, q1, r1]; rfl, v, r, [], [], e1, rfl, q2, r2⟩
end
theorem OwnL.length : ∀ {ds : List D} {vs : List V} {F : List Addr}, OwnL G Z H ds vs F → vs.length = ds.length
  | [], _, _, h => by rw [h.1]; rfl
  | d :: ds, vs, F, h => by
    obtain ⟨v, r, F1, F2, e1, e2, h1, h2⟩ := h
    rw [e1, List.length_cons, List.length_cons, OwnL.length h2]
theorem OwnL.append : ∀ {ds es : List D} {vs us : List V} {F F' : List Addr}, OwnL G Z H ds vs F → OwnL G Z H es us F' → OwnL G Z H (ds ++ es) (vs ++ us) (F ++ F')
  | [], es, vs, us, F, F', h, h' => by
    rw [h.1, h.2]
    exact h'
  | d :: ds, es, vs, us, F, F', h, h' => by
    obtain ⟨v, r, F1, F2, e1, e2, h1, h2⟩ := h
    subst e1 e2
    exact ⟨v, r ++ us, F1, F2 ++ F', rfl, by rw [List.append_assoc], h1, OwnL.append h2 h'⟩
theorem OwnL.split : ∀ {ds es : List D} {vs : List V} {F : List Addr}, OwnL G Z H (ds ++ es) vs F → ∃ vs1 vs2 F1 F2, vs = vs1 ++ vs2 ∧ F = F1 ++ F2 ∧ OwnL G Z H ds vs1 F1 ∧ OwnL G Z H es vs2 F2
  | [], es, vs, F, h => ⟨[], vs, [], F, rfl, rfl, ⟨rfl, rfl⟩, h⟩
  | d :: ds, es, vs, F, h => by
    obtain ⟨v, r, F1, F2, e1, e2, h1, h2⟩ := h
    obtain ⟨vs1, vs2, F3, F4, q1, q2, q3, q4⟩ := OwnL.split (ds := ds) h2
    exact ⟨v :: vs1, vs2, F1 ++ F3, F4, by rw [e1, q1]; rfl, by rw [e2, q2, List.append_assoc], ⟨v, vs1, F1, F3, rfl, rfl, h1, q3⟩, q4⟩
theorem OwnL.get : ∀ {ds : List D} {vs : List V} {i : Nat} {d : D}, OwnL G Z H ds vs [] → ds[i]? = some d → ∃ v, vs[i]? = some v ∧ Own G Z H d v []
  | [], _, _, _, _, e => by cases e
  | d :: ds, vs, 0, d', h, e => by
    obtain ⟨v, r, F1, F2, e1, e2, h1, h2⟩ := h
    have e3 : d = d' := Option.some.inj e
    subst e1 e3
    obtain ⟨rfl, rfl⟩ := List.append_eq_nil_iff.mp e2.symm
    exact ⟨v, rfl, h1⟩
  | d :: ds, vs, i + 1, d', h, e => by
    obtain ⟨v, r, F1, F2, e1, e2, h1, h2⟩ := h
    subst e1
    obtain ⟨rfl, rfl⟩ := List.append_eq_nil_iff.mp e2.symm
    exact OwnL.get (i := i) h2 e
theorem OwnL.cons_nil {d : D} {ds : List D} {v : V} {vs : List V} (h1 : Own G Z H d v []) (h2 : OwnL G Z H ds vs []) : OwnL G Z H (d :: ds) (v :: vs) [] := ⟨v, vs, [], [], rfl, rfl, h1, h2⟩
theorem OwnL.uncons {d : D} {ds : List D} {vs : List V} (h : OwnL G Z H (d :: ds) vs []) : ∃ v r, vs = v :: r ∧ Own G Z H d v [] ∧ OwnL G Z H ds r [] := by
  obtain ⟨v, r, F1, F2, e1, e2, h1, h2⟩ := h
  obtain ⟨rfl, rfl⟩ := List.append_eq_nil_iff.mp e2.symm
  exact ⟨v, r, e1, h1, h2⟩
end

/-! ### joined heaps -/
def joi (B Z : Hp) : Hp := fun a => match B a with
  | some o => some o
  | none => Z a
/-- B, and what H has at F -/
def lay (B H : Hp) (F : List Addr) : Hp := fun a => if a ∈ F then H a else B a
/-- H without what stands at F -/
def cut (H : Hp) (F : List Addr) : Hp := fun a => if a ∈ F then none else H a
theorem joi_le {B Z H : Hp} (b : Same B H) (z : Same Z H) : Same (joi B Z) H := fun a o e => by
  unfold joi at e
  cases q : B a with
  | some u =>
    rw [q] at e
    cases e
    exact b _ _ q
  | none =>
    rw [q] at e
    exact z _ _ e
theorem joi_mono {B B' Z Z' H : Hp} (b : Same B B') (z : Same Z Z') (b' : Same B' H) (z' : Same Z' H) : Same (joi B Z) (joi B' Z') := fun a o e => by
  unfold joi at e ⊢
  cases q : B a with
  | some u =>
    rw [q] at e
    cases e
    rw [b _ _ q]
  | none =>
    rw [q] at e
    cases q' : B' a with
    | some u =>
      have h1 := b' _ _ q'
      have h2 := z' _ _ (z _ _ e)
      rw [h1] at h2
      exact h2
    | none => exact z _ _ e
theorem joi_right {B Z H : Hp} (b : Same B H) (z : Same Z H) : Same Z (joi B Z) := fun a o e => by
  unfold joi
  cases q : B a with
  | some u =>
    have h1 := b _ _ q
    rw [z _ _ e] at h1
    exact h1.symm
  | none => exact e
theorem joi_left {B Z : Hp} : Same B (joi B Z) := fun a o e => by
  unfold joi
  rw [e]
theorem joi_none {B Z : Hp} {a : Addr} (b : B a = none) (z : Z a = none) : joi B Z a = none := by
  unfold joi
  rw [b]
  exact z
theorem of_joi_none {B Z : Hp} {a : Addr} (h : joi B Z a = none) : B a = none ∧ Z a = none := by
  unfold joi at h
  cases q : B a with
  | some u => rw [q] at h; cases h
  | none => rw [q] at h; exact ⟨rfl, h⟩
theorem lay_le {B H : Hp} {F : List Addr} (b : Same B H) : Same (lay B H F) H := fun a o e => by
  unfold lay at e
  split at e
  · exact e
  · exact b _ _ e
theorem lay_up {B H : Hp} {F : List Addr} (b : Same B H) : Same B (lay B H F) := fun a o e => by
  unfold lay
  split
  · exact b _ _ e
  · exact e
theorem lay_in {B H : Hp} {F : List Addr} {a : Addr} (h : a ∈ F) : lay B H F a = H a := by
  unfold lay
  rw [if_pos h]
theorem lay_out {B H : Hp} {F : List Addr} {a : Addr} (h : a ∉ F) : lay B H F a = B a := by
  unfold lay
  rw [if_neg h]
theorem lay_nil {B H : Hp} : lay B H [] = B := by
  funext a
  unfold lay
  rw [if_neg (by simp)]
theorem cut_le {H : Hp} {F : List Addr} : Same (cut H F) H := fun a o e => by
  unfold cut at e
  split at e
  · cases e
  · exact e
theorem cut_out {H : Hp} {F : List Addr} {a : Addr} (h : a ∉ F) : cut H F a = H a := by
  unfold cut
  rw [if_neg h]
theorem cut_in {H : Hp} {F : List Addr} {a : Addr} (h : a ∈ F) : cut H F a = none := by
  unfold cut
  rw [if_pos h]
theorem same_upd {H : Hp} {p : Addr} {o : HO} (h : H p = none) : Same H (upd H p o) := fun b x e => by
  rw [upd_ne (ne_of_none e h)]
  exact e
end DL

namespace DL
open PySem PySem.Spec PyProof.Rows L2

/-! ### slots -/
inductive Md where
  /-- owned; owned, and the caller's (an argument that is changed); frozen; the caller's, read only; owned, but being read elsewhere -/
  | own | io | shr | brw | lck
  deriving DecidableEq
abbrev Slot := Option (Md × D)
abbrev DEnv := List Slot
def Md.mut : Md → Bool
  | .own => true
  | .io => true
  | _ => false

def SlotOk (G : Gc) (B Z H : Hp) (x : Option (Option V)) (s : Option Slot) (F : List Addr) : Prop :=
  match s with
  | some (some (m, d)) => ∃ v, x = some (some v) ∧ (match m with
      | .own => Own G Z H d v F
      | .io => Own G Z H d v F
      | .shr => Own G Z H d v [] ∧ F = []
      | .brw => Own G (joi B Z) H d v [] ∧ F = []
      | .lck => Own G (joi B Z) H d v [] ∧ F = [])
  | _ => F = []

structure Good (G : Gc) (B Z H : Hp) (σ : L2.St) (env : DEnv) (Fs : Nat → List Addr) : Prop where
  sb : Same B H
  sz : Same Z H
  len : env.length = σ.length
  sl : ∀ i, SlotOk G B Z H σ[i]? env[i]? (Fs i)
  nd : ∀ i, (Fs i).Nodup
  dj : ∀ i j a, a ∈ Fs i → a ∈ Fs j → i = j
  fr : ∀ i a, a ∈ Fs i → B a = none ∧ Z a = none
  z0 : ∀ a, Z a = none

def InF (Fs : Nat → List Addr) (a : Addr) : Prop := ∃ i, a ∈ Fs i

/-- from the one state to the other: what is not the slots' own stays; the slots own what they owned and what is new -/
structure Stp (G : Gc) (B Z H : Hp) (σ : L2.St) (env : DEnv) (P : Addr → Prop) (Z' H' : Hp) (σ' : L2.St) (env' : DEnv) (Fs' : Nat → List Addr) : Prop where
  zz : Same Z Z'
  ext : ∀ a o, H a = some o → ¬ P a → H' a = some o
  good : Good G B Z' H' σ' env' Fs'
  new : ∀ a, InF Fs' a → H a = none ∨ P a
  newz : ∀ a, Z' a ≠ none → Z a ≠ none ∨ H a = none ∨ P a
  io : ∀ (j : Nat) (d : D), env[j]? = some (some (Md.io, d)) → (∃ d' : D, env'[j]? = some (some (Md.io, d'))) ∧ σ'[j]? = σ[j]?
  lk : ∀ (j : Nat) (d : D), env[j]? = some (some (Md.lck, d)) → env'[j]? = some (some (Md.lck, d)) ∧ σ'[j]? = σ[j]?
  bw : ∀ (j : Nat) (d : D), env'[j]? = some (some (Md.brw, d)) → env[j]? = some (some (Md.brw, d)) ∧ σ'[j]? = σ[j]?
  lb : ∀ (j : Nat) (d : D), env'[j]? = some (some (Md.lck, d)) → env[j]? = some (some (Md.lck, d)) ∧ σ'[j]? = σ[j]?
  ln : env'.length = env.length

/-- a value at hand, owned by nobody else -/
structure Tm (G : Gc) (B Z H : Hp) (P : Addr → Prop) (d : D) (v : V) (F : List Addr) : Prop where
  own : Own G Z H d v F
  nd : F.Nodup
  dj : ∀ a, a ∈ F → ¬ P a
  fr : ∀ a, a ∈ F → B a = none ∧ Z a = none

section
variable {G : Gc} {B Z H Z' H' Z'' H'' : Hp} {σ σ' σ'' : L2.St} {env env' env'' : DEnv} {Fs Fs' Fs'' : Nat → List Addr}
theorem SlotOk.dom {x : Option (Option V)} {s : Option Slot} {F : List Addr} (h : SlotOk G B Z H x s F) : ∀ a ∈ F, ∃ o, H a = some o ∧ Mut (some o) := by
  unfold SlotOk at h
  match s, h with
  | some (some (.own, d)), h => obtain ⟨v, _, h⟩ := h; exact Own.dom d v F h
  | some (some (.io, d)), h => obtain ⟨v, _, h⟩ := h; exact Own.dom d v F h
  | some (some (.shr, d)), h => obtain ⟨v, _, _, h⟩ := h; intro a m; rw [h] at m; cases m
  | some (some (.brw, d)), h => obtain ⟨v, _, _, h⟩ := h; intro a m; rw [h] at m; cases m
  | some (some (.lck, d)), h => obtain ⟨v, _, _, h⟩ := h; intro a m; rw [h] at m; cases m
  | some none, h => intro a m; rw [show F = [] from h] at m; cases m
  | none, h => intro a m; rw [show F = [] from h] at m; cases m
theorem Good.dom (g : Good G B Z H σ env Fs) {a : Addr} (h : InF Fs a) : ∃ o, H a = some o ∧ Mut (some o) := by
  obtain ⟨i, m⟩ := h
  exact (g.sl i).dom a m
/-- a tuple is nobody's own -/
theorem Good.tup (g : Good G B Z H σ env Fs) {a : Addr} {u : HO} (h : H a = some u) (hs : Still u) : ¬ InF Fs a := fun m => by
  obtain ⟨o, e, mu⟩ := g.dom m
  rw [h] at e
  cases e
  exact hs mu
theorem SlotOk.keep {x : Option (Option V)} {s : Option Slot} {F : List Addr} (h : SlotOk G B Z H x s F) (b : Same B H) (z : Same Z H) (b' : Same B H') (z' : Same Z' H') (hz : Same Z Z')
    (k : ∀ a u, H a = some u → (a ∈ F ∨ Still u) → H' a = some u) : SlotOk G B Z' H' x s F := by
  have j : Same (joi B Z) (joi B Z') := joi_mono (Same.refl B) hz b' z'
  have k0 : ∀ a u, H a = some u → (a ∈ ([] : List Addr) ∨ Still u) → H' a = some u := fun a u e m => k a u e (m.imp (fun z => by cases z) id)
  unfold SlotOk at h ⊢
  match s, h with
  | some (some (.own, d)), h => obtain ⟨v, e, h⟩ := h; exact ⟨v, e, Own.keep hz d v F k h⟩
  | some (some (.io, d)), h => obtain ⟨v, e, h⟩ := h; exact ⟨v, e, Own.keep hz d v F k h⟩
  | some (some (.shr, d)), h => obtain ⟨v, e, h, f⟩ := h; exact ⟨v, e, Own.keep hz d v [] k0 h, f⟩
  | some (some (.brw, d)), h => obtain ⟨v, e, h, f⟩ := h; exact ⟨v, e, Own.keep j d v [] k0 h, f⟩
  | some (some (.lck, d)), h => obtain ⟨v, e, h, f⟩ := h; exact ⟨v, e, Own.keep j d v [] k0 h, f⟩
  | some none, h => exact h
  | none, h => exact h

variable {P P' P1 : Addr → Prop}
/-- what is owned may be written -/
def PMut (H : Hp) (P : Addr → Prop) : Prop := ∀ a, P a → ∃ o, H a = some o ∧ Mut (some o)
theorem PMut.tup (p : PMut H P) {a : Addr} {u : HO} (h : H a = some u) (hs : Still u) : ¬ P a := fun m => by
  obtain ⟨o, e, mu⟩ := p a m
  rw [h] at e
  cases e
  exact hs mu
theorem Good.pm (g : Good G B Z H σ env Fs) : PMut H (InF Fs) := fun _ h => g.dom h
theorem Stp.refl (g : Good G B Z H σ env Fs) (hp : ∀ a, InF Fs a → P a) : Stp G B Z H σ env P Z H σ env Fs :=
  ⟨Same.refl Z, fun _ _ e _ => e, g, fun a m => .inr (hp a m), fun _ m => .inl m, fun j d e => ⟨⟨d, e⟩, rfl⟩, fun j d e => ⟨e, rfl⟩, fun j d e => ⟨e, rfl⟩, fun j d e => ⟨e, rfl⟩, rfl⟩
theorem Stp.trans (a : Stp G B Z H σ env P Z' H' σ' env' Fs') (hp : ∀ x, P1 x → H x = none ∨ P x) (b : Stp G B Z' H' σ' env' P1 Z'' H'' σ'' env'' Fs'') : Stp G B Z H σ env P Z'' H'' σ'' env'' Fs'' := by
  have back : ∀ x, H' x = none → H x = none ∨ P x := fun x z => by
    cases q : H x with
    | none => exact .inl rfl
    | some o =>
      refine .inr ?_
      by_cases n : P x
      · exact n
      · have := a.ext x o q n
        rw [z] at this; cases this
  refine ⟨a.zz.trans b.zz, fun x o e n => b.ext x o (a.ext x o e n) fun m => ?_, b.good, fun x m => ?_, fun x m => ?_, fun j d e => ?_, fun j d e => ?_, fun j d e => ?_, fun j d e => ?_, b.ln.trans a.ln⟩
  · rcases hp x m with z | z
    · rw [e] at z; cases z
    · exact n z
  · rcases b.new x m with z | z
    · exact back x z
    · exact hp x z
  · rcases b.newz x m with z | z | z
    · exact a.newz x z
    · exact .inr (back x z)
    · exact .inr (hp x z)
  · obtain ⟨⟨d', e1⟩, s1⟩ := a.io j d e
    obtain ⟨q, s2⟩ := b.io j d' e1
    exact ⟨q, s2.trans s1⟩
  · obtain ⟨e1, s1⟩ := a.lk j d e
    obtain ⟨q, s2⟩ := b.lk j d e1
    exact ⟨q, s2.trans s1⟩
  · obtain ⟨e1, s1⟩ := b.bw j d e
    obtain ⟨q, s2⟩ := a.bw j d e1
    exact ⟨q, s1.trans s2⟩
  · obtain ⟨e1, s1⟩ := b.lb j d e
    obtain ⟨q, s2⟩ := a.lb j d e1
    exact ⟨q, s1.trans s2⟩
/-- .. where more is owned at the start -/
theorem Stp.more (a : Stp G B Z H σ env P Z' H' σ' env' Fs') (hp : ∀ x, P x → P1 x) : Stp G B Z H σ env P1 Z' H' σ' env' Fs' :=
  ⟨a.zz, fun x o e n => a.ext x o e fun m => n (hp x m), a.good, fun x m => (a.new x m).imp id (hp x), fun x m => (a.newz x m).imp id fun z => z.imp id (hp x), a.io, a.lk, a.bw, a.lb, a.ln⟩
/-- the heap grows by what nobody owns -/
theorem Good.grow (g : Good G B Z H σ env Fs) (h : Same H H') : Good G B Z H' σ env Fs :=
  ⟨g.sb.trans h, g.sz.trans h, g.len, fun i => (g.sl i).keep g.sb g.sz (g.sb.trans h) (g.sz.trans h) (Same.refl Z) fun a u e _ => h a u e, g.nd, g.dj, g.fr, g.z0⟩
theorem Stp.grow (g : Good G B Z H σ env Fs) (hp : ∀ a, InF Fs a → P a) (h : Same H H') : Stp G B Z H σ env P Z H' σ env Fs :=
  ⟨Same.refl Z, fun a o e _ => h a o e, g.grow h, fun a m => .inr (hp a m), fun _ m => .inl m, fun j d e => ⟨⟨d, e⟩, rfl⟩, fun j d e => ⟨e, rfl⟩, fun j d e => ⟨e, rfl⟩, fun j d e => ⟨e, rfl⟩, rfl⟩
theorem Tm.dom {d : D} {v : V} {F : List Addr} (t : Tm G B Z H P d v F) {a : Addr} (m : a ∈ F) : ∃ o, H a = some o := by
  obtain ⟨o, e, _⟩ := Own.dom d v F t.own a m
  exact ⟨o, e⟩
/-- a value at hand stays at hand -/
theorem Tm.step {d : D} {v : V} {F : List Addr} (t : Tm G B Z H P d v F) (pm : PMut H P) (s : Stp G B Z H σ env P Z' H' σ' env' Fs') (hp : ∀ x, P1 x → H x = none ∨ P x) : Tm G B Z' H' P1 d v F where
  own := Own.keep s.zz d v F (fun a u e m => s.ext a u e (by
    rcases m with m | nm
    · exact t.dj a m
    · exact pm.tup e nm)) t.own
  nd := t.nd
  dj := fun a m z => by
    obtain ⟨o, e⟩ := t.dom m
    rcases hp a z with q | q
    · rw [e] at q; cases q
    · exact t.dj a m q
  fr := fun a m => by
    refine ⟨(t.fr a m).1, ?_⟩
    cases q : Z' a with
    | none => rfl
    | some u =>
      obtain ⟨o, e⟩ := t.dom m
      rcases s.newz a (by rw [q]; simp) with z | z | z
      · exact absurd (t.fr a m).2 z
      · rw [e] at z; cases z
      · exact absurd z (t.dj a m)
theorem Tm.grow {d : D} {v : V} {F : List Addr} (t : Tm G B Z H P d v F) (h : Same H H') : Tm G B Z H' P d v F :=
  ⟨Own.keep (Same.refl Z) d v F (fun a u e _ => h a u e) t.own, t.nd, t.dj, t.fr⟩
theorem Tm.pure {d : D} {v : V} (h : Own G Z H d v []) : Tm G B Z H P d v [] := ⟨h, List.nodup_nil, fun a m => (by cases m), fun a m => (by cases m)⟩
/-- a borrowed value stays -/
theorem brw_step {d : D} {v : V} (h : Own G (joi B Z) H d v []) (pm : PMut H P) (s : Stp G B Z H σ env P Z' H' σ' env' Fs') : Own G (joi B Z') H' d v [] :=
  Own.keep (joi_mono (Same.refl B) s.zz s.good.sb s.good.sz) d v [] (fun a u e m => s.ext a u e (by
    rcases m with m | nm
    · cases m
    · exact pm.tup e nm)) h

/-! ### locks -/
def lock1 : Slot → Slot
  | some (.own, d) => some (.lck, d)
  | some (.io, d) => some (.lck, d)
  | s => s
def lock (i : Nat) (env : DEnv) : DEnv := env.modify i lock1
def unl1 : Slot → Slot → Slot
  | some (.own, _), some (.lck, d) => some (.own, d)
  | some (.io, _), some (.lck, d) => some (.io, d)
  | _, s => s
def unlock (e0 e : DEnv) : DEnv := List.zipWith unl1 e0 e
theorem lock_at {i j : Nat} : (lock i env)[j]? = if i = j then env[j]?.map lock1 else env[j]? := by
  unfold lock
  rw [List.getElem?_modify]
  split
  · rfl
  · simp
theorem unlock_at {e0 e : DEnv} {j : Nat} : (unlock e0 e)[j]? = match e0[j]?, e[j]? with
    | some a, some b => some (unl1 a b)
    | _, _ => none := by
  unfold unlock
  rw [List.getElem?_zipWith]
  cases e0[j]? <;> cases e[j]? <;> rfl

/-- the footprints without slot i's -/
def offF (Fs : Nat → List Addr) (i : Nat) : Nat → List Addr := fun j => if j = i then [] else Fs j
def onF (Fs : Nat → List Addr) (i : Nat) (F : List Addr) : Nat → List Addr := fun j => if j = i then F else Fs j
theorem inF_off {i : Nat} {a : Addr} (h : InF (offF Fs i) a) : InF Fs a := by
  obtain ⟨j, m⟩ := h
  unfold offF at m
  split at m
  · cases m
  · exact ⟨j, m⟩
theorem inF_on {i : Nat} {F : List Addr} {a : Addr} (h : InF (onF Fs i F) a) : a ∈ F ∨ InF Fs a := by
  obtain ⟨j, m⟩ := h
  unfold onF at m
  split at m
  · exact .inl m
  · exact .inr ⟨j, m⟩
theorem inF_on_new {i : Nat} {F : List Addr} {a : Addr} (m : a ∈ F) : InF (onF Fs i F) a := ⟨i, by unfold onF; rw [if_pos rfl]; exact m⟩

/-- B with slot i's own nodes laid in -/
def lockB (B H : Hp) (Fs : Nat → List Addr) (i : Nat) : Hp := lay B H (Fs i)
theorem lockB_le (g : Good G B Z H σ env Fs) (i : Nat) : Same (lockB B H Fs i) H := lay_le g.sb
theorem lockB_up (g : Good G B Z H σ env Fs) (i : Nat) : Same B (lockB B H Fs i) := lay_up g.sb

theorem Good.lock (g : Good G B Z H σ env Fs) (i : Nat) : Good G (lockB B H Fs i) Z H σ (lock i env) (offF Fs i) where
  sb := lockB_le g i
  sz := g.sz
  z0 := g.z0
  len := by unfold DL.lock; rw [List.length_modify]; exact g.len
  sl := fun j => by
    have j1 : Same (joi B Z) (joi (lockB B H Fs i) Z) := joi_mono (lockB_up g i) (Same.refl Z) (lockB_le g i) g.sz
    have z1 : Same Z (joi (lockB B H Fs i) Z) := joi_right (lockB_le g i) g.sz
    have h := g.sl j
    have k0 : ∀ a u, H a = some u → (a ∈ ([] : List Addr) ∨ Still u) → H a = some u := fun a u e _ => e
    rw [lock_at]
    by_cases e : i = j
    · subst e
      rw [if_pos rfl]
      have eo : offF Fs i i = [] := by unfold offF; rw [if_pos rfl]
      rw [eo]
      have kf : ∀ b u, b ∈ Fs i → H b = some u → joi (lockB B H Fs i) Z b = some u := fun b u m q => joi_left b u (by unfold lockB; rw [lay_in m]; exact q)
      unfold SlotOk at h ⊢
      match hs : env[i]?, h with
      | some (some (.own, d)), h => obtain ⟨v, e, h⟩ := h; exact ⟨v, e, Own.freeze z1 d v _ kf h, rfl⟩
      | some (some (.io, d)), h => obtain ⟨v, e, h⟩ := h; exact ⟨v, e, Own.freeze z1 d v _ kf h, rfl⟩
      | some (some (.shr, d)), h => obtain ⟨v, e, h, f⟩ := h; exact ⟨v, e, h, rfl⟩
      | some (some (.brw, d)), h => obtain ⟨v, e, h, f⟩ := h; exact ⟨v, e, Own.keep j1 d v [] k0 h, rfl⟩
      | some (some (.lck, d)), h => obtain ⟨v, e, h, f⟩ := h; exact ⟨v, e, Own.keep j1 d v [] k0 h, rfl⟩
      | some none, h => rfl
      | none, h => rfl
    · rw [if_neg e]
      have eo : offF Fs i j = Fs j := by unfold offF; rw [if_neg (fun z => e z.symm)]
      rw [eo]
      unfold SlotOk at h ⊢
      match hs : env[j]?, h with
      | some (some (.own, d)), h => exact h
      | some (some (.io, d)), h => exact h
      | some (some (.shr, d)), h => exact h
      | some (some (.brw, d)), h => obtain ⟨v, e, h, f⟩ := h; exact ⟨v, e, Own.keep j1 d v [] k0 h, f⟩
      | some (some (.lck, d)), h => obtain ⟨v, e, h, f⟩ := h; exact ⟨v, e, Own.keep j1 d v [] k0 h, f⟩
      | some none, h => exact h
      | none, h => exact h
  nd := fun j => by unfold offF; split; exact List.nodup_nil; exact g.nd j
  dj := fun j k a m n => by
    unfold offF at m n
    split at m
    · cases m
    · split at n
      · cases n
      · exact g.dj j k a m n
  fr := fun j a m => by
    unfold offF at m
    split at m
    · cases m
    · rename_i e
      refine ⟨?_, (g.fr j a m).2⟩
      unfold lockB
      rw [lay_out fun n => e (g.dj j i a m n)]
      exact (g.fr j a m).1

/-- .. and back, behind a step of the locked state -/
theorem unl1_own {d : D} {b : Slot} : unl1 (some (.own, d)) b = match b with
    | some (.lck, d') => some (.own, d')
    | s => s := by
  match b with
  | none => rfl
  | some (.own, _) => rfl
  | some (.io, _) => rfl
  | some (.shr, _) => rfl
  | some (.brw, _) => rfl
  | some (.lck, _) => rfl
/-- a slot of a locked state, seen without the lock -/
theorem SlotOk.unlk {B1 : Hp} {x y : Option (Option V)} {s : Option Slot} {s0 : Option Slot} {F F0 : List Addr} (h : SlotOk G B1 Z' H' x s F) (h0 : SlotOk G B Z H y s0 F0) (zz : Same Z Z') (sb' : Same B H') (sz' : Same Z' H')
    (kt : ∀ a u, H a = some u → Still u → H' a = some u) (hb : ∀ d, s = some (some (.brw, d)) → s0 = some (some (.brw, d)) ∧ x = y) (hl : ∀ d, s = some (some (.lck, d)) → s0 = some (some (.lck, d)) ∧ x = y) : SlotOk G B Z' H' x s F := by
  have kk : ∀ (a : Addr) (u : HO), H a = some u → (a ∈ ([] : List Addr) ∨ Still u) → H' a = some u := fun a u e m => by
    rcases m with m | nm
    · cases m
    · exact kt a u e nm
  unfold SlotOk at h ⊢
  match s, h, hb, hl with
  | some (some (.own, d)), h, _, _ => exact h
  | some (some (.io, d)), h, _, _ => exact h
  | some (some (.shr, d)), h, _, _ => exact h
  | some (some (.brw, d)), h, hb, _ =>
    obtain ⟨v, ev, _, f⟩ := h
    obtain ⟨q, exy⟩ := hb d rfl
    rw [q] at h0
    obtain ⟨u, eu, hu, _⟩ := h0
    rw [← exy, ev] at eu
    have euv : v = u := Option.some.inj (Option.some.inj eu)
    subst euv
    exact ⟨v, ev, Own.keep (joi_mono (Same.refl B) zz sb' sz') d v [] kk hu, f⟩
  | some (some (.lck, d)), h, _, hl =>
    obtain ⟨v, ev, _, f⟩ := h
    obtain ⟨q, exy⟩ := hl d rfl
    rw [q] at h0
    obtain ⟨u, eu, hu, _⟩ := h0
    rw [← exy, ev] at eu
    have euv : v = u := Option.some.inj (Option.some.inj eu)
    subst euv
    exact ⟨v, ev, Own.keep (joi_mono (Same.refl B) zz sb' sz') d v [] kk hu, f⟩
  | some none, h, _, _ => exact h
  | none, h, _, _ => exact h

/-- slot i's own nodes, given back -/
def backF (env : DEnv) (Fs F2 : Nat → List Addr) (i : Nat) : Nat → List Addr := fun j => if j = i then (match env[i]? with
  | some (some (.own, _)) => Fs i
  | some (some (.io, _)) => Fs i
  | _ => F2 i) else F2 j
theorem backF_ne {F2 : Nat → List Addr} {i j : Nat} (h : j ≠ i) : backF env Fs F2 i j = F2 j := by
  unfold backF
  rw [if_neg h]
theorem backF_same {F2 : Nat → List Addr} {i : Nat} : backF env Fs F2 i i = (match env[i]? with
  | some (some (.own, _)) => Fs i
  | some (some (.io, _)) => Fs i
  | _ => F2 i) := by
  unfold backF
  rw [if_pos rfl]
theorem backF_mem {F2 : Nat → List Addr} {i j : Nat} {a : Addr} (h : a ∈ backF env Fs F2 i j) : (j = i ∧ a ∈ Fs i) ∨ a ∈ F2 j := by
  by_cases e : j = i
  · subst e
    rw [backF_same] at h
    split at h
    · exact .inl ⟨rfl, h⟩
    · exact .inl ⟨rfl, h⟩
    · exact .inr h
  · rw [backF_ne e] at h
    exact .inr h
theorem lock_none {i : Nat} (h : ∀ d, env[i]? ≠ some (some (.own, d)) ∧ env[i]? ≠ some (some (.io, d))) : lock i env = env := by
  apply List.ext_getElem?
  intro j
  rw [lock_at]
  split
  · rename_i e
    subst e
    cases q : env[i]? with
    | none => rfl
    | some s =>
      match s with
      | none => rfl
      | some (.own, d) => exact absurd q (h d).1
      | some (.io, d) => exact absurd q (h d).2
      | some (.shr, d) => rfl
      | some (.brw, d) => rfl
      | some (.lck, d) => rfl
  · rfl
theorem Stp.unlock {i : Nat} {Z2 H2 : Hp} {σ2 : L2.St} {e2 : DEnv} {F2 : Nat → List Addr} (g : Good G B Z H σ env Fs) (pm : PMut H P') (hp : ∀ a, P' a → P a ∧ a ∉ Fs i) (hi : ∀ a, a ∈ Fs i → P a) (s : Stp G (lockB B H Fs i) Z H σ (DL.lock i env) P' Z2 H2 σ2 e2 F2) :
    Stp G B Z H σ env P Z2 H2 σ2 (DL.unlock env e2) (backF env Fs F2 i) := by
  have gl := s.good
  have keepi : ∀ a o, a ∈ Fs i → H a = some o → H2 a = some o := fun a o m e => gl.sb a o (by unfold lockB; rw [lay_in m]; exact e)
  have keept : ∀ a u, H a = some u → Still u → H2 a = some u := fun a u e st => s.ext a _ e (pm.tup e st)
  have frz2 : ∀ a, a ∈ Fs i → Z2 a = none := fun a m => by
    cases q : Z2 a with
    | none => rfl
    | some u =>
      rcases s.newz a (by rw [q]; simp) with z | z | z
      · exact absurd (g.fr i a m).2 z
      · obtain ⟨o, e, _⟩ := g.dom ⟨i, m⟩
        rw [e] at z; cases z
      · exact absurd m (hp a z).2
  have ndi : ∀ a, a ∈ Fs i → ∀ j, a ∉ F2 j := fun a m j n => by
    rcases s.new a ⟨j, n⟩ with z | z
    · obtain ⟨o, e, _⟩ := g.dom ⟨i, m⟩
      rw [e] at z; cases z
    · exact absurd m (hp a z).2
  have sb2 : Same B H2 := (lockB_up g i).trans gl.sb
  have llk : (DL.lock i env).length = env.length := by unfold DL.lock; rw [List.length_modify]
  have ln2 : e2.length = env.length := s.ln.trans llk
  have lke : ∀ (j : Nat), j ≠ i → (DL.lock i env)[j]? = env[j]? := fun j h => by rw [lock_at, if_neg (fun z => h z.symm)]
  -- the slots, seen without the lock
  have seen : ∀ (j : Nat), (∀ d, e2[j]? = some (some (.lck, d)) → env[j]? = some (some (.lck, d))) → SlotOk G B Z2 H2 σ2[j]? e2[j]? (F2 j) := fun j hj => by
    refine (gl.sl j).unlk (g.sl j) s.zz sb2 gl.sz keept (fun d e => ?_) fun d e => ⟨hj d e, (s.lb j d e).2⟩
    obtain ⟨q, es⟩ := s.bw j d e
    refine ⟨?_, es⟩
    rw [lock_at] at q
    split at q
    · cases h : env[j]? with
      | none => rw [h] at q; cases q
      | some sl =>
        rw [h] at q
        match sl, q with
        | some (.brw, d'), q => exact q
    · exact q
  have un : ∀ (j : Nat), (DL.unlock env e2)[j]? = match env[j]?, e2[j]? with
    | some a, some b => some (unl1 a b)
    | _, _ => none := fun j => unlock_at
  -- where nothing is unlocked
  have same_at : ∀ (j : Nat), (j ≠ i ∨ ∀ d, env[i]? ≠ some (some (.own, d)) ∧ env[i]? ≠ some (some (.io, d))) → (DL.unlock env e2)[j]? = e2[j]? ∧ ∀ d, e2[j]? = some (some (.lck, d)) → env[j]? = some (some (.lck, d)) := fun j hj => by
    have el : (DL.lock i env)[j]? = env[j]? := by
      rcases hj with h | h
      · exact lke j h
      · rw [lock_none h]
    have hl : ∀ d, e2[j]? = some (some (.lck, d)) → env[j]? = some (some (.lck, d)) := fun d e => by
      have q := (s.lb j d e).1
      rw [el] at q
      exact q
    refine ⟨?_, hl⟩
    rw [un]
    cases h1 : env[j]? with
    | none =>
      have : e2[j]? = none := List.getElem?_eq_none_iff.mpr (by rw [ln2]; exact List.getElem?_eq_none_iff.mp h1)
      rw [this]
    | some a =>
      cases h2 : e2[j]? with
      | none => rfl
      | some b =>
        show some (unl1 a b) = some b
        match b, h2 with
        | none, _ => match a with
          | none => rfl
          | some (.own, _) => rfl
          | some (.io, _) => rfl
          | some (.shr, _) => rfl
          | some (.brw, _) => rfl
          | some (.lck, _) => rfl
        | some (.lck, d), h2 =>
          have q := hl d h2
          rw [h1] at q
          cases q
          rfl
        | some (.own, _), _ => match a with
          | none => rfl
          | some (.own, _) => rfl
          | some (.io, _) => rfl
          | some (.shr, _) => rfl
          | some (.brw, _) => rfl
          | some (.lck, _) => rfl
        | some (.io, _), _ => match a with
          | none => rfl
          | some (.own, _) => rfl
          | some (.io, _) => rfl
          | some (.shr, _) => rfl
          | some (.brw, _) => rfl
          | some (.lck, _) => rfl
        | some (.shr, _), _ => match a with
          | none => rfl
          | some (.own, _) => rfl
          | some (.io, _) => rfl
          | some (.shr, _) => rfl
          | some (.brw, _) => rfl
          | some (.lck, _) => rfl
        | some (.brw, _), _ => match a with
          | none => rfl
          | some (.own, _) => rfl
          | some (.io, _) => rfl
          | some (.shr, _) => rfl
          | some (.brw, _) => rfl
          | some (.lck, _) => rfl
  -- the unlocked slot
  have at_i : ∀ (m : Md) (d : D), env[i]? = some (some (m, d)) → m.mut = true → e2[i]? = some (some (.lck, d)) ∧ σ2[i]? = σ[i]? ∧ (DL.unlock env e2)[i]? = some (some (m, d)) ∧ backF env Fs F2 i i = Fs i := fun m d e hm => by
    have q := s.lk i d (by
      rw [lock_at, if_pos rfl, e]
      cases m <;> first | rfl | cases hm)
    refine ⟨q.1, q.2, ?_, ?_⟩
    · rw [un, e, q.1]
      cases m <;> first | rfl | cases hm
    · rw [backF_same, e]
      cases m <;> first | rfl | cases hm
  have dec : (∃ m d, env[i]? = some (some (m, d)) ∧ m.mut = true) ∨ ∀ d, env[i]? ≠ some (some (.own, d)) ∧ env[i]? ≠ some (some (.io, d)) := by
    by_cases h : ∃ m d, env[i]? = some (some (m, d)) ∧ m.mut = true
    · exact .inl h
    · exact .inr fun d => ⟨fun e => h ⟨.own, d, e, rfl⟩, fun e => h ⟨.io, d, e, rfl⟩⟩
  have back_else : (∀ d, env[i]? ≠ some (some (.own, d)) ∧ env[i]? ≠ some (some (.io, d))) → backF env Fs F2 i i = F2 i := fun h => by
    rw [backF_same]
    split
    · rename_i d q; exact absurd q (h d).1
    · rename_i d q; exact absurd q (h d).2
    · rfl
  refine ⟨s.zz, fun a o e n => s.ext a o e fun m => n (hp a m).1, ⟨sb2, gl.sz, ?_, fun j => ?_, fun j => ?_, fun j k a m n => ?_, fun j a m => ?_, gl.z0⟩, fun a m => ?_, fun a m => ?_, fun j d e => ?_, fun j d e => ?_, fun j d e => ?_, fun j d e => ?_, ?_⟩
  · unfold DL.unlock
    rw [List.length_zipWith, ln2, ← ln2, Nat.min_self]
    exact gl.len
  · by_cases hj : j = i
    · subst hj
      rcases dec with ⟨m, d, e, hm⟩ | h
      · obtain ⟨q1, q2, q3, q4⟩ := at_i m d e hm
        rw [q3, q4, q2]
        have h0 := g.sl j
        rw [e] at h0
        have kk : ∀ (a : Addr) (u : HO), H a = some u → (a ∈ Fs j ∨ Still u) → H2 a = some u := fun a u e m => by
          rcases m with m | nm
          · exact keepi a u m e
          · exact keept a u e nm
        cases m with
        | own => obtain ⟨v, ev, hv⟩ := h0; exact ⟨v, ev, Own.keep s.zz d v _ kk hv⟩
        | io => obtain ⟨v, ev, hv⟩ := h0; exact ⟨v, ev, Own.keep s.zz d v _ kk hv⟩
        | shr => cases hm
        | brw => cases hm
        | lck => cases hm
      · obtain ⟨q1, q2⟩ := same_at j (.inr h)
        rw [q1, back_else h]
        exact seen j q2
    · obtain ⟨q1, q2⟩ := same_at j (.inl hj)
      rw [q1, backF_ne hj]
      exact seen j q2
  · by_cases hj : j = i
    · subst hj
      rcases dec with ⟨m, d, e, hm⟩ | h
      · rw [(at_i m d e hm).2.2.2]; exact g.nd j
      · rw [back_else h]; exact gl.nd j
    · rw [backF_ne hj]; exact gl.nd j
  · rcases backF_mem m with ⟨ej, m2⟩ | m2
    · rcases backF_mem n with ⟨ek, n2⟩ | n2
      · rw [ej, ek]
      · exact absurd n2 (ndi a m2 k)
    · rcases backF_mem n with ⟨ek, n2⟩ | n2
      · exact absurd m2 (ndi a n2 j)
      · exact gl.dj j k a m2 n2
  · rcases backF_mem m with ⟨rfl, m⟩ | m
    · exact ⟨(g.fr j a m).1, frz2 a m⟩
    · have q := gl.fr j a m
      refine ⟨?_, q.2⟩
      cases h : B a with
      | none => rfl
      | some u =>
        have := lockB_up g i a u h
        rw [this] at q
        cases q.1
  · obtain ⟨j, m⟩ := m
    rcases backF_mem m with ⟨rfl, m⟩ | m
    · exact .inr (hi a m)
    · rcases s.new a ⟨j, m⟩ with z | z
      · exact .inl z
      · exact .inr (hp a z).1
  · rcases s.newz a m with z | z | z
    · exact .inl z
    · exact .inr (.inl z)
    · exact .inr (.inr (hp a z).1)
  · by_cases hj : j = i
    · subst hj
      obtain ⟨q1, q2, q3, q4⟩ := at_i .io d e rfl
      exact ⟨⟨d, q3⟩, q2⟩
    · obtain ⟨⟨d', q⟩, es⟩ := s.io j d (by rw [lke j hj]; exact e)
      exact ⟨⟨d', by rw [(same_at j (.inl hj)).1]; exact q⟩, es⟩
  · have nm : ∀ d', env[j]? ≠ some (some (.own, d')) ∧ env[j]? ≠ some (some (.io, d')) := fun d' => by rw [e]; exact ⟨fun z => (by cases z), fun z => (by cases z)⟩
    have q := s.lk j d (by
      by_cases hj : j = i
      · subst hj; rw [lock_none nm]; exact e
      · rw [lke j hj]; exact e)
    refine ⟨?_, q.2⟩
    by_cases hj : j = i
    · subst hj; rw [(same_at j (.inr nm)).1]; exact q.1
    · rw [(same_at j (.inl hj)).1]; exact q.1
  · by_cases hj : j = i
    · subst hj
      rcases dec with ⟨m, d', e', hm⟩ | h
      · rw [(at_i m d' e' hm).2.2.1] at e
        cases e
        cases hm
      · rw [(same_at j (.inr h)).1] at e
        have q := s.bw j d e
        rw [lock_none h] at q
        exact q
    · rw [(same_at j (.inl hj)).1] at e
      have q := s.bw j d e
      rw [lke j hj] at q
      exact q
  · by_cases hj : j = i
    · subst hj
      rcases dec with ⟨m, d', e', hm⟩ | h
      · rw [(at_i m d' e' hm).2.2.1] at e
        cases e
        cases hm
      · rw [(same_at j (.inr h)).1] at e
        have q := s.lb j d e
        rw [lock_none h] at q
        exact q
    · rw [(same_at j (.inl hj)).1] at e
      have q := s.lb j d e
      rw [lke j hj] at q
      exact q
  · unfold DL.unlock
    rw [List.length_zipWith, ln2, Nat.min_self]
end
end DL

namespace DL
open PySem PySem.Spec PyProof.Rows L2

abbrev Wsh := Str → Hp → Prop

/-- behind an evaluation: the state, and what it hands on (the value, and what io arguments have become) -/
structure Post (G : Gc) (B Z H : Hp) (σ : L2.St) (env : DEnv) (P : Addr → Prop) (Z' H' : Hp) (env' : DEnv) (Fs' : Nat → List Addr) (ds : List D) (vs : List V) (F : List Addr) : Prop where
  st : Stp G B Z H σ env P Z' H' σ env' Fs'
  own : OwnL G Z' H' ds vs F
  nd : F.Nodup
  dj : ∀ a, a ∈ F → ¬ InF Fs' a
  fr : ∀ a, a ∈ F → B a = none ∧ Z' a = none
  new : ∀ a, a ∈ F → H a = none ∨ P a

def FinO (G : Gc) (W : Wsh) (B Z H : Hp) (σ : L2.St) (env : DEnv) (P : Addr → Prop) (ios : List V) (o : Out (D × List D × DEnv)) (Q : VK) : Prop := match o with
  | .ok (d, outs, env') => ∀ v Z' H' Fs' F, Post G B Z H σ env P Z' H' env' Fs' (d :: outs) (v :: ios) F → Q v H'
  | .exc c => ∀ H', Same B H' → W c H'
  | .bad => False
def FinV (G : Gc) (W : Wsh) (B Z H : Hp) (σ : L2.St) (env : DEnv) (P : Addr → Prop) (o : Out (D × DEnv)) (Q : VK) : Prop := match o with
  | .ok (d, env') => ∀ v Z' H' Fs' F, Post G B Z H σ env P Z' H' env' Fs' [d] [v] F → Q v H'
  | .exc c => ∀ H', Same B H' → W c H'
  | .bad => False
/-- an expression that hands on a value of its own -/
def TV (G : Gc) (W : Wsh) (f : DEnv → Out (D × DEnv)) : TE := fun σ H Q => ∃ B Z Fs env, Good G B Z H σ env Fs ∧ FinV G W B Z H σ env (InF Fs) (f env) Q
/-- an expression that changes nothing that stands, and hands on pure data -/
def TPur (G : Gc) (h : DEnv → Option D) : TE := fun σ H Q => ∃ B Z Fs env, Good G B Z H σ env Fs ∧ ∃ d, h env = some d ∧ ∀ v H', Same H H' → d.pure = true → (∀ Z', Own G Z' H' d v []) → Q v H'
/-- a place in slot i: read -/
def TPlc (G : Gc) (i : Nat) (g : DEnv → Option D) : TE := fun σ H Q => ∃ B Z Fs env, Good G B Z H σ env Fs ∧ ∃ d, g env = some d ∧ ∀ v H', Same H H' → Own G (joi (lockB B H' Fs i) Z) H' d v [] → Q v H'
/-- slot j's own value, handed over for a while -/
def TIo (j : Nat) : TE := tVar j

theorem _root_.L2.PE.imp {X : Cx} {e : Expr} {t t' : TE} (h : PE X e t) (i : ∀ σ H Q, t' σ H Q → t σ H Q) : PE X e t' := ⟨fun pins s σ H Q I hq => h.run pins s σ H Q I (i σ H Q hq)⟩

/-- a whole number -/
def TInt (G : Gc) (h : DEnv → Option D) : TE := fun σ H Q => ∃ B Z Fs env, Good G B Z H σ env Fs ∧ ∃ i, h env = some (.int i) ∧ ∀ H', Same H H' → Q (.int i) H'
def onlyInt : D → Option D
  | .int i => some (.int i)
  | _ => none
theorem onlyInt_some {d e : D} (h : onlyInt d = some e) : ∃ i, d = .int i ∧ e = .int i := by
  cases d <;> first | (cases h; exact ⟨_, rfl, rfl⟩) | cases h
/-- .. of a kind -/
def TPlcT (G : Gc) (i : Nat) (g : DEnv → Option D) (T : D → Bool) : TE := fun σ H Q => ∃ B Z Fs env, Good G B Z H σ env Fs ∧ ∃ d, g env = some d ∧ T d = true ∧ ∀ v H', Same H H' → Own G (joi (lockB B H' Fs i) Z) H' d v [] → Q v H'
def TPurT (G : Gc) (h : DEnv → Option D) (T : D → Bool) : TE := fun σ H Q => ∃ B Z Fs env, Good G B Z H σ env Fs ∧ ∃ d, h env = some d ∧ T d = true ∧ ∀ v H', Same H H' → d.pure = true → (∀ Z', Own G Z' H' d v []) → Q v H'
inductive SArg where
  | pur (h : DEnv → Option D)
  | plc (i : Nat) (g : DEnv → Option D)
  | int (h : DEnv → Option D)
  | plt (i : Nat) (g : DEnv → Option D) (T : D → Bool)
  | put (h : DEnv → Option D) (T : D → Bool)
def onlyT (T : D → Bool) (d : D) : Option D := if T d = true then some d else none
theorem onlyT_some {T : D → Bool} {d e : D} (h : onlyT T d = some e) : d = e ∧ T d = true := by
  unfold onlyT at h
  split at h
  · rename_i ht; exact ⟨Option.some.inj h, ht⟩
  · cases h
def SArg.val : SArg → DEnv → Option D
  | .pur h => h
  | .plc _ g => g
  | .int h => fun env => match h env with
    | some d => onlyInt d
    | none => none
  | .plt _ g T => fun env => match g env with
    | some d => onlyT T d
    | none => none
  | .put h T => fun env => match h env with
    | some d => onlyT T d
    | none => none
def SArg.te (G : Gc) : SArg → TE
  | .pur h => TPur G h
  | .plc i g => TPlc G i g
  | .int h => TInt G h
  | .plt i g T => TPlcT G i g T
  | .put h T => TPurT G h T
theorem TV.mono {G : Gc} {W : Wsh} {f : DEnv → Out (D × DEnv)} {σ : L2.St} {H : Hp} {Q Q' : VK} (h : ∀ v H, Q v H → Q' v H) (t : TV G W f σ H Q) : TV G W f σ H Q' := by
  obtain ⟨B, Z, Fs, env, g, q⟩ := t
  refine ⟨B, Z, Fs, env, g, ?_⟩
  unfold FinV at q ⊢
  match f env, q with
  | .ok (d, e), q => exact fun v Z' H' Fs' F p => h _ _ (q v Z' H' Fs' F p)
  | .exc c, q => exact q
theorem SArg.mono {G : Gc} {a : SArg} {σ : L2.St} {H : Hp} {Q Q' : VK} (h : ∀ v H, Q v H → Q' v H) (t : a.te G σ H Q) : a.te G σ H Q' := by
  cases a with
  | pur f => obtain ⟨B, Z, Fs, env, g, d, hd, q⟩ := t; exact ⟨B, Z, Fs, env, g, d, hd, fun v H' hs hp ho => h _ _ (q v H' hs hp ho)⟩
  | plc i f => obtain ⟨B, Z, Fs, env, g, d, hd, q⟩ := t; exact ⟨B, Z, Fs, env, g, d, hd, fun v H' hs ho => h _ _ (q v H' hs ho)⟩
  | int f => obtain ⟨B, Z, Fs, env, g, d, hd, q⟩ := t; exact ⟨B, Z, Fs, env, g, d, hd, fun H' hs => h _ _ (q H' hs)⟩
  | plt i f T => obtain ⟨B, Z, Fs, env, g, d, hd, ht, q⟩ := t; exact ⟨B, Z, Fs, env, g, d, hd, ht, fun v H' hs ho => h _ _ (q v H' hs ho)⟩
  | put f T => obtain ⟨B, Z, Fs, env, g, d, hd, ht, q⟩ := t; exact ⟨B, Z, Fs, env, g, d, hd, ht, fun v H' hs hp ho => h _ _ (q v H' hs hp ho)⟩
/-- arguments that change nothing -/
def evS : List SArg → DEnv → Option (List D)
  | [], _ => some []
  | a :: r, env => match a.val env with
    | some d => match evS r env with
      | some ds => some (d :: ds)
      | none => none
    | none => none
/-- what must be there -/
def must {α β : Type} (x : Option α) (f : α → Out β) : Out β := match x with
  | some a => f a
  | none => .bad
@[simp] theorem must_some {α β : Type} (a : α) (f : α → Out β) : must (some a) f = f a := rfl
@[simp] theorem must_none {α β : Type} (f : α → Out β) : must none f = .bad := rfl
inductive Chn where
  | fin (hs : List SArg)
  | own (f : DEnv → Out (D × DEnv)) (c : Chn)
  | pur (h : DEnv → Option D) (c : Chn)
  | plc (i : Nat) (g : DEnv → Option D) (c : Chn)
  | io (j : Nat) (c : Chn)
def Chn.tes (G : Gc) (W : Wsh) : Chn → List TE
  | .fin hs => hs.map (SArg.te G)
  | .own f c => TV G W f :: c.tes G W
  | .pur h c => TPur G h :: c.tes G W
  | .plc i g c => TPlc G i g :: c.tes G W
  | .io j c => TIo j :: c.tes G W
/-- which arguments are changed -/
def Chn.iofs : Chn → List Bool
  | .fin hs => hs.map fun _ => false
  | .own _ c => false :: c.iofs
  | .pur _ c => false :: c.iofs
  | .plc _ _ c => false :: c.iofs
  | .io _ c => true :: c.iofs
/-- their values, the last one first -/
def ioV : List Bool → List V → List V
  | true :: fl, v :: vs => ioV fl vs ++ [v]
  | false :: fl, _ :: vs => ioV fl vs
  | _, _ => []
theorem ioV_snoc : ∀ (fl : List Bool) (vs : List V) (b : Bool) (v : V), fl.length = vs.length → ioV (fl ++ [b]) (vs ++ [v]) = if b = true then v :: ioV fl vs else ioV fl vs
  | [], [], true, v, _ => rfl
  | [], [], false, v, _ => rfl
  | true :: fl, w :: vs, b, v, h => by
    show ioV (fl ++ [b]) (vs ++ [v]) ++ [w] = _
    rw [ioV_snoc fl vs b v (by simpa using h)]
    cases b <;> rfl
  | false :: fl, w :: vs, b, v, h => by
    show ioV (fl ++ [b]) (vs ++ [v]) = _
    rw [ioV_snoc fl vs b v (by simpa using h)]
    cases b <;> rfl
theorem ioV_none : ∀ (fl : List Bool) (vs : List V), fl.any id = false → ioV fl vs = []
  | [], _, _ => by unfold ioV; rfl
  | true :: fl, _, h => by simp at h
  | false :: fl, [], _ => rfl
  | false :: fl, v :: vs, h => by
    show ioV fl vs = []
    exact ioV_none fl vs (by simpa using h)
theorem ioV_false : ∀ (fl : List Bool) (vs us : List V) (n : Nat), fl.length = vs.length → ioV (fl ++ List.replicate n false) (vs ++ us) = ioV fl vs
  | [], [], us, n, _ => by
    show ioV (List.replicate n false) us = []
    exact ioV_none _ _ (by simp)
  | true :: fl, w :: vs, us, n, h => by
    show ioV (fl ++ List.replicate n false) (vs ++ us) ++ [w] = ioV fl vs ++ [w]
    rw [ioV_false fl vs us n (by simpa using h)]
  | false :: fl, w :: vs, us, n, h => by
    show ioV (fl ++ List.replicate n false) (vs ++ us) = ioV fl vs
    rw [ioV_false fl vs us n (by simpa using h)]
/-- how an argument comes: owned, or only read -/
def SArg.kinds : List SArg → List Bool
  | [] => []
  | .pur _ :: r => true :: SArg.kinds r
  | .int _ :: r => true :: SArg.kinds r
  | .plc _ _ :: r => false :: SArg.kinds r
  | .plt _ _ _ :: r => false :: SArg.kinds r
  | .put _ _ :: r => true :: SArg.kinds r
def Chn.kinds : Chn → List Bool
  | .fin hs => SArg.kinds hs
  | .own _ c => true :: c.kinds
  | .pur _ c => true :: c.kinds
  | .plc _ _ c => false :: c.kinds
  | .io _ c => true :: c.kinds
abbrev Kn := List D → DEnv → Out (D × List D × DEnv)
def evC : Chn → Kn → DEnv → Out (D × List D × DEnv)
  | .fin hs, k, env => must (evS hs env) fun ds => k ds env
  | .own f c, k, env => f env >>= fun p => evC c (fun ds e => k (p.1 :: ds) e) p.2
  | .pur h c, k, env => must (h env) fun d => evC c (fun ds e => k (d :: ds) e) env
  | .plc i g c, k, env => must (g env) fun d => evC c (fun ds e => k (d :: ds) e) (lock i env) >>= fun q => .ok (q.1, q.2.1, unlock env q.2.2)
  | .io j c, k, env => match env[j]? with
    | some (some (m, d)) => if m.mut = true then evC c (fun ds e => k (d :: ds) e) (env.set j none) >>= fun q => match q.2.1 with
        | o :: os => .ok (q.1, os, q.2.2.set j (some (m, o)))
        | [] => .bad
      else .bad
    | _ => .bad
def seqTE : List TE → L2.St → Hp → (List V → Hp → Prop) → Prop
  | [] => tNil
  | t :: ts => tCons t (seqTE ts)

/-- values at hand: owned ones (in Z), and such as are read in Y -/
def OwnT (G : Gc) (Y Z H : Hp) : List (Bool × D) → List V → List Addr → Prop
  | [], vs, F => vs = [] ∧ F = []
  | (o, d) :: r, vs, F => ∃ v rest F1 F2, vs = v :: rest ∧ F = F1 ++ F2 ∧ (match o with
      | true => Own G Z H d v F1
      | false => Own G Y H d v [] ∧ F1 = []) ∧ OwnT G Y Z H r rest F2

section
variable {G : Gc} {W : Wsh} {B Z H Z' H' Y Y' : Hp} {σ : L2.St} {env env' : DEnv} {Fs Fs' : Nat → List Addr} {P P' P1 : Addr → Prop}
theorem OwnT.snoc : ∀ {its : List (Bool × D)} {vs : List V} {F F1 : List Addr} {o : Bool} {d : D} {v : V}, OwnT G Y Z H its vs F → (match o with
      | true => Own G Z H d v F1
      | false => Own G Y H d v [] ∧ F1 = []) → OwnT G Y Z H (its ++ [(o, d)]) (vs ++ [v]) (F ++ F1)
  | [], vs, F, F1, o, d, v, h, h1 => by
    obtain ⟨rfl, rfl⟩ := h
    exact ⟨v, [], F1, [], rfl, by simp, h1, rfl, rfl⟩
  | (o', d') :: r, vs, F, F1, o, d, v, h, h1 => by
    obtain ⟨v', rest, F2, F3, rfl, rfl, h2, h3⟩ := h
    exact ⟨v', rest ++ [v], F2, F3 ++ F1, rfl, by rw [List.append_assoc], h2, OwnT.snoc h3 h1⟩
theorem OwnT.keep (hy : Same Y Y') (hz : Same Z Z') : ∀ {its : List (Bool × D)} {vs : List V} {F : List Addr}, (∀ b u, H b = some u → (b ∈ F ∨ Still u) → H' b = some u) → OwnT G Y Z H its vs F → OwnT G Y' Z' H' its vs F
  | [], _, _, _, h => h
  | (o, d) :: r, vs, F, k, h => by
    obtain ⟨v', rest, F2, F3, rfl, rfl, h2, h3⟩ := h
    refine ⟨v', rest, F2, F3, rfl, rfl, ?_, OwnT.keep hy hz (fun b u e m => k b u e (m.imp (fun z => List.mem_append_right _ z) id)) h3⟩
    cases o with
    | true => exact Own.keep hz d v' F2 (fun b u e m => k b u e (m.imp (fun z => List.mem_append_left _ z) id)) h2
    | false => exact ⟨Own.keep hy d v' [] (fun b u e m => k b u e (m.imp (fun z => by cases z) id)) h2.1, h2.2⟩
theorem OwnT.dom : ∀ {its : List (Bool × D)} {vs : List V} {F : List Addr}, OwnT G Y Z H its vs F → ∀ a ∈ F, ∃ o, H a = some o ∧ Mut (some o)
  | [], _, _, h => fun a m => by rw [h.2] at m; cases m
  | (o, d) :: r, vs, F, h => by
    obtain ⟨v', rest, F2, F3, rfl, rfl, h2, h3⟩ := h
    intro a m
    rcases List.mem_append.mp m with m | m
    · cases o with
      | true => exact Own.dom d v' F2 h2 a m
      | false => rw [h2.2] at m; cases m
    · exact OwnT.dom h3 a m
/-- all are read in the whole heap -/
theorem OwnT.reps (hy : Same Y H) (hz : Same Z H) : ∀ {its : List (Bool × D)} {vs : List V} {F : List Addr}, OwnT G Y Z H its vs F → OwnL G H H (its.map (·.2)) vs []
  | [], _, _, h => ⟨h.1, rfl⟩
  | (o, d) :: r, vs, F, h => by
    obtain ⟨v', rest, F2, F3, rfl, rfl, h2, h3⟩ := h
    refine OwnL.cons_nil ?_ (OwnT.reps hy hz h3)
    cases o with
    | true => exact Own.rep hz d v' F2 h2
    | false => exact Own.rep hy d v' [] h2.1
theorem OwnT.vlen : ∀ {its : List (Bool × D)} {vs : List V} {F : List Addr}, OwnT G Y Z H its vs F → vs.length = its.length
  | [], _, _, h => by rw [h.1]; rfl
  | (o, d) :: r, vs, F, h => by
    obtain ⟨v', rest, F2, F3, rfl, rfl, h2, h3⟩ := h
    rw [List.length_cons, List.length_cons, OwnT.vlen h3]

/-- the values at hand, apart from all else -/
structure Hand (G : Gc) (B Z H Y : Hp) (Fs : Nat → List Addr) (its : List (Bool × D)) (vs : List V) (T : List Addr) : Prop where
  own : OwnT G Y Z H its vs T
  nd : T.Nodup
  dj : ∀ a, a ∈ T → ¬ InF Fs a
  fr : ∀ a, a ∈ T → B a = none ∧ Z a = none
def PT_ (Fs : Nat → List Addr) (T : List Addr) : Addr → Prop := fun a => InF Fs a ∨ a ∈ T
theorem Hand.pm {its : List (Bool × D)} {vs : List V} {T : List Addr} (h : Hand G B Z H Y Fs its vs T) (g : Good G B Z H σ env Fs) : PMut H (PT_ Fs T) := fun a m => m.elim (fun z => g.dom z) fun z => h.own.dom a z
/-- what is wanted at the end, seen from further on -/
theorem FinO.later {Z1 H1 : Hp} {env1 : DEnv} {Fs1 : Nat → List Addr} {ios : List V} {o : Out (D × List D × DEnv)} {Q : VK} (s : Stp G B Z H σ env P Z1 H1 σ env1 Fs1) (hp : ∀ a, P1 a → H a = none ∨ P a) (h : FinO G W B Z H σ env P ios o Q) : FinO G W B Z1 H1 σ env1 P1 ios o Q := by
  unfold FinO at h ⊢
  match o, h with
  | .ok (d, outs, env'), h =>
    intro v Z' H' Fs' F p
    refine h v Z' H' Fs' F ⟨s.trans hp p.st, p.own, p.nd, p.dj, p.fr, fun a m => ?_⟩
    rcases p.new a m with z | z
    · cases q : H a with
      | none => exact .inl rfl
      | some u =>
        refine .inr ?_
        by_cases n : P a
        · exact n
        · have := s.ext a u q n
          rw [z] at this; cases this
    · exact hp a z
  | .exc c, h => exact h
/-- a lock behind -/
theorem FinO.unlock {i : Nat} {ios : List V} {o : Out (D × List D × DEnv)} {Q : VK} (g : Good G B Z H σ env Fs) (pm : PMut H P') (hp : ∀ a, P' a → P a ∧ a ∉ Fs i) (hi : ∀ a, a ∈ Fs i → P a)
    (h : FinO G W B Z H σ env P ios (o >>= fun q => .ok (q.1, q.2.1, DL.unlock env q.2.2)) Q) : FinO G W (lockB B H Fs i) Z H σ (DL.lock i env) P' ios o Q := by
  unfold FinO at h ⊢
  match o, h with
  | .ok (d, outs, env'), h =>
    intro v Z' H' Fs' F p
    refine h v Z' H' (backF env Fs Fs' i) F ⟨p.st.unlock g pm hp hi, p.own, p.nd, fun a m n => ?_, fun a m => ?_, fun a m => (p.new a m).imp id fun z => (hp a z).1⟩
    · obtain ⟨j, n⟩ := n
      rcases backF_mem n with ⟨_, n⟩ | n
      · have q := (p.fr a m).1
        unfold lockB at q
        rw [lay_in n] at q
        obtain ⟨u, e, _⟩ := g.dom ⟨i, n⟩
        rw [e] at q; cases q
      · exact p.dj a m ⟨j, n⟩
    · refine ⟨?_, (p.fr a m).2⟩
      cases q : B a with
      | none => rfl
      | some u =>
        have := lockB_up g i a u q
        rw [(p.fr a m).1] at this
        cases this
  | .exc c, h => exact fun H' hs => h H' ((lockB_up g i).trans hs)

/-- slot j's value taken out -/
theorem Good.take (g : Good G B Z H σ env Fs) (j : Nat) : Good G B Z H σ (env.set j none) (offF Fs j) where
  sb := g.sb
  sz := g.sz
  z0 := g.z0
  len := by rw [List.length_set]; exact g.len
  sl := fun i => by
    by_cases e : j = i
    · subst e
      have eo : offF Fs j j = [] := by unfold offF; rw [if_pos rfl]
      rw [eo, List.getElem?_set_self']
      cases env[j]? <;> rfl
    · have eo : offF Fs j i = Fs i := by unfold offF; rw [if_neg (fun z => e z.symm)]
      rw [eo, List.getElem?_set_ne e]
      exact g.sl i
  nd := fun i => by unfold offF; split; exact List.nodup_nil; exact g.nd i
  dj := fun i k a m n => by
    unfold offF at m n
    split at m
    · cases m
    · split at n
      · cases n
      · exact g.dj i k a m n
  fr := fun i a m => by
    unfold offF at m
    split at m
    · cases m
    · exact g.fr i a m
/-- slot j given a value of its own that stands where its name points -/
theorem Good.give {m : Md} {d : D} {v : V} {F : List Addr} {j : Nat} (g : Good G B Z H σ env Fs) (hm : m.mut = true) (hv : σ[j]? = some (some v)) (hl : j < env.length) (t : Tm G B Z H (InF Fs) d v F) : Good G B Z H σ (env.set j (some (m, d))) (onF Fs j F) where
  sb := g.sb
  sz := g.sz
  z0 := g.z0
  len := by rw [List.length_set]; exact g.len
  sl := fun i => by
    by_cases e : j = i
    · subst e
      have eo : onF Fs j F j = F := by unfold onF; rw [if_pos rfl]
      rw [eo, List.getElem?_set_self hl]
      cases m with
      | own => exact ⟨v, hv, t.own⟩
      | io => exact ⟨v, hv, t.own⟩
      | shr => cases hm
      | brw => cases hm
      | lck => cases hm
    · have eo : onF Fs j F i = Fs i := by unfold onF; rw [if_neg (fun z => e z.symm)]
      rw [eo, List.getElem?_set_ne e]
      exact g.sl i
  nd := fun i => by unfold onF; split; exact t.nd; exact g.nd i
  dj := fun i k a m n => by
    unfold onF at m n
    split at m
    · split at n
      · rename_i e1 e2; rw [e1, e2]
      · exact absurd ⟨k, n⟩ (t.dj a m)
    · split at n
      · exact absurd ⟨i, m⟩ (t.dj a n)
      · exact g.dj i k a m n
  fr := fun i a m => by
    unfold onF at m
    split at m
    · exact t.fr a m
    · exact g.fr i a m
end

theorem cut_mono {H H' : Hp} {T : List Addr} (h : Same H H') : Same (cut H T) (cut H' T) := fun a u e => by
  unfold cut at e ⊢
  split at e
  · cases e
  · rename_i n
    rw [if_neg n]
    exact h _ _ e
/-- arguments that change nothing, read from the left -/
theorem evS_ok {G : Gc} {T_ : List Addr} {B Z : Hp} {σ : L2.St} {env : DEnv} {Fs : Nat → List Addr} (hT : ∀ a, a ∈ T_ → ¬ InF Fs a ∧ B a = none ∧ Z a = none) :
    ∀ (hs : List SArg) (ds : List D) (H : Hp) (R : List V → Hp → Prop), Good G B Z H σ env Fs → evS hs env = some ds → (∀ vs H', Same H H' → OwnT G (cut H' T_) Z H' ((SArg.kinds hs).zip ds) vs [] → ds.length = hs.length → R vs H') → seqTE (hs.map (SArg.te G)) σ H R
  | [], ds, H, R, g, e, h => by
    have e : some [] = some ds := e
    cases e
    exact h [] H (Same.refl H) ⟨rfl, rfl⟩ rfl
  | a :: r, ds, H, R, g, e, h => by
    have e : (match a.val env with
      | some d => match evS r env with
        | some ds => some (d :: ds)
        | none => none
      | none => none) = some ds := e
    cases ha : a.val env with
    | none => rw [ha] at e; cases e
    | some d =>
      rw [ha] at e
      cases hr : evS r env with
      | none => rw [hr] at e; cases e
      | some ds' =>
        rw [hr] at e
        cases e
        have go : ∀ (v : V) (o : Bool) (H1 : Hp), Same H H1 → (SArg.kinds (a :: r)) = o :: SArg.kinds r → (match o with
            | true => Own G Z H1 d v []
            | false => Own G (cut H1 T_) H1 d v [] ∧ ([] : List Addr) = []) → seqTE (r.map (SArg.te G)) σ H1 (fun xs H2 => R (v :: xs) H2) := fun v o H1 hs1 ek hv =>
          evS_ok hT r ds' H1 _ (g.grow hs1) hr fun vs H2 hs2 hvs hl => h (v :: vs) H2 (hs1.trans hs2) (by
            rw [ek]
            refine ⟨v, vs, [], [], rfl, rfl, ?_, hvs⟩
            cases o with
            | true => exact Own.keep (Same.refl Z) d v [] (fun b u e _ => hs2 b u e) hv
            | false => exact ⟨Own.keep (cut_mono hs2) d v [] (fun b u e _ => hs2 b u e) hv.1, rfl⟩) (by rw [List.length_cons, List.length_cons, hl])
        cases a with
        | pur f =>
          refine ⟨B, Z, Fs, env, g, d, ha, fun v H1 hs1 hp hv => ?_⟩
          exact go v true H1 hs1 rfl (hv Z)
        | int f =>
          have ha : (match f env with
            | some d => onlyInt d
            | none => none) = some d := ha
          cases hf : f env with
          | none => rw [hf] at ha; cases ha
          | some d0 =>
            rw [hf] at ha
            obtain ⟨n, rfl, rfl⟩ := onlyInt_some ha
            exact ⟨B, Z, Fs, env, g, n, hf, fun H1 hs1 => go (.int n) true H1 hs1 rfl ⟨rfl, rfl⟩⟩
        | put f T =>
          have ha : (match f env with
            | some d => onlyT T d
            | none => none) = some d := ha
          cases hf : f env with
          | none => rw [hf] at ha; cases ha
          | some d0 =>
            rw [hf] at ha
            obtain ⟨rfl, ht⟩ := onlyT_some ha
            refine ⟨B, Z, Fs, env, g, d0, hf, ht, fun v H1 hs1 hp hv => ?_⟩
            exact go v true H1 hs1 rfl (hv Z)
        | plt i f T =>
          have ha : (match f env with
            | some d => onlyT T d
            | none => none) = some d := ha
          cases hf : f env with
          | none => rw [hf] at ha; cases ha
          | some d0 =>
            rw [hf] at ha
            obtain ⟨rfl, ht⟩ := onlyT_some ha
            refine ⟨B, Z, Fs, env, g, d0, hf, ht, fun v H1 hs1 hv => ?_⟩
            refine go v false H1 hs1 rfl ⟨Own.keep (fun a u e => ?_) d0 v [] (fun _ _ e _ => e) hv, rfl⟩
            have hH : H1 a = some u := joi_le (lockB_le (g.grow hs1) i) (g.grow hs1).sz a u e
            have hn : a ∉ T_ := fun m => by
              obtain ⟨n, b, z⟩ := hT a m
              have : joi (lockB B H1 Fs i) Z a = none := joi_none (by unfold lockB; rw [lay_out (fun q => n ⟨i, q⟩)]; exact b) z
              rw [this] at e; cases e
            rw [cut_out hn]
            exact hH
        | plc i f =>
          refine ⟨B, Z, Fs, env, g, d, ha, fun v H1 hs1 hv => ?_⟩
          refine go v false H1 hs1 rfl ⟨Own.keep (fun a u e => ?_) d v [] (fun _ _ e _ => e) hv, rfl⟩
          have hH : H1 a = some u := joi_le (lockB_le (g.grow hs1) i) (g.grow hs1).sz a u e
          have hn : a ∉ T_ := fun m => by
            obtain ⟨n, b, z⟩ := hT a m
            have : joi (lockB B H1 Fs i) Z a = none := joi_none (by unfold lockB; rw [lay_out (fun q => n ⟨i, q⟩)]; exact b) z
            rw [this] at e; cases e
          rw [cut_out hn]
          exact hH

/-- an operation on values at hand, as a function on data: fl tells the arguments that it changes and hands back, bs which are owned -/
def KOk (G : Gc) (W : Wsh) (fl : List Bool) (bs : List Bool) (r : List V → Hp → VK → Prop) (k : Kn) : Prop :=
  ∀ (B Z H : Hp) (σ : L2.St) (env : DEnv) (Fs : Nat → List Addr) (its : List (Bool × D)) (vs : List V) (T : List Addr) (ios : List V) (Q : VK), Good G B Z H σ env Fs → Hand G B Z H (cut H T) Fs its vs T → its.map (·.1) = bs → ios = ioV fl vs →
    FinO G W B Z H σ env (PT_ Fs T) ios (k (its.map (·.2)) env) Q → r vs H Q

theorem map_fst_zip {α β : Type} : ∀ (l : List α) (m : List β), l.length ≤ m.length → (l.zip m).map (·.1) = l
  | [], _, _ => rfl
  | a :: l, [], h => by simp at h
  | a :: l, b :: m, h => by
    show a :: (l.zip m).map (·.1) = a :: l
    rw [map_fst_zip l m (by simpa using h)]
theorem map_snd_zip {α β : Type} : ∀ (l : List α) (m : List β), m.length ≤ l.length → (l.zip m).map (·.2) = m
  | [], [], _ => rfl
  | [], b :: m, h => by simp at h
  | a :: l, [], _ => rfl
  | a :: l, b :: m, h => by
    show b :: (l.zip m).map (·.2) = b :: m
    rw [map_snd_zip l m (by simpa using h)]
theorem SArg.kinds_length : ∀ hs : List SArg, (SArg.kinds hs).length = hs.length
  | [] => rfl
  | .pur _ :: r => by show (SArg.kinds r).length + 1 = r.length + 1; rw [SArg.kinds_length r]
  | .int _ :: r => by show (SArg.kinds r).length + 1 = r.length + 1; rw [SArg.kinds_length r]
  | .plc _ _ :: r => by show (SArg.kinds r).length + 1 = r.length + 1; rw [SArg.kinds_length r]
  | .plt _ _ _ :: r => by show (SArg.kinds r).length + 1 = r.length + 1; rw [SArg.kinds_length r]
  | .put _ _ :: r => by show (SArg.kinds r).length + 1 = r.length + 1; rw [SArg.kinds_length r]
theorem OwnT.app {G : Gc} {Y Z H : Hp} : ∀ {its js : List (Bool × D)} {vs us : List V} {F F1 : List Addr}, OwnT G Y Z H its vs F → OwnT G Y Z H js us F1 → OwnT G Y Z H (its ++ js) (vs ++ us) (F ++ F1)
  | [], js, vs, us, F, F1, h, h1 => by
    obtain ⟨rfl, rfl⟩ := h
    exact h1
  | (o', d') :: r, js, vs, us, F, F1, h, h1 => by
    obtain ⟨v', rest, F2, F3, rfl, rfl, h2, h3⟩ := h
    exact ⟨v', rest ++ us, F2, F3 ++ F1, rfl, by rw [List.append_assoc], h2, OwnT.app h3 h1⟩

/-- THE CHAIN: arguments from the left, then the operation -/
theorem chn_ok {G : Gc} {W : Wsh} {fl bs : List Bool} {r : List V → Hp → VK → Prop} {k : Kn} (hk : KOk G W fl bs r k) {Q : VK} :
    ∀ (c : Chn) (B Z H : Hp) (σ : L2.St) (env : DEnv) (Fs : Nat → List Addr) (its : List (Bool × D)) (vs : List V) (T : List Addr) (ios : List V) (f0 : List Bool), Good G B Z H σ env Fs → Hand G B Z H (joi B Z) Fs its vs T → its.map (·.1) ++ c.kinds = bs → (f0 ++ c.iofs = fl ∧ f0.length = vs.length ∧ ios = ioV f0 vs) →
      FinO G W B Z H σ env (PT_ Fs T) ios (evC c (fun ds e => k (its.map (·.2) ++ ds) e) env) Q → seqTE (c.tes G W) σ H (fun us H1 => r (vs ++ us) H1 Q)
  | .fin hs, B, Z, H, σ, env, Fs, its, vs, T, ios, f0, g, hT, hb, hn, hF => by
    have e0 : evC (.fin hs) (fun ds e => k (its.map (·.2) ++ ds) e) env = (must (evS hs env) fun ds => k (its.map (·.2) ++ ds) env) := rfl
    rw [e0] at hF
    cases hr : evS hs env with
    | none => rw [hr] at hF; exact hF.elim
    | some ds =>
      rw [hr] at hF
      refine evS_ok (T_ := T) (fun a m => ⟨hT.dj a m, hT.fr a m⟩) hs ds H _ g hr fun us H1 hs1 hu hl => ?_
      have hlk : (SArg.kinds hs).length = ds.length := by rw [SArg.kinds_length, hl]
      have e1 : its.map (·.2) ++ ds = (its ++ (SArg.kinds hs).zip ds).map (·.2) := by rw [List.map_append, map_snd_zip _ _ (Nat.le_of_eq hlk.symm)]
      have e2 : (its ++ (SArg.kinds hs).zip ds).map (·.1) = bs := by
        rw [List.map_append, map_fst_zip _ _ (Nat.le_of_eq hlk)]
        exact hb
      have hF' : FinO G W B Z H σ env (PT_ Fs T) ios (k ((its ++ (SArg.kinds hs).zip ds).map (·.2)) env) Q := by
        rw [← e1]
        exact hF
      have hF2 : FinO G W B Z H1 σ env (PT_ Fs T) ios (k ((its ++ (SArg.kinds hs).zip ds).map (·.2)) env) Q := FinO.later (Stp.grow (P := PT_ Fs T) g (fun a m => .inl m) hs1) (fun a m => .inr m) hF'
      have hY : Same (joi B Z) (cut H1 T) := fun a u e => by
        have h1 : a ∉ T := fun m => by rw [joi_none (hT.fr a m).1 (hT.fr a m).2] at e; cases e
        rw [cut_out h1]
        exact hs1 a u (joi_le g.sb g.sz a u e)
      have hio : ios = ioV fl (vs ++ us) := by
        obtain ⟨n1, n2, n3⟩ := hn
        rw [n3, ← n1]
        show _ = ioV (f0 ++ hs.map fun _ => false) (vs ++ us)
        rw [show (hs.map fun _ => false) = List.replicate hs.length false from by rw [List.map_const'] , ioV_false f0 vs us _ n2]
      refine hk B Z H1 σ env Fs _ (vs ++ us) T ios Q (g.grow hs1) ⟨?_, hT.nd, hT.dj, hT.fr⟩ e2 hio hF2
      have q := OwnT.app (OwnT.keep hY (Same.refl Z) (fun b u e _ => hs1 b u e) hT.own) hu
      rw [List.append_nil] at q
      exact q
  | .own f c, B, Z, H, σ, env, Fs, its, vs, T, ios, f0, g, hT, hb, hn, hF => by
    refine ⟨B, Z, Fs, env, g, ?_⟩
    have e0 : evC (.own f c) (fun ds e => k (its.map (·.2) ++ ds) e) env = (f env >>= fun p => evC c (fun ds e => k (its.map (·.2) ++ p.1 :: ds) e) p.2) := rfl
    rw [e0] at hF
    cases hr : f env with
    | bad => rw [hr] at hF; exact hF.elim
    | exc c => rw [hr] at hF; exact hF
    | ok p =>
      obtain ⟨d, env1⟩ := p
      rw [hr] at hF
      simp only [Out.bind_ok] at hF
      intro v Z1 H1 Fs1 F1 p1
      have ho : Own G Z1 H1 d v F1 := by
        obtain ⟨v', r', Fa, Fb, e1, e2, h1, h2⟩ := p1.own
        cases e1
        obtain ⟨_, rfl⟩ := h2
        rw [List.append_nil] at e2
        rw [e2]
        exact h1
      have pmF : PMut H (InF Fs) := g.pm
      have hp1 : ∀ a, PT_ Fs1 (T ++ F1) a → H a = none ∨ PT_ Fs T a := fun a m => by
        rcases m with m | m
        · exact (p1.st.new a m).imp id .inl
        · rcases List.mem_append.mp m with m | m
          · exact .inr (.inr m)
          · exact (p1.new a m).imp id .inl
      have kk : ∀ (b : Addr) (u : HO), H b = some u → (b ∈ T ∨ Still u) → H1 b = some u := fun b u e m => p1.st.ext b u e (by
        rcases m with m | nm
        · exact hT.dj b m
        · exact g.tup e nm)
      have hT1 : Hand G B Z1 H1 (joi B Z1) Fs1 (its ++ [(true, d)]) (vs ++ [v]) (T ++ F1) := by
        refine ⟨OwnT.snoc (o := true) (OwnT.keep (joi_mono (Same.refl B) p1.st.zz p1.st.good.sb p1.st.good.sz) p1.st.zz kk hT.own) ho, ?_, fun a m n => ?_, fun a m => ?_⟩
        · refine List.nodup_append.mpr ⟨hT.nd, p1.nd, fun a m b n => ?_⟩
          rintro rfl
          obtain ⟨u, e, _⟩ := hT.own.dom a m
          rcases p1.new a n with z | z
          · rw [e] at z; cases z
          · exact hT.dj a m z
        · rcases List.mem_append.mp m with m | m
          · obtain ⟨u, e, _⟩ := hT.own.dom a m
            rcases p1.st.new a n with z | z
            · rw [e] at z; cases z
            · exact hT.dj a m z
          · exact p1.dj a m n
        · rcases List.mem_append.mp m with m | m
          · refine ⟨(hT.fr a m).1, ?_⟩
            cases q : Z1 a with
            | none => rfl
            | some w =>
              obtain ⟨u, e, _⟩ := hT.own.dom a m
              rcases p1.st.newz a (by rw [q]; simp) with z | z | z
              · exact absurd (hT.fr a m).2 z
              · rw [e] at z; cases z
              · exact absurd z (hT.dj a m)
          · exact p1.fr a m
      have hF1 : FinO G W B Z1 H1 σ env1 (PT_ Fs1 (T ++ F1)) ios (evC c (fun ds e => k ((its ++ [(true, d)]).map (·.2) ++ ds) e) env1) Q := by
        have e3 : (fun (ds : List D) (e : DEnv) => k (its.map (·.2) ++ d :: ds) e) = fun ds e => k ((its ++ [(true, d)]).map (·.2) ++ ds) e := by
          funext ds e
          rw [List.map_append, List.append_assoc]
          rfl
        rw [← e3]
        exact FinO.later (p1.st.more fun a m => .inl m) hp1 hF
      have rec' := chn_ok hk c B Z1 H1 σ env1 Fs1 (its ++ [(true, d)]) (vs ++ [v]) (T ++ F1) ios (f0 ++ [false]) p1.st.good hT1 (by rw [List.map_append, List.append_assoc]; exact hb) ⟨by rw [List.append_assoc]; exact hn.1, by rw [List.length_append, List.length_append, hn.2.1]; rfl, by rw [ioV_snoc f0 vs false v hn.2.1]; exact hn.2.2⟩ hF1
      have e4 : (fun (us : List V) (H2 : Hp) => r ((vs ++ [v]) ++ us) H2 Q) = fun us H2 => r (vs ++ v :: us) H2 Q := by
        funext us H2
        rw [List.append_assoc]
        rfl
      rw [e4] at rec'
      exact rec'
  | .pur h c, B, Z, H, σ, env, Fs, its, vs, T, ios, f0, g, hT, hb, hn, hF => by
    have e0 : evC (.pur h c) (fun ds e => k (its.map (·.2) ++ ds) e) env = (must (h env) fun d => evC c (fun ds e => k (its.map (·.2) ++ d :: ds) e) env) := rfl
    rw [e0] at hF
    cases hr : h env with
    | none => rw [hr] at hF; exact hF.elim
    | some d =>
      rw [hr] at hF
      refine ⟨B, Z, Fs, env, g, d, hr, fun v H1 hs1 hp hv => ?_⟩
      have hT1 : Hand G B Z H1 (joi B Z) Fs (its ++ [(true, d)]) (vs ++ [v]) T := by
        have q := OwnT.snoc (o := true) (F1 := []) (OwnT.keep (Same.refl _) (Same.refl Z) (fun b u e _ => hs1 b u e) hT.own) (hv Z)
        rw [List.append_nil] at q
        exact ⟨q, hT.nd, hT.dj, hT.fr⟩
      have e3 : (fun (ds : List D) (e : DEnv) => k (its.map (·.2) ++ d :: ds) e) = fun ds e => k ((its ++ [(true, d)]).map (·.2) ++ ds) e := by
        funext ds e
        rw [List.map_append, List.append_assoc]
        rfl
      have hF : FinO G W B Z H σ env (PT_ Fs T) ios (evC c (fun ds e => k (its.map (·.2) ++ d :: ds) e) env) Q := hF
      rw [e3] at hF
      have hF := FinO.later (Stp.grow (P := PT_ Fs T) g (fun a m => .inl m) hs1) (fun a m => .inr m) hF
      have rec' := chn_ok hk c B Z H1 σ env Fs (its ++ [(true, d)]) (vs ++ [v]) T ios (f0 ++ [false]) (g.grow hs1) hT1 (by rw [List.map_append, List.append_assoc]; exact hb) ⟨by rw [List.append_assoc]; exact hn.1, by rw [List.length_append, List.length_append, hn.2.1]; rfl, by rw [ioV_snoc f0 vs false v hn.2.1]; exact hn.2.2⟩ hF
      have e4 : (fun (us : List V) (H2 : Hp) => r ((vs ++ [v]) ++ us) H2 Q) = fun us H2 => r (vs ++ v :: us) H2 Q := by
        funext us H2
        rw [List.append_assoc]
        rfl
      rw [e4] at rec'
      exact rec'
  | .plc i f c, B, Z, H, σ, env, Fs, its, vs, T, ios, f0, g, hT, hb, hn, hF => by
    have e0 : evC (.plc i f c) (fun ds e => k (its.map (·.2) ++ ds) e) env = (must (f env) fun d => evC c (fun ds e => k (its.map (·.2) ++ d :: ds) e) (lock i env) >>= fun q => .ok (q.1, q.2.1, unlock env q.2.2)) := rfl
    rw [e0] at hF
    cases hr : f env with
    | none => rw [hr] at hF; exact hF.elim
    | some d =>
      rw [hr] at hF
      have hF0 : FinO G W B Z H σ env (PT_ Fs T) ios (evC c (fun ds e => k (its.map (·.2) ++ d :: ds) e) (lock i env) >>= fun q => .ok (q.1, q.2.1, unlock env q.2.2)) Q := hF
      refine ⟨B, Z, Fs, env, g, d, hr, fun v H1 hs1 hv => ?_⟩
      have hF := FinO.later (Stp.grow (P := PT_ Fs T) g (fun a m => .inl m) hs1) (fun a m => .inr m) hF0
      have g1 := g.grow hs1
      have hdT : ∀ a, a ∈ T → a ∉ Fs i := fun a m n => hT.dj a m ⟨i, n⟩
      have hT1 : Hand G (lockB B H1 Fs i) Z H1 (joi (lockB B H1 Fs i) Z) (offF Fs i) (its ++ [(false, d)]) (vs ++ [v]) T := by
        have q := OwnT.snoc (o := false) (F1 := []) (OwnT.keep (joi_mono (lockB_up g1 i) (Same.refl Z) (lockB_le g1 i) g1.sz) (Same.refl Z) (fun b u e _ => hs1 b u e) hT.own) ⟨hv, rfl⟩
        rw [List.append_nil] at q
        refine ⟨q, hT.nd, fun a m n => hT.dj a m (inF_off n), fun a m => ⟨?_, (hT.fr a m).2⟩⟩
        unfold lockB
        rw [lay_out (hdT a m)]
        exact (hT.fr a m).1
      have hpp : ∀ a, PT_ (offF Fs i) T a → PT_ Fs T a ∧ a ∉ Fs i := fun a m => by
        rcases m with m | m
        · refine ⟨.inl (inF_off m), fun n => ?_⟩
          obtain ⟨j, m⟩ := m
          unfold offF at m
          split at m
          · cases m
          · rename_i hne
            exact hne (g.dj j i a m n)
        · exact ⟨.inr m, hdT a m⟩
      have hF1 := FinO.unlock (P' := PT_ (offF Fs i) T) g1 (hT1.pm (g1.lock i)) hpp (fun a m => .inl ⟨i, m⟩) hF
      have e3 : (fun (ds : List D) (e : DEnv) => k (its.map (·.2) ++ d :: ds) e) = fun ds e => k ((its ++ [(false, d)]).map (·.2) ++ ds) e := by
        funext ds e
        rw [List.map_append, List.append_assoc]
        rfl
      rw [e3] at hF1
      have rec' := chn_ok hk c (lockB B H1 Fs i) Z H1 σ (lock i env) (offF Fs i) (its ++ [(false, d)]) (vs ++ [v]) T ios (f0 ++ [false]) (g1.lock i) hT1 (by rw [List.map_append, List.append_assoc]; exact hb) ⟨by rw [List.append_assoc]; exact hn.1, by rw [List.length_append, List.length_append, hn.2.1]; rfl, by rw [ioV_snoc f0 vs false v hn.2.1]; exact hn.2.2⟩ hF1
      have e4 : (fun (us : List V) (H2 : Hp) => r ((vs ++ [v]) ++ us) H2 Q) = fun us H2 => r (vs ++ v :: us) H2 Q := by
        funext us H2
        rw [List.append_assoc]
        rfl
      rw [e4] at rec'
      exact rec'
  | .io j c, B, Z, H, σ, env, Fs, its, vs, T, ios, f0, g, hT, hb, hn, hF => by
    cases hs : env[j]? with
    | none =>
      have e0 : evC (.io j c) (fun ds e => k (its.map (·.2) ++ ds) e) env = .bad := by unfold evC; rw [hs]
      rw [e0] at hF; exact hF.elim
    | some sl =>
      match sl, hs with
      | none, hs =>
        have e0 : evC (.io j c) (fun ds e => k (its.map (·.2) ++ ds) e) env = .bad := by unfold evC; rw [hs]
        rw [e0] at hF; exact hF.elim
      | some (m, d), hs =>
        by_cases hm : m.mut = true
        · have e0 : evC (.io j c) (fun ds e => k (its.map (·.2) ++ ds) e) env = (evC c (fun ds e => k (its.map (·.2) ++ d :: ds) e) (env.set j none) >>= fun (q : D × List D × DEnv) => match q.2.1 with
              | o :: os => Out.ok (q.1, os, q.2.2.set j (some (m, o)))
              | [] => Out.bad) := by
            rw [evC, hs]
            exact if_pos hm
          rw [e0] at hF
          -- slot j's value
          have hsl := g.sl j
          rw [hs] at hsl
          obtain ⟨v, ev, hv⟩ : ∃ v, σ[j]? = some (some v) ∧ Own G Z H d v (Fs j) := by
            obtain ⟨v, ev, hv⟩ := hsl
            cases m with
            | own => exact ⟨v, ev, hv⟩
            | io => exact ⟨v, ev, hv⟩
            | shr => cases hm
            | brw => cases hm
            | lck => cases hm
          refine ⟨v, ev, ?_⟩
          have g1 := g.take j
          have hdT : ∀ a, a ∈ T → a ∉ Fs j := fun a m n => hT.dj a m ⟨j, n⟩
          have off_j : ∀ a, InF (offF Fs j) a → a ∉ Fs j := fun a m n => by
            obtain ⟨i, m⟩ := m
            unfold offF at m
            split at m
            · cases m
            · rename_i hne
              exact hne (g.dj i j a m n)
          have hT1 : Hand G B Z H (joi B Z) (offF Fs j) (its ++ [(true, d)]) (vs ++ [v]) (T ++ Fs j) := by
            refine ⟨OwnT.snoc (o := true) hT.own hv, List.nodup_append.mpr ⟨hT.nd, g.nd j, fun a m b n => ?_⟩, fun a m n => ?_, fun a m => ?_⟩
            · rintro rfl
              exact hdT a m n
            · rcases List.mem_append.mp m with m | m
              · exact hT.dj a m (inF_off n)
              · exact off_j a n m
            · rcases List.mem_append.mp m with m | m
              · exact hT.fr a m
              · exact g.fr j a m
          have hpp : ∀ a, PT_ (offF Fs j) (T ++ Fs j) a → PT_ Fs T a := fun a m => by
            rcases m with m | m
            · exact .inl (inF_off m)
            · rcases List.mem_append.mp m with m | m
              · exact .inr m
              · exact .inl ⟨j, m⟩
          have hjl : j < env.length := (List.getElem?_eq_some_iff.mp hs).1
          have hF1 : FinO G W B Z H σ (env.set j none) (PT_ (offF Fs j) (T ++ Fs j)) (v :: ios) (evC c (fun ds e => k (its.map (·.2) ++ d :: ds) e) (env.set j none)) Q := by
            generalize evC c (fun ds e => k (its.map (·.2) ++ d :: ds) e) (env.set j none) = oo at hF
            unfold FinO at hF ⊢
            match oo, hF with
            | .exc c', hF => exact hF
            | .ok (d', [], env'), hF => exact hF.elim
            | .ok (d', o :: os, env'), hF =>
              intro v' Z' H' Fs' F p
              obtain ⟨w1, r1, Fa, Fb, ea, eb, ha, hb'⟩ := p.own
              obtain ⟨rfl, rfl⟩ := List.cons.inj ea
              obtain ⟨w2, r2, Fc, Fd, ec, ed, hc, hd'⟩ := hb'
              cases ec
              subst ed
              subst eb
              have nd0 := List.nodup_append.mp p.nd
              have nd1 := List.nodup_append.mp nd0.2.1
              have memc : ∀ a, a ∈ Fc → a ∈ Fa ++ (Fc ++ Fd) := fun a m => List.mem_append_right _ (List.mem_append_left _ m)
              have tm : Tm G B Z' H' (InF Fs') o v Fc := ⟨hc, nd1.1, fun a m n => p.dj a (memc a m) n, fun a m => p.fr a (memc a m)⟩
              have ls : env'.length = env.length := by rw [p.st.ln, List.length_set]
              have g2 := p.st.good.give hm ev (by rw [ls]; exact hjl) tm
              have nj : ∀ i, i ≠ j → (env.set j none)[i]? = env[i]? := fun i h => List.getElem?_set_ne (fun z => h z.symm)
              have nj' : ∀ i, i ≠ j → (env'.set j (some (m, o)))[i]? = env'[i]? := fun i h => List.getElem?_set_ne (fun z => h z.symm)
              have at_j : (env'.set j (some (m, o)))[j]? = some (some (m, o)) := List.getElem?_set_self (by rw [ls]; exact hjl)
              refine hF v' Z' H' (onF Fs' j Fc) (Fa ++ Fd) ⟨⟨p.st.zz, fun a u e n => p.st.ext a u e fun z => n (hpp a z), g2, fun a mm => ?_, fun a mm => ?_, fun i d2 e => ?_, fun i d2 e => ?_, fun i d2 e => ?_, fun i d2 e => ?_, by rw [List.length_set]; exact ls⟩, ⟨v', _, Fa, Fd, rfl, rfl, ha, hd'⟩, ?_, fun a mm n => ?_, fun a mm => ?_, fun a mm => ?_⟩
              · rcases inF_on mm with mm | mm
                · exact (p.new a (memc a mm)).imp id (hpp a)
                · exact (p.st.new a mm).imp id (hpp a)
              · exact (p.st.newz a mm).imp id fun z => z.imp id (hpp a)
              · by_cases hi : i = j
                · subst hi
                  rw [hs] at e
                  cases e
                  exact ⟨⟨o, at_j⟩, rfl⟩
                · rw [nj' i hi]
                  exact p.st.io i d2 (by rw [nj i hi]; exact e)
              · by_cases hi : i = j
                · subst hi
                  rw [hs] at e
                  cases e
                  cases hm
                · rw [nj' i hi]
                  exact p.st.lk i d2 (by rw [nj i hi]; exact e)
              · by_cases hi : i = j
                · subst hi
                  rw [at_j] at e
                  cases e
                  cases hm
                · rw [nj' i hi] at e
                  have q := p.st.bw i d2 e
                  rw [nj i hi] at q
                  exact q
              · by_cases hi : i = j
                · subst hi
                  rw [at_j] at e
                  cases e
                  cases hm
                · rw [nj' i hi] at e
                  have q := p.st.lb i d2 e
                  rw [nj i hi] at q
                  exact q
              · exact List.nodup_append.mpr ⟨nd0.1, nd1.2.1, fun a m1 b m2 => nd0.2.2 a m1 b (List.mem_append_right _ m2)⟩
              · rcases inF_on n with n | n
                · rcases List.mem_append.mp mm with mm | mm
                  · exact nd0.2.2 a mm a (List.mem_append_left _ n) rfl
                  · exact nd1.2.2 a n a mm rfl
                · refine p.dj a ?_ n
                  rcases List.mem_append.mp mm with mm | mm
                  · exact List.mem_append_left _ mm
                  · exact List.mem_append_right _ (List.mem_append_right _ mm)
              · refine p.fr a ?_
                rcases List.mem_append.mp mm with mm | mm
                · exact List.mem_append_left _ mm
                · exact List.mem_append_right _ (List.mem_append_right _ mm)
              · refine (p.new a ?_).imp id (hpp a)
                rcases List.mem_append.mp mm with mm | mm
                · exact List.mem_append_left _ mm
                · exact List.mem_append_right _ (List.mem_append_right _ mm)
          have e3 : (fun (ds : List D) (e : DEnv) => k (its.map (·.2) ++ d :: ds) e) = fun ds e => k ((its ++ [(true, d)]).map (·.2) ++ ds) e := by
            funext ds e
            rw [List.map_append, List.append_assoc]
            rfl
          rw [e3] at hF1
          have rec' := chn_ok hk c B Z H σ (env.set j none) (offF Fs j) (its ++ [(true, d)]) (vs ++ [v]) (T ++ Fs j) (v :: ios) (f0 ++ [true]) g1 hT1 (by rw [List.map_append, List.append_assoc]; exact hb) ⟨by rw [List.append_assoc]; exact hn.1, by rw [List.length_append, List.length_append, hn.2.1]; rfl, by rw [ioV_snoc f0 vs true v hn.2.1, hn.2.2]; rfl⟩ hF1
          have e4 : (fun (us : List V) (H2 : Hp) => r ((vs ++ [v]) ++ us) H2 Q) = fun us H2 => r (vs ++ v :: us) H2 Q := by
            funext us H2
            rw [List.append_assoc]
            rfl
          rw [e4] at rec'
          exact rec'
        · have e0 : evC (.io j c) (fun ds e => k (its.map (·.2) ++ ds) e) env = .bad := by
            unfold evC
            rw [hs]
            exact if_neg hm
          rw [e0] at hF; exact hF.elim
end DL

namespace DL
open PySem PySem.Spec PyProof.Rows L2

/-! ### operations on values, as functions on data -/
/-- an operation that only reads its arguments and hands on something new -/
def ROp (G : Gc) (r : List V → Hp → VK → Prop) (g : List D → Option D) : Prop :=
  ∀ (ds : List D) (vs : List V) (H : Hp) (Q : VK) (d : D), OwnL G H H ds vs [] → g ds = some d → (∀ v H' F, Same H H' → (∀ Z, Own G Z H' d v F) → F.Nodup → (∀ a, a ∈ F → H a = none) → Q v H') → r vs H Q
/-- its result is pure -/
def PureG (g : List D → Option D) : Prop := ∀ ds d, g ds = some d → d.pure = true

def l1 (r : V → Hp → VK → Prop) : List V → Hp → VK → Prop := fun vs H Q => match vs with
  | [x] => r x H Q
  | _ => False
def l2 (r : R2) : List V → Hp → VK → Prop := fun vs H Q => match vs with
  | [x, y] => r x y H Q
  | _ => False

def opK (g : List D → Option D) : Kn := fun ds e => must (g ds) fun d => .ok (d, [], e)
def eK (c : Chn) (k : Kn) : DEnv → Out (D × DEnv) := fun env => evC c k env >>= fun q => .ok (q.1, q.2.2)
/-- an operation that owns what it hands on -/
abbrev eOp (c : Chn) (g : List D → Option D) : DEnv → Out (D × DEnv) := eK c (opK g)
/-- an operation on what changes nothing, with a pure result -/
def hOp (hs : List SArg) (g : List D → Option D) : DEnv → Option D := fun env => match evS hs env with
  | some ds => g ds
  | none => none

section
variable {G : Gc} {W : Wsh} {X : Cx}
theorem op_own {r : List V → Hp → VK → Prop} {g : List D → Option D} {fl bs : List Bool} (hr : ROp G r g) (hfl : fl.any id = false) : KOk G W fl bs r (opK g) := by
  intro B Z H σ env Fs its vs T ios Q gd hd hb hn hF
  obtain rfl : ios = [] := hn.trans (ioV_none fl vs hfl)
  unfold opK at hF
  cases hg : g (its.map (·.2)) with
  | none => rw [hg] at hF; exact hF.elim
  | some d =>
    rw [hg] at hF
    refine hr _ vs H Q d (OwnT.reps cut_le gd.sz hd.own) hg fun v H' F hs ho nd hn' => ?_
    refine hF v Z H' Fs F ⟨Stp.grow gd (fun a m => .inl m) hs, ⟨v, [], F, [], rfl, by simp, ho Z, rfl, rfl⟩, nd, fun a m n => ?_, fun a m => ⟨?_, ?_⟩, fun a m => .inl (hn' a m)⟩
    · obtain ⟨o, e, _⟩ := gd.dom n
      rw [hn' a m] at e; cases e
    · cases q : B a with
      | none => rfl
      | some u =>
        have := gd.sb a u q
        rw [hn' a m] at this; cases this
    · cases q : Z a with
      | none => rfl
      | some u =>
        have := gd.sz a u q
        rw [hn' a m] at this; cases this
theorem FinV.toO {B Z H : Hp} {σ : L2.St} {env : DEnv} {Fs : Nat → List Addr} {o : Out (D × List D × DEnv)} {Q : VK} (h : FinV G W B Z H σ env (InF Fs) (o >>= fun q => .ok (q.1, q.2.2)) Q) : FinO G W B Z H σ env (PT_ Fs []) [] o Q := by
  unfold FinV at h
  unfold FinO
  match o, h with
  | .ok (d, outs, env'), h =>
    intro v Z' H' Fs' F p
    have pp : ∀ a, PT_ Fs [] a → InF Fs a := fun a m => m.elim id fun z => by cases z
    have he : outs = [] := by
      obtain ⟨_, _, _, _, e1, _, _, h2⟩ := p.own
      cases e1
      have := OwnL.length h2
      exact List.eq_nil_of_length_eq_zero this.symm
    subst he
    exact h v Z' H' Fs' F ⟨p.st.more pp, p.own, p.nd, p.dj, p.fr, fun a m => (p.new a m).imp id (pp a)⟩
  | .exc c, h => exact h
theorem tv_chn {fl bs : List Bool} {r : List V → Hp → VK → Prop} {k : Kn} {c : Chn} (hk : KOk G W fl bs r k) (hn : c.iofs = fl) (hb : c.kinds = bs) (σ : L2.St) (H : Hp) (Q : VK) (h : TV G W (eK c k) σ H Q) : seqTE (c.tes G W) σ H (fun vs H1 => r vs H1 Q) := by
  obtain ⟨B, Z, Fs, env, g, h⟩ := h
  have := chn_ok hk (Q := Q) c B Z H σ env Fs [] [] [] [] [] g ⟨⟨rfl, rfl⟩, List.nodup_nil, fun a m => (by cases m), fun a m => (by cases m)⟩ (by simpa using hb) ⟨hn, rfl, rfl⟩ (FinV.toO h)
  exact this
theorem tv_op {r : List V → Hp → VK → Prop} {g : List D → Option D} {c : Chn} (hr : ROp G r g) (hn : c.iofs.any id = false) (σ : L2.St) (H : Hp) (Q : VK) (h : TV G W (eOp c g) σ H Q) : seqTE (c.tes G W) σ H (fun vs H1 => r vs H1 Q) :=
  tv_chn (op_own hr hn) rfl rfl σ H Q h
theorem tpur_op {r : List V → Hp → VK → Prop} {g : List D → Option D} {hs : List SArg} (hr : ROp G r g) (hp : PureG g) (σ : L2.St) (H : Hp) (Q : VK) (h : TPur G (hOp hs g) σ H Q) : seqTE (hs.map (SArg.te G)) σ H (fun vs H1 => r vs H1 Q) := by
  obtain ⟨B, Z, Fs, env, gd, d, hd, q⟩ := h
  unfold hOp at hd
  cases he : evS hs env with
  | none => rw [he] at hd; cases hd
  | some ds =>
    rw [he] at hd
    refine evS_ok (T_ := []) (fun a m => by cases m) hs ds H _ gd he fun vs H1 hs1 ho hl => ?_
    have hlk : (SArg.kinds hs).length = ds.length := by rw [SArg.kinds_length, hl]
    have hrep := OwnT.reps (H := H1) cut_le (gd.sz.trans hs1) ho
    rw [map_snd_zip _ _ (Nat.le_of_eq hlk.symm)] at hrep
    refine hr ds vs H1 Q d hrep hd fun v H' F hs2 ho2 nd hn => ?_
    obtain ⟨hF, _⟩ := Own.ofPure (Z' := H') d v F (hp ds d hd) (ho2 H')
    subst hF
    exact q v H' (hs1.trans hs2) (hp ds d hd) ho2

/-! ### leaves -/
def hC (d : D) : DEnv → Option D := fun _ => some d
def hVar (i : Nat) : DEnv → Option D := fun env => match env[i]? with
  | some (some (_, d)) => if d.pure = true then some d else none
  | _ => none
def pVar (i : Nat) : DEnv → Option D := fun env => match env[i]? with
  | some (some (_, d)) => some d
  | _ => none
/-- the value moved out of slot i -/
def eMov (i : Nat) : DEnv → Out (D × DEnv) := fun env => match env[i]? with
  | some (some (m, d)) => if m = .own then .ok (d, env.set i none) else .bad
  | _ => .bad
/-- slot i frozen, and its value shared -/
def eShr (i : Nat) : DEnv → Out (D × DEnv) := fun env => match env[i]? with
  | some (some (m, d)) => if m = .own ∨ m = .shr then .ok (d, env.set i (some (.shr, d))) else .bad
  | _ => .bad
/-- a place of pure data, read -/
def hRd (g : DEnv → Option D) : DEnv → Option D := fun env => match g env with
  | some d => if d.pure = true then some d else none
  | none => none
def eP (h : DEnv → Option D) : DEnv → Out (D × DEnv) := fun env => must (h env) fun d => .ok (d, env)

theorem own_int {Z H : Hp} {d : D} {v : V} {F : List Addr} {i : Int} (h : Own G Z H d v F) (e : d = .int i) : v = .int i := by subst e; exact h.1
theorem p_int {i : Int} {k pos} : PE X (.Constant (.int i) k pos) (TPur G (hC (.int i))) :=
  pe_int.imp fun σ H Q ⟨B, Z, Fs, env, gd, d, hd, q⟩ => by cases hd; exact q _ H (Same.refl H) rfl fun Z' => ⟨rfl, rfl⟩
theorem p_str {x : Str} {k pos} : PE X (.Constant (.str x) k pos) (TPur G (hC (.str x))) :=
  pe_str.imp fun σ H Q ⟨B, Z, Fs, env, gd, d, hd, q⟩ => by cases hd; exact q _ H (Same.refl H) rfl fun Z' => ⟨rfl, rfl⟩
theorem p_bl {b : Bool} {k pos} : PE X (.Constant (.bool b) k pos) (TPur G (hC (.bl b))) :=
  pe_bl.imp fun σ H Q ⟨B, Z, Fs, env, gd, d, hd, q⟩ => by cases hd; exact q _ H (Same.refl H) rfl fun Z' => ⟨rfl, rfl⟩
theorem p_non {k pos} : PE X (.Constant .none k pos) (TPur G (hC .non)) :=
  pe_non.imp fun σ H Q ⟨B, Z, Fs, env, gd, d, hd, q⟩ => by cases hd; exact q _ H (Same.refl H) rfl fun Z' => ⟨rfl, rfl⟩
/-- a module's constant -/
theorem p_glob {x : Str} {v : V} {d : D} {u : Value} {pos : Pos} (hg : Gl X x) (hm : X.mg x = some u) (r : RelV v u) (hd : ∀ Z H, Own G Z H d v []) (hp : d.pure = true) (hdb : (x == ("__debug__" : Str)) = false := by decide) : PE X (.Name x pos) (TPur G (hC d)) :=
  (pe_glob hg hm r hdb).imp fun σ H Q ⟨B, Z, Fs, env, gd, d', hd', q⟩ => by cases hd'; exact q v H (Same.refl H) hp fun Z' => hd Z' H
/-- what a slot's name points at, read -/
theorem Good.read {B Z H : Hp} {σ : L2.St} {env : DEnv} {Fs : Nat → List Addr} (g : Good G B Z H σ env Fs) {i : Nat} {m : Md} {d : D} (h : env[i]? = some (some (m, d))) : ∃ v, σ[i]? = some (some v) ∧ Own G (joi (lockB B H Fs i) Z) H d v [] := by
  have hs := g.sl i
  rw [h] at hs
  have j1 : Same (joi B Z) (joi (lockB B H Fs i) Z) := joi_mono (lockB_up g i) (Same.refl Z) (lockB_le g i) g.sz
  have z1 : Same Z (joi (lockB B H Fs i) Z) := joi_right (lockB_le g i) g.sz
  have kf : ∀ b u, b ∈ Fs i → H b = some u → joi (lockB B H Fs i) Z b = some u := fun b u m q => joi_left b u (by unfold lockB; rw [lay_in m]; exact q)
  obtain ⟨v, e, hs⟩ := hs
  refine ⟨v, e, ?_⟩
  cases m with
  | own => exact Own.freeze z1 d v _ kf hs
  | io => exact Own.freeze z1 d v _ kf hs
  | shr => exact Own.keep z1 d v [] (fun _ _ e _ => e) hs.1
  | brw => exact Own.keep j1 d v [] (fun _ _ e _ => e) hs.1
  | lck => exact Own.keep j1 d v [] (fun _ _ e _ => e) hs.1
theorem p_plc {e : Expr} {i : Nat} (h : PE X e (tVar i)) : PE X e (TPlc G i (pVar i)) :=
  h.imp fun σ H Q ⟨B, Z, Fs, env, gd, d, hd, q⟩ => by
    unfold pVar at hd
    cases hs : env[i]? with
    | none => rw [hs] at hd; cases hd
    | some sl =>
      match sl, hs with
      | none, hs => rw [hs] at hd; cases hd
      | some (m, d'), hs =>
        rw [hs] at hd
        cases hd
        obtain ⟨v, ev, ho⟩ := gd.read hs
        exact ⟨v, ev, q v H (Same.refl H) ho⟩
theorem p_rd {e : Expr} {i : Nat} {g : DEnv → Option D} (h : PE X e (TPlc G i g)) : PE X e (TPur G (hRd g)) :=
  h.imp fun σ H Q ⟨B, Z, Fs, env, gd, d, hd, q⟩ => by
    unfold hRd at hd
    cases hg : g env with
    | none => rw [hg] at hd; cases hd
    | some d' =>
      rw [hg] at hd
      by_cases hp : d'.pure = true
      · have hd : (if d'.pure = true then some d' else none) = some d := hd
        rw [if_pos hp] at hd
        cases hd
        exact ⟨B, Z, Fs, env, gd, _, hg, fun v H' hs ho => q v H' hs hp fun Z' => (Own.ofPure (Z' := Z') _ v [] hp ho).2⟩
      · have hd : (if d'.pure = true then some d' else none) = some d := hd
        rw [if_neg hp] at hd
        cases hd
theorem p_var {e : Expr} {i : Nat} (h : PE X e (tVar i)) : PE X e (TPur G (hVar i)) :=
  (p_rd (p_plc h)).imp fun σ H Q ⟨B, Z, Fs, env, gd, d, hd, q⟩ => by
    refine ⟨B, Z, Fs, env, gd, d, ?_, q⟩
    unfold hVar at hd
    unfold hRd pVar
    cases hs : env[i]? with
    | none => rw [hs] at hd; cases hd
    | some sl =>
      match sl, hs with
      | none, hs => rw [hs] at hd; cases hd
      | some (m, d'), hs =>
        rw [hs] at hd
        exact hd
theorem e_p {e : Expr} {h : DEnv → Option D} (hp : PE X e (TPur G h)) : PE X e (TV G W (eP h)) :=
  hp.imp fun σ H Q ⟨B, Z, Fs, env, gd, hF⟩ => by
    unfold eP at hF
    cases he : h env with
    | none => rw [he] at hF; exact hF.elim
    | some d =>
      rw [he] at hF
      refine ⟨B, Z, Fs, env, gd, d, he, fun v H' hs hp ho => ?_⟩
      exact hF v Z H' Fs [] ⟨Stp.grow gd (fun a m => m) hs, ⟨v, [], [], [], rfl, rfl, ho Z, rfl, rfl⟩, List.nodup_nil, fun a m => (by cases m), fun a m => (by cases m), fun a m => (by cases m)⟩
/-- slot i's value out of it -/
theorem Stp.take {B Z H : Hp} {σ : L2.St} {env : DEnv} {Fs : Nat → List Addr} (g : Good G B Z H σ env Fs) {i : Nat} {d : D} (h : env[i]? = some (some (.own, d))) : Stp G B Z H σ env (InF Fs) Z H σ (env.set i none) (offF Fs i) := by
  refine ⟨Same.refl Z, fun _ _ e _ => e, g.take i, fun a m => .inr (inF_off m), fun _ m => .inl m, fun j d' e => ?_, fun j d' e => ?_, fun j d' e => ?_, fun j d' e => ?_, by rw [List.length_set]⟩
  all_goals
    by_cases hj : j = i
    · subst hj
      first
        | (rw [h] at e; cases e)
        | (rw [List.getElem?_set_self'] at e; cases hq : env[j]? <;> rw [hq] at e <;> cases e)
    · have n1 : (env.set i none)[j]? = env[j]? := List.getElem?_set_ne (fun z => hj z.symm)
      first
        | (rw [n1] at e; exact ⟨e, rfl⟩)
        | (rw [n1]; exact ⟨e, rfl⟩)
        | (rw [n1]; exact ⟨⟨d', e⟩, rfl⟩)
theorem e_mov {e : Expr} {i : Nat} (h : PE X e (tVar i)) : PE X e (TV G W (eMov i)) :=
  h.imp fun σ H Q ⟨B, Z, Fs, env, gd, hF⟩ => by
    unfold eMov at hF
    cases hs : env[i]? with
    | none => rw [hs] at hF; exact hF.elim
    | some sl =>
      match sl, hs with
      | none, hs => rw [hs] at hF; exact hF.elim
      | some (m, d), hs =>
        rw [hs] at hF
        have hF : FinV G W B Z H σ env (InF Fs) (if m = .own then .ok (d, env.set i none) else .bad) Q := hF
        by_cases hm : m = .own
        · subst hm
          rw [if_pos rfl] at hF
          have hsl := gd.sl i
          rw [hs] at hsl
          obtain ⟨v, ev, ho⟩ := hsl
          refine ⟨v, ev, hF v Z H (offF Fs i) (Fs i) ⟨Stp.take gd hs, ⟨v, [], Fs i, [], rfl, by simp, ho, rfl, rfl⟩, gd.nd i, fun a m n => ?_, fun a m => gd.fr i a m, fun a m => .inr ⟨i, m⟩⟩⟩
          obtain ⟨j, n⟩ := n
          unfold offF at n
          split at n
          · cases n
          · rename_i hne
            exact hne (gd.dj j i a n m)
        · rw [if_neg hm] at hF
          exact hF.elim
end
end DL

namespace DL
open PySem PySem.Spec PyProof.Rows L2

structure DX (X : Cx) (G : Gc) : Prop where
  K : X.K = G.K
  calm : X.calm = true
  nd : X.N.Nodup
  un : X.A.units + 70 < cLine

/-! ### data as PyData -/
mutual
def D.py : D → Option PyData
  | .non => some .none
  | .bl b => some (.bool b)
  | .int i => some (.int i)
  | .str s => some (.str s)
  | .scr _ => none
  | .tupF _ xs => (D.pyL xs).map .tuple
  | .lst xs => (D.pyL xs).map .list
  | .dk _ _ => none
  | .dt _ _ => none
  | .obj _ _ _ => none
def D.pyL : List D → Option (List PyData)
  | [] => some []
  | d :: r => match d.py, D.pyL r with
    | some p, some q => some (p :: q)
    | _, _ => none
end
mutual
theorem Own.dp {G : Gc} {H : Hp} : ∀ (d : D) (v : V) (p : PyData), Own G H H d v [] → d.py = some p → Dp G.K H v p
  | .non, v, p, h, e => by
    cases (show some PyData.none = some p from e)
    rw [h.1]; exact .non
  | .bl b, v, p, h, e => by
    cases (show some (PyData.bool b) = some p from e)
    rw [h.1]; exact .bl b
  | .int i, v, p, h, e => by
    cases (show some (PyData.int i) = some p from e)
    rw [h.1]; exact .int i
  | .str s, v, p, h, e => by
    cases (show some (PyData.str s) = some p from e)
    rw [h.1]; exact .str s
  | .tupF f xs, v, p, h, e => by
    have e : (D.pyL xs).map PyData.tuple = some p := e
    obtain ⟨a, vs, rfl, h1, h2⟩ := h
    cases hq : D.pyL xs with
    | none => rw [hq] at e; cases e
    | some q =>
      rw [hq] at e
      cases e
      exact .tup h1.seq (OwnL.dp xs vs q h2 hq)
  | .lst xs, v, p, h, e => by
    have e : (D.pyL xs).map PyData.list = some p := e
    obtain ⟨a, vs, F', rfl, n, h2⟩ := h
    cases hq : D.pyL xs with
    | none => rw [hq] at e; cases e
    | some q =>
      rw [hq] at e
      cases e
      rcases n with ⟨hs, _, rfl⟩ | ⟨z, _⟩
      · exact .lst (.inl hs) (OwnL.dp xs vs q h2 hq)
      · cases z
  | .scr _, v, p, h, e => by cases e
  | .dk _ _, v, p, h, e => by cases e
  | .dt _ _, v, p, h, e => by cases e
  | .obj _ _ _, v, p, h, e => by cases e
theorem OwnL.dp {G : Gc} {H : Hp} : ∀ (ds : List D) (vs : List V) (ps : List PyData), OwnL G H H ds vs [] → D.pyL ds = some ps → DpAll G.K H vs ps
  | [], vs, ps, h, e => by
    cases (show some ([] : List PyData) = some ps from e)
    rw [h.1]; exact .nil
  | d :: r, vs, ps, h, e => by
    obtain ⟨v, r', rfl, h1, h2⟩ := OwnL.uncons h
    have e : (match d.py, D.pyL r with
      | some p, some q => some (p :: q)
      | _, _ => none) = some ps := e
    cases hp : d.py with
    | none => rw [hp] at e; cases e
    | some p =>
      cases hq : D.pyL r with
      | none => rw [hp, hq] at e; cases e
      | some q =>
        rw [hp, hq] at e
        cases e
        exact .cons (Own.dp d v p h1 hp) (OwnL.dp r r' q h2 hq)
end

section
variable {G : Gc} {H : Hp}
theorem own1 {a : D} {vs : List V} (h : OwnL G H H [a] vs []) : ∃ x, vs = [x] ∧ Own G H H a x [] := by
  obtain ⟨x, r, rfl, h1, h2⟩ := OwnL.uncons h
  obtain ⟨rfl, _⟩ := h2
  exact ⟨x, rfl, h1⟩
theorem own2 {a b : D} {vs : List V} (h : OwnL G H H [a, b] vs []) : ∃ x y, vs = [x, y] ∧ Own G H H a x [] ∧ Own G H H b y [] := by
  obtain ⟨x, r, rfl, h1, h2⟩ := OwnL.uncons h
  obtain ⟨y, rfl, h3⟩ := own1 h2
  exact ⟨x, y, rfl, h1, h3⟩
theorem own3 {a b c : D} {vs : List V} (h : OwnL G H H [a, b, c] vs []) : ∃ x y z, vs = [x, y, z] ∧ Own G H H a x [] ∧ Own G H H b y [] ∧ Own G H H c z [] := by
  obtain ⟨x, r, rfl, h1, h2⟩ := OwnL.uncons h
  obtain ⟨y, z, rfl, h3, h4⟩ := own2 h2
  exact ⟨x, y, z, rfl, h1, h3, h4⟩
theorem Own.lstR {ds : List D} {v : V} (h : Own G H H (.lst ds) v []) : ∃ a vs, v = .ref a ∧ SqL G.K H a vs ∧ OwnL G H H ds vs [] := by
  obtain ⟨a, vs, F', rfl, n, h2⟩ := h
  rcases n with ⟨hs, _, rfl⟩ | ⟨z, _⟩
  · exact ⟨a, vs, rfl, .inl hs, h2⟩
  · cases z
theorem Own.tupR {ds : List D} {v : V} (h : Own G H H (.tup ds) v []) : ∃ a vs, v = .ref a ∧ H a = some (.tup vs) ∧ OwnL G H H ds vs [] := h
theorem OwnL.pure_any {Z Z' : Hp} {ds : List D} {vs : List V} {F : List Addr} (hp : D.pureL ds = true) (h : OwnL G Z H ds vs F) : OwnL G Z' H ds vs [] := (OwnL.ofPure ds vs F hp h).2
/-- a new tuple of pure items -/
theorem new_tup {H : Hp} {ds : List D} {vs : List V} {p : Addr} (hp : D.pureL ds = true) (hn : H p = none) (h : OwnL G H H ds vs []) (Z : Hp) : Own G Z (upd H p (.tup vs)) (.tup ds) (.ref p) [] :=
  ⟨p, vs, rfl, (upd_same : upd H p (.tup vs) p = some (.tup vs)), OwnL.keep (Same.refl Z) ds vs [] (fun b u e _ => same_upd hn b u e) (OwnL.pure_any hp h)⟩
/-- a new list of pure items -/
theorem new_lst {H : Hp} {ds : List D} {vs : List V} {p : Addr} (hp : D.pureL ds = true) (hn : H p = none) (h : OwnL G H H ds vs []) (Z : Hp) : Own G Z (upd H p (.lst vs)) (.lst ds) (.ref p) [p] :=
  ⟨p, vs, [], rfl, .inr ⟨rfl, upd_same⟩, OwnL.keep (Same.refl Z) ds vs [] (fun b u e _ => same_upd hn b u e) (OwnL.pure_any hp h)⟩
end

theorem D.pureL_append : ∀ (a b : List D), D.pureL (a ++ b) = (D.pureL a && D.pureL b)
  | [], b => by simp [D.pureL]
  | d :: r, b => by
    show (d.pure && D.pureL (r ++ b)) = (d.pure && D.pureL r && D.pureL b)
    rw [D.pureL_append r b, Bool.and_assoc]
theorem D.pureL_drop : ∀ (n : Nat) (a : List D), D.pureL a = true → D.pureL (a.drop n) = true
  | 0, a, h => h
  | n + 1, [], h => rfl
  | n + 1, d :: r, h => D.pureL_drop n r (by
    have h : (d.pure && D.pureL r) = true := h
    simp only [Bool.and_eq_true] at h
    exact h.2)
theorem D.pureL_take : ∀ (n : Nat) (a : List D), D.pureL a = true → D.pureL (a.take n) = true
  | 0, a, h => rfl
  | n + 1, [], h => rfl
  | n + 1, d :: r, h => by
    have h : (d.pure && D.pureL r) = true := h
    simp only [Bool.and_eq_true] at h
    show (d.pure && D.pureL (r.take n)) = true
    rw [h.1, D.pureL_take n r h.2]; rfl
theorem OwnL.drop {G : Gc} {Z H : Hp} : ∀ (n : Nat) {ds : List D} {vs : List V}, OwnL G Z H ds vs [] → OwnL G Z H (ds.drop n) (vs.drop n) []
  | 0, ds, vs, h => h
  | n + 1, [], vs, h => by rw [h.1]; exact ⟨rfl, rfl⟩
  | n + 1, d :: r, vs, h => by
    obtain ⟨v, r', rfl, _, h2⟩ := OwnL.uncons h
    exact OwnL.drop n h2
theorem OwnL.take {G : Gc} {Z H : Hp} : ∀ (n : Nat) {ds : List D} {vs : List V}, OwnL G Z H ds vs [] → OwnL G Z H (ds.take n) (vs.take n) []
  | 0, ds, vs, h => ⟨rfl, rfl⟩
  | n + 1, [], vs, h => by rw [h.1]; exact ⟨rfl, rfl⟩
  | n + 1, d :: r, vs, h => by
    obtain ⟨v, r', rfl, h1, h2⟩ := OwnL.uncons h
    exact OwnL.cons_nil h1 (OwnL.take n h2)

/-! ### the operations -/
def bin (f : D → D → Option D) : List D → Option D
  | [a, b] => f a b
  | _ => none
def una (f : D → Option D) : List D → Option D
  | [a] => f a
  | _ => none
theorem bin_some {f : D → D → Option D} : ∀ {ds : List D} {d : D}, bin f ds = some d → ∃ a b, ds = [a, b] ∧ f a b = some d
  | [], _, h => by cases h
  | [_], _, h => by cases h
  | [a, b], _, h => ⟨a, b, rfl, h⟩
  | _ :: _ :: _ :: _, _, h => by cases h
theorem una_some {f : D → Option D} : ∀ {ds : List D} {d : D}, una f ds = some d → ∃ a, ds = [a] ∧ f a = some d
  | [], _, h => by cases h
  | [a], _, h => ⟨a, rfl, h⟩
  | _ :: _ :: _, _, h => by cases h
def D.toInt : D → Option Int
  | .int i => some i
  | _ => none
def D.toStr : D → Option Str
  | .str i => some i
  | _ => none
def D.toTup : D → Option (List D)
  | .tupF false i => some i
  | _ => none
def D.toLst : D → Option (List D)
  | .lst i => some i
  | _ => none
/-- lists, and the script -/
def D.toRow : D → Option (List D)
  | .lst i => some i
  | .scr ns => some (ns.map D.int)
  | _ => none
theorem ints_rep {G : Gc} {Z H : Hp} : ∀ ns : List Int, OwnL G Z H (ns.map D.int) (ns.map V.int) []
  | [] => ⟨rfl, rfl⟩
  | i :: r => OwnL.cons_nil ⟨rfl, rfl⟩ (ints_rep r)
theorem Own.rowR {G : Gc} {H : Hp} {d : D} {ds : List D} {v : V} (h : Own G H H d v []) (e : d.toRow = some ds) : ∃ a vs, v = .ref a ∧ SqL G.K H a vs ∧ OwnL G H H ds vs [] := by
  cases d with
  | lst xs => cases e; exact h.lstR
  | scr ns =>
    cases e
    obtain ⟨_, a, rfl, hs⟩ := h
    exact ⟨a, _, rfl, hs, ints_rep ns⟩
  | _ => cases e
theorem D.toInt_some {d : D} {i : Int} (h : d.toInt = some i) : d = .int i := by
  cases d <;> first | (cases h; rfl) | cases h
theorem D.toStr_some {d : D} {i : Str} (h : d.toStr = some i) : d = .str i := by
  cases d <;> first | (cases h; rfl) | cases h
theorem D.toTup_some {d : D} {i : List D} (h : d.toTup = some i) : d = .tup i := by
  cases d with
  | tupF f xs => cases f <;> first | (cases h; rfl) | cases h
  | _ => cases h
def D.toTupA : D → Option (List D)
  | .tupF _ i => some i
  | _ => none
theorem D.toTupA_some {d : D} {i : List D} (h : d.toTupA = some i) : ∃ f, d = .tupF f i := by
  cases d with
  | tupF f xs => cases h; exact ⟨f, rfl⟩
  | _ => cases h
theorem D.toLst_some {d : D} {i : List D} (h : d.toLst = some i) : d = .lst i := by
  cases d <;> first | (cases h; rfl) | cases h
def bI (f : Int → Int → Option D) : D → D → Option D := fun a b => match a.toInt, b.toInt with
  | some i, some j => f i j
  | _, _ => none
theorem bI_some {f : Int → Int → Option D} {a b d : D} (h : bI f a b = some d) : ∃ i j, a = .int i ∧ b = .int j ∧ f i j = some d := by
  unfold bI at h
  cases ha : a.toInt with
  | none => rw [ha] at h; cases h
  | some i =>
    cases hb : b.toInt with
    | none => rw [ha, hb] at h; cases h
    | some j =>
      rw [ha, hb] at h
      exact ⟨i, j, D.toInt_some ha, D.toInt_some hb, h⟩
def bS (f : Str → Str → Option D) : D → D → Option D := fun a b => match a.toStr, b.toStr with
  | some i, some j => f i j
  | _, _ => none
theorem bS_some {f : Str → Str → Option D} {a b d : D} (h : bS f a b = some d) : ∃ i j, a = .str i ∧ b = .str j ∧ f i j = some d := by
  unfold bS at h
  cases ha : a.toStr with
  | none => rw [ha] at h; cases h
  | some i =>
    cases hb : b.toStr with
    | none => rw [ha, hb] at h; cases h
    | some j =>
      rw [ha, hb] at h
      exact ⟨i, j, D.toStr_some ha, D.toStr_some hb, h⟩
def bT (f : List D → List D → Option D) : D → D → Option D := fun a b => match a.toTup, b.toTup with
  | some i, some j => f i j
  | _, _ => none
theorem bT_some {f : List D → List D → Option D} {a b d : D} (h : bT f a b = some d) : ∃ i j, a = .tup i ∧ b = .tup j ∧ f i j = some d := by
  unfold bT at h
  cases ha : a.toTup with
  | none => rw [ha] at h; cases h
  | some i =>
    cases hb : b.toTup with
    | none => rw [ha, hb] at h; cases h
    | some j =>
      rw [ha, hb] at h
      exact ⟨i, j, D.toTup_some ha, D.toTup_some hb, h⟩
def bL (f : List D → List D → Option D) : D → D → Option D := fun a b => match a.toLst, b.toLst with
  | some i, some j => f i j
  | _, _ => none
theorem bL_some {f : List D → List D → Option D} {a b d : D} (h : bL f a b = some d) : ∃ i j, a = .lst i ∧ b = .lst j ∧ f i j = some d := by
  unfold bL at h
  cases ha : a.toLst with
  | none => rw [ha] at h; cases h
  | some i =>
    cases hb : b.toLst with
    | none => rw [ha, hb] at h; cases h
    | some j =>
      rw [ha, hb] at h
      exact ⟨i, j, D.toLst_some ha, D.toLst_some hb, h⟩
/-- a value where a condition holds -/
def iff? {α : Type} (p : Prop) [Decidable p] (d : α) : Option α := if p then some d else none
theorem iff?_some {α : Type} {p : Prop} [Decidable p] {d e : α} (h : iff? p d = some e) : p ∧ d = e := by
  unfold iff? at h
  split at h
  · rename_i hp; exact ⟨hp, Option.some.inj h⟩
  · cases h
theorem iff?_pos {α : Type} {p : Prop} [Decidable p] (h : p) (d : α) : iff? p d = some d := if_pos h
/-- * is told for what has together less than 2 ^ 26 bits -/
def MulOk (a b : Int) : Prop := a.natAbs.log2 + b.natAbs.log2 < 60000000
instance (a b : Int) : Decidable (MulOk a b) := by unfold MulOk; exact inferInstance

def fAdd (a b : D) : Option D := match a with
  | .int _ => bI (fun i j => some (.int (i + j))) a b
  | .str _ => bS (fun i j => iff? (i.length + j.length ≤ 16777216) (.str (i ++ j))) a b
  | .tupF _ _ => bT (fun x y => iff? (D.pureL x = true ∧ D.pureL y = true ∧ x.length + y.length ≤ 16777216) (.tup (x ++ y))) a b
  | _ => none
abbrev gAdd := bin fAdd
abbrev gSub := bin (bI fun i j => some (.int (i - j)))
abbrev gMul := bin (bI fun i j => iff? (MulOk i j) (.int (i * j)))
abbrev gDiv := bin (bI fun i j => iff? (0 < j ∧ j.natAbs.log2 < 9000) (.int (i / j)))
abbrev gMod := bin (bI fun i j => iff? (0 < j) (.int (i % j)))
abbrev gPow := bin (bI fun i j => iff? (0 ≤ j ∧ j ≤ 1000 ∧ i.natAbs < 1000000) (.int (i ^ j.toNat)))
abbrev gNeg := una fun a => a.toInt.map fun i => .int (-i)
abbrev gCatL := bin (bL fun x y => iff? (D.pureL x = true ∧ D.pureL y = true ∧ x.length + y.length ≤ 16777216) (.lst (x ++ y)))
def gEqB (a b : D) : Option Bool := match a.py, b.py with
  | some p, some q => iff? (SeqAt.shaped p = true ∧ SeqAt.shaped q = true) (PyData.eqv p q)
  | _, _ => none
abbrev gEq := bin fun a b => (gEqB a b).map .bl
abbrev gNe := bin fun a b => (gEqB a b).map fun k => .bl (!k)
def fLt (a b : D) : Option D := match a with
  | .int _ => bI (fun i j => some (.bl (decide (i < j)))) a b
  | .str _ => bS (fun i j => some (.bl (decide (i.cps.toList < j.cps.toList)))) a b
  | _ => none
abbrev gLt := bin fLt
abbrev gLe := bin (bI fun i j => some (.bl (decide (i ≤ j))))
abbrev gGt := bin (bI fun i j => some (.bl (decide (j < i))))
abbrev gGe := bin (bI fun i j => some (.bl (decide (j ≤ i))))
def D.isNon : D → Bool
  | .non => true
  | _ => false
theorem D.isNon_true {d : D} (h : d.isNon = true) : d = .non := by
  cases d <;> first | rfl | cases h
abbrev gIsN := bin fun a b => iff? (b.isNon = true) (.bl a.isNon)
abbrev gNotN := bin fun a b => iff? (b.isNon = true) (.bl (!a.isNon))

theorem size_line : (16777216 : Nat) = sizeLine := sizeLine_eq.symm

section
variable {G : Gc} {X : Cx}
theorem done0 {H : Hp} {d : D} {v : V} {Q : VK} (q : ∀ v H' F, Same H H' → (∀ Z, Own G Z H' d v F) → F.Nodup → (∀ a, a ∈ F → H a = none) → Q v H') (hp : ∀ Z, Own G Z H d v []) : Q v H :=
  q v H [] (Same.refl H) hp List.nodup_nil fun a m => by cases m
/-- an operation on two ints -/
theorem rop_int {C : Int → Int → Prop} {f : Int → Int → V} {h : Int → Int → Option D} {k : Int → Int → D} (hg : ∀ i j d, h i j = some d → C i j ∧ d = k i j) (ho : ∀ i j Z H, Own G Z H (k i j) (f i j) []) : ROp G (l2 (rI C f)) (bin (bI h)) := by
  intro ds vs H Q d hh e q
  obtain ⟨a, b, rfl, e⟩ := bin_some e
  obtain ⟨i, j, rfl, rfl, e⟩ := bI_some e
  obtain ⟨hc, rfl⟩ := hg i j d e
  obtain ⟨x, y, rfl, h1, h2⟩ := own2 hh
  exact ⟨i, j, h1.1, h2.1, hc, done0 q (fun Z => ho i j Z H)⟩
theorem rop_int0 {f : Int → Int → V} {h : Int → Int → Option D} {k : Int → Int → D} (hg : ∀ i j d, h i j = some d → d = k i j) (ho : ∀ i j Z H, Own G Z H (k i j) (f i j) []) : ROp G (l2 (rI0 f)) (bin (bI h)) := by
  intro ds vs H Q d hh e q
  obtain ⟨a, b, rfl, e⟩ := bin_some e
  obtain ⟨i, j, rfl, rfl, e⟩ := bI_some e
  obtain rfl := hg i j d e
  obtain ⟨x, y, rfl, h1, h2⟩ := own2 hh
  exact ⟨i, j, h1.1, h2.1, done0 q (fun Z => ho i j Z H)⟩
theorem pure_int {h : Int → Int → Option D} (hg : ∀ i j d, h i j = some d → d.pure = true) : PureG (bin (bI h)) := by
  intro ds d e
  obtain ⟨a, b, rfl, e⟩ := bin_some e
  obtain ⟨i, j, rfl, rfl, e⟩ := bI_some e
  exact hg i j d e
def rAddA (K : PySem.W.Frag) : R2 := fun x y H Q => (rI0 fun i j => V.int (i + j)) x y H Q ∨ (∃ i j, x = .str i ∧ y = .str j ∧ i.length + j.length ≤ sizeLine ∧ Q (.str (i ++ j)) H) ∨ rCatA K x y H Q
theorem op_addA : OpR X (binaryOp .Add) (rAddA X.K) := OpR.or op_add (OpR.or op_add_str op_catA)
theorem fAdd_some {a b d : D} (h : fAdd a b = some d) : (∃ i j, a = .int i ∧ b = .int j ∧ d = .int (i + j)) ∨ (∃ i j, a = .str i ∧ b = .str j ∧ i.length + j.length ≤ 16777216 ∧ d = .str (i ++ j)) ∨
    ∃ x y, a = .tup x ∧ b = .tup y ∧ (D.pureL x = true ∧ D.pureL y = true ∧ x.length + y.length ≤ 16777216) ∧ d = .tup (x ++ y) := by
  cases a with
  | int _ =>
    obtain ⟨i, j, e1, e2, e3⟩ := bI_some h
    cases e3
    exact .inl ⟨i, j, e1, e2, rfl⟩
  | str _ =>
    obtain ⟨i, j, e1, e2, e3⟩ := bS_some h
    obtain ⟨hl, rfl⟩ := iff?_some e3
    exact .inr (.inl ⟨i, j, e1, e2, hl, rfl⟩)
  | tupF _ _ =>
    obtain ⟨i, j, e1, e2, e3⟩ := bT_some h
    obtain ⟨hl, rfl⟩ := iff?_some e3
    exact .inr (.inr ⟨i, j, e1, e2, hl, rfl⟩)
  | _ => cases h
theorem rop_add : ROp G (l2 (rAddA G.K)) gAdd := by
  intro ds vs H Q d h e q
  obtain ⟨a, b, rfl, e⟩ := bin_some e
  obtain ⟨x, y, rfl, h1, h2⟩ := own2 h
  rcases fAdd_some e with ⟨i, j, rfl, rfl, rfl⟩ | ⟨i, j, rfl, rfl, hl, rfl⟩ | ⟨a, b, rfl, rfl, hl, rfl⟩
  · exact .inl ⟨i, j, h1.1, h2.1, done0 q (fun Z => ⟨rfl, rfl⟩)⟩
  · exact .inr (.inl ⟨i, j, h1.1, h2.1, by rw [← size_line]; exact hl, done0 q (fun Z => ⟨rfl, rfl⟩)⟩)
  · obtain ⟨p, us, rfl, e1, o1⟩ := h1
    obtain ⟨p2, us2, rfl, e2, o2⟩ := h2
    have l1 := OwnL.length o1
    have l2 := OwnL.length o2
    refine .inr (.inr ⟨p, p2, us, us2, rfl, rfl, SqT.of e1, SqT.of e2, by rw [← size_line, l1, l2]; exact hl.2.2, fun z => ?_, fun _ z => ?_, fun _ _ p3 hn => ?_⟩)
    · subst z
      have : a = [] := List.eq_nil_of_length_eq_zero l1.symm
      subst this
      exact done0 q (fun Z => ⟨p2, us2, rfl, e2, OwnL.pure_any hl.2.1 o2⟩)
    · subst z
      have : b = [] := List.eq_nil_of_length_eq_zero l2.symm
      subst this
      rw [List.append_nil] at q
      exact done0 q (fun Z => ⟨p, us, rfl, e1, OwnL.pure_any hl.1 o1⟩)
    · have hpp : D.pureL (a ++ b) = true := by rw [D.pureL_append, hl.1, hl.2.1]; rfl
      have hap := OwnL.append o1 o2
      rw [List.append_nil] at hap
      exact q _ _ [] (same_upd hn) (fun Z => new_tup hpp hn hap Z) List.nodup_nil fun a m => by cases m
theorem pure_add : PureG gAdd := by
  intro ds d e
  obtain ⟨a, b, rfl, e⟩ := bin_some e
  rcases fAdd_some e with ⟨i, j, rfl, rfl, rfl⟩ | ⟨i, j, rfl, rfl, hl, rfl⟩ | ⟨a, b, rfl, rfl, hl, rfl⟩
  · rfl
  · rfl
  · show D.pureL (a ++ b) = true
    rw [D.pureL_append, hl.1, hl.2.1]; rfl
theorem rop_sub : ROp G (l2 (rI0 fun i j => V.int (i - j))) gSub := rop_int0 (k := fun i j => .int (i - j)) (fun i j d e => (Option.some.inj e).symm) fun i j Z H => ⟨rfl, rfl⟩
theorem pure_sub : PureG gSub := pure_int fun i j d e => by cases e; rfl
theorem MulOk.ok {i j : Int} (h : MulOk i j) : IntMulOk i j := by
  have b : ∀ x : Int, Builtin.Int.intBits x ≤ x.natAbs.log2 + 1 := fun x => by
    unfold Builtin.Int.intBits
    split <;> omega
  have h1 := b i
  have h2 := b j
  unfold MulOk at h
  have e : bitsLine = 134217728 := by decide
  unfold IntMulOk
  intro z
  rw [Bool.and_eq_true] at z
  have z2 := z.2
  unfold Builtin.Int.intTooBig at z2
  have z3 := of_decide_eq_true z2
  rw [e] at z3
  omega
theorem op_mulD : OpR X (binaryOp .Mult) (rI MulOk fun i j => .int (i * j)) := opI fun _ _ _ _ _ _ _ hc q => mul_int q hc.ok
theorem rop_mul : ROp G (l2 (rI MulOk fun i j => V.int (i * j))) gMul := rop_int (k := fun i j => .int (i * j)) (fun i j d e => by
  obtain ⟨h, rfl⟩ := iff?_some e
  exact ⟨h, rfl⟩) fun i j Z H => ⟨rfl, rfl⟩
theorem pure_mul : PureG gMul := pure_int fun i j d e => by
  obtain ⟨h, rfl⟩ := iff?_some e
  rfl
theorem rop_div : ROp G (l2 (rI CDivW fun i j => V.int (i / j))) gDiv := rop_int (k := fun i j => .int (i / j)) (fun i j d e => by
  obtain ⟨h, rfl⟩ := iff?_some e
  exact ⟨h, rfl⟩) fun i j Z H => ⟨rfl, rfl⟩
theorem pure_div : PureG gDiv := pure_int fun i j d e => by
  obtain ⟨h, rfl⟩ := iff?_some e
  rfl
theorem rop_mod : ROp G (l2 (rI (fun _ j => 0 < j) fun i j => V.int (i % j))) gMod := rop_int (k := fun i j => .int (i % j)) (fun i j d e => by
  obtain ⟨h, rfl⟩ := iff?_some e
  exact ⟨h, rfl⟩) fun i j Z H => ⟨rfl, rfl⟩
theorem pure_mod : PureG gMod := pure_int fun i j d e => by
  obtain ⟨h, rfl⟩ := iff?_some e
  rfl
theorem rop_pow : ROp G (l2 (rI CPow fun i j => V.int (i ^ j.toNat))) gPow := rop_int (k := fun i j => .int (i ^ j.toNat)) (fun i j d e => by
  obtain ⟨h, rfl⟩ := iff?_some e
  exact ⟨⟨h.1, by omega, by omega⟩, rfl⟩) fun i j Z H => ⟨rfl, rfl⟩
theorem pure_pow : PureG gPow := pure_int fun i j d e => by
  obtain ⟨h, rfl⟩ := iff?_some e
  rfl
theorem rop_neg : ROp G (l1 (rU fun i => V.int (-i))) gNeg := by
  intro ds vs H Q d h e q
  obtain ⟨a, rfl, e2⟩ := una_some e
  clear e
  cases ha : a.toInt with
  | none => rw [ha] at e2; cases e2
  | some i =>
    rw [ha] at e2
    cases e2
    obtain rfl := D.toInt_some ha
    obtain ⟨x, rfl, h1⟩ := own1 h
    exact ⟨i, h1.1, done0 q (fun Z => ⟨rfl, rfl⟩)⟩
theorem pure_neg : PureG gNeg := by
  intro ds d e
  obtain ⟨a, rfl, e2⟩ := una_some e
  clear e
  cases ha : a.toInt with
  | none => rw [ha] at e2; cases e2
  | some i =>
    rw [ha] at e2
    cases e2
    rfl
theorem gEqB_some {a b : D} {k : Bool} (h : gEqB a b = some k) : ∃ p q, a.py = some p ∧ b.py = some q ∧ SeqAt.shaped p = true ∧ SeqAt.shaped q = true ∧ k = PyData.eqv p q := by
  unfold gEqB at h
  cases hp : a.py with
  | none => rw [hp] at h; cases h
  | some p =>
    cases hq : b.py with
    | none => rw [hp, hq] at h; cases h
    | some q =>
      rw [hp, hq] at h
      obtain ⟨hs, e⟩ := iff?_some h
      exact ⟨p, q, rfl, rfl, hs.1, hs.2, e.symm⟩
theorem map_some' {α β : Type} {f : α → β} {o : Option α} {b : β} (h : o.map f = some b) : ∃ a, o = some a ∧ f a = b := by
  cases o with
  | none => cases h
  | some a => exact ⟨a, rfl, Option.some.inj h⟩
theorem rop_eq : ROp G (l2 (rEqD G.K)) gEq := by
  intro ds vs H Q d h e q
  obtain ⟨a, b, rfl, e⟩ := bin_some e
  obtain ⟨x, y, rfl, h1, h2⟩ := own2 h
  obtain ⟨k, hk, rfl⟩ := map_some' e
  obtain ⟨p, r, ep, er, sp, sr, rfl⟩ := gEqB_some hk
  exact ⟨p, r, Own.dp a x p h1 ep, Own.dp b y r h2 er, sp, sr, done0 q (fun Z => ⟨rfl, rfl⟩)⟩
theorem pure_eq : PureG gEq := by
  intro ds d e
  obtain ⟨a, b, rfl, e⟩ := bin_some e
  obtain ⟨k, hk, rfl⟩ := map_some' e
  rfl
theorem rop_ne : ROp G (l2 (rNeD G.K)) gNe := by
  intro ds vs H Q d h e q
  obtain ⟨a, b, rfl, e⟩ := bin_some e
  obtain ⟨x, y, rfl, h1, h2⟩ := own2 h
  obtain ⟨k, hk, rfl⟩ := map_some' e
  obtain ⟨p, r, ep, er, sp, sr, rfl⟩ := gEqB_some hk
  exact ⟨p, r, Own.dp a x p h1 ep, Own.dp b y r h2 er, sp, sr, done0 q (fun Z => ⟨rfl, rfl⟩)⟩
theorem pure_ne : PureG gNe := by
  intro ds d e
  obtain ⟨a, b, rfl, e⟩ := bin_some e
  obtain ⟨k, hk, rfl⟩ := map_some' e
  rfl
def rLtA : R2 := fun x y H Q => (rI0 fun i j => V.bl (decide (i < j))) x y H Q ∨ (∃ i j, x = .str i ∧ y = .str j ∧ Q (.bl (decide (i.cps.toList < j.cps.toList))) H)
theorem op_ltA : OpR X (compareOp .Lt) rLtA := OpR.or op_lt op_lt_str
theorem fLt_some {a b d : D} (h : fLt a b = some d) : (∃ i j, a = .int i ∧ b = .int j ∧ d = .bl (decide (i < j))) ∨ ∃ i j, a = .str i ∧ b = .str j ∧ d = .bl (decide (i.cps.toList < j.cps.toList)) := by
  cases a with
  | int _ =>
    obtain ⟨i, j, e1, e2, e3⟩ := bI_some h
    cases e3
    exact .inl ⟨i, j, e1, e2, rfl⟩
  | str _ =>
    obtain ⟨i, j, e1, e2, e3⟩ := bS_some h
    cases e3
    exact .inr ⟨i, j, e1, e2, rfl⟩
  | _ => cases h
theorem rop_lt : ROp G (l2 rLtA) gLt := by
  intro ds vs H Q d h e q
  obtain ⟨a, b, rfl, e⟩ := bin_some e
  obtain ⟨x, y, rfl, h1, h2⟩ := own2 h
  rcases fLt_some e with ⟨i, j, rfl, rfl, rfl⟩ | ⟨i, j, rfl, rfl, rfl⟩
  · exact .inl ⟨i, j, h1.1, h2.1, done0 q (fun Z => ⟨rfl, rfl⟩)⟩
  · exact .inr ⟨i, j, h1.1, h2.1, done0 q (fun Z => ⟨rfl, rfl⟩)⟩
theorem pure_lt : PureG gLt := by
  intro ds d e
  obtain ⟨a, b, rfl, e⟩ := bin_some e
  rcases fLt_some e with ⟨i, j, rfl, rfl, rfl⟩ | ⟨i, j, rfl, rfl, rfl⟩ <;> rfl
theorem rop_le : ROp G (l2 (rI0 fun i j => V.bl (decide (i ≤ j)))) gLe := rop_int0 (k := fun i j => .bl (decide (i ≤ j))) (fun i j d e => (Option.some.inj e).symm) fun i j Z H => ⟨rfl, rfl⟩
theorem pure_le : PureG gLe := pure_int fun i j d e => by cases e; rfl
theorem rop_gt : ROp G (l2 (rI0 fun i j => V.bl (decide (j < i)))) gGt := rop_int0 (k := fun i j => .bl (decide (j < i))) (fun i j d e => (Option.some.inj e).symm) fun i j Z H => ⟨rfl, rfl⟩
theorem pure_gt : PureG gGt := pure_int fun i j d e => by cases e; rfl
theorem rop_ge : ROp G (l2 (rI0 fun i j => V.bl (decide (j ≤ i)))) gGe := rop_int0 (k := fun i j => .bl (decide (j ≤ i))) (fun i j d e => (Option.some.inj e).symm) fun i j Z H => ⟨rfl, rfl⟩
theorem pure_ge : PureG gGe := pure_int fun i j d e => by cases e; rfl
theorem Own.isNon {Z H : Hp} {d : D} {v : V} {F : List Addr} (h : Own G Z H d v F) : decide (v = V.non) = d.isNon := by
  cases d with
  | non => rw [h.1]; rfl
  | bl _ => rw [h.1]; rfl
  | int _ => rw [h.1]; rfl
  | str _ => rw [h.1]; rfl
  | scr _ => obtain ⟨_, a, rfl, _⟩ := h; rfl
  | tupF _ _ => obtain ⟨a, _, rfl, _⟩ := h; rfl
  | lst _ => obtain ⟨a, _, _, rfl, _⟩ := h; rfl
  | dk _ _ => obtain ⟨a, _, _, rfl, _⟩ := h; rfl
  | dt _ _ => obtain ⟨a, _, _, rfl, _⟩ := h; rfl
  | obj _ _ _ => obtain ⟨a, _, _, _, _, rfl, _⟩ := h; rfl
theorem rop_isN : ROp G (l2 fun x y H Q => y = .non ∧ Q (.bl (decide (x = .non))) H) gIsN := by
  intro ds vs H Q d h e q
  obtain ⟨a, b, rfl, e⟩ := bin_some e
  obtain ⟨hb, rfl⟩ := iff?_some e
  obtain rfl := D.isNon_true hb
  obtain ⟨x, y, rfl, h1, h2⟩ := own2 h
  refine ⟨h2.1, ?_⟩
  rw [h1.isNon]
  exact done0 q (fun Z => ⟨rfl, rfl⟩)
theorem pure_isN : PureG gIsN := by
  intro ds d e
  obtain ⟨a, b, rfl, e⟩ := bin_some e
  obtain ⟨hb, rfl⟩ := iff?_some e
  rfl
theorem rop_notN : ROp G (l2 fun x y H Q => y = .non ∧ Q (.bl (!decide (x = .non))) H) gNotN := by
  intro ds vs H Q d h e q
  obtain ⟨a, b, rfl, e⟩ := bin_some e
  obtain ⟨hb, rfl⟩ := iff?_some e
  obtain rfl := D.isNon_true hb
  obtain ⟨x, y, rfl, h1, h2⟩ := own2 h
  refine ⟨h2.1, ?_⟩
  rw [h1.isNon]
  exact done0 q (fun Z => ⟨rfl, rfl⟩)
theorem pure_notN : PureG gNotN := by
  intro ds d e
  obtain ⟨a, b, rfl, e⟩ := bin_some e
  obtain ⟨hb, rfl⟩ := iff?_some e
  rfl

/-! ### binary operators, comparisons, signs -/
variable {W : Wsh} {a b : Expr} {ta tb : TE} {pos : Pos} {s1 s2 : SArg} {c : Chn} {r : R2} {g : List D → Option D}
theorem p_bin {op : Operator} (ho : OpR X (binaryOp op) r) (hr : ROp G (l2 r) g) (hp : PureG g) (ha : PE X a (s1.te G)) (hb : PE X b (s2.te G)) : PE X (.BinOp a op b pos) (TPur G (hOp [s1, s2] g)) :=
  (pe_op ho ha hb).imp fun σ H Q h => tpur_op hr hp σ H Q h
theorem e_bin {op : Operator} (ho : OpR X (binaryOp op) r) (hr : ROp G (l2 r) g) (c : Chn) (ha : PE X a ta) (hb : PE X b tb) (hc : c.tes G W = [ta, tb] := by rfl) (hn : c.iofs.any id = false := by rfl) : PE X (.BinOp a op b pos) (TV G W (eOp c g)) :=
  (pe_op ho ha hb).imp fun σ H Q h => by
    have q := tv_op hr hn σ H Q h
    rw [hc] at q
    exact q
theorem p_un {op : UnaryOp} {r : V → Hp → VK → Prop} (ho : UnR X (unaryOp op) r) (hr : ROp G (l1 r) g) (hp : PureG g) (ha : PE X a (s1.te G)) : PE X (.UnaryOp op a pos) (TPur G (hOp [s1] g)) :=
  (pe_un ho ha).imp fun σ H Q h => tpur_op hr hp σ H Q h
theorem p_cmp {op : CmpOp} (ho : OpR X (compareOp op) r) (hr : ROp G (l2 r) g) (hp : PureG g) (ha : PE X a (s1.te G)) (hb : PE X b (s2.te G)) (hm : behindInMarks op b = false := by first | exact nomark _ | rfl) : PE X (.Compare a [op] [b] pos) (TPur G (hOp [s1, s2] g)) :=
  (pe_cmpR ho ha hb hm).imp fun σ H Q h => tpur_op hr hp σ H Q h
theorem e_cmp {op : CmpOp} (ho : OpR X (compareOp op) r) (hr : ROp G (l2 r) g) (c : Chn) (ha : PE X a ta) (hb : PE X b tb) (hm : behindInMarks op b = false := by first | exact nomark _ | rfl) (hc : c.tes G W = [ta, tb] := by rfl) (hn : c.iofs.any id = false := by rfl) : PE X (.Compare a [op] [b] pos) (TV G W (eOp c g)) :=
  (pe_cmpR ho ha hb hm).imp fun σ H Q h => by
    have q := tv_op hr hn σ H Q h
    rw [hc] at q
    exact q
end
end DL

namespace DL
open PySem PySem.Spec PyProof.Rows L2

/-! ### places -/
def dIx (d : D) (i : Int) : Option D := match d with
  | .lst ds => atI ds i
  | .tupF _ ds => atI ds i
  | .scr ns => (atI ns i).map .int
  | _ => none
theorem atI_map {α β : Type} (f : α → β) (l : List α) (i : Int) : atI (l.map f) i = (atI l i).map f := by
  unfold atI
  rw [List.length_map]
  cases ixN l.length i with
  | none => rfl
  | some j => exact List.getElem?_map
def gAt (d k : D) : Option D := match k.toInt with
  | some i => dIx d i
  | none => none
def pIx (g h : DEnv → Option D) : DEnv → Option D := fun env => match g env, h env with
  | some d, some k => gAt d k
  | _, _ => none
theorem atI_own {G : Gc} {Z H : Hp} {ds : List D} {vs : List V} {i : Int} {d : D} (h : OwnL G Z H ds vs []) (e : atI ds i = some d) : ∃ v, atI vs i = some v ∧ Own G Z H d v [] := by
  have l := OwnL.length h
  unfold atI at e ⊢
  rw [l]
  cases hj : ixN ds.length i with
  | none => rw [hj] at e; cases e
  | some j =>
    rw [hj] at e
    exact OwnL.get (i := j) h e
theorem lockB_mono {B H H1 : Hp} {Fs : Nat → List Addr} {i : Nat} (h : Same H H1) : Same (lockB B H Fs i) (lockB B H1 Fs i) := fun a o e => by
  unfold lockB lay at e ⊢
  split
  · rename_i m
    rw [if_pos m] at e
    exact h _ _ e
  · rename_i m
    rw [if_neg m] at e
    exact e
theorem Good.joi_up {G : Gc} {B Z H H1 : Hp} {σ : L2.St} {env : DEnv} {Fs : Nat → List Addr} (g : Good G B Z H σ env Fs) (hs : Same H H1) (i : Nat) : Same (joi (lockB B H Fs i) Z) (joi (lockB B H1 Fs i) Z) :=
  joi_mono (lockB_mono hs) (Same.refl Z) (lockB_le (g.grow hs) i) (g.grow hs).sz
theorem Good.joi_in {G : Gc} {B Z H : Hp} {σ : L2.St} {env : DEnv} {Fs : Nat → List Addr} (g : Good G B Z H σ env Fs) (i : Nat) : Same (joi (lockB B H Fs i) Z) H := joi_le (lockB_le g i) g.sz
/-- a list or tuple that is read in Y -/
theorem Own.seq {G : Gc} {Y H : Hp} {d : D} {v : V} {i : Int} {e : D} (hY : Same Y H) (h : Own G Y H d v []) (hi : dIx d i = some e) :
    ∃ a vs u, v = .ref a ∧ (SqL G.K H a vs ∨ SqT G.K H a vs) ∧ atI vs i = some u ∧ Own G Y H e u [] := by
  cases d with
  | lst ds =>
    obtain ⟨a, vs, F', rfl, n, h2⟩ := h
    rcases n with ⟨hs, _, rfl⟩ | ⟨z, _⟩
    · obtain ⟨u, hu, ho⟩ := atI_own h2 hi
      exact ⟨a, vs, u, rfl, .inl (hY.seq (.inl hs)), hu, ho⟩
    · cases z
  | tupF f ds =>
    obtain ⟨a, vs, rfl, h1, h2⟩ := h
    obtain ⟨u, hu, ho⟩ := atI_own h2 hi
    exact ⟨a, vs, u, rfl, .inr h1.seq, hu, ho⟩
  | scr ns =>
    obtain ⟨_, a, rfl, hs⟩ := h
    have hi : (atI ns i).map D.int = some e := hi
    cases hn : atI ns i with
    | none => rw [hn] at hi; cases hi
    | some n =>
      rw [hn] at hi
      cases hi
      exact ⟨a, ns.map V.int, .int n, rfl, .inl (hY.seq hs), by rw [atI_map, hn]; rfl, rfl, rfl⟩
  | _ => cases hi
def rIxA (K : PySem.W.Frag) : R2 := fun x y H Q => rIxL K x y H Q ∨ rIxT K x y H Q
section
variable {G : Gc} {X : Cx} {W : Wsh}
theorem ix_any : IxR X (rIxA X.K) := IxR.or ix_list ix_tup
theorem l_ix {a b : Expr} {i : Nat} {g h : DEnv → Option D} {pos : Pos} (dx : DX X G) (ha : PE X a (TPlc G i g)) (hb : PE X b (TPur G h)) (hs : PlainIx b := by exact fun _ _ => rfl) : PE X (.Subscript a b pos) (TPlc G i (pIx g h)) :=
  (pe_ix ix_any ha hb hs).imp fun σ H Q ⟨B, Z, Fs, env, gd, d, hd, q⟩ => by
    unfold pIx at hd
    cases hg : g env with
    | none => rw [hg] at hd; cases hd
    | some d0 =>
      cases hh : h env with
      | none => rw [hg, hh] at hd; cases hd
      | some k =>
        rw [hg, hh] at hd
        have hd : gAt d0 k = some d := hd
        unfold gAt at hd
        cases hk : k.toInt with
        | none => rw [hk] at hd; cases hd
        | some n =>
          rw [hk] at hd
          obtain rfl := D.toInt_some hk
          refine ⟨B, Z, Fs, env, gd, d0, hg, fun v H1 hs1 ho => ?_⟩
          refine ⟨B, Z, Fs, env, gd.grow hs1, _, hh, fun w H2 hs2 _ hw => ?_⟩
          have g2 := gd.grow (hs1.trans hs2)
          have ho2 : Own G (joi (lockB B H2 Fs i) Z) H2 d0 v [] := Own.keep ((gd.grow hs1).joi_up hs2 i) d0 v [] (fun b u e _ => hs2 b u e) ho
          obtain ⟨a, vs, u, rfl, hsq, hu, ho3⟩ := Own.seq (g2.joi_in i) ho2 hd
          have hw0 := (hw Z).1
          subst hw0
          have fin := q u H2 (hs1.trans hs2) ho3
          rcases hsq with hsq | hsq
          · exact .inl ⟨a, vs, n, u, rfl, rfl, by rw [dx.K]; exact hsq, hu, fin⟩
          · exact .inr ⟨a, vs, n, u, rfl, rfl, by rw [dx.K]; exact hsq, hu, fin⟩

/-! ### items and slices, as operations -/
def fIx (d k : D) : Option D := match k.toInt with
  | some i => match d with
    | .str s => match atI s.cps.toList i with
      | some c => iff? (s.length ≤ 16777216) (.str ⟨#[c]⟩)
      | none => none
    | d => match dIx d i with
      | some e => iff? (e.pure = true) e
      | none => none
  | none => none
abbrev gIx := bin fIx
def rIx3 (K : PySem.W.Frag) : R2 := fun x y H Q => rIxL K x y H Q ∨ rIxT K x y H Q ∨ rIxS x y H Q
theorem ix_3 : IxR X (rIx3 X.K) := IxR.or ix_list (IxR.or ix_tup ix_str)
theorem fIx_some {d k e : D} (h : fIx d k = some e) : ∃ i, k = .int i ∧ ((∃ s c, d = .str s ∧ atI s.cps.toList i = some c ∧ s.length ≤ 16777216 ∧ e = .str ⟨#[c]⟩) ∨ (dIx d i = some e ∧ e.pure = true)) := by
  unfold fIx at h
  cases hk : k.toInt with
  | none => rw [hk] at h; cases h
  | some i =>
    rw [hk] at h
    refine ⟨i, D.toInt_some hk, ?_⟩
    cases d with
    | str s =>
      have h : (match atI s.cps.toList i with
        | some c => iff? (s.length ≤ 16777216) (D.str ⟨#[c]⟩)
        | none => none) = some e := h
      cases hc : atI s.cps.toList i with
      | none => rw [hc] at h; cases h
      | some c =>
        rw [hc] at h
        obtain ⟨hl, rfl⟩ := iff?_some h
        exact .inl ⟨s, c, rfl, hc, hl, rfl⟩
    | lst ds =>
      have h : (match dIx (.lst ds) i with
        | some e => iff? (e.pure = true) e
        | none => none) = some e := h
      cases hc : dIx (.lst ds) i with
      | none => rw [hc] at h; cases h
      | some c =>
        rw [hc] at h
        obtain ⟨hl, rfl⟩ := iff?_some h
        exact .inr ⟨rfl, hl⟩
    | tupF f ds =>
      have h : (match dIx (.tupF f ds) i with
        | some e => iff? (e.pure = true) e
        | none => none) = some e := h
      cases hc : dIx (.tupF f ds) i with
      | none => rw [hc] at h; cases h
      | some c =>
        rw [hc] at h
        obtain ⟨hl, rfl⟩ := iff?_some h
        exact .inr ⟨rfl, hl⟩
    | scr ns =>
      have h : (match dIx (.scr ns) i with
        | some e => iff? (e.pure = true) e
        | none => none) = some e := h
      cases hc : dIx (.scr ns) i with
      | none => rw [hc] at h; cases h
      | some c =>
        rw [hc] at h
        obtain ⟨hl, rfl⟩ := iff?_some h
        exact .inr ⟨rfl, hl⟩
    | _ => cases h
theorem rop_ix : ROp G (l2 (rIx3 G.K)) gIx := by
  intro ds vs H Q d h e q
  obtain ⟨a, b, rfl, e⟩ := bin_some e
  obtain ⟨x, y, rfl, h1, h2⟩ := own2 h
  obtain ⟨i, rfl, e2⟩ := fIx_some e
  rcases e2 with ⟨s, c, rfl, hc, hl, rfl⟩ | ⟨he, hp⟩
  · exact .inr (.inr ⟨s, i, c, h1.1, h2.1, by rw [← size_line]; exact hl, hc, done0 q (fun Z => ⟨rfl, rfl⟩)⟩)
  · obtain ⟨p, vs, u, rfl, hsq, hu, ho3⟩ := Own.seq (Same.refl H) h1 he
    have fin := done0 q fun Z => (Own.ofPure (Z' := Z) d u [] hp ho3).2
    rcases hsq with hsq | hsq
    · exact .inl ⟨p, vs, i, u, rfl, h2.1, hsq, hu, fin⟩
    · exact .inr (.inl ⟨p, vs, i, u, rfl, h2.1, hsq, hu, fin⟩)
theorem pure_ix : PureG gIx := by
  intro ds d e
  obtain ⟨a, b, rfl, e⟩ := bin_some e
  obtain ⟨i, rfl, e2⟩ := fIx_some e
  rcases e2 with ⟨s, c, rfl, hc, hl, rfl⟩ | ⟨he, hp⟩
  · rfl
  · exact hp
theorem p_ixo {a b : Expr} {s1 s2 : SArg} {pos : Pos} (dx : DX X G) (ha : PE X a (s1.te G)) (hb : PE X b (s2.te G)) (hs : PlainIx b := by exact fun _ _ => rfl) : PE X (.Subscript a b pos) (TPur G (hOp [s1, s2] gIx)) :=
  (pe_ix ix_3 ha hb hs).imp fun σ H Q h => tpur_op (r := l2 (rIx3 X.K)) (by rw [dx.K]; exact rop_ix) pure_ix σ H Q h
theorem e_ixo {a b : Expr} {ta tb : TE} {pos : Pos} (dx : DX X G) (c : Chn) (ha : PE X a ta) (hb : PE X b tb) (hc : c.tes G W = [ta, tb] := by rfl) (hn : c.iofs.any id = false := by rfl) (hs : PlainIx b := by exact fun _ _ => rfl) : PE X (.Subscript a b pos) (TV G W (eOp c gIx)) :=
  (pe_ix ix_3 ha hb hs).imp fun σ H Q h => by
    have q := tv_op (r := l2 (rIx3 X.K)) (by rw [dx.K]; exact rop_ix) hn σ H Q h
    rw [hc] at q
    exact q

/-- the items from lo up to hi -/
def cutD (xs : List D) (lo hi : Option Int) : List D := (xs.drop (HT.sIx xs.length 0 lo)).take (HT.sIx xs.length xs.length hi - HT.sIx xs.length 0 lo)
theorem cutD_pure {xs : List D} {lo hi : Option Int} (h : D.pureL xs = true) : D.pureL (cutD xs lo hi) = true := D.pureL_take _ _ (D.pureL_drop _ _ h)
theorem cutD_own {Z H : Hp} {xs : List D} {vs : List V} {lo hi : Option Int} (h : OwnL G Z H xs vs []) : OwnL G Z H (cutD xs lo hi) (cutV vs lo hi) [] := by
  have l := OwnL.length h
  unfold cutV cutD
  rw [l]
  exact OwnL.take _ (OwnL.drop _ h)
def fSlP (d : D) (lo hi : Option Int) : Option D := match d with
  | .str s => iff? (s.length ≤ 16777216) (.str (cutS s lo hi))
  | .tupF false xs => iff? (D.pureL xs = true) (.tup (cutD xs lo hi))
  | _ => none
def fSlL (d : D) (lo hi : Option Int) : Option D := match d.toRow with
  | some xs => iff? (D.pureL xs = true) (.lst (cutD xs lo hi))
  | none => none
/-- base, and the parts that are written -/
def sl2 (f : D → Option Int → Option Int → Option D) : List D → Option D
  | [d, l, h] => match l.toInt, h.toInt with
    | some l, some h => f d (some l) (some h)
    | _, _ => none
  | _ => none
def slL (f : D → Option Int → Option Int → Option D) : List D → Option D := bin fun d l => match l.toInt with
  | some l => f d (some l) none
  | none => none
def slH (f : D → Option Int → Option Int → Option D) : List D → Option D := bin fun d h => match h.toInt with
  | some h => f d none (some h)
  | none => none
def sl0 (f : D → Option Int → Option Int → Option D) : List D → Option D := una fun d => f d none none
abbrev RS := V → Option Int → Option Int → Hp → VK → Prop
def rs2 (r : RS) : List V → Hp → VK → Prop := fun vs H Q => match vs with
  | [x, l, h] => ∃ i, l = .int i ∧ ∃ j, h = .int j ∧ r x (some i) (some j) H Q
  | _ => False
def rsL (r : RS) : List V → Hp → VK → Prop := l2 fun x l H Q => ∃ i, l = .int i ∧ r x (some i) none H Q
def rsH (r : RS) : List V → Hp → VK → Prop := l2 fun x h H Q => ∃ j, h = .int j ∧ r x none (some j) H Q
def rs0 (r : RS) : List V → Hp → VK → Prop := l1 fun x H Q => r x none none H Q
/-- a slice by its parts -/
def RSl (G : Gc) (r : RS) (f : D → Option Int → Option Int → Option D) : Prop :=
  ∀ (a : D) (x : V) (lo hi : Option Int) (H : Hp) (Q : VK) (d : D), Own G H H a x [] → f a lo hi = some d → (∀ v H' F, Same H H' → (∀ Z, Own G Z H' d v F) → F.Nodup → (∀ a, a ∈ F → H a = none) → Q v H') → r x lo hi H Q
theorem sl2_some {f : D → Option Int → Option Int → Option D} {ds : List D} {d : D} (h : sl2 f ds = some d) : ∃ a i j, ds = [a, .int i, .int j] ∧ f a (some i) (some j) = some d := by
  match ds, h with
  | [a, l, u], h =>
    have h : (match l.toInt, u.toInt with
      | some l, some h => f a (some l) (some h)
      | _, _ => none) = some d := h
    cases hl : l.toInt with
    | none => rw [hl] at h; cases h
    | some i =>
      cases hu : u.toInt with
      | none => rw [hl, hu] at h; cases h
      | some j =>
        rw [hl, hu] at h
        exact ⟨a, i, j, by rw [D.toInt_some hl, D.toInt_some hu], h⟩
theorem slL_some {f : D → Option Int → Option Int → Option D} {ds : List D} {d : D} (h : slL f ds = some d) : ∃ a i, ds = [a, .int i] ∧ f a (some i) none = some d := by
  obtain ⟨a, l, rfl, h2⟩ := bin_some h
  have h2 : (match l.toInt with
    | some l => f a (some l) none
    | none => none) = some d := h2
  cases hl : l.toInt with
  | none => rw [hl] at h2; cases h2
  | some i =>
    rw [hl] at h2
    exact ⟨a, i, by rw [D.toInt_some hl], h2⟩
theorem slH_some {f : D → Option Int → Option Int → Option D} {ds : List D} {d : D} (h : slH f ds = some d) : ∃ a i, ds = [a, .int i] ∧ f a none (some i) = some d := by
  obtain ⟨a, l, rfl, h2⟩ := bin_some h
  have h2 : (match l.toInt with
    | some l => f a none (some l)
    | none => none) = some d := h2
  cases hl : l.toInt with
  | none => rw [hl] at h2; cases h2
  | some i =>
    rw [hl] at h2
    exact ⟨a, i, by rw [D.toInt_some hl], h2⟩
theorem RSl.r2 {r : RS} {f : D → Option Int → Option Int → Option D} (h : RSl G r f) : ROp G (rs2 r) (sl2 f) := by
  intro ds vs H Q d ho e q
  obtain ⟨a, i, j, rfl, e⟩ := sl2_some e
  obtain ⟨x, y, z, rfl, h1, h2, h3⟩ := own3 ho
  exact ⟨i, h2.1, j, h3.1, h a x _ _ H Q d h1 e q⟩
theorem RSl.rL {r : RS} {f : D → Option Int → Option Int → Option D} (h : RSl G r f) : ROp G (rsL r) (slL f) := by
  intro ds vs H Q d ho e q
  obtain ⟨a, i, rfl, e⟩ := slL_some e
  obtain ⟨x, y, rfl, h1, h2⟩ := own2 ho
  exact ⟨i, h2.1, h a x _ _ H Q d h1 e q⟩
theorem RSl.rH {r : RS} {f : D → Option Int → Option Int → Option D} (h : RSl G r f) : ROp G (rsH r) (slH f) := by
  intro ds vs H Q d ho e q
  obtain ⟨a, i, rfl, e⟩ := slH_some e
  obtain ⟨x, y, rfl, h1, h2⟩ := own2 ho
  exact ⟨i, h2.1, h a x _ _ H Q d h1 e q⟩
theorem RSl.r0 {r : RS} {f : D → Option Int → Option Int → Option D} (h : RSl G r f) : ROp G (rs0 r) (sl0 f) := by
  intro ds vs H Q d ho e q
  obtain ⟨a, rfl, e⟩ := una_some e
  obtain ⟨x, rfl, h1⟩ := own1 ho
  exact h a x _ _ H Q d h1 e q
def PureS (f : D → Option Int → Option Int → Option D) : Prop := ∀ a lo hi d, f a lo hi = some d → d.pure = true
theorem PureS.p2 {f : D → Option Int → Option Int → Option D} (h : PureS f) : PureG (sl2 f) := fun ds d e => by
  obtain ⟨a, i, j, rfl, e⟩ := sl2_some e
  exact h _ _ _ _ e
theorem PureS.pL {f : D → Option Int → Option Int → Option D} (h : PureS f) : PureG (slL f) := fun ds d e => by
  obtain ⟨a, i, rfl, e⟩ := slL_some e
  exact h _ _ _ _ e
theorem PureS.pH {f : D → Option Int → Option Int → Option D} (h : PureS f) : PureG (slH f) := fun ds d e => by
  obtain ⟨a, i, rfl, e⟩ := slH_some e
  exact h _ _ _ _ e
theorem PureS.p0 {f : D → Option Int → Option Int → Option D} (h : PureS f) : PureG (sl0 f) := fun ds d e => by
  obtain ⟨a, rfl, e⟩ := una_some e
  exact h _ _ _ _ e
def rSlP (K : PySem.W.Frag) : RS := fun x lo hi H Q => rSlS x lo hi H Q ∨ rSlA K x lo hi H Q
theorem sl_P : SlR X (rSlP X.K) := SlR.or sl_str sl_tupA
theorem fSlP_some {a d : D} {lo hi : Option Int} (h : fSlP a lo hi = some d) : (∃ s, a = .str s ∧ s.length ≤ 16777216 ∧ d = .str (cutS s lo hi)) ∨ ∃ xs, a = .tup xs ∧ D.pureL xs = true ∧ d = .tup (cutD xs lo hi) := by
  cases a with
  | str s => obtain ⟨hl, rfl⟩ := iff?_some h; exact .inl ⟨s, rfl, hl, rfl⟩
  | tupF f s =>
    cases f with
    | false => obtain ⟨hl, rfl⟩ := iff?_some h; exact .inr ⟨s, rfl, hl, rfl⟩
    | true => cases h
  | _ => cases h
theorem slP_ok : RSl G (rSlP G.K) fSlP := by
  intro a x lo hi H Q d h e q
  rcases fSlP_some e with ⟨s, rfl, hl, rfl⟩ | ⟨xs, rfl, hp, rfl⟩
  · exact .inl ⟨s, h.1, by rw [← size_line]; exact hl, done0 q (fun Z => ⟨rfl, rfl⟩)⟩
  · obtain ⟨p, vs, rfl, e1, o1⟩ := h
    have l := OwnL.length o1
    have oc := cutD_own (lo := lo) (hi := hi) o1
    have pc := cutD_pure (lo := lo) (hi := hi) hp
    refine .inr ⟨p, vs, rfl, SqT.of e1, fun z => ?_, fun z p2 hn => ?_⟩
    · have ec : cutD xs lo hi = xs := by
        rw [l] at z
        unfold cutD
        rw [z.1, z.2, Nat.sub_zero, List.drop_zero, List.take_length]
      rw [ec] at q
      exact done0 q (fun Z => ⟨p, vs, rfl, e1, OwnL.pure_any hp o1⟩)
    · exact q _ _ [] (same_upd hn) (fun Z => new_tup pc hn oc Z) List.nodup_nil fun a m => by cases m
theorem slP_pure : PureS fSlP := fun a lo hi d e => by
  rcases fSlP_some e with ⟨s, rfl, hl, rfl⟩ | ⟨xs, rfl, hp, rfl⟩
  · rfl
  · exact cutD_pure hp
theorem slL_ok : RSl G (rSlL G.K) fSlL := by
  intro a x lo hi H Q d h e q
  unfold fSlL at e
  cases ha : a.toRow with
  | none => rw [ha] at e; cases e
  | some xs =>
    rw [ha] at e
    obtain ⟨hp, rfl⟩ := iff?_some e
    obtain ⟨p, vs, rfl, hs, o1⟩ := h.rowR ha
    refine ⟨p, vs, rfl, hs, fun p2 hn => ?_⟩
    exact q _ _ [p2] (same_upd hn) (fun Z => new_lst (cutD_pure hp) hn (cutD_own o1) Z) (List.nodup_cons.mpr ⟨by simp, List.nodup_nil⟩) fun a m => by
      obtain rfl := List.mem_singleton.mp m
      exact hn
section
variable {e : Expr} {lo hi : Expr} {s1 s2 s3 : SArg} {pos p2 : Pos} {r : RS} {f : D → Option Int → Option Int → Option D} {te tl th : TE}
theorem part_run {h : DEnv → Option D} {σ : L2.St} {H : Hp} {R : V → Hp → Prop} (t : TInt G h σ H R) : TPur G h σ H fun y H2 => ∃ i, y = .int i ∧ R (.int i) H2 := by
  obtain ⟨B, Z, Fs, env, g, i, hi, q⟩ := t
  exact ⟨B, Z, Fs, env, g, _, hi, fun v H' hs _ ho => ⟨i, (ho Z).1, q H' hs⟩⟩
variable {hl hu : DEnv → Option D} {c : Chn}
theorem p_sl2 (hr : SlR X r) (ho : RSl G r f) (hp : PureS f) (he : PE X e (s1.te G)) (pl : PE X lo (TPur G hl)) (ph : PE X hi (TPur G hu)) : PE X (.Subscript e (.Slice (some lo) (some hi) none p2) pos) (TPur G (hOp [s1, .int hl, .int hu] (sl2 f))) :=
  (pe_slice hr he (po_some pl) (po_some ph)).imp fun σ H Q h => by
    have q : s1.te G σ H fun x H1 => TInt G hl σ H1 fun y H2 => TInt G hu σ H2 fun z H3 => rs2 r [x, y, z] H3 Q := tpur_op ho.r2 hp.p2 σ H Q h
    refine SArg.mono (fun x H1 q => ?_) q
    obtain ⟨B, Z, Fs, env, g, d, hd, q⟩ := part_run q
    refine ⟨B, Z, Fs, env, g, d, hd, fun v H' hs hp ho => ?_⟩
    obtain ⟨i, e1, q⟩ := q v H' hs hp ho
    refine ⟨i, e1, ?_⟩
    obtain ⟨B, Z, Fs, env, g, d, hd, q⟩ := part_run q
    refine ⟨B, Z, Fs, env, g, d, hd, fun v H' hs hp ho => ?_⟩
    obtain ⟨j, e2, i2, e3, j2, e4, q⟩ := q v H' hs hp ho
    cases e3
    cases e4
    exact ⟨j, e2, q⟩
theorem p_slL (hr : SlR X r) (ho : RSl G r f) (hp : PureS f) (he : PE X e (s1.te G)) (pl : PE X lo (TPur G hl)) : PE X (.Subscript e (.Slice (some lo) none none p2) pos) (TPur G (hOp [s1, .int hl] (slL f))) :=
  (pe_slice hr he (po_some pl) po_none).imp fun σ H Q h => by
    have q : s1.te G σ H fun x H1 => TInt G hl σ H1 fun y H2 => rsL r [x, y] H2 Q := tpur_op ho.rL hp.pL σ H Q h
    refine SArg.mono (fun x H1 q => ?_) q
    obtain ⟨B, Z, Fs, env, g, d, hd, q⟩ := part_run q
    refine ⟨B, Z, Fs, env, g, d, hd, fun v H' hs hp ho => ?_⟩
    obtain ⟨i, e1, i2, e3, q⟩ := q v H' hs hp ho
    cases e3
    exact ⟨i, e1, q⟩
theorem p_slH (hr : SlR X r) (ho : RSl G r f) (hp : PureS f) (he : PE X e (s1.te G)) (ph : PE X hi (TPur G hu)) : PE X (.Subscript e (.Slice none (some hi) none p2) pos) (TPur G (hOp [s1, .int hu] (slH f))) :=
  (pe_slice hr he po_none (po_some ph)).imp fun σ H Q h => by
    have q : s1.te G σ H fun x H1 => TInt G hu σ H1 fun y H2 => rsH r [x, y] H2 Q := tpur_op ho.rH hp.pH σ H Q h
    refine SArg.mono (fun x H1 q => ?_) q
    obtain ⟨B, Z, Fs, env, g, d, hd, q⟩ := part_run q
    refine ⟨B, Z, Fs, env, g, d, hd, fun v H' hs hp ho => ?_⟩
    obtain ⟨i, e1, i2, e3, q⟩ := q v H' hs hp ho
    cases e3
    exact ⟨i, e1, q⟩
/-- .. the base of any kind -/
theorem e_sl2 (hr : SlR X r) (ho : RSl G r f) (c : Chn) (he : PE X e te) (pl : PE X lo (TPur G hl)) (ph : PE X hi (TPur G hu)) (hc : c.tes G W = [te, TInt G hl, TInt G hu] := by rfl) (hm : ∀ σ H Q Q', (∀ v H, Q v H → Q' v H) → te σ H Q → te σ H Q' := by first | exact fun _ _ _ _ => TV.mono | exact fun _ _ _ _ h => SArg.mono (a := .plc _ _) h | exact fun _ _ _ _ h => SArg.mono (a := .pur _) h) (hn : c.iofs.any id = false := by rfl) : PE X (.Subscript e (.Slice (some lo) (some hi) none p2) pos) (TV G W (eOp c (sl2 f))) :=
  (pe_slice hr he (po_some pl) (po_some ph)).imp fun σ H Q h => by
    have q := tv_op ho.r2 hn σ H Q h
    rw [hc] at q
    have q : te σ H fun x H1 => TInt G hl σ H1 fun y H2 => TInt G hu σ H2 fun z H3 => rs2 r [x, y, z] H3 Q := q
    refine hm _ _ _ _ (fun x H1 q => ?_) q
    obtain ⟨B, Z, Fs, env, g, d, hd, q⟩ := part_run q
    refine ⟨B, Z, Fs, env, g, d, hd, fun v H' hs hp ho => ?_⟩
    obtain ⟨i, e1, q⟩ := q v H' hs hp ho
    refine ⟨i, e1, ?_⟩
    obtain ⟨B, Z, Fs, env, g, d, hd, q⟩ := part_run q
    refine ⟨B, Z, Fs, env, g, d, hd, fun v H' hs hp ho => ?_⟩
    obtain ⟨j, e2, i2, e3, j2, e4, q⟩ := q v H' hs hp ho
    cases e3
    cases e4
    exact ⟨j, e2, q⟩
theorem e_slL (hr : SlR X r) (ho : RSl G r f) (c : Chn) (he : PE X e te) (pl : PE X lo (TPur G hl)) (hc : c.tes G W = [te, TInt G hl] := by rfl) (hm : ∀ σ H Q Q', (∀ v H, Q v H → Q' v H) → te σ H Q → te σ H Q' := by first | exact fun _ _ _ _ => TV.mono | exact fun _ _ _ _ h => SArg.mono (a := .plc _ _) h | exact fun _ _ _ _ h => SArg.mono (a := .pur _) h) (hn : c.iofs.any id = false := by rfl) : PE X (.Subscript e (.Slice (some lo) none none p2) pos) (TV G W (eOp c (slL f))) :=
  (pe_slice hr he (po_some pl) po_none).imp fun σ H Q h => by
    have q := tv_op ho.rL hn σ H Q h
    rw [hc] at q
    have q : te σ H fun x H1 => TInt G hl σ H1 fun y H2 => rsL r [x, y] H2 Q := q
    refine hm _ _ _ _ (fun x H1 q => ?_) q
    obtain ⟨B, Z, Fs, env, g, d, hd, q⟩ := part_run q
    refine ⟨B, Z, Fs, env, g, d, hd, fun v H' hs hp ho => ?_⟩
    obtain ⟨i, e1, i2, e3, q⟩ := q v H' hs hp ho
    cases e3
    exact ⟨i, e1, q⟩
theorem e_slH (hr : SlR X r) (ho : RSl G r f) (c : Chn) (he : PE X e te) (ph : PE X hi (TPur G hu)) (hc : c.tes G W = [te, TInt G hu] := by rfl) (hm : ∀ σ H Q Q', (∀ v H, Q v H → Q' v H) → te σ H Q → te σ H Q' := by first | exact fun _ _ _ _ => TV.mono | exact fun _ _ _ _ h => SArg.mono (a := .plc _ _) h | exact fun _ _ _ _ h => SArg.mono (a := .pur _) h) (hn : c.iofs.any id = false := by rfl) : PE X (.Subscript e (.Slice none (some hi) none p2) pos) (TV G W (eOp c (slH f))) :=
  (pe_slice hr he po_none (po_some ph)).imp fun σ H Q h => by
    have q := tv_op ho.rH hn σ H Q h
    rw [hc] at q
    have q : te σ H fun x H1 => TInt G hu σ H1 fun y H2 => rsH r [x, y] H2 Q := q
    refine hm _ _ _ _ (fun x H1 q => ?_) q
    obtain ⟨B, Z, Fs, env, g, d, hd, q⟩ := part_run q
    refine ⟨B, Z, Fs, env, g, d, hd, fun v H' hs hp ho => ?_⟩
    obtain ⟨i, e1, i2, e3, q⟩ := q v H' hs hp ho
    cases e3
    exact ⟨i, e1, q⟩
end

/-! ### displays -/
def fTup (ds : List D) : Option D := iff? (D.pureL ds = true ∧ ds.length ≤ 16777216) (.tup ds)
theorem rop_tup : ROp G (fun vs H Q => vs.length ≤ sizeLine ∧ ∀ p, H p = none → Q (.ref p) (upd H p (.tup vs))) fTup := by
  intro ds vs H Q d h e q
  obtain ⟨⟨hp, hl⟩, rfl⟩ := iff?_some e
  refine ⟨by rw [← size_line, OwnL.length h]; exact hl, fun p hn => ?_⟩
  exact q _ _ [] (same_upd hn) (fun Z => new_tup hp hn h Z) List.nodup_nil fun a m => by cases m
theorem pure_tup : PureG fTup := fun ds d e => by
  obtain ⟨⟨hp, hl⟩, rfl⟩ := iff?_some e
  exact hp
theorem p_tup {es : List Expr} {t : TA} {hs : List SArg} {k : Nat} {pos : Pos} (h : PA X es t) (ht : t = seqTE (hs.map (SArg.te G)) := by rfl) : PE X (.Tuple es k pos) (TPur G (hOp hs fTup)) :=
  (pe_tup h).imp fun σ H Q hq => by
    subst ht
    exact tpur_op rop_tup pure_tup σ H Q hq
/-- a display of owned items -/
def dspK (mk : List D → D) : Kn := fun ds e => if ds.length ≤ 16777216 then .ok (mk ds, [], e) else .bad
theorem OwnT.allOwn {Y Z H : Hp} : ∀ {its : List (Bool × D)} {vs : List V} {T : List Addr}, (∀ p ∈ its, p.1 = true) → OwnT G Y Z H its vs T → OwnL G Z H (its.map (·.2)) vs T
  | [], vs, T, _, h => h
  | (o, d) :: r, vs, T, ha, h => by
    obtain ⟨v', rest, F2, F3, rfl, rfl, h2, h3⟩ := h
    have : o = true := ha (o, d) List.mem_cons_self
    subst this
    exact ⟨v', rest, F2, F3, rfl, rfl, h2, OwnT.allOwn (fun p hp => ha p (List.mem_cons_of_mem _ hp)) h3⟩
theorem all_own {its : List (Bool × D)} {n : Nat} (h : its.map (·.1) = List.replicate n true) : ∀ p ∈ its, p.1 = true := fun p hp => by
  have : p.1 ∈ its.map (·.1) := List.mem_map_of_mem hp
  rw [h] at this
  exact (List.mem_replicate.mp this).2
theorem none_of_free {B Z H : Hp} {σ : L2.St} {env : DEnv} {Fs : Nat → List Addr} (g : Good G B Z H σ env Fs) {p : Addr} (hn : H p = none) : ¬ InF Fs p ∧ B p = none ∧ Z p = none := by
  refine ⟨fun m => ?_, ?_, ?_⟩
  · obtain ⟨o, e, _⟩ := g.dom m
    rw [hn] at e; cases e
  · cases q : B p with
    | none => rfl
    | some u =>
      have := g.sb p u q
      rw [hn] at this; cases this
  · cases q : Z p with
    | none => rfl
    | some u =>
      have := g.sz p u q
      rw [hn] at this; cases this
theorem dsp_tup {n : Nat} {fl : List Bool} (hfl : fl.any id = false) : KOk G W fl (List.replicate n true) (fun vs H Q => vs.length ≤ sizeLine ∧ ∀ p, H p = none → Q (.ref p) (upd H p (.tup vs))) (dspK .tup) := by
  intro B Z H σ env Fs its vs T ios Q gd hd hb hn hF
  obtain rfl : ios = [] := hn.trans (ioV_none fl vs hfl)
  unfold dspK at hF
  have ho := OwnT.allOwn (all_own hb) hd.own
  split at hF
  · rename_i hl
    refine ⟨by rw [← size_line, OwnL.length ho]; exact hl, fun p hp => ?_⟩
    have nf := none_of_free gd hp
    refine hF _ Z _ Fs T ⟨Stp.grow gd (fun a m => .inl m) (same_upd hp), ⟨.ref p, [], T, [], rfl, by simp, ⟨p, vs, rfl, upd_same, ?_⟩, rfl, rfl⟩, hd.nd, hd.dj, hd.fr, fun a m => .inr (.inr m)⟩
    exact OwnL.keep (Same.refl Z) _ vs T (fun b u e _ => same_upd hp b u e) ho
  · exact hF.elim
theorem dsp_lst {n : Nat} {fl : List Bool} (hfl : fl.any id = false) : KOk G W fl (List.replicate n true) (fun vs H Q => vs.length ≤ sizeLine ∧ ∀ p, H p = none → Q (.ref p) (upd H p (.lst vs))) (dspK .lst) := by
  intro B Z H σ env Fs its vs T ios Q gd hd hb hn hF
  obtain rfl : ios = [] := hn.trans (ioV_none fl vs hfl)
  unfold dspK at hF
  have ho := OwnT.allOwn (all_own hb) hd.own
  split at hF
  · rename_i hl
    refine ⟨by rw [← size_line, OwnL.length ho]; exact hl, fun p hp => ?_⟩
    have nf := none_of_free gd hp
    have npT : p ∉ T := fun m => by
      obtain ⟨o, e, _⟩ := hd.own.dom p m
      rw [hp] at e; cases e
    refine hF _ Z _ Fs (p :: T) ⟨Stp.grow gd (fun a m => .inl m) (same_upd hp), ⟨.ref p, [], p :: T, [], rfl, by simp, ⟨p, vs, T, rfl, .inr ⟨rfl, upd_same⟩, ?_⟩, rfl, rfl⟩, List.nodup_cons.mpr ⟨npT, hd.nd⟩, fun a m => ?_, fun a m => ?_, fun a m => ?_⟩
    · exact OwnL.keep (Same.refl Z) _ vs T (fun b u e _ => same_upd hp b u e) ho
    · rcases List.mem_cons.mp m with rfl | m
      · exact nf.1
      · exact hd.dj a m
    · rcases List.mem_cons.mp m with rfl | m
      · exact nf.2
      · exact hd.fr a m
    · rcases List.mem_cons.mp m with rfl | m
      · exact .inl hp
      · exact .inr (.inr m)
  · exact hF.elim
theorem e_tup {es : List Expr} {t : TA} {k : Nat} {pos : Pos} (c : Chn) (h : PA X es t) (ht : t = seqTE (c.tes G W) := by rfl) (hn : c.iofs.any id = false := by rfl) (hk : c.kinds = List.replicate es.length true := by rfl) : PE X (.Tuple es k pos) (TV G W (eK c (dspK .tup))) :=
  (pe_tup h).imp fun σ H Q hq => by
    subst ht
    exact tv_chn (dsp_tup (n := es.length) hn) rfl hk σ H Q hq
theorem e_lst {es : List Expr} {t : TA} {pos : Pos} (c : Chn) (h : PA X es t) (ht : t = seqTE (c.tes G W) := by rfl) (hn : c.iofs.any id = false := by rfl) (hk : c.kinds = List.replicate es.length true := by rfl) : PE X (.List es pos) (TV G W (eK c (dspK .lst))) :=
  (pe_lst h).imp fun σ H Q hq => by
    subst ht
    exact tv_chn (dsp_lst (n := es.length) hn) rfl hk σ H Q hq

/-! ### calls of what is built in -/
theorem p_callB {x : Str} {p pos : Pos} {e : Expr} {es : List Expr} {t : TA} {hs : List SArg} {bid : String} {r : List V → Hp → VK → Prop} {g : List D → Option D} (hc : CallR X (.builtin bid) r) (hg : Gl X x) (hm : X.mg x = none) (hv : bootBuiltins x = some (.builtin bid)) (hr : ROp G r g) (hp : PureG g)
    (ha : PA X (e :: es) t) (ht : t = seqTE (hs.map (SArg.te G)) := by rfl) (hn : x ≠ "__name__" := by decide) (hdb : (x == ("__debug__" : Str)) = false := by decide) (he : starEach (e :: es) X.env = (false, eval e X.env) :: starEach es X.env := by rfl) (hpl : (backTo pos (starEach es X.env)).any (·.1) = false := by rfl) :
    PE X (.Call (.Name x p) (e :: es) [] pos) (TPur G (hOp hs g)) :=
  (pe_callB hc hg hm hv ha hn hdb he hpl).imp fun σ H Q hq => by
    subst ht
    exact tpur_op hr hp σ H Q hq
theorem p_callT {x : Str} {p pos : Pos} {e : Expr} {es : List Expr} {t : TA} {hs : List SArg} {T : String} {r : List V → Hp → VK → Prop} {g : List D → Option D} (hc : CallR X (.type T) r) (hg : Gl X x) (hm : X.mg x = none) (hv : bootBuiltins x = some (.type T)) (hr : ROp G r g) (hp : PureG g)
    (ha : PA X (e :: es) t) (ht : t = seqTE (hs.map (SArg.te G)) := by rfl) (hn : x ≠ "__name__" := by decide) (hdb : (x == ("__debug__" : Str)) = false := by decide) (he : starEach (e :: es) X.env = (false, eval e X.env) :: starEach es X.env := by rfl) (hpl : (backTo pos (starEach es X.env)).any (·.1) = false := by rfl) :
    PE X (.Call (.Name x p) (e :: es) [] pos) (TPur G (hOp hs g)) :=
  (pe_callTy hc hg hm hv ha hn hdb he hpl).imp fun σ H Q hq => by
    subst ht
    exact tpur_op hr hp σ H Q hq
theorem e_callB {x : Str} {p pos : Pos} {e : Expr} {es : List Expr} {t : TA} {bid : String} {r : List V → Hp → VK → Prop} {g : List D → Option D} (hc : CallR X (.builtin bid) r) (hg : Gl X x) (hm : X.mg x = none) (hv : bootBuiltins x = some (.builtin bid)) (hr : ROp G r g) (c : Chn)
    (ha : PA X (e :: es) t) (ht : t = seqTE (c.tes G W) := by rfl) (hio : c.iofs.any id = false := by rfl) (hn : x ≠ "__name__" := by decide) (hdb : (x == ("__debug__" : Str)) = false := by decide) (he : starEach (e :: es) X.env = (false, eval e X.env) :: starEach es X.env := by rfl) (hpl : (backTo pos (starEach es X.env)).any (·.1) = false := by rfl) :
    PE X (.Call (.Name x p) (e :: es) [] pos) (TV G W (eOp c g)) :=
  (pe_callB hc hg hm hv ha hn hdb he hpl).imp fun σ H Q hq => by
    subst ht
    exact tv_op hr hio σ H Q hq
theorem e_callT {x : Str} {p pos : Pos} {e : Expr} {es : List Expr} {t : TA} {T : String} {r : List V → Hp → VK → Prop} {g : List D → Option D} (hc : CallR X (.type T) r) (hg : Gl X x) (hm : X.mg x = none) (hv : bootBuiltins x = some (.type T)) (hr : ROp G r g) (c : Chn)
    (ha : PA X (e :: es) t) (ht : t = seqTE (c.tes G W) := by rfl) (hio : c.iofs.any id = false := by rfl) (hn : x ≠ "__name__" := by decide) (hdb : (x == ("__debug__" : Str)) = false := by decide) (he : starEach (e :: es) X.env = (false, eval e X.env) :: starEach es X.env := by rfl) (hpl : (backTo pos (starEach es X.env)).any (·.1) = false := by rfl) :
    PE X (.Call (.Name x p) (e :: es) [] pos) (TV G W (eOp c g)) :=
  (pe_callTy hc hg hm hv ha hn hdb he hpl).imp fun σ H Q hq => by
    subst ht
    exact tv_op hr hio σ H Q hq
end
end DL

namespace DL
open PySem PySem.Spec PyProof.Rows L2

/-! ### tests -/
def FinB (G : Gc) (W : Wsh) (B Z H : Hp) (σ : L2.St) (env : DEnv) (P : Addr → Prop) (o : Out (Bool × DEnv)) (Q : Bool → Hp → Prop) : Prop := match o with
  | .ok (b, env') => ∀ Z' H' Fs', Stp G B Z H σ env P Z' H' σ env' Fs' → Q b H'
  | .exc c => ∀ H', Same B H' → W c H'
  | .bad => False
def TB (G : Gc) (W : Wsh) (f : DEnv → Out (Bool × DEnv)) : TT := fun σ H Q => ∃ B Z Fs env, Good G B Z H σ env Fs ∧ FinB G W B Z H σ env (InF Fs) (f env) Q
def TBp (G : Gc) (h : DEnv → Option Bool) : TT := fun σ H Q => ∃ B Z Fs env, Good G B Z H σ env Fs ∧ ∃ b, h env = some b ∧ ∀ H', Same H H' → Q b H'
theorem _root_.L2.PT.imp {X : Cx} {e : Expr} {t t' : TT} (h : PT X e t) (i : ∀ σ H Q, t' σ H Q → t σ H Q) : PT X e t' := ⟨fun pins s σ H Q I hq => h.run pins s σ H Q I (i σ H Q hq)⟩
theorem _root_.L2.PW.imp {X : Cx} {e : Expr} {t t' : TT} (h : PW X e t) (i : ∀ σ H Q, t' σ H Q → t σ H Q) : PW X e t' := ⟨fun wh pins s σ H Q I hq => h.run wh pins s σ H Q I (i σ H Q hq)⟩
def D.toBl : D → Option Bool
  | .bl b => some b
  | _ => none
theorem D.toBl_some {d : D} {i : Bool} (h : d.toBl = some i) : d = .bl i := by
  cases d <;> first | (cases h; rfl) | cases h
def hB (h : DEnv → Option D) : DEnv → Option Bool := fun env => match h env with
  | some d => d.toBl
  | none => none
def eB (f : DEnv → Out (D × DEnv)) : DEnv → Out (Bool × DEnv) := fun env => f env >>= fun p => must p.1.toBl fun b => .ok (b, p.2)
def eBp (h : DEnv → Option Bool) : DEnv → Out (Bool × DEnv) := fun env => must (h env) fun b => .ok (b, env)
def hNot (h : DEnv → Option Bool) : DEnv → Option Bool := fun env => match h env with
  | some b => some (!b)
  | none => none
def eNot (f : DEnv → Out (Bool × DEnv)) : DEnv → Out (Bool × DEnv) := fun env => f env >>= fun p => .ok (!p.1, p.2)
def hAnd (h k : DEnv → Option Bool) : DEnv → Option Bool := fun env => match h env with
  | some b => if b = true then k env else some false
  | none => none
def hOr (h k : DEnv → Option Bool) : DEnv → Option Bool := fun env => match h env with
  | some b => if b = true then some true else k env
  | none => none
def eAnd (f g : DEnv → Out (Bool × DEnv)) : DEnv → Out (Bool × DEnv) := fun env => f env >>= fun p => if p.1 = true then g p.2 else .ok (false, p.2)
def eOr (f g : DEnv → Out (Bool × DEnv)) : DEnv → Out (Bool × DEnv) := fun env => f env >>= fun p => if p.1 = true then .ok (true, p.2) else g p.2
theorem hB_some {h : DEnv → Option D} {env : DEnv} {b : Bool} (e : hB h env = some b) : h env = some (.bl b) := by
  unfold hB at e
  cases hh : h env with
  | none => rw [hh] at e; cases e
  | some d =>
    rw [hh] at e
    rw [D.toBl_some e]

section
variable {G : Gc} {X : Cx} {W : Wsh} {a b e : Expr} {pos : Pos} {rest : List Expr}
theorem FinB.later {B Z H Z1 H1 : Hp} {σ : L2.St} {env env1 : DEnv} {Fs1 : Nat → List Addr} {P P1 : Addr → Prop} {o : Out (Bool × DEnv)} {Q : Bool → Hp → Prop} (s : Stp G B Z H σ env P Z1 H1 σ env1 Fs1) (hp : ∀ a, P1 a → H a = none ∨ P a) (h : FinB G W B Z H σ env P o Q) : FinB G W B Z1 H1 σ env1 P1 o Q := by
  unfold FinB at h ⊢
  match o, h with
  | .ok (d, env'), h => exact fun Z' H' Fs' p => h Z' H' Fs' (s.trans hp p)
  | .exc c, h => exact h
theorem Good.loc {B Z H : Hp} {σ : L2.St} {env : DEnv} {Fs : Nat → List Addr} (g : Good G B Z H σ env Fs) : ∀ a, InF Fs a → H a = none ∨ InF Fs a := fun a m => .inr m
theorem t_cmp {op : CmpOp} {r : R2} {g : List D → Option D} {s1 s2 : SArg} (ho : OpR X (compareOp op) r) (hr : ROp G (l2 r) g) (hp : PureG g) (ha : PE X a (s1.te G)) (hb : PE X b (s2.te G)) (hm : behindInMarks op b = false := by first | exact nomark _ | rfl) : PT X (.Compare a [op] [b] pos) (TBp G (hB (hOp [s1, s2] g))) :=
  (pt_cmpR ho ha hb hm).imp fun σ H Q ⟨B, Z, Fs, env, gd, k, hk, q⟩ => by
    have q1 : TPur G (hOp [s1, s2] g) σ H (fun x H' => ∃ k, x = .bl k ∧ Q k H') := ⟨B, Z, Fs, env, gd, .bl k, hB_some hk, fun v H' hs _ ho => ⟨k, (ho Z).1, q H' hs⟩⟩
    exact tpur_op hr hp σ H _ q1
theorem eB_fin {B Z H : Hp} {σ : L2.St} {env : DEnv} {P : Addr → Prop} {o : Out (D × DEnv)} {Q : Bool → Hp → Prop} (h : FinB G W B Z H σ env P (o >>= fun p => must p.1.toBl fun b => .ok (b, p.2)) Q) : FinV G W B Z H σ env P o (fun x H' => ∃ k, x = .bl k ∧ Q k H') := by
  unfold FinB at h
  unfold FinV
  match o, h with
  | .ok (d, env'), h =>
    intro v Z' H' Fs' F p
    have h : (match must d.toBl fun b => Out.ok (b, env') with
      | .ok (b, env') => ∀ Z' H' Fs', Stp G B Z H σ env P Z' H' σ env' Fs' → Q b H'
      | .exc c => ∀ H', Same B H' → W c H'
      | .bad => False) := h
    cases hd : d.toBl with
    | none => rw [hd] at h; exact h.elim
    | some k =>
      rw [hd] at h
      obtain rfl := D.toBl_some hd
      obtain ⟨v', r', Fa, Fb, e1, e2, h1, h2⟩ := p.own
      cases e1
      exact ⟨k, h1.1, h Z' H' Fs' p.st⟩
  | .exc c, h => exact h
theorem t_cmpE {op : CmpOp} {r : R2} {g : List D → Option D} {ta tb : TE} (ho : OpR X (compareOp op) r) (hr : ROp G (l2 r) g) (c : Chn) (ha : PE X a ta) (hb : PE X b tb) (hm : behindInMarks op b = false := by first | exact nomark _ | rfl) (hc : c.tes G W = [ta, tb] := by rfl) (hn : c.iofs.any id = false := by rfl) : PT X (.Compare a [op] [b] pos) (TB G W (eB (eOp c g))) :=
  (pt_cmpR ho ha hb hm).imp fun σ H Q ⟨B, Z, Fs, env, gd, q⟩ => by
    have q1 : TV G W (eOp c g) σ H (fun x H' => ∃ k, x = .bl k ∧ Q k H') := ⟨B, Z, Fs, env, gd, eB_fin q⟩
    have q2 := tv_op hr hn σ H _ q1
    rw [hc] at q2
    exact q2
theorem t_val {h : DEnv → Option D} (he : PE X e (TPur G h)) (hw : ∀ whole, isTrue e X.env whole = (do let v ← whole; standAt e.pos; holding [v] (truthy v)) := by intro _; rfl) : PT X e (TBp G (hB h)) :=
  (pt_val he hw).imp fun σ H Q ⟨B, Z, Fs, env, gd, k, hk, q⟩ => ⟨B, Z, Fs, env, gd, .bl k, hB_some hk, fun v H' hs _ ho => ⟨k, (ho Z).1, q H' hs⟩⟩
theorem t_valE {f : DEnv → Out (D × DEnv)} (he : PE X e (TV G W f)) (hw : ∀ whole, isTrue e X.env whole = (do let v ← whole; standAt e.pos; holding [v] (truthy v)) := by intro _; rfl) : PT X e (TB G W (eB f)) :=
  (pt_val he hw).imp fun σ H Q ⟨B, Z, Fs, env, gd, q⟩ => ⟨B, Z, Fs, env, gd, eB_fin q⟩
theorem t_not {h : DEnv → Option Bool} (ha : PT X a (TBp G h)) : PT X (.UnaryOp .Not a pos) (TBp G (hNot h)) :=
  (pt_not ha).imp fun σ H Q ⟨B, Z, Fs, env, gd, k, hk, q⟩ => by
    unfold hNot at hk
    cases hh : h env with
    | none => rw [hh] at hk; cases hk
    | some c =>
      rw [hh] at hk
      cases hk
      exact ⟨B, Z, Fs, env, gd, c, hh, q⟩
theorem t_notE {f : DEnv → Out (Bool × DEnv)} (ha : PT X a (TB G W f)) : PT X (.UnaryOp .Not a pos) (TB G W (eNot f)) :=
  (pt_not ha).imp fun σ H Q ⟨B, Z, Fs, env, gd, q⟩ => by
    refine ⟨B, Z, Fs, env, gd, ?_⟩
    unfold eNot FinB at q
    unfold FinB
    match f env, q with
    | .ok (d, env'), q => exact q
    | .exc c, q => exact q
/-- a test that changes nothing, as one that may -/
theorem t_p {h : DEnv → Option Bool} (ha : PT X a (TBp G h)) : PT X a (TB G W (eBp h)) :=
  ha.imp fun σ H Q ⟨B, Z, Fs, env, gd, q⟩ => by
    unfold eBp FinB at q
    cases hh : h env with
    | none => rw [hh] at q; exact q.elim
    | some c =>
      rw [hh] at q
      exact ⟨B, Z, Fs, env, gd, c, hh, fun H' hs => q Z H' Fs (Stp.grow gd (fun _ m => m) hs)⟩
theorem w_and1 {t : TT} (ha : PT X a t) : PW X (.BoolOp .And [a] pos) t := pw_and1 ha
theorem w_or1 {t : TT} (ha : PT X a t) : PW X (.BoolOp .Or [a] pos) t := pw_or1 ha
theorem w_and {h k : DEnv → Option Bool} (ha : PT X a (TBp G h)) (hb : PW X (.BoolOp .And (b :: rest) pos) (TBp G k)) : PW X (.BoolOp .And (a :: b :: rest) pos) (TBp G (hAnd h k)) :=
  (pw_and ha hb).imp fun σ H Q ⟨B, Z, Fs, env, gd, c, hc, q⟩ => by
    unfold hAnd at hc
    cases hh : h env with
    | none => rw [hh] at hc; cases hc
    | some b0 =>
      rw [hh] at hc
      refine ⟨B, Z, Fs, env, gd, b0, hh, fun H1 hs1 => ?_⟩
      cases b0 with
      | true => exact ⟨B, Z, Fs, env, gd.grow hs1, c, hc, fun H' hs => q H' (hs1.trans hs)⟩
      | false => cases hc; exact q H1 hs1
theorem w_or {h k : DEnv → Option Bool} (ha : PT X a (TBp G h)) (hb : PW X (.BoolOp .Or (b :: rest) pos) (TBp G k)) : PW X (.BoolOp .Or (a :: b :: rest) pos) (TBp G (hOr h k)) :=
  (pw_or ha hb).imp fun σ H Q ⟨B, Z, Fs, env, gd, c, hc, q⟩ => by
    unfold hOr at hc
    cases hh : h env with
    | none => rw [hh] at hc; cases hc
    | some b0 =>
      rw [hh] at hc
      refine ⟨B, Z, Fs, env, gd, b0, hh, fun H1 hs1 => ?_⟩
      cases b0 with
      | false => exact ⟨B, Z, Fs, env, gd.grow hs1, c, hc, fun H' hs => q H' (hs1.trans hs)⟩
      | true => cases hc; exact q H1 hs1
theorem w_andE {f g : DEnv → Out (Bool × DEnv)} (ha : PT X a (TB G W f)) (hb : PW X (.BoolOp .And (b :: rest) pos) (TB G W g)) : PW X (.BoolOp .And (a :: b :: rest) pos) (TB G W (eAnd f g)) :=
  (pw_and ha hb).imp fun σ H Q ⟨B, Z, Fs, env, gd, q⟩ => by
    refine ⟨B, Z, Fs, env, gd, ?_⟩
    unfold eAnd at q
    cases hf : f env with
    | bad => rw [hf] at q; exact q.elim
    | exc c => rw [hf] at q; exact q
    | ok p =>
      obtain ⟨b0, env1⟩ := p
      rw [hf] at q
      have q : FinB G W B Z H σ env (InF Fs) (if b0 = true then g env1 else .ok (false, env1)) Q := q
      intro Z1 H1 Fs1 s1
      cases b0 with
      | true => exact ⟨B, Z1, Fs1, env1, s1.good, FinB.later s1 s1.new q⟩
      | false => exact q Z1 H1 Fs1 s1
theorem w_orE {f g : DEnv → Out (Bool × DEnv)} (ha : PT X a (TB G W f)) (hb : PW X (.BoolOp .Or (b :: rest) pos) (TB G W g)) : PW X (.BoolOp .Or (a :: b :: rest) pos) (TB G W (eOr f g)) :=
  (pw_or ha hb).imp fun σ H Q ⟨B, Z, Fs, env, gd, q⟩ => by
    refine ⟨B, Z, Fs, env, gd, ?_⟩
    unfold eOr at q
    cases hf : f env with
    | bad => rw [hf] at q; exact q.elim
    | exc c => rw [hf] at q; exact q
    | ok p =>
      obtain ⟨b0, env1⟩ := p
      rw [hf] at q
      have q : FinB G W B Z H σ env (InF Fs) (if b0 = true then .ok (true, env1) else g env1) Q := q
      intro Z1 H1 Fs1 s1
      cases b0 with
      | false => exact ⟨B, Z1, Fs1, env1, s1.good, FinB.later s1 s1.new q⟩
      | true => exact q Z1 H1 Fs1 s1

/-! ### and, or, not, if as values -/
def hAndV (h k : DEnv → Option D) : DEnv → Option D := fun env => match hB h env with
  | some b => if b = true then k env else some (.bl false)
  | none => none
def hOrV (h k : DEnv → Option D) : DEnv → Option D := fun env => match hB h env with
  | some b => if b = true then some (.bl true) else k env
  | none => none
def hNotV (h : DEnv → Option D) : DEnv → Option D := fun env => match hB h env with
  | some b => some (.bl (!b))
  | none => none
def eAndV (f g : DEnv → Out (D × DEnv)) : DEnv → Out (D × DEnv) := fun env => eB f env >>= fun p => if p.1 = true then g p.2 else .ok (.bl false, p.2)
def eOrV (f g : DEnv → Out (D × DEnv)) : DEnv → Out (D × DEnv) := fun env => eB f env >>= fun p => if p.1 = true then .ok (.bl true, p.2) else g p.2
def eNotV (f : DEnv → Out (D × DEnv)) : DEnv → Out (D × DEnv) := fun env => eB f env >>= fun p => .ok (.bl (!p.1), p.2)
theorem p_one {op} {t : TE} (h : PE X a t) : PE X (.BoolOp op [a] pos) t := pe_one h
theorem p_and {h k : DEnv → Option D} (ha : PE X a (TPur G h)) (hb : PE X (.BoolOp .And (b :: rest) pos) (TPur G k)) : PE X (.BoolOp .And (a :: b :: rest) pos) (TPur G (hAndV h k)) :=
  (pe_and ha hb).imp fun σ H Q ⟨B, Z, Fs, env, gd, d, hd, q⟩ => by
    unfold hAndV at hd
    cases hh : hB h env with
    | none => rw [hh] at hd; cases hd
    | some b0 =>
      rw [hh] at hd
      refine ⟨B, Z, Fs, env, gd, .bl b0, hB_some hh, fun v H1 hs1 _ ho => ⟨b0, (ho Z).1, ?_⟩⟩
      cases b0 with
      | true => exact ⟨B, Z, Fs, env, gd.grow hs1, d, hd, fun v H' hs => q v H' (hs1.trans hs)⟩
      | false => cases hd; exact q _ H1 hs1 rfl fun Z' => ⟨rfl, rfl⟩
theorem p_or {h k : DEnv → Option D} (ha : PE X a (TPur G h)) (hb : PE X (.BoolOp .Or (b :: rest) pos) (TPur G k)) : PE X (.BoolOp .Or (a :: b :: rest) pos) (TPur G (hOrV h k)) :=
  (pe_or ha hb).imp fun σ H Q ⟨B, Z, Fs, env, gd, d, hd, q⟩ => by
    unfold hOrV at hd
    cases hh : hB h env with
    | none => rw [hh] at hd; cases hd
    | some b0 =>
      rw [hh] at hd
      refine ⟨B, Z, Fs, env, gd, .bl b0, hB_some hh, fun v H1 hs1 _ ho => ⟨b0, (ho Z).1, ?_⟩⟩
      cases b0 with
      | false => exact ⟨B, Z, Fs, env, gd.grow hs1, d, hd, fun v H' hs => q v H' (hs1.trans hs)⟩
      | true => cases hd; exact q _ H1 hs1 rfl fun Z' => ⟨rfl, rfl⟩
theorem p_not {h : DEnv → Option D} (ha : PE X a (TPur G h)) : PE X (.UnaryOp .Not a pos) (TPur G (hNotV h)) :=
  (pe_not ha).imp fun σ H Q ⟨B, Z, Fs, env, gd, d, hd, q⟩ => by
    unfold hNotV at hd
    cases hh : hB h env with
    | none => rw [hh] at hd; cases hd
    | some b0 =>
      rw [hh] at hd
      cases hd
      exact ⟨B, Z, Fs, env, gd, .bl b0, hB_some hh, fun v H1 hs1 _ ho => ⟨b0, (ho Z).1, q _ H1 hs1 rfl fun Z' => ⟨rfl, rfl⟩⟩⟩
theorem FinV.later {B Z H Z1 H1 : Hp} {σ : L2.St} {env env1 : DEnv} {Fs1 : Nat → List Addr} {P P1 : Addr → Prop} {o : Out (D × DEnv)} {Q : VK} (s : Stp G B Z H σ env P Z1 H1 σ env1 Fs1) (hp : ∀ a, P1 a → H a = none ∨ P a) (h : FinV G W B Z H σ env P o Q) : FinV G W B Z1 H1 σ env1 P1 o Q := by
  unfold FinV at h ⊢
  match o, h with
  | .ok (d, env'), h =>
    intro v Z' H' Fs' F p
    refine h v Z' H' Fs' F ⟨s.trans hp p.st, p.own, p.nd, p.dj, p.fr, fun a m => ?_⟩
    rcases p.new a m with z | z
    · cases q : H a with
      | none => exact .inl rfl
      | some u =>
        refine .inr ?_
        by_cases n : P a
        · exact n
        · have := s.ext a u q n
          rw [z] at this; cases this
    · exact hp a z
  | .exc c, h => exact h
/-- a value that is a truth -/
theorem eB_run {B Z H : Hp} {σ : L2.St} {env : DEnv} {Fs : Nat → List Addr} {α : Type} {f : DEnv → Out (D × DEnv)} {k : Bool × DEnv → Out (D × DEnv)} {Q : VK} {R : VK} (gd : Good G B Z H σ env Fs) (h : FinV G W B Z H σ env (InF Fs) (eB f env >>= k) Q)
    (hk : ∀ b Z' H' env' Fs', Stp G B Z H σ env (InF Fs) Z' H' σ env' Fs' → FinV G W B Z' H' σ env' (InF Fs') (k (b, env')) Q → R (.bl b) H') : FinV G W B Z H σ env (InF Fs) (f env) R := by
  unfold eB at h
  cases hf : f env with
  | bad => rw [hf] at h; exact h.elim
  | exc c => rw [hf] at h; exact h
  | ok p =>
    obtain ⟨d, env1⟩ := p
    rw [hf] at h
    have h : FinV G W B Z H σ env (InF Fs) ((must d.toBl fun b => Out.ok (b, env1)) >>= k) Q := h
    cases hd : d.toBl with
    | none => rw [hd] at h; exact h.elim
    | some b =>
      rw [hd] at h
      obtain rfl := D.toBl_some hd
      intro v Z' H' Fs' F p
      obtain ⟨v', r', Fa, Fb, e1, e2, h1, h2⟩ := p.own
      cases e1
      rw [h1.1]
      exact hk b Z' H' env1 Fs' p.st (FinV.later p.st p.st.new h)
theorem FinV.pureV {B Z H : Hp} {σ : L2.St} {env : DEnv} {Fs : Nat → List Addr} {d : D} {v : V} {Q : VK} (gd : Good G B Z H σ env Fs) (ho : Own G Z H d v []) (h : FinV G W B Z H σ env (InF Fs) (.ok (d, env)) Q) : Q v H :=
  h v Z H Fs [] ⟨Stp.refl gd fun _ m => m, ⟨v, [], [], [], rfl, rfl, ho, rfl, rfl⟩, List.nodup_nil, fun a m => (by cases m), fun a m => (by cases m), fun a m => (by cases m)⟩
theorem e_and {f g : DEnv → Out (D × DEnv)} (ha : PE X a (TV G W f)) (hb : PE X (.BoolOp .And (b :: rest) pos) (TV G W g)) : PE X (.BoolOp .And (a :: b :: rest) pos) (TV G W (eAndV f g)) :=
  (pe_and ha hb).imp fun σ H Q ⟨B, Z, Fs, env, gd, q⟩ => by
    refine ⟨B, Z, Fs, env, gd, eB_run (α := Unit) gd q fun b Z' H' env' Fs' s q => ⟨b, rfl, ?_⟩⟩
    cases b with
    | true => exact ⟨B, Z', Fs', env', s.good, q⟩
    | false => exact FinV.pureV (d := .bl false) s.good ⟨rfl, rfl⟩ q
theorem e_or {f g : DEnv → Out (D × DEnv)} (ha : PE X a (TV G W f)) (hb : PE X (.BoolOp .Or (b :: rest) pos) (TV G W g)) : PE X (.BoolOp .Or (a :: b :: rest) pos) (TV G W (eOrV f g)) :=
  (pe_or ha hb).imp fun σ H Q ⟨B, Z, Fs, env, gd, q⟩ => by
    refine ⟨B, Z, Fs, env, gd, eB_run (α := Unit) gd q fun b Z' H' env' Fs' s q => ⟨b, rfl, ?_⟩⟩
    cases b with
    | false => exact ⟨B, Z', Fs', env', s.good, q⟩
    | true => exact FinV.pureV (d := .bl true) s.good ⟨rfl, rfl⟩ q
theorem e_not {f : DEnv → Out (D × DEnv)} (ha : PE X a (TV G W f)) : PE X (.UnaryOp .Not a pos) (TV G W (eNotV f)) :=
  (pe_not ha).imp fun σ H Q ⟨B, Z, Fs, env, gd, q⟩ => by
    refine ⟨B, Z, Fs, env, gd, eB_run (α := Unit) gd q fun b Z' H' env' Fs' s q => ⟨b, rfl, ?_⟩⟩
    exact FinV.pureV (d := .bl (!b)) s.good ⟨rfl, rfl⟩ q
def hIf (c : DEnv → Option Bool) (h k : DEnv → Option D) : DEnv → Option D := fun env => match c env with
  | some b => if b = true then h env else k env
  | none => none
theorem p_ifx {c : Expr} {hc : DEnv → Option Bool} {h k : DEnv → Option D} (hcc : PT X c (TBp G hc)) (ha : PE X a (TPur G h)) (hb : PE X b (TPur G k)) : PE X (.IfExp c a b pos) (TPur G (hIf hc h k)) :=
  (pe_ifExp hcc ha hb).imp fun σ H Q ⟨B, Z, Fs, env, gd, d, hd, q⟩ => by
    unfold hIf at hd
    cases hh : hc env with
    | none => rw [hh] at hd; cases hd
    | some b0 =>
      rw [hh] at hd
      refine ⟨B, Z, Fs, env, gd, b0, hh, fun H1 hs1 => ?_⟩
      cases b0 with
      | true => exact ⟨B, Z, Fs, env, gd.grow hs1, d, hd, fun v H' hs => q v H' (hs1.trans hs)⟩
      | false => exact ⟨B, Z, Fs, env, gd.grow hs1, d, hd, fun v H' hs => q v H' (hs1.trans hs)⟩
end

/-! ### statements -/
inductive Flw where
  | nx (e : DEnv)
  | rt (d : D) (e : DEnv)
  | bk (e : DEnv)
  | ct (e : DEnv)
abbrev Stm := DEnv → Out Flw
/-- what a return hands on -/
structure Ret (G : Gc) (B Z H : Hp) (σ : L2.St) (env : DEnv) (P : Addr → Prop) (Z' H' : Hp) (σ' : L2.St) (env' : DEnv) (Fs' : Nat → List Addr) (d : D) (v : V) (F : List Addr) : Prop where
  st : Stp G B Z H σ env P Z' H' σ' env' Fs'
  own : Own G Z' H' d v F
  nd : F.Nodup
  dj : ∀ a, a ∈ F → ¬ InF Fs' a
  fr : ∀ a, a ∈ F → B a = none ∧ Z' a = none
  new : ∀ a, a ∈ F → H a = none ∨ P a
def FinS (G : Gc) (W : Wsh) (B Z H : Hp) (σ : L2.St) (env : DEnv) (P : Addr → Prop) (o : Out Flw) (En : Ends) : Prop := match o with
  | .ok (.nx e) => ∀ σ' Z' H' Fs', Stp G B Z H σ env P Z' H' σ' e Fs' → En.nx σ' H'
  | .ok (.bk e) => ∀ σ' Z' H' Fs', Stp G B Z H σ env P Z' H' σ' e Fs' → En.bk σ' H'
  | .ok (.ct e) => ∀ σ' Z' H' Fs', Stp G B Z H σ env P Z' H' σ' e Fs' → En.ct σ' H'
  | .ok (.rt d e) => ∀ σ' v Z' H' Fs' F, Ret G B Z H σ env P Z' H' σ' e Fs' d v F → En.rt v H'
  | .exc c => ∀ H', Same B H' → W c H'
  | .bad => False
def TSt (G : Gc) (W : Wsh) (f : Stm) : TS := fun En σ H => ∃ B Z Fs env, Good G B Z H σ env Fs ∧ FinS G W B Z H σ env (InF Fs) (f env) En
theorem _root_.L2.PS.imp {X : Cx} {e : Stmt} {t t' : TS} (h : PS X e t) (i : ∀ En σ H, t' En σ H → t En σ H) : PS X e t' := ⟨fun pins s σ H D I hq => h.run pins s σ H D I (i D σ H hq)⟩
theorem _root_.L2.PSs.imp {X : Cx} {e : List Stmt} {t t' : TS} (h : PSs X e t) (i : ∀ En σ H, t' En σ H → t En σ H) : PSs X e t' := ⟨fun pins s σ H D I hq => h.run pins s σ H D I (i D σ H hq)⟩
def sNop : Stm := fun env => .ok (.nx env)
def sSeq (f g : Stm) : Stm := fun env => f env >>= fun fl => match fl with
  | .nx e => g e
  | fl => .ok fl
def sIf (c : DEnv → Option Bool) (f g : Stm) : Stm := fun env => must (c env) fun b => if b = true then f env else g env
def sIfE (c : DEnv → Out (Bool × DEnv)) (f g : Stm) : Stm := fun env => c env >>= fun p => if p.1 = true then f p.2 else g p.2
def sRet (f : DEnv → Out (D × DEnv)) : Stm := fun env => f env >>= fun p => .ok (.rt p.1 p.2)
def sRetN : Stm := fun env => .ok (.rt .non env)
def sExpr (f : DEnv → Out (D × DEnv)) : Stm := fun env => f env >>= fun p => .ok (.nx p.2)
def sBrk : Stm := fun env => .ok (.bk env)
def sCont : Stm := fun env => .ok (.ct env)
def sNever : Stm := fun _ => .bad
/-- slot i may be stored to -/
def free? (i : Nat) (env : DEnv) : Bool := match env[i]? with
  | some (some (.io, _)) => false
  | some (some (.lck, _)) => false
  | some _ => true
  | none => false
def putS (i : Nat) (d : D) (env : DEnv) : Option DEnv := if free? i env = true then some (env.set i (some (.own, d))) else none
def sSet (i : Nat) (f : DEnv → Out (D × DEnv)) : Stm := fun env => f env >>= fun p => must (putS i p.1 p.2) fun e => .ok (.nx e)
/-- names of which nothing is known any more -/
def dropS : List Nat → DEnv → Option DEnv
  | [], env => some env
  | i :: r, env => if free? i env = true then dropS r (env.set i none) else none
def sDrop (is : List Nat) : Stm := fun env => must (dropS is env) fun e => .ok (.nx e)

section
variable {G : Gc} {X : Cx} {W : Wsh} {a b e : Expr} {pos : Pos}
theorem FinS.later {B Z H Z1 H1 : Hp} {σ σ1 : L2.St} {env env1 : DEnv} {Fs1 : Nat → List Addr} {P P1 : Addr → Prop} {o : Out Flw} {En : Ends} (s : Stp G B Z H σ env P Z1 H1 σ1 env1 Fs1) (hp : ∀ a, P1 a → H a = none ∨ P a) (h : FinS G W B Z H σ env P o En) : FinS G W B Z1 H1 σ1 env1 P1 o En := by
  unfold FinS at h ⊢
  match o, h with
  | .ok (.nx e), h => exact fun σ' Z' H' Fs' p => h σ' Z' H' Fs' (s.trans hp p)
  | .ok (.bk e), h => exact fun σ' Z' H' Fs' p => h σ' Z' H' Fs' (s.trans hp p)
  | .ok (.ct e), h => exact fun σ' Z' H' Fs' p => h σ' Z' H' Fs' (s.trans hp p)
  | .ok (.rt d e), h =>
    intro σ' v Z' H' Fs' F p
    refine h σ' v Z' H' Fs' F ⟨s.trans hp p.st, p.own, p.nd, p.dj, p.fr, fun a m => ?_⟩
    rcases p.new a m with z | z
    · cases q : H a with
      | none => exact .inl rfl
      | some u =>
        refine .inr ?_
        by_cases n : P a
        · exact n
        · have := s.ext a u q n
          rw [z] at this; cases this
    · exact hp a z
  | .exc c, h => exact h
theorem s_nil : PSs X [] (TSt G W sNop) := pss_nil.imp fun En σ H ⟨B, Z, Fs, env, gd, q⟩ => q σ Z H Fs (Stp.refl gd fun _ m => m)
theorem s_cons {st : Stmt} {rest : List Stmt} {f g : Stm} (h1 : PS X st (TSt G W f)) (h2 : PSs X rest (TSt G W g)) : PSs X (st :: rest) (TSt G W (sSeq f g)) :=
  (pss_cons h1 h2).imp fun En σ H ⟨B, Z, Fs, env, gd, q⟩ => by
    refine ⟨B, Z, Fs, env, gd, ?_⟩
    unfold sSeq at q
    cases hf : f env with
    | bad => rw [hf] at q; exact q.elim
    | exc c => rw [hf] at q; exact q
    | ok fl =>
      rw [hf] at q
      cases fl with
      | nx e => exact fun σ' Z' H' Fs' s => ⟨B, Z', Fs', e, s.good, FinS.later s s.new q⟩
      | bk e => exact q
      | ct e => exact q
      | rt d e => exact q
theorem s_one {st : Stmt} {f : Stm} (h1 : PS X st (TSt G W f)) : PSs X [st] (TSt G W f) := pss_one h1
theorem s_pass : PS X (.Pass pos) (TSt G W sNop) := ps_pass.imp fun En σ H ⟨B, Z, Fs, env, gd, q⟩ => q σ Z H Fs (Stp.refl gd fun _ m => m)
theorem s_doc {x : Str} {j : _} {p : Pos} : PS X (.Expr (.Constant (.str x) j p) pos) (TSt G W sNop) := ps_doc.imp fun En σ H ⟨B, Z, Fs, env, gd, q⟩ => q σ Z H Fs (Stp.refl gd fun _ m => m)
theorem s_brk : PS X (.Break pos) (TSt G W sBrk) := ps_break.imp fun En σ H ⟨B, Z, Fs, env, gd, q⟩ => q σ Z H Fs (Stp.refl gd fun _ m => m)
theorem s_cont : PS X (.Continue pos) (TSt G W sCont) := ps_continue.imp fun En σ H ⟨B, Z, Fs, env, gd, q⟩ => q σ Z H Fs (Stp.refl gd fun _ m => m)
theorem s_never {st : Stmt} : PS X st (TSt G W sNever) := ps_never.imp fun En σ H ⟨B, Z, Fs, env, gd, q⟩ => q.elim
theorem s_if {c : Expr} {hc : DEnv → Option Bool} {sa sb : List Stmt} {f g : Stm} (hcc : PT X c (TBp G hc)) (ha : PSs X sa (TSt G W f)) (hb : PSs X sb (TSt G W g)) : PS X (.If c sa sb pos) (TSt G W (sIf hc f g)) :=
  (ps_if hcc ha hb).imp fun En σ H ⟨B, Z, Fs, env, gd, q⟩ => by
    unfold sIf at q
    cases hh : hc env with
    | none => rw [hh] at q; exact q.elim
    | some b0 =>
      rw [hh] at q
      refine ⟨B, Z, Fs, env, gd, b0, hh, fun H1 hs1 => ?_⟩
      have s1 : Stp G B Z H σ env (InF Fs) Z H1 σ env Fs := Stp.grow gd (fun _ m => m) hs1
      cases b0 with
      | true => exact ⟨B, Z, Fs, env, gd.grow hs1, FinS.later s1 s1.new q⟩
      | false => exact ⟨B, Z, Fs, env, gd.grow hs1, FinS.later s1 s1.new q⟩
theorem s_ifE {c : Expr} {hc : DEnv → Out (Bool × DEnv)} {sa sb : List Stmt} {f g : Stm} (hcc : PT X c (TB G W hc)) (ha : PSs X sa (TSt G W f)) (hb : PSs X sb (TSt G W g)) : PS X (.If c sa sb pos) (TSt G W (sIfE hc f g)) :=
  (ps_if hcc ha hb).imp fun En σ H ⟨B, Z, Fs, env, gd, q⟩ => by
    refine ⟨B, Z, Fs, env, gd, ?_⟩
    unfold sIfE at q
    cases hh : hc env with
    | bad => rw [hh] at q; exact q.elim
    | exc c => rw [hh] at q; exact q
    | ok p =>
      obtain ⟨b0, env1⟩ := p
      rw [hh] at q
      have q : FinS G W B Z H σ env (InF Fs) (if b0 = true then f env1 else g env1) En := q
      intro Z1 H1 Fs1 s1
      cases b0 with
      | true => exact ⟨B, Z1, Fs1, env1, s1.good, FinS.later s1 s1.new q⟩
      | false => exact ⟨B, Z1, Fs1, env1, s1.good, FinS.later s1 s1.new q⟩
theorem Post.one {B Z H Z' H' : Hp} {σ : L2.St} {env env' : DEnv} {P : Addr → Prop} {Fs' : Nat → List Addr} {d : D} {v : V} {F : List Addr} (p : Post G B Z H σ env P Z' H' env' Fs' [d] [v] F) : Own G Z' H' d v F := by
  obtain ⟨v', r', Fa, Fb, e1, e2, h1, h2⟩ := p.own
  cases e1
  obtain ⟨_, rfl⟩ := h2
  rw [List.append_nil] at e2
  rw [e2]
  exact h1
theorem s_ret {f : DEnv → Out (D × DEnv)} (he : PE X e (TV G W f)) : PS X (.Return (some e) pos) (TSt G W (sRet f)) :=
  (ps_ret he).imp fun En σ H ⟨B, Z, Fs, env, gd, q⟩ => by
    refine ⟨B, Z, Fs, env, gd, ?_⟩
    unfold sRet at q
    unfold FinV
    match f env, q with
    | .exc c, q => exact q
    | .ok (d, e'), q => exact fun v Z' H' Fs' F p => q σ v Z' H' Fs' F ⟨p.st, p.one, p.nd, p.dj, p.fr, p.new⟩
theorem s_retN : PS X (.Return none pos) (TSt G W sRetN) :=
  ps_retN.imp fun En σ H ⟨B, Z, Fs, env, gd, q⟩ => q σ .non Z H Fs [] ⟨Stp.refl gd fun _ m => m, ⟨rfl, rfl⟩, List.nodup_nil, fun a m => (by cases m), fun a m => (by cases m), fun a m => (by cases m)⟩
theorem s_expr {f : DEnv → Out (D × DEnv)} (he : PE X e (TV G W f)) (hs : swapsWith e none pos.line X.env = pure false := by rfl) : PS X (.Expr e pos) (TSt G W (sExpr f)) :=
  (ps_expr he hs).imp fun En σ H ⟨B, Z, Fs, env, gd, q⟩ => by
    refine ⟨B, Z, Fs, env, gd, ?_⟩
    unfold sExpr at q
    unfold FinV
    match f env, q with
    | .exc c, q => exact q
    | .ok (d, e'), q => exact fun v Z' H' Fs' F p => q σ Z' H' Fs' p.st

/-- a value stored to slot i -/
theorem Stp.put {B Z H : Hp} {σ : L2.St} {env : DEnv} {Fs : Nat → List Addr} {P : Addr → Prop} {i : Nat} {d : D} {v : V} {F : List Addr} {env' : DEnv} (g : Good G B Z H σ env Fs) (hp : ∀ a, InF Fs a → P a) (hf : ∀ a, a ∈ F → P a) (t : Tm G B Z H (InF Fs) d v F) (hi : putS i d env = some env') :
    Stp G B Z H σ env P Z H (σ.set i (some v)) env' (onF Fs i F) := by
  unfold putS at hi
  split at hi
  · rename_i hfree
    cases hi
    have hl : i < env.length := by
      unfold free? at hfree
      cases q : env[i]? with
      | none => rw [q] at hfree; cases hfree
      | some s => exact (List.getElem?_eq_some_iff.mp q).1
    have nio : ∀ d', env[i]? ≠ some (some (.io, d')) := fun d' q => by unfold free? at hfree; rw [q] at hfree; cases hfree
    have nlk : ∀ d', env[i]? ≠ some (some (.lck, d')) := fun d' q => by unfold free? at hfree; rw [q] at hfree; cases hfree
    have hlσ : i < σ.length := by rw [← g.len]; exact hl
    have ne : ∀ (j : Nat), j ≠ i → (env.set i (some (.own, d)))[j]? = env[j]? := fun j h => List.getElem?_set_ne (fun z => h z.symm)
    have nσ : ∀ (j : Nat), j ≠ i → (σ.set i (some v))[j]? = σ[j]? := fun j h => List.getElem?_set_ne (fun z => h z.symm)
    have at_i : (env.set i (some (.own, d)))[i]? = some (some (.own, d)) := List.getElem?_set_self hl
    refine ⟨Same.refl Z, fun _ _ e _ => e, ⟨g.sb, g.sz, by rw [List.length_set, List.length_set]; exact g.len, fun j => ?_, fun j => ?_, fun j k a m n => ?_, fun j a m => ?_, g.z0⟩, fun a m => ?_, fun a m => .inl m, fun j d' e => ?_, fun j d' e => ?_, fun j d' e => ?_, fun j d' e => ?_, by rw [List.length_set]⟩
    · by_cases hj : j = i
      · subst hj
        have eo : onF Fs j F j = F := by unfold onF; rw [if_pos rfl]
        rw [eo, at_i, List.getElem?_set_self hlσ]
        exact ⟨v, rfl, t.own⟩
      · have eo : onF Fs i F j = Fs j := by unfold onF; rw [if_neg hj]
        rw [eo, ne j hj, nσ j hj]
        exact g.sl j
    · unfold onF; split; exact t.nd; exact g.nd j
    · unfold onF at m n
      split at m
      · split at n
        · rename_i e1 e2; rw [e1, e2]
        · exact absurd ⟨k, n⟩ (t.dj a m)
      · split at n
        · exact absurd ⟨j, m⟩ (t.dj a n)
        · exact g.dj j k a m n
    · unfold onF at m
      split at m
      · exact t.fr a m
      · exact g.fr j a m
    · rcases inF_on m with m | m
      · exact .inr (hf a m)
      · exact .inr (hp a m)
    · by_cases hj : j = i
      · subst hj; exact absurd e (nio d')
      · exact ⟨⟨d', by rw [ne j hj]; exact e⟩, nσ j hj⟩
    · by_cases hj : j = i
      · subst hj; exact absurd e (nlk d')
      · exact ⟨by rw [ne j hj]; exact e, nσ j hj⟩
    · by_cases hj : j = i
      · subst hj; rw [at_i] at e; cases e
      · rw [ne j hj] at e; exact ⟨e, nσ j hj⟩
    · by_cases hj : j = i
      · subst hj; rw [at_i] at e; cases e
      · rw [ne j hj] at e; exact ⟨e, nσ j hj⟩
  · cases hi
theorem s_set {i : Nat} {x : Str} {f : DEnv → Out (D × DEnv)} {p' : Pos} (dx : DX X G) (hi : X.N[i]? = some x) (hx : Loc X.env.scope x) (he : PE X e (TV G W f)) (hs : swapsWith e (some (.Name x p')) pos.line X.env = pure false := by rfl) (hf : X.fn x = true ∨ X.env.scope.names.lookup x = some .local := by first | exact .inl rfl | exact .inr rfl) :
    PS X (.Assign [.Name x p'] e pos) (TSt G W (sSet i f)) :=
  (ps_set dx.nd hi hx he hs hf).imp fun En σ H ⟨B, Z, Fs, env, gd, q⟩ => by
    refine ⟨B, Z, Fs, env, gd, ?_⟩
    unfold sSet at q
    unfold FinV
    match f env, q with
    | .exc c, q => exact q
    | .ok (d, e'), q =>
      intro v Z' H' Fs' F p
      have q : FinS G W B Z H σ env (InF Fs) (must (putS i d e') fun e => .ok (.nx e)) En := q
      cases hput : putS i d e' with
      | none => rw [hput] at q; exact q.elim
      | some e2 =>
        rw [hput] at q
        have s2 : Stp G B Z' H' σ e' (fun a => InF Fs' a ∨ a ∈ F) Z' H' (σ.set i (some v)) e2 (onF Fs' i F) := Stp.put p.st.good (fun a m => .inl m) (fun a m => .inr m) ⟨p.one, p.nd, p.dj, p.fr⟩ hput
        exact q _ _ _ _ (p.st.trans (fun a m => m.elim (p.st.new a) (p.new a)) s2)
/-- names forgotten -/
theorem Stp.drop1 {B Z H : Hp} {σ : L2.St} {env : DEnv} {Fs : Nat → List Addr} {P : Addr → Prop} {i : Nat} (g : Good G B Z H σ env Fs) (hp : ∀ a, InF Fs a → P a) (hfree : free? i env = true) : Stp G B Z H σ env P Z H σ (env.set i none) (offF Fs i) := by
  have nio : ∀ d', env[i]? ≠ some (some (.io, d')) := fun d' q => by unfold free? at hfree; rw [q] at hfree; cases hfree
  have nlk : ∀ d', env[i]? ≠ some (some (.lck, d')) := fun d' q => by unfold free? at hfree; rw [q] at hfree; cases hfree
  have ne : ∀ (j : Nat), j ≠ i → (env.set i none)[j]? = env[j]? := fun j h => List.getElem?_set_ne (fun z => h z.symm)
  have at_i : ∀ s : Md × D, (env.set i none)[i]? ≠ some (some s) := fun s q => by
    rw [List.getElem?_set_self'] at q
    cases hq : env[i]? <;> rw [hq] at q <;> cases q
  refine ⟨Same.refl Z, fun _ _ e _ => e, g.take i, fun a m => .inr (hp a (inF_off m)), fun _ m => .inl m, fun j d' e => ?_, fun j d' e => ?_, fun j d' e => ?_, fun j d' e => ?_, by rw [List.length_set]⟩
  · by_cases hj : j = i
    · subst hj; exact absurd e (nio d')
    · exact ⟨⟨d', by rw [ne j hj]; exact e⟩, rfl⟩
  · by_cases hj : j = i
    · subst hj; exact absurd e (nlk d')
    · exact ⟨by rw [ne j hj]; exact e, rfl⟩
  · by_cases hj : j = i
    · subst hj; exact absurd e (at_i _)
    · rw [ne j hj] at e; exact ⟨e, rfl⟩
  · by_cases hj : j = i
    · subst hj; exact absurd e (at_i _)
    · rw [ne j hj] at e; exact ⟨e, rfl⟩
theorem Stp.drops {B Z H : Hp} {σ : L2.St} : ∀ {is : List Nat} {env env' : DEnv} {Fs : Nat → List Addr} {P : Addr → Prop}, Good G B Z H σ env Fs → (∀ a, InF Fs a → P a) → dropS is env = some env' → ∃ Fs', Stp G B Z H σ env P Z H σ env' Fs' ∧ ∀ a, InF Fs' a → InF Fs a
  | [], env, env', Fs, P, g, hp, h => by
    cases h
    exact ⟨Fs, Stp.refl g hp, fun _ m => m⟩
  | i :: r, env, env', Fs, P, g, hp, h => by
    unfold dropS at h
    split at h
    · rename_i hf
      have s1 := Stp.drop1 (P := P) g hp hf
      obtain ⟨Fs', s2, h2⟩ := Stp.drops (P := P) s1.good (fun a m => hp a (inF_off m)) h
      exact ⟨Fs', s1.trans (fun a m => .inr m) s2, fun a m => inF_off (h2 a m)⟩
    · cases h
/-- names forgotten behind a statement -/
theorem s_then {st : List Stmt} {f g : Stm} (h : PSs X st (TSt G W f)) (hg : ∀ (B Z H : Hp) (σ : L2.St) (env : DEnv) (Fs : Nat → List Addr) (P : Addr → Prop) (En : Ends), Good G B Z H σ env Fs → (∀ a, InF Fs a → P a) → FinS G W B Z H σ env P (g env) En → En.nx σ H) : PSs X st (TSt G W (sSeq f g)) :=
  h.imp fun En σ H ⟨B, Z, Fs, env, gd, q⟩ => by
    refine ⟨B, Z, Fs, env, gd, ?_⟩
    unfold sSeq at q
    cases hf : f env with
    | bad => rw [hf] at q; exact q.elim
    | exc c => rw [hf] at q; exact q
    | ok fl =>
      rw [hf] at q
      cases fl with
      | nx e => exact fun σ' Z' H' Fs' s => hg B Z' H' σ' e Fs' (InF Fs') En s.good (fun _ m => m) (FinS.later s s.new q)
      | bk e => exact q
      | ct e => exact q
      | rt d e => exact q
theorem s_drop {st : List Stmt} {f : Stm} (is : List Nat) (h : PSs X st (TSt G W f)) : PSs X st (TSt G W (sSeq f (sDrop is))) :=
  s_then h fun B Z H σ env Fs P En g hp q => by
    unfold sDrop at q
    cases hd : dropS is env with
    | none => rw [hd] at q; exact q.elim
    | some e2 =>
      rw [hd] at q
      obtain ⟨Fs', s, _⟩ := Stp.drops (P := P) g hp hd
      exact q σ Z H Fs' s
end
end DL

namespace DL
open PySem PySem.Spec PyProof.Rows L2

/-! ### defs as functions on data -/
/-- how an argument is handed in: read; changed and handed back; handed over -/
inductive Pm where
  | b | io | mv
  deriving DecidableEq
def Pm.own : Pm → Bool
  | .b => false
  | _ => true
def Pm.isIo : Pm → Bool
  | .io => true
  | _ => false
def Pm.md : Pm → Md
  | .b => .brw
  | .io => .io
  | .mv => .own
/-- a def: its value, and what its io arguments have become, the last one first -/
abbrev Fn := List D → Out (D × List D)
def slotsOf : List Pm → List D → DEnv
  | m :: ms, d :: ds => some (m.md, d) :: slotsOf ms ds
  | _, _ => []
def startD (n : Nat) (ms : List Pm) (ds : List D) : DEnv := slotsOf ms ds ++ List.replicate (n - ms.length) none
def outsFrom : List Pm → Nat → DEnv → Option (List D)
  | [], _, _ => some []
  | .io :: ms, j, env => match env[j]?, outsFrom ms (j + 1) env with
    | some (some (.io, d)), some r => some (r ++ [d])
    | _, _ => none
  | _ :: ms, j, env => outsFrom ms (j + 1) env
/-- a def by its body -/
def runFn (n : Nat) (ms : List Pm) (body : Stm) : Fn := fun ds => if ds.length = ms.length then body (startD n ms ds) >>= fun fl => match fl with
    | .nx e => must (outsFrom ms 0 e) fun o => .ok (.non, o)
    | .rt d e => must (outsFrom ms 0 e) fun o => .ok (d, o)
    | _ => .bad
  else .bad

/-- the promise of a def that is F on data -/
def spD (G : Gc) (ms : List Pm) (F : Fn) : Sp := fun vs H Q E => ∃ (its : List (Bool × D)) (T : List Addr) (Z : Hp), its.map (·.1) = ms.map Pm.own ∧ OwnT G (cut H T) Z H its vs T ∧ T.Nodup ∧ Same Z H ∧ (∀ a, a ∈ T → Z a = none) ∧ (∀ a, Z a = none) ∧
  match F (its.map (·.2)) with
  | .ok (r, outs) => ∀ v H' Z' A, (∀ a, Z' a = none) → Same Z Z' → Same Z' H' → (∀ a o, H a = some o → a ∉ T → H' a = some o) → OwnL G Z' H' (r :: outs) (v :: ioV (ms.map Pm.isIo) vs) A → A.Nodup → (∀ a, a ∈ A → Z' a = none ∧ (H a = none ∨ a ∈ T)) → (∀ a, Z' a ≠ none → Z a ≠ none ∨ H a = none ∨ a ∈ T) → Q v H'
  | .exc c => T = [] ∧ ∃ C, G.cl c = some C ∧ ∀ H', Same H H' → E (.ref C) none H'
  | .bad => False

section
variable {G : Gc} {B Z H Z' H' : Hp} {σ : L2.St} {env : DEnv} {Fs : Nat → List Addr}
theorem slotsOf_get : ∀ (ms : List Pm) (its : List (Bool × D)) (i : Nat), its.map (·.1) = ms.map Pm.own → (slotsOf ms (its.map (·.2)))[i]? = match ms[i]?, its[i]? with
    | some m, some p => some (some (m.md, p.2))
    | _, _ => none
  | [], [], i, _ => by simp [slotsOf]
  | [], _ :: _, _, h => by simp at h
  | _ :: _, [], _, h => by simp at h
  | m :: ms, p :: its, 0, h => rfl
  | m :: ms, p :: its, i + 1, h => by
    have h1 : its.map (·.1) = ms.map Pm.own := by simpa using (List.cons.inj h).2
    have := slotsOf_get ms its i h1
    simpa [slotsOf] using this
theorem slotsOf_length : ∀ (ms : List Pm) (ds : List D), ds.length = ms.length → (slotsOf ms ds).length = ms.length
  | [], [], _ => rfl
  | [], _ :: _, h => by simp at h
  | _ :: _, [], h => by simp at h
  | m :: ms, d :: ds, h => by
    show (slotsOf ms ds).length + 1 = ms.length + 1
    rw [slotsOf_length ms ds (by simpa using h)]
/-- values at hand, one by one: Ts i are the i-th one's nodes -/
theorem OwnT.each {Y : Hp} : ∀ {its : List (Bool × D)} {vs : List V} {T : List Addr}, OwnT G Y Z H its vs T → T.Nodup → ∃ Ts : Nat → List Addr, (∀ (i : Nat) (p : Bool × D), its[i]? = some p → ∃ v, vs[i]? = some v ∧ (match p.1 with
      | true => Own G Z H p.2 v (Ts i)
      | false => Own G Y H p.2 v [] ∧ Ts i = [])) ∧ (∀ (i : Nat), its[i]? = none → Ts i = []) ∧ (∀ i, (Ts i).Nodup) ∧ (∀ i j a, a ∈ Ts i → a ∈ Ts j → i = j) ∧ (∀ i a, a ∈ Ts i → a ∈ T) ∧ ∀ a, a ∈ T → ∃ i, a ∈ Ts i
  | [], vs, T, h, nd => ⟨fun _ => [], fun i p e => by simp at e, fun _ _ => rfl, fun _ => List.nodup_nil, fun _ _ _ m => (by cases m), fun _ _ m => (by cases m), fun a m => by rw [h.2] at m; cases m⟩
  | (o, d) :: r, vs, T, h, nd => by
    obtain ⟨v', rest, F2, F3, rfl, rfl, h2, h3⟩ := h
    obtain ⟨nd1, nd2, nd3⟩ := List.nodup_append.mp nd
    obtain ⟨Ts, a1, a2, a3, a4, a5, a6⟩ := OwnT.each h3 nd2
    refine ⟨fun i => match i with
      | 0 => F2
      | i + 1 => Ts i, fun i p e => ?_, fun i e => ?_, fun i => ?_, fun i j a m n => ?_, fun i a m => ?_, fun a m => ?_⟩
    · cases i with
      | zero =>
        cases e
        exact ⟨v', rfl, h2⟩
      | succ i => exact a1 i p e
    · cases i with
      | zero => cases e
      | succ i => exact a2 i e
    · cases i with
      | zero => exact nd1
      | succ i => exact a3 i
    · cases i with
      | zero =>
        cases j with
        | zero => rfl
        | succ j => exact absurd rfl (nd3 a m a (a5 j a n))
      | succ i =>
        cases j with
        | zero => exact absurd rfl (nd3 a n a (a5 i a m))
        | succ j => rw [a4 i j a m n]
    · cases i with
      | zero => exact List.mem_append_left _ m
      | succ i => exact List.mem_append_right _ (a5 i a m)
    · rcases List.mem_append.mp m with m | m
      · exact ⟨0, m⟩
      · obtain ⟨i, m⟩ := a6 a m
        exact ⟨i + 1, m⟩

/-- the state at a def's start -/
theorem start_good {ms : List Pm} {N : List Str} {its : List (Bool × D)} {vs : List V} {T : List Addr} (hm : its.map (·.1) = ms.map Pm.own) (ho : OwnT G (cut H T) Z H its vs T) (nd : T.Nodup) (hz : Same Z H) (hn : ∀ a, a ∈ T → Z a = none) (z0 : ∀ a, Z a = none) (hl : ms.length ≤ N.length) :
    ∃ Fs, Good G (cut H T) Z H (L2.start N vs) (startD N.length ms (its.map (·.2))) Fs ∧ (∀ a, InF Fs a ↔ a ∈ T) := by
  obtain ⟨Ts, a1, a2, a3, a4, a5, a6⟩ := OwnT.each ho nd
  have li : its.length = ms.length := by simpa using congrArg List.length hm
  have lv : vs.length = ms.length := (OwnT.vlen ho).trans li
  have ls : (slotsOf ms (its.map (·.2))).length = ms.length := slotsOf_length ms _ (by rw [List.length_map]; exact li)
  refine ⟨Ts, ⟨cut_le, hz, ?_, fun i => ?_, a3, a4, fun i a m => ⟨cut_in (a5 i a m), hn a (a5 i a m)⟩, z0⟩, fun a => ⟨fun ⟨i, m⟩ => a5 i a m, a6 a⟩⟩
  · unfold startD L2.start
    rw [List.length_append, List.length_append, ls, List.length_map, lv, List.length_replicate, List.length_replicate]
  · unfold startD L2.start
    by_cases hi : i < ms.length
    · have eσ : (List.map some vs ++ List.replicate (N.length - vs.length) none)[i]? = (vs[i]?).map some := by
        rw [List.getElem?_append_left (by rw [List.length_map, lv]; exact hi), List.getElem?_map]
      have ee : (slotsOf ms (its.map (·.2)) ++ List.replicate (N.length - ms.length) none)[i]? = some (some (ms[i].md, (its[i]'(by rw [li]; exact hi)).2)) := by
        rw [List.getElem?_append_left (by rw [ls]; exact hi), slotsOf_get ms its i hm, List.getElem?_eq_getElem hi, List.getElem?_eq_getElem (by rw [li]; exact hi)]
      rw [eσ, ee]
      obtain ⟨v, ev, hv⟩ := a1 i _ (List.getElem?_eq_getElem (by rw [li]; exact hi))
      rw [ev]
      have hk : its[i].1 = ms[i].own := by
        have e1 : (its.map (·.1))[i]? = (ms.map Pm.own)[i]? := by rw [hm]
        rw [List.getElem?_map, List.getElem?_map, List.getElem?_eq_getElem (by rw [li]; exact hi), List.getElem?_eq_getElem hi] at e1
        exact Option.some.inj e1
      show SlotOk G (cut H T) Z H (some (some v)) (some (some (ms[i].md, its[i].2))) (Ts i)
      rw [hk] at hv
      have jz : Same (cut H T) (joi (cut H T) Z) := joi_left
      refine ⟨v, rfl, ?_⟩
      generalize hms : ms[i] = m at hv
      cases m with
      | b => exact ⟨Own.keep jz _ v [] (fun _ _ e _ => e) hv.1, hv.2⟩
      | io => exact hv
      | mv => exact hv
    · have hi' : ms.length ≤ i := Nat.le_of_not_lt hi
      have ee : (slotsOf ms (its.map (·.2)) ++ List.replicate (N.length - ms.length) none)[i]? = none ∨ (slotsOf ms (its.map (·.2)) ++ List.replicate (N.length - ms.length) none)[i]? = some none := by
        rw [List.getElem?_append_right (by rw [ls]; exact hi'), List.getElem?_replicate]
        split
        · exact .inr rfl
        · exact .inl rfl
      rw [a2 i (List.getElem?_eq_none_iff.mpr (by rw [li]; exact hi'))]
      rcases ee with ee | ee
      · rw [ee]; rfl
      · rw [ee]; rfl

/-- what has become of the io arguments -/
theorem outs_ok {σ' : L2.St} {env' : DEnv} {Fs' : Nat → List Addr} {B' : Hp} (g : Good G B' Z' H' σ' env' Fs') : ∀ (ms : List Pm) (j : Nat) (outs : List D) (vs : List V), outsFrom ms j env' = some outs → (∀ i v, vs[i]? = some v → ms[i]? = some .io → σ'[j + i]? = some (some v)) → vs.length = ms.length →
    ∃ A, OwnL G Z' H' outs (ioV (ms.map Pm.isIo) vs) A ∧ A.Nodup ∧ (∀ a, a ∈ A → ∃ i, j ≤ i ∧ a ∈ Fs' i)
  | [], j, outs, [], h, _, _ => by
    cases (show some ([] : List D) = some outs from h)
    exact ⟨[], ⟨rfl, rfl⟩, List.nodup_nil, fun a m => by cases m⟩
  | [], _, _, _ :: _, _, _, h => by simp at h
  | _ :: _, _, _, [], _, _, h => by simp at h
  | .b :: ms, j, outs, v :: vs, h, hv, hl => by
    obtain ⟨A, h1, h2, h3⟩ := outs_ok g ms (j + 1) outs vs h (fun i w e1 e2 => by
      have := hv (i + 1) w e1 e2
      rw [show j + 1 + i = j + (i + 1) by omega]
      exact this) (by simpa using hl)
    exact ⟨A, h1, h2, fun a m => let ⟨i, hi, m⟩ := h3 a m; ⟨i, by omega, m⟩⟩
  | .mv :: ms, j, outs, v :: vs, h, hv, hl => by
    obtain ⟨A, h1, h2, h3⟩ := outs_ok g ms (j + 1) outs vs h (fun i w e1 e2 => by
      have := hv (i + 1) w e1 e2
      rw [show j + 1 + i = j + (i + 1) by omega]
      exact this) (by simpa using hl)
    exact ⟨A, h1, h2, fun a m => let ⟨i, hi, m⟩ := h3 a m; ⟨i, by omega, m⟩⟩
  | .io :: ms, j, outs, v :: vs, h, hv, hl => by
    have h : (match env'[j]?, outsFrom ms (j + 1) env' with
      | some (some (.io, d)), some r => some (r ++ [d])
      | _, _ => none) = some outs := h
    cases he : env'[j]? with
    | none => rw [he] at h; cases h
    | some sl =>
      match sl, he with
      | some (.io, d), he =>
        rw [he] at h
        cases ho : outsFrom ms (j + 1) env' with
        | none => rw [ho] at h; cases h
        | some r =>
          rw [ho] at h
          cases h
          obtain ⟨A, h1, h2, h3⟩ := outs_ok g ms (j + 1) r vs ho (fun i w e1 e2 => by
            have := hv (i + 1) w e1 e2
            rw [show j + 1 + i = j + (i + 1) by omega]
            exact this) (by simpa using hl)
          have hs := g.sl j
          rw [he] at hs
          obtain ⟨w, ew, hw⟩ := hs
          have e0 : σ'[j]? = some (some v) := hv 0 v rfl rfl
          rw [e0] at ew
          have : v = w := Option.some.inj (Option.some.inj ew)
          subst this
          refine ⟨A ++ Fs' j, OwnL.append h1 ⟨v, [], Fs' j, [], rfl, by simp, hw, rfl, rfl⟩, List.nodup_append.mpr ⟨h2, g.nd j, fun a m b n => ?_⟩, fun a m => ?_⟩
          · rintro rfl
            obtain ⟨i, hi, m⟩ := h3 a m
            have := g.dj i j a m n
            omega
          · rcases List.mem_append.mp m with m | m
            · obtain ⟨i, hi, m⟩ := h3 a m
              exact ⟨i, by omega, m⟩
            · exact ⟨j, Nat.le_refl _, m⟩
      | none, he => rw [he] at h; cases h
      | some (.own, d), he => rw [he] at h; cases h
      | some (.shr, d), he => rw [he] at h; cases h
      | some (.brw, d), he => rw [he] at h; cases h
      | some (.lck, d), he => rw [he] at h; cases h
theorem startD_io {ms : List Pm} {its : List (Bool × D)} {n i : Nat} (hm : its.map (·.1) = ms.map Pm.own) (h : ms[i]? = some .io) : ∃ d, (startD n ms (its.map (·.2)))[i]? = some (some (Md.io, d)) := by
  have hi : i < ms.length := (List.getElem?_eq_some_iff.mp h).1
  have li : its.length = ms.length := by simpa using congrArg List.length hm
  have ls : (slotsOf ms (its.map (·.2))).length = ms.length := slotsOf_length ms _ (by rw [List.length_map]; exact li)
  unfold startD
  rw [List.getElem?_append_left (by rw [ls]; exact hi), slotsOf_get ms its i hm, h, List.getElem?_eq_getElem (by rw [li]; exact hi)]
  exact ⟨_, rfl⟩
end

/-- what a body's context tells: W is wished of the refusals that leave it -/
structure DXW (X : Cx) (G : Gc) (W : Wsh) : Prop where
  dx : DX X G
  wc : ∀ c H, W c H → ∃ C, G.cl c = some C
  tk : Takes X (fun cls d _ H' => d = none ∧ ∃ c C, cls = .ref C ∧ G.cl c = some C ∧ W c H')
/-- the wish of one refusal, for a call -/
def wishX (G : Gc) (W : Wsh) : XK := fun cls d H' => d = none ∧ ∃ c C, cls = .ref C ∧ G.cl c = some C ∧ W c H'
theorem DXW.passes {X : Cx} {G : Gc} {W : Wsh} (h : DXW X G W) : Passes (L2.CX X.prog X.w) X (wishX G W) := passes_call h.tk fun _ _ _ _ z => z

section
variable {P : Program} {w : World} {K : PySem.W.Frag} {mg : Str → Option Value} {base : Heap}
/-- THE RULE for a def: its body on data -/
theorem def_ok {x qual : Str} {st : Stmt} {f : Addr} {fd : FuncData} {N ps : List Str} {k : Nat} {cl : Str → Option Addr} {ms : List Pm} {body : Stm} (F : L2.Fun K x qual st f fd) (S : FnScope N ps (defScope st)) (hms : ms.length = ps.length)
    (hbody : ∀ (cdv : Value) (A : Around) (outer : List Env) (s : Shared) (H : Hp) (E : XK) (W : Wsh), Room k (A.deeper (envOfC qual (defScope st) s.heap.objs.size f cdv)) →
      DXW (cxOf (L2.CX P w) P w K mg base N qual (defScope st) f cdv A outer s H E) ⟨K, cl⟩ W →
      PassesOwn (model P w) (cxOf (L2.CX P w) P w K mg base N qual (defScope st) f cdv A outer s H E).A (cxOf (L2.CX P w) P w K mg base N qual (defScope st) f cdv A outer s H E).env (cxOf (L2.CX P w) P w K mg base N qual (defScope st) f cdv A outer s H E).xe →
      PSs (cxOf (L2.CX P w) P w K mg base N qual (defScope st) f cdv A outer s H E) (defBody st) (TSt ⟨K, cl⟩ W body)) :
    FnOk P w K mg base (L2.CX P w) (k + 1) f fd ps (spD ⟨K, cl⟩ ms (runFn N.length ms body)) := by
  have hN : ms.length ≤ N.length := by
    have := congrArg List.length S.pre
    rw [List.length_take] at this
    omega
  refine F.okX S (fun vs H Q E h => ?_) (fun cdv A outer s H vs Q E hr h => ?_)
  · obtain ⟨its, T, Z, hm, ho, _⟩ := h
    have li : its.length = ms.length := by simpa using congrArg List.length hm
    rw [OwnT.vlen ho, li, hms]
  · obtain ⟨its, T, Z, hm, ho, nd, hz, hn, z0, hF⟩ := h
    have li : its.length = ms.length := by simpa using congrArg List.length hm
    have lv : vs.length = ms.length := (OwnT.vlen ho).trans li
    obtain ⟨Fs, g, hT⟩ := start_good (G := ⟨K, cl⟩) hm ho nd hz hn z0 hN
    have W : Wsh := fun c H' => ∃ C, cl c = some C ∧ E (.ref C) none H'
    have hd : DXW (cxOf (L2.CX P w) P w K mg base N qual (defScope st) f cdv A outer s H E) ⟨K, cl⟩ (fun c H' => ∃ C, cl c = some C ∧ E (.ref C) none H') := by
      refine ⟨⟨rfl, rfl, S.nd, Nat.lt_of_le_of_lt (show (A.deeper (envOfC qual (defScope st) s.heap.objs.size f cdv)).units + 70 ≤ (A.deeper (envOfC qual (defScope st) s.heap.objs.size f cdv)).units + 16 * k + 200 by omega) hr.un⟩, fun c H' ⟨C, h, _⟩ => ⟨C, h⟩, ?_⟩
      refine (takes_of (E := E) rfl rfl rfl rfl).imp fun cls d σ H' ⟨e, c, C, e2, e3, C', e4, e5⟩ => ?_
      subst e e2
      rw [show cl c = some C from e3] at e4
      cases e4
      exact e5
    have hp : PassesOwn (model P w) (cxOf (L2.CX P w) P w K mg base N qual (defScope st) f cdv A outer s H E).A (cxOf (L2.CX P w) P w K mg base N qual (defScope st) f cdv A outer s H E).env (cxOf (L2.CX P w) P w K mg base N qual (defScope st) f cdv A outer s H E).xe :=
      passes_of (X := cxOf (L2.CX P w) P w K mg base N qual (defScope st) f cdv A outer s H E) rfl
    refine ⟨_, hbody cdv A outer s H E _ hr hd hp, cut H T, Z, Fs, startD N.length ms (its.map (·.2)), g, ?_⟩
    have ioσ : ∀ {σ' : L2.St} {env' : DEnv} {Z' H' : Hp} {Fs' : Nat → List Addr}, Stp ⟨K, cl⟩ (cut H T) Z H (L2.start N vs) (startD N.length ms (its.map (·.2))) (InF Fs) Z' H' σ' env' Fs' → ∀ i v, vs[i]? = some v → ms[i]? = some .io → σ'[0 + i]? = some (some v) := fun {σ' env' Z' H' Fs'} s1 i v e1 e2 => by
      obtain ⟨d, ed⟩ := startD_io (n := N.length) hm e2
      rw [Nat.zero_add, (s1.io i d ed).2]
      unfold L2.start
      have hi : i < vs.length := (List.getElem?_eq_some_iff.mp e1).1
      rw [List.getElem?_append_left (by rw [List.length_map]; exact hi), List.getElem?_map, e1]
      rfl
    have ext' : ∀ {σ' : L2.St} {env' : DEnv} {Z' H' : Hp} {Fs' : Nat → List Addr}, Stp ⟨K, cl⟩ (cut H T) Z H (L2.start N vs) (startD N.length ms (its.map (·.2))) (InF Fs) Z' H' σ' env' Fs' → ∀ a o, H a = some o → a ∉ T → H' a = some o := fun {σ' env' Z' H' Fs'} s1 a o e n => s1.ext a o e fun m => n ((hT a).mp m)
    have run : runFn N.length ms body (its.map (·.2)) = (body (startD N.length ms (its.map (·.2))) >>= fun fl => match fl with
        | .nx e => must (outsFrom ms 0 e) fun o => .ok (.non, o)
        | .rt d e => must (outsFrom ms 0 e) fun o => .ok (d, o)
        | _ => .bad) := by
      unfold runFn
      rw [if_pos (by rw [List.length_map]; exact li)]
    rw [run] at hF
    unfold FinS
    generalize body (startD N.length ms (its.map (·.2))) = ob at hF ⊢
    match ob, hF with
    | .bad, hF => exact False.elim hF
    | .exc c, hF =>
      have hF : T = [] ∧ ∃ C, cl c = some C ∧ ∀ H', Same H H' → E (.ref C) none H' := hF
      obtain ⟨rfl, C, hc, hE⟩ := hF
      intro H' hs
      refine ⟨C, hc, hE H' fun a o e => hs a o ?_⟩
      unfold cut
      rw [if_neg (by simp)]
      exact e
    | .ok (.bk e), hF => exact False.elim hF
    | .ok (.ct e), hF => exact False.elim hF
    | .ok (.nx e), hF =>
      intro σ' Z' H' Fs' s1
      have hF : (match must (outsFrom ms 0 e) fun o => Out.ok (D.non, o) with
        | .ok (r, outs) => ∀ v H' Z' A, (∀ a, Z' a = none) → Same Z Z' → Same Z' H' → (∀ a o, H a = some o → a ∉ T → H' a = some o) → OwnL ⟨K, cl⟩ Z' H' (r :: outs) (v :: ioV (ms.map Pm.isIo) vs) A → A.Nodup → (∀ a, a ∈ A → Z' a = none ∧ (H a = none ∨ a ∈ T)) → (∀ a, Z' a ≠ none → Z a ≠ none ∨ H a = none ∨ a ∈ T) → Q v H'
        | .exc c => T = [] ∧ ∃ C, cl c = some C ∧ ∀ H', Same H H' → E (.ref C) none H'
        | .bad => False) := hF
      cases ho' : outsFrom ms 0 e with
      | none => rw [ho'] at hF; exact hF.elim
      | some outs =>
        rw [ho'] at hF
        obtain ⟨A, h1, h2, h3⟩ := outs_ok s1.good ms 0 outs vs ho' (ioσ s1) lv
        refine hF .non H' Z' A s1.good.z0 s1.zz s1.good.sz (ext' s1) ⟨.non, _, [], A, rfl, rfl, ⟨rfl, rfl⟩, h1⟩ h2 (fun a m => ?_) (fun a m => ?_)
        · obtain ⟨i, _, m⟩ := h3 a m
          exact ⟨(s1.good.fr i a m).2, (s1.new a ⟨i, m⟩).imp id (hT a).mp⟩
        · exact (s1.newz a m).imp id fun z => z.imp id (hT a).mp
    | .ok (.rt d e), hF =>
      intro σ' v Z' H' Fs' F' r1
      have s1 := r1.st
      have hF : (match must (outsFrom ms 0 e) fun o => Out.ok (d, o) with
        | .ok (r, outs) => ∀ v H' Z' A, (∀ a, Z' a = none) → Same Z Z' → Same Z' H' → (∀ a o, H a = some o → a ∉ T → H' a = some o) → OwnL ⟨K, cl⟩ Z' H' (r :: outs) (v :: ioV (ms.map Pm.isIo) vs) A → A.Nodup → (∀ a, a ∈ A → Z' a = none ∧ (H a = none ∨ a ∈ T)) → (∀ a, Z' a ≠ none → Z a ≠ none ∨ H a = none ∨ a ∈ T) → Q v H'
        | .exc c => T = [] ∧ ∃ C, cl c = some C ∧ ∀ H', Same H H' → E (.ref C) none H'
        | .bad => False) := hF
      cases ho' : outsFrom ms 0 e with
      | none => rw [ho'] at hF; exact hF.elim
      | some outs =>
        rw [ho'] at hF
        obtain ⟨A, h1, h2, h3⟩ := outs_ok s1.good ms 0 outs vs ho' (ioσ s1) lv
        refine hF v H' Z' (F' ++ A) s1.good.z0 s1.zz s1.good.sz (ext' s1) ⟨v, _, F', A, rfl, rfl, r1.own, h1⟩ (List.nodup_append.mpr ⟨r1.nd, h2, fun a m b n => ?_⟩) (fun a m => ?_) (fun a m => ?_)
        · rintro rfl
          obtain ⟨i, _, n⟩ := h3 a n
          exact r1.dj a m ⟨i, n⟩
        · rcases List.mem_append.mp m with m | m
          · exact ⟨(r1.fr a m).2, (r1.new a m).imp id (hT a).mp⟩
          · obtain ⟨i, _, m⟩ := h3 a m
            exact ⟨(s1.good.fr i a m).2, (s1.new a ⟨i, m⟩).imp id (hT a).mp⟩
        · exact (s1.newz a m).imp id fun z => z.imp id (hT a).mp
end

/-! ### calls -/
/-- the values at hand as a def takes them: what it only reads is not owned any more -/
theorem OwnT.asked {G : Gc} {Z H : Hp} : ∀ {its : List (Bool × D)} {vs : List V} {T : List Addr} {Y : Hp} {ms : List Pm}, OwnT G Y Z H its vs T → its.length = ms.length → T.Nodup → (∀ (i : Nat) (p : Bool × D) (m : Pm), its[i]? = some p → ms[i]? = some m → m.own = true → p.1 = true) →
    ∃ (its' : List (Bool × D)) (T' : List Addr), its'.map (·.1) = ms.map Pm.own ∧ its'.map (·.2) = its.map (·.2) ∧ T'.Nodup ∧ (∀ a, a ∈ T' → a ∈ T) ∧ (ms.all (fun (m : Pm) => !m.own) = true → T' = []) ∧
      ∀ Y' : Hp, Same Y Y' → Same Z Y' → (∀ b u, b ∈ T → b ∉ T' → H b = some u → Y' b = some u) → OwnT G Y' Z H its' vs T'
  | [], vs, T, Y, [], h, _, _, _ => ⟨[], [], rfl, rfl, List.nodup_nil, fun a m => (by cases m), fun _ => rfl, fun Y' _ _ _ => ⟨h.1, rfl⟩⟩
  | [], _, _, _, _ :: _, _, hl, _, _ => by simp at hl
  | _ :: _, _, _, _, [], _, hl, _, _ => by simp at hl
  | (o, d) :: r, vs, T, Y, m :: ms, h, hl, nd, hk => by
    obtain ⟨v', rest, F2, F3, rfl, rfl, h2, h3⟩ := h
    obtain ⟨nd1, nd2, nd3⟩ := List.nodup_append.mp nd
    obtain ⟨its', T', e1, e2, n1, s1, z1, c1⟩ := OwnT.asked h3 (by simpa using hl) nd2 fun i p m' q1 q2 => hk (i + 1) p m' q1 q2
    by_cases hm : m.own = true
    · have ho : o = true := hk 0 (o, d) m rfl rfl hm
      subst ho
      refine ⟨(true, d) :: its', F2 ++ T', by rw [List.map_cons, List.map_cons, e1, hm], by rw [List.map_cons, List.map_cons, e2], List.nodup_append.mpr ⟨nd1, n1, fun a p b q => nd3 a p b (s1 b q)⟩, fun a q => ?_, fun z => ?_, fun Y' y1 y2 y3 => ?_⟩
      · rcases List.mem_append.mp q with q | q
        · exact List.mem_append_left _ q
        · exact List.mem_append_right _ (s1 a q)
      · simp [hm] at z
      · refine ⟨v', rest, F2, T', rfl, rfl, h2, c1 Y' y1 y2 fun b u p q e => y3 b u (List.mem_append_right _ p) (fun z => ?_) e⟩
        rcases List.mem_append.mp z with z | z
        · exact nd3 b z b p rfl
        · exact q z
    · have hm' : m.own = false := by simpa using hm
      refine ⟨(false, d) :: its', T', by rw [List.map_cons, List.map_cons, e1, hm'], by rw [List.map_cons, List.map_cons, e2], n1, fun a q => List.mem_append_right _ (s1 a q), fun z => ?_, fun Y' y1 y2 y3 => ?_⟩
      · simp only [List.all_cons, Bool.and_eq_true] at z
        exact z1 z.2
      · refine ⟨v', rest, [], T', rfl, rfl, ⟨?_, rfl⟩, c1 Y' y1 y2 fun b u p q e => y3 b u (List.mem_append_right _ p) q e⟩
        cases o with
        | true => exact Own.freeze y2 d v' F2 (fun b u p e => y3 b u (List.mem_append_left _ p) (fun q => nd3 b p b (s1 b q) rfl) e) h2
        | false => exact Own.keep y1 d v' [] (fun _ _ e _ => e) h2.1
def callK (ms : List Pm) (F : Fn) : Kn := fun ds e => match F ds with
  | .ok (r, o) => .ok (r, o, e)
  | .exc c => if ms.all (fun (m : Pm) => !m.own) = true then .exc c else .bad
  | .bad => .bad
/-- arguments as a def asks for them -/
def fitB : List Pm → List Bool → Bool
  | [], [] => true
  | m :: ms, b :: bs => (!m.own || b) && fitB ms bs
  | _, _ => false
theorem fitB_len : ∀ {ms : List Pm} {bs : List Bool}, fitB ms bs = true → bs.length = ms.length
  | [], [], _ => rfl
  | [], _ :: _, h => by cases h
  | _ :: _, [], h => by cases h
  | m :: ms, b :: bs, h => by
    have h : ((!m.own || b) && fitB ms bs) = true := h
    simp only [Bool.and_eq_true] at h
    rw [List.length_cons, List.length_cons, fitB_len h.2]
theorem fitB_at : ∀ {ms : List Pm} {bs : List Bool}, fitB ms bs = true → ∀ (i : Nat) (m : Pm) (b : Bool), ms[i]? = some m → bs[i]? = some b → m.own = true → b = true
  | [], [], _, i, m, b, e, _, _ => by simp at e
  | [], _ :: _, h, _, _, _, _, _, _ => by cases h
  | _ :: _, [], h, _, _, _, _, _, _ => by cases h
  | m :: ms, b :: bs, h, i, m', b', e1, e2, ho => by
    have h : ((!m.own || b) && fitB ms bs) = true := h
    simp only [Bool.and_eq_true] at h
    cases i with
    | zero =>
      cases e1
      cases e2
      have := h.1
      rw [ho] at this
      simpa using this
    | succ i => exact fitB_at h.2 i m' b' e1 e2 ho
section
variable {G : Gc} {W : Wsh}
theorem call_kok {ms : List Pm} {F : Fn} {bs : List Bool} (hf : fitB ms bs = true) (hwc : ∀ c H, W c H → ∃ C, G.cl c = some C) : KOk G W (ms.map Pm.isIo) bs (fun vs H Q => spD G ms F vs H Q (wishX G W)) (callK ms F) := by
  intro B Z H σ env Fs its vs T ios Q gd hd hb hn hF
  have li : its.length = ms.length := by rw [← fitB_len hf, ← hb, List.length_map]
  obtain ⟨its', T', e1, e2, n1, s1, z1, c1⟩ := OwnT.asked (ms := ms) hd.own li hd.nd fun i p m q1 q2 ho => by
    refine fitB_at hf i m p.1 q2 ?_ ho
    rw [← hb, List.getElem?_map, q1]
    rfl
  have hT' : ∀ a, a ∈ T' → Z a = none := fun a m => (hd.fr a (s1 a m)).2
  refine ⟨its', T', Z, e1, c1 (cut H T') (fun a u e => ?_) (fun a u e => ?_) (fun b u _ n e => by rw [cut_out n]; exact e), n1, gd.sz, hT', gd.z0, ?_⟩
  · unfold cut at e ⊢
    split at e
    · cases e
    · rename_i n
      rw [if_neg fun m => n (s1 a m)]
      exact e
  · rw [cut_out fun m => by rw [hT' a m] at e; cases e]
    exact gd.sz a u e
  · rw [e2]
    unfold callK at hF
    generalize F (its.map (·.2)) = fo at hF ⊢
    match fo, hF with
    | .bad, hF => exact False.elim hF
    | .exc c, hF =>
      have hF : FinO G W B Z H σ env (PT_ Fs T) ios (if ms.all (fun (m : Pm) => !m.own) = true then .exc c else .bad) Q := hF
      by_cases ha : ms.all (fun (m : Pm) => !m.own) = true
      · rw [if_pos ha] at hF
        obtain ⟨C, hC⟩ := hwc c H (hF H gd.sb)
        exact ⟨z1 ha, C, hC, fun H' hs => ⟨rfl, c, C, rfl, hC, hF H' (gd.sb.trans hs)⟩⟩
      · rw [if_neg ha] at hF
        exact hF.elim
    | .ok (r, o), hF =>
      intro v H' Z' A z0' z2 z3 ext ho nd hfr hnz
      subst hn
      have st : Stp G B Z H σ env (PT_ Fs T) Z' H' σ env Fs := by
        have b' : Same B H' := fun a u e => ext a u (gd.sb a u e) fun m => by rw [(hd.fr a (s1 a m)).1] at e; cases e
        have ninf : ∀ a, InF Fs a → a ∉ T' := fun a m n => hd.dj a (s1 a n) m
        refine ⟨z2, fun a u e n => ext a u e fun m => n (.inr (s1 a m)), ⟨b', z3, gd.len, fun i => ?_, gd.nd, gd.dj, fun i a m => ⟨(gd.fr i a m).1, ?_⟩, z0'⟩, fun a m => .inr (.inl m), fun a m => (hnz a m).imp id fun z => z.imp id fun z => .inr (s1 a z), fun j d e => ⟨⟨d, e⟩, rfl⟩, fun j d e => ⟨e, rfl⟩, fun j d e => ⟨e, rfl⟩, fun j d e => ⟨e, rfl⟩, rfl⟩
        · refine (gd.sl i).keep gd.sb gd.sz b' z3 z2 fun a u e m => ?_
          rcases m with m | nm
          · exact ext a u e (ninf a ⟨i, m⟩)
          · refine ext a _ e fun m => ?_
            obtain ⟨u, e3, mu⟩ := hd.own.dom a (s1 a m)
            rw [e] at e3; cases e3
            exact nm mu
        · cases q : Z' a with
          | none => rfl
          | some u =>
            rcases hnz a (by rw [q]; simp) with z | z | z
            · exact absurd (gd.fr i a m).2 z
            · obtain ⟨u', e, _⟩ := gd.dom ⟨i, m⟩
              rw [e] at z; cases z
            · exact absurd z (ninf a ⟨i, m⟩)
      refine hF v Z' H' Fs A ⟨st, ho, nd, fun a m n => ?_, fun a m => ⟨?_, (hfr a m).1⟩, fun a m => (hfr a m).2.imp id fun z => .inr (s1 a z)⟩
      · rcases (hfr a m).2 with z | z
        · obtain ⟨u', e, _⟩ := gd.dom n
          rw [e] at z; cases z
        · exact hd.dj a (s1 a z) n
      · rcases (hfr a m).2 with z | z
        · exact (none_of_free gd z).2.1
        · exact (hd.fr a (s1 a z)).1
/-- a call of a def -/
theorem e_call {X : Cx} {ms : List Pm} {F : Fn} {k : Nat} {f : Addr} {fd : FuncData} {ps : List Str} {x : Str} {p pos : Pos} {e : Expr} {es : List Expr} {t : TA} (dw : DXW X G W) (FO : FnOk X.prog X.w X.K X.mg X.base (L2.CX X.prog X.w) k f fd ps (spD G ms F)) (hr : Room k X.A) (hg : Gl X x) (hm : X.mg x = some (.ref f)) (hk : PySem.W.keepIn X.K (.ref f) = true) (hb : Binds X.K fd ps []) (c : Chn)
    (ha : PA X (e :: es) t) (ht : t = seqTE (c.tes G W) := by rfl) (hi : c.iofs = ms.map Pm.isIo := by rfl) (hf : fitB ms c.kinds = true := by rfl) (hdb : (x == ("__debug__" : Str)) = false := by decide) (he : starEach (e :: es) X.env = (false, eval e X.env) :: starEach es X.env := by rfl) (hpl : (backTo pos (starEach es X.env)).any (·.1) = false := by rfl) :
    PE X (.Call (.Name x p) (e :: es) [] pos) (TV G W (eK c (callK ms F))) :=
  (pe_call FO hr hg hm hk hb .nil dw.passes ha hdb he hpl).imp fun σ H Q h => by
    subst ht
    have q := tv_chn (c := c) (call_kok (F := F) hf dw.wc) hi rfl σ H Q h
    show seqTE (c.tes G W) σ H fun vs H1 => spD G ms F (vs ++ []) H1 Q (wishX G W)
    simpa using q
end
end DL

namespace DL
open PySem PySem.Spec PyProof.Rows L2

/-! ### what is walked: operands held while a loop runs -/
/-- the outer state's steps by those of an inner one, in which some slots are locked -/
structure Unl (G : Gc) (B Z H : Hp) (σ : L2.St) (env : DEnv) (P : Addr → Prop) (B1 Z1 H1 : Hp) (env1 : DEnv) (Fs1 : Nat → List Addr) (u : DEnv → DEnv) : Prop where
  good : Good G B1 Z1 H1 σ env1 Fs1
  bb : Same B B1
  hh : ∀ a, H1 a = none ∨ InF Fs1 a → H a = none ∨ P a
  out : ∀ (Z2 H2 : Hp) (σ2 : L2.St) (e2 : DEnv) (F2 : Nat → List Addr), Stp G B1 Z1 H1 σ env1 (InF Fs1) Z2 H2 σ2 e2 F2 → ∃ F3, Stp G B Z H σ env P Z2 H2 σ2 (u e2) F3 ∧ ∀ a, ¬ InF F2 a → B1 a = none → ¬ InF F3 a ∧ B a = none
section
variable {G : Gc} {B Z H B1 Z1 H1 : Hp} {σ : L2.St} {env env1 : DEnv} {P : Addr → Prop} {Fs Fs1 : Nat → List Addr} {u : DEnv → DEnv}
theorem Unl.refl (g : Good G B Z H σ env Fs) : Unl G B Z H σ env (InF Fs) B Z H env Fs id :=
  ⟨g, Same.refl B, fun _ m => m, fun _ _ _ _ F2 s => ⟨F2, s, fun _ n b => ⟨n, b⟩⟩⟩
theorem Unl.step {Z2 H2 : Hp} {env2 : DEnv} {Fs2 : Nat → List Addr} (w : Unl G B Z H σ env P B1 Z1 H1 env1 Fs1 u) (s : Stp G B1 Z1 H1 σ env1 (InF Fs1) Z2 H2 σ env2 Fs2) : Unl G B Z H σ env P B1 Z2 H2 env2 Fs2 u := by
  refine ⟨s.good, w.bb, fun a m => w.hh a ?_, fun Z3 H3 σ3 e3 F3 s3 => w.out _ _ _ _ _ (s.trans s.new s3)⟩
  rcases m with m | m
  · cases q : H1 a with
    | none => exact .inl rfl
    | some o =>
      refine .inr ?_
      by_cases n : InF Fs1 a
      · exact n
      · have := s.ext a o q n
        rw [m] at this; cases this
  · exact s.new a m
theorem Unl.lock (w : Unl G B Z H σ env P B1 Z1 H1 env1 Fs1 u) (i : Nat) : Unl G B Z H σ env P (lockB B1 H1 Fs1 i) Z1 H1 (lock i env1) (offF Fs1 i) (fun e => u (unlock env1 e)) := by
  have g := w.good
  refine ⟨g.lock i, w.bb.trans (lockB_up g i), fun a m => w.hh a (m.imp id inF_off), fun Z2 H2 σ2 e2 F2 s => ?_⟩
  have off_i : ∀ a, InF (offF Fs1 i) a → InF Fs1 a ∧ a ∉ Fs1 i := fun a m => by
    refine ⟨inF_off m, fun n => ?_⟩
    obtain ⟨j, m⟩ := m
    unfold offF at m
    split at m
    · cases m
    · rename_i hne
      exact hne (g.dj j i a m n)
  have s1 := s.unlock g (g.lock i).pm off_i (fun a m => ⟨i, m⟩)
  obtain ⟨F3, s3, h3⟩ := w.out _ _ _ _ _ s1
  refine ⟨F3, s3, fun a n b => ?_⟩
  have b1 : B1 a = none := by
    cases q : B1 a with
    | none => rfl
    | some o =>
      have := lockB_up g i a o q
      rw [b] at this; cases this
  refine h3 a (fun m => ?_) b1
  obtain ⟨j, m⟩ := m
  rcases backF_mem m with ⟨_, m⟩ | m
  · unfold lockB at b
    rw [lay_in m] at b
    obtain ⟨o, e, _⟩ := g.dom ⟨i, m⟩
    rw [e] at b; cases b
  · exact n ⟨j, m⟩
/-- a step where more is read only -/
theorem Stp.unB {B' Z2 H2 : Hp} {σ2 : L2.St} {e2 : DEnv} {F2 : Nat → List Addr} (g : Good G B Z H σ env Fs) (hB : Same B B') (pm : PMut H P) (s : Stp G B' Z H σ env P Z2 H2 σ2 e2 F2) : Stp G B Z H σ env P Z2 H2 σ2 e2 F2 := by
  have gl := s.good
  refine ⟨s.zz, s.ext, ⟨hB.trans gl.sb, gl.sz, gl.len, fun j => (gl.sl j).unlk (g.sl j) s.zz (hB.trans gl.sb) gl.sz (fun a u e st => s.ext a _ e (pm.tup e st)) (fun d e => ⟨(s.bw j d e).1 ▸ rfl, (s.bw j d e).2⟩) (fun d e => ⟨(s.lb j d e).1 ▸ rfl, (s.lb j d e).2⟩), gl.nd, gl.dj, fun i a m => ⟨?_, (gl.fr i a m).2⟩, gl.z0⟩, s.new, s.newz, s.io, s.lk, s.bw, s.lb, s.ln⟩
  cases q : B a with
  | none => rfl
  | some u =>
    have := hB a u q
    rw [(gl.fr i a m).1] at this; cases this
/-- a value at hand, held while the rest runs -/
theorem Unl.hold {F : List Addr} {d : D} {v : V} (w : Unl G B Z H σ env P B1 Z1 H1 env1 Fs1 u) (ho : Own G Z1 H1 d v F) (hd : ∀ a, a ∈ F → ¬ InF Fs1 a) : Unl G B Z H σ env P (lay B1 H1 F) Z1 H1 env1 Fs1 u ∧ Own G (joi (lay B1 H1 F) Z1) H1 d v [] := by
  have g := w.good
  have up : Same B1 (lay B1 H1 F) := lay_up g.sb
  have le : Same (lay B1 H1 F) H1 := lay_le g.sb
  refine ⟨⟨⟨le, g.sz, g.len, fun j => ?_, g.nd, g.dj, fun i a m => ⟨?_, (g.fr i a m).2⟩, g.z0⟩, w.bb.trans up, w.hh, fun Z2 H2 σ2 e2 F2 s => ?_⟩, Own.freeze (joi_right le g.sz) d v F (fun b u m e => joi_left b u (by rw [lay_in m]; exact e)) ho⟩
  · have h := g.sl j
    have j1 : Same (joi B1 Z1) (joi (lay B1 H1 F) Z1) := joi_mono up (Same.refl Z1) le g.sz
    unfold SlotOk at h ⊢
    match hs : env1[j]?, h with
    | some (some (.own, d)), h => exact h
    | some (some (.io, d)), h => exact h
    | some (some (.shr, d)), h => exact h
    | some (some (.brw, d)), h => obtain ⟨v, e, h, f⟩ := h; exact ⟨v, e, Own.keep j1 d v [] (fun _ _ e _ => e) h, f⟩
    | some (some (.lck, d)), h => obtain ⟨v, e, h, f⟩ := h; exact ⟨v, e, Own.keep j1 d v [] (fun _ _ e _ => e) h, f⟩
    | some none, h => exact h
    | none, h => exact h
  · rw [lay_out fun n => hd a n ⟨i, m⟩]
    exact (g.fr i a m).1
  · obtain ⟨F3, s3, h3⟩ := w.out _ _ _ _ _ (s.unB g up g.pm)
    refine ⟨F3, s3, fun a n b => h3 a n ?_⟩
    cases q : B1 a with
    | none => rfl
    | some o =>
      have := up a o q
      rw [b] at this; cases this
end

inductive Opn where
  | pur (h : DEnv → Option D)
  | plc (i : Nat) (g : DEnv → Option D)
  | own (f : DEnv → Out (D × DEnv))
def Opn.te (G : Gc) (W : Wsh) : Opn → TE
  | .pur h => TPur G h
  | .plc i g => TPlc G i g
  | .own f => TV G W f
def evO : List Opn → DEnv → Out (List D × List DEnv × DEnv)
  | [], env => .ok ([], [], env)
  | .pur h :: r, env => must (h env) fun d => evO r env >>= fun q => .ok (d :: q.1, q.2.1, q.2.2)
  | .plc i g :: r, env => must (g env) fun d => evO r (lock i env) >>= fun q => .ok (d :: q.1, q.2.1 ++ [env], q.2.2)
  | .own f :: r, env => f env >>= fun p => evO r p.2 >>= fun q => .ok (p.1 :: q.1, q.2.1, q.2.2)
def unlk (st : List DEnv) (e : DEnv) : DEnv := st.foldl (fun e e0 => unlock e0 e) e
/-- all tuples stay -/
def TK (H1 H : Hp) : Prop := ∀ a u, H1 a = some u → Still u → H a = some u
theorem TK.of {H H' : Hp} (h : Same H H') : TK H H' := fun a u e _ => h a _ e
theorem TK.trans {H H1 H2 : Hp} (h : TK H H1) (k : TK H1 H2) : TK H H2 := fun a u e st => k a u (h a u e st) st
theorem Stp.tk {G : Gc} {B Z H Z' H' : Hp} {σ σ' : L2.St} {env env' : DEnv} {P : Addr → Prop} {Fs' : Nat → List Addr} (s : Stp G B Z H σ env P Z' H' σ' env' Fs') (pm : PMut H P) : TK H H' := fun a u e st => s.ext a _ e (pm.tup e st)
theorem Own.keepT {G : Gc} {Y Y' H H' : Hp} {d : D} {v : V} (hy : Same Y Y') (t : TK H H') (h : Own G Y H d v []) : Own G Y' H' d v [] :=
  Own.keep hy d v [] (fun b u e m => by
    rcases m with m | nm
    · cases m
    · exact t b u e nm) h
theorem OwnL.keepT {G : Gc} {Y Y' H H' : Hp} {d : List D} {v : List V} (hy : Same Y Y') (t : TK H H') (h : OwnL G Y H d v []) : OwnL G Y' H' d v [] :=
  OwnL.keep hy d v [] (fun b u e m => by
    rcases m with m | nm
    · cases m
    · exact t b u e nm) h
theorem OwnL.snoc {G : Gc} {Y H : Hp} {ds : List D} {vs : List V} {d : D} {v : V} (h : OwnL G Y H ds vs []) (h1 : Own G Y H d v []) : OwnL G Y H (ds ++ [d]) (vs ++ [v]) [] := by
  have := OwnL.append h (OwnL.cons_nil h1 (show OwnL G Y H [] [] [] from ⟨rfl, rfl⟩))
  simpa using this

section
variable {G : Gc} {W : Wsh} {B Z H : Hp} {σ : L2.St} {env : DEnv} {P : Addr → Prop}
theorem evO_ok : ∀ (ops : List Opn) (B1 Z1 H1 : Hp) (env1 : DEnv) (Fs1 : Nat → List Addr) (u : DEnv → DEnv) (its : List D) (vs : List V) (k : List V → Hp → Prop), Unl G B Z H σ env P B1 Z1 H1 env1 Fs1 u → OwnL G (joi B1 Z1) H1 its vs [] →
    (match evO ops env1 with
      | .ok (ds, st, e) => ∀ us B2 Z2 H2 Fs2, Unl G B Z H σ env P B2 Z2 H2 e Fs2 (fun x => u (unlk st x)) → OwnL G (joi B2 Z2) H2 (its ++ ds) (vs ++ us) [] → k us H2
      | .exc c => ∀ H', Same B H' → W c H'
      | .bad => False) → seqTE (ops.map (Opn.te G W)) σ H1 k
  | [], B1, Z1, H1, env1, Fs1, u, its, vs, k, w, ho, h => by
    have h : ∀ us B2 Z2 H2 Fs2, Unl G B Z H σ env P B2 Z2 H2 env1 Fs2 (fun x => u (unlk [] x)) → OwnL G (joi B2 Z2) H2 (its ++ []) (vs ++ us) [] → k us H2 := h
    exact h [] B1 Z1 H1 Fs1 w (by rw [List.append_nil, List.append_nil]; exact ho)
  | .pur f :: r, B1, Z1, H1, env1, Fs1, u, its, vs, k, w, ho, h => by
    have e0 : evO (.pur f :: r) env1 = must (f env1) fun d => evO r env1 >>= fun q => .ok (d :: q.1, q.2.1, q.2.2) := rfl
    rw [e0] at h
    cases hf : f env1 with
    | none => rw [hf] at h; exact h.elim
    | some d =>
      rw [hf, must_some] at h
      refine ⟨B1, Z1, Fs1, env1, w.good, d, hf, fun v H2 hs hp hv => ?_⟩
      refine evO_ok r B1 Z1 H2 env1 Fs1 u (its ++ [d]) (vs ++ [v]) _ (w.step (Stp.grow w.good (fun _ m => m) hs)) (OwnL.snoc (OwnL.keepT (Same.refl _) (TK.of hs) ho) (hv _)) ?_
      cases hr : evO r env1 with
      | bad => rw [hr] at h; exact h.elim
      | exc c => rw [hr] at h; exact h
      | ok q =>
        rw [hr] at h
        exact fun us B2 Z2 H3 Fs2 w2 o2 => h (v :: us) B2 Z2 H3 Fs2 w2 (by simpa using o2)
  | .plc i f :: r, B1, Z1, H1, env1, Fs1, u, its, vs, k, w, ho, h => by
    have e0 : evO (.plc i f :: r) env1 = must (f env1) fun d => evO r (lock i env1) >>= fun q => .ok (d :: q.1, q.2.1 ++ [env1], q.2.2) := rfl
    rw [e0] at h
    cases hf : f env1 with
    | none => rw [hf] at h; exact h.elim
    | some d =>
      rw [hf, must_some] at h
      refine ⟨B1, Z1, Fs1, env1, w.good, d, hf, fun v H2 hs hv => ?_⟩
      have w1 := w.step (Stp.grow w.good (fun _ m => m) hs)
      have g1 := w1.good
      refine evO_ok r _ Z1 H2 _ _ _ (its ++ [d]) (vs ++ [v]) _ (w1.lock i) (OwnL.snoc (OwnL.keepT (joi_mono (lockB_up g1 i) (Same.refl Z1) (lockB_le g1 i) g1.sz) (TK.of hs) ho) hv) ?_
      cases hr : evO r (lock i env1) with
      | bad => rw [hr] at h; exact h.elim
      | exc c => rw [hr] at h; exact h
      | ok q =>
        rw [hr] at h
        refine fun us B2 Z2 H3 Fs2 w2 o2 => h (v :: us) B2 Z2 H3 Fs2 ?_ (by simpa using o2)
        have e : (fun x => u (unlk (q.2.1 ++ [env1]) x)) = fun x => u (unlock env1 (unlk q.2.1 x)) := by
          funext x
          unfold unlk
          rw [List.foldl_append]
          rfl
        rw [e]
        exact w2
  | .own f :: r, B1, Z1, H1, env1, Fs1, u, its, vs, k, w, ho, h => by
    have e0 : evO (.own f :: r) env1 = (f env1 >>= fun p => evO r p.2 >>= fun q => .ok (p.1 :: q.1, q.2.1, q.2.2)) := rfl
    rw [e0] at h
    refine ⟨B1, Z1, Fs1, env1, w.good, ?_⟩
    unfold FinV
    cases hf : f env1 with
    | bad => rw [hf] at h; exact h.elim
    | exc c => rw [hf] at h; exact fun H' hs => h H' (w.bb.trans hs)
    | ok p =>
      obtain ⟨d, e1⟩ := p
      rw [hf] at h
      intro v Z2 H2 Fs2 F p
      have s2 := p.st
      obtain ⟨w2, o2⟩ := (w.step s2).hold p.one p.dj
      refine evO_ok r _ _ H2 e1 Fs2 u (its ++ [d]) (vs ++ [v]) _ w2 (OwnL.snoc (OwnL.keepT (joi_mono (lay_up s2.good.sb) s2.zz w2.good.sb w2.good.sz) (s2.tk w.good.pm) ho) o2) ?_
      have h : (match evO r e1 >>= fun q => Out.ok (d :: q.1, q.2.1, q.2.2) with
        | .ok (ds, st, e) => ∀ us B2 Z2 H2 Fs2, Unl G B Z H σ env P B2 Z2 H2 e Fs2 (fun x => u (unlk st x)) → OwnL G (joi B2 Z2) H2 (its ++ ds) (vs ++ us) [] → k us H2
        | .exc c => ∀ H', Same B H' → W c H'
        | .bad => False) := h
      cases hr : evO r e1 with
      | bad => rw [hr] at h; exact h.elim
      | exc c => rw [hr] at h; exact h
      | ok q =>
        rw [hr] at h
        exact fun us B3 Z3 H3 Fs3 w3 o3 => h (v :: us) B3 Z3 H3 Fs3 w3 (by simpa using o3)
end

/-- the iterator J hands on xs, one by one, while Y and the tuples stay -/
def IterOk (G : Gc) (Y H1 : Hp) (J : It) (xs : List D) : Prop := ∀ (i : Nat) (H : Hp), Same Y H → TK H1 H → (∀ x, xs[i]? = some x → J.go i H ∧ ∀ v H', J.yld i H v H' → Same H H' ∧ Own G Y H' x v []) ∧ (i = xs.length → J.stop i H)
def TSrc (G : Gc) (W : Wsh) (ops : List Opn) (mk : List D → Option (List D)) : TI := fun σ H R => ∃ B Z Fs env, Good G B Z H σ env Fs ∧ match evO ops env with
  | .ok (ds, st, env1) => ∃ xs, mk ds = some xs ∧ ∀ B1 Z1 H1 Fs1 J, Unl G B Z H σ env (InF Fs) B1 Z1 H1 env1 Fs1 (unlk st) → IterOk G (joi B1 Z1) H1 J xs → R J H1
  | .exc c => ∀ H', Same B H' → W c H'
  | .bad => False
theorem _root_.L2.PI.imp {X : Cx} {tg e : Expr} {t t' : TI} (h : PI X tg e t) (i : ∀ σ H R, t' σ H R → t σ H R) : PI X tg e t' := ⟨fun pins s σ H R I hr => h.run pins s σ H R I (i σ H R hr)⟩
abbrev RI := List V → Hp → (It → Hp → Prop) → Prop
def fits (G : Gc) (r : RI) (mk : List D → Option (List D)) : Prop := ∀ (ds : List D) (vs : List V) (Y H : Hp) (xs : List D) (R : It → Hp → Prop), OwnL G Y H ds vs [] → Same Y H → mk ds = some xs → (∀ J H', Same H H' → IterOk G Y H' J xs → R J H') → r vs H R
theorem src_ok {G : Gc} {W : Wsh} {X : Cx} {tg e : Expr} {r : RI} {ops : List Opn} {mk : List D → Option (List D)} (hf : fits G r mk) (h : PI X tg e (fun σ H R => seqTE (ops.map (Opn.te G W)) σ H fun vs H1 => r vs H1 R)) : PI X tg e (TSrc G W ops mk) :=
  h.imp fun σ H R ⟨B, Z, Fs, env, g, q⟩ => by
    refine evO_ok (W := W) ops B Z H env Fs id [] [] _ (Unl.refl g) ⟨rfl, rfl⟩ ?_
    cases hr : evO ops env with
    | bad => rw [hr] at q; exact q.elim
    | exc c => rw [hr] at q; exact q
    | ok p =>
      obtain ⟨ds, st, e⟩ := p
      rw [hr] at q
      obtain ⟨xs, hx, q⟩ := q
      intro us B2 Z2 H2 Fs2 w o
      refine hf ds us (joi B2 Z2) H2 xs R (by simpa using o) (joi_le w.good.sb w.good.sz) hx fun J H' hs hj => ?_
      exact q B2 Z2 H' Fs2 J (w.step (Stp.grow w.good (fun _ m => m) hs)) hj

/-! ### lists, tuples, ranges, zip -/
def mkSeq : List D → Option (List D)
  | [.lst ds] => some ds
  | [.tupF _ ds] => some ds
  | _ => none
theorem mkSeq_some {ds xs : List D} (h : mkSeq ds = some xs) : ds = [.lst xs] ∨ ∃ f, ds = [.tupF f xs] := by
  unfold mkSeq at h
  split at h
  · cases h; exact .inl rfl
  · cases h; exact .inr ⟨_, rfl⟩
  · cases h
def rSeqI (K : PySem.W.Frag) : RI := fun vs H R => ∃ a, vs = [.ref a] ∧ ((∃ xs, SqL K H a xs ∧ R (Itl K a) H) ∨ (∃ xs, SqT K H a xs ∧ R (Itt K a) H))
theorem OwnL.at {G : Gc} {Y H : Hp} {ds : List D} {vs : List V} {i : Nat} {x : D} (h : OwnL G Y H ds vs []) (e : ds[i]? = some x) : ∃ v, vs[i]? = some v ∧ Own G Y H x v [] := OwnL.get h e
section
variable {G : Gc}
theorem seq_fits : fits G (rSeqI G.K) mkSeq := by
  intro ds vs Y H xs R ho hy hx q
  rcases mkSeq_some hx with rfl | ⟨f, rfl⟩
  · obtain ⟨v, r, rfl, h1, h2⟩ := OwnL.uncons ho
    obtain ⟨rfl, _⟩ := h2
    obtain ⟨a, ws, F', rfl, n, h3⟩ := h1
    rcases n with ⟨hs, _, rfl⟩ | ⟨z, _⟩
    · refine ⟨a, rfl, .inl ⟨ws, hy.seq (.inl hs), q _ H (Same.refl H) fun i H' y t => ⟨fun x e => ?_, fun hl => ?_⟩⟩⟩
      · obtain ⟨v, ev, hv⟩ := OwnL.at h3 e
        refine ⟨⟨ws, v, y.seq (.inl hs), ev⟩, fun w H2 yy => ?_⟩
        obtain ⟨rfl, yy⟩ := yy
        have := yy ws (y.seq (.inl hs))
        rw [ev] at this
        cases this
        exact ⟨Same.refl _, Own.keepT (Same.refl Y) t hv⟩
      · exact ⟨ws, y.seq (.inl hs), by rw [OwnL.length h3]; exact Nat.le_of_eq hl.symm⟩
    · cases z
  · obtain ⟨v, r, rfl, h1, h2⟩ := OwnL.uncons ho
    obtain ⟨rfl, _⟩ := h2
    obtain ⟨a, ws, rfl, e1, h3⟩ := h1
    refine ⟨a, rfl, .inr ⟨ws, e1.seq, q _ H (Same.refl H) fun i H' y t => ⟨fun x e => ?_, fun hl => ?_⟩⟩⟩
    · obtain ⟨v, ev, hv⟩ := OwnL.at h3 e
      refine ⟨⟨ws, v, (e1.keep t).seq, ev⟩, fun w H2 yy => ?_⟩
      obtain ⟨rfl, yy⟩ := yy
      have := yy ws ((e1.keep t).seq)
      rw [ev] at this
      cases this
      exact ⟨Same.refl _, Own.keepT (Same.refl Y) t hv⟩
    · exact ⟨ws, (e1.keep t).seq, by rw [OwnL.length h3]; exact Nat.le_of_eq hl.symm⟩
/-- a list or a tuple -/
theorem pi_any {X : Cx} {tg l : Expr} {tl : TE} (hl : PE X l tl) : PI X tg l (fun σ H R => tl σ H fun x H1 => rSeqI X.K [x] H1 R) := by
  refine ⟨fun ps st sg hp RR inv hh => ?_⟩
  refine thn (hl.run ps st sg hp _ inv hh) fun va sx ⟨y, hp1, J1, rr, qq⟩ => ?_
  obtain ⟨a, e, qq⟩ := qq
  cases e
  cases rr
  have fr : ∀ b, b ∈ [sx.heap.objs.size] → FpOk X ps hp1 b := fun b hb => by
    obtain rfl : b = sx.heap.objs.size := by simpa using hb
    exact J1.fpOk (Nat.le_refl _) (J1.hok.fresh (Nat.le_refl _))
  rcases qq with ⟨xs, hq, qq⟩ | ⟨xs, hq, qq⟩
  · obtain ⟨its, rv, pp, _⟩ := J1.list hq
    exact wpAny_pyIter_list pp.isList ⟨_, [_], _, _, hp1, rfl, J1.kept (t' := sx.toks) fun b o e => Heap.get?_push_of_some _ e, turn_list a _, ⟨_, Heap.get?_push_size _ rfl, rfl, rfl⟩, fr, qq⟩
  · obtain ⟨its, rv, pp, _⟩ := J1.tuple hq
    exact wpAny_pyIter_tuple (show sx.heap.IsTuple a its.toArray from pp) ⟨_, [_], _, _, hp1, rfl, J1.kept (t' := sx.toks) fun b o e => Heap.get?_push_of_some _ e, turn_tuple a _, ⟨_, Heap.get?_push_size _ rfl, rfl, rfl⟩, fr, qq⟩
theorem i_seq {W : Wsh} {X : Cx} {tg l : Expr} (op : Opn) (dx : DX X G) (hl : PE X l (op.te G W)) : PI X tg l (TSrc G W [op] mkSeq) :=
  src_ok (r := rSeqI X.K) (by rw [dx.K]; exact seq_fits) (pi_any hl)

/-- the whole numbers from lo on, n of them -/
def rngD (lo : Int) (n : Nat) : List D := (List.range n).map fun (i : Nat) => D.int (lo + (i : Int))
theorem rngD_length {lo : Int} {n : Nat} : (rngD lo n).length = n := by unfold rngD; simp
theorem rngD_at {lo : Int} {n i : Nat} {x : D} (h : (rngD lo n)[i]? = some x) : i < n ∧ x = .int (lo + (i : Int)) := by
  unfold rngD at h
  rw [List.getElem?_map] at h
  by_cases hi : i < n
  · rw [List.getElem?_range hi] at h
    exact ⟨hi, (Option.some.inj h).symm⟩
  · rw [List.getElem?_eq_none (by simpa using hi)] at h
    cases h
theorem range_iter {Y H : Hp} {lo : Int} {n : Nat} : IterOk G Y H (Itr lo n) (rngD lo n) := fun i H' y t => by
  refine ⟨fun x e => ?_, fun hl => ?_⟩
  · obtain ⟨hi, rfl⟩ := rngD_at e
    refine ⟨hi, fun v H2 yy => ?_⟩
    obtain ⟨rfl, rfl⟩ := yy
    exact ⟨Same.refl _, rfl, rfl⟩
  · rw [rngD_length] at hl
    exact Nat.le_of_eq hl.symm
def inRng (j : Int) : Bool := decide (j.natAbs < 4611686018427387904)
theorem inRng_ok {j : Int} (h : inRng j = true) : -(2 ^ 62) ≤ j ∧ j < 2 ^ 62 := by
  unfold inRng at h
  simp only [decide_eq_true_eq] at h
  omega
def mkRange1 : List D → Option (List D)
  | [d] => match d.toInt with
    | some j => if inRng j = true then some (rngD 0 j.toNat) else none
    | none => none
  | _ => none
def mkRange2 : List D → Option (List D)
  | [d, e] => match d.toInt, e.toInt with
    | some i, some j => if inRng i = true ∧ inRng j = true then some (rngD i (j - i).toNat) else none
    | _, _ => none
  | _ => none
def rRange1 : RI := fun vs H R => ∃ j : Int, vs = [.int j] ∧ -(2 ^ 62) ≤ j ∧ j < 2 ^ 62 ∧ R (Itr 0 j.toNat) H
def rRange2 : RI := fun vs H R => ∃ i j : Int, vs = [.int i, .int j] ∧ (-(2 ^ 62) ≤ i ∧ i < 2 ^ 62 ∧ -(2 ^ 62) ≤ j ∧ j < 2 ^ 62) ∧ R (Itr i (j - i).toNat) H
theorem range1_fits : fits G rRange1 mkRange1 := by
  intro ds vs Y H xs R ho hy hx q
  unfold mkRange1 at hx
  split at hx
  · rename_i d
    split at hx
    · rename_i j hj
      obtain rfl := D.toInt_some hj
      split at hx
      · rename_i hr
        cases hx
        obtain ⟨v, r, rfl, h1, h2⟩ := OwnL.uncons ho
        obtain ⟨rfl, _⟩ := h2
        exact ⟨j, by rw [h1.1], (inRng_ok hr).1, (inRng_ok hr).2, q _ H (Same.refl H) range_iter⟩
      · cases hx
    · cases hx
  · cases hx
theorem range2_fits : fits G rRange2 mkRange2 := by
  intro ds vs Y H xs R ho hy hx q
  unfold mkRange2 at hx
  split at hx
  · rename_i d e
    split at hx
    · rename_i i j hi hj
      obtain rfl := D.toInt_some hi
      obtain rfl := D.toInt_some hj
      split at hx
      · rename_i hr
        cases hx
        obtain ⟨v, r, rfl, h1, h2⟩ := OwnL.uncons ho
        obtain ⟨v2, r2, rfl, h3, h4⟩ := OwnL.uncons h2
        obtain ⟨rfl, _⟩ := h4
        exact ⟨i, j, by rw [h1.1, h3.1], ⟨(inRng_ok hr.1).1, (inRng_ok hr.1).2, (inRng_ok hr.2).1, (inRng_ok hr.2).2⟩, q _ H (Same.refl H) range_iter⟩
      · cases hx
    · cases hx
  · cases hx
theorem i_range1 {W : Wsh} {X : Cx} {tg a : Expr} {ta : TA} {p pos : Pos} (ops : List Opn) (hg : Gl X "range") (hm : X.mg "range" = none) (ha : PA X [a] ta) (ht : ta = seqTE (ops.map (Opn.te G W)) := by rfl) (hs : starEach [a] X.env = [(false, eval a X.env)] := by rfl) : PI X tg (.Call (.Name "range" p) [a] [] pos) (TSrc G W ops mkRange1) :=
  src_ok range1_fits (by subst ht; exact pi_range1 hg hm ha hs)
theorem i_range2 {W : Wsh} {X : Cx} {tg a b : Expr} {ta : TA} {p pos : Pos} (ops : List Opn) (hg : Gl X "range") (hm : X.mg "range" = none) (ha : PA X [a, b] ta) (ht : ta = seqTE (ops.map (Opn.te G W)) := by rfl) (hs : starEach [a, b] X.env = [(false, eval a X.env), (false, eval b X.env)] := by rfl) (hs2 : starEach [b] X.env = [(false, eval b X.env)] := by rfl) : PI X tg (.Call (.Name "range" p) [a, b] [] pos) (TSrc G W ops mkRange2) :=
  src_ok range2_fits (by subst ht; exact pi_range2 hg hm ha hs hs2)
end

section
variable {G : Gc}
def zipD : List D → List D → List D
  | x :: xs, y :: ys => .tup [x, y] :: zipD xs ys
  | _, _ => []
theorem zipD_length : ∀ (xs ys : List D), (zipD xs ys).length = min xs.length ys.length
  | [], ys => by simp [zipD]
  | x :: xs, [] => by simp [zipD]
  | x :: xs, y :: ys => by
    show (zipD xs ys).length + 1 = _
    rw [zipD_length xs ys, List.length_cons, List.length_cons]
    omega
theorem zipD_at : ∀ (xs ys : List D) (i : Nat) (z : D), (zipD xs ys)[i]? = some z → ∃ x y, xs[i]? = some x ∧ ys[i]? = some y ∧ z = .tup [x, y]
  | [], ys, i, z, h => by simp [zipD] at h
  | x :: xs, [], i, z, h => by simp [zipD] at h
  | x :: xs, y :: ys, 0, z, h => ⟨x, y, rfl, rfl, (Option.some.inj h).symm⟩
  | x :: xs, y :: ys, i + 1, z, h => zipD_at xs ys i z h
def D.toSeq : D → Option (List D)
  | .lst xs => some xs
  | .tupF _ xs => some xs
  | _ => none
def mkZip : List D → Option (List D)
  | [a, b] => match a.toSeq, b.toSeq with
    | some xs, some ys => some (zipD xs ys)
    | _, _ => none
  | _ => none
theorem mkZip_some {ds zs : List D} (h : mkZip ds = some zs) : ∃ a b xs ys, zs = zipD xs ys ∧ ds = [a, b] ∧ a.toSeq = some xs ∧ b.toSeq = some ys := by
  match ds, h with
  | [a, b], h =>
    have h : (match a.toSeq, b.toSeq with
      | some xs, some ys => some (zipD xs ys)
      | _, _ => none) = some zs := h
    cases ha : a.toSeq with
    | none => rw [ha] at h; cases h
    | some xs =>
      cases hb : b.toSeq with
      | none => rw [ha, hb] at h; cases h
      | some ys =>
        rw [ha, hb] at h
        cases h
        exact ⟨a, b, xs, ys, rfl, rfl, ha, hb⟩
theorem Own.sq {Y H : Hp} {d : D} {v : V} {ds : List D} (h : Own G Y H d v []) (e : d.toSeq = some ds) : ∃ k a vs, v = .ref a ∧ (∀ H', Same Y H' → TK H H' → Sq G.K k H' a vs) ∧ OwnL G Y H ds vs [] := by
  cases d with
  | lst xs =>
    cases e
    obtain ⟨a, ws, F', rfl, n, o⟩ := h
    rcases n with ⟨hs, _, rfl⟩ | ⟨z, _⟩
    · exact ⟨true, a, ws, rfl, fun H' y _ => y.seq (.inl hs), o⟩
    · cases z
  | tupF f xs =>
    cases e
    obtain ⟨a, ws, rfl, n, o⟩ := h
    exact ⟨false, a, ws, rfl, fun H' _ t => (n.keep t).seq, o⟩
  | _ => cases e
/-- a pair just laid -/
theorem pair_new {Y H H' : Hp} {x y : D} {u v : V} {T : Addr} (hT : H T = none) (e : H' = upd H T (.tup [u, v])) (h1 : Own G Y H x u []) (h2 : Own G Y H y v []) : Same H H' ∧ Own G Y H' (.tup [x, y]) (.ref T) [] := by
  subst e
  have s := same_upd (o := .tup [u, v]) hT
  exact ⟨s, T, [u, v], rfl, (upd_same : upd H T (.tup [u, v]) T = some (.tup [u, v])), OwnL.cons_nil (Own.keepT (Same.refl Y) (TK.of s) h1) (OwnL.cons_nil (Own.keepT (Same.refl Y) (TK.of s) h2) ⟨rfl, rfl⟩)⟩
theorem zip_fits : fits G (rZipX G.K) mkZip := by
  intro ds vs Y H zs R ho hy hx q
  obtain ⟨da, db, xs, ys, rfl, rfl, ea, eb⟩ := mkZip_some hx
  obtain ⟨v, r, rfl, h1, h2⟩ := OwnL.uncons ho
  obtain ⟨v2, r2, rfl, h3, h4⟩ := OwnL.uncons h2
  obtain ⟨rfl, _⟩ := h4
  obtain ⟨k1, a, ws, rfl, s1, o1⟩ := Own.sq h1 ea
  obtain ⟨k2, b, us, rfl, s2, o2⟩ := Own.sq h3 eb
  refine ⟨a, b, ws, us, k1, k2, rfl, s1 H hy (TK.of (Same.refl H)), s2 H hy (TK.of (Same.refl H)), q _ H (Same.refl H) fun i H' y t => ⟨fun z e => ?_, fun hl => ?_⟩⟩
  · obtain ⟨dx, dy, e1, e2, rfl⟩ := zipD_at _ _ _ _ e
    obtain ⟨vx, ex, hvx⟩ := OwnL.at o1 e1
    obtain ⟨vy, ey, hvy⟩ := OwnL.at o2 e2
    refine ⟨⟨ws, us, vx, vy, s1 H' y t, s2 H' y t, ex, ey⟩, fun w H2 yy => ?_⟩
    obtain ⟨T, x', y', rfl, hT, eH, f1, f2⟩ := yy
    have q1 := f1 ws (s1 H' y t)
    have q2 := f2 us (s2 H' y t)
    rw [ex] at q1
    rw [ey] at q2
    cases q1
    cases q2
    exact pair_new hT eH (Own.keepT (Same.refl Y) t hvx) (Own.keepT (Same.refl Y) t hvy)
  · rw [zipD_length] at hl
    refine ⟨ws, us, s1 H' y t, s2 H' y t, ?_⟩
    rw [OwnL.length o1, OwnL.length o2]
    exact hl
theorem i_zip {W : Wsh} {X : Cx} {elts : List Expr} {kk : Nat} {tpos : Pos} {e e2 : Expr} {ta : TA} {p pos : Pos} (ops : List Opn) (dx : DX X G) (hg : Gl X "zip") (hm : X.mg "zip" = none) (ha : PA X [e, e2] ta) (ht : ta = seqTE (ops.map (Opn.te G W)) := by rfl)
    (hs : starEach [e, e2] X.env = (false, eval e X.env) :: starEach [e2] X.env := by rfl) (hpl : (backTo pos (starEach [e2] X.env)).any (·.1) = false := by rfl) : PI X (.Tuple elts kk tpos) (.Call (.Name "zip" p) [e, e2] [] pos) (TSrc G W ops mkZip) :=
  src_ok (r := rZipX X.K) (by rw [dx.K]; exact zip_fits) (by subst ht; exact pi_zipX hg hm ha hs hpl)
end

/-! ### targets -/
structure Bnd (G : Gc) (B Z H : Hp) (σ : L2.St) (env : DEnv) (Fs : Nat → List Addr) (ts : List Nat) (σ1 : L2.St) (env1 : DEnv) (Fs1 : Nat → List Addr) : Prop where
  good : Good G B Z H σ1 env1 Fs1
  sub : ∀ a, InF Fs1 a → InF Fs a
  at_ : ∀ j, j ∉ ts → env1[j]? = env[j]? ∧ σ1[j]? = σ[j]?
  free : ∀ j, j ∈ ts → free? j env = true
  ln : env1.length = env.length
def BindOk (G : Gc) (ts : List Nat) (g : TG) (bind : D → DEnv → Option DEnv) : Prop := ∀ (B Z H : Hp) (σ : L2.St) (env : DEnv) (Fs : Nat → List Addr) (x : D) (v : V) (e : DEnv) (Q : L2.St → Hp → Prop), Good G B Z H σ env Fs → Own G (joi B Z) H x v [] → bind x env = some e → (∀ σ1 Fs1, Bnd G B Z H σ env Fs ts σ1 e Fs1 → Q σ1 H) → g v σ H Q
def bName (i : Nat) : D → DEnv → Option DEnv := fun x env => if free? i env = true then some (env.set i (some (if x.pure = true then .own else .brw, x))) else none
theorem free_not {i : Nat} {env : DEnv} (h : free? i env = true) : i < env.length ∧ (∀ d, env[i]? ≠ some (some (.io, d))) ∧ ∀ d, env[i]? ≠ some (some (.lck, d)) := by
  unfold free? at h
  refine ⟨?_, fun d q => (by rw [q] at h; cases h), fun d q => (by rw [q] at h; cases h)⟩
  cases q : env[i]? with
  | none => rw [q] at h; cases h
  | some s => exact (List.getElem?_eq_some_iff.mp q).1
section
variable {G : Gc}
theorem bind_name {i : Nat} : BindOk G [i] (gName i) (bName i) := by
  intro B Z H σ env Fs x v e Q g ho hb q
  unfold bName at hb
  split at hb
  · rename_i hf
    cases hb
    obtain ⟨hl, _, _⟩ := free_not hf
    have hlσ : i < σ.length := by rw [← g.len]; exact hl
    refine q _ (offF Fs i) ⟨⟨g.sb, g.sz, by rw [List.length_set, List.length_set]; exact g.len, fun j => ?_, fun j => ?_, fun j k a m n => ?_, fun j a m => ?_, g.z0⟩, fun a m => inF_off m, fun j hj => ?_, fun j hj => by rw [List.mem_singleton.mp hj]; exact hf, by rw [List.length_set]⟩
    · by_cases hj : j = i
      · subst hj
        have eo : offF Fs j j = [] := by unfold offF; rw [if_pos rfl]
        rw [eo, List.getElem?_set_self hl, List.getElem?_set_self hlσ]
        by_cases hp : x.pure = true
        · rw [if_pos hp]
          exact ⟨v, rfl, (Own.ofPure x v [] hp ho).2⟩
        · rw [if_neg hp]
          exact ⟨v, rfl, ho, rfl⟩
      · have eo : offF Fs i j = Fs j := by unfold offF; rw [if_neg hj]
        rw [eo, List.getElem?_set_ne (fun z => hj z.symm), List.getElem?_set_ne (fun z => hj z.symm)]
        exact g.sl j
    · unfold offF; split; exact List.nodup_nil; exact g.nd j
    · unfold offF at m n
      split at m
      · cases m
      · split at n
        · cases n
        · exact g.dj j k a m n
    · unfold offF at m
      split at m
      · cases m
      · exact g.fr j a m
    · have hj : j ≠ i := by simpa using hj
      exact ⟨List.getElem?_set_ne (fun z => hj z.symm), List.getElem?_set_ne (fun z => hj z.symm)⟩
  · cases hb
/-- several targets -/
def BindsOk (G : Gc) (ts : List Nat) (g : TGs) (bind : List D → DEnv → Option DEnv) : Prop := ∀ (B Z H : Hp) (σ : L2.St) (env : DEnv) (Fs : Nat → List Addr) (xs : List D) (vs : List V) (e : DEnv) (Q : L2.St → Hp → Prop), Good G B Z H σ env Fs → OwnL G (joi B Z) H xs vs [] → bind xs env = some e → (∀ σ1 Fs1, Bnd G B Z H σ env Fs ts σ1 e Fs1 → Q σ1 H) → g vs σ H Q
def bNil : List D → DEnv → Option DEnv
  | [], env => some env
  | _, _ => none
def bCons (f : D → DEnv → Option DEnv) (h : List D → DEnv → Option DEnv) : List D → DEnv → Option DEnv
  | x :: xs, env => match f x env with
    | some e => h xs e
    | none => none
  | [], _ => none
def bTup (f : List D → DEnv → Option DEnv) : D → DEnv → Option DEnv := fun x env => match x.toTupA with
  | some xs => f xs env
  | none => none
theorem binds_nil : BindsOk G [] gNil bNil := by
  intro B Z H σ env Fs xs vs e Q g ho hb q
  unfold bNil at hb
  split at hb
  · cases hb
    obtain ⟨rfl, _⟩ := ho
    exact ⟨rfl, q σ Fs ⟨g, fun _ m => m, fun _ _ => ⟨rfl, rfl⟩, fun j hj => (by cases hj), rfl⟩⟩
  · cases hb
theorem free_back {env env1 : DEnv} {ts : List Nat} {j : Nat} (h1 : ∀ j, j ∉ ts → env1[j]? = env[j]?) (h2 : ∀ j, j ∈ ts → free? j env = true) (h : free? j env1 = true) : free? j env = true := by
  by_cases m : j ∈ ts
  · exact h2 j m
  · unfold free? at h ⊢
    rw [h1 j m] at h
    exact h
theorem binds_cons {ts ts2 : List Nat} {g : TG} {gs : TGs} {f : D → DEnv → Option DEnv} {h : List D → DEnv → Option DEnv} (h1 : BindOk G ts g f) (h2 : BindsOk G ts2 gs h) : BindsOk G (ts ++ ts2) (gCons g gs) (bCons f h) := by
  intro B Z H σ env Fs xs vs e Q gd ho hb q
  cases xs with
  | nil => cases hb
  | cons x xs' =>
    have hb : (match f x env with
      | some e => h xs' e
      | none => none) = some e := hb
    obtain ⟨v, r, rfl, o1, o2⟩ := OwnL.uncons ho
    cases hf : f x env with
    | none => rw [hf] at hb; cases hb
    | some e1 =>
      rw [hf] at hb
      refine ⟨v, r, rfl, h1 B Z H σ env Fs x v e1 _ gd o1 hf fun σ1 Fs1 b1 => ?_⟩
      refine h2 B Z H σ1 e1 Fs1 xs' r e Q b1.good o2 hb fun σ2 Fs2 b2 => ?_
      refine q σ2 Fs2 ⟨b2.good, fun a m => b1.sub a (b2.sub a m), fun j hj => ?_, fun j hj => ?_, b2.ln.trans b1.ln⟩
      · have hj : j ∉ ts ∧ j ∉ ts2 := by simpa using hj
        exact ⟨(b2.at_ j hj.2).1.trans (b1.at_ j hj.1).1, (b2.at_ j hj.2).2.trans (b1.at_ j hj.1).2⟩
      · rcases List.mem_append.mp hj with hj | hj
        · exact b1.free j hj
        · exact free_back (fun j n => (b1.at_ j n).1) b1.free (b2.free j hj)
theorem bind_tup {ts : List Nat} {gs : TGs} {f : List D → DEnv → Option DEnv} {n : Nat} {K : PySem.W.Frag} (hK : K = G.K) (h : BindsOk G ts gs f) (hn : ∀ xs env e, f xs env = some e → xs.length = n) : BindOk G ts (gTup K n gs) (bTup f) := by
  intro B Z H σ env Fs x v e Q gd ho hb q
  unfold bTup at hb
  cases hx : x.toTupA with
  | none => rw [hx] at hb; cases hb
  | some xs =>
    rw [hx] at hb
    obtain ⟨g, rfl⟩ := D.toTupA_some hx
    obtain ⟨a, vs, rfl, e1, o1⟩ := ho
    exact ⟨a, vs, rfl, e1.seq, by rw [OwnL.length o1]; exact hn _ _ _ hb, h B Z H σ env Fs xs vs e Q gd o1 hb q⟩
theorem bNil_len : ∀ xs env e, bNil xs env = some e → xs.length = 0
  | [], _, _, _ => rfl
  | _ :: _, _, _, h => by cases h
theorem bCons_len {f : D → DEnv → Option DEnv} {h : List D → DEnv → Option DEnv} {n : Nat} (hn : ∀ xs env e, h xs env = some e → xs.length = n) : ∀ xs env e, bCons f h xs env = some e → xs.length = n + 1
  | [], _, _, z => by cases z
  | x :: xs, env, e, z => by
    unfold bCons at z
    cases hf : f x env with
    | none => simp only [hf] at z; cases z
    | some e1 =>
      simp only [hf] at z
      rw [List.length_cons, hn xs e1 e z]
theorem dropS_at : ∀ {is : List Nat} {env env' : DEnv}, dropS is env = some env' → env'.length = env.length ∧ (∀ j, j ∉ is → env'[j]? = env[j]?) ∧ (∀ (j : Nat) (s : Md × D), j ∈ is → env'[j]? ≠ some (some s)) ∧ ∀ j, j ∈ is → free? j env = true
  | [], env, env', h => by
    cases h
    exact ⟨rfl, fun _ _ => rfl, fun j s m => (by cases m), fun j m => (by cases m)⟩
  | i :: r, env, env', h => by
    unfold dropS at h
    split at h
    · rename_i hf
      obtain ⟨h1, h2, h3, h4⟩ := dropS_at h
      have nn : ∀ j, j ≠ i → (env.set i none)[j]? = env[j]? := fun j hj => List.getElem?_set_ne (fun z => hj z.symm)
      refine ⟨h1.trans (by rw [List.length_set]), fun j hj => ?_, fun j s hj => ?_, fun j hj => ?_⟩
      · have hj : j ≠ i ∧ j ∉ r := by simpa using hj
        rw [h2 j hj.2, nn j hj.1]
      · by_cases hjr : j ∈ r
        · exact h3 j s hjr
        · rcases List.mem_cons.mp hj with rfl | hj
          · rw [h2 j hjr, List.getElem?_set_self']
            cases env[j]? <;> (intro z; cases z)
          · exact absurd hj hjr
      · by_cases hji : j = i
        · rw [hji]; exact hf
        · rcases List.mem_cons.mp hj with rfl | hj
          · exact hf
          · have := h4 j hj
            unfold free? at this ⊢
            rw [nn j hji] at this
            exact this
    · cases h
/-- a turn as a step: bound, run, forgotten -/
theorem Bnd.stp {B Z H Z2 H2 : Hp} {σ σ1 σ2 : L2.St} {env env1 e2 e3 : DEnv} {Fs Fs1 F2 : Nat → List Addr} {ts clr : List Nat} {P : Addr → Prop} (b : Bnd G B Z H σ env Fs ts σ1 env1 Fs1) (hP : ∀ a, InF Fs a → P a) (s : Stp G B Z H σ1 env1 (InF Fs1) Z2 H2 σ2 e2 F2) (hd : dropS clr e2 = some e3) (hc : ∀ j, j ∈ ts → j ∈ clr) :
    ∃ F3, Stp G B Z H σ env P Z2 H2 σ2 e3 F3 ∧ ∀ a, InF F3 a → InF F2 a := by
  obtain ⟨F3, s3, h3⟩ := Stp.drops (P := InF F2) s.good (fun _ m => m) hd
  obtain ⟨d1, d2, d3, d4⟩ := dropS_at hd
  have sub : ∀ a, InF Fs1 a → P a := fun a m => hP a (b.sub a m)
  have frt : ∀ j, j ∈ ts → (∀ d, env[j]? ≠ some (some (.io, d))) ∧ ∀ d, env[j]? ≠ some (some (.lck, d)) := fun j m => (free_not (b.free j m)).2
  have s13 := s.trans s.new s3
  refine ⟨F3, ⟨s13.zz, fun a o e n => s13.ext a o e fun m => n (sub a m), s13.good, fun a m => (s13.new a m).imp id (sub a), fun a m => (s13.newz a m).imp id fun z => z.imp id (sub a), fun j d e => ?_, fun j d e => ?_, fun j d e => ?_, fun j d e => ?_, s13.ln.trans b.ln⟩, h3⟩
  · by_cases m : j ∈ ts
    · exact absurd e ((frt j m).1 d)
    · have q := s13.io j d (by rw [(b.at_ j m).1]; exact e)
      exact ⟨q.1, q.2.trans (b.at_ j m).2⟩
  · by_cases m : j ∈ ts
    · exact absurd e ((frt j m).2 d)
    · have q := s13.lk j d (by rw [(b.at_ j m).1]; exact e)
      exact ⟨q.1, q.2.trans (b.at_ j m).2⟩
  · by_cases m : j ∈ ts
    · exact absurd e (d3 j _ (hc j m))
    · have q := s13.bw j d e
      exact ⟨by rw [← (b.at_ j m).1]; exact q.1, q.2.trans (b.at_ j m).2⟩
  · by_cases m : j ∈ ts
    · exact absurd e (d3 j _ (hc j m))
    · have q := s13.lb j d e
      exact ⟨by rw [← (b.at_ j m).1]; exact q.1, q.2.trans (b.at_ j m).2⟩
end

/-! ### for -/
def forD (bind : D → DEnv → Option DEnv) (clr : List Nat) (body : Stm) : List D → Stm
  | [], env => .ok (.nx env)
  | x :: xs, env => must (bind x env) fun e => body e >>= fun fl => match fl with
    | .nx e => must (dropS clr e) fun e => forD bind clr body xs e
    | .ct e => must (dropS clr e) fun e => forD bind clr body xs e
    | .bk e => must (dropS clr e) fun e => .ok (.nx e)
    | .rt d e => must (dropS clr e) fun e => .ok (.rt d e)
def unS (st : List DEnv) : Flw → Out Flw
  | .nx e => .ok (.nx (unlk st e))
  | .rt d e => .ok (.rt d (unlk st e))
  | _ => .bad
def sFor (ops : List Opn) (mk : List D → Option (List D)) (bind : D → DEnv → Option DEnv) (clr : List Nat) (body : Stm) : Stm := fun env => evO ops env >>= fun q => must (mk q.1) fun xs => forD bind clr body xs q.2.2 >>= unS q.2.1
section
variable {G : Gc} {X : Cx} {W : Wsh}
theorem FinS.unl {B Z H B1 Z1 H1 : Hp} {σ : L2.St} {env env1 : DEnv} {P : Addr → Prop} {Fs1 : Nat → List Addr} {st : List DEnv} {o : Out Flw} {En : Ends} (w : Unl G B Z H σ env P B1 Z1 H1 env1 Fs1 (unlk st)) (h : FinS G W B Z H σ env P (o >>= unS st) En) : FinS G W B1 Z1 H1 σ env1 (InF Fs1) o En := by
  unfold FinS at h ⊢
  match o, h with
  | .exc c, h => exact fun H' hs => h H' (w.bb.trans hs)
  | .ok (.nx e), h =>
    intro σ' Z' H' Fs' s
    obtain ⟨F3, s3, _⟩ := w.out _ _ _ _ _ s
    exact h σ' Z' H' F3 s3
  | .ok (.rt d e), h =>
    intro σ' v Z' H' Fs' F p
    obtain ⟨F3, s3, h3⟩ := w.out _ _ _ _ _ p.st
    exact h σ' v Z' H' F3 F ⟨s3, p.own, p.nd, fun a m => (h3 a (p.dj a m) (p.fr a m).1).1, fun a m => ⟨(h3 a (p.dj a m) (p.fr a m).1).2, (p.fr a m).2⟩, fun a m => w.hh a (p.new a m)⟩
theorem drop_get {α : Type} {xs : List α} {i : Nat} (h : i < xs.length) : xs.drop i = xs[i] :: xs.drop (i + 1) := List.drop_eq_getElem_cons h
theorem s_for {iter tg : Expr} {g : TG} {body : List Stmt} {pos : Pos} {ops : List Opn} {mk : List D → Option (List D)} {bind : D → DEnv → Option DEnv} {ts : List Nat} {fb : Stm} (clr : List Nat) (dx : DX X G) (hp : PassesOwn (model X.prog X.w) X.A X.env X.xe) (hi : PI X tg iter (TSrc G W ops mk)) (hg : PG X tg g) (hbk : BindOk G ts g bind) (hb : PSs X body (TSt G W fb))
    (hc : ts.all (fun j => clr.contains j) = true := by rfl) (hs : ∀ x, foldedSetIterable iter X.env x = pure x := by intro _; rfl) : PS X (.For tg iter body [] pos) (TSt G W (sFor ops mk bind clr fb)) :=
  (ps_for hp dx.calm hi hg hb hs).imp fun En σ H ⟨B, Z, Fs, env, gd, q⟩ => by
    have hcl : ∀ j, j ∈ ts → j ∈ clr := fun j m => by
      have := List.all_eq_true.mp hc j m
      simpa using this
    refine ⟨B, Z, Fs, env, gd, ?_⟩
    unfold sFor at q
    cases hr : evO ops env with
    | bad => rw [hr] at q; exact q.elim
    | exc c => rw [hr] at q; exact q
    | ok p =>
      obtain ⟨ds, st, env1⟩ := p
      rw [hr] at q
      have q : FinS G W B Z H σ env (InF Fs) (must (mk ds) fun xs => forD bind clr fb xs env1 >>= unS st) En := q
      show ∃ xs, mk ds = some xs ∧ _
      cases hx : mk ds with
      | none => rw [hx] at q; exact q.elim
      | some xs =>
        rw [hx] at q
        refine ⟨xs, rfl, fun B1 Z1 H1 Fs1 J w hj => ?_⟩
        have q1 := FinS.unl w q
        have hy : Same (joi B1 Z1) H1 := joi_le w.good.sb w.good.sz
        refine ⟨fun i m σ' H' => m = xs.length - i ∧ i ≤ xs.length ∧ ∃ Z2 Fs2 e2, Good G B1 Z2 H' σ' e2 Fs2 ∧ Same Z1 Z2 ∧ TK H1 H' ∧ FinS G W B1 Z2 H' σ' e2 (InF Fs2) (forD bind clr fb (xs.drop i) e2) En, ⟨xs.length, rfl, Nat.zero_le _, Z1, Fs1, env1, w.good, Same.refl _, TK.of (Same.refl _), q1⟩, ?_⟩
        rintro i m σ' H' ⟨rfl, hi, Z2, Fs2, e2, g2, z12, tk2, q2⟩
        have y2 : Same (joi B1 Z1) H' := joi_le g2.sb (z12.trans g2.sz)
        obtain ⟨ji, js⟩ := hj i H' y2 tk2
        by_cases hlt : i < xs.length
        · obtain ⟨go, yl⟩ := ji xs[i] (List.getElem?_eq_getElem hlt)
          rw [drop_get hlt] at q2
          refine .inr ⟨go, fun σ' H' => ∃ Z2 Fs2 e2, Good G B1 Z2 H' σ' e2 Fs2 ∧ Same Z1 Z2 ∧ TK H1 H' ∧ FinS G W B1 Z2 H' σ' e2 (InF Fs2) (forD bind clr fb (xs.drop (i + 1)) e2) En, fun σ3 H3 n3 => ⟨xs.length - (i + 1), by omega, rfl, hlt, n3⟩, fun v H3 y3 => ?_⟩
          obtain ⟨hs3, ov⟩ := yl v H3 y3
          have g3 := g2.grow hs3
          have q3 : FinS G W B1 Z2 H3 σ' e2 (InF Fs2) (must (bind xs[i] e2) fun e => fb e >>= fun fl => match fl with
              | .nx e => must (dropS clr e) fun e => forD bind clr fb (xs.drop (i + 1)) e
              | .ct e => must (dropS clr e) fun e => forD bind clr fb (xs.drop (i + 1)) e
              | .bk e => must (dropS clr e) fun e => .ok (.nx e)
              | .rt d e => must (dropS clr e) fun e => .ok (.rt d e)) En := FinS.later (Stp.grow (P := InF Fs2) g2 (fun _ m => m) hs3) (fun a m => .inr m) q2
          cases hbd : bind xs[i] e2 with
          | none => rw [hbd] at q3; exact q3.elim
          | some e4 =>
            rw [hbd, must_some] at q3
            refine hbk B1 Z2 H3 σ' e2 Fs2 xs[i] v e4 _ g3 (Own.keepT (joi_mono (Same.refl B1) z12 g3.sb g3.sz) (TK.of (Same.refl _)) ov) hbd fun σ4 Fs4 b4 => ?_
            refine ⟨B1, Z2, Fs4, e4, b4.good, ?_⟩
            unfold FinS
            cases hfb : fb e4 with
            | bad => rw [hfb] at q3; exact q3.elim
            | exc c => rw [hfb] at q3; exact q3
            | ok fl =>
              rw [hfb] at q3
              cases fl with
              | nx e5 =>
                intro σ6 Z6 H6 F6 s6
                have q3 : FinS G W B1 Z2 H3 σ' e2 (InF Fs2) (must (dropS clr e5) fun e => forD bind clr fb (xs.drop (i + 1)) e) En := q3
                cases hdr : dropS clr e5 with
                | none => rw [hdr] at q3; exact q3.elim
                | some e7 =>
                  rw [hdr] at q3
                  obtain ⟨F7, s7, _⟩ := b4.stp (P := InF Fs2) (fun _ m => m) s6 hdr hcl
                  exact ⟨Z6, F7, e7, s7.good, z12.trans s7.zz, tk2.trans ((TK.of hs3).trans (s7.tk g3.pm)), FinS.later s7 s7.new q3⟩
              | ct e5 =>
                intro σ6 Z6 H6 F6 s6
                have q3 : FinS G W B1 Z2 H3 σ' e2 (InF Fs2) (must (dropS clr e5) fun e => forD bind clr fb (xs.drop (i + 1)) e) En := q3
                cases hdr : dropS clr e5 with
                | none => rw [hdr] at q3; exact q3.elim
                | some e7 =>
                  rw [hdr] at q3
                  obtain ⟨F7, s7, _⟩ := b4.stp (P := InF Fs2) (fun _ m => m) s6 hdr hcl
                  exact ⟨Z6, F7, e7, s7.good, z12.trans s7.zz, tk2.trans ((TK.of hs3).trans (s7.tk g3.pm)), FinS.later s7 s7.new q3⟩
              | bk e5 =>
                intro σ6 Z6 H6 F6 s6
                have q3 : FinS G W B1 Z2 H3 σ' e2 (InF Fs2) (must (dropS clr e5) fun e => .ok (.nx e)) En := q3
                cases hdr : dropS clr e5 with
                | none => rw [hdr] at q3; exact q3.elim
                | some e7 =>
                  rw [hdr] at q3
                  obtain ⟨F7, s7, _⟩ := b4.stp (P := InF Fs2) (fun _ m => m) s6 hdr hcl
                  exact q3 σ6 Z6 H6 F7 s7
              | rt d e5 =>
                intro σ6 v6 Z6 H6 F6 F p6
                have q3 : FinS G W B1 Z2 H3 σ' e2 (InF Fs2) (must (dropS clr e5) fun e => .ok (.rt d e)) En := q3
                cases hdr : dropS clr e5 with
                | none => rw [hdr] at q3; exact q3.elim
                | some e7 =>
                  rw [hdr] at q3
                  obtain ⟨F7, s7, h7⟩ := b4.stp (P := InF Fs2) (fun _ m => m) p6.st hdr hcl
                  exact q3 σ6 v6 Z6 H6 F7 F ⟨s7, p6.own, p6.nd, fun a m n => p6.dj a m (h7 a n), p6.fr, fun a m => (p6.new a m).imp id (b4.sub a)⟩
        · have e : i = xs.length := by omega
          subst e
          rw [List.drop_length] at q2
          exact .inl ⟨js rfl, q2 σ' Z2 H' Fs2 (Stp.refl g2 fun _ m => m)⟩

/-! ### while -/
def whileN (c : DEnv → Out (Bool × DEnv)) (body : Stm) : Nat → Stm
  | 0, _ => .bad
  | n + 1, env => c env >>= fun p => if p.1 = true then body p.2 >>= fun fl => match fl with
      | .nx e => whileN c body n e
      | .ct e => whileN c body n e
      | .bk e => .ok (.nx e)
      | .rt d e => .ok (.rt d e)
    else .ok (.nx p.2)
open Classical in
/-- what some number of turns comes to -/
noncomputable def sWhile (c : DEnv → Out (Bool × DEnv)) (body : Stm) : Stm := fun env => if h : ∃ n, whileN c body n env ≠ .bad then whileN c body h.choose env else .bad
theorem whileN_mono {c : DEnv → Out (Bool × DEnv)} {body : Stm} : ∀ (n : Nat) (env : DEnv), whileN c body n env ≠ .bad → whileN c body (n + 1) env = whileN c body n env
  | 0, env, h => absurd rfl h
  | n + 1, env, h => by
    have e1 : ∀ k, whileN c body (k + 1) env = (c env >>= fun p => if p.1 = true then body p.2 >>= fun fl => match fl with
      | .nx e => whileN c body k e
      | .ct e => whileN c body k e
      | .bk e => .ok (.nx e)
      | .rt d e => .ok (.rt d e)
    else .ok (.nx p.2)) := fun k => rfl
    rw [e1] at h
    rw [e1 (n + 1), e1 n]
    cases hc : c env with
    | bad => rfl
    | exc x => rfl
    | ok p =>
      rw [hc] at h
      simp only [Out.bind_ok] at h ⊢
      split
      · rename_i hp
        rw [if_pos hp] at h
        cases hb : body p.2 with
        | bad => rfl
        | exc x => rfl
        | ok fl =>
          rw [hb] at h
          cases fl with
          | nx e => exact whileN_mono n e h
          | ct e => exact whileN_mono n e h
          | bk e => rfl
          | rt d e => rfl
      · rfl
theorem whileN_le {c : DEnv → Out (Bool × DEnv)} {body : Stm} {n : Nat} {env : DEnv} (h : whileN c body n env ≠ .bad) : ∀ k, whileN c body (n + k) env = whileN c body n env
  | 0 => rfl
  | k + 1 => by
    have ih := whileN_le h k
    rw [← Nat.add_assoc, whileN_mono _ _ (by rw [ih]; exact h), ih]
theorem sWhile_of {c : DEnv → Out (Bool × DEnv)} {body : Stm} {n : Nat} {env : DEnv} {o : Out Flw} (h : whileN c body n env = o) (ho : o ≠ .bad) : sWhile c body env = o := by
  have hx : ∃ n, whileN c body n env ≠ .bad := ⟨n, by rw [h]; exact ho⟩
  unfold sWhile
  rw [dif_pos hx]
  have h1 := whileN_le (n := n) (env := env) (c := c) (body := body) (by rw [h]; exact ho) hx.choose
  have h2 := whileN_le hx.choose_spec n
  rw [Nat.add_comm] at h2
  rw [← h2, h1, h]
theorem sWhile_ok {c : DEnv → Out (Bool × DEnv)} {body : Stm} {env : DEnv} (h : sWhile c body env ≠ .bad) : ∃ n, whileN c body n env = sWhile c body env := by
  unfold sWhile at h ⊢
  split
  · rename_i hx
    exact ⟨_, rfl⟩
  · rename_i hx
    rw [dif_neg hx] at h
    exact absurd rfl h
theorem s_while {c : Expr} {body : List Stmt} {pos : Pos} {fc : DEnv → Out (Bool × DEnv)} {fb : Stm} (hp : PassesOwn (model X.prog X.w) X.A X.env X.xe) (hcc : PT X c (TB G W fc)) (hb : PSs X body (TSt G W fb)) : PS X (.While c body [] pos) (TSt G W (sWhile fc fb)) :=
  (ps_while hp hcc hb).imp fun En σ H ⟨B, Z, Fs, env, gd, q⟩ => by
    have nb : sWhile fc fb env ≠ .bad := fun e => by rw [e] at q; exact q
    obtain ⟨n, en⟩ := sWhile_ok nb
    rw [← en] at q
    refine ⟨fun m σ' H' => ∃ Z2 Fs2 e2, Good G B Z2 H' σ' e2 Fs2 ∧ FinS G W B Z2 H' σ' e2 (InF Fs2) (whileN fc fb m e2) En, ⟨n, Z, Fs, env, gd, q⟩, ?_⟩
    rintro m σ1 H1 ⟨Z2, Fs2, e2, g2, q2⟩
    cases m with
    | zero => exact q2.elim
    | succ m =>
      refine ⟨B, Z2, Fs2, e2, g2, ?_⟩
      have q2 : FinS G W B Z2 H1 σ1 e2 (InF Fs2) (fc e2 >>= fun p => if p.1 = true then fb p.2 >>= fun fl => match fl with
        | .nx e => whileN fc fb m e
        | .ct e => whileN fc fb m e
        | .bk e => .ok (.nx e)
        | .rt d e => .ok (.rt d e)
      else .ok (.nx p.2)) En := q2
      unfold FinB
      cases hc : fc e2 with
      | bad => rw [hc] at q2; exact q2.elim
      | exc x => rw [hc] at q2; exact q2
      | ok p =>
        obtain ⟨b, e3⟩ := p
        rw [hc] at q2
        simp only [Out.bind_ok] at q2
        intro Z3 H3 Fs3 s3
        cases b with
        | false =>
          rw [if_neg Bool.false_ne_true] at q2 ⊢
          exact q2 σ1 Z3 H3 Fs3 s3
        | true =>
          rw [if_pos rfl] at q2 ⊢
          refine ⟨fun σ' H' => ∃ Z2 Fs2 e2, Good G B Z2 H' σ' e2 Fs2 ∧ FinS G W B Z2 H' σ' e2 (InF Fs2) (whileN fc fb m e2) En, fun σ' H' n' => ⟨m, Nat.lt_succ_self m, n'⟩, ?_⟩
          refine ⟨B, Z3, Fs3, e3, s3.good, ?_⟩
          have q3 := FinS.later s3 s3.new q2
          unfold FinS at q3 ⊢
          cases hb : fb e3 with
          | bad => rw [hb] at q3; exact q3.elim
          | exc x => rw [hb] at q3; exact q3
          | ok fl =>
            rw [hb] at q3
            cases fl with
            | nx e4 => exact fun σ4 Z4 H4 F4 s4 => ⟨Z4, F4, e4, s4.good, FinS.later s4 s4.new q3⟩
            | ct e4 => exact fun σ4 Z4 H4 F4 s4 => ⟨Z4, F4, e4, s4.good, FinS.later s4 s4.new q3⟩
            | bk e4 => exact q3
            | rt d e4 => exact q3
end
end DL

namespace DL
open PySem PySem.Spec PyProof.Rows L2

/-! ### list comprehensions -/
def hid? (i : Nat) (env : DEnv) : Bool := match env[i]? with
  | some none => true
  | some (some (.own, d)) => d.pure
  | _ => false
/-- the block's own slots put aside -/
def hideS : List Nat → DEnv → Option DEnv
  | [], env => some env
  | v :: r, env => match hideS r env with
    | some e => if hid? v e = true then some (e.set v none) else none
    | none => none
/-- .. and back -/
def backS : List Nat → DEnv → DEnv → DEnv
  | [], _, e => e
  | v :: r, env0, e => (backS r env0 e).set v (env0[v]?.getD none)
def lcG (bind : D → DEnv → Option DEnv) (cond : DEnv → Out (Bool × DEnv)) (elt : DEnv → Out (D × DEnv)) (clr : List Nat) : List D → DEnv → Out (List D × DEnv)
  | [], env => .ok ([], env)
  | x :: xs, env => must (bind x env) fun e => cond e >>= fun p => if p.1 = true then elt p.2 >>= fun q => must (dropS clr q.2) fun e2 => lcG bind cond elt clr xs e2 >>= fun r => .ok (q.1 :: r.1, r.2)
      else must (dropS clr p.2) fun e2 => lcG bind cond elt clr xs e2
def noEx {α : Type} (o : Out α) : Option α := match o with
  | .ok a => some a
  | _ => none
theorem noEx_some {α : Type} {o : Out α} {a : α} (h : noEx o = some a) : o = .ok a := by
  cases o with
  | ok b => cases h; rfl
  | exc c => cases h
  | bad => cases h
def lcE (ops : List Opn) (mk : List D → Option (List D)) (bind : D → DEnv → Option DEnv) (cond : DEnv → Out (Bool × DEnv)) (elt : DEnv → Out (D × DEnv)) (vs : List Nat) : DEnv → Out (D × DEnv) := fun env =>
  evO ops env >>= fun q => must (mk q.1) fun xs => must (hideS vs q.2.2) fun e0 => if xs.length < 16777216 then must (noEx (lcG bind cond elt vs xs e0)) fun r => .ok (.lst r.1, unlk q.2.1 (backS vs q.2.2 r.2)) else .bad
def eYes : DEnv → Out (Bool × DEnv) := fun env => .ok (true, env)

section
variable {G : Gc} {B Z H Z2 H2 : Hp} {σ σ2 : L2.St} {env e0 e2 : DEnv} {Fs F2 : Nat → List Addr} {P : Addr → Prop}
theorem set_self {α : Type} {l : List α} {i : Nat} {a : α} : ∀ j, (l.set i a)[j]? = if i = j then (if j < l.length then some a else none) else l[j]? := fun j => by
  by_cases h : i = j
  · subst h
    rw [if_pos rfl, List.getElem?_set_self']
    by_cases hl : i < l.length
    · rw [if_pos hl, List.getElem?_eq_getElem hl]; rfl
    · rw [if_neg hl, List.getElem?_eq_none (by omega)]; rfl
  · rw [if_neg h, List.getElem?_set_ne h]
theorem wipe_at : ∀ (vs : List Nat) (σ : L2.St) (j : Nat), (wipe σ vs)[j]? = if j ∈ vs then (if j < σ.length then some none else none) else σ[j]?
  | [], σ, j => by simp [wipe]
  | v :: vs, σ, j => by
    have ih := wipe_at vs σ j
    show ((wipe σ vs).set v none)[j]? = _
    rw [set_self, wipe_length]
    by_cases h : v = j
    · subst h
      rw [if_pos rfl, if_pos List.mem_cons_self]
    · rw [if_neg h, ih]
      by_cases m : j ∈ vs
      · rw [if_pos m, if_pos (List.mem_cons_of_mem _ m)]
      · rw [if_neg m, if_neg (by simp only [List.mem_cons, not_or]; exact ⟨fun z => h z.symm, m⟩)]
theorem wipe_ext {vs : List Nat} {σ σ1 : L2.St} (hl : σ1.length = σ.length) (h : ∀ j, j ∉ vs → σ1[j]? = σ[j]?) : wipe σ1 vs = wipe σ vs := by
  apply List.ext_getElem?
  intro j
  rw [wipe_at, wipe_at, hl]
  split
  · rfl
  · rename_i m; exact h j m
theorem hideS_at : ∀ {vs : List Nat} {env e0 : DEnv}, hideS vs env = some e0 → e0.length = env.length ∧ (∀ j, j ∉ vs → e0[j]? = env[j]?) ∧ (∀ j, j ∈ vs → e0[j]? = some none ∧ (env[j]? = some none ∨ ∃ d, env[j]? = some (some (Md.own, d)) ∧ d.pure = true))
  | [], env, e0, h => by
    cases h
    exact ⟨rfl, fun _ _ => rfl, fun j m => (by cases m)⟩
  | v :: r, env, e0, h => by
    unfold hideS at h
    cases he : hideS r env with
    | none => rw [he] at h; cases h
    | some e =>
      rw [he] at h
      obtain ⟨h1, h2, h3⟩ := hideS_at he
      by_cases hh : hid? v e = true
      · have h : (if hid? v e = true then some (e.set v none) else none) = some e0 := h
        rw [if_pos hh] at h
        cases h
        have hv : e[v]? = some none ∨ ∃ d, e[v]? = some (some (Md.own, d)) ∧ d.pure = true := by
          unfold hid? at hh
          cases q : e[v]? with
          | none => rw [q] at hh; cases hh
          | some s =>
            rw [q] at hh
            match s, hh with
            | none, _ => exact .inl rfl
            | some (.own, d), hh => exact .inr ⟨d, rfl, hh⟩
        have hvl : v < e.length := by
          rcases hv with z | ⟨d, z, _⟩
          · exact (List.getElem?_eq_some_iff.mp z).1
          · exact (List.getElem?_eq_some_iff.mp z).1
        refine ⟨by rw [List.length_set, h1], fun j hj => ?_, fun j hj => ?_⟩
        · have hj : j ≠ v ∧ j ∉ r := by simpa using hj
          rw [List.getElem?_set_ne (fun z => hj.1 z.symm), h2 j hj.2]
        · by_cases hjv : v = j
          · subst hjv
            refine ⟨List.getElem?_set_self hvl, ?_⟩
            by_cases hr : v ∈ r
            · exact (h3 v hr).2
            · rw [h2 v hr] at hv; exact hv
          · rcases List.mem_cons.mp hj with z | hj
            · exact absurd z.symm hjv
            · exact ⟨by rw [List.getElem?_set_ne hjv]; exact (h3 j hj).1, (h3 j hj).2⟩
      · have h : (if hid? v e = true then some (e.set v none) else none) = some e0 := h
        rw [if_neg hh] at h
        cases h
theorem backS_len : ∀ (vs : List Nat) (env0 e : DEnv), (backS vs env0 e).length = e.length
  | [], _, _ => rfl
  | v :: r, env0, e => by
    show ((backS r env0 e).set v _).length = _
    rw [List.length_set, backS_len]
theorem backS_at : ∀ (vs : List Nat) (env0 e : DEnv) (j : Nat), (backS vs env0 e)[j]? = if j ∈ vs then (if j < e.length then some (env0[j]?.getD none) else none) else e[j]?
  | [], env0, e, j => by simp [backS]
  | v :: r, env0, e, j => by
    have ih := backS_at r env0 e j
    show ((backS r env0 e).set v _)[j]? = _
    rw [set_self, backS_len]
    by_cases h : v = j
    · subst h
      rw [if_pos rfl, if_pos List.mem_cons_self]
    · rw [if_neg h, ih]
      by_cases m : j ∈ r
      · rw [if_pos m, if_pos (List.mem_cons_of_mem _ m)]
      · rw [if_neg m, if_neg (by simp only [List.mem_cons, not_or]; exact ⟨fun z => h z.symm, m⟩)]
theorem Good.hide {vs : List Nat} (g : Good G B Z H σ env Fs) (h : hideS vs env = some e0) : Good G B Z H (wipe σ vs) e0 Fs := by
  obtain ⟨h1, h2, h3⟩ := hideS_at h
  refine ⟨g.sb, g.sz, by rw [h1, wipe_length]; exact g.len, fun j => ?_, g.nd, g.dj, g.fr, g.z0⟩
  rw [wipe_at]
  by_cases m : j ∈ vs
  · rw [(h3 j m).1]
    have q := g.sl j
    rcases (h3 j m).2 with z | ⟨d, z, hp⟩
    · rw [z] at q; exact q
    · rw [z] at q
      obtain ⟨v, _, ho⟩ := q
      exact (Own.ofPure (Z' := Z) d v _ hp ho).1
  · rw [if_neg m, h2 j m]
    exact g.sl j
/-- slots of which nothing is known: the names may point anywhere -/
theorem Stp.wipeEnd {vs : List Nat} {e3 : DEnv} {F3 : Nat → List Addr} (s : Stp G B Z H σ env P Z2 H2 σ2 e3 F3) (hv : ∀ v, v ∈ vs → ∀ t : Md × D, e3[v]? ≠ some (some t)) : Stp G B Z H σ env P Z2 H2 (wipe σ2 vs) e3 F3 := by
  have g := s.good
  have out : ∀ j (t : Md × D), e3[j]? = some (some t) → (wipe σ2 vs)[j]? = σ2[j]? := fun j t e => by
    rw [wipe_at, if_neg fun m => hv j m t e]
  refine ⟨s.zz, s.ext, ⟨g.sb, g.sz, by rw [wipe_length]; exact g.len, fun j => ?_, g.nd, g.dj, g.fr, g.z0⟩, s.new, s.newz, fun j d e => ?_, fun j d e => ?_, fun j d e => ?_, fun j d e => ?_, s.ln⟩
  · have q := g.sl j
    cases he : e3[j]? with
    | none => rw [he] at q; exact q
    | some t =>
      cases t with
      | none => rw [he] at q; exact q
      | some t => rw [out j t he, ← he]; exact q
  · obtain ⟨⟨d', q⟩, z⟩ := s.io j d e
    exact ⟨⟨d', q⟩, (out j _ q).trans z⟩
  · obtain ⟨q, z⟩ := s.lk j d e
    exact ⟨q, (out j _ q).trans z⟩
  · obtain ⟨q, z⟩ := s.bw j d e
    exact ⟨q, (out j _ e).trans z⟩
  · obtain ⟨q, z⟩ := s.lb j d e
    exact ⟨q, (out j _ e).trans z⟩
/-- what a block did, seen from outside -/
theorem Stp.back {vs : List Nat} (g : Good G B Z H σ env Fs) (pm : PMut H P) (h : hideS vs env = some e0) (s : Stp G B Z H (wipe σ vs) e0 P Z2 H2 (wipe σ vs) e2 F2) (hv : ∀ v, v ∈ vs → ∀ t : Md × D, e2[v]? ≠ some (some t)) : Stp G B Z H σ env P Z2 H2 σ (backS vs env e2) F2 := by
  obtain ⟨h1, h2, h3⟩ := hideS_at h
  have gl := s.good
  have le : e2.length = env.length := s.ln.trans h1
  have at_out : ∀ j, j ∉ vs → (backS vs env e2)[j]? = e2[j]? := fun j m => by rw [backS_at, if_neg m]
  have at_in : ∀ j, j ∈ vs → (backS vs env e2)[j]? = env[j]? := fun j m => by
    have hj : j < env.length := by
      rcases (h3 j m).2 with z | ⟨d, z, _⟩
      · exact (List.getElem?_eq_some_iff.mp z).1
      · exact (List.getElem?_eq_some_iff.mp z).1
    rw [backS_at, if_pos m, if_pos (by rw [le]; exact hj), List.getElem?_eq_getElem hj]
    rfl
  have nio : ∀ j, j ∈ vs → ∀ (m : Md) (d : D), m ≠ .own → env[j]? ≠ some (some (m, d)) := fun j hj m d hm e => by
    rcases (h3 j hj).2 with z | ⟨d', z, _⟩
    · rw [z] at e; cases e
    · rw [z] at e; cases e; exact hm rfl
  have wo : ∀ j, j ∉ vs → (wipe σ vs)[j]? = σ[j]? := fun j m => by rw [wipe_at, if_neg m]
  refine ⟨s.zz, s.ext, ⟨gl.sb, gl.sz, by rw [backS_len, le]; exact g.len, fun j => ?_, gl.nd, gl.dj, gl.fr, gl.z0⟩, s.new, s.newz, fun j d e => ?_, fun j d e => ?_, fun j d e => ?_, fun j d e => ?_, by rw [backS_len, le]⟩
  · by_cases m : j ∈ vs
    · rw [at_in j m]
      have f0 : F2 j = [] := by
        have q := gl.sl j
        cases he : e2[j]? with
        | none => rw [he] at q; exact q
        | some t =>
          cases t with
          | none => rw [he] at q; exact q
          | some t => exact absurd he (hv j m t)
      rw [f0]
      have q := g.sl j
      rcases (h3 j m).2 with z | ⟨d, z, hp⟩
      · rw [z]; rfl
      · rw [z] at q ⊢
        obtain ⟨v, ev, ho⟩ := q
        exact ⟨v, ev, Own.keepT (Same.refl _) (s.tk pm) (Own.ofPure (Z' := Z2) d v _ hp ho).2⟩
    · rw [at_out j m, ← wo j m]
      exact gl.sl j
  · by_cases m : j ∈ vs
    · exact absurd e (nio j m _ d (by decide))
    · obtain ⟨⟨d', q⟩, z⟩ := s.io j d (by rw [h2 j m]; exact e)
      exact ⟨⟨d', by rw [at_out j m]; exact q⟩, rfl⟩
  · by_cases m : j ∈ vs
    · exact absurd e (nio j m _ d (by decide))
    · obtain ⟨q, z⟩ := s.lk j d (by rw [h2 j m]; exact e)
      exact ⟨by rw [at_out j m]; exact q, rfl⟩
  · by_cases m : j ∈ vs
    · rw [at_in j m] at e
      exact absurd e (nio j m _ d (by decide))
    · rw [at_out j m] at e
      obtain ⟨q, z⟩ := s.bw j d e
      exact ⟨by rw [← h2 j m]; exact q, rfl⟩
  · by_cases m : j ∈ vs
    · rw [at_in j m] at e
      exact absurd e (nio j m _ d (by decide))
    · rw [at_out j m] at e
      obtain ⟨q, z⟩ := s.lb j d e
      exact ⟨by rw [← h2 j m]; exact q, rfl⟩
/-- a thing of nobody's is written -/
theorem Stp.priv {a : Addr} {ws : List V} {o : HO} (s : Stp G B Z H σ env P Z2 H2 σ2 e2 F2) (g : Same B H) (hn : H a = none) (hf : ¬ InF F2 a) (ha : H2 a = some (.lst ws)) : Stp G B Z H σ env P Z2 (upd H2 a o) σ2 e2 F2 := by
  have gl := s.good
  have bn : B a = none := by
    cases q : B a with
    | none => rfl
    | some u =>
      have := g a u q
      rw [hn] at this; cases this
  have sb : Same B (upd H2 a o) := fun b u e => by
    rw [upd_ne (fun z => by rw [z, bn] at e; cases e)]
    exact gl.sb b u e
  have sz : Same Z2 (upd H2 a o) := fun b u e => by rw [gl.z0] at e; cases e
  refine ⟨s.zz, fun b u e n => ?_, ⟨sb, sz, gl.len, fun j => (gl.sl j).keep gl.sb gl.sz sb sz (Same.refl _) fun b u e m => ?_, gl.nd, gl.dj, gl.fr, gl.z0⟩, s.new, s.newz, s.io, s.lk, s.bw, s.lb, s.ln⟩
  · rw [upd_ne (fun z => by rw [z, hn] at e; cases e)]
    exact s.ext b u e n
  · rw [upd_ne (fun z => ?_)]
    · exact e
    · rw [z] at m e
      rcases m with m | nm
      · exact hf ⟨j, m⟩
      · rw [ha] at e; cases e; exact nm trivial
theorem OwnL.priv {a : Addr} {ws : List V} {o : HO} {ds : List D} {vs : List V} {F : List Addr} (h : OwnL G Z H ds vs F) (hf : a ∉ F) (ha : H a = some (.lst ws)) : OwnL G Z (upd H a o) ds vs F :=
  OwnL.keep (Same.refl Z) ds vs F (fun b u e m => by
    rw [upd_ne (fun z => ?_)]
    · exact e
    · rw [z] at m e
      rcases m with m | nm
      · exact hf m
      · rw [ha] at e; cases e; exact nm trivial) h
theorem Own.priv {a : Addr} {ws : List V} {o : HO} {d : D} {v : V} {F : List Addr} (h : Own G Z H d v F) (hf : a ∉ F) (ha : H a = some (.lst ws)) : Own G Z (upd H a o) d v F :=
  Own.keep (Same.refl Z) d v F (fun b u e m => by
    rw [upd_ne (fun z => ?_)]
    · exact e
    · rw [z] at m e
      rcases m with m | nm
      · exact hf m
      · rw [ha] at e; cases e; exact nm trivial) h
end

abbrev Wno : Wsh := fun _ _ => False
/-- in the midst of a comprehension: D the new list -/
structure Mid (G : Gc) (B Z H : Hp) (σw : L2.St) (e0 : DEnv) (Fs : Nat → List Addr) (vs : List Nat) (a : Addr) (Z2 H2 : Hp) (e2 : DEnv) (F2 : Nat → List Addr) (acc : List V) (ds : List D) (FA : List Addr) : Prop where
  st : Stp G B Z H σw e0 (InF Fs) Z2 H2 σw e2 F2
  nn : ∀ v, v ∈ vs → ∀ t : Md × D, e2[v]? ≠ some (some t)
  at_ : H2 a = some (.lst acc)
  own : OwnL G Z2 H2 ds acc FA
  nd : FA.Nodup
  dj : ∀ b, b ∈ FA → ¬ InF F2 b ∧ B b = none ∧ (H b = none ∨ InF Fs b)
  na : a ∉ FA
  ni : ¬ InF F2 a
section
variable {G : Gc} {B Z H Z2 H2 : Hp} {σw : L2.St} {e0 e2 : DEnv} {Fs F2 : Nat → List Addr} {vs : List Nat} {a : Addr} {acc : List V} {ds : List D} {FA : List Addr}
/-- a turn on: what is at hand stays -/
theorem Mid.on {Z3 H3 : Hp} {e3 : DEnv} {F3 : Nat → List Addr} (m : Mid G B Z H σw e0 Fs vs a Z2 H2 e2 F2 acc ds FA) (s : Stp G B Z2 H2 σw e2 (InF F2) Z3 H3 σw e3 F3) (hn : ∀ v, v ∈ vs → ∀ t : Md × D, e3[v]? ≠ some (some t)) : Mid G B Z H σw e0 Fs vs a Z3 H3 e3 F3 acc ds FA := by
  have pm := m.st.good.pm
  have stay : ∀ b, ¬ InF F2 b → (∃ o, H2 b = some o) → ¬ InF F3 b := fun b n ⟨o, e⟩ z => by
    rcases s.new b z with q | q
    · rw [e] at q; cases q
    · exact n q
  refine ⟨m.st.trans m.st.new s, hn, s.ext a _ m.at_ m.ni, OwnL.keep s.zz _ _ _ (fun b u e z => s.ext b u e ?_) m.own, m.nd, fun b z => ⟨stay b (m.dj b z).1 ?_, (m.dj b z).2⟩, m.na, stay a m.ni ⟨_, m.at_⟩⟩
  · rcases z with z | nm
    · exact (m.dj b z).1
    · exact pm.tup e nm
  · obtain ⟨o, e, _⟩ := OwnL.dom _ _ _ m.own b z
    exact ⟨o, e⟩
/-- an item more -/
theorem Mid.app {d : D} {v : V} {F : List Addr} (m : Mid G B Z H σw e0 Fs vs a Z2 H2 e2 F2 acc ds FA) (g : Same B H) (hn : H a = none) (ho : Own G Z2 H2 d v F) (nd : F.Nodup) (dj : ∀ b, b ∈ F → ¬ InF F2 b ∧ B b = none ∧ (H b = none ∨ InF Fs b)) (nA : ∀ b, b ∈ F → b ∉ FA ∧ b ≠ a) :
    Mid G B Z H σw e0 Fs vs a Z2 (upd H2 a (.lst (acc ++ [v]))) e2 F2 (acc ++ [v]) (ds ++ [d]) (FA ++ F) := by
  refine ⟨m.st.priv g hn m.ni m.at_, m.nn, upd_same, OwnL.append (m.own.priv m.na m.at_) ⟨v, [], F, [], rfl, by simp, ho.priv (fun z => (nA a z).2 rfl) m.at_, rfl, rfl⟩, List.nodup_append.mpr ⟨m.nd, nd, fun b z c y e => ?_⟩, fun b z => ?_, fun z => ?_, m.ni⟩
  · subst e; exact (nA b y).1 z
  · rcases List.mem_append.mp z with z | z
    · exact m.dj b z
    · exact dj b z
  · rcases List.mem_append.mp z with z | z
    · exact m.na z
    · exact (nA a z).2 rfl
variable {W : Wsh} {X : Cx}
theorem lc_run {σ : L2.St} {Q : VK} {ops : List Opn} {mk : List D → Option (List D)} {bind : D → DEnv → Option DEnv} {cond : DEnv → Out (Bool × DEnv)} {elt : DEnv → Out (D × DEnv)} {ts : List Nat} {g : TG} (hbk : BindOk G ts g bind) (hcl : ∀ j, j ∈ ts → j ∈ vs)
    (h : TV G W (lcE ops mk bind cond elt vs) σ H Q) : tLc (TSrc G W ops mk) g (TB G Wno cond) (TV G Wno elt) vs σ H Q := by
  obtain ⟨B, Z, Fs, env, gd, q⟩ := h
  refine ⟨B, Z, Fs, env, gd, ?_⟩
  unfold lcE at q
  cases hr : evO ops env with
  | bad => rw [hr] at q; exact q.elim
  | exc c => rw [hr] at q; exact q
  | ok p =>
    obtain ⟨ds0, st, env1⟩ := p
    rw [hr] at q
    simp only [Out.bind_ok] at q
    show ∃ xs, mk ds0 = some xs ∧ _
    cases hx : mk ds0 with
    | none => rw [hx] at q; exact q.elim
    | some xs =>
      rw [hx, must_some] at q
      cases hh : hideS vs env1 with
      | none => rw [hh] at q; exact q.elim
      | some e0 =>
        rw [hh, must_some] at q
        by_cases hlen : xs.length < 16777216
        · rw [if_pos hlen] at q
          cases hl : noEx (lcG bind cond elt vs xs e0) with
          | none => rw [hl] at q; exact q.elim
          | some r =>
            rw [hl, must_some] at q
            obtain ⟨rs, eN⟩ := r
            have hl := noEx_some hl
            refine ⟨xs, rfl, fun B1 Z1 H1 Fs1 J w hj a han => ?_⟩
            have g1 := w.good
            have gh := g1.hide hh
            have hsl : Same B1 H1 := g1.sb
            have b1a : B1 a = none := by
              cases z : B1 a with
              | none => rfl
              | some u =>
                have := hsl a u z
                rw [han] at this; cases this
            have ha0 := (hideS_at hh).2.2
            have m0 : Mid G B1 Z1 H1 (wipe σ vs) e0 Fs1 vs a Z1 (upd H1 a (.lst [])) e0 Fs1 [] [] [] := by
              refine ⟨Stp.grow gh (fun _ m => m) (same_upd han), fun v m t e => ?_, upd_same, ⟨rfl, rfl⟩, List.nodup_nil, fun b z => (by cases z), (by simp), fun z => ?_⟩
              · rw [(ha0 v m).1] at e; cases e
              · obtain ⟨o, e, _⟩ := g1.dom z
                rw [han] at e; cases e
            refine ⟨fun i m H' => m = xs.length - i ∧ i ≤ xs.length ∧ ∃ Z2 Fs2 e2 acc ds FA rest, Mid G B1 Z1 H1 (wipe σ vs) e0 Fs1 vs a Z2 H' e2 Fs2 acc ds FA ∧ ds.length ≤ i ∧ lcG bind cond elt vs (xs.drop i) e2 = .ok (rest, eN) ∧ rs = ds ++ rest, ⟨xs.length, rfl, Nat.zero_le _, Z1, Fs1, e0, [], [], [], rs, m0, Nat.le_refl _, hl, rfl⟩, ?_⟩
            rintro i m H' ⟨rfl, hi, Z2, Fs2, e2, acc, ds, FA, rest, mid, hdl, hrun, hrs⟩
            have g2 := mid.st.good
            have y2 : Same (joi B1 Z1) H' := joi_le g2.sb (mid.st.zz.trans g2.sz)
            have t2 : TK H1 H' := mid.st.tk gh.pm
            obtain ⟨ji, js⟩ := hj i H' y2 t2
            by_cases hlt : i < xs.length
            · obtain ⟨go, yl⟩ := ji xs[i] (List.getElem?_eq_getElem hlt)
              rw [drop_get hlt] at hrun
              refine .inr ⟨go, fun H' => ∃ Z2 Fs2 e2 acc ds FA rest, Mid G B1 Z1 H1 (wipe σ vs) e0 Fs1 vs a Z2 H' e2 Fs2 acc ds FA ∧ ds.length ≤ i + 1 ∧ lcG bind cond elt vs (xs.drop (i + 1)) e2 = .ok (rest, eN) ∧ rs = ds ++ rest, fun H3 n3 => ⟨xs.length - (i + 1), by omega, rfl, hlt, n3⟩, fun v H3 y3 => ?_⟩
              obtain ⟨hs3, ov⟩ := yl v H3 y3
              have mid3 := mid.on (Stp.grow g2 (fun _ m => m) hs3) mid.nn
              have g3 := mid3.st.good
              have hrun : (must (bind xs[i] e2) fun e => cond e >>= fun p => if p.1 = true then elt p.2 >>= fun q => must (dropS vs q.2) fun e2 => lcG bind cond elt vs (xs.drop (i + 1)) e2 >>= fun r => .ok (q.1 :: r.1, r.2)
                else must (dropS vs p.2) fun e2 => lcG bind cond elt vs (xs.drop (i + 1)) e2) = .ok (rest, eN) := hrun
              cases hbd : bind xs[i] e2 with
              | none => rw [hbd] at hrun; cases hrun
              | some e4 =>
                rw [hbd, must_some] at hrun
                refine hbk B1 Z2 H3 _ e2 Fs2 xs[i] v e4 _ g3 (Own.keepT (joi_mono (Same.refl B1) mid.st.zz g3.sb g3.sz) (TK.of (Same.refl _)) ov) hbd fun σ4 Fs4 b4 => ?_
                have ww : wipe σ4 vs = wipe σ vs := by
                  have l4 : σ4.length = (wipe σ vs).length := by rw [← b4.good.len, b4.ln, g3.len]
                  rw [wipe_ext l4 fun j hj => (b4.at_ j fun z => hj (hcl j z)).2]
                  exact wipe_ext (wipe_length _ _) fun j hj => by rw [wipe_at, if_neg hj]
                refine ⟨ww, B1, Z2, Fs4, e4, b4.good, ?_⟩
                unfold FinB
                cases hcd : cond e4 with
                | bad => rw [hcd] at hrun; cases hrun
                | exc c => rw [hcd] at hrun; cases hrun
                | ok p =>
                  obtain ⟨b, e5⟩ := p
                  rw [hcd] at hrun
                  simp only [Out.bind_ok] at hrun
                  intro Z5 H5 Fs5 s5
                  cases b with
                  | false =>
                    rw [if_neg Bool.false_ne_true] at hrun ⊢
                    cases hdr : dropS vs e5 with
                    | none => rw [hdr] at hrun; cases hrun
                    | some e7 =>
                      rw [hdr, must_some] at hrun
                      obtain ⟨F7, s7, _⟩ := b4.stp (P := InF Fs2) (fun _ m => m) s5 hdr hcl
                      have n7 := (dropS_at hdr).2.2.1
                      have s7' := s7.wipeEnd (vs := vs) fun v m t => n7 v t m
                      rw [ww] at s7'
                      exact ⟨Z5, F7, e7, acc, ds, FA, rest, mid3.on s7' fun v m t => n7 v t m, Nat.le_succ_of_le hdl, hrun, hrs⟩
                  | true =>
                    rw [if_pos rfl] at hrun ⊢
                    refine ⟨B1, Z5, Fs5, e5, s5.good, ?_⟩
                    unfold FinV
                    cases hel : elt e5 with
                    | bad => rw [hel] at hrun; cases hrun
                    | exc c => rw [hel] at hrun; cases hrun
                    | ok p =>
                      obtain ⟨d, e6⟩ := p
                      rw [hel] at hrun
                      simp only [Out.bind_ok] at hrun
                      cases hdr : dropS vs e6 with
                      | none => rw [hdr] at hrun; cases hrun
                      | some e7 =>
                        rw [hdr, must_some] at hrun
                        intro v6 Z6 H6 Fs6 F6 p6
                        have s6 := s5.trans s5.new p6.st
                        obtain ⟨F7, s7, h7⟩ := b4.stp (P := InF Fs2) (fun _ m => m) s6 hdr hcl
                        have n7 := (dropS_at hdr).2.2.1
                        have s7' := s7.wipeEnd (vs := vs) fun v m t => n7 v t m
                        rw [ww] at s7'
                        have mid7 := mid3.on s7' fun v m t => n7 v t m
                        have l6 : acc.length = ds.length := OwnL.length mid7.own
                        cases hrl : lcG bind cond elt vs (xs.drop (i + 1)) e7 with
                        | bad => rw [hrl] at hrun; cases hrun
                        | exc c => rw [hrl] at hrun; cases hrun
                        | ok r2 =>
                          obtain ⟨rest2, eM⟩ := r2
                          rw [hrl] at hrun
                          cases hrun
                          -- where the item's nodes come from
                          have newF : ∀ b, b ∈ F6 → H3 b = none ∨ InF Fs2 b := fun b z => by
                            rcases p6.new b z with z | z
                            · cases q5 : H3 b with
                              | none => exact .inl rfl
                              | some o =>
                                refine .inr ?_
                                by_cases n : InF Fs4 b
                                · exact b4.sub b n
                                · have := s5.ext b o q5 n
                                  rw [z] at this; cases this
                            · exact (s5.new b z).imp id (b4.sub b)
                          refine ⟨acc, mid7.at_, by rw [l6, ← size_line]; omega, Z6, F7, e7, acc ++ [v6], ds ++ [d], FA ++ F6, rest2, mid7.app hsl han p6.one p6.nd (fun b z => ⟨fun y => p6.dj b z (h7 b y), (p6.fr b z).1, ?_⟩) (fun b z => ?_), by rw [List.length_append, List.length_singleton]; omega, hrl, by rw [hrs, List.append_assoc]; rfl⟩
                          · rcases newF b z with y | y
                            · cases q1 : H1 b with
                              | none => exact .inl rfl
                              | some o =>
                                refine .inr ?_
                                by_cases n : InF Fs1 b
                                · exact n
                                · have := mid3.st.ext b o q1 n
                                  rw [y] at this; cases this
                            · exact mid.st.new b y
                          · refine ⟨fun y => ?_, fun y => ?_⟩
                            · obtain ⟨o, e, _⟩ := OwnL.dom _ _ _ mid3.own b y
                              rcases newF b z with x | x
                              · rw [e] at x; cases x
                              · exact (mid.dj b y).1 x
                            · subst y
                              rcases newF b z with x | x
                              · rw [mid3.at_] at x; cases x
                              · exact mid.ni x
            · have e : i = xs.length := by omega
              subst e
              rw [List.drop_length] at hrun
              cases hrun
              refine .inl ⟨js rfl, ?_⟩
              have s9 := mid.st.back g1 g1.pm hh mid.nn
              obtain ⟨F3, s3, h3⟩ := w.out _ _ _ _ _ s9
              rw [List.append_nil] at hrs
              subst hrs
              refine q (.ref a) Z2 H' F3 (a :: FA) ⟨s3, ⟨.ref a, [], a :: FA, [], rfl, by simp, ⟨a, acc, FA, rfl, .inr ⟨rfl, mid.at_⟩, mid.own⟩, rfl, rfl⟩, List.nodup_cons.mpr ⟨mid.na, mid.nd⟩, fun b m => ?_, fun b m => ?_, fun b m => ?_⟩
              · rcases List.mem_cons.mp m with rfl | m
                · exact (h3 _ mid.ni b1a).1
                · exact (h3 _ (mid.dj b m).1 (mid.dj b m).2.1).1
              · rcases List.mem_cons.mp m with rfl | m
                · exact ⟨(h3 _ mid.ni b1a).2, g2.z0 _⟩
                · exact ⟨(h3 _ (mid.dj b m).1 (mid.dj b m).2.1).2, g2.z0 _⟩
              · rcases List.mem_cons.mp m with rfl | m
                · exact w.hh _ (.inl han)
                · exact w.hh _ (mid.dj b m).2.2
        · rw [if_neg hlen] at q
          exact q.elim
end
section
variable {G : Gc} {W : Wsh} {X : Cx} {ops : List Opn} {mk : List D → Option (List D)} {bind : D → DEnv → Option DEnv} {cond : DEnv → Out (Bool × DEnv)} {eltf : DEnv → Out (D × DEnv)} {ts : List Nat} {g : TG} {elt tg iter : Expr} {ifs : List Expr} {scope : Scope} {own : List (Str × Nat)} {pos : Pos}
theorem _root_.L2.PTs.imp {X : Cx} {e : List Expr} {t t' : TT} (h : PTs X e t) (i : ∀ σ H Q, t' σ H Q → t σ H Q) : PTs X e t' := ⟨fun pins s σ H Q I hq => h.run pins s σ H Q I (i σ H Q hq)⟩
theorem ts_nil : PTs X [] (TB G W eYes) := pts_nil.imp fun σ H Q ⟨B, Z, Fs, env, gd, q⟩ => q Z H Fs (Stp.refl gd fun _ m => m)
theorem ts_one {c : Expr} {f : DEnv → Out (Bool × DEnv)} (h : PT X c (TB G W f)) : PTs X [c] (TB G W f) := pts_one h
theorem e_lc (dx : DX X G) (hi : PI X tg iter (TSrc G W ops mk)) (ok : BlkOk X.N X.env.scope scope own) (hbk : BindOk G ts g bind)
    (hg : ∀ (s : Shared) (H : Hp) (C : Addr) (cl : List (Str × Addr)) (fp : List Addr), PG (X.blk s H scope (compEnvC scope cl C X.env) fp) tg g) (ht : ∀ (s : Shared) (H : Hp) (C : Addr) (cl : List (Str × Addr)) (fp : List Addr), PTs (X.blk s H scope (compEnvC scope cl C X.env) fp) ifs (TB G Wno cond))
    (he : ∀ (s : Shared) (H : Hp) (C : Addr) (cl : List (Str × Addr)) (fp : List Addr), PE (X.blk s H scope (compEnvC scope cl C X.env) fp) elt (TV G Wno eltf)) (hc : ts.all (fun j => (own.map (·.2)).contains j) = true := by rfl) (hs : ∀ x, foldedSetIterable iter X.env x = pure x := by intro _; rfl) :
    PE X (.ListComp elt [⟨tg, iter, ifs, 0⟩] scope pos) (TV G W (lcE ops mk bind cond eltf (own.map (·.2)))) :=
  (pe_lc dx.calm dx.nd hi ok hg ht he hs).imp fun σ H Q h => lc_run hbk (fun j m => by simpa using List.all_eq_true.mp hc j m) h
theorem s_setLc {i : Nat} {y : Str} {py spos : Pos} (dx : DX X G) (hy : X.N[i]? = some y) (hyl : X.env.scope.names.lookup y = some .local) (hsw : swapsWith (.ListComp elt [⟨tg, iter, ifs, 0⟩] scope pos) (some (.Name y py)) spos.line X.env = pure true)
    (hi : PI X tg iter (TSrc G W ops mk)) (ok : BlkOk X.N X.env.scope scope own) (hbk : BindOk G ts g bind)
    (hg : ∀ (s : Shared) (H : Hp) (C : Addr) (cl : List (Str × Addr)) (fp : List Addr), PG (X.blk s H scope (compEnvC scope cl C X.env) fp) tg g) (ht : ∀ (s : Shared) (H : Hp) (C : Addr) (cl : List (Str × Addr)) (fp : List Addr), PTs (X.blk s H scope (compEnvC scope cl C X.env) fp) ifs (TB G Wno cond))
    (he : ∀ (s : Shared) (H : Hp) (C : Addr) (cl : List (Str × Addr)) (fp : List Addr), PE (X.blk s H scope (compEnvC scope cl C X.env) fp) elt (TV G Wno eltf)) (hc : ts.all (fun j => (own.map (·.2)).contains j) = true := by rfl) (hs : ∀ x, foldedSetIterable iter X.env x = pure x := by intro _; rfl) :
    PS X (.Assign [.Name y py] (.ListComp elt [⟨tg, iter, ifs, 0⟩] scope pos) spos) (TSt G W (sSet i (lcE ops mk bind cond eltf (own.map (·.2))))) :=
  (ps_setLc dx.calm dx.nd hy hyl hsw hi ok hg ht he hs).imp fun En σ H ⟨B, Z, Fs, env, gd, q⟩ => by
    have q1 : TV G W (lcE ops mk bind cond eltf (own.map (·.2))) σ H (fun x H1 => gName i x σ H1 En.nx) := by
      refine ⟨B, Z, Fs, env, gd, ?_⟩
      unfold sSet at q
      unfold FinV
      cases hl : lcE ops mk bind cond eltf (own.map (·.2)) env with
      | bad => rw [hl] at q; exact q.elim
      | exc c => rw [hl] at q; exact q
      | ok p0 =>
        obtain ⟨d, e'⟩ := p0
        rw [hl] at q
        intro v Z' H' Fs' F p
        have q : FinS G W B Z H σ env (InF Fs) (must (putS i d e') fun e => .ok (.nx e)) En := q
        cases hput : putS i d e' with
        | none => rw [hput] at q; exact q.elim
        | some e2 =>
          rw [hput] at q
          have s2 : Stp G B Z' H' σ e' (fun a => InF Fs' a ∨ a ∈ F) Z' H' (σ.set i (some v)) e2 (onF Fs' i F) := Stp.put p.st.good (fun a m => .inl m) (fun a m => .inr m) ⟨p.one, p.nd, p.dj, p.fr⟩ hput
          exact q _ _ _ _ (p.st.trans (fun a m => m.elim (p.st.new a) (p.new a)) s2)
    exact lc_run hbk (fun j m => by simpa using List.all_eq_true.mp hc j m) q1
theorem DX.blk {s : Shared} {H : Hp} {cenv : Env} {fp : List Addr} (d : DX X G) : DX (X.blk s H scope cenv fp) G := ⟨d.K, d.calm, d.nd, d.un⟩
end
end DL

namespace DL
open PySem PySem.Spec PyProof.Rows L2

/-! ### what is built in -/
def D.ints : List D → Option (List Int)
  | [] => some []
  | d :: r => match d.toInt, D.ints r with
    | some i, some is => some (i :: is)
    | _, _ => none
def D.bls : List D → Option (List Bool)
  | [] => some []
  | d :: r => match d.toBl, D.bls r with
    | some i, some is => some (i :: is)
    | _, _ => none
section
variable {G : Gc} {Z H : Hp}
theorem ints_own : ∀ {ds : List D} {ns : List Int} {vs : List V} {F : List Addr}, D.ints ds = some ns → OwnL G Z H ds vs F → vs = ns.map V.int ∧ ds = ns.map D.int
  | [], ns, vs, F, e, h => by
    cases (show some ([] : List Int) = some ns from e)
    exact ⟨h.1, rfl⟩
  | d :: r, ns, vs, F, e, h => by
    obtain ⟨v, rest, F1, F2, rfl, rfl, h1, h2⟩ := h
    have e : (match d.toInt, D.ints r with
      | some i, some is => some (i :: is)
      | _, _ => none) = some ns := e
    cases hd : d.toInt with
    | none => rw [hd] at e; cases e
    | some i =>
      cases hr : D.ints r with
      | none => rw [hd, hr] at e; cases e
      | some is =>
        rw [hd, hr] at e
        cases e
        obtain rfl := D.toInt_some hd
        obtain ⟨e1, e2⟩ := ints_own hr h2
        rw [h1.1, e1]
        exact ⟨rfl, by rw [List.map_cons, ← e2]⟩
theorem bls_own : ∀ {ds : List D} {ns : List Bool} {vs : List V} {F : List Addr}, D.bls ds = some ns → OwnL G Z H ds vs F → vs = ns.map V.bl
  | [], ns, vs, F, e, h => by
    cases (show some ([] : List Bool) = some ns from e)
    exact h.1
  | d :: r, ns, vs, F, e, h => by
    obtain ⟨v, rest, F1, F2, rfl, rfl, h1, h2⟩ := h
    have e : (match d.toBl, D.bls r with
      | some i, some is => some (i :: is)
      | _, _ => none) = some ns := e
    cases hd : d.toBl with
    | none => rw [hd] at e; cases e
    | some i =>
      cases hr : D.bls r with
      | none => rw [hd, hr] at e; cases e
      | some is =>
        rw [hd, hr] at e
        cases e
        obtain rfl := D.toBl_some hd
        rw [h1.1, bls_own hr h2]
        rfl
end
@[simp] theorem ints_map (ns : List Int) : D.ints (ns.map D.int) = some ns := by
  induction ns with
  | nil => rfl
  | cons i r ih => simp [D.ints, D.toInt, ih]
@[simp] theorem bls_map (ns : List Bool) : D.bls (ns.map D.bl) = some ns := by
  induction ns with
  | nil => rfl
  | cons i r ih => simp [D.bls, D.toBl, ih]
def maxI : List Int → Int
  | [] => 0
  | [x] => x
  | x :: r => max x (maxI r)
def minI : List Int → Int
  | [] => 0
  | [x] => x
  | x :: r => min x (minI r)
theorem maxI_mem : ∀ {l : List Int}, l ≠ [] → maxI l ∈ l
  | [], h => absurd rfl h
  | [x], _ => List.mem_cons_self
  | x :: y :: r, _ => by
    have ih := maxI_mem (l := y :: r) (by simp)
    show max x (maxI (y :: r)) ∈ _
    rcases Int.le_total x (maxI (y :: r)) with h | h
    · rw [Int.max_eq_right h]; exact List.mem_cons_of_mem _ ih
    · rw [Int.max_eq_left h]; exact List.mem_cons_self
theorem le_maxI : ∀ {l : List Int} {y : Int}, y ∈ l → y ≤ maxI l
  | [x], y, h => by
    rw [List.mem_singleton.mp h]; exact Int.le_refl _
  | x :: z :: r, y, h => by
    show y ≤ max x (maxI (z :: r))
    rcases List.mem_cons.mp h with rfl | h
    · omega
    · have := le_maxI h
      omega
theorem minI_mem : ∀ {l : List Int}, l ≠ [] → minI l ∈ l
  | [], h => absurd rfl h
  | [x], _ => List.mem_cons_self
  | x :: y :: r, _ => by
    have ih := minI_mem (l := y :: r) (by simp)
    show min x (minI (y :: r)) ∈ _
    rcases Int.le_total x (minI (y :: r)) with h | h
    · rw [Int.min_eq_left h]; exact List.mem_cons_self
    · rw [Int.min_eq_right h]; exact List.mem_cons_of_mem _ ih
theorem minI_le : ∀ {l : List Int} {y : Int}, y ∈ l → minI l ≤ y
  | [x], y, h => by
    rw [List.mem_singleton.mp h]; exact Int.le_refl _
  | x :: z :: r, y, h => by
    show min x (minI (z :: r)) ≤ y
    rcases List.mem_cons.mp h with rfl | h
    · omega
    · have := minI_le h
      omega

/-- len -/
def fLen (d : D) : Option D := match d with
  | .lst xs => some (.int xs.length)
  | .tupF _ xs => some (.int xs.length)
  | .scr ns => some (.int ns.length)
  | .str s => iff? (s.length ≤ 16777216) (.int s.length)
  | _ => none
def fSum (d : D) : Option D := match d.toLst with
  | some xs => (D.ints xs).map fun ns => .int ns.sum
  | none => none
def fMax (d : D) : Option D := match d.toLst with
  | some xs => match D.ints xs with
    | some ns => iff? (ns ≠ []) (.int (maxI ns))
    | none => none
  | none => none
def fMin (d : D) : Option D := match d.toLst with
  | some xs => match D.ints xs with
    | some ns => iff? (ns ≠ []) (.int (minI ns))
    | none => none
  | none => none
def fAll (d : D) : Option D := match d.toLst with
  | some xs => (D.bls xs).map fun ns => .bl (ns.all id)
  | none => none
def fAny (d : D) : Option D := match d.toLst with
  | some xs => (D.bls xs).map fun ns => .bl (ns.any id)
  | none => none
def fAbs (d : D) : Option D := d.toInt.map fun i => .int (if i < 0 then -i else i)
def fInt (d : D) : Option D := match d with
  | .int i => some (.int i)
  | .bl k => some (.int (if k then 1 else 0))
  | _ => none
def fStr (d : D) : Option D := match d with
  | .int i => iff? (i.natAbs.log2 < 1920) (.str (toString i))
  | _ => none
def fListOf (d : D) : Option D := match d with
  | .lst xs => iff? (D.pureL xs = true) (.lst xs)
  | .tupF _ xs => iff? (D.pureL xs = true) (.lst xs)
  | .scr ns => some (.lst (ns.map .int))
  | _ => none
def fTupOf (d : D) : Option D := match d with
  | .lst xs => iff? (D.pureL xs = true) (.tup xs)
  | .tupF f xs => iff? (D.pureL xs = true) (.tupF f xs)
  | _ => none
def fRev (d : D) : Option D := match d.toLst with
  | some xs => iff? (D.pureL xs = true) (.lst xs.reverse)
  | none => none
abbrev gLen := una fLen
abbrev gSum := una fSum
abbrev gMax := una fMax
abbrev gMin := una fMin
abbrev gAll := una fAll
abbrev gAny := una fAny
abbrev gAbs := una fAbs
abbrev gInt := una fInt
abbrev gStr := una fStr
abbrev gListOf := una fListOf
abbrev gTupOf := una fTupOf
abbrev gRev := una fRev
abbrev gMax2 := bin (bI fun i j => some (.int (if j > i then j else i)))
abbrev gMin2 := bin (bI fun i j => some (.int (if j < i then j else i)))

theorem D.pureL_reverse (xs : List D) : D.pureL xs = true → D.pureL xs.reverse = true := by
  intro h
  induction xs with
  | nil => rfl
  | cons d r ih =>
    have h : (d.pure && D.pureL r) = true := h
    simp only [Bool.and_eq_true] at h
    rw [List.reverse_cons, D.pureL_append, ih h.2]
    show (true && (d.pure && true)) = true
    rw [h.1]; rfl
theorem pureL_ints (ns : List Int) : D.pureL (ns.map .int) = true := by
  induction ns with
  | nil => rfl
  | cons i r ih => exact ih
section
variable {G : Gc}
theorem OwnL.reverse {Z H : Hp} : ∀ {ds : List D} {vs : List V}, OwnL G Z H ds vs [] → OwnL G Z H ds.reverse vs.reverse []
  | [], vs, h => by rw [h.1]; exact ⟨rfl, rfl⟩
  | d :: r, vs, h => by
    obtain ⟨v, r', rfl, h1, h2⟩ := OwnL.uncons h
    rw [List.reverse_cons, List.reverse_cons]
    exact OwnL.snoc (OwnL.reverse h2) h1
theorem lst_ints {H : Hp} {xs : List D} {ns : List Int} {v : V} (h : Own G H H (.lst xs) v []) (e : D.ints xs = some ns) : ∃ a, v = .ref a ∧ SqL G.K H a (ns.map V.int) := by
  obtain ⟨a, vs, rfl, hs, o⟩ := h.lstR
  obtain ⟨e1, _⟩ := ints_own e o
  subst e1
  exact ⟨a, rfl, hs⟩
theorem lst_bls {H : Hp} {xs : List D} {ns : List Bool} {v : V} (h : Own G H H (.lst xs) v []) (e : D.bls xs = some ns) : ∃ a, v = .ref a ∧ SqL G.K H a (ns.map V.bl) := by
  obtain ⟨a, vs, rfl, hs, o⟩ := h.lstR
  have e1 := bls_own e o
  subst e1
  exact ⟨a, rfl, hs⟩
theorem toLst_ints {f : List Int → Option D} {d e : D} (h : (match d.toLst with
  | some xs => match D.ints xs with
    | some ns => f ns
    | none => none
  | none => none) = some e) : ∃ xs ns, d = .lst xs ∧ D.ints xs = some ns ∧ f ns = some e := by
  cases hd : d.toLst with
  | none => rw [hd] at h; cases h
  | some xs =>
    cases hn : D.ints xs with
    | none => simp only [hd, hn] at h; cases h
    | some ns =>
      simp only [hd, hn] at h
      exact ⟨xs, ns, D.toLst_some hd, hn, h⟩
theorem rop_len : ROp G (fun xs H Q => ∃ x n, xs = [x] ∧ LenV G.K x H n ∧ Q (.int (n : Nat)) H) gLen := by
  intro ds vs H Q d h e q
  obtain ⟨a, rfl, e⟩ := una_some e
  obtain ⟨x, rfl, h1⟩ := own1 h
  cases a with
  | lst xs =>
    cases e
    obtain ⟨p, ws, rfl, hs, o⟩ := h1.lstR
    exact ⟨_, xs.length, rfl, .inl ⟨ws, hs, (OwnL.length o).symm⟩, done0 q fun Z => ⟨rfl, rfl⟩⟩
  | tupF f xs =>
    cases e
    obtain ⟨p, ws, rfl, hs, o⟩ := h1
    exact ⟨_, xs.length, rfl, .inr ⟨ws, hs.seq, (OwnL.length o).symm⟩, done0 q fun Z => ⟨rfl, rfl⟩⟩
  | scr ns =>
    cases e
    obtain ⟨_, p, rfl, hs⟩ := h1
    exact ⟨_, ns.length, rfl, .inl ⟨_, hs, by rw [List.length_map]⟩, done0 q fun Z => ⟨rfl, rfl⟩⟩
  | str s =>
    obtain ⟨hl, rfl⟩ := iff?_some e
    rw [h1.1]
    exact ⟨_, s.length, rfl, ⟨by rw [← size_line]; exact hl, rfl⟩, done0 q fun Z => ⟨rfl, rfl⟩⟩
  | _ => cases e
theorem pure_len : PureG gLen := by
  intro ds d e
  obtain ⟨a, rfl, e⟩ := una_some e
  cases a with
  | lst xs => cases e; rfl
  | tupF f xs => cases e; rfl
  | scr xs => cases e; rfl
  | str s => obtain ⟨_, rfl⟩ := iff?_some e; rfl
  | _ => cases e
theorem fSum_some {a d : D} (e : fSum a = some d) : ∃ xs ns, a = .lst xs ∧ D.ints xs = some ns ∧ d = .int ns.sum := by
  unfold fSum at e
  cases hd : a.toLst with
  | none => rw [hd] at e; cases e
  | some xs =>
    rw [hd] at e
    obtain ⟨ns, hn, rfl⟩ := map_some' e
    exact ⟨xs, ns, D.toLst_some hd, hn, rfl⟩
theorem rop_sum : ROp G (rSum G.K) gSum := by
  intro ds vs H Q d h e q
  obtain ⟨a, rfl, e⟩ := una_some e
  obtain ⟨x, rfl, h1⟩ := own1 h
  obtain ⟨xs, ns, rfl, hn, rfl⟩ := fSum_some e
  obtain ⟨p, rfl, hs⟩ := lst_ints h1 hn
  exact ⟨p, ns, rfl, hs, done0 q fun Z => ⟨rfl, rfl⟩⟩
theorem pure_sum : PureG gSum := by
  intro ds d e
  obtain ⟨a, rfl, e⟩ := una_some e
  obtain ⟨xs, ns, rfl, hn, rfl⟩ := fSum_some e
  rfl
theorem rop_max : ROp G (rMax G.K) gMax := by
  intro ds vs H Q d h e q
  obtain ⟨a, rfl, e⟩ := una_some e
  obtain ⟨x, rfl, h1⟩ := own1 h
  obtain ⟨xs, ns, rfl, hn, e⟩ := toLst_ints e
  obtain ⟨ne, rfl⟩ := iff?_some e
  obtain ⟨p, rfl, hs⟩ := lst_ints h1 hn
  refine ⟨p, ns, rfl, hs, List.length_pos_iff.mpr ne, fun m m1 m2 => ?_⟩
  have : m = maxI ns := Int.le_antisymm (le_maxI m1) (m2 _ (maxI_mem ne))
  subst this
  exact done0 q fun Z => ⟨rfl, rfl⟩
theorem pure_max : PureG gMax := by
  intro ds d e
  obtain ⟨a, rfl, e⟩ := una_some e
  obtain ⟨xs, ns, rfl, hn, e⟩ := toLst_ints e
  obtain ⟨ne, rfl⟩ := iff?_some e
  rfl
theorem rop_min : ROp G (rMin G.K) gMin := by
  intro ds vs H Q d h e q
  obtain ⟨a, rfl, e⟩ := una_some e
  obtain ⟨x, rfl, h1⟩ := own1 h
  obtain ⟨xs, ns, rfl, hn, e⟩ := toLst_ints e
  obtain ⟨ne, rfl⟩ := iff?_some e
  obtain ⟨p, rfl, hs⟩ := lst_ints h1 hn
  refine ⟨p, ns, rfl, hs, List.length_pos_iff.mpr ne, fun m m1 m2 => ?_⟩
  have : m = minI ns := Int.le_antisymm (m2 _ (minI_mem ne)) (minI_le m1)
  subst this
  exact done0 q fun Z => ⟨rfl, rfl⟩
theorem pure_min : PureG gMin := by
  intro ds d e
  obtain ⟨a, rfl, e⟩ := una_some e
  obtain ⟨xs, ns, rfl, hn, e⟩ := toLst_ints e
  obtain ⟨ne, rfl⟩ := iff?_some e
  rfl
theorem fAll_some {a d : D} (e : fAll a = some d) : ∃ xs ns, a = .lst xs ∧ D.bls xs = some ns ∧ d = .bl (ns.all id) := by
  unfold fAll at e
  cases hd : a.toLst with
  | none => rw [hd] at e; cases e
  | some xs =>
    rw [hd] at e
    obtain ⟨ns, hn, rfl⟩ := map_some' e
    exact ⟨xs, ns, D.toLst_some hd, hn, rfl⟩
theorem rop_all : ROp G (rAll G.K) gAll := by
  intro ds vs H Q d h e q
  obtain ⟨a, rfl, e⟩ := una_some e
  obtain ⟨x, rfl, h1⟩ := own1 h
  obtain ⟨xs, ns, rfl, hn, rfl⟩ := fAll_some e
  obtain ⟨p, rfl, hs⟩ := lst_bls h1 hn
  exact ⟨p, ns, rfl, hs, done0 q fun Z => ⟨rfl, rfl⟩⟩
theorem pure_all : PureG gAll := by
  intro ds d e
  obtain ⟨a, rfl, e⟩ := una_some e
  obtain ⟨xs, ns, rfl, hn, rfl⟩ := fAll_some e
  rfl
theorem fAny_some {a d : D} (e : fAny a = some d) : ∃ xs ns, a = .lst xs ∧ D.bls xs = some ns ∧ d = .bl (ns.any id) := by
  unfold fAny at e
  cases hd : a.toLst with
  | none => rw [hd] at e; cases e
  | some xs =>
    rw [hd] at e
    obtain ⟨ns, hn, rfl⟩ := map_some' e
    exact ⟨xs, ns, D.toLst_some hd, hn, rfl⟩
theorem rop_any : ROp G (rAny G.K) gAny := by
  intro ds vs H Q d h e q
  obtain ⟨a, rfl, e⟩ := una_some e
  obtain ⟨x, rfl, h1⟩ := own1 h
  obtain ⟨xs, ns, rfl, hn, rfl⟩ := fAny_some e
  obtain ⟨p, rfl, hs⟩ := lst_bls h1 hn
  exact ⟨p, ns, rfl, hs, done0 q fun Z => ⟨rfl, rfl⟩⟩
theorem pure_any : PureG gAny := by
  intro ds d e
  obtain ⟨a, rfl, e⟩ := una_some e
  obtain ⟨xs, ns, rfl, hn, rfl⟩ := fAny_some e
  rfl
theorem rop_abs : ROp G (fun xs H Q => ∃ i, xs = [.int i] ∧ Q (.int (if i < 0 then -i else i)) H) gAbs := by
  intro ds vs H Q d h e q
  obtain ⟨a, rfl, e⟩ := una_some e
  obtain ⟨x, rfl, h1⟩ := own1 h
  obtain ⟨i, hi, rfl⟩ := map_some' e
  obtain rfl := D.toInt_some hi
  exact ⟨i, by rw [h1.1], done0 q fun Z => ⟨rfl, rfl⟩⟩
theorem pure_abs : PureG gAbs := by
  intro ds d e
  obtain ⟨a, rfl, e⟩ := una_some e
  obtain ⟨i, hi, rfl⟩ := map_some' e
  rfl
theorem rop_int1 : ROp G (fun xs H Q => (∃ i, xs = [.int i] ∧ Q (.int i) H) ∨ ∃ k, xs = [.bl k] ∧ Q (.int (if k then 1 else 0)) H) gInt := by
  intro ds vs H Q d h e q
  obtain ⟨a, rfl, e⟩ := una_some e
  obtain ⟨x, rfl, h1⟩ := own1 h
  cases a with
  | int i => cases e; exact .inl ⟨i, by rw [h1.1], done0 q fun Z => ⟨rfl, rfl⟩⟩
  | bl i => cases e; exact .inr ⟨i, by rw [h1.1], done0 q fun Z => ⟨rfl, rfl⟩⟩
  | _ => cases e
theorem pure_int1 : PureG gInt := by
  intro ds d e
  obtain ⟨a, rfl, e⟩ := una_some e
  cases a with
  | int i => cases e; rfl
  | bl i => cases e; rfl
  | _ => cases e
theorem rop_str1 : ROp G (fun xs H Q => ∃ i : Int, xs = [.int i] ∧ i.natAbs.log2 < 1920 ∧ Q (.str (toString i)) H) gStr := by
  intro ds vs H Q d h e q
  obtain ⟨a, rfl, e⟩ := una_some e
  obtain ⟨x, rfl, h1⟩ := own1 h
  cases a with
  | int i =>
    obtain ⟨hl, rfl⟩ := iff?_some e
    exact ⟨i, by rw [h1.1], hl, done0 q fun Z => ⟨rfl, rfl⟩⟩
  | _ => cases e
theorem pure_str1 : PureG gStr := by
  intro ds d e
  obtain ⟨a, rfl, e⟩ := una_some e
  cases a with
  | int i => obtain ⟨hl, rfl⟩ := iff?_some e; rfl
  | _ => cases e
theorem rop_max2 : ROp G (fun xs H Q => ∃ i j, xs = [.int i, .int j] ∧ Q (.int (if j > i then j else i)) H) gMax2 := by
  intro ds vs H Q d h e q
  obtain ⟨a, b, rfl, e⟩ := bin_some e
  obtain ⟨x, y, rfl, h1, h2⟩ := own2 h
  obtain ⟨i, j, rfl, rfl, e⟩ := bI_some e
  cases e
  exact ⟨i, j, by rw [h1.1, h2.1], done0 q fun Z => ⟨rfl, rfl⟩⟩
theorem pure_max2 : PureG gMax2 := pure_int fun i j d e => by cases e; rfl
theorem rop_min2 : ROp G (fun xs H Q => ∃ i j, xs = [.int i, .int j] ∧ Q (.int (if j < i then j else i)) H) gMin2 := by
  intro ds vs H Q d h e q
  obtain ⟨a, b, rfl, e⟩ := bin_some e
  obtain ⟨x, y, rfl, h1, h2⟩ := own2 h
  obtain ⟨i, j, rfl, rfl, e⟩ := bI_some e
  cases e
  exact ⟨i, j, by rw [h1.1, h2.1], done0 q fun Z => ⟨rfl, rfl⟩⟩
theorem pure_min2 : PureG gMin2 := pure_int fun i j d e => by cases e; rfl
theorem one_nodup {a : Addr} : [a].Nodup := List.nodup_cons.mpr ⟨by simp, List.nodup_nil⟩
theorem fListOf_some {a d : D} (e : fListOf a = some d) : ∃ xs, D.pureL xs = true ∧ d = .lst xs ∧ (a = .lst xs ∨ (∃ f, a = .tupF f xs) ∨ ∃ ns, a = .scr ns ∧ xs = ns.map .int) := by
  cases a with
  | lst xs => obtain ⟨h, rfl⟩ := iff?_some e; exact ⟨xs, h, rfl, .inl rfl⟩
  | tupF f xs => obtain ⟨h, rfl⟩ := iff?_some e; exact ⟨xs, h, rfl, .inr (.inl ⟨f, rfl⟩)⟩
  | scr ns => cases e; exact ⟨_, pureL_ints ns, rfl, .inr (.inr ⟨ns, rfl, rfl⟩)⟩
  | _ => cases e
theorem rop_listOf : ROp G (fun xs H Q => ∃ p ys, xs = [.ref p] ∧ (SqL G.K H p ys ∨ SqT G.K H p ys) ∧ ∀ l, H l = none → Q (.ref l) (upd H l (.lst ys))) gListOf := by
  intro ds vs H Q d h e q
  obtain ⟨a, rfl, e⟩ := una_some e
  obtain ⟨x, rfl, h1⟩ := own1 h
  obtain ⟨xs, hp, ed, ee⟩ := fListOf_some e
  subst ed
  have fin : ∀ (l : Addr) (ys : List V), H l = none → OwnL G H H xs ys [] → Q (.ref l) (upd H l (.lst ys)) := fun l ys hn o =>
    q _ _ [l] (same_upd hn) (fun Z => new_lst hp hn o Z) one_nodup fun b m => by rw [List.mem_singleton.mp m]; exact hn
  rcases ee with rfl | ⟨f, rfl⟩ | ⟨ns, rfl, rfl⟩
  · obtain ⟨p, ys, rfl, hs, o⟩ := h1.lstR
    exact ⟨p, ys, rfl, .inl hs, fun l hn => fin l ys hn o⟩
  · obtain ⟨p, ys, rfl, hs, o⟩ := h1
    exact ⟨p, ys, rfl, .inr hs.seq, fun l hn => fin l ys hn o⟩
  · obtain ⟨_, p, rfl, hs⟩ := h1
    exact ⟨p, _, rfl, .inl hs, fun l hn => fin l _ hn (ints_rep ns)⟩
theorem fTupOf_some {a d : D} (e : fTupOf a = some d) : ∃ xs, D.pureL xs = true ∧ ((a = .lst xs ∧ d = .tup xs) ∨ ∃ f, a = .tupF f xs ∧ d = .tupF f xs) := by
  cases a with
  | lst xs => obtain ⟨h, rfl⟩ := iff?_some e; exact ⟨xs, h, .inl ⟨rfl, rfl⟩⟩
  | tupF f xs => obtain ⟨h, rfl⟩ := iff?_some e; exact ⟨xs, h, .inr ⟨f, rfl, rfl⟩⟩
  | _ => cases e
theorem rop_tupOf : ROp G (fun xs H Q => ∃ p ys, xs = [.ref p] ∧ ((SqL G.K H p ys ∧ ∀ l, H l = none → Q (.ref l) (upd H l (.tup ys))) ∨ (SqT G.K H p ys ∧ Q (.ref p) H))) gTupOf := by
  intro ds vs H Q d h e q
  obtain ⟨a, rfl, e⟩ := una_some e
  obtain ⟨x, rfl, h1⟩ := own1 h
  obtain ⟨xs, hp, ee⟩ := fTupOf_some e
  rcases ee with ⟨rfl, rfl⟩ | ⟨f, rfl, rfl⟩
  · obtain ⟨p, ys, rfl, hs, o⟩ := h1.lstR
    exact ⟨p, ys, rfl, .inl ⟨hs, fun l hn => q _ _ [] (same_upd hn) (fun Z => new_tup hp hn o Z) List.nodup_nil fun b m => by cases m⟩⟩
  · obtain ⟨p, ys, rfl, hs, o⟩ := h1
    exact ⟨p, ys, rfl, .inr ⟨hs.seq, done0 q fun Z => ⟨p, ys, rfl, hs, OwnL.pure_any hp o⟩⟩⟩
theorem pure_tupOf : PureG gTupOf := by
  intro ds d e
  obtain ⟨a, rfl, e⟩ := una_some e
  obtain ⟨xs, hp, ⟨_, rfl⟩ | ⟨f, _, rfl⟩⟩ := fTupOf_some e
  · exact hp
  · exact hp
def rRevL (K : PySem.W.Frag) : List V → Hp → VK → Prop := l1 fun v H Q => ∃ (a : Addr) (xs : List V), v = .ref a ∧ SqL K H a xs ∧ ∀ q, H q = none → Q (.ref q) (upd H q (.lst xs.reverse))
theorem rop_rev : ROp G (rRevL G.K) gRev := by
  intro ds vs H Q d h e q
  obtain ⟨a, rfl, e⟩ := una_some e
  obtain ⟨x, rfl, h1⟩ := own1 h
  have e : fRev a = some d := e
  unfold fRev at e
  cases hd : a.toLst with
  | none => rw [hd] at e; cases e
  | some xs =>
    rw [hd] at e
    obtain ⟨hp, rfl⟩ := iff?_some e
    obtain rfl := D.toLst_some hd
    obtain ⟨p, ys, rfl, hs, o⟩ := h1.lstR
    exact ⟨p, ys, rfl, hs, fun l hn => q _ _ [l] (same_upd hn) (fun Z => new_lst (D.pureL_reverse _ hp) hn o.reverse Z) one_nodup fun b m => by rw [List.mem_singleton.mp m]; exact hn⟩

/-! ### isinstance -/
def D.ty : D → Option String
  | .non => some "NoneType"
  | .bl _ => some "bool"
  | .int _ => some "int"
  | .str _ => some "str"
  | .tupF _ _ => some "tuple"
  | .lst _ => some "list"
  | .dk _ _ => some "dict"
  | .dt _ _ => some "dict"
  | _ => none
theorem Own.ty {H : Hp} {d : D} {v : V} {T : String} (h : Own G H H d v []) (e : d.ty = some T) : TyX G.K H v (.type T) := by
  cases d with
  | non => cases e; rw [h.1]; exact .base .non
  | bl b => cases e; rw [h.1]; exact .base (.bl b)
  | int b => cases e; rw [h.1]; exact .base (.int b)
  | str b => cases e; rw [h.1]; exact .base (.str b)
  | tupF f xs =>
    cases e
    obtain ⟨a, vs, rfl, h1, _⟩ := h
    cases f with
    | false => exact .base (.tup h1)
    | true =>
      obtain ⟨o, _, h1⟩ := h1
      exact .fTuple h1
  | lst xs =>
    cases e
    obtain ⟨a, vs, F', rfl, n, _⟩ := h
    rcases n with ⟨h1 | ⟨o, h1⟩, _⟩ | ⟨z, _⟩
    · exact .base (.lst h1)
    · exact .base (.frz h1)
    · cases z
  | dk ks vs =>
    cases e
    obtain ⟨a, vs, F', rfl, _, n, _⟩ := h
    rcases n with ⟨h1, _⟩ | ⟨z, _⟩
    · exact .base (.dK h1)
    · cases z
  | dt ks vs =>
    cases e
    obtain ⟨a, vs, F', rfl, _, n, _⟩ := h
    rcases n with ⟨h1, _⟩ | ⟨z, _⟩
    · exact .base (.dT h1)
    · cases z
  | _ => cases e
def tyLe (a b : String) : Bool := a == b || (a == "bool" && b == "int")
theorem D.ty_in {d : D} {T : String} (h : d.ty = some T) : T ∈ ["NoneType", "bool", "int", "str", "tuple", "list", "dict"] := by
  cases d <;> cases h <;> decide
theorem kit_all {K : PySem.W.Frag} {a b : String} (ha : a ∈ ["NoneType", "bool", "int", "str", "tuple", "list", "dict"]) (hb : b ∈ ["bool", "int", "str", "tuple", "list", "dict"]) : PySem.W.kitOne K (.type a) (.type b) = some (tyLe a b) := by
  refine kit_ty ?_
  have key : ∀ a ∈ ["NoneType", "bool", "int", "str", "tuple", "list", "dict"], ∀ b ∈ ["bool", "int", "str", "tuple", "list", "dict"], kitB a b = some (tyLe a b) := by decide +kernel
  exact key a ha b hb
/-- is a value of the built-in type T -/
def gIsi (T : String) : List D → Option D := una fun d => d.ty.map fun t => .bl (tyLe t T)
variable {X : Cx} {W : Wsh} {e : Expr} {p p2 pos : Pos}
theorem p_isi {x : Str} {T : String} {s1 : SArg} (dx : DX X G) (hT : T ∈ ["bool", "int", "str", "tuple", "list", "dict"]) (hg : Gl X "isinstance") (hm : X.mg "isinstance" = none) (hg2 : Gl X x) (hm2 : X.mg x = none) (hv2 : bootBuiltins x = some (.type T)) (he : PE X e (s1.te G)) (hn2 : x ≠ "__name__" := by decide) (hd2 : (x == ("__debug__" : Str)) = false := by decide)
    (hv : bootBuiltins "isinstance" = some (.builtin "isinstance") := by rfl) (hs2 : starEach [.Name x p2] X.env = (false, eval (.Name x p2) X.env) :: starEach [] X.env := by rfl)
    (hs : starEach [e, .Name x p2] X.env = (false, eval e X.env) :: starEach [.Name x p2] X.env := by rfl) (hpl : (backTo pos (starEach [.Name x p2] X.env)).any (·.1) = false := by rfl) :
    PE X (.Call (.Name "isinstance" p) [e, .Name x p2] [] pos) (TPur G (hOp [s1] (gIsi T))) :=
  (pe_callB call_isi hg hm hv (pa_cons he (pa_cons (pe_bltn (v := .ty T) hg2 hm2 hv2 rfl hn2 hd2) pa_nil hs2) hs) (he := hs) (hpl := hpl)).imp fun σ H Q h => by
    have q := tpur_op (hs := [s1]) (r := l1 fun x H Q => rIsi X.K [x, .ty T] H Q) (g := gIsi T) (by
      intro ds vs H Q d h e q
      obtain ⟨a, rfl, e⟩ := una_some e
      obtain ⟨x, rfl, h1⟩ := own1 h
      obtain ⟨t, ht, rfl⟩ := map_some' e
      · refine ⟨x, .ty T, .type t, .type T, tyLe t T, rfl, .ty T, ?_, kit_all (D.ty_in ht) hT, done0 q fun Z => ⟨rfl, rfl⟩⟩
        rw [dx.K]
        exact h1.ty ht) (by
      intro ds d e
      obtain ⟨a, rfl, e⟩ := una_some e
      obtain ⟨t, ht, rfl⟩ := map_some' e
      rfl) σ H Q h
    exact q
theorem e_rev {te : TE} {pos2 : Pos} (dx : DX X G) (c : Chn) (hg : Gl X "list") (hm : X.mg "list" = none) (hg2 : Gl X "reversed") (hm2 : X.mg "reversed" = none) (he : PE X e te) (hc : c.tes G W = [te] := by rfl) (hn : c.iofs.any id = false := by rfl)
    (hs : starEach [e] X.env = (false, eval e X.env) :: starEach [] X.env := by rfl)
    (hs2 : starEach [.Call (.Name "reversed" p2) [e] [] pos2] X.env = (false, eval (.Call (.Name "reversed" p2) [e] [] pos2) X.env) :: starEach [] X.env := by rfl) :
    PE X (.Call (.Name "list" p) [.Call (.Name "reversed" p2) [e] [] pos2] [] pos) (TV G W (eOp c gRev)) :=
  (pe_lrev dx.calm hg hm hg2 hm2 he hs hs2).imp fun σ H Q h => by
    have q := tv_op (r := rRevL X.K) (by rw [dx.K]; exact rop_rev) hn σ H Q h
    rw [hc] at q
    exact q
end
end DL

namespace DL
open PySem PySem.Spec PyProof.Rows L2

/-! ### lists that are changed -/
section
variable {G : Gc} {W : Wsh} {B Z H : Hp} {σ : L2.St} {env : DEnv} {Fs : Nat → List Addr}
theorem Own.alive {ds : List D} {v : V} {F : List Addr} (z0 : ∀ a, Z a = none) (h : Own G Z H (.lst ds) v F) : ∃ a vs F', v = .ref a ∧ F = a :: F' ∧ H a = some (.lst vs) ∧ OwnL G Z H ds vs F' := by
  obtain ⟨a, vs, F', rfl, n, o⟩ := h
  rcases n with ⟨h1 | ⟨u, h1⟩, _⟩ | ⟨e, h1⟩
  · rw [z0] at h1; cases h1
  · rw [z0] at h1; cases h1
  · exact ⟨a, vs, F', rfl, e, h1, o⟩
theorem OwnL.one {d : D} {v : V} {F : List Addr} (h : Own G Z H d v F) : OwnL G Z H [d] [v] F := ⟨v, [], F, [], rfl, by simp, h, rfl, rfl⟩
theorem own_non : Own G Z H .non .non [] := ⟨rfl, rfl⟩
theorem mut_fin {T : List Addr} {Y : Hp} {its : List (Bool × D)} {vs : List V} (gd : Good G B Z H σ env Fs) (hd : Hand G B Z H Y Fs its vs T) {a : Addr} {ws ws2 : List V} {ds2 : List D} {F2 FR : List Addr} {d : D} {r : V} (ha : a ∈ T) (hH : H a = some (.lst ws)) (o2 : OwnL G Z H ds2 ws2 F2) (oR : Own G Z H d r FR) (nd : (FR ++ a :: F2).Nodup) (sub : ∀ b, b ∈ FR ++ a :: F2 → b ∈ T) {Q : VK}
    (hF : FinO G W B Z H σ env (PT_ Fs T) [.ref a] (.ok (d, [.lst ds2], env)) Q) : Q r (upd H a (.lst ws2)) := by
  have nn := List.nodup_append.mp nd
  have naR : a ∉ FR := fun m => nn.2.2 a m a List.mem_cons_self rfl
  have naF : a ∉ F2 := (List.nodup_cons.mp nn.2.1).1
  have sb : Same B (upd H a (.lst ws2)) := fun b u e => by
    rw [upd_ne (fun z => by rw [z, (hd.fr a ha).1] at e; cases e)]
    exact gd.sb b u e
  have sz : Same Z (upd H a (.lst ws2)) := fun b u e => by rw [gd.z0] at e; cases e
  have nt : ∀ (b : Addr) (u : HO), H b = some u → Still u → b ≠ a := fun b u e st z => by
    rw [z, hH] at e; cases e; exact st trivial
  have st : Stp G B Z H σ env (PT_ Fs T) Z (upd H a (.lst ws2)) σ env Fs := by
    refine ⟨Same.refl Z, fun b u e n => ?_, ⟨sb, sz, gd.len, fun i => (gd.sl i).keep gd.sb gd.sz sb sz (Same.refl Z) fun b u e m => ?_, gd.nd, gd.dj, gd.fr, gd.z0⟩, fun b m => .inr (.inl m), fun _ m => .inl m, fun j d e => ⟨⟨d, e⟩, rfl⟩, fun j d e => ⟨e, rfl⟩, fun j d e => ⟨e, rfl⟩, fun j d e => ⟨e, rfl⟩, rfl⟩
    · rw [upd_ne (fun z => n (.inr (by rw [z]; exact ha)))]
      exact e
    · rw [upd_ne (fun z => ?_)]
      · exact e
      · rcases m with m | nm
        · exact hd.dj a ha ⟨i, by rw [← z]; exact m⟩
        · exact nt b u e nm z
  refine hF r Z _ Fs (FR ++ a :: F2) ⟨st, ⟨r, [.ref a], FR, a :: F2, rfl, rfl, oR.priv naR hH, ⟨.ref a, [], a :: F2, [], rfl, by simp, ⟨a, ws2, F2, rfl, .inr ⟨rfl, upd_same⟩, o2.priv naF hH⟩, rfl, rfl⟩⟩, nd, fun b m => hd.dj b (sub b m), fun b m => hd.fr b (sub b m), fun b m => .inr (.inr (sub b m))⟩
theorem its1 {its : List (Bool × D)} {a : Bool} (h : its.map (·.1) = [a]) : ∃ d, its = [(a, d)] := by
  match its, h with
  | [(b, d)], h => cases h; exact ⟨d, rfl⟩
theorem its2 {its : List (Bool × D)} {a b : Bool} (h : its.map (·.1) = [a, b]) : ∃ d e, its = [(a, d), (b, e)] := by
  match its, h with
  | [(_, d), (_, e)], h => cases h; exact ⟨d, e, rfl⟩
theorem its3 {its : List (Bool × D)} {a b c : Bool} (h : its.map (·.1) = [a, b, c]) : ∃ d e f, its = [(a, d), (b, e), (c, f)] := by
  match its, h with
  | [(_, d), (_, e), (_, f)], h => cases h; exact ⟨d, e, f, rfl⟩
theorem hand1 {Y : Hp} {d : D} {vs : List V} {T : List Addr} (h : OwnT G Y Z H [(true, d)] vs T) : ∃ v, vs = [v] ∧ Own G Z H d v T := by
  obtain ⟨v, r, F1, F2, rfl, rfl, h1, h2, rfl⟩ := h
  exact ⟨v, by rw [h2], by simpa using h1⟩
theorem hand2 {Y : Hp} {d e : D} {vs : List V} {T : List Addr} (h : OwnT G Y Z H [(true, d), (true, e)] vs T) : ∃ v w F1 F2, vs = [v, w] ∧ T = F1 ++ F2 ∧ Own G Z H d v F1 ∧ Own G Z H e w F2 := by
  obtain ⟨v, r, F1, F2, rfl, rfl, h1, h2⟩ := h
  obtain ⟨w, rfl, h3⟩ := hand1 h2
  exact ⟨v, w, F1, F2, rfl, rfl, h1, h3⟩
theorem hand3 {Y : Hp} {d e f : D} {vs : List V} {T : List Addr} (h : OwnT G Y Z H [(true, d), (true, e), (true, f)] vs T) : ∃ v w u F1 F2 F3, vs = [v, w, u] ∧ T = F1 ++ (F2 ++ F3) ∧ Own G Z H d v F1 ∧ Own G Z H e w F2 ∧ Own G Z H f u F3 := by
  obtain ⟨v, r, F1, F2, rfl, rfl, h1, h2⟩ := h
  obtain ⟨w, u, F3, F4, rfl, rfl, h3, h4⟩ := hand2 h2
  exact ⟨v, w, u, F1, F3, F4, rfl, rfl, h1, h3, h4⟩
theorem ioV_first {fl : List Bool} {v : V} {us : List V} (h : fl.any id = false) : ioV (true :: fl) (v :: us) = [v] := by
  show ioV fl us ++ [v] = [v]
  rw [ioV_none fl us h]; rfl
def rvM (r : V → List V → Hp → VK → Prop) : List V → Hp → VK → Prop := fun vs H Q => match vs with
  | x :: xs => r x xs H Q
  | [] => False
def appK : Kn := fun ds e => match ds with
  | [.lst xs, y] => if xs.length < 16777216 then .ok (.non, [.lst (xs ++ [y])], e) else .bad
  | _ => .bad
theorem k_app {fl : List Bool} (hfl : fl.any id = false) : KOk G W (true :: fl) [true, true] (rvM rAppend) appK := by
  intro B Z H σ env Fs its vs T ios Q gd hd hb hn hF
  obtain ⟨d1, y, rfl⟩ := its2 hb
  unfold appK at hF
  split at hF
  · rename_i xs y' e
    cases e
    split at hF
    · rename_i hl
      obtain ⟨v, w, F1, F2, rfl, rfl, h1, h2⟩ := hand2 hd.own
      obtain ⟨a, ws, F', rfl, rfl, hH, o⟩ := h1.alive gd.z0
      rw [ioV_first hfl] at hn
      subst hn
      have nd := hd.nd
      refine ⟨a, ws, w, rfl, rfl, hH, by rw [← size_line, OwnL.length o]; exact hl, ?_⟩
      exact mut_fin gd hd (F2 := F' ++ F2) (FR := []) (by simp) hH (OwnL.append o (OwnL.one h2)) own_non nd (fun b m => m) hF
    · exact hF.elim
  · exact hF.elim
def popK : Kn := fun ds e => match ds with
  | [.lst xs] => match xs.getLast? with
    | some y => .ok (y, [.lst xs.dropLast], e)
    | none => .bad
  | _ => .bad
theorem k_pop : KOk G W [true] [true] (rvM rPop) popK := by
  intro B Z H σ env Fs its vs T ios Q gd hd hb hn hF
  obtain ⟨d1, rfl⟩ := its1 hb
  unfold popK at hF
  split at hF
  · rename_i xs e
    cases e
    cases hx : xs.getLast? with
    | none => simp only [hx] at hF; exact hF.elim
    | some y =>
      simp only [hx] at hF
      obtain ⟨v, rfl, h1⟩ := hand1 hd.own
      obtain ⟨a, ws, F', rfl, rfl, hH, o⟩ := h1.alive gd.z0
      subst hn
      have ex : xs = xs.dropLast ++ [y] := by
        obtain ⟨h0, h1⟩ := List.getLast?_eq_some_iff.mp hx
        rw [h1, List.dropLast_concat]
      rw [ex] at o
      obtain ⟨w1, w2, G1, G2, rfl, rfl, o1, o2⟩ := OwnL.split o
      obtain ⟨w, rest, G3, G4, rfl, rfl, o3, rfl, rfl⟩ := o2
      have nd := hd.nd
      simp only [List.append_nil] at nd hH hd hF o h1
      refine ⟨a, w1 ++ [w], w, rfl, rfl, hH, by simp, ?_⟩
      rw [List.dropLast_concat]
      obtain ⟨n1, n2⟩ := List.nodup_cons.mp nd
      obtain ⟨n3, n4, n5⟩ := List.nodup_append.mp n2
      refine mut_fin gd hd (F2 := G1) (FR := G3) (by simp) hH o1 o3 (List.nodup_append.mpr ⟨n4, List.nodup_cons.mpr ⟨fun m => n1 (List.mem_append_left _ m), n3⟩, fun b m c k e => ?_⟩) (fun b m => ?_) hF
      · subst e
        rcases List.mem_cons.mp k with rfl | k
        · exact n1 (List.mem_append_right _ m)
        · exact n5 b k b m rfl
      · rcases List.mem_append.mp m with m | m
        · simp [m]
        · rcases List.mem_cons.mp m with rfl | m
          · simp
          · simp [m]
  · exact hF.elim
def clearK : Kn := fun ds e => match ds with
  | [.lst xs] => .ok (.non, [.lst []], e)
  | _ => .bad
theorem k_clear : KOk G W [true] [true] (rvM rClear) clearK := by
  intro B Z H σ env Fs its vs T ios Q gd hd hb hn hF
  obtain ⟨d1, rfl⟩ := its1 hb
  unfold clearK at hF
  split at hF
  · rename_i xs e
    cases e
    obtain ⟨v, rfl, h1⟩ := hand1 hd.own
    obtain ⟨a, ws, F', rfl, rfl, hH, o⟩ := h1.alive gd.z0
    subst hn
    refine ⟨a, ws, rfl, rfl, hH, ?_⟩
    exact mut_fin gd hd (F2 := []) (FR := []) (ds2 := []) (ws2 := []) (by simp) hH ⟨rfl, rfl⟩ own_non (by simp) (fun b m => by simp at m; simp [m]) hF
  · exact hF.elim
def insK : Kn := fun ds e => match ds with
  | [.lst xs, .int i, y] => if xs.length < 16777216 ∧ 0 ≤ i ∧ i.natAbs < 9223372036854775808 then .ok (.non, [.lst (xs.take i.toNat ++ [y] ++ xs.drop i.toNat)], e) else .bad
  | _ => .bad
def rInsert : V → List V → Hp → VK → Prop := fun x vs H Q => ∃ (l : Addr) (xs : List V) (i : Int) (y : V), x = .ref l ∧ vs = [.int i, y] ∧ H l = some (.lst xs) ∧ xs.length < sizeLine ∧ 0 ≤ i ∧ i < 2 ^ 63 ∧
    Q .non (upd H l (.lst (xs.take i.toNat ++ [y] ++ xs.drop i.toNat)))
theorem OwnL.cut2 {ds : List D} {vs : List V} {F : List Addr} (n : Nat) (h : OwnL G Z H ds vs F) : ∃ F1 F2, F = F1 ++ F2 ∧ OwnL G Z H (ds.take n) (vs.take n) F1 ∧ OwnL G Z H (ds.drop n) (vs.drop n) F2 := by
  have l := OwnL.length h
  rw [← List.take_append_drop n ds] at h
  obtain ⟨w1, w2, F1, F2, rfl, rfl, h1, h2⟩ := OwnL.split h
  have l1 := OwnL.length h1
  have l2 := OwnL.length h2
  refine ⟨F1, F2, rfl, ?_, ?_⟩
  · have e : (w1 ++ w2).take n = w1 := by
      by_cases hn : n ≤ ds.length
      · rw [List.length_take, Nat.min_eq_left hn] at l1
        rw [List.take_append_of_le_length (by omega), List.take_of_length_le (by omega)]
      · rw [List.length_drop] at l2
        have : w2 = [] := List.eq_nil_of_length_eq_zero (by omega)
        subst this
        rw [List.append_nil, List.take_of_length_le (by rw [l1, List.length_take]; omega)]
    rw [e]; exact h1
  · have e : (w1 ++ w2).drop n = w2 := by
      by_cases hn : n ≤ ds.length
      · rw [List.length_take, Nat.min_eq_left hn] at l1
        rw [List.drop_append_of_le_length (by omega), List.drop_of_length_le (by omega)]
        rfl
      · rw [List.length_drop] at l2
        have : w2 = [] := List.eq_nil_of_length_eq_zero (by omega)
        subst this
        rw [List.append_nil, List.drop_of_length_le (by rw [l1, List.length_take]; omega)]
    rw [e]; exact h2
theorem k_ins {fl : List Bool} (hfl : fl.any id = false) : KOk G W (true :: fl) [true, true, true] (rvM rInsert) insK := by
  intro B Z H σ env Fs its vs T ios Q gd hd hb hn hF
  obtain ⟨d1, d2, y, rfl⟩ := its3 hb
  unfold insK at hF
  split at hF
  · rename_i xs i y' e
    cases e
    split at hF
    · rename_i hl
      obtain ⟨v, w, u, F1, F2, F3, rfl, rfl, h1, h2, h3⟩ := hand3 hd.own
      obtain ⟨a, ws, F', rfl, rfl, hH, o⟩ := h1.alive gd.z0
      obtain ⟨rfl, rfl⟩ := h2
      rw [ioV_first hfl] at hn
      subst hn
      have nd := hd.nd
      refine ⟨a, ws, i, u, rfl, rfl, hH, by rw [← size_line, OwnL.length o]; exact hl.1, hl.2.1, by omega, ?_⟩
      obtain ⟨K1, K2, rfl, o1, o2⟩ := OwnL.cut2 i.toNat o
      have oo : OwnL G Z H (xs.take i.toNat ++ [y] ++ xs.drop i.toNat) (ws.take i.toNat ++ [u] ++ ws.drop i.toNat) ((K1 ++ F3) ++ K2) := OwnL.append (OwnL.append o1 (OwnL.one h3)) o2
      rw [List.nil_append, List.cons_append] at nd
      refine mut_fin gd hd (F2 := (K1 ++ F3) ++ K2) (FR := []) (by simp) hH oo own_non ?_ (fun b m => ?_) hF
      · rw [List.nil_append]
        refine (List.Perm.nodup_iff ?_).mp nd
        refine List.Perm.cons a ?_
        rw [List.append_assoc, List.append_assoc]
        exact List.Perm.append_left K1 List.perm_append_comm
      · simp only [List.nil_append, List.mem_cons, List.mem_append] at m ⊢
        rcases m with m | (m | m) | m
        · exact .inl (.inl m)
        · exact .inl (.inr (.inl m))
        · exact .inr m
        · exact .inl (.inr (.inr m))
    · exact hF.elim
  · exact hF.elim
def setK : Kn := fun ds e => match ds with
  | [x, .lst xs, .int i] => match ixN xs.length i with
    | some k => .ok (.non, [.lst (xs.set k x)], e)
    | none => .bad
  | _ => .bad
def rSetX : List V → Hp → VK → Prop := fun vs H Q => match vs with
  | [x, o, i] => rSetL o i x H (fun H2 => Q .non H2)
  | _ => False
theorem OwnL.setAt : ∀ {ds : List D} {vs : List V} {F : List Addr} {k : Nat} {d : D} {v : V} {F2 : List Addr}, OwnL G Z H ds vs F → Own G Z H d v F2 → k < ds.length → F.Nodup → F2.Nodup → (∀ a, a ∈ F2 → a ∉ F) → ∃ F3, OwnL G Z H (ds.set k d) (vs.set k v) F3 ∧ F3.Nodup ∧ ∀ a, a ∈ F3 → a ∈ F ∨ a ∈ F2
  | [], _, _, k, _, _, _, _, _, hk, _, _, _ => absurd hk (Nat.not_lt_zero k)
  | d0 :: r, vs, F, 0, d, v, F2, h, h2, _, nd, nd2, dj => by
    obtain ⟨v0, rest, G1, G2, rfl, rfl, o1, o2⟩ := h
    obtain ⟨n1, n2, n3⟩ := List.nodup_append.mp nd
    exact ⟨F2 ++ G2, ⟨v, rest, F2, G2, rfl, rfl, h2, o2⟩, List.nodup_append.mpr ⟨nd2, n2, fun a m b k e => dj a m (by rw [e]; exact List.mem_append_right _ k)⟩, fun a m => (List.mem_append.mp m).elim .inr fun m => .inl (List.mem_append_right _ m)⟩
  | d0 :: r, vs, F, k + 1, d, v, F2, h, h2, hk, nd, nd2, dj => by
    obtain ⟨v0, rest, G1, G2, rfl, rfl, o1, o2⟩ := h
    obtain ⟨n1, n2, n3⟩ := List.nodup_append.mp nd
    obtain ⟨F3, o3, n4, s3⟩ := OwnL.setAt (k := k) o2 h2 (by simpa using hk) n2 nd2 (fun a m n => dj a m (List.mem_append_right _ n))
    refine ⟨G1 ++ F3, ⟨v0, rest.set k v, G1, F3, rfl, rfl, o1, o3⟩, List.nodup_append.mpr ⟨n1, n4, fun a m b q e => ?_⟩, fun a m => ?_⟩
    · subst e
      rcases s3 a q with z | z
      · exact n3 a m a z rfl
      · exact dj a z (List.mem_append_left _ m)
    · rcases List.mem_append.mp m with m | m
      · exact .inl (List.mem_append_left _ m)
      · exact (s3 a m).imp (List.mem_append_right _) id
theorem k_set : KOk G W [false, true, false] [true, true, true] rSetX setK := by
  intro B Z H σ env Fs its vs T ios Q gd hd hb hn hF
  obtain ⟨x, d1, d2, rfl⟩ := its3 hb
  unfold setK at hF
  split at hF
  · rename_i x' xs i e
    cases e
    split at hF
    · rename_i k hk
      obtain ⟨u, v, w, F1, F2, F3, rfl, rfl, h3, h1, h2⟩ := hand3 hd.own
      obtain ⟨a, ws, F', rfl, rfl, hH, o⟩ := h1.alive gd.z0
      obtain ⟨rfl, rfl⟩ := h2
      have hn : ios = [.ref a] := hn
      subst hn
      have nd := hd.nd
      rw [List.append_nil] at nd
      obtain ⟨n1, n2, n3⟩ := List.nodup_append.mp nd
      obtain ⟨n4, n5⟩ := List.nodup_cons.mp n2
      have l := OwnL.length o
      have kl : k < xs.length := by
        have := (ixN_seq hk).2.1
        omega
      obtain ⟨F3, o3, n6, s3⟩ := OwnL.setAt (k := k) o h3 kl n5 n1 (fun b m q => n3 b m b (List.mem_cons_of_mem _ q) rfl)
      refine ⟨a, ws, i, k, rfl, rfl, hH, by rw [l]; exact hk, ?_⟩
      refine mut_fin gd hd (F2 := F3) (FR := []) (by simp) hH o3 own_non ?_ (fun b m => ?_) hF
      · rw [List.nil_append]
        refine List.nodup_cons.mpr ⟨fun m => ?_, n6⟩
        rcases s3 a m with z | z
        · exact n4 z
        · exact n3 a z a List.mem_cons_self rfl
      · simp only [List.nil_append, List.mem_cons, List.mem_append] at m ⊢
        rcases m with m | m
        · exact .inr (.inl (.inl m))
        · rcases s3 b m with z | z
          · exact .inr (.inl (.inr z))
          · exact .inl z
    · exact hF.elim
  · exact hF.elim

/-! ### the expressions -/
variable {X : Cx}
/-- slot j holds a list -/
def isL {α : Type} (j : Nat) (f : DEnv → Out α) : DEnv → Out α := fun env => match env[j]? with
  | some (some (_, .lst _)) => f env
  | _ => .bad
theorem isL_run {α : Type} {j : Nat} {f : DEnv → Out α} {env : DEnv} (h : isL j f env ≠ .bad) : (∃ m ds, env[j]? = some (some (m, D.lst ds))) ∧ isL j f env = f env := by
  unfold isL at h ⊢
  split
  · rename_i m ds e
    exact ⟨⟨m, ds, e⟩, rfl⟩
  · rename_i hx
    split at h
    · rename_i m ds e; exact absurd e (hx m ds)
    · exact absurd rfl h
theorem io_tyV {j : Nat} {m : Md} {ds : List D} (gd : Good G B Z H σ env Fs) (h : env[j]? = some (some (m, .lst ds))) : ∃ v, σ[j]? = some (some v) ∧ tyV G.K "list" v H := by
  obtain ⟨v, ev, ho⟩ := gd.read h
  have ho := Own.rep (gd.joi_in j) _ _ _ ho
  obtain ⟨a, ws, rfl, hs, o⟩ := ho.lstR
  exact ⟨_, ev, .inl ⟨rfl, ws, hs⟩⟩
theorem tv_io {σ : L2.St} {H : Hp} {Q : VK} {j : Nat} {c : Chn} {k : Kn} {r : V → List V → Hp → VK → Prop} {bs : List Bool} (hk : KOk G W (true :: c.iofs) bs (rvM r) k) (hb : (Chn.io j c).kinds = bs) (h : TV G W (isL j (eK (.io j c) k)) σ H Q) :
    ∃ v, σ[j]? = some (some v) ∧ tyV G.K "list" v H ∧ seqTE (c.tes G W) σ H fun us H1 => r v us H1 Q := by
  obtain ⟨B, Z, Fs, env, gd, q⟩ := h
  have nb : isL j (eK (.io j c) k) env ≠ .bad := fun e => by rw [e] at q; exact q
  obtain ⟨⟨m, ds, hs⟩, e⟩ := isL_run nb
  rw [e] at q
  obtain ⟨v, ev, ty⟩ := io_tyV gd hs
  obtain ⟨w, ew, q⟩ := tv_chn (c := .io j c) hk rfl hb σ H Q ⟨B, Z, Fs, env, gd, q⟩
  rw [ev] at ew
  obtain rfl : v = w := Option.some.inj (Option.some.inj ew)
  exact ⟨v, ev, ty, q⟩
theorem e_mt {o e : Expr} {es : List Expr} {t : TA} {name : Str} {apos cpos : Pos} {id : String} {r : V → List V → Hp → VK → Prop} {j : Nat} {k : Kn} {bs : List Bool} (dx : DX X G) (slot : PySem.Slot "list" name id) (hty : typeOf (.builtin id) = pure (.type "method_descriptor")) (hm : MtR X id r) (ho : PE X o (tVar j)) (c : Chn) (hk : KOk G W (true :: c.iofs) bs (rvM r) k) (ha : PA X (e :: es) t)
    (ht : t = seqTE (c.tes G W) := by rfl) (hb : (Chn.io j c).kinds = bs := by rfl) (hbase : attributeBase o name X.env (eval o X.env) = eval o X.env := by rfl)
    (hfew : ((backTo cpos (starEach (e :: es) X.env)).all (fun x => !x.1) && (backToKw cpos (keywordEach [] X.env)).all (fun x => x.1.isSome)
      && decide ((e :: es).length + ([] : List Keyword).length + (if ([] : List Keyword).isEmpty then 0 else 1) < 30)) = true := by rfl)
    (hline : (apos.endLine == cpos.line) = true := by rfl) (hs : starEach (e :: es) X.env = (false, eval e X.env) :: starEach es X.env := by rfl) (hplain : (backTo cpos (starEach es X.env)).any (·.1) = false := by rfl) :
    PE X (.Call (.Attribute o name apos) (e :: es) [] cpos) (TV G W (isL j (eK (.io j c) k))) :=
  (pe_bm F.plainAttrs_list slot hty hm ho ha hbase hfew hline hs hplain).imp fun σ H Q h => by
    subst ht
    obtain ⟨v, ev, ty, q⟩ := tv_io hk hb h
    exact ⟨v, ev, by rw [dx.K]; exact ty, q⟩
theorem e_mt0 {o : Expr} {name : Str} {apos cpos : Pos} {id : String} {r : V → List V → Hp → VK → Prop} {j : Nat} {k : Kn} (dx : DX X G) (slot : PySem.Slot "list" name id) (hty : typeOf (.builtin id) = pure (.type "method_descriptor")) (hm : MtR X id r) (ho : PE X o (tVar j)) (hk : KOk G W [true] [true] (rvM r) k)
    (hbase : attributeBase o name X.env (eval o X.env) = eval o X.env := by rfl) (hline : (apos.endLine == cpos.line) = true := by rfl) :
    PE X (.Call (.Attribute o name apos) [] [] cpos) (TV G W (isL j (eK (.io j (.fin [])) k))) :=
  (pe_bm0 F.plainAttrs_list slot hty hm ho hbase hline).imp fun σ H Q h => by
    obtain ⟨v, ev, ty, q⟩ := tv_io (c := .fin []) hk rfl h
    exact ⟨v, ev, by rw [dx.K]; exact ty, q⟩
theorem e_append {o e : Expr} {t : TA} {apos cpos : Pos} {j : Nat} (dx : DX X G) (ho : PE X o (tVar j)) (c : Chn) (ha : PA X [e] t) (hn : c.iofs.any id = false := by rfl) (ht : t = seqTE (c.tes G W) := by rfl) (hb : c.kinds = [true] := by rfl) (hbase : attributeBase o "append" X.env (eval o X.env) = eval o X.env := by rfl)
    (hfew : ((backTo cpos (starEach [e] X.env)).all (fun x => !x.1) && (backToKw cpos (keywordEach [] X.env)).all (fun x => x.1.isSome)
      && decide ([e].length + ([] : List Keyword).length + (if ([] : List Keyword).isEmpty then 0 else 1) < 30)) = true := by rfl)
    (hline : (apos.endLine == cpos.line) = true := by rfl) (hs : starEach [e] X.env = (false, eval e X.env) :: starEach [] X.env := by rfl) (hplain : (backTo cpos (starEach [] X.env)).any (·.1) = false := by rfl) :
    PE X (.Call (.Attribute o "append" apos) [e] [] cpos) (TV G W (isL j (eK (.io j c) appK))) :=
  e_mt dx F.slot_list_append F.type_list_append mt_append ho c (k_app hn) ha ht (by show true :: c.kinds = _; rw [hb]) hbase hfew hline hs hplain
theorem e_pop {o : Expr} {apos cpos : Pos} {j : Nat} (dx : DX X G) (ho : PE X o (tVar j)) (hbase : attributeBase o "pop" X.env (eval o X.env) = eval o X.env := by rfl) (hline : (apos.endLine == cpos.line) = true := by rfl) : PE X (.Call (.Attribute o "pop" apos) [] [] cpos) (TV G W (isL j (eK (.io j (.fin [])) popK))) :=
  e_mt0 dx F.slot_list_pop F.type_list_pop mt_pop ho k_pop hbase hline
theorem e_clear {o : Expr} {apos cpos : Pos} {j : Nat} (dx : DX X G) (ho : PE X o (tVar j)) (hbase : attributeBase o "clear" X.env (eval o X.env) = eval o X.env := by rfl) (hline : (apos.endLine == cpos.line) = true := by rfl) : PE X (.Call (.Attribute o "clear" apos) [] [] cpos) (TV G W (isL j (eK (.io j (.fin [])) clearK))) :=
  e_mt0 dx F.slot_list_clear F.type_list_clear mt_clear ho k_clear hbase hline
theorem e_insert {o e e2 : Expr} {t : TA} {apos cpos : Pos} {j : Nat} (dx : DX X G) (ho : PE X o (tVar j)) (c : Chn) (ha : PA X [e, e2] t) (hn : c.iofs.any id = false := by rfl) (ht : t = seqTE (c.tes G W) := by rfl) (hb : c.kinds = [true, true] := by rfl) (hbase : attributeBase o "insert" X.env (eval o X.env) = eval o X.env := by rfl)
    (hfew : ((backTo cpos (starEach [e, e2] X.env)).all (fun x => !x.1) && (backToKw cpos (keywordEach [] X.env)).all (fun x => x.1.isSome)
      && decide ([e, e2].length + ([] : List Keyword).length + (if ([] : List Keyword).isEmpty then 0 else 1) < 30)) = true := by rfl)
    (hline : (apos.endLine == cpos.line) = true := by rfl) (hs : starEach [e, e2] X.env = (false, eval e X.env) :: starEach [e2] X.env := by rfl) (hplain : (backTo cpos (starEach [e2] X.env)).any (·.1) = false := by rfl) :
    PE X (.Call (.Attribute o "insert" apos) [e, e2] [] cpos) (TV G W (isL j (eK (.io j c) insK))) :=
  e_mt dx F.slot_list_insert F.type_list_insert mt_insert ho c (k_ins hn) ha ht (by show true :: c.kinds = _; rw [hb]) hbase hfew hline hs hplain

/-- x[i] = e -/
theorem s_setix {o i e : Expr} {to ti te : TE} {tpos pos : Pos} (c : Chn) (he : PE X e te) (ho : PE X o to) (hi : PE X i ti) (hc : c.tes G W = [te, to, ti] := by rfl) (hn : c.iofs = [false, true, false] := by rfl) (hb : c.kinds = [true, true, true] := by rfl)
    (ha : ∀ v, assign (.Subscript o i tpos) X.env v = (do
      let ov ← holding [v] (eval o X.env)
      let iv ← holding [v, ov] (eval i X.env)
      standAt tpos
      holding [v, ov, iv] (setItem ov iv v)
      release [v, ov, iv] []) := by intro _; rfl)
    (hs : swapsWithSole [.Subscript o i tpos] e pos.line X.env = pure false := by rfl) (hw : swappedStores [.Subscript o i tpos] e X.env = pure none := by rfl) (h1 : (assignEach [.Subscript o i tpos] X.env).map (·.2) = [assign (.Subscript o i tpos) X.env] := by rfl) :
    PS X (.Assign [.Subscript o i tpos] e pos) (TSt G W (sExpr (eK c setK))) :=
  (ps_asg he (pg_sub ho hi set_list ha) hs hw h1).imp fun En σ H ⟨B, Z, Fs, env, gd, q⟩ => by
    have q1 : TV G W (eK c setK) σ H (fun _ H1 => En.nx σ H1) := by
      refine ⟨B, Z, Fs, env, gd, ?_⟩
      unfold sExpr at q
      unfold FinV
      cases hf : eK c setK env with
      | bad => rw [hf] at q; exact q.elim
      | exc c => rw [hf] at q; exact q
      | ok p =>
        rw [hf] at q
        exact fun v Z' H' Fs' F p => q σ Z' H' Fs' p.st
    have q2 := tv_chn (c := c) k_set hn hb σ H _ q1
    rw [hc] at q2
    exact q2

/-- name op= e, whole numbers -/
def sAug (i : Nat) (g : List D → Option D) (f : DEnv → Out (D × DEnv)) : Stm := fun env => must (hVar i env) fun dx => f env >>= fun p => must (g [dx, p.1]) fun d => must (putS i d p.2) fun e => .ok (.nx e)
theorem s_aug {i : Nat} {x : Str} {e : Expr} {op : Operator} {h : Int → Int → Int} {f : DEnv → Out (D × DEnv)} {p' pos : Pos} (dx : DX X G) (hi : X.N[i]? = some x) (hx : Loc X.env.scope x) (ho : PIp X op (ipI h)) (he : PE X e (TV G W f)) (hf : X.fn x = true ∨ X.env.scope.names.lookup x = some .local := by first | exact .inl rfl | exact .inr rfl) :
    PS X (.AugAssign (.Name x p') op e pos) (TSt G W (sAug i (bin (bI fun a b => some (.int (h a b)))) f)) :=
  (ps_aug dx.nd hi hx he ho hf).imp fun En σ H ⟨B, Z, Fs, env, gd, q⟩ => by
    unfold sAug at q
    cases hv : hVar i env with
    | none => rw [hv] at q; exact q.elim
    | some d1 =>
      rw [hv, must_some] at q
      have hs : ∃ m, env[i]? = some (some (m, d1)) := by
        unfold hVar at hv
        split at hv
        · rename_i m d e
          split at hv
          · cases hv; exact ⟨m, e⟩
          · cases hv
        · cases hv
      obtain ⟨m, hs⟩ := hs
      obtain ⟨v, ev, ho1⟩ := gd.read hs
      refine ⟨v, ev, B, Z, Fs, env, gd, ?_⟩
      unfold FinV
      cases hf : f env with
      | bad => rw [hf] at q; exact q.elim
      | exc c => rw [hf] at q; exact q
      | ok p =>
        obtain ⟨d2, e2⟩ := p
        rw [hf] at q
        intro v2 Z2 H2 Fs2 F2 p2
        have q : FinS G W B Z H σ env (InF Fs) (must (bin (bI fun a b => some (.int (h a b))) [d1, d2]) fun d => must (putS i d e2) fun e => .ok (.nx e)) En := q
        cases hg : bin (bI fun a b => some (.int (h a b))) [d1, d2] with
        | none => rw [hg] at q; exact q.elim
        | some d3 =>
          rw [hg, must_some] at q
          obtain ⟨a, b, eab, hg⟩ := bin_some hg
          cases eab
          obtain ⟨n1, n2, rfl, rfl, e3⟩ := bI_some hg
          cases e3
          cases hput : putS i (.int (h n1 n2)) e2 with
          | none => rw [hput] at q; exact q.elim
          | some e4 =>
            rw [hput] at q
            have o2 := p2.one
            refine ⟨n1, n2, ho1.1, o2.1, ?_⟩
            have s2 : Stp G B Z2 H2 σ e2 (InF Fs2) Z2 H2 (σ.set i (some (.int (h n1 n2)))) e4 (onF Fs2 i []) := Stp.put p2.st.good (fun a m => m) (fun a m => by cases m) ⟨(show Own G Z2 H2 (.int (h n1 n2)) (.int (h n1 n2)) [] from ⟨rfl, rfl⟩), List.nodup_nil, fun a m => (by cases m), fun a m => (by cases m)⟩ hput
            exact q _ _ _ _ (p2.st.trans p2.st.new s2)

/-! ### rows times a number -/
def repK : Kn := fun ds e => match ds with
  | [.lst xs, .int k] => if k.natAbs < 9223372036854775808 ∧ xs.length * k.toNat ≤ 16777216 ∧ D.pureL xs = true then .ok (.lst (List.replicate k.toNat xs).flatten, [], e) else .bad
  | _ => .bad
theorem D.pureL_rep {xs : List D} (h : D.pureL xs = true) : ∀ k : Nat, D.pureL (List.replicate k xs).flatten = true
  | 0 => rfl
  | k + 1 => by
    rw [List.replicate_succ, List.flatten_cons, D.pureL_append, h, D.pureL_rep h k]; rfl
theorem OwnL.rep_pure {ds : List D} {vs : List V} (h : OwnL G Z H ds vs []) : ∀ k : Nat, OwnL G Z H (List.replicate k ds).flatten (List.replicate k vs).flatten []
  | 0 => ⟨rfl, rfl⟩
  | k + 1 => by
    rw [List.replicate_succ, List.flatten_cons, List.replicate_succ, List.flatten_cons]
    have := OwnL.append h (OwnL.rep_pure h k)
    simpa using this
theorem k_rep {fl : List Bool} (hfl : fl.any id = false) : KOk G W fl [true, true] (l2 rRep) repK := by
  intro B Z H σ env Fs its vs T ios Q gd hd hb hn hF
  obtain rfl : ios = [] := hn.trans (ioV_none fl vs hfl)
  obtain ⟨d1, y, rfl⟩ := its2 hb
  unfold repK at hF
  split at hF
  · rename_i xs k e
    cases e
    split at hF
    · rename_i hl
      obtain ⟨v, w, F1, F2, rfl, rfl, h1, h2⟩ := hand2 hd.own
      obtain ⟨a, ws, F', rfl, rfl, hH, o⟩ := h1.alive gd.z0
      obtain ⟨rfl, rfl⟩ := h2
      refine ⟨a, k, ws, rfl, rfl, hH, by omega, by omega, by rw [← size_line, OwnL.length o]; exact hl.2.1, fun p hp => ?_⟩
      have nf := none_of_free gd hp
      have op : OwnL G Z H (List.replicate k.toNat xs).flatten (List.replicate k.toNat ws).flatten [] := OwnL.rep_pure (OwnL.pure_any hl.2.2 o) k.toNat
      refine hF _ Z _ Fs [p] ⟨Stp.grow gd (fun a m => .inl m) (same_upd hp), ⟨.ref p, [], [p], [], rfl, rfl, ⟨p, _, [], rfl, .inr ⟨rfl, upd_same⟩, OwnL.keepT (Same.refl _) (TK.of (same_upd hp)) op⟩, rfl, rfl⟩, one_nodup, fun b m => ?_, fun b m => ?_, fun b m => ?_⟩
      · rw [List.mem_singleton.mp m]; exact nf.1
      · rw [List.mem_singleton.mp m]; exact nf.2
      · rw [List.mem_singleton.mp m]; exact .inl hp
    · exact hF.elim
  · exact hF.elim
theorem e_rep {a b : Expr} {ta tb : TE} {pos : Pos} (c : Chn) (ha : PE X a ta) (hb : PE X b tb) (hc : c.tes G W = [ta, tb] := by rfl) (hn : c.iofs.any id = false := by rfl) (hk : c.kinds = [true, true] := by rfl) : PE X (.BinOp a .Mult b pos) (TV G W (eK c repK)) :=
  (pe_op op_rep ha hb).imp fun σ H Q h => by
    have q := tv_chn (k_rep (G := G) (W := W) hn) rfl hk σ H Q h
    rw [hc] at q
    exact q
def fRepT (a b : D) : Option D := match a, b with
  | .tupF false xs, .int k => iff? (-1000 ≤ k ∧ k ≤ 1000 ∧ xs.length ≤ 1000 ∧ D.pureL xs = true) (.tup (List.replicate k.toNat xs).flatten)
  | _, _ => none
abbrev gRepT := bin fRepT
theorem fRepT_some {a b d : D} (h : fRepT a b = some d) : ∃ xs k, a = .tup xs ∧ b = .int k ∧ (-1000 ≤ k ∧ k ≤ 1000 ∧ xs.length ≤ 1000 ∧ D.pureL xs = true) ∧ d = .tup (List.replicate k.toNat xs).flatten := by
  unfold fRepT at h
  split at h
  · obtain ⟨hc, rfl⟩ := iff?_some h
    exact ⟨_, _, rfl, rfl, hc, rfl⟩
  · cases h
theorem flat_nil {α : Type} : ∀ k : Nat, (List.replicate k ([] : List α)).flatten = []
  | 0 => rfl
  | k + 1 => by rw [List.replicate_succ, List.flatten_cons, flat_nil k]; rfl
theorem rop_repT : ROp G (l2 (rRepAny G.K)) gRepT := by
  intro ds vs H Q d h e q
  obtain ⟨a, b, rfl, e⟩ := bin_some e
  obtain ⟨x, y, rfl, h1, h2⟩ := own2 h
  obtain ⟨xs, k, rfl, rfl, ⟨k0, k1, hl, hp⟩, rfl⟩ := fRepT_some e
  obtain ⟨p, ws, rfl, hH, o⟩ := h1
  have l := OwnL.length o
  refine ⟨p, k, ws, rfl, h2.1, SqT.of hH, k0, k1, by rw [l]; exact hl, fun hz => ?_, fun hne hk p2 hn => ?_, fun hne hk p2 hn => ?_⟩
  · have e : (List.replicate k.toNat xs).flatten = xs := by
      rcases hz with z | z
      · subst z
        have : xs = [] := List.eq_nil_of_length_eq_zero l.symm
        subst this
        exact flat_nil _
      · subst z
        show xs ++ [] = xs
        rw [List.append_nil]
    rw [e] at q
    exact done0 q fun Z => ⟨p, ws, rfl, hH, OwnL.pure_any hp o⟩
  · have e : k.toNat = 0 := by omega
    rw [e] at q
    exact q _ _ [] (same_upd hn) (fun Z => new_tup (ds := []) rfl hn ⟨rfl, rfl⟩ Z) List.nodup_nil fun b m => by cases m
  · exact q _ _ [] (same_upd hn) (fun Z => new_tup (D.pureL_rep hp _) hn (OwnL.rep_pure o _) Z) List.nodup_nil fun b m => by cases m
theorem pure_repT : PureG gRepT := by
  intro ds d e
  obtain ⟨a, b, rfl, e⟩ := bin_some e
  obtain ⟨xs, k, rfl, rfl, ⟨k0, k1, hl, hp⟩, rfl⟩ := fRepT_some e
  exact D.pureL_rep hp _

/-! ### in -/
def D.fv : D → Option V
  | .non => some .non
  | .bl b => some (.bl b)
  | .int i => some (.int i)
  | .str s => some (.str s)
  | _ => none
def D.fvs : List D → Option (List V)
  | [] => some []
  | d :: r => match d.fv, D.fvs r with
    | some v, some vs => some (v :: vs)
    | _, _ => none
theorem fv_own {Z H : Hp} {d : D} {v w : V} {F : List Addr} (e : d.fv = some w) (h : Own G Z H d v F) : v = w ∧ flatV w = true := by
  cases d with
  | non => cases e; exact ⟨h.1, rfl⟩
  | bl b => cases e; exact ⟨h.1, rfl⟩
  | int b => cases e; exact ⟨h.1, rfl⟩
  | str b => cases e; exact ⟨h.1, rfl⟩
  | _ => cases e
theorem fvs_own {Z H : Hp} : ∀ {ds : List D} {vs ws : List V} {F : List Addr}, D.fvs ds = some ws → OwnL G Z H ds vs F → vs = ws ∧ ws.all flatV = true
  | [], vs, ws, F, e, h => by
    cases (show some ([] : List V) = some ws from e)
    exact ⟨h.1, rfl⟩
  | d :: r, vs, ws, F, e, h => by
    obtain ⟨v, rest, F1, F2, rfl, rfl, h1, h2⟩ := h
    have e : (match d.fv, D.fvs r with
      | some v, some vs => some (v :: vs)
      | _, _ => none) = some ws := e
    cases hd : d.fv with
    | none => rw [hd] at e; cases e
    | some w =>
      cases hr : D.fvs r with
      | none => rw [hd, hr] at e; cases e
      | some us =>
        rw [hd, hr] at e
        cases e
        obtain ⟨rfl, f1⟩ := fv_own hd h1
        obtain ⟨rfl, f2⟩ := fvs_own hr h2
        exact ⟨rfl, by rw [List.all_cons, f1, f2]; rfl⟩
def inB (x y : D) : Option Bool := match y with
  | .tupF _ ys => match x.fv, D.fvs ys with
    | some v, some vs => some (inV v vs)
    | _, _ => none
  | y => match x.py, y.py with
    | some d, some (.list ds) => iff? (SeqAt.shaped d = true ∧ SeqAt.shaped (.list ds) = true) (ds.any fun z => PyData.eqv z d)
    | _, _ => none
theorem inB_some {x y : D} {b : Bool} (h : inB x y = some b) : (∃ f ys v vs, y = .tupF f ys ∧ x.fv = some v ∧ D.fvs ys = some vs ∧ b = inV v vs) ∨ ∃ d ds, x.py = some d ∧ y.py = some (.list ds) ∧ SeqAt.shaped d = true ∧ SeqAt.shaped (.list ds) = true ∧ b = ds.any fun z => PyData.eqv z d := by
  unfold inB at h
  split at h
  · rename_i f ys
    split at h
    · rename_i v vs h1 h2
      cases h
      exact .inl ⟨f, ys, v, vs, rfl, h1, h2, rfl⟩
    · cases h
  · split at h
    · rename_i d ds h1 h2
      obtain ⟨hc, rfl⟩ := iff?_some h
      exact .inr ⟨d, ds, h1, h2, hc.1, hc.2, rfl⟩
    · cases h
abbrev gIn := bin fun a b => (inB a b).map .bl
abbrev gNotIn := bin fun a b => (inB a b).map fun k => .bl (!k)
def rInA (K : PySem.W.Frag) : R2 := fun x y H Q => rInD K x y H Q ∨ rIn K false x y H Q
def rNotInA (K : PySem.W.Frag) : R2 := fun x y H Q => rNotInD K x y H Q ∨ rIn K true x y H Q
theorem rop_in : ROp G (l2 (rInA G.K)) gIn := by
  intro ds vs H Q d h e q
  obtain ⟨a, b, rfl, e⟩ := bin_some e
  obtain ⟨x, y, rfl, h1, h2⟩ := own2 h
  obtain ⟨k, hk, rfl⟩ := map_some' e
  rcases inB_some hk with ⟨f, ys, v, vs, rfl, e1, e2, rfl⟩ | ⟨p, ps, e1, e2, s1, s2, rfl⟩
  · obtain ⟨w, ws, rfl, hH, o⟩ := h2
    obtain ⟨rfl, f1⟩ := fv_own e1 h1
    obtain ⟨rfl, f2⟩ := fvs_own e2 o
    exact .inr ⟨w, ws, rfl, .inr hH.seq, f1, f2, done0 q fun Z => ⟨rfl, rfl⟩⟩
  · exact .inl ⟨p, ps, Own.dp _ _ _ h1 e1, Own.dp _ _ _ h2 e2, s1, s2, done0 q fun Z => ⟨rfl, rfl⟩⟩
theorem rop_notIn : ROp G (l2 (rNotInA G.K)) gNotIn := by
  intro ds vs H Q d h e q
  obtain ⟨a, b, rfl, e⟩ := bin_some e
  obtain ⟨x, y, rfl, h1, h2⟩ := own2 h
  obtain ⟨k, hk, rfl⟩ := map_some' e
  rcases inB_some hk with ⟨f, ys, v, vs, rfl, e1, e2, rfl⟩ | ⟨p, ps, e1, e2, s1, s2, rfl⟩
  · obtain ⟨w, ws, rfl, hH, o⟩ := h2
    obtain ⟨rfl, f1⟩ := fv_own e1 h1
    obtain ⟨rfl, f2⟩ := fvs_own e2 o
    exact .inr ⟨w, ws, rfl, .inr hH.seq, f1, f2, done0 q fun Z => ⟨rfl, rfl⟩⟩
  · exact .inl ⟨p, ps, Own.dp _ _ _ h1 e1, Own.dp _ _ _ h2 e2, s1, s2, done0 q fun Z => ⟨rfl, rfl⟩⟩
theorem pure_in : PureG gIn := by
  intro ds d e
  obtain ⟨a, b, rfl, e⟩ := bin_some e
  obtain ⟨k, hk, rfl⟩ := map_some' e
  rfl
theorem pure_notIn : PureG gNotIn := by
  intro ds d e
  obtain ⟨a, b, rfl, e⟩ := bin_some e
  obtain ⟨k, hk, rfl⟩ := map_some' e
  rfl
theorem op_inA (dx : DX X G) : OpR X (compareOp .In) (rInA X.K) := OpR.or (op_inD (by have := dx.un; omega)) op_in_seq
theorem op_notInA (dx : DX X G) : OpR X (compareOp .NotIn) (rNotInA X.K) := OpR.or (op_notInD (by have := dx.un; omega)) op_notIn_seq
end
end DL

namespace DL
open PySem PySem.Spec PyProof.Rows L2
theorem DXW.blk {X : Cx} {G : Gc} {W : Wsh} {s : Shared} {H : Hp} {scope : Scope} {cenv : Env} {fp : List Addr} (d : DXW X G W) : DXW (X.blk s H scope cenv fp) G Wno :=
  ⟨d.dx.blk, fun _ _ h => h.elim, takes0.imp fun c d σ H h => by
    obtain ⟨_, _, _, _, _, h⟩ := h
    exact h.elim⟩
theorem bt_len : bootBuiltins "len" = some (.builtin "len") := by decide +kernel
theorem bt_sum : bootBuiltins "sum" = some (.builtin "sum") := by decide +kernel
theorem bt_max : bootBuiltins "max" = some (.builtin "max") := by decide +kernel
theorem bt_min : bootBuiltins "min" = some (.builtin "min") := by decide +kernel
theorem bt_abs : bootBuiltins "abs" = some (.builtin "abs") := by decide +kernel
theorem bt_all : bootBuiltins "all" = some (.builtin "all") := by decide +kernel
theorem bt_any : bootBuiltins "any" = some (.builtin "any") := by decide +kernel
theorem bt_sorted : bootBuiltins "sorted" = some (.builtin "sorted") := by decide +kernel
theorem bt_isinstance : bootBuiltins "isinstance" = some (.builtin "isinstance") := by decide +kernel
theorem bt_zip : bootBuiltins "zip" = some (.type "zip") := by decide +kernel
theorem bt_range : bootBuiltins "range" = some (.type "range") := by decide +kernel
theorem bt_enumerate : bootBuiltins "enumerate" = some (.type "enumerate") := by decide +kernel
theorem bt_reversed : bootBuiltins "reversed" = some (.type "reversed") := by decide +kernel
theorem bt_list : bootBuiltins "list" = some (.type "list") := by decide +kernel
theorem bt_tuple : bootBuiltins "tuple" = some (.type "tuple") := by decide +kernel
theorem bt_int : bootBuiltins "int" = some (.type "int") := by decide +kernel
theorem bt_str : bootBuiltins "str" = some (.type "str") := by decide +kernel
theorem bt_bool : bootBuiltins "bool" = some (.type "bool") := by decide +kernel
theorem bt_set : bootBuiltins "set" = some (.type "set") := by decide +kernel
theorem bt_dict : bootBuiltins "dict" = some (.type "dict") := by decide +kernel
section
variable {G : Gc} {W : Wsh} {X : Cx} {e : Expr} {es : List Expr} {p pos : Pos} {t : TA} {hs : List SArg}
theorem p_len (dx : DX X G) (hg : Gl X "len") (hm : X.mg "len" = none) (ha : PA X (e :: es) t) (ht : t = seqTE (hs.map (SArg.te G)) := by rfl) (he : starEach (e :: es) X.env = (false, eval e X.env) :: starEach es X.env := by rfl) (hpl : (backTo pos (starEach es X.env)).any (·.1) = false := by rfl) :
    PE X (.Call (.Name "len" p) (e :: es) [] pos) (TPur G (hOp hs gLen)) :=
  p_callB call_len hg hm bt_len (by rw [dx.K]; exact rop_len) pure_len ha ht (by decide) (by decide) he hpl
theorem e_len (dx : DX X G) (hg : Gl X "len") (hm : X.mg "len" = none) (c : Chn) (ha : PA X (e :: es) t) (ht : t = seqTE (c.tes G W) := by rfl) (hio : c.iofs.any id = false := by rfl) (he : starEach (e :: es) X.env = (false, eval e X.env) :: starEach es X.env := by rfl) (hpl : (backTo pos (starEach es X.env)).any (·.1) = false := by rfl) :
    PE X (.Call (.Name "len" p) (e :: es) [] pos) (TV G W (eOp c gLen)) :=
  e_callB call_len hg hm bt_len (by rw [dx.K]; exact rop_len) c ha ht hio (by decide) (by decide) he hpl
theorem p_sum (dx : DX X G) (hg : Gl X "sum") (hm : X.mg "sum" = none) (ha : PA X (e :: es) t) (ht : t = seqTE (hs.map (SArg.te G)) := by rfl) (he : starEach (e :: es) X.env = (false, eval e X.env) :: starEach es X.env := by rfl) (hpl : (backTo pos (starEach es X.env)).any (·.1) = false := by rfl) :
    PE X (.Call (.Name "sum" p) (e :: es) [] pos) (TPur G (hOp hs gSum)) :=
  p_callB (cr_sum dx.calm) hg hm bt_sum (by rw [dx.K]; exact rop_sum) pure_sum ha ht (by decide) (by decide) he hpl
theorem e_sum (dx : DX X G) (hg : Gl X "sum") (hm : X.mg "sum" = none) (c : Chn) (ha : PA X (e :: es) t) (ht : t = seqTE (c.tes G W) := by rfl) (hio : c.iofs.any id = false := by rfl) (he : starEach (e :: es) X.env = (false, eval e X.env) :: starEach es X.env := by rfl) (hpl : (backTo pos (starEach es X.env)).any (·.1) = false := by rfl) :
    PE X (.Call (.Name "sum" p) (e :: es) [] pos) (TV G W (eOp c gSum)) :=
  e_callB (cr_sum dx.calm) hg hm bt_sum (by rw [dx.K]; exact rop_sum) c ha ht hio (by decide) (by decide) he hpl
theorem p_max (dx : DX X G) (hg : Gl X "max") (hm : X.mg "max" = none) (ha : PA X (e :: es) t) (ht : t = seqTE (hs.map (SArg.te G)) := by rfl) (he : starEach (e :: es) X.env = (false, eval e X.env) :: starEach es X.env := by rfl) (hpl : (backTo pos (starEach es X.env)).any (·.1) = false := by rfl) :
    PE X (.Call (.Name "max" p) (e :: es) [] pos) (TPur G (hOp hs gMax)) :=
  p_callB (cr_max dx.calm) hg hm bt_max (by rw [dx.K]; exact rop_max) pure_max ha ht (by decide) (by decide) he hpl
theorem e_max (dx : DX X G) (hg : Gl X "max") (hm : X.mg "max" = none) (c : Chn) (ha : PA X (e :: es) t) (ht : t = seqTE (c.tes G W) := by rfl) (hio : c.iofs.any id = false := by rfl) (he : starEach (e :: es) X.env = (false, eval e X.env) :: starEach es X.env := by rfl) (hpl : (backTo pos (starEach es X.env)).any (·.1) = false := by rfl) :
    PE X (.Call (.Name "max" p) (e :: es) [] pos) (TV G W (eOp c gMax)) :=
  e_callB (cr_max dx.calm) hg hm bt_max (by rw [dx.K]; exact rop_max) c ha ht hio (by decide) (by decide) he hpl
theorem p_min (dx : DX X G) (hg : Gl X "min") (hm : X.mg "min" = none) (ha : PA X (e :: es) t) (ht : t = seqTE (hs.map (SArg.te G)) := by rfl) (he : starEach (e :: es) X.env = (false, eval e X.env) :: starEach es X.env := by rfl) (hpl : (backTo pos (starEach es X.env)).any (·.1) = false := by rfl) :
    PE X (.Call (.Name "min" p) (e :: es) [] pos) (TPur G (hOp hs gMin)) :=
  p_callB (cr_min dx.calm) hg hm bt_min (by rw [dx.K]; exact rop_min) pure_min ha ht (by decide) (by decide) he hpl
theorem e_min (dx : DX X G) (hg : Gl X "min") (hm : X.mg "min" = none) (c : Chn) (ha : PA X (e :: es) t) (ht : t = seqTE (c.tes G W) := by rfl) (hio : c.iofs.any id = false := by rfl) (he : starEach (e :: es) X.env = (false, eval e X.env) :: starEach es X.env := by rfl) (hpl : (backTo pos (starEach es X.env)).any (·.1) = false := by rfl) :
    PE X (.Call (.Name "min" p) (e :: es) [] pos) (TV G W (eOp c gMin)) :=
  e_callB (cr_min dx.calm) hg hm bt_min (by rw [dx.K]; exact rop_min) c ha ht hio (by decide) (by decide) he hpl
theorem p_max2 (dx : DX X G) (hg : Gl X "max") (hm : X.mg "max" = none) (ha : PA X (e :: es) t) (ht : t = seqTE (hs.map (SArg.te G)) := by rfl) (he : starEach (e :: es) X.env = (false, eval e X.env) :: starEach es X.env := by rfl) (hpl : (backTo pos (starEach es X.env)).any (·.1) = false := by rfl) :
    PE X (.Call (.Name "max" p) (e :: es) [] pos) (TPur G (hOp hs gMax2)) :=
  p_callB (call_max2 dx.calm) hg hm bt_max rop_max2 pure_max2 ha ht (by decide) (by decide) he hpl
theorem e_max2 (dx : DX X G) (hg : Gl X "max") (hm : X.mg "max" = none) (c : Chn) (ha : PA X (e :: es) t) (ht : t = seqTE (c.tes G W) := by rfl) (hio : c.iofs.any id = false := by rfl) (he : starEach (e :: es) X.env = (false, eval e X.env) :: starEach es X.env := by rfl) (hpl : (backTo pos (starEach es X.env)).any (·.1) = false := by rfl) :
    PE X (.Call (.Name "max" p) (e :: es) [] pos) (TV G W (eOp c gMax2)) :=
  e_callB (call_max2 dx.calm) hg hm bt_max rop_max2 c ha ht hio (by decide) (by decide) he hpl
theorem p_min2 (dx : DX X G) (hg : Gl X "min") (hm : X.mg "min" = none) (ha : PA X (e :: es) t) (ht : t = seqTE (hs.map (SArg.te G)) := by rfl) (he : starEach (e :: es) X.env = (false, eval e X.env) :: starEach es X.env := by rfl) (hpl : (backTo pos (starEach es X.env)).any (·.1) = false := by rfl) :
    PE X (.Call (.Name "min" p) (e :: es) [] pos) (TPur G (hOp hs gMin2)) :=
  p_callB (call_min2 dx.calm) hg hm bt_min rop_min2 pure_min2 ha ht (by decide) (by decide) he hpl
theorem e_min2 (dx : DX X G) (hg : Gl X "min") (hm : X.mg "min" = none) (c : Chn) (ha : PA X (e :: es) t) (ht : t = seqTE (c.tes G W) := by rfl) (hio : c.iofs.any id = false := by rfl) (he : starEach (e :: es) X.env = (false, eval e X.env) :: starEach es X.env := by rfl) (hpl : (backTo pos (starEach es X.env)).any (·.1) = false := by rfl) :
    PE X (.Call (.Name "min" p) (e :: es) [] pos) (TV G W (eOp c gMin2)) :=
  e_callB (call_min2 dx.calm) hg hm bt_min rop_min2 c ha ht hio (by decide) (by decide) he hpl
theorem p_all (dx : DX X G) (hg : Gl X "all") (hm : X.mg "all" = none) (ha : PA X (e :: es) t) (ht : t = seqTE (hs.map (SArg.te G)) := by rfl) (he : starEach (e :: es) X.env = (false, eval e X.env) :: starEach es X.env := by rfl) (hpl : (backTo pos (starEach es X.env)).any (·.1) = false := by rfl) :
    PE X (.Call (.Name "all" p) (e :: es) [] pos) (TPur G (hOp hs gAll)) :=
  p_callB (cr_all dx.calm) hg hm bt_all (by rw [dx.K]; exact rop_all) pure_all ha ht (by decide) (by decide) he hpl
theorem e_all (dx : DX X G) (hg : Gl X "all") (hm : X.mg "all" = none) (c : Chn) (ha : PA X (e :: es) t) (ht : t = seqTE (c.tes G W) := by rfl) (hio : c.iofs.any id = false := by rfl) (he : starEach (e :: es) X.env = (false, eval e X.env) :: starEach es X.env := by rfl) (hpl : (backTo pos (starEach es X.env)).any (·.1) = false := by rfl) :
    PE X (.Call (.Name "all" p) (e :: es) [] pos) (TV G W (eOp c gAll)) :=
  e_callB (cr_all dx.calm) hg hm bt_all (by rw [dx.K]; exact rop_all) c ha ht hio (by decide) (by decide) he hpl
theorem p_any (dx : DX X G) (hg : Gl X "any") (hm : X.mg "any" = none) (ha : PA X (e :: es) t) (ht : t = seqTE (hs.map (SArg.te G)) := by rfl) (he : starEach (e :: es) X.env = (false, eval e X.env) :: starEach es X.env := by rfl) (hpl : (backTo pos (starEach es X.env)).any (·.1) = false := by rfl) :
    PE X (.Call (.Name "any" p) (e :: es) [] pos) (TPur G (hOp hs gAny)) :=
  p_callB (cr_any dx.calm) hg hm bt_any (by rw [dx.K]; exact rop_any) pure_any ha ht (by decide) (by decide) he hpl
theorem e_any (dx : DX X G) (hg : Gl X "any") (hm : X.mg "any" = none) (c : Chn) (ha : PA X (e :: es) t) (ht : t = seqTE (c.tes G W) := by rfl) (hio : c.iofs.any id = false := by rfl) (he : starEach (e :: es) X.env = (false, eval e X.env) :: starEach es X.env := by rfl) (hpl : (backTo pos (starEach es X.env)).any (·.1) = false := by rfl) :
    PE X (.Call (.Name "any" p) (e :: es) [] pos) (TV G W (eOp c gAny)) :=
  e_callB (cr_any dx.calm) hg hm bt_any (by rw [dx.K]; exact rop_any) c ha ht hio (by decide) (by decide) he hpl
theorem p_abs (dx : DX X G) (hg : Gl X "abs") (hm : X.mg "abs" = none) (ha : PA X (e :: es) t) (ht : t = seqTE (hs.map (SArg.te G)) := by rfl) (he : starEach (e :: es) X.env = (false, eval e X.env) :: starEach es X.env := by rfl) (hpl : (backTo pos (starEach es X.env)).any (·.1) = false := by rfl) :
    PE X (.Call (.Name "abs" p) (e :: es) [] pos) (TPur G (hOp hs gAbs)) :=
  p_callB call_abs hg hm bt_abs rop_abs pure_abs ha ht (by decide) (by decide) he hpl
theorem e_abs (dx : DX X G) (hg : Gl X "abs") (hm : X.mg "abs" = none) (c : Chn) (ha : PA X (e :: es) t) (ht : t = seqTE (c.tes G W) := by rfl) (hio : c.iofs.any id = false := by rfl) (he : starEach (e :: es) X.env = (false, eval e X.env) :: starEach es X.env := by rfl) (hpl : (backTo pos (starEach es X.env)).any (·.1) = false := by rfl) :
    PE X (.Call (.Name "abs" p) (e :: es) [] pos) (TV G W (eOp c gAbs)) :=
  e_callB call_abs hg hm bt_abs rop_abs c ha ht hio (by decide) (by decide) he hpl
theorem p_int1 (dx : DX X G) (hg : Gl X "int") (hm : X.mg "int" = none) (ha : PA X (e :: es) t) (ht : t = seqTE (hs.map (SArg.te G)) := by rfl) (he : starEach (e :: es) X.env = (false, eval e X.env) :: starEach es X.env := by rfl) (hpl : (backTo pos (starEach es X.env)).any (·.1) = false := by rfl) :
    PE X (.Call (.Name "int" p) (e :: es) [] pos) (TPur G (hOp hs gInt)) :=
  p_callT call_int1 hg hm bt_int rop_int1 pure_int1 ha ht (by decide) (by decide) he hpl
theorem e_int1 (dx : DX X G) (hg : Gl X "int") (hm : X.mg "int" = none) (c : Chn) (ha : PA X (e :: es) t) (ht : t = seqTE (c.tes G W) := by rfl) (hio : c.iofs.any id = false := by rfl) (he : starEach (e :: es) X.env = (false, eval e X.env) :: starEach es X.env := by rfl) (hpl : (backTo pos (starEach es X.env)).any (·.1) = false := by rfl) :
    PE X (.Call (.Name "int" p) (e :: es) [] pos) (TV G W (eOp c gInt)) :=
  e_callT call_int1 hg hm bt_int rop_int1 c ha ht hio (by decide) (by decide) he hpl
theorem p_str1 (dx : DX X G) (hg : Gl X "str") (hm : X.mg "str" = none) (ha : PA X (e :: es) t) (ht : t = seqTE (hs.map (SArg.te G)) := by rfl) (he : starEach (e :: es) X.env = (false, eval e X.env) :: starEach es X.env := by rfl) (hpl : (backTo pos (starEach es X.env)).any (·.1) = false := by rfl) :
    PE X (.Call (.Name "str" p) (e :: es) [] pos) (TPur G (hOp hs gStr)) :=
  p_callT call_str_int hg hm bt_str rop_str1 pure_str1 ha ht (by decide) (by decide) he hpl
theorem e_str1 (dx : DX X G) (hg : Gl X "str") (hm : X.mg "str" = none) (c : Chn) (ha : PA X (e :: es) t) (ht : t = seqTE (c.tes G W) := by rfl) (hio : c.iofs.any id = false := by rfl) (he : starEach (e :: es) X.env = (false, eval e X.env) :: starEach es X.env := by rfl) (hpl : (backTo pos (starEach es X.env)).any (·.1) = false := by rfl) :
    PE X (.Call (.Name "str" p) (e :: es) [] pos) (TV G W (eOp c gStr)) :=
  e_callT call_str_int hg hm bt_str rop_str1 c ha ht hio (by decide) (by decide) he hpl
theorem e_listOf (dx : DX X G) (hg : Gl X "list") (hm : X.mg "list" = none) (c : Chn) (ha : PA X (e :: es) t) (ht : t = seqTE (c.tes G W) := by rfl) (hio : c.iofs.any id = false := by rfl) (he : starEach (e :: es) X.env = (false, eval e X.env) :: starEach es X.env := by rfl) (hpl : (backTo pos (starEach es X.env)).any (·.1) = false := by rfl) :
    PE X (.Call (.Name "list" p) (e :: es) [] pos) (TV G W (eOp c gListOf)) :=
  e_callT call_list_of hg hm bt_list (by rw [dx.K]; exact rop_listOf) c ha ht hio (by decide) (by decide) he hpl
theorem p_tupOf (dx : DX X G) (hg : Gl X "tuple") (hm : X.mg "tuple" = none) (ha : PA X (e :: es) t) (ht : t = seqTE (hs.map (SArg.te G)) := by rfl) (he : starEach (e :: es) X.env = (false, eval e X.env) :: starEach es X.env := by rfl) (hpl : (backTo pos (starEach es X.env)).any (·.1) = false := by rfl) :
    PE X (.Call (.Name "tuple" p) (e :: es) [] pos) (TPur G (hOp hs gTupOf)) :=
  p_callT call_tuple_of hg hm bt_tuple (by rw [dx.K]; exact rop_tupOf) pure_tupOf ha ht (by decide) (by decide) he hpl
theorem e_tupOf (dx : DX X G) (hg : Gl X "tuple") (hm : X.mg "tuple" = none) (c : Chn) (ha : PA X (e :: es) t) (ht : t = seqTE (c.tes G W) := by rfl) (hio : c.iofs.any id = false := by rfl) (he : starEach (e :: es) X.env = (false, eval e X.env) :: starEach es X.env := by rfl) (hpl : (backTo pos (starEach es X.env)).any (·.1) = false := by rfl) :
    PE X (.Call (.Name "tuple" p) (e :: es) [] pos) (TV G W (eOp c gTupOf)) :=
  e_callT call_tuple_of hg hm bt_tuple (by rw [dx.K]; exact rop_tupOf) c ha ht hio (by decide) (by decide) he hpl
end
end DL

namespace DL
open PySem PySem.Spec PyProof.Rows L2
/-! ### forms by what stands on both sides -/
section
variable {G : Gc} {W : Wsh} {X : Cx} {a b e : Expr} {pos : Pos} {h k : DEnv → Option D} {g : List D → Option D} {r : R2} {op : Operator} {i j : Nat} {u v : DEnv → Option D} {cop : CmpOp}
theorem p_binPP (ho : OpR X (binaryOp op) r) (hr : ROp G (l2 r) g) (hp : PureG g) (ha : PE X a (TPur G h)) (hb : PE X b (TPur G k)) : PE X (.BinOp a op b pos) (TPur G (hOp [.pur h, .pur k] g)) := p_bin (s1 := .pur h) (s2 := .pur k) ho hr hp ha hb
theorem p_unP {op : UnaryOp} {r : V → Hp → VK → Prop} (ho : UnR X (unaryOp op) r) (hr : ROp G (l1 r) g) (hp : PureG g) (ha : PE X a (TPur G h)) : PE X (.UnaryOp op a pos) (TPur G (hOp [.pur h] g)) := p_un (s1 := .pur h) ho hr hp ha
theorem p_cmpPP (ho : OpR X (compareOp cop) r) (hr : ROp G (l2 r) g) (hp : PureG g) (ha : PE X a (TPur G h)) (hb : PE X b (TPur G k)) (hm : behindInMarks cop b = false := by first | exact nomark _ | rfl) : PE X (.Compare a [cop] [b] pos) (TPur G (hOp [.pur h, .pur k] g)) := p_cmp (s1 := .pur h) (s2 := .pur k) ho hr hp ha hb hm
theorem p_cmpPL (ho : OpR X (compareOp cop) r) (hr : ROp G (l2 r) g) (hp : PureG g) (ha : PE X a (TPur G h)) (hb : PE X b (TPlc G j v)) (hm : behindInMarks cop b = false := by first | exact nomark _ | rfl) : PE X (.Compare a [cop] [b] pos) (TPur G (hOp [.pur h, .plc j v] g)) := p_cmp (s1 := .pur h) (s2 := .plc j v) ho hr hp ha hb hm
theorem p_cmpLP (ho : OpR X (compareOp cop) r) (hr : ROp G (l2 r) g) (hp : PureG g) (ha : PE X a (TPlc G i u)) (hb : PE X b (TPur G k)) (hm : behindInMarks cop b = false := by first | exact nomark _ | rfl) : PE X (.Compare a [cop] [b] pos) (TPur G (hOp [.plc i u, .pur k] g)) := p_cmp (s1 := .plc i u) (s2 := .pur k) ho hr hp ha hb hm
theorem p_cmpLL (ho : OpR X (compareOp cop) r) (hr : ROp G (l2 r) g) (hp : PureG g) (ha : PE X a (TPlc G i u)) (hb : PE X b (TPlc G j v)) (hm : behindInMarks cop b = false := by first | exact nomark _ | rfl) : PE X (.Compare a [cop] [b] pos) (TPur G (hOp [.plc i u, .plc j v] g)) := p_cmp (s1 := .plc i u) (s2 := .plc j v) ho hr hp ha hb hm
theorem t_cmpPP (ho : OpR X (compareOp cop) r) (hr : ROp G (l2 r) g) (hp : PureG g) (ha : PE X a (TPur G h)) (hb : PE X b (TPur G k)) (hm : behindInMarks cop b = false := by first | exact nomark _ | rfl) : PT X (.Compare a [cop] [b] pos) (TBp G (hB (hOp [.pur h, .pur k] g))) := t_cmp (s1 := .pur h) (s2 := .pur k) ho hr hp ha hb hm
theorem t_cmpPL (ho : OpR X (compareOp cop) r) (hr : ROp G (l2 r) g) (hp : PureG g) (ha : PE X a (TPur G h)) (hb : PE X b (TPlc G j v)) (hm : behindInMarks cop b = false := by first | exact nomark _ | rfl) : PT X (.Compare a [cop] [b] pos) (TBp G (hB (hOp [.pur h, .plc j v] g))) := t_cmp (s1 := .pur h) (s2 := .plc j v) ho hr hp ha hb hm
theorem t_cmpLP (ho : OpR X (compareOp cop) r) (hr : ROp G (l2 r) g) (hp : PureG g) (ha : PE X a (TPlc G i u)) (hb : PE X b (TPur G k)) (hm : behindInMarks cop b = false := by first | exact nomark _ | rfl) : PT X (.Compare a [cop] [b] pos) (TBp G (hB (hOp [.plc i u, .pur k] g))) := t_cmp (s1 := .plc i u) (s2 := .pur k) ho hr hp ha hb hm
theorem t_cmpLL (ho : OpR X (compareOp cop) r) (hr : ROp G (l2 r) g) (hp : PureG g) (ha : PE X a (TPlc G i u)) (hb : PE X b (TPlc G j v)) (hm : behindInMarks cop b = false := by first | exact nomark _ | rfl) : PT X (.Compare a [cop] [b] pos) (TBp G (hB (hOp [.plc i u, .plc j v] g))) := t_cmp (s1 := .plc i u) (s2 := .plc j v) ho hr hp ha hb hm
theorem p_ixPP (dx : DX X G) (ha : PE X a (TPur G h)) (hb : PE X b (TPur G k)) (hs : PlainIx b := by exact fun _ _ => rfl) : PE X (.Subscript a b pos) (TPur G (hOp [.pur h, .pur k] gIx)) := p_ixo (s1 := .pur h) (s2 := .pur k) dx ha hb hs
theorem hu_eq (dx : DX X G) : X.A.units + 65 < cLine := by have := dx.un; omega
theorem hu_eq1 (dx : DX X G) : X.A.units + 64 < cLine := by have := dx.un; omega
end
/-- the law's own promise -/
theorem cut_nil {H : Hp} : cut H [] = H := by
  funext a
  unfold cut
  rw [if_neg (by simp)]
theorem law_sp {K : PySem.W.Frag} {cl : Str → Option Addr} {F : Fn} {H : Hp} {a : Addr} {ns : List Int} (hS : SqL K H a (ns.map V.int)) (hF : F [.scr ns] = .ok (.bl true, [])) : spD ⟨K, cl⟩ [.b] F [.ref a] H (fun v _ => v = .bl true) fun _ _ _ => False := by
  refine ⟨[(false, .scr ns)], [], fun _ => none, rfl, ⟨.ref a, [], [], [], rfl, rfl, ⟨⟨rfl, a, rfl, by rw [cut_nil]; exact hS⟩, rfl⟩, rfl, rfl⟩, List.nodup_nil, (fun b u e => by cases e), (fun b m => by cases m), fun _ => rfl, ?_⟩
  show match F [.scr ns] with
    | .ok (r, outs) => _
    | .exc c => _
    | .bad => False
  rw [hF]
  intro v H' Z' A _ _ _ _ ho _ _ _
  obtain ⟨v', r, F1, F2, e1, e2, h1, h2⟩ := ho
  cases e1
  exact h1.1
end DL

/-! methods that only tell; tuples of the plain kind; sorted -/
namespace DL
open PySem PySem.Spec PyProof.Rows L2
/-- the built-in type whose methods the data have -/
def tyD (T : String) (d : D) : Bool := match d with
  | .str _ => T == "str"
  | .tupF true _ => T == "tuple"
  | .lst _ => T == "list"
  | .scr _ => T == "list"
  | .dk _ _ => T == "dict"
  | .dt _ _ => T == "dict"
  | _ => false
section
variable {G : Gc} {W : Wsh} {X : Cx}
theorem tyD_ok {H : Hp} {d : D} {v : V} {T : String} (h : Own G H H d v []) (t : tyD T d = true) : tyW G.K T v H := by
  cases d with
  | str s => rw [h.1]; exact .inl (beq_iff_eq.mp t)
  | tupF f xs =>
    cases f with
    | false => cases t
    | true =>
      obtain ⟨a, vs, rfl, ⟨o, hd, e⟩, _⟩ := h
      exact .inr ⟨beq_iff_eq.mp t, a, vs, rfl, o, hd, e⟩
  | lst xs =>
    obtain ⟨a, vs, rfl, hs, _⟩ := h.lstR
    exact .inl (.inl ⟨beq_iff_eq.mp t, vs, hs⟩)
  | scr ns =>
    obtain ⟨_, a, rfl, hs⟩ := h
    exact .inl (.inl ⟨beq_iff_eq.mp t, _, hs⟩)
  | dk ks vs =>
    obtain ⟨a, ws, F', rfl, _, n, _⟩ := h
    rcases n with ⟨e, _⟩ | ⟨z, _⟩
    · exact .inl (.inr (.inr (.inl ⟨beq_iff_eq.mp t, .inl ⟨_, e⟩⟩)))
    · cases z
  | dt ks vs =>
    obtain ⟨a, ws, F', rfl, _, n, _⟩ := h
    rcases n with ⟨e, _⟩ | ⟨z, _⟩
    · exact .inl (.inr (.inr (.inl ⟨beq_iff_eq.mp t, .inr ⟨_, e⟩⟩)))
    · cases z
  | _ => cases t
theorem put_ty {h : DEnv → Option D} {T : String} {σ : L2.St} {H : Hp} {Q : VK} (q : (SArg.put h (tyD T)).te G σ H Q) : TPur G h σ H fun v H1 => tyW G.K T v H1 ∧ Q v H1 := by
  obtain ⟨B, Z, Fs, env, g, d, hd, ht, q⟩ := q
  exact ⟨B, Z, Fs, env, g, d, hd, fun v H' hs hp ho => ⟨tyD_ok (ho H') ht, q v H' hs hp ho⟩⟩
theorem plt_ty {i : Nat} {h : DEnv → Option D} {T : String} {σ : L2.St} {H : Hp} {Q : VK} (q : (SArg.plt i h (tyD T)).te G σ H Q) : TPlc G i h σ H fun v H1 => tyW G.K T v H1 ∧ Q v H1 := by
  obtain ⟨B, Z, Fs, env, g, d, hd, ht, q⟩ := q
  exact ⟨B, Z, Fs, env, g, d, hd, fun v H' hs ho => ⟨tyD_ok (Own.rep (joi_le (lay_le (g.sb.trans hs)) (g.sz.trans hs)) _ _ _ ho) ht, q v H' hs ho⟩⟩
variable {o e : Expr} {es : List Expr} {t : TA} {name : Str} {apos cpos : Pos} {T id' : String} {r : V → List V → Hp → VK → Prop} {h : DEnv → Option D} {i : Nat} {hs : List SArg} {g : List D → Option D}
theorem p_mtP (dx : DX X G) (pa : PlainAttrs T) (slot : PySem.Slot T name id') (hty : typeOf (.builtin id') = pure (.type "method_descriptor")) (hm : MtR X id' r) (hr : ROp G (rvM r) g) (hp : PureG g) (ho : PE X o (TPur G h)) (ha : PA X (e :: es) t)
    (ht : t = seqTE (hs.map (SArg.te G)) := by rfl) (hbase : attributeBase o name X.env (eval o X.env) = eval o X.env := by rfl)
    (hfew : ((backTo cpos (starEach (e :: es) X.env)).all (fun x => !x.1) && (backToKw cpos (keywordEach [] X.env)).all (fun x => x.1.isSome)
      && decide ((e :: es).length + ([] : List Keyword).length + (if ([] : List Keyword).isEmpty then 0 else 1) < 30)) = true := by rfl)
    (hline : (apos.endLine == cpos.line) = true := by rfl) (hst : starEach (e :: es) X.env = (false, eval e X.env) :: starEach es X.env := by rfl) (hplain : (backTo cpos (starEach es X.env)).any (·.1) = false := by rfl) :
    PE X (.Call (.Attribute o name apos) (e :: es) [] cpos) (TPur G (hOp (.put h (tyD T) :: hs) g)) :=
  (pe_bw pa slot hty hm ho ha hbase hfew hline hst hplain).imp fun σ H Q q => by
    have q := put_ty (tpur_op (hs := .put h (tyD T) :: hs) hr hp σ H Q q)
    rw [← dx.K] at q
    rw [ht]
    exact q
theorem p_mtL (dx : DX X G) (pa : PlainAttrs T) (slot : PySem.Slot T name id') (hty : typeOf (.builtin id') = pure (.type "method_descriptor")) (hm : MtR X id' r) (hr : ROp G (rvM r) g) (hp : PureG g) (ho : PE X o (TPlc G i h)) (ha : PA X (e :: es) t)
    (ht : t = seqTE (hs.map (SArg.te G)) := by rfl) (hbase : attributeBase o name X.env (eval o X.env) = eval o X.env := by rfl)
    (hfew : ((backTo cpos (starEach (e :: es) X.env)).all (fun x => !x.1) && (backToKw cpos (keywordEach [] X.env)).all (fun x => x.1.isSome)
      && decide ((e :: es).length + ([] : List Keyword).length + (if ([] : List Keyword).isEmpty then 0 else 1) < 30)) = true := by rfl)
    (hline : (apos.endLine == cpos.line) = true := by rfl) (hst : starEach (e :: es) X.env = (false, eval e X.env) :: starEach es X.env := by rfl) (hplain : (backTo cpos (starEach es X.env)).any (·.1) = false := by rfl) :
    PE X (.Call (.Attribute o name apos) (e :: es) [] cpos) (TPur G (hOp (.plt i h (tyD T) :: hs) g)) :=
  (pe_bw pa slot hty hm ho ha hbase hfew hline hst hplain).imp fun σ H Q q => by
    have q := plt_ty (tpur_op (hs := .plt i h (tyD T) :: hs) hr hp σ H Q q)
    rw [← dx.K] at q
    rw [ht]
    exact q

/-! ### index -/
def D.strs : List D → Option (List Str)
  | [] => some []
  | .str s :: r => (D.strs r).map (s :: ·)
  | _ => none
theorem map_some2 {α β : Type} {x : Option α} {f : α → β} {b : β} (h : x.map f = some b) : ∃ a, x = some a ∧ f a = b := by
  cases x with
  | none => cases h
  | some a => exact ⟨a, rfl, Option.some.inj h⟩
theorem strs_own {Z H : Hp} : ∀ {ds : List D} {vs : List V} {zs : List Str} {F : List Addr}, D.strs ds = some zs → OwnL G Z H ds vs F → vs = zs.map V.str
  | [], _, _, _, e, h => by
    cases e
    rw [h.1]; rfl
  | d :: ds, vs, zs, F, e, h => by
    obtain ⟨v, r, F1, F2, rfl, _, h1, h2⟩ := h
    cases d with
    | str s =>
      obtain ⟨zs', e', rfl⟩ := map_some2 (show (D.strs ds).map (s :: ·) = some zs from e)
      rw [strs_own e' h2, h1.1]
      rfl
    | _ => cases e
theorem bind_some2 {α β : Type} {x : Option α} {f : α → Option β} {b : β} (h : x.bind f = some b) : ∃ a, x = some a ∧ f a = some b := by
  cases x with
  | none => cases h
  | some a => exact ⟨a, rfl, h⟩
def fTIx (a b : D) : Option D := match a, b with
  | .tupF true xs, .str z => (D.strs xs).bind fun ys => (ys.findIdx? (· == z)).map fun (j : Nat) => D.int (j : Int)
  | _, _ => none
abbrev gTIx := bin fTIx
def fSIx (a b : D) : Option D := match a, b with
  | .str x, .str y => match Builtin.Str.occurrences x y 0 x.length 1 with
    | i :: _ => some (.int (i : Nat))
    | [] => none
  | _, _ => none
abbrev gSIx := bin fSIx
def fLIx (a b : D) : Option D := match a with
  | .lst xs => (D.pyL xs).bind fun ps => b.py.bind fun p => if SeqAt.shaped (.list ps) = true ∧ SeqAt.shaped p = true then (ps.findIdx? fun z => PyData.eqv z p).map fun (j : Nat) => D.int (j : Int) else none
  | _ => none
abbrev gLIx := bin fLIx
theorem rop_tIx {Y : Cx} (hY : Y.K = G.K) : ROp G (rvM (fun x xs H Q => ∃ p, ∃ ys : List Str, ∃ z j, x = .ref p ∧ xs = [.str z] ∧ SqT Y.K H p (ys.map V.str) ∧ ys[j]? = some z ∧ (∀ m, m < j → ys[m]? ≠ some z) ∧ Q (.int (j : Nat)) H)) gTIx := by
  intro ds vs H Q d h e q
  obtain ⟨a, b, rfl, e⟩ := bin_some e
  obtain ⟨x, y, rfl, h1, h2⟩ := own2 h
  replace e : fTIx a b = some d := e
  unfold fTIx at e
  split at e
  · rename_i xs z _
    obtain ⟨ys, hy, e⟩ := bind_some2 e
    obtain ⟨j, hj, rfl⟩ := map_some2 e
    obtain ⟨hl, hz, hno⟩ := List.findIdx?_eq_some_iff_getElem.mp hj
    obtain ⟨p, ws, rfl, hs, o⟩ := h1
    have := strs_own hy o
    subst this
    refine ⟨p, ys, z, j, rfl, by rw [h2.1], by rw [hY]; exact hs.seq, by rw [List.getElem?_eq_getElem hl]; exact congrArg some (beq_iff_eq.mp hz), fun m hm e => ?_, done0 q fun Z => ⟨rfl, rfl⟩⟩
    obtain ⟨h3, h4⟩ := List.getElem?_eq_some_iff.mp e
    exact hno m hm (beq_iff_eq.mpr h4)
  · cases e
theorem pure_tIx : PureG gTIx := by
  intro ds d e
  obtain ⟨a, b, rfl, e⟩ := bin_some e
  replace e : fTIx a b = some d := e
  unfold fTIx at e
  split at e
  · obtain ⟨ys, hy, e⟩ := bind_some2 e
    obtain ⟨j, hj, rfl⟩ := map_some2 e
    rfl
  · cases e
theorem rop_sIx : ROp G (rvM (fun x xs H Q => ∃ a b i rest, x = .str a ∧ xs = [.str b] ∧ Builtin.Str.occurrences a b 0 a.length 1 = i :: rest ∧ Q (.int (i : Nat)) H)) gSIx := by
  intro ds vs H Q d h e q
  obtain ⟨a, b, rfl, e⟩ := bin_some e
  obtain ⟨x, y, rfl, h1, h2⟩ := own2 h
  replace e : fSIx a b = some d := e
  unfold fSIx at e
  split at e
  · rename_i u z _
    split at e
    · rename_i i l hi
      cases e
      exact ⟨u, z, i, l, by rw [h1.1], by rw [h2.1], hi, done0 q fun Z => ⟨rfl, rfl⟩⟩
    · cases e
  · cases e
theorem pure_sIx : PureG gSIx := by
  intro ds d e
  obtain ⟨a, b, rfl, e⟩ := bin_some e
  replace e : fSIx a b = some d := e
  unfold fSIx at e
  split at e
  · split at e
    · cases e; rfl
    · cases e
  · cases e
theorem rop_lIx {Y : Cx} (hY : Y.K = G.K) : ROp G (rvM (rIndexD Y.K)) gLIx := by
  intro ds vs H Q d h e q
  obtain ⟨a, b, rfl, e⟩ := bin_some e
  obtain ⟨x, y, rfl, h1, h2⟩ := own2 h
  replace e : fLIx a b = some d := e
  unfold fLIx at e
  split at e
  · rename_i xs _
    obtain ⟨ps, hps, e⟩ := bind_some2 e
    obtain ⟨p, hp, e⟩ := bind_some2 e
    split at e
    · rename_i hsh
      obtain ⟨j, hj, rfl⟩ := map_some2 e
      obtain ⟨hl, hz, hno⟩ := List.findIdx?_eq_some_iff_getElem.mp hj
      have hd : Dp G.K H x (.list ps) := Own.dp (.lst xs) x (.list ps) h1 (by show (D.pyL xs).map PyData.list = _; rw [hps]; rfl)
      obtain ⟨l, ws, rfl, hs, o⟩ := h1.lstR
      rw [← hY] at hd
      refine ⟨l, y, p, ps, j, ps[j], rfl, rfl, hd, by rw [hY]; exact Own.dp b y p h2 hp, hsh.1, hsh.2, List.getElem?_eq_getElem hl, hz, fun m z' hm e => ?_, done0 q fun Z => ⟨rfl, rfl⟩⟩
      obtain ⟨h3, h4⟩ := List.getElem?_eq_some_iff.mp e
      have h5 := hno m hm
      rw [h4] at h5
      exact Bool.eq_false_iff.mpr h5
    · cases e
  · cases e
theorem pure_lIx : PureG gLIx := by
  intro ds d e
  obtain ⟨a, b, rfl, e⟩ := bin_some e
  replace e : fLIx a b = some d := e
  unfold fLIx at e
  split at e
  · obtain ⟨ps, hps, e⟩ := bind_some2 e
    obtain ⟨p, hp, e⟩ := bind_some2 e
    split at e
    · obtain ⟨j, hj, rfl⟩ := map_some2 e
      rfl
    · cases e
  · cases e
theorem p_tIx (dx : DX X G) (ho : PE X o (TPur G h)) (ha : PA X (e :: es) t)
    (ht : t = seqTE (hs.map (SArg.te G)) := by rfl) (hbase : attributeBase o "index" X.env (eval o X.env) = eval o X.env := by rfl)
    (hfew : ((backTo cpos (starEach (e :: es) X.env)).all (fun x => !x.1) && (backToKw cpos (keywordEach [] X.env)).all (fun x => x.1.isSome)
      && decide ((e :: es).length + ([] : List Keyword).length + (if ([] : List Keyword).isEmpty then 0 else 1) < 30)) = true := by rfl)
    (hline : (apos.endLine == cpos.line) = true := by rfl) (hst : starEach (e :: es) X.env = (false, eval e X.env) :: starEach es X.env := by rfl) (hplain : (backTo cpos (starEach es X.env)).any (·.1) = false := by rfl) :
    PE X (.Call (.Attribute o "index" apos) (e :: es) [] cpos) (TPur G (hOp (.put h (tyD "tuple") :: hs) gTIx)) :=
  p_mtP dx F.plainAttrs_tuple F.slot_tuple_index F.type_tuple_index mt_tup_index (rop_tIx dx.K) pure_tIx ho ha ht hbase hfew hline hst hplain
theorem p_sIx (dx : DX X G) (ho : PE X o (TPur G h)) (ha : PA X (e :: es) t)
    (ht : t = seqTE (hs.map (SArg.te G)) := by rfl) (hbase : attributeBase o "index" X.env (eval o X.env) = eval o X.env := by rfl)
    (hfew : ((backTo cpos (starEach (e :: es) X.env)).all (fun x => !x.1) && (backToKw cpos (keywordEach [] X.env)).all (fun x => x.1.isSome)
      && decide ((e :: es).length + ([] : List Keyword).length + (if ([] : List Keyword).isEmpty then 0 else 1) < 30)) = true := by rfl)
    (hline : (apos.endLine == cpos.line) = true := by rfl) (hst : starEach (e :: es) X.env = (false, eval e X.env) :: starEach es X.env := by rfl) (hplain : (backTo cpos (starEach es X.env)).any (·.1) = false := by rfl) :
    PE X (.Call (.Attribute o "index" apos) (e :: es) [] cpos) (TPur G (hOp (.put h (tyD "str") :: hs) gSIx)) :=
  p_mtP dx F.plainAttrs_str F.slot_str_index F.type_str_index mt_sindex rop_sIx pure_sIx ho ha ht hbase hfew hline hst hplain
theorem p_lIx (dx : DX X G) (ho : PE X o (TPlc G i h)) (ha : PA X (e :: es) t)
    (ht : t = seqTE (hs.map (SArg.te G)) := by rfl) (hbase : attributeBase o "index" X.env (eval o X.env) = eval o X.env := by rfl)
    (hfew : ((backTo cpos (starEach (e :: es) X.env)).all (fun x => !x.1) && (backToKw cpos (keywordEach [] X.env)).all (fun x => x.1.isSome)
      && decide ((e :: es).length + ([] : List Keyword).length + (if ([] : List Keyword).isEmpty then 0 else 1) < 30)) = true := by rfl)
    (hline : (apos.endLine == cpos.line) = true := by rfl) (hst : starEach (e :: es) X.env = (false, eval e X.env) :: starEach es X.env := by rfl) (hplain : (backTo cpos (starEach es X.env)).any (·.1) = false := by rfl) :
    PE X (.Call (.Attribute o "index" apos) (e :: es) [] cpos) (TPur G (hOp (.plt i h (tyD "list") :: hs) gLIx)) :=
  p_mtL dx F.plainAttrs_list F.slot_list_index F.type_list_index (mt_indexD (by have := dx.un; omega)) (rop_lIx dx.K) pure_lIx ho ha ht hbase hfew hline hst hplain

/-! ### tuple(list), known to be plain -/
def fTupX (d : D) : Option D := match d with
  | .lst xs => iff? (D.pureL xs = true) (.tupF true xs)
  | _ => none
abbrev gTupX := una fTupX
theorem fTupX_some {a d : D} (e : fTupX a = some d) : ∃ xs, D.pureL xs = true ∧ a = .lst xs ∧ d = .tupF true xs := by
  cases a with
  | lst xs => obtain ⟨h, rfl⟩ := iff?_some e; exact ⟨xs, h, rfl, rfl⟩
  | _ => cases e
theorem rop_tupX : ROp G (rTupX G.K) gTupX := by
  intro ds vs H Q d h e q
  obtain ⟨a, rfl, e⟩ := una_some e
  obtain ⟨x, rfl, h1⟩ := own1 h
  obtain ⟨xs, hp, rfl, rfl⟩ := fTupX_some e
  obtain ⟨p, ys, rfl, hs, o⟩ := h1.lstR
  refine ⟨p, ys, rfl, hs, fun l ob hn hd => q _ _ [] (same_upd hn) (fun Z => ?_) List.nodup_nil fun b m => by cases m⟩
  exact ⟨l, ys, rfl, ⟨ob, hd, upd_same⟩, OwnL.keep (Same.refl Z) xs ys [] (fun b u e _ => same_upd hn b u e) (OwnL.pure_any hp o)⟩
theorem pure_tupX : PureG gTupX := by
  intro ds d e
  obtain ⟨a, rfl, e⟩ := una_some e
  obtain ⟨xs, hp, rfl, rfl⟩ := fTupX_some e
  exact hp

/-! ### sorted -/
def encD (d : D) : PyData := (d.py).getD .none
def isTup1 : PyData → Bool
  | .tuple (_ :: _) => true
  | _ => false
def isOther : PyData → Bool
  | .none => false
  | .tuple _ => false
  | _ => true
def sortB (ps : List PyData) : Bool := (ps.all fun d => ps.all fun e => PySem.W.alike d e) && (ps.all isTup1 || ps.all isOther) && ps.all fun d => decide (d.depth ≤ 60)
def sortL (xs : List D) : List D := xs.mergeSort (PySem.W.dataLe false encD)
def fSorted (d : D) : Option D := match d with
  | .lst xs => iff? (D.pureL xs = true ∧ (xs.all fun x => x.py.isSome) = true ∧ sortB (xs.map encD) = true) (.lst (sortL xs))
  | _ => none
abbrev gSorted := una fSorted
theorem OwnL.each {Y H : Hp} : ∀ {ds : List D} {vs : List V}, OwnL G Y H ds vs [] → ∀ p ∈ vs.zip ds, Own G Y H p.2 p.1 []
  | [], vs, h => by rw [h.1]; intro p m; cases m
  | d :: ds, vs, h => by
    obtain ⟨v, r, rfl, h1, h2⟩ := OwnL.uncons h
    intro p m
    rcases List.mem_cons.mp m with rfl | m
    · exact h1
    · exact OwnL.each h2 p m
theorem OwnL.of_each {Y H : Hp} : ∀ {ps : List (V × D)}, (∀ p ∈ ps, Own G Y H p.2 p.1 []) → OwnL G Y H (ps.map (·.2)) (ps.map (·.1)) []
  | [], _ => ⟨rfl, rfl⟩
  | p :: ps, h => OwnL.cons_nil (h p List.mem_cons_self) (OwnL.of_each fun q m => h q (List.mem_cons_of_mem _ m))
theorem sortB_ok {ps : List PyData} (h : sortB ps = true) : PySem.W.AllAlike ps ∧ PySem.W.Sortable ps ∧ ∀ d ∈ ps, d.depth ≤ 60 := by
  unfold sortB at h
  simp only [Bool.and_eq_true, Bool.or_eq_true, List.all_eq_true, decide_eq_true_eq] at h
  obtain ⟨⟨h1, h2⟩, h3⟩ := h
  refine ⟨fun d hd e he => h1 d hd e he, ?_, h3⟩
  rcases h2 with h2 | h2
  · refine .inl fun d hd => ?_
    have := h2 d hd
    match d, this with
    | .tuple (x :: r), _ => exact ⟨x, r, rfl⟩
  · refine .inr fun d hd => ?_
    have := h2 d hd
    refine ⟨fun e => ?_, fun xs e => ?_⟩ <;> subst e <;> cases this
theorem pureL_perm {xs ys : List D} (hp : xs.Perm ys) (h : D.pureL xs = true) : D.pureL ys = true := by
  have key : ∀ l : List D, (D.pureL l = true ↔ ∀ d ∈ l, d.pure = true) := fun l => by
    induction l with
    | nil => exact ⟨fun _ d m => (nomatch m), fun _ => rfl⟩
    | cons d r ih =>
      show (d.pure && D.pureL r) = true ↔ _
      rw [Bool.and_eq_true, ih]
      exact ⟨fun ⟨a, b⟩ d m => (List.mem_cons.mp m).elim (fun e => e ▸ a) (b d), fun z => ⟨z d List.mem_cons_self, fun e m => z e (List.mem_cons_of_mem _ m)⟩⟩
  exact (key ys).mpr fun d m => (key xs).mp h d (hp.mem_iff.mpr m)
theorem sortL_perm (xs : List D) : (sortL xs).Perm xs := List.mergeSort_perm _ _
theorem rop_sorted : ROp G (rSortD G.K) gSorted := by
  intro ds vs H Q d h e q
  obtain ⟨a, rfl, e⟩ := una_some e
  obtain ⟨x, rfl, h1⟩ := own1 h
  replace e : fSorted a = some d := e
  unfold fSorted at e
  split at e
  · rename_i xs _
    obtain ⟨⟨hp, hy, hb⟩, rfl⟩ := iff?_some e
    obtain ⟨p, ys, hv, hs, o⟩ := h1.lstR
    subst hv
    have hl : ys.length = xs.length := OwnL.length o
    have e1 : (ys.zip xs).map (·.1) = ys := List.map_fst_zip (Nat.le_of_eq hl)
    have e2 : (ys.zip xs).map (·.2) = xs := List.map_snd_zip (Nat.le_of_eq hl.symm)
    have e3 : ((ys.zip xs).map fun b => encD b.2) = xs.map encD := by
      rw [show (fun b : V × D => encD b.2) = encD ∘ (·.2) from rfl, ← List.map_map, e2]
    obtain ⟨k1, k2, k3⟩ := sortB_ok hb
    have ho := OwnL.each o
    refine ⟨D, encD, p, List.zip ys xs, rfl, by rw [e1]; exact hs, fun b m => ?_, by rw [e3]; exact k1, by rw [e3]; exact k2, fun b m => k3 _ (by rw [← e3]; exact List.mem_map.mpr ⟨b, m, rfl⟩), fun l hn => ?_⟩
    · have hb2 : b.2 ∈ xs := by rw [← e2]; exact List.mem_map.mpr ⟨b, m, rfl⟩
      have := List.all_eq_true.mp hy _ hb2
      refine Own.dp _ _ _ (ho b m) ?_
      unfold encD
      cases hh : b.2.py with
      | none => rw [hh] at this; cases this
      | some z => rfl
    · have e4 : ((ys.zip xs).mergeSort (PySem.W.dataLe false fun b => encD b.2)).map (·.2) = sortL xs := by
        have e5 := List.map_mergeSort (r := PySem.W.dataLe false fun b : V × D => encD b.2) (s := PySem.W.dataLe false encD) (f := fun b : V × D => b.2) (l := List.zip ys xs) (fun a _ b _ => rfl)
        rw [e5, e2]
        rfl
      have o2 : OwnL G H H (sortL xs) (((ys.zip xs).mergeSort (PySem.W.dataLe false fun b => encD b.2)).map (·.1)) [] := by
        rw [← e4]
        exact OwnL.of_each fun b m => ho b (List.mem_mergeSort.mp m)
      exact q _ _ [l] (same_upd hn) (fun Z => new_lst (pureL_perm (sortL_perm xs).symm hp) hn o2 Z) one_nodup fun b m => by rw [List.mem_singleton.mp m]; exact hn
  · cases e
variable {p pos : Pos}
theorem p_tupX (dx : DX X G) (hg : Gl X "tuple") (hm : X.mg "tuple" = none) (ha : PA X (e :: es) t) (ht : t = seqTE (hs.map (SArg.te G)) := by rfl) (he : starEach (e :: es) X.env = (false, eval e X.env) :: starEach es X.env := by rfl) (hpl : (backTo pos (starEach es X.env)).any (·.1) = false := by rfl) :
    PE X (.Call (.Name "tuple" p) (e :: es) [] pos) (TPur G (hOp hs gTupX)) :=
  p_callT call_tupX hg hm bt_tuple (r := rTupX X.K) (by rw [dx.K]; exact rop_tupX) pure_tupX ha ht (by decide) (by decide) he hpl
theorem e_tupX (dx : DX X G) (hg : Gl X "tuple") (hm : X.mg "tuple" = none) (c : Chn) (ha : PA X (e :: es) t) (ht : t = seqTE (c.tes G W) := by rfl) (hio : c.iofs.any id = false := by rfl) (he : starEach (e :: es) X.env = (false, eval e X.env) :: starEach es X.env := by rfl) (hpl : (backTo pos (starEach es X.env)).any (·.1) = false := by rfl) :
    PE X (.Call (.Name "tuple" p) (e :: es) [] pos) (TV G W (eOp c gTupX)) :=
  e_callT call_tupX hg hm bt_tuple (r := rTupX X.K) (by rw [dx.K]; exact rop_tupX) c ha ht hio (by decide) (by decide) he hpl
theorem e_sorted (dx : DX X G) (hg : Gl X "sorted") (hm : X.mg "sorted" = none) (c : Chn) (ha : PA X (e :: es) t) (ht : t = seqTE (c.tes G W) := by rfl) (hio : c.iofs.any id = false := by rfl) (he : starEach (e :: es) X.env = (false, eval e X.env) :: starEach es X.env := by rfl) (hpl : (backTo pos (starEach es X.env)).any (·.1) = false := by rfl) :
    PE X (.Call (.Name "sorted" p) (e :: es) [] pos) (TV G W (eOp c gSorted)) :=
  e_callB (cr_sortD (by have := dx.un; omega)) hg hm bt_sorted (r := rSortD X.K) (by rw [dx.K]; exact rop_sorted) c ha ht hio (by decide) (by decide) he hpl
end
end DL

/-! a, b = e; range with a step; enumerate; the signs of a text -/
namespace DL
open PySem PySem.Spec PyProof.Rows L2
section
variable {G : Gc} {W : Wsh} {X : Cx}
/-- values bound to names, one each, owned -/
def putsS : List Nat → List D → DEnv → Option DEnv
  | [], [], e => some e
  | i :: is, d :: ds, e => match putS i d e with
    | some e' => putsS is ds e'
    | none => none
  | _, _, _ => none
def gNames : List Nat → TGs
  | [] => gNil
  | i :: is => gCons (gName i) (gNames is)
theorem puts_len : ∀ {is : List Nat} {ds : List D} {e e' : DEnv}, putsS is ds e = some e' → ds.length = is.length
  | [], [], _, _, _ => rfl
  | [], _ :: _, _, _, h => by cases h
  | _ :: _, [], _, _, h => by cases h
  | i :: is, d :: ds, e, e', h => by
    unfold putsS at h
    split at h
    · rw [List.length_cons, List.length_cons, puts_len h]
    · cases h
theorem puts_ok {B Z H : Hp} : ∀ {is : List Nat} {ds : List D} {vs : List V} {F : List Addr} {σ : L2.St} {env e2 : DEnv} {Fs : Nat → List Addr} {Q : L2.St → Hp → Prop}, Good G B Z H σ env Fs → OwnL G Z H ds vs F → F.Nodup → (∀ a, a ∈ F → ¬ InF Fs a) → (∀ a, a ∈ F → B a = none ∧ Z a = none) → putsS is ds env = some e2 →
    (∀ σ2 Fs2, Stp G B Z H σ env (fun a => InF Fs a ∨ a ∈ F) Z H σ2 e2 Fs2 → Q σ2 H) → gNames is vs σ H Q
  | [], [], vs, F, σ, env, e2, Fs, Q, g, ho, nd, dj, fr, h, q => by
    cases h
    exact ⟨ho.1, q σ Fs (Stp.refl g fun a m => .inl m)⟩
  | [], _ :: _, _, _, _, _, _, _, _, _, _, _, _, _, h, _ => by cases h
  | _ :: _, [], _, _, _, _, _, _, _, _, _, _, _, _, h, _ => by cases h
  | i :: is, d :: ds, vs, F, σ, env, e2, Fs, Q, g, ho, nd, dj, fr, h, q => by
    obtain ⟨v, r, F1, F2, rfl, rfl, h1, h2⟩ := ho
    unfold putsS at h
    cases hp : putS i d env with
    | none => rw [hp] at h; cases h
    | some e1 =>
      rw [hp] at h
      obtain ⟨n1, n2, n3⟩ := List.nodup_append.mp nd
      have s1 : Stp G B Z H σ env (fun a => InF Fs a ∨ a ∈ F1 ++ F2) Z H (σ.set i (some v)) e1 (onF Fs i F1) := Stp.put g (fun a m => .inl m) (fun a m => .inr (List.mem_append_left _ m)) ⟨h1, n1, fun a m => dj a (List.mem_append_left _ m), fun a m => fr a (List.mem_append_left _ m)⟩ hp
      refine ⟨v, r, rfl, puts_ok (is := is) (ds := ds) s1.good h2 n2 (fun a m z => ?_) (fun a m => fr a (List.mem_append_right _ m)) h fun σ2 Fs2 s2 => q σ2 Fs2 ?_⟩
      · rcases inF_on z with z | z
        · exact n3 a z a m rfl
        · exact dj a (List.mem_append_right _ m) z
      · refine s1.trans (fun a m => .inr ?_) s2
        rcases m with m | m
        · rcases inF_on m with m | m
          · exact .inr (List.mem_append_left _ m)
          · exact .inl m
        · exact .inr (List.mem_append_right _ m)
def sUnp (is : List Nat) (f : DEnv → Out (D × DEnv)) : Stm := fun env => f env >>= fun p => match p.1.toTupA with
  | some ds => must (putsS is ds p.2) fun e => .ok (.nx e)
  | none => .bad
theorem s_unp {tg e : Expr} {pos : Pos} {n : Nat} {f : DEnv → Out (D × DEnv)} (is : List Nat) (dx : DX X G) (hn : n = is.length) (hg : PG X tg (gTup X.K n (gNames is))) (he : PE X e (TV G W f)) (hs : swapsWithSole [tg] e pos.line X.env = pure false := by rfl) (hw : swappedStores [tg] e X.env = pure none := by rfl)
    (h1 : (assignEach [tg] X.env).map (·.2) = [assign tg X.env] := by rfl) : PS X (.Assign [tg] e pos) (TSt G W (sUnp is f)) :=
  (ps_asg he hg hs hw h1).imp fun En σ H ⟨B, Z, Fs, env, gd, q⟩ => by
    refine ⟨B, Z, Fs, env, gd, ?_⟩
    unfold sUnp at q
    unfold FinV
    match f env, q with
    | .exc c, q => exact q
    | .ok (d, e'), q =>
      intro v Z' H' Fs' F p
      have q2 : FinS G W B Z H σ env (InF Fs) (match d.toTupA with
        | some ds => must (putsS is ds e') fun e => .ok (.nx e)
        | none => .bad) En := q
      clear q
      cases hd : d.toTupA with
      | none => rw [hd] at q2; exact q2.elim
      | some ds =>
        rw [hd] at q2
        cases hput : putsS is ds e' with
        | none => simp only [hput] at q2; exact q2.elim
        | some e2 =>
          simp only [hput] at q2
          replace q2 : FinS G W B Z H σ env (InF Fs) (.ok (.nx e2)) En := q2
          obtain ⟨fl, rfl⟩ := D.toTupA_some hd
          obtain ⟨a, vs, rfl, ht, o⟩ := p.one
          refine ⟨a, vs, rfl, by rw [dx.K]; exact ht.seq, by rw [OwnL.length o, puts_len hput, hn], ?_⟩
          refine puts_ok p.st.good o p.nd p.dj p.fr hput fun σ2 Fs2 s2 => ?_
          exact q2 _ _ _ _ (p.st.trans (fun a m => m.elim (p.st.new a) (p.new a)) s2)

/-! ### is, of True and False -/
def bB (f : Bool → Bool → D) (a b : D) : Option D := match a, b with
  | .bl x, .bl y => some (f x y)
  | _, _ => none
theorem bB_some {f : Bool → Bool → D} {a b d : D} (h : bB f a b = some d) : ∃ x y, a = .bl x ∧ b = .bl y ∧ d = f x y := by
  unfold bB at h
  split at h
  · cases h; exact ⟨_, _, rfl, rfl, rfl⟩
  · cases h
abbrev gIsB := bin (bB fun x y => .bl (decide (x = y)))
abbrev gNotB := bin (bB fun x y => .bl (!decide (x = y)))
theorem rop_isB : ROp G (l2 fun x y H Q => ∃ a b, x = .bl a ∧ y = .bl b ∧ Q (.bl (decide (a = b))) H) gIsB := by
  intro ds vs H Q d h e q
  obtain ⟨a, b, rfl, e⟩ := bin_some e
  obtain ⟨i, j, rfl, rfl, rfl⟩ := bB_some e
  obtain ⟨x, y, rfl, h1, h2⟩ := own2 h
  exact ⟨i, j, h1.1, h2.1, done0 q fun Z => ⟨rfl, rfl⟩⟩
theorem pure_isB : PureG gIsB := by
  intro ds d e
  obtain ⟨a, b, rfl, e⟩ := bin_some e
  obtain ⟨i, j, rfl, rfl, rfl⟩ := bB_some e
  rfl
theorem rop_notB : ROp G (l2 fun x y H Q => ∃ a b, x = .bl a ∧ y = .bl b ∧ Q (.bl (!decide (a = b))) H) gNotB := by
  intro ds vs H Q d h e q
  obtain ⟨a, b, rfl, e⟩ := bin_some e
  obtain ⟨i, j, rfl, rfl, rfl⟩ := bB_some e
  obtain ⟨x, y, rfl, h1, h2⟩ := own2 h
  exact ⟨i, j, h1.1, h2.1, done0 q fun Z => ⟨rfl, rfl⟩⟩
theorem pure_notB : PureG gNotB := by
  intro ds d e
  obtain ⟨a, b, rfl, e⟩ := bin_some e
  obtain ⟨i, j, rfl, rfl, rfl⟩ := bB_some e
  rfl

/-! ### range with a step -/
def rngC (lo c : Int) (n : Nat) : List D := (List.range n).map fun (i : Nat) => D.int (lo + (i : Int) * c)
theorem rngC_at {lo c : Int} {n i : Nat} {x : D} (h : (rngC lo c n)[i]? = some x) : i < n ∧ x = .int (lo + (i : Int) * c) := by
  unfold rngC at h
  rw [List.getElem?_map] at h
  by_cases hi : i < n
  · rw [List.getElem?_range hi] at h
    exact ⟨hi, (Option.some.inj h).symm⟩
  · rw [List.getElem?_eq_none (by simpa using hi)] at h
    cases h
def mkRange3 : List D → Option (List D)
  | [.int i, .int j, .int k] => if k ≠ 0 ∧ k.natAbs < 1073741824 ∧ Builtin.Range.small i j k = true then some (rngC i k (Builtin.Range.rangeSize i j k).toNat) else none
  | _ => none
theorem range3_fits : fits G (fun vs H R => ∃ (i j k : Int) (n : Nat), vs = [.int i, .int j, .int k] ∧ RgC i j k n ∧ R (Itc i k n) H) mkRange3 := by
  intro ds vs Y H xs R ho hy hx q
  unfold mkRange3 at hx
  split at hx
  · rename_i i j k
    split at hx
    · rename_i hr
      cases hx
      obtain ⟨x, y, z, rfl, h1, h2, h3⟩ : ∃ x y z, vs = [x, y, z] ∧ x = V.int i ∧ y = V.int j ∧ z = V.int k := by
        obtain ⟨x, r, rfl, h1, h2⟩ := OwnL.uncons ho
        obtain ⟨y, r, rfl, h3, h4⟩ := OwnL.uncons h2
        obtain ⟨z, r, rfl, h5, h6⟩ := OwnL.uncons h4
        obtain ⟨rfl, _⟩ := h6
        exact ⟨x, y, z, rfl, h1.1, h3.1, h5.1⟩
      subst h1 h2 h3
      refine ⟨i, j, k, _, rfl, ⟨hr.1, hr.2.1, hr.2.2, rangeSize_toNat i j k⟩, q _ H (Same.refl H) fun m H' y t => ⟨fun x e => ?_, fun hl => ?_⟩⟩
      · obtain ⟨hi, rfl⟩ := rngC_at e
        refine ⟨hi, fun v H2 yy => ?_⟩
        obtain ⟨rfl, rfl⟩ := yy
        exact ⟨Same.refl _, rfl, rfl⟩
      · have hl : m = (rngC i k (Builtin.Range.rangeSize i j k).toNat).length := hl
        unfold rngC at hl
        rw [List.length_map, List.length_range] at hl
        exact Nat.le_of_eq hl.symm
    · cases hx
  · cases hx
theorem i_range3 {tg a b c : Expr} {ta : TA} {p pos : Pos} (ops : List Opn) (hg : Gl X "range") (hm : X.mg "range" = none) (ha : PA X [a, b, c] ta) (ht : ta = seqTE (ops.map (Opn.te G W)) := by rfl)
    (hs : starEach [a, b, c] X.env = (false, eval a X.env) :: starEach [b, c] X.env := by rfl) (hpl : (backTo pos (starEach [b, c] X.env)).any (·.1) = false := by rfl) : PI X tg (.Call (.Name "range" p) [a, b, c] [] pos) (TSrc G W ops mkRange3) :=
  src_ok range3_fits (by subst ht; exact pi_range3 hg hm ha hs hpl)

/-! ### enumerate -/
def enumD : Nat → List D → List D
  | _, [] => []
  | i, x :: xs => .tup [.int (i : Int), x] :: enumD (i + 1) xs
theorem enumD_at : ∀ (k : Nat) (xs : List D) (i : Nat) (z : D), (enumD k xs)[i]? = some z → ∃ x, xs[i]? = some x ∧ z = .tup [.int ((k + i : Nat) : Int), x]
  | k, [], i, z, h => by cases i <;> cases h
  | k, x :: xs, 0, z, h => ⟨x, rfl, (Option.some.inj h).symm⟩
  | k, x :: xs, i + 1, z, h => by
    obtain ⟨y, h1, h2⟩ := enumD_at (k + 1) xs i z h
    exact ⟨y, h1, by rw [h2, show k + 1 + i = k + (i + 1) from by omega]⟩
theorem enumD_length : ∀ (k : Nat) (xs : List D), (enumD k xs).length = xs.length
  | _, [] => rfl
  | k, x :: xs => by show (enumD (k + 1) xs).length + 1 = _; rw [enumD_length]; rfl
def mkEnum : List D → Option (List D)
  | [.lst xs] => some (enumD 0 xs)
  | _ => none
theorem enum_fits : fits G (fun vs H R => ∃ a xs, vs = [.ref a] ∧ SqL G.K H a xs ∧ R (Ite G.K a) H) mkEnum := by
  intro ds vs Y H zs R ho hy hx q
  unfold mkEnum at hx
  split at hx
  · rename_i xs
    cases hx
    obtain ⟨v, r, rfl, h1, h2⟩ := OwnL.uncons ho
    obtain ⟨rfl, _⟩ := h2
    obtain ⟨a, ws, F', rfl, n, o⟩ := h1
    have hq : ∀ H' : Hp, Same Y H' → SqL G.K H' a ws := fun H' y => by
      rcases n with ⟨h1 | ⟨ob, h1⟩, _⟩ | ⟨z, _⟩
      · exact SqL.of (y _ _ h1)
      · exact .inl (.inr ⟨ob, y _ _ h1⟩)
      · cases z
    have hF : F' = [] := by
      rcases n with ⟨_, _, e⟩ | ⟨z, _⟩
      · exact e
      · cases z
    subst hF
    refine ⟨a, ws, rfl, hq H hy, q _ H (Same.refl H) fun i H' y t => ⟨fun z e => ?_, fun hl => ?_⟩⟩
    · obtain ⟨dx, e1, rfl⟩ := enumD_at _ _ _ _ e
      obtain ⟨vx, ex, hvx⟩ := OwnL.at o e1
      refine ⟨⟨ws, vx, hq H' y, ex⟩, fun w H2 yy => ?_⟩
      obtain ⟨T, x', rfl, hT, eH, f1⟩ := yy
      have q1 := f1 ws (hq H' y)
      rw [ex] at q1
      cases q1
      rw [Nat.zero_add]
      exact pair_new hT eH ⟨rfl, rfl⟩ (Own.keepT (Same.refl Y) t hvx)
    · rw [enumD_length] at hl
      exact ⟨ws, hq H' y, by rw [OwnL.length o]; exact Nat.le_of_eq hl.symm⟩
  · cases hx
theorem i_enum {elts : List Expr} {kk : Nat} {tpos : Pos} {e : Expr} {ta : TA} {p pos : Pos} (ops : List Opn) (dx : DX X G) (hg : Gl X "enumerate") (hm : X.mg "enumerate" = none) (ha : PA X [e] ta) (ht : ta = seqTE (ops.map (Opn.te G W)) := by rfl) (hs : starEach [e] X.env = [(false, eval e X.env)] := by rfl) :
    PI X (.Tuple elts kk tpos) (.Call (.Name "enumerate" p) [e] [] pos) (TSrc G W ops mkEnum) :=
  src_ok (r := fun vs H R => ∃ a xs, vs = [.ref a] ∧ SqL X.K H a xs ∧ R (Ite X.K a) H) (by rw [dx.K]; exact enum_fits) (by subst ht; exact pi_enum hg hm ha hs)

/-! ### the signs of a text -/
def sigsD (x : Str) : List D := x.cps.toList.map fun c => .str ⟨#[c]⟩
def mkSigs : List D → Option (List D)
  | [.str x] => some (sigsD x)
  | _ => none
def rSigs : RI := fun vs H R => match vs with
  | [v] => ∃ x, v = .str x ∧ R (Its x) H
  | _ => False
theorem sigs_fits : fits G rSigs mkSigs := by
  intro ds vs Y H zs R ho hy hx q
  unfold mkSigs at hx
  split at hx
  · rename_i x
    cases hx
    obtain ⟨v, r, rfl, h1, h2⟩ := OwnL.uncons ho
    obtain ⟨rfl, _⟩ := h2
    refine ⟨x, by rw [h1.1], q _ H (Same.refl H) fun i H' y t => ⟨fun z e => ?_, fun hl => ?_⟩⟩
    · unfold sigsD at e
      rw [List.getElem?_map] at e
      obtain ⟨c, hc, rfl⟩ := map_some2 e
      have hc' : x.cps[i]? = some c := by rw [← Array.getElem?_toList]; exact hc
      refine ⟨(Array.getElem?_eq_some_iff.mp hc').1, fun v H2 yy => ?_⟩
      obtain ⟨rfl, c', h3, rfl⟩ := yy
      rw [hc'] at h3
      cases h3
      exact ⟨Same.refl _, rfl, rfl⟩
    · have hl : i = (sigsD x).length := hl
      unfold sigsD at hl
      rw [List.length_map, Array.length_toList] at hl
      exact Nat.le_of_eq hl.symm
  · cases hx
theorem i_sigs {tg e : Expr} (op : Opn) (he : PE X e (op.te G W)) : PI X tg e (TSrc G W [op] mkSigs) :=
  src_ok (r := rSigs) sigs_fits (pi_str he)
end
end DL

/-! a tuple of what others hold: x = (.., y, ..), y living on */ -/
namespace DL
open PySem PySem.Spec PyProof.Rows L2
section
variable {G : Gc} {W : Wsh} {X : Cx}
/-- read only while the rest runs -/
def bArg (env : DEnv) : SArg → Bool
  | .pur _ => true
  | .plc i _ => match env[i]? with
    | some (some (.brw, _)) => true
    | some (some (.lck, _)) => true
    | _ => false
  | _ => false
theorem evB_ok {B Z : Hp} {σ : L2.St} {env : DEnv} {Fs : Nat → List Addr} : ∀ (hs : List SArg) (ds : List D) (H : Hp) (k : List V → Hp → Prop), Good G B Z H σ env Fs → evS hs env = some ds → hs.all (bArg env) = true → (∀ vs H1, Same H H1 → OwnL G (joi B Z) H1 ds vs [] → k vs H1) → seqTE (hs.map (SArg.te G)) σ H k
  | [], ds, H, k, g, e, _, q => by
    cases e
    exact q [] H (Same.refl H) ⟨rfl, rfl⟩
  | a :: r, ds, H, k, g, e, hb, q => by
    rw [List.all_cons, Bool.and_eq_true] at hb
    have e : (match a.val env with
      | some d => match evS r env with
        | some ds => some (d :: ds)
        | none => none
      | none => none) = some ds := e
    cases ha : a.val env with
    | none => rw [ha] at e; cases e
    | some d =>
      cases hr : evS r env with
      | none => rw [ha, hr] at e; cases e
      | some ds2 =>
        rw [ha, hr] at e
        cases e
        have fin : ∀ (v : V) (H1 : Hp), Same H H1 → Own G (joi B Z) H1 d v [] → seqTE (r.map (SArg.te G)) σ H1 fun vs H2 => k (v :: vs) H2 := fun v H1 s1 o =>
          evB_ok r ds2 H1 _ (g.grow s1) hr hb.2 fun vs H2 s2 ol => q (v :: vs) H2 (s1.trans s2) (OwnL.cons_nil (Own.keepT (Same.refl _) (TK.of s2) o) ol)
        cases a with
        | pur h => exact ⟨B, Z, Fs, env, g, d, ha, fun v H1 s1 _ o => fin v H1 s1 (o _)⟩
        | plc i p =>
          refine ⟨B, Z, Fs, env, g, d, ha, fun v H1 s1 o => fin v H1 s1 ?_⟩
          have hF : Fs i = [] := by
            have s := g.sl i
            have hb1 : (match env[i]? with
              | some (some (.brw, _)) => true
              | some (some (.lck, _)) => true
              | _ => false) = true := hb.1
            unfold SlotOk at s
            split at hb1
            · rename_i e; rw [e] at s; exact s.choose_spec.2.2
            · rename_i e; rw [e] at s; exact s.choose_spec.2.2
            · cases hb1
          have : lockB B H1 Fs i = B := by
            unfold lockB
            rw [hF, lay_nil]
          rw [this] at o
          exact o
        | int h => exact absurd (show false = true from hb.1) Bool.false_ne_true
        | plt i h T => exact absurd (show false = true from hb.1) Bool.false_ne_true
        | put h T => exact absurd (show false = true from hb.1) Bool.false_ne_true
def dropF (ds : List Nat) : Flw → Out Flw
  | .nx e => must (dropS ds e) fun e => .ok (.nx e)
  | .rt d e => must (dropS ds e) fun e => .ok (.rt d e)
  | _ => .bad
/-- j = a tuple, slot i being read only in all that follows -/
def sAl (i j : Nat) (hs : List SArg) (ds : List Nat) (rest : Stm) : Stm := fun env => must (evS hs (lock i env)) fun xs => if hs.all (bArg (lock i env)) = true ∧ xs.length ≤ 16777216 then must (bName j (.tup xs) (lock i env)) fun e2 => (rest e2 >>= dropF ds) >>= unS [env] else .bad
theorem s_alias {x : Str} {p1 p2 pos : Pos} {kk : Nat} {es : List Expr} {t : TA} {rest : List Stmt} {f : Stm} (i j : Nat) (hs : List SArg) (ds : List Nat) (dx : DX X G) (hi : X.N[j]? = some x) (hx : Loc X.env.scope x) (ha : PA X es t) (hr : PSs X rest (TSt G W f)) (ht : t = seqTE (hs.map (SArg.te G)) := by rfl) (hd : ds.contains j = true := by rfl)
    (hsw : swapsWith (.Tuple es kk p2) (some (.Name x p1)) pos.line X.env = pure false := by rfl) (hf : X.fn x = true ∨ X.env.scope.names.lookup x = some .local := by first | exact .inl rfl | exact .inr rfl) :
    PSs X (.Assign [.Name x p1] (.Tuple es kk p2) pos :: rest) (TSt G W (sAl i j hs ds f)) :=
  (pss_cons (ps_set dx.nd hi hx (pe_tup ha) hsw hf) hr).imp fun En σ H ⟨B, Z, Fs, env, gd, q⟩ => by
    subst ht
    have hcl : ∀ k, k ∈ [j] → k ∈ ds := fun k m => by
      rw [List.mem_singleton.mp m]
      simpa using hd
    unfold sAl at q
    cases hev : evS hs (lock i env) with
    | none => rw [hev] at q; exact q.elim
    | some xs =>
      rw [hev, must_some] at q
      split at q
      · rename_i hc
        cases hb : bName j (.tup xs) (lock i env) with
        | none => rw [hb] at q; exact q.elim
        | some e2 =>
          rw [hb, must_some] at q
          have w := (Unl.refl gd).lock i
          have q1 := FinS.unl (st := [env]) w q
          refine evB_ok hs xs H _ w.good hev hc.1 fun vs H1 s1 ol => ⟨by rw [OwnL.length ol, ← size_line]; exact hc.2, fun p hp => ?_⟩
          have s2 : Same H1 (upd H1 p (.tup vs)) := same_upd hp
          have g3 := w.good.grow (s1.trans s2)
          refine bind_name _ _ _ _ _ _ (.tup xs) (.ref p) e2 _ g3 ⟨p, vs, rfl, (upd_same : upd H1 p (.tup vs) p = some (.tup vs)), OwnL.keepT (Same.refl _) (TK.of s2) ol⟩ hb fun σ4 Fs4 b4 => ?_
          refine ⟨_, Z, Fs4, e2, b4.good, ?_⟩
          have q3 := FinS.later (Stp.grow (P := InF _) w.good (fun _ m => m) (s1.trans s2)) (fun a m => .inr m) q1
          unfold FinS
          cases hfb : f e2 with
          | bad => rw [hfb] at q3; exact q3.elim
          | exc c => rw [hfb] at q3; exact q3
          | ok fl =>
            rw [hfb] at q3
            cases fl with
            | bk e5 => exact q3.elim
            | ct e5 => exact q3.elim
            | nx e5 =>
              intro σ6 Z6 H6 F6 s6
              have q3 : FinS G W _ Z _ σ (lock i env) (InF _) (must (dropS ds e5) fun e => .ok (.nx e)) En := q3
              cases hdr : dropS ds e5 with
              | none => rw [hdr] at q3; exact q3.elim
              | some e7 =>
                rw [hdr] at q3
                obtain ⟨F7, s7, _⟩ := b4.stp (P := InF _) (fun _ m => m) s6 hdr hcl
                exact q3 _ _ _ _ s7
            | rt d e5 =>
              intro σ6 v6 Z6 H6 F6 F p6
              have q3 : FinS G W _ Z _ σ (lock i env) (InF _) (must (dropS ds e5) fun e => .ok (.rt d e)) En := q3
              cases hdr : dropS ds e5 with
              | none => rw [hdr] at q3; exact q3.elim
              | some e7 =>
                rw [hdr] at q3
                obtain ⟨F7, s7, h7⟩ := b4.stp (P := InF _) (fun _ m => m) p6.st hdr hcl
                exact q3 _ _ _ _ F7 F ⟨s7, p6.own, p6.nd, fun a m n => p6.dj a m (h7 a n), p6.fr, fun a m => (p6.new a m).imp id (b4.sub a)⟩
      · exact q.elim
end
end DL

/-! texts: a sign in a text; what stands at the top */ -/
namespace DL
open PySem PySem.Spec PyProof.Rows L2
section
variable {G : Gc} {W : Wsh} {X : Cx}
theorem p_gstr {x : Str} {s : Str} {t : Tok} {pos : Pos} (hg : Gl X x) (hm : X.mg x = some (.str s t)) (hd : (x == ("__debug__" : Str)) = false := by decide) : PE X (.Name x pos) (TPur G (hC (.str s))) :=
  (pe_glob (v := .str s) hg hm ⟨t, rfl⟩ hd).imp fun σ H Q ⟨B, Z, Fs, env, gd, d, e, q⟩ => by
    cases e
    exact q (.str s) H (Same.refl H) rfl fun Z => ⟨rfl, rfl⟩
def fInS (f : Bool → Bool) (a b : D) : Option D := match a, b with
  | .str x, .str z => match x.cps.toList with
    | [c] => some (.bl (f (decide (c ∈ z.cps.toList))))
    | _ => none
  | _, _ => none
theorem fInS_some {f : Bool → Bool} {a b d : D} (h : fInS f a b = some d) : ∃ (c : Nat) (z : Str), a = .str ⟨#[c]⟩ ∧ b = .str z ∧ d = .bl (f (decide (c ∈ z.cps.toList))) := by
  unfold fInS at h
  split at h
  · rename_i x z
    split at h
    · rename_i c e
      cases h
      refine ⟨c, z, ?_, rfl, rfl⟩
      congr 1
      cases x with
      | mk l =>
        congr 1
        exact Array.toList_inj.mp e
    · cases h
  · cases h
abbrev gInS := bin (fInS id)
abbrev gNotInS := bin (fInS not)
theorem rop_inS : ROp G (l2 fun x y H Q => ∃ (c : Nat) (z : Str), x = .str ⟨#[c]⟩ ∧ y = .str z ∧ Q (.bl (decide (c ∈ z.cps.toList))) H) gInS := by
  intro ds vs H Q d h e q
  obtain ⟨a, b, rfl, e⟩ := bin_some e
  obtain ⟨c, z, rfl, rfl, rfl⟩ := fInS_some e
  obtain ⟨x, y, rfl, h1, h2⟩ := own2 h
  exact ⟨c, z, h1.1, h2.1, done0 q fun Z => ⟨rfl, rfl⟩⟩
theorem pure_inS : PureG gInS := by
  intro ds d e
  obtain ⟨a, b, rfl, e⟩ := bin_some e
  obtain ⟨c, z, rfl, rfl, rfl⟩ := fInS_some e
  rfl
theorem rop_notInS : ROp G (l2 fun x y H Q => ∃ (c : Nat) (z : Str), x = .str ⟨#[c]⟩ ∧ y = .str z ∧ Q (.bl (!decide (c ∈ z.cps.toList))) H) gNotInS := by
  intro ds vs H Q d h e q
  obtain ⟨a, b, rfl, e⟩ := bin_some e
  obtain ⟨c, z, rfl, rfl, rfl⟩ := fInS_some e
  obtain ⟨x, y, rfl, h1, h2⟩ := own2 h
  exact ⟨c, z, h1.1, h2.1, done0 q fun Z => ⟨rfl, rfl⟩⟩
theorem pure_notInS : PureG gNotInS := by
  intro ds d e
  obtain ⟨a, b, rfl, e⟩ := bin_some e
  obtain ⟨c, z, rfl, rfl, rfl⟩ := fInS_some e
  rfl
end
end DL

/-! dicts -/
namespace DL
open PySem PySem.Spec PyProof.Rows L2
/-! ### keys -/
def keyD : D → Option Key
  | .int i => some (.inl i)
  | .str s => some (.inr s)
  | _ => none
def keysL : List D → Option (List Key)
  | [] => some []
  | d :: r => match keyD d, keysL r with
    | some k, some ks => some (k :: ks)
    | _, _ => none
def keysD : D → Option (List Key)
  | .tupF false xs => keysL xs
  | _ => none
def toKD : Key → D
  | .inl i => .int i
  | .inr s => .str s
def toKsD (k : List Key) : D := .tup (k.map toKD)
section
variable {G : Gc} {W : Wsh} {X : Cx}
theorem keyD_own {Z H : Hp} {d : D} {v : V} {F : List Addr} {k : Key} (e : keyD d = some k) (h : Own G Z H d v F) : v = kV k := by
  cases d with
  | int i => cases e; exact h.1
  | str i => cases e; exact h.1
  | _ => cases e
theorem keysL_own {Z H : Hp} : ∀ {ds : List D} {vs : List V} {F : List Addr} {ks : List Key}, keysL ds = some ks → OwnL G Z H ds vs F → vs = ks.map kV
  | [], _, _, _, e, h => by cases e; exact h.1
  | d :: ds, vs, F, ks, e, h => by
    obtain ⟨v, r, F1, F2, rfl, rfl, h1, h2⟩ := h
    have e : (match keyD d, keysL ds with
      | some k, some ks => some (k :: ks)
      | _, _ => none) = some ks := e
    cases hk : keyD d with
    | none => rw [hk] at e; cases e
    | some k =>
      cases hs : keysL ds with
      | none => rw [hk, hs] at e; cases e
      | some ks2 =>
        rw [hk, hs] at e
        cases e
        rw [keyD_own hk h1, keysL_own hs h2]
        rfl
theorem keysD_own {Z H : Hp} {d : D} {v : V} {F : List Addr} {k : List Key} (e : keysD d = some k) (h : Own G Z H d v F) : ∃ a, v = .ref a ∧ H a = some (.tup (k.map kV)) := by
  unfold keysD at e
  split at e
  · rename_i xs
    obtain ⟨a, vs, rfl, h1, h2⟩ := h
    have := keysL_own e h2
    subst this
    exact ⟨a, rfl, h1⟩
  · cases e
theorem toKD_own {Z H : Hp} (k : Key) : Own G Z H (toKD k) (kV k) [] := by
  cases k <;> exact ⟨rfl, rfl⟩
theorem toKDs_own {Z H : Hp} : ∀ ks : List Key, OwnL G Z H (ks.map toKD) (ks.map kV) []
  | [] => ⟨rfl, rfl⟩
  | k :: ks => OwnL.cons_nil (toKD_own k) (toKDs_own ks)
theorem toKD_pure (k : Key) : (toKD k).pure = true := by cases k <;> rfl
theorem pureL_mem {l : List D} (h : ∀ d ∈ l, d.pure = true) : D.pureL l = true := by
  induction l with
  | nil => rfl
  | cons d r ih =>
    show (d.pure && D.pureL r) = true
    rw [h d List.mem_cons_self, ih fun e m => h e (List.mem_cons_of_mem _ m)]
    rfl
theorem toKDs_pure (ks : List Key) : D.pureL (ks.map toKD) = true := pureL_mem fun d m => by
  obtain ⟨k, _, rfl⟩ := List.mem_map.mp m
  exact toKD_pure k
/-! ### what stands there -/
section
variable {κ : Type} [DecidableEq κ]
def lookP (ks : List κ) (ds : List D) (k : κ) : Option D := ((ks.zip ds).find? fun p => decide (p.1 = k)).map (·.2)
def putG {α : Type} (kvs : List (κ × α)) (k : κ) (v : α) : List (κ × α) :=
  if (kvs.any fun kv => decide (kv.1 = k)) = true then kvs.map (fun kv => if kv.1 = k then (kv.1, v) else kv) else kvs ++ [(k, v)]
theorem look_own {Y H : Hp} {k : κ} : ∀ {ks : List κ} {ds : List D} {vs : List V}, OwnL G Y H ds vs [] → ks.length = vs.length → (∀ d, lookP ks ds k = some d → ∃ v, valV (ks.zip vs) k = some v ∧ Own G Y H d v []) ∧ (lookP ks ds k = none → valV (ks.zip vs) k = none)
  | [], ds, vs, h, l => by
    have : vs = [] := List.eq_nil_of_length_eq_zero l.symm
    subst this
    exact ⟨fun d e => (nomatch (show (none : Option D) = some d from e)), fun _ => rfl⟩
  | k0 :: ks, ds, vs, h, l => by
    cases ds with
    | nil => rw [h.1] at l; cases l
    | cons d0 ds =>
      obtain ⟨v0, r, rfl, h1, h2⟩ := OwnL.uncons h
      have ih := look_own (k := k) h2 (by simpa using l)
      by_cases hk : k0 = k
      · refine ⟨fun d e => ?_, fun e => ?_⟩
        · have : lookP (k0 :: ks) (d0 :: ds) k = some d0 := by simp [lookP, hk]
          rw [this] at e
          cases e
          exact ⟨v0, by simp [valV, hk], h1⟩
        · have : lookP (k0 :: ks) (d0 :: ds) k = some d0 := by simp [lookP, hk]
          rw [this] at e
          cases e
      · have e1 : lookP (k0 :: ks) (d0 :: ds) k = lookP ks ds k := by simp [lookP, hk]
        have e2 : valV ((k0 :: ks).zip (v0 :: r)) k = valV (ks.zip r) k := by simp [valV, hk]
        rw [e1, e2]
        exact ih
theorem putG_map {α β : Type} (f : α → β) (L : List (κ × α)) (k : κ) (a : α) : (putG L k a).map (fun p => (p.1, f p.2)) = putG (L.map fun p => (p.1, f p.2)) k (f a) := by
  unfold putG
  have e : ((L.map fun p => (p.1, f p.2)).any fun kv => decide (kv.1 = k)) = L.any fun kv => decide (kv.1 = k) := by rw [List.any_map]; rfl
  rw [e]
  split
  · rw [List.map_map, List.map_map]
    refine List.map_congr_left fun p _ => ?_
    simp only [Function.comp]
    split <;> rfl
  · rw [List.map_append]; rfl
theorem putG_mem {α : Type} {L : List (κ × α)} {k : κ} {a : α} {p : κ × α} (h : p ∈ putG L k a) : p ∈ L ∨ p.2 = a := by
  unfold putG at h
  split at h
  · obtain ⟨q, hq, rfl⟩ := List.mem_map.mp h
    split
    · exact .inr rfl
    · exact .inl hq
  · rcases List.mem_append.mp h with h | h
    · exact .inl h
    · rw [List.mem_singleton.mp h]; exact .inr rfl
/-- keys and values behind d[k] = x -/
def putKs (ks : List κ) (ds : List D) (k : κ) (x : D) : List κ := (putG (ks.zip ds) k x).map (·.1)
def putVs (ks : List κ) (ds : List D) (k : κ) (x : D) : List D := (putG (ks.zip ds) k x).map (·.2)
theorem zip3 : ∀ (ks : List κ) (vs : List V) (ds : List D), vs.length = ds.length → ((ks.zip (vs.zip ds)).map fun p => (p.1, p.2.1)) = ks.zip vs ∧ ((ks.zip (vs.zip ds)).map fun p => (p.1, p.2.2)) = ks.zip ds
  | [], _, _, _ => ⟨rfl, rfl⟩
  | k :: ks, [], [], _ => ⟨rfl, rfl⟩
  | k :: ks, v :: vs, d :: ds, h => by
    obtain ⟨h1, h2⟩ := zip3 ks vs ds (by simpa using h)
    rw [List.zip_cons_cons, List.zip_cons_cons, List.map_cons, List.map_cons, h1, h2]
    exact ⟨rfl, rfl⟩
  | k :: ks, [], d :: ds, h => by cases h
  | k :: ks, v :: vs, [], h => by cases h
theorem put_own {Y H : Hp} {ks : List κ} {ds : List D} {vs : List V} {k : κ} {x : D} {v : V} (h : OwnL G Y H ds vs []) (hx : Own G Y H x v []) (l : ks.length = vs.length) : ∃ ws, OwnL G Y H (putVs ks ds k x) ws [] ∧ (putKs ks ds k x).length = ws.length ∧ putK (ks.zip vs) k v = (putKs ks ds k x).zip ws := by
  have ld := OwnL.length h
  generalize hL : ks.zip (vs.zip ds) = L
  have e1 : (L.map fun p => (p.1, p.2.1)) = ks.zip vs := by
    rw [← hL]; exact (zip3 ks vs ds ld).1
  have e2 : (L.map fun p => (p.1, p.2.2)) = ks.zip ds := by
    rw [← hL]; exact (zip3 ks vs ds ld).2
  have q1 := putG_map (fun p : V × D => p.1) L k (v, x)
  have q2 := putG_map (fun p : V × D => p.2) L k (v, x)
  rw [e1] at q1
  rw [e2] at q2
  have ho : ∀ p ∈ putG L k (v, x), Own G Y H p.2.2 p.2.1 [] := fun p hp => by
    rcases putG_mem hp with hp | hp
    · rw [← hL] at hp
      have := (List.of_mem_zip hp).2
      exact OwnL.each h p.2 this
    · rw [hp]; exact hx
  have ho2 := OwnL.of_each (ps := (putG L k (v, x)).map (·.2)) fun p hp => by
    obtain ⟨q, hq, rfl⟩ := List.mem_map.mp hp
    exact ho q hq
  rw [List.map_map, List.map_map] at ho2
  have k1 : putVs ks ds k x = (putG L k (v, x)).map ((·.2) ∘ (·.2)) := by
    unfold putVs
    rw [← q2, List.map_map]; rfl
  have k2 : putKs ks ds k x = (putG L k (v, x)).map (·.1) := by
    unfold putKs
    rw [← q2, List.map_map]; rfl
  refine ⟨_, by rw [k1]; exact ho2, by rw [k2]; simp, ?_⟩
  show putG (ks.zip vs) k v = _
  rw [k2, ← q1]
  generalize putG L k (v, x) = M
  induction M with
  | nil => rfl
  | cons p M ih => simp only [List.map_cons, List.zip_cons_cons, ih]; rfl
end
theorem dk_read {H : Hp} {ks : List Key} {ds : List D} {x : V} (h : Own G H H (.dk ks ds) x []) : ∃ a ws, x = .ref a ∧ ks.length = ws.length ∧ H a = some (.dK (ks.zip ws)) ∧ OwnL G H H ds ws [] := by
  obtain ⟨a, ws, F', rfl, l, n, o⟩ := h
  rcases n with ⟨h1, _, rfl⟩ | ⟨z, _⟩
  · exact ⟨a, ws, rfl, l, h1, o⟩
  · cases z
theorem dt_read {H : Hp} {ks : List (List Key)} {ds : List D} {x : V} (h : Own G H H (.dt ks ds) x []) : ∃ a ws, x = .ref a ∧ ks.length = ws.length ∧ H a = some (.dT (ks.zip ws)) ∧ OwnL G H H ds ws [] := by
  obtain ⟨a, ws, F', rfl, l, n, o⟩ := h
  rcases n with ⟨h1, _, rfl⟩ | ⟨z, _⟩
  · exact ⟨a, ws, rfl, l, h1, o⟩
  · cases z
/-! ### d[k], k in d -/
def fLook (dd k : D) : Option (Option D) := match dd with
  | .dk ks vs => (keyD k).map fun k => lookP ks vs k
  | .dt ks vs => (keysD k).map fun k => lookP ks vs k
  | _ => none
theorem look_get {H : Hp} {dd k : D} {x y : V} {r : Option D} (e : fLook dd k = some r) (h1 : Own G H H dd x []) (h2 : Own G H H k y []) : ∃ a o, x = .ref a ∧ DGet H a y o ∧ (∀ d, r = some d → ∃ v, o = some v ∧ Own G H H d v []) ∧ (r = none → o = none) := by
  unfold fLook at e
  split at e
  · rename_i ks vs
    obtain ⟨k2, hk, rfl⟩ := map_some2 e
    obtain ⟨a, ws, rfl, l, hH, o⟩ := dk_read h1
    have := keyD_own hk h2
    subst this
    obtain ⟨q1, q2⟩ := look_own (k := k2) o l
    exact ⟨a, _, rfl, .inl ⟨_, k2, .inl hH, rfl, rfl⟩, fun d e => q1 d e, q2⟩
  · rename_i ks vs
    obtain ⟨k2, hk, rfl⟩ := map_some2 e
    obtain ⟨a, ws, rfl, l, hH, o⟩ := dt_read h1
    obtain ⟨b, rfl, hb⟩ := keysD_own hk h2
    obtain ⟨q1, q2⟩ := look_own (k := k2) o l
    exact ⟨a, _, rfl, .inr ⟨_, k2, b, .inl hH, rfl, hb, rfl⟩, fun d e => q1 d e, q2⟩
  · cases e
def fDGet (dd k : D) : Option D := match fLook dd k with
  | some (some d) => iff? (d.pure = true) d
  | _ => none
abbrev gDGet := bin fDGet
def fDIn (f : Bool → Bool) (k dd : D) : Option D := (fLook dd k).map fun r => .bl (f r.isSome)
abbrev gDIn := bin (fDIn id)
abbrev gDNotIn := bin (fDIn not)
def rDGet : R2 := fun x y H Q => ∃ a v, x = .ref a ∧ DGet H a y (some v) ∧ Q v H
def rDIn : R2 := fun y x H Q => ∃ a o, x = .ref a ∧ DGet H a y o ∧ Q (.bl o.isSome) H
def rDNotIn : R2 := fun y x H Q => ∃ a o, x = .ref a ∧ DGet H a y o ∧ Q (.bl (!o.isSome)) H
theorem fDGet_some {dd k d : D} (h : fDGet dd k = some d) : fLook dd k = some (some d) ∧ d.pure = true := by
  unfold fDGet at h
  split at h
  · rename_i d2 e
    obtain ⟨hp, rfl⟩ := iff?_some h
    exact ⟨e, hp⟩
  · cases h
theorem rop_dget : ROp G (l2 rDGet) gDGet := by
  intro ds vs H Q d h e q
  obtain ⟨a, b, rfl, e⟩ := bin_some e
  obtain ⟨x, y, rfl, h1, h2⟩ := own2 h
  obtain ⟨e, hp⟩ := fDGet_some e
  obtain ⟨p, o, rfl, hg, k1, _⟩ := look_get e h1 h2
  obtain ⟨v, rfl, hv⟩ := k1 d rfl
  exact ⟨p, v, rfl, hg, done0 q fun Z => (Own.ofPure (Z' := Z) d v [] hp hv).2⟩
theorem pure_dget : PureG gDGet := by
  intro ds d e
  obtain ⟨a, b, rfl, e⟩ := bin_some e
  exact (fDGet_some e).2
theorem rop_din : ROp G (l2 rDIn) gDIn := by
  intro ds vs H Q d h e q
  obtain ⟨a, b, rfl, e⟩ := bin_some e
  obtain ⟨y, x, rfl, h1, h2⟩ := own2 h
  obtain ⟨r, hr, rfl⟩ := map_some2 (show (fLook b a).map (fun r => D.bl (id r.isSome)) = some d from e)
  obtain ⟨p, o, rfl, hg, k1, k2⟩ := look_get hr h2 h1
  have hb : o.isSome = r.isSome := by
    cases r with
    | none => rw [k2 rfl]; rfl
    | some d => obtain ⟨v, rfl, _⟩ := k1 d rfl; rfl
  refine ⟨p, o, rfl, hg, ?_⟩
  rw [hb]
  exact done0 q fun Z => ⟨rfl, rfl⟩
theorem pure_din : PureG gDIn := by
  intro ds d e
  obtain ⟨a, b, rfl, e⟩ := bin_some e
  obtain ⟨r, hr, rfl⟩ := map_some2 (show (fLook b a).map (fun r => D.bl (id r.isSome)) = some d from e)
  rfl
theorem rop_dnotin : ROp G (l2 rDNotIn) gDNotIn := by
  intro ds vs H Q d h e q
  obtain ⟨a, b, rfl, e⟩ := bin_some e
  obtain ⟨y, x, rfl, h1, h2⟩ := own2 h
  obtain ⟨r, hr, rfl⟩ := map_some2 (show (fLook b a).map (fun r => D.bl (not r.isSome)) = some d from e)
  obtain ⟨p, o, rfl, hg, k1, k2⟩ := look_get hr h2 h1
  have hb : o.isSome = r.isSome := by
    cases r with
    | none => rw [k2 rfl]; rfl
    | some d => obtain ⟨v, rfl, _⟩ := k1 d rfl; rfl
  refine ⟨p, o, rfl, hg, ?_⟩
  rw [hb]
  exact done0 q fun Z => ⟨rfl, rfl⟩
theorem pure_dnotin : PureG gDNotIn := by
  intro ds d e
  obtain ⟨a, b, rfl, e⟩ := bin_some e
  obtain ⟨r, hr, rfl⟩ := map_some2 (show (fLook b a).map (fun r => D.bl (not r.isSome)) = some d from e)
  rfl
variable {o i : Expr} {pos : Pos} {s1 s2 : SArg}
theorem p_dget (dx : DX X G) (ho : PE X o (s1.te G)) (hi : PE X i (s2.te G)) (hs : NoSl i := by exact fun _ _ => rfl) : PE X (.Subscript o i pos) (TPur G (hOp [s1, s2] gDGet)) :=
  (pe_dget (by have := dx.un; omega) ho hi hs).imp fun σ H Q h => tpur_op (r := l2 rDGet) rop_dget pure_dget σ H Q h
theorem p_din (dx : DX X G) (hi : PE X i (s1.te G)) (ho : PE X o (s2.te G)) (hm : behindInMarks .In o = false := by first | exact nomark _ | rfl) : PE X (.Compare i [.In] [o] pos) (TPur G (hOp [s1, s2] gDIn)) :=
  (pe_cmp (pc_din (by have := dx.un; omega) hi ho) hm).imp fun σ H Q h => tpur_op (r := l2 rDIn) rop_din pure_din σ H Q h
theorem p_dnotin (dx : DX X G) (hi : PE X i (s1.te G)) (ho : PE X o (s2.te G)) (hm : behindInMarks .NotIn o = false := by first | exact nomark _ | rfl) : PE X (.Compare i [.NotIn] [o] pos) (TPur G (hOp [s1, s2] gDNotIn)) :=
  (pe_cmp (pc_dnotin (by have := dx.un; omega) hi ho) hm).imp fun σ H Q h => tpur_op (r := l2 rDNotIn) rop_dnotin pure_dnotin σ H Q h
theorem t_din (dx : DX X G) (hi : PE X i (s1.te G)) (ho : PE X o (s2.te G)) (hm : behindInMarks .In o = false := by first | exact nomark _ | rfl) : PT X (.Compare i [.In] [o] pos) (TBp G (hB (hOp [s1, s2] gDIn))) :=
  (pt_cmp (pc_din (by have := dx.un; omega) hi ho) hm).imp fun σ H Q ⟨B, Z, Fs, env, gd, k, hk, q⟩ => by
    have q1 : TPur G (hOp [s1, s2] gDIn) σ H (fun x H' => ∃ k, x = .bl k ∧ Q k H') := ⟨B, Z, Fs, env, gd, .bl k, hB_some hk, fun v H' hs _ ho => ⟨k, (ho Z).1, q H' hs⟩⟩
    exact tpur_op (r := l2 rDIn) rop_din pure_din σ H _ q1
theorem t_dnotin (dx : DX X G) (hi : PE X i (s1.te G)) (ho : PE X o (s2.te G)) (hm : behindInMarks .NotIn o = false := by first | exact nomark _ | rfl) : PT X (.Compare i [.NotIn] [o] pos) (TBp G (hB (hOp [s1, s2] gDNotIn))) :=
  (pt_cmp (pc_dnotin (by have := dx.un; omega) hi ho) hm).imp fun σ H Q ⟨B, Z, Fs, env, gd, k, hk, q⟩ => by
    have q1 : TPur G (hOp [s1, s2] gDNotIn) σ H (fun x H' => ∃ k, x = .bl k ∧ Q k H') := ⟨B, Z, Fs, env, gd, .bl k, hB_some hk, fun v H' hs _ ho => ⟨k, (ho Z).1, q H' hs⟩⟩
    exact tpur_op (r := l2 rDNotIn) rop_dnotin pure_dnotin σ H _ q1

/-! ### new dicts -/
def gNewK : List D → Option D
  | [] => some (.dk [] [])
  | _ => none
def gNewT : List D → Option D
  | [] => some (.dt [] [])
  | _ => none
theorem rop_newK : ROp G (fun xs H Q => xs = [] ∧ ∀ p, H p = none → Q (.ref p) (upd H p (.dK []))) gNewK := by
  intro ds vs H Q d h e q
  unfold gNewK at e
  split at e
  · cases e
    exact ⟨h.1, fun p hn => q _ _ [p] (same_upd hn) (fun Z => ⟨p, [], [], rfl, rfl, .inr ⟨rfl, upd_same⟩, rfl, rfl⟩) one_nodup fun b m => by rw [List.mem_singleton.mp m]; exact hn⟩
  · cases e
theorem rop_newT : ROp G (fun xs H Q => xs = [] ∧ ∀ p, H p = none → Q (.ref p) (upd H p (.dT []))) gNewT := by
  intro ds vs H Q d h e q
  unfold gNewT at e
  split at e
  · cases e
    exact ⟨h.1, fun p hn => q _ _ [p] (same_upd hn) (fun Z => ⟨p, [], [], rfl, rfl, .inr ⟨rfl, upd_same⟩, rfl, rfl⟩) one_nodup fun b m => by rw [List.mem_singleton.mp m]; exact hn⟩
  · cases e
theorem e_newK : PE X (.Dict [] [] pos) (TV G W (eOp (.fin []) gNewK)) := pe_dnewK.imp fun σ H Q h => (tv_op (r := fun xs H Q => xs = [] ∧ ∀ p, H p = none → Q (.ref p) (upd H p (.dK []))) rop_newK rfl σ H Q h).2
theorem e_newT : PE X (.Dict [] [] pos) (TV G W (eOp (.fin []) gNewT)) := pe_dnewT.imp fun σ H Q h => (tv_op (r := fun xs H Q => xs = [] ∧ ∀ p, H p = none → Q (.ref p) (upd H p (.dT []))) rop_newT rfl σ H Q h).2
/-- {k: v}, both written -/
def gOne (k : Key) (d : D) : List D → Option D
  | [] => some (.dk [k] [d])
  | _ => none
theorem e_one {k v : Expr} {kk : Key} {d : D} {w : V} (hk : PE X k (tC (kV kk))) (hv : PE X v (tC w)) (hd : ∀ Z H, Own G Z H d w []) : PE X (.Dict [some k] [v] pos) (TV G W (eOp (.fin []) (gOne kk d))) :=
  (pe_disp (pps_cons hk hv pps_nil) rfl rfl (by simp) (by simp)).imp fun σ H Q h => by
    have hr : ROp G (fun xs H Q => xs = [] ∧ ∀ p, H p = none → Q (.ref p) (upd H p (.dK [(kk, w)]))) (gOne kk d) := by
      intro ds vs H Q e h e2 q
      unfold gOne at e2
      split at e2
      · cases e2
        exact ⟨h.1, fun p hn => q _ _ [p] (same_upd hn) (fun Z => ⟨p, [w], [], rfl, rfl, .inr ⟨rfl, upd_same⟩, OwnL.cons_nil (hd _ _) ⟨rfl, rfl⟩⟩) one_nodup fun b m => by rw [List.mem_singleton.mp m]; exact hn⟩
      · cases e2
    have q := (tv_op hr rfl σ H Q h).2
    intro p hn
    refine ⟨upd_same, [(kk, w)], rfl, by simp, ?_⟩
    have e : upd (upd H p (.dK [])) p (.dK (mergeK [] [(kk, w)])) = upd H p (.dK [(kk, w)]) := by
      funext b
      by_cases hb : b = p
      · subst hb; rw [upd_same, upd_same]; rfl
      · rw [upd_ne hb, upd_ne hb, upd_ne hb]
    rw [e]
    exact q p hn

/-! ### len, list, sorted -/
def fLenD (d : D) : Option D := match d with
  | .dk ks _ => some (.int ks.length)
  | .dt ks _ => some (.int ks.length)
  | _ => none
abbrev gLenD := una fLenD
def rLenD : List V → Hp → VK → Prop := fun xs H Q => (∃ a kvs, xs = [V.ref a] ∧ H a = some (.dK kvs) ∧ Q (.int kvs.length) H) ∨ rLenT xs H Q
theorem rop_lenD : ROp G rLenD gLenD := by
  intro ds vs H Q d h e q
  obtain ⟨a, rfl, e⟩ := una_some e
  obtain ⟨x, rfl, h1⟩ := own1 h
  cases a with
  | dk ks ws =>
    cases e
    obtain ⟨a, us, rfl, l, hH, o⟩ := dk_read h1
    refine .inl ⟨a, _, rfl, hH, ?_⟩
    have : (ks.zip us).length = ks.length := by simp [l]
    rw [this]
    exact done0 q fun Z => ⟨rfl, rfl⟩
  | dt ks ws =>
    cases e
    obtain ⟨a, us, rfl, l, hH, o⟩ := dt_read h1
    refine .inr ⟨a, _, rfl, hH, ?_⟩
    have : (ks.zip us).length = ks.length := by simp [l]
    rw [this]
    exact done0 q fun Z => ⟨rfl, rfl⟩
  | _ => cases e
theorem pure_lenD : PureG gLenD := by
  intro ds d e
  obtain ⟨a, rfl, e⟩ := una_some e
  cases a <;> cases e <;> rfl
theorem call_lenDD : CallR X (.builtin "len") rLenD := CallR.or call_lenD call_len_dT
def fListD (d : D) : Option D := match d with
  | .dk ks _ => some (.lst (ks.map toKD))
  | _ => none
abbrev gListD := una fListD
theorem rop_listD : ROp G rListD gListD := by
  intro ds vs H Q d h e q
  obtain ⟨a, rfl, e⟩ := una_some e
  obtain ⟨x, rfl, h1⟩ := own1 h
  cases a with
  | dk ks ws =>
    cases e
    obtain ⟨a, us, rfl, l, hH, o⟩ := dk_read h1
    refine ⟨a, _, rfl, hH, fun p hn => ?_⟩
    have : ((ks.zip us).map fun kv => kV kv.1) = ks.map kV := by
      rw [show (fun kv : Key × V => kV kv.1) = kV ∘ (·.1) from rfl, ← List.map_map, List.map_fst_zip (Nat.le_of_eq l)]
    rw [this]
    exact q _ _ [p] (same_upd hn) (fun Z => new_lst (toKDs_pure ks) hn (toKDs_own ks) Z) one_nodup fun b m => by rw [List.mem_singleton.mp m]; exact hn
  | _ => cases e
def fSortD (d : D) : Option D := match d with
  | .dt ks _ => iff? (sortB (ks.map keyPy) = true) (.lst ((ks.mergeSort (PySem.W.dataLe false keyPy)).map toKsD))
  | _ => none
abbrev gSortD := una fSortD
theorem rop_sortD : ROp G (rSortT G.K) gSortD := by
  intro ds vs H Q d h e q
  obtain ⟨a, rfl, e⟩ := una_some e
  obtain ⟨x, rfl, h1⟩ := own1 h
  cases a with
  | dt ks ws =>
    obtain ⟨hs, rfl⟩ := iff?_some (show iff? _ _ = some d from e)
    obtain ⟨a, us, rfl, l, hH, o⟩ := dt_read h1
    obtain ⟨k1, k2, k3⟩ := sortB_ok hs
    have e1 : ((ks.zip us).map fun p => keyPy p.1) = ks.map keyPy := by
      rw [show (fun p : List Key × V => keyPy p.1) = keyPy ∘ (·.1) from rfl, ← List.map_map, List.map_fst_zip (Nat.le_of_eq l)]
    have e2 : (ks.zip us).map (·.1) = ks := List.map_fst_zip (Nat.le_of_eq l)
    refine ⟨a, _, rfl, .inl hH, by rw [e1]; exact k1, by rw [e1]; exact k2, fun p hp => k3 _ (List.mem_map.mpr ⟨p.1, (List.of_mem_zip hp).1, rfl⟩), fun p bs hn hb he => ?_⟩
    rw [e2] at he
    have o2 : OwnL G H H ((bs.map (·.2)).map toKsD) (bs.map fun x => V.ref x.1) [] := by
      clear he
      induction bs with
      | nil => exact ⟨rfl, rfl⟩
      | cons b bs ih =>
        exact OwnL.cons_nil ⟨b.1, _, rfl, hb b List.mem_cons_self, toKDs_own b.2⟩ (ih fun x m => hb x (List.mem_cons_of_mem _ m))
    rw [he] at o2
    exact q _ _ [p] (same_upd hn) (fun Z => new_lst (pureL_mem fun d m => by
      obtain ⟨k, _, rfl⟩ := List.mem_map.mp m
      exact toKDs_pure k) hn o2 Z) one_nodup fun b m => by rw [List.mem_singleton.mp m]; exact hn
  | _ => cases e
variable {e : Expr} {es : List Expr} {t : TA} {hs : List SArg} {p : Pos}
theorem p_lenD (dx : DX X G) (hg : Gl X "len") (hm : X.mg "len" = none) (ha : PA X (e :: es) t) (ht : t = seqTE (hs.map (SArg.te G)) := by rfl) (he : starEach (e :: es) X.env = (false, eval e X.env) :: starEach es X.env := by rfl) (hpl : (backTo pos (starEach es X.env)).any (·.1) = false := by rfl) :
    PE X (.Call (.Name "len" p) (e :: es) [] pos) (TPur G (hOp hs gLenD)) :=
  p_callB call_lenDD hg hm bt_len rop_lenD pure_lenD ha ht (by decide) (by decide) he hpl
theorem e_listD (dx : DX X G) (hg : Gl X "list") (hm : X.mg "list" = none) (c : Chn) (ha : PA X (e :: es) t) (ht : t = seqTE (c.tes G W) := by rfl) (hio : c.iofs.any id = false := by rfl) (he : starEach (e :: es) X.env = (false, eval e X.env) :: starEach es X.env := by rfl) (hpl : (backTo pos (starEach es X.env)).any (·.1) = false := by rfl) :
    PE X (.Call (.Name "list" p) (e :: es) [] pos) (TV G W (eOp c gListD)) :=
  e_callT (call_list_dK dx.calm) hg hm bt_list rop_listD c ha ht hio (by decide) (by decide) he hpl
theorem e_sortD (dx : DX X G) (hg : Gl X "sorted") (hm : X.mg "sorted" = none) (c : Chn) (ha : PA X (e :: es) t) (ht : t = seqTE (c.tes G W) := by rfl) (hio : c.iofs.any id = false := by rfl) (he : starEach (e :: es) X.env = (false, eval e X.env) :: starEach es X.env := by rfl) (hpl : (backTo pos (starEach es X.env)).any (·.1) = false := by rfl) :
    PE X (.Call (.Name "sorted" p) (e :: es) [] pos) (TV G W (eOp c gSortD)) :=
  e_callB (cr_sortT dx.calm (by have := dx.un; omega)) hg hm bt_sorted (r := rSortT X.K) (by rw [dx.K]; exact rop_sortD) c ha ht hio (by decide) (by decide) he hpl
end
/-! ### d[k] = x -/
section
variable {G : Gc} {W : Wsh} {B Z H : Hp} {σ : L2.St} {env : DEnv} {Fs : Nat → List Addr} {X : Cx}
/-- an owned node written -/
theorem mut_fin2 {T : List Addr} {Y : Hp} {its : List (Bool × D)} {vs : List V} (gd : Good G B Z H σ env Fs) (hd : Hand G B Z H Y Fs its vs T) {a : Addr} {u u2 : HO} {d2 : D} (ha : a ∈ T) (hH : H a = some u) (hM : Mut (some u)) (o2 : Own G Z (upd H a u2) d2 (.ref a) [a]) {Q : VK}
    (hF : FinO G W B Z H σ env (PT_ Fs T) [.ref a] (.ok (.non, [d2], env)) Q) : Q .non (upd H a u2) := by
  have sb : Same B (upd H a u2) := fun b u e => by
    rw [upd_ne (fun z => by rw [z, (hd.fr a ha).1] at e; cases e)]
    exact gd.sb b u e
  have sz : Same Z (upd H a u2) := fun b u e => by rw [gd.z0] at e; cases e
  have nt : ∀ (b : Addr) (w : HO), H b = some w → Still w → b ≠ a := fun b w e st z => by
    rw [z, hH] at e; cases e; exact st hM
  have st : Stp G B Z H σ env (PT_ Fs T) Z (upd H a u2) σ env Fs := by
    refine ⟨Same.refl Z, fun b u e n => ?_, ⟨sb, sz, gd.len, fun i => (gd.sl i).keep gd.sb gd.sz sb sz (Same.refl Z) fun b u e m => ?_, gd.nd, gd.dj, gd.fr, gd.z0⟩, fun b m => .inr (.inl m), fun _ m => .inl m, fun j d e => ⟨⟨d, e⟩, rfl⟩, fun j d e => ⟨e, rfl⟩, fun j d e => ⟨e, rfl⟩, fun j d e => ⟨e, rfl⟩, rfl⟩
    · rw [upd_ne (fun z => n (.inr (by rw [z]; exact ha)))]
      exact e
    · rw [upd_ne (fun z => ?_)]
      · exact e
      · rcases m with m | nm
        · exact hd.dj a ha ⟨i, by rw [← z]; exact m⟩
        · exact nt b u e nm z
  refine hF .non Z _ Fs [a] ⟨st, ⟨.non, [.ref a], [], [a], rfl, rfl, ⟨rfl, rfl⟩, ⟨.ref a, [], [a], [], rfl, by simp, o2, rfl, rfl⟩⟩, one_nodup, fun b m => by rw [List.mem_singleton.mp m]; exact hd.dj a ha, fun b m => by rw [List.mem_singleton.mp m]; exact hd.fr a ha, fun b m => by rw [List.mem_singleton.mp m]; exact .inr (.inr ha)⟩
def setDK : Kn := fun ds e => match ds with
  | [x, .dk ks vs, k] => match keyD k with
    | some k => if x.pure = true ∧ D.pureL vs = true ∧ ks.length < 16777216 then .ok (.non, [.dk (putKs ks vs k x) (putVs ks vs k x)], e) else .bad
    | none => .bad
  | [x, .dt ks vs, k] => match keysD k with
    | some k => if x.pure = true ∧ D.pureL vs = true ∧ ks.length < 16777216 then .ok (.non, [.dt (putKs ks vs k x) (putVs ks vs k x)], e) else .bad
    | none => .bad
  | _ => .bad
def rSetD : List V → Hp → VK → Prop := fun vs H Q => match vs with
  | [v, x, y] => ∃ a H4, x = .ref a ∧ DPut H a y v H4 ∧ Q .non H4
  | _ => False
theorem k_setD : KOk G W [false, true, false] [true, true, true] rSetD setDK := by
  intro B Z H σ env Fs its vs T ios Q gd hd hb hn hF
  obtain ⟨x, d1, d2, rfl⟩ := its3 hb
  unfold setDK at hF
  split at hF
  · rename_i x' ks ws k e
    cases e
    split at hF
    · rename_i kk hk
      split at hF
      · rename_i hc
        obtain ⟨u, v, w, F1, F2, F3, rfl, rfl, h3, h1, h2⟩ := hand3 hd.own
        obtain ⟨a, us, F', rfl, l, n, o⟩ := h1
        rcases n with ⟨z, _⟩ | ⟨rfl, hH⟩
        · rw [gd.z0] at z; cases z
        · have hn : ios = [.ref a] := hn
          subst hn
          have hky := keyD_own hk h2
          subst hky
          obtain ⟨q1, q2⟩ := OwnL.ofPure (Z' := H) ws us F' hc.2.1 o
          have hx := (Own.ofPure (Z' := H) x u F1 hc.1 h3).2
          obtain ⟨us2, o2, l2, e2⟩ := put_own (k := kk) q2 hx l
          have hp2 : D.pureL (putVs ks ws kk x) = true := pureL_mem fun d m => by
            obtain ⟨p, hp, rfl⟩ := List.mem_map.mp m
            rcases putG_mem hp with hp | hp
            · exact List.all_eq_true.mp (by
                have := hc.2.1
                revert this
                generalize ws = l
                intro h
                induction l with
                | nil => rfl
                | cons a l ih =>
                  have h : (a.pure && D.pureL l) = true := h
                  rw [Bool.and_eq_true] at h
                  rw [List.all_cons, h.1, ih h.2]; rfl : (ws.all fun d => d.pure) = true) _ (List.of_mem_zip hp).2
            · rw [hp]; exact hc.1
          refine ⟨a, _, rfl, .inl ⟨_, kk, hH, rfl, by rw [← size_line]; simpa [l] using hc.2.2, rfl⟩, ?_⟩
          rw [e2]
          refine mut_fin2 gd hd (by simp) hH trivial ?_ hF
          refine ⟨a, us2, [], rfl, l2, .inr ⟨rfl, upd_same⟩, ?_⟩
          refine OwnL.keep (fun b u e => by rw [gd.z0] at e; cases e) _ _ [] (fun b u e m => ?_) (OwnL.pure_any (Z' := Z) hp2 o2)
          rw [upd_ne (fun z => ?_)]
          · exact e
          · rcases m with m | m
            · cases m
            · rw [z, hH] at e; cases e; exact m trivial
      · exact hF.elim
    · exact hF.elim
  · rename_i x' ks ws k e
    cases e
    split at hF
    · rename_i kk hk
      split at hF
      · rename_i hc
        obtain ⟨u, v, w, F1, F2, F3, rfl, rfl, h3, h1, h2⟩ := hand3 hd.own
        obtain ⟨a, us, F', rfl, l, n, o⟩ := h1
        rcases n with ⟨z, _⟩ | ⟨rfl, hH⟩
        · rw [gd.z0] at z; cases z
        · have hn : ios = [.ref a] := hn
          subst hn
          obtain ⟨b, rfl, hb2⟩ := keysD_own hk h2
          obtain ⟨q1, q2⟩ := OwnL.ofPure (Z' := H) ws us F' hc.2.1 o
          have hx := (Own.ofPure (Z' := H) x u F1 hc.1 h3).2
          obtain ⟨us2, o2, l2, e2⟩ := put_own (k := kk) q2 hx l
          have hp2 : D.pureL (putVs ks ws kk x) = true := pureL_mem fun d m => by
            obtain ⟨p, hp, rfl⟩ := List.mem_map.mp m
            rcases putG_mem hp with hp | hp
            · exact List.all_eq_true.mp (by
                have := hc.2.1
                revert this
                generalize ws = l
                intro h
                induction l with
                | nil => rfl
                | cons a l ih =>
                  have h : (a.pure && D.pureL l) = true := h
                  rw [Bool.and_eq_true] at h
                  rw [List.all_cons, h.1, ih h.2]; rfl : (ws.all fun d => d.pure) = true) _ (List.of_mem_zip hp).2
            · rw [hp]; exact hc.1
          refine ⟨a, _, rfl, .inr ⟨_, kk, b, hH, rfl, hb2, by rw [← size_line]; simpa [l] using hc.2.2, rfl⟩, ?_⟩
          rw [e2]
          refine mut_fin2 gd hd (by simp) hH trivial ?_ hF
          refine ⟨a, us2, [], rfl, l2, .inr ⟨rfl, upd_same⟩, ?_⟩
          refine OwnL.keep (fun b u e => by rw [gd.z0] at e; cases e) _ _ [] (fun b u e m => ?_) (OwnL.pure_any (Z' := Z) hp2 o2)
          rw [upd_ne (fun z => ?_)]
          · exact e
          · rcases m with m | m
            · cases m
            · rw [z, hH] at e; cases e; exact m trivial
      · exact hF.elim
    · exact hF.elim
  · exact hF.elim
theorem s_setD {o i value : Expr} {to ti te : TE} {pos' pos : Pos} (dx : DX X G) (c : Chn) (hv : PE X value te) (ho : PE X o to) (hi : PE X i ti) (hc : c.tes G W = [te, to, ti] := by rfl) (hn : c.iofs = [false, true, false] := by rfl) (hb : c.kinds = [true, true, true] := by rfl)
    (hs : swapsWith value (some (.Subscript o i pos')) pos.line X.env = pure false := by rfl) : PS X (.Assign [.Subscript o i pos'] value pos) (TSt G W (sExpr (eK c setDK))) :=
  (ps_dput (by have := dx.un; omega) ho hi hv hs).imp fun En σ H ⟨B, Z, Fs, env, gd, q⟩ => by
    have q1 : TV G W (eK c setDK) σ H (fun _ H1 => En.nx σ H1) := by
      refine ⟨B, Z, Fs, env, gd, ?_⟩
      unfold sExpr at q
      unfold FinV
      cases hf : eK c setDK env with
      | bad => rw [hf] at q; exact q.elim
      | exc c => rw [hf] at q; exact q
      | ok p =>
        rw [hf] at q
        exact fun v Z' H' Fs' F p => q σ Z' H' Fs' p.st
    have q2 := tv_chn (c := c) k_setD hn hb σ H _ q1
    rw [hc] at q2
    exact q2

/-! ### for k, v in d.items(), d a new dict -/
theorem pe_frz {e : Expr} {te : TE} (h : PE X e te) : PE X e (fun σ H Q => te σ H fun x H1 => ∃ a u, x = .ref a ∧ H1 a = some u ∧ Mut (some u) ∧ ∀ od, Q x (upd H1 a (.frz od u))) := by
  refine ⟨fun pins s σ H Q I hw => ?_⟩
  refine thn (h.run pins s σ H _ I hw) fun v s1 ⟨x, H1, I1, r, a, u, ex, hu, hm, q⟩ => ?_
  obtain ⟨od, I2⟩ := I1.lock hu hm
  exact ⟨x, _, I2, r, q od⟩
theorem Unl.holdR {P : Addr → Prop} {B1 Z1 H1 : Hp} {env1 : DEnv} {Fs1 : Nat → List Addr} {u : DEnv → DEnv} {F : List Addr} (w : Unl G B Z H σ env P B1 Z1 H1 env1 Fs1 u) (hd : ∀ a, a ∈ F → ¬ InF Fs1 a) : Unl G B Z H σ env P (lay B1 H1 F) Z1 H1 env1 Fs1 u := by
  have g := w.good
  have up : Same B1 (lay B1 H1 F) := lay_up g.sb
  have le : Same (lay B1 H1 F) H1 := lay_le g.sb
  refine ⟨⟨le, g.sz, g.len, fun j => ?_, g.nd, g.dj, fun i a m => ⟨?_, (g.fr i a m).2⟩, g.z0⟩, w.bb.trans up, w.hh, fun Z2 H2 σ2 e2 F2 s => ?_⟩
  · have h := g.sl j
    have j1 : Same (joi B1 Z1) (joi (lay B1 H1 F) Z1) := joi_mono up (Same.refl Z1) le g.sz
    unfold SlotOk at h ⊢
    match hs : env1[j]?, h with
    | some (some (.own, d)), h => exact h
    | some (some (.io, d)), h => exact h
    | some (some (.shr, d)), h => exact h
    | some (some (.brw, d)), h => obtain ⟨v, e, h, f⟩ := h; exact ⟨v, e, Own.keep j1 d v [] (fun _ _ e _ => e) h, f⟩
    | some (some (.lck, d)), h => obtain ⟨v, e, h, f⟩ := h; exact ⟨v, e, Own.keep j1 d v [] (fun _ _ e _ => e) h, f⟩
    | some none, h => exact h
    | none, h => exact h
  · rw [lay_out fun n => hd a n ⟨i, m⟩]
    exact (g.fr i a m).1
  · obtain ⟨F3, s3, h3⟩ := w.out _ _ _ _ _ (s.unB g up g.pm)
    refine ⟨F3, s3, fun a n b => h3 a n ?_⟩
    cases q : B1 a with
    | none => rfl
    | some o =>
      have := up a o q
      rw [b] at this; cases this
def itemsD (ks : List Key) (vs : List D) : List D := (ks.zip vs).map fun p => .tup [toKD p.1, p.2]
def mkItems : List D → Option (List D)
  | [.dk ks vs] => if ks.length = vs.length ∧ D.pureL vs = true then some (itemsD ks vs) else none
  | _ => none
theorem i_items {elts : List Expr} {kk : Nat} {tpos apos cpos : Pos} {e : Expr} {f : DEnv → Out (D × DEnv)} (he : PE X e (TV G W f)) (hbase : attributeBase e "items" X.env (eval e X.env) = eval e X.env := by rfl) (hline : (apos.endLine == cpos.line) = true := by rfl) :
    PI X (.Tuple elts kk tpos) (.Call (.Attribute e "items" apos) [] [] cpos) (TSrc G W [.own f] mkItems) :=
  (pi_items (pe_frz he) hbase hline).imp fun σ H R ⟨B, Z, Fs, env, g, q⟩ => by
    refine ⟨B, Z, Fs, env, g, ?_⟩
    have e0 : evO [.own f] env = (f env >>= fun p => .ok ([p.1], [], p.2)) := rfl
    rw [e0] at q
    unfold FinV
    cases hf : f env with
    | bad => rw [hf] at q; exact q.elim
    | exc c => rw [hf] at q; exact q
    | ok p =>
      obtain ⟨d, e1⟩ := p
      rw [hf] at q
      have q : ∃ xs, mkItems [d] = some xs ∧ ∀ B1 Z1 H1 Fs1 J, Unl G B Z H σ env (InF Fs) B1 Z1 H1 e1 Fs1 (unlk []) → IterOk G (joi B1 Z1) H1 J xs → R J H1 := q
      obtain ⟨xs, hx, q⟩ := q
      intro v Z' H' Fs' F p
      unfold mkItems at hx
      split at hx
      · rename_i ks vs e
        cases e
        split at hx
        · rename_i hc
          cases hx
          have hown := p.one
          obtain ⟨a, us, F', rfl, l, n, o⟩ := hown
          rcases n with ⟨z, _⟩ | ⟨rfl, hH⟩
          · rw [p.st.good.z0] at z; cases z
          · obtain ⟨rfl, o2⟩ := OwnL.ofPure (Z' := H') vs us F' hc.2 o
            refine ⟨a, _, rfl, hH, trivial, fun od => ⟨a, od, ks.zip us, rfl, upd_same, ?_⟩⟩
            have gd := p.st.good
            have hna : ¬ InF Fs' a := p.dj a List.mem_cons_self
            have hfr := p.fr a List.mem_cons_self
            generalize hH2 : upd H' a (.frz od (.dK (ks.zip us))) = H2
            have hat : H2 a = some (.frz od (.dK (ks.zip us))) := by rw [← hH2]; exact upd_same
            have hne : ∀ b, b ≠ a → H2 b = H' b := fun b hb => by rw [← hH2]; exact upd_ne hb
            have nt : ∀ (b : Addr) (w : HO), H' b = some w → Still w → b ≠ a := fun b w e st z => by
              rw [z, hH] at e; cases e; exact st trivial
            have sb : Same B H2 := fun b u e => by
              rw [hne b (fun z => by rw [z, hfr.1] at e; cases e)]
              exact gd.sb b u e
            have sz : Same Z' H2 := fun b u e => by rw [gd.z0] at e; cases e
            have st2 : Stp G B Z' H' σ e1 (fun b => InF Fs' b ∨ b ∈ [a]) Z' H2 σ e1 Fs' := by
              refine ⟨Same.refl Z', fun b u e n => ?_, ⟨sb, sz, gd.len, fun i => (gd.sl i).keep gd.sb gd.sz sb sz (Same.refl Z') fun b u e m => ?_, gd.nd, gd.dj, gd.fr, gd.z0⟩, fun b m => .inr (.inl m), fun _ m => .inl m, fun j d e => ⟨⟨d, e⟩, rfl⟩, fun j d e => ⟨e, rfl⟩, fun j d e => ⟨e, rfl⟩, fun j d e => ⟨e, rfl⟩, rfl⟩
              · rw [hne b (fun z => n (.inr (by rw [z]; exact List.mem_cons_self)))]
                exact e
              · rw [hne b (fun z => ?_)]
                · exact e
                · rcases m with m | nm
                  · exact hna ⟨i, by rw [← z]; exact m⟩
                  · exact nt b u e nm z
            have st3 := p.st.trans (P1 := fun b => InF Fs' b ∨ b ∈ [a]) (fun b m => m.elim (p.st.new b) (p.new b)) st2
            have w := ((Unl.refl g).step st3).holdR (F := [a]) (fun b m => by rw [List.mem_singleton.mp m]; exact hna)
            refine q _ _ _ _ _ w fun i H3 y t => ?_
            have hB : joi (lay B H2 [a]) Z' a = some (.frz od (.dK (ks.zip us))) := by
              refine joi_left a _ ?_
              rw [lay_in List.mem_cons_self]
              exact hat
            have h3 := y a _ hB
            have o3 : OwnL G (joi (lay B H2 [a]) Z') H3 vs us [] := by
              refine OwnL.keepT (Same.refl _) (TK.trans ?_ t) (OwnL.pure_any (Z' := joi (lay B H2 [a]) Z') hc.2 o2)
              intro b u e st
              rw [hne b (nt b u e st)]
              exact e
            refine ⟨fun x e => ?_, fun hl => ⟨h3, ?_⟩⟩
            · unfold itemsD at e
              rw [List.getElem?_map] at e
              obtain ⟨⟨k, dv⟩, he, rfl⟩ := map_some2 e
              have hk : ks[i]? = some k ∧ vs[i]? = some dv := List.getElem?_zip_eq_some.mp he
              obtain ⟨vv, ev, hv⟩ := OwnL.at o3 hk.2
              have hz : (ks.zip us)[i]? = some (k, vv) := List.getElem?_zip_eq_some.mpr ⟨hk.1, ev⟩
              have hlt : i < (ks.zip us).length := (List.getElem?_eq_some_iff.mp hz).1
              refine ⟨⟨h3, hlt⟩, fun w H4 yy => ?_⟩
              obtain ⟨T, k2, v2, hz2, rfl, hT, eH⟩ := yy
              rw [hz] at hz2
              cases hz2
              exact pair_new hT eH (toKD_own k) hv
            · have : (itemsD ks vs).length = ks.length := by unfold itemsD; simp [hc.1]
              rw [hl, this]
              simp [l]
        · cases hx
      · cases hx
end
end DL

/-! max and min with a default */ -/
namespace DL
open PySem PySem.Spec PyProof.Rows L2
def maxDI (d : Int) : List Int → Int
  | [] => d
  | n :: r => r.foldl max n
def minDI (d : Int) : List Int → Int
  | [] => d
  | n :: r => r.foldl min n
theorem dpAll_ints {K : PySem.W.Frag} {H : Hp} : ∀ ns : List Int, DpAll K H (ns.map V.int) (ns.map .int)
  | [] => .nil
  | n :: ns => .cons (.int n) (dpAll_ints ns)
theorem alike_ints2 (ns : List Int) : PySem.W.AlikeAll (ns.map PyData.int) := by
  refine ⟨fun x hx y hy => ?_, fun x hx => ?_⟩
  · obtain ⟨a, _, rfl⟩ := List.mem_map.mp hx
    obtain ⟨b, _, rfl⟩ := List.mem_map.mp hy
    rfl
  · obtain ⟨a, _, rfl⟩ := List.mem_map.mp hx
    exact nofun
section
variable {G : Gc} {W : Wsh} {X : Cx}
def rMaxD (K : PySem.W.Frag) (f : Int → List Int → Int) : List V → List V → Hp → VK → Prop := fun xs zs H Q => ∃ (a : Addr) (ns : List Int) (d : Int), xs = [.ref a] ∧ zs = [.int d] ∧ SqL K H a (ns.map V.int) ∧ Q (.int (f d ns)) H
theorem cr_maxD (hc : X.calm = true) (hu : X.A.units + 64 < cLine) : CallRK X (.builtin "max") [Str.ofString "default"] (rMaxD X.K maxDI) := by
  intro pins s σ H xs zs us ws Q I r1 r2 h
  obtain ⟨a, ns, d, rfl, rfl, hs, q⟩ := h
  obtain ⟨u, rfl, rx⟩ := vals1 r1
  obtain ⟨w, rfl, t, rfl⟩ := vals1 r2
  cases rx
  obtain ⟨its, rv, pl, _⟩ := I.list hs
  obtain ⟨as, hr⟩ := Dp.readsAll I (ns.map .int) _ its (dpAll_ints ns) rv
  refine PySem.W.max_list_default (xs := ns.map .int) (I.ok.hd hc) pl.isList hr (alike_ints2 ns) (by have := PySem.W.depth_ints ns; omega) (fun h0 h2 tk hk => ?_) fun y ys i v h2 tk bs e hv hrd hk => ?_
  · have : ns = [] := by simpa using h0
    subst this
    exact ⟨.int d, H, I.kept hk, ⟨t, rfl⟩, q⟩
  · cases ns with
    | nil => cases e
    | cons n ns =>
      cases e
      rw [PySem.W.maxD_ints] at hrd
      cases hrd with
      | int t => exact ⟨.int _, H, I.kept hk, ⟨_, rfl⟩, q⟩
theorem cr_minD (hc : X.calm = true) (hu : X.A.units + 64 < cLine) : CallRK X (.builtin "min") [Str.ofString "default"] (rMaxD X.K minDI) := by
  intro pins s σ H xs zs us ws Q I r1 r2 h
  obtain ⟨a, ns, d, rfl, rfl, hs, q⟩ := h
  obtain ⟨u, rfl, rx⟩ := vals1 r1
  obtain ⟨w, rfl, t, rfl⟩ := vals1 r2
  cases rx
  obtain ⟨its, rv, pl, _⟩ := I.list hs
  obtain ⟨as, hr⟩ := Dp.readsAll I (ns.map .int) _ its (dpAll_ints ns) rv
  refine PySem.W.min_list_default (xs := ns.map .int) (I.ok.hd hc) pl.isList hr (alike_ints2 ns) (by have := PySem.W.depth_ints ns; omega) (fun h0 h2 tk hk => ?_) fun y ys i v h2 tk bs e hv hrd hk => ?_
  · have : ns = [] := by simpa using h0
    subst this
    exact ⟨.int d, H, I.kept hk, ⟨t, rfl⟩, q⟩
  · cases ns with
    | nil => cases e
    | cons n ns =>
      cases e
      rw [PySem.W.minD_ints] at hrd
      cases hrd with
      | int t => exact ⟨.int _, H, I.kept hk, ⟨_, rfl⟩, q⟩
def fMaxD (f : Int → List Int → Int) (a d : D) : Option D := match a, d with
  | .lst xs, .int d => (D.ints xs).map fun ns => .int (f d ns)
  | _, _ => none
abbrev gMaxD := bin (fMaxD maxDI)
abbrev gMinD := bin (fMaxD minDI)
def rMaxD2 (K : PySem.W.Frag) (f : Int → List Int → Int) : List V → Hp → VK → Prop := fun vs H Q => match vs with
  | [x, d] => rMaxD K f [x] [d] H Q
  | _ => False
theorem rop_maxD {f : Int → List Int → Int} : ROp G (rMaxD2 G.K f) (bin (fMaxD f)) := by
  intro ds vs H Q d h e q
  obtain ⟨a, b, rfl, e⟩ := bin_some e
  obtain ⟨x, y, rfl, h1, h2⟩ := own2 h
  replace e : fMaxD f a b = some d := e
  unfold fMaxD at e
  split at e
  · obtain ⟨ns, hn, rfl⟩ := map_some2 e
    obtain ⟨p, rfl, hs⟩ := lst_ints h1 hn
    exact ⟨p, ns, _, rfl, by rw [h2.1], hs, done0 q fun Z => ⟨rfl, rfl⟩⟩
  · cases e
variable {e dd : Expr} {te td : TE} {p pos kpos : Pos}
theorem e_maxD (dx : DX X G) (hg : Gl X "max") (hm : X.mg "max" = none) (c : Chn) (he : PE X e te) (hd : PE X dd td) (hc : c.tes G W = [te, td] := by rfl) (hn : c.iofs.any id = false := by rfl) (hs : starEach [e] X.env = (false, eval e X.env) :: starEach [] X.env := by rfl)
    (he2 : backTo pos (starEach [e] X.env) = (false, eval e X.env) :: backTo pos (starEach [] X.env) := by rfl) (hpl : (backTo pos (starEach [e] X.env)).any (·.1) = false := by rfl)
    (hall : (backToKw pos (keywordEach [⟨some "default", dd, kpos⟩] X.env)).all (·.1.isSome) = true := by rfl) (hnone : (backToKw pos (keywordEach [⟨some "default", dd, kpos⟩] X.env)).any (·.1.isNone) = false := by rfl) (hks : (backToKw pos (keywordEach [⟨some "default", dd, kpos⟩] X.env)).filterMap (·.1) = [Str.ofString "default"] := by rfl) :
    PE X (.Call (.Name "max" p) [e] [⟨some "default", dd, kpos⟩] pos) (TV G W (eOp c gMaxD)) :=
  (pe_callBK (cr_maxD dx.calm (by have := dx.un; omega)) hg hm bt_max (pa_cons he pa_nil hs) (pk_cons hd pk_nil) (by decide) (by decide) he2 hpl hall hnone hks).imp fun σ H Q h => by
    have q := tv_op (r := rMaxD2 X.K maxDI) (by rw [dx.K]; exact rop_maxD) hn σ H Q h
    rw [hc] at q
    exact q
theorem e_minD (dx : DX X G) (hg : Gl X "min") (hm : X.mg "min" = none) (c : Chn) (he : PE X e te) (hd : PE X dd td) (hc : c.tes G W = [te, td] := by rfl) (hn : c.iofs.any id = false := by rfl) (hs : starEach [e] X.env = (false, eval e X.env) :: starEach [] X.env := by rfl)
    (he2 : backTo pos (starEach [e] X.env) = (false, eval e X.env) :: backTo pos (starEach [] X.env) := by rfl) (hpl : (backTo pos (starEach [e] X.env)).any (·.1) = false := by rfl)
    (hall : (backToKw pos (keywordEach [⟨some "default", dd, kpos⟩] X.env)).all (·.1.isSome) = true := by rfl) (hnone : (backToKw pos (keywordEach [⟨some "default", dd, kpos⟩] X.env)).any (·.1.isNone) = false := by rfl) (hks : (backToKw pos (keywordEach [⟨some "default", dd, kpos⟩] X.env)).filterMap (·.1) = [Str.ofString "default"] := by rfl) :
    PE X (.Call (.Name "min" p) [e] [⟨some "default", dd, kpos⟩] pos) (TV G W (eOp c gMinD)) :=
  (pe_callBK (cr_minD dx.calm (by have := dx.un; omega)) hg hm bt_min (pa_cons he pa_nil hs) (pk_cons hd pk_nil) (by decide) (by decide) he2 hpl hall hnone hks).imp fun σ H Q h => by
    have q := tv_op (r := rMaxD2 X.K minDI) (by rw [dx.K]; exact rop_maxD) hn σ H Q h
    rw [hc] at q
    exact q
end
end DL

/-! a list in a tuple, emptied -/
namespace DL
open PySem PySem.Spec PyProof.Rows L2
section
variable {G : Gc} {W : Wsh} {B Z H : Hp} {σ : L2.St} {env : DEnv} {Fs : Nat → List Addr} {X : Cx}
theorem mut_fin3 {T : List Addr} {Y : Hp} {its : List (Bool × D)} {vs : List V} (gd : Good G B Z H σ env Fs) (hd : Hand G B Z H Y Fs its vs T) {a : Addr} {u u2 : HO} {d2 : D} {v : V} (ha : a ∈ T) (hH : H a = some u) (hM : Mut (some u)) (o2 : Own G Z (upd H a u2) d2 v [a]) {Q : VK}
    (hF : FinO G W B Z H σ env (PT_ Fs T) [v] (.ok (.non, [d2], env)) Q) : Q .non (upd H a u2) := by
  have sb : Same B (upd H a u2) := fun b u e => by
    rw [upd_ne (fun z => by rw [z, (hd.fr a ha).1] at e; cases e)]
    exact gd.sb b u e
  have sz : Same Z (upd H a u2) := fun b u e => by rw [gd.z0] at e; cases e
  have nt : ∀ (b : Addr) (w : HO), H b = some w → Still w → b ≠ a := fun b w e st z => by
    rw [z, hH] at e; cases e; exact st hM
  have st : Stp G B Z H σ env (PT_ Fs T) Z (upd H a u2) σ env Fs := by
    refine ⟨Same.refl Z, fun b u e n => ?_, ⟨sb, sz, gd.len, fun i => (gd.sl i).keep gd.sb gd.sz sb sz (Same.refl Z) fun b u e m => ?_, gd.nd, gd.dj, gd.fr, gd.z0⟩, fun b m => .inr (.inl m), fun _ m => .inl m, fun j d e => ⟨⟨d, e⟩, rfl⟩, fun j d e => ⟨e, rfl⟩, fun j d e => ⟨e, rfl⟩, fun j d e => ⟨e, rfl⟩, rfl⟩
    · rw [upd_ne (fun z => n (.inr (by rw [z]; exact ha)))]
      exact e
    · rw [upd_ne (fun z => ?_)]
      · exact e
      · rcases m with m | nm
        · exact hd.dj a ha ⟨i, by rw [← z]; exact m⟩
        · exact nt b u e nm z
  refine hF .non Z _ Fs [a] ⟨st, ⟨.non, [v], [], [a], rfl, rfl, ⟨rfl, rfl⟩, ⟨v, [], [a], [], rfl, by simp, o2, rfl, rfl⟩⟩, one_nodup, fun b m => by rw [List.mem_singleton.mp m]; exact hd.dj a ha, fun b m => by rw [List.mem_singleton.mp m]; exact hd.fr a ha, fun b m => by rw [List.mem_singleton.mp m]; exact .inr (.inr ha)⟩
def clr1K : Kn := fun ds e => match ds with
  | [.tupF f [d0, .lst xs]] => if d0.pure = true then .ok (.non, [.tupF f [d0, .lst []]], e) else .bad
  | _ => .bad
def rClr1 (K : PySem.W.Frag) : List V → Hp → VK → Prop := fun vs H Q => ∃ a v0 l xs, vs = [.ref a] ∧ SqT K H a [v0, .ref l] ∧ H l = some (.lst xs) ∧ Q .non (upd H l (.lst []))
theorem k_clr1 : KOk G W [true] [true] (rClr1 G.K) clr1K := by
  intro B Z H σ env Fs its vs T ios Q gd hd hb hn hF
  obtain ⟨d1, rfl⟩ := its1 hb
  unfold clr1K at hF
  split at hF
  · rename_i f d0 xs e
    cases e
    split at hF
    · rename_i hp
      obtain ⟨v, rfl, a, ws, rfl, ht, o⟩ := hand1 hd.own
      obtain ⟨v0, r, F1, F2, rfl, rfl, o0, o1⟩ := o
      obtain ⟨v1, r1, F3, F4, rfl, rfl, ol, rfl, rfl⟩ := o1
      obtain ⟨rfl, _⟩ := Own.ofPure (Z' := Z) d0 v0 F1 hp o0
      obtain ⟨l, us, F', rfl, rfl, hH, _⟩ := ol.alive gd.z0
      subst hn
      refine ⟨a, v0, l, us, rfl, ht.seq, hH, ?_⟩
      have nl : ∀ (b : Addr) (w : HO), H b = some w → Still w → b ≠ l := fun b w e st z => by
        rw [z, hH] at e; cases e; exact st trivial
      have kp : ∀ (b : Addr) (w : HO), H b = some w → Still w → upd H l (.lst []) b = some w := fun b w e st => by
        rw [upd_ne (nl b w e st)]; exact e
      refine mut_fin3 gd hd (by simp) hH trivial ?_ hF
      refine ⟨a, [v0, .ref l], rfl, ht.keep kp, v0, [.ref l], [], [l], rfl, rfl, ?_, .ref l, [], [l], [], rfl, rfl, ⟨l, [], [], rfl, .inr ⟨rfl, upd_same⟩, rfl, rfl⟩, rfl, rfl⟩
      exact Own.keep (Same.refl Z) d0 v0 [] (fun b w e m => kp b w e (m.elim (fun m => (by cases m)) id)) o0
    · exact hF.elim
  · exact hF.elim
theorem e_clr1 {o i : Expr} {apos cpos spos : Pos} {j : Nat} (dx : DX X G) (ho : PE X o (tVar j)) (hi : PE X i (tC (.int 1))) (hs : PlainIx i := by exact fun _ _ => rfl)
    (hbase : attributeBase (.Subscript o i spos) "clear" X.env (eval (.Subscript o i spos) X.env) = eval (.Subscript o i spos) X.env := by rfl) (hline : (apos.endLine == cpos.line) = true := by rfl) : PE X (.Call (.Attribute (.Subscript o i spos) "clear" apos) [] [] cpos) (TV G W (eK (.io j (.fin [])) clr1K)) :=
  (pe_bm0 F.plainAttrs_list F.slot_list_clear F.type_list_clear mt_clear (pe_ix ix_tup ho hi hs) hbase hline).imp fun σ H Q h => by
    obtain ⟨v, ev, q⟩ := tv_chn (c := .io j (.fin [])) k_clr1 rfl rfl σ H Q h
    obtain ⟨a, v0, l, xs, e, h1, h2, q⟩ := q
    cases e
    exact ⟨_, ev, a, [v0, .ref l], 1, .ref l, rfl, rfl, by rw [dx.K]; exact h1, rfl, .inl ⟨rfl, xs, SqL.of h2⟩, l, xs, rfl, rfl, h2, q⟩
end
end DL

/-! tuples known to be plain: displays, +, count -/
namespace DL
open PySem PySem.Spec PyProof.Rows L2
section
variable {G : Gc} {W : Wsh} {X : Cx}
/-! ### displays -/
def tTupX (t : TA) : TE := fun σ H Q => t σ H fun xs H1 => xs.length ≤ sizeLine ∧ ∀ p (o : Obj), H1 p = none → o.dict = none → Q (.ref p) (upd H1 p (.frz o (.tup xs)))
theorem pe_tupX {x1} {es : List Expr} {t : TA} {pos : Pos} (h : PA X es t) : PE X (.Tuple es x1 pos) (tTupX t) := by
  refine ⟨fun pins s σ H Q I hq => ?_⟩
  refine wpAny_Tuple_spliced (thn (h.run pos pins s σ H _ I hq) fun us s1 ⟨xs, H1, I1, r, z, q⟩ => ⟨by rw [← r.length]; exact z, ?_⟩)
  have hf : H1 s1.heap.objs.size = none := I1.hok.fresh (Nat.le_refl _)
  refine ⟨.ref s1.heap.objs.size, upd H1 s1.heap.objs.size (.frz { cls := .type "tuple", data := .seq us.toArray } (.tup xs)), I1.laid (t' := s1.toks) (fun b u e => Heap.get?_push_of_some _ e) (Nat.le_refl _) ?_, rfl, q _ _ hf rfl⟩
  exact ⟨Heap.get?_push_size _ rfl, z, us, r, ⟨_, Heap.get?_push_size _ rfl, rfl, _, rfl⟩⟩
def fTupP (ds : List D) : Option D := iff? (D.pureL ds = true ∧ ds.length ≤ 16777216) (.tupF true ds)
theorem rop_tupP : ROp G (fun vs H Q => vs.length ≤ sizeLine ∧ ∀ p (o : Obj), H p = none → o.dict = none → Q (.ref p) (upd H p (.frz o (.tup vs)))) fTupP := by
  intro ds vs H Q d h e q
  obtain ⟨⟨hp, hl⟩, rfl⟩ := iff?_some e
  refine ⟨by rw [← size_line, OwnL.length h]; exact hl, fun p o hn hd => ?_⟩
  exact q _ _ [] (same_upd hn) (fun Z => ⟨p, vs, rfl, ⟨o, hd, upd_same⟩, OwnL.keep (Same.refl Z) ds vs [] (fun b u e _ => same_upd hn b u e) (OwnL.pure_any hp h)⟩) List.nodup_nil fun a m => by cases m
theorem pure_tupP : PureG fTupP := fun ds d e => by
  obtain ⟨⟨hp, hl⟩, rfl⟩ := iff?_some e
  exact hp
theorem p_tupP {es : List Expr} {t : TA} {hs : List SArg} {k : Nat} {pos : Pos} (h : PA X es t) (ht : t = seqTE (hs.map (SArg.te G)) := by rfl) : PE X (.Tuple es k pos) (TPur G (hOp hs fTupP)) :=
  (pe_tupX h).imp fun σ H Q hq => by
    subst ht
    exact tpur_op rop_tupP pure_tupP σ H Q hq
/-! ### + -/
def rCatX (K : PySem.W.Frag) : R2 := fun x y H Q => ∃ a b xs ys, x = .ref a ∧ y = .ref b ∧ SqT K H a xs ∧ SqT K H b ys ∧ xs.length + ys.length ≤ sizeLine ∧
  (xs = [] → Q (.ref b) H) ∧ (xs ≠ [] → ys = [] → Q (.ref a) H) ∧ (xs ≠ [] → ys ≠ [] → ∀ p (o : Obj), H p = none → o.dict = none → Q (.ref p) (upd H p (.frz o (.tup (xs ++ ys)))))
theorem op_catX : OpR X (binaryOp .Add) (rCatX X.K) := by
  intro pins s σ H x y v u Q I rx ry h
  obtain ⟨a, b, xs, ys, rfl, rfl, ha, hb, hz, q0, q1, q2⟩ := h
  by_cases hx : xs = []
  · exact op_catA pins s σ H _ _ v u Q I rx ry ⟨a, b, xs, ys, rfl, rfl, ha, hb, hz, q0, q1, fun z => absurd hx z⟩
  · by_cases hy : ys = []
    · exact op_catA pins s σ H _ _ v u Q I rx ry ⟨a, b, xs, ys, rfl, rfl, ha, hb, hz, q0, q1, fun _ z => absurd hy z⟩
    · cases rx
      cases ry
      obtain ⟨its, r1, p1, _⟩ := I.tuple ha
      obtain ⟨its2, r2, p2, _⟩ := I.tuple hb
      refine HT.cat_tup p1 p2 (fun z => hx (r1.nil_iff.mp z)) (fun z => absurd (r2.nil_iff.mp z) hy) (fun z => ?_) (by rw [← r1.length, ← r2.length]; exact hz)
      refine ⟨.ref s.heap.objs.size, _, I.laid (t' := s.toks) (o := .frz { cls := .type "tuple", data := .seq (its ++ its2).toArray } (.tup (xs ++ ys))) (fun b ob q => Heap.get?_push_of_some _ q) (Nat.le_refl _) ?_, rfl, q2 hx hy _ _ (I.hok.fresh (Nat.le_refl _)) rfl⟩
      exact ⟨Heap.get?_push_size _ rfl, by rw [List.length_append]; exact hz, _, r1.append r2, IsTup.new _ _⟩
def fAddX (a b : D) : Option D := match a, b with
  | .tupF true x, .tupF true y => iff? (D.pureL x = true ∧ D.pureL y = true ∧ x.length + y.length ≤ 16777216) (.tupF true (x ++ y))
  | _, _ => none
abbrev gAddX := bin fAddX
theorem fAddX_some {a b d : D} (h : fAddX a b = some d) : ∃ x y, a = .tupF true x ∧ b = .tupF true y ∧ (D.pureL x = true ∧ D.pureL y = true ∧ x.length + y.length ≤ 16777216) ∧ d = .tupF true (x ++ y) := by
  unfold fAddX at h
  split at h
  · obtain ⟨h1, rfl⟩ := iff?_some h
    exact ⟨_, _, rfl, rfl, h1, rfl⟩
  · cases h
theorem rop_addX : ROp G (l2 (rCatX G.K)) gAddX := by
  intro ds vs H Q d h e q
  obtain ⟨a, b, rfl, e⟩ := bin_some e
  obtain ⟨x, y, rfl, h1, h2⟩ := own2 h
  obtain ⟨a, b, rfl, rfl, hl, rfl⟩ := fAddX_some e
  obtain ⟨p, us, rfl, e1, o1⟩ := h1
  obtain ⟨p2, us2, rfl, e2, o2⟩ := h2
  have l1 := OwnL.length o1
  have l2 := OwnL.length o2
  refine ⟨p, p2, us, us2, rfl, rfl, e1.seq, e2.seq, by rw [← size_line, l1, l2]; exact hl.2.2, fun z => ?_, fun _ z => ?_, fun _ _ p3 o hn hd => ?_⟩
  · subst z
    have : a = [] := List.eq_nil_of_length_eq_zero l1.symm
    subst this
    exact done0 q (fun Z => ⟨p2, us2, rfl, e2, OwnL.pure_any hl.2.1 o2⟩)
  · subst z
    have : b = [] := List.eq_nil_of_length_eq_zero l2.symm
    subst this
    rw [List.append_nil] at q
    exact done0 q (fun Z => ⟨p, us, rfl, e1, OwnL.pure_any hl.1 o1⟩)
  · have hpp : D.pureL (a ++ b) = true := by rw [D.pureL_append, hl.1, hl.2.1]; rfl
    have hap := OwnL.append o1 o2
    rw [List.append_nil] at hap
    exact q _ _ [] (same_upd hn) (fun Z => ⟨p3, us ++ us2, rfl, ⟨o, hd, upd_same⟩, OwnL.keep (Same.refl Z) (a ++ b) (us ++ us2) [] (fun b u e _ => same_upd hn b u e) (OwnL.pure_any hpp hap)⟩) List.nodup_nil fun a m => by cases m
theorem pure_addX : PureG gAddX := by
  intro ds d e
  obtain ⟨a, b, rfl, e⟩ := bin_some e
  obtain ⟨a, b, rfl, rfl, hl, rfl⟩ := fAddX_some e
  show D.pureL (a ++ b) = true
  rw [D.pureL_append, hl.1, hl.2.1]; rfl
/-! ### count -/
def rTCnt (K : PySem.W.Frag) : V → List V → Hp → VK → Prop := fun x xs H Q => ∃ (p : Addr) (ys : List Str) (z : Str), x = .ref p ∧ xs = [.str z] ∧ SqT K H p (ys.map V.str) ∧ Q (.int (ys.count z : Nat)) H
theorem eqU_strs {z : Str} : ∀ {ys : List Str} {us : List Value}, Vals (ys.map V.str) us → us.countP (eqU (.str z)) = ys.count z
  | [], _, .nil => rfl
  | y :: ys, _, .cons r t => by
    have ih := eqU_strs (z := z) t
    obtain ⟨k, rfl⟩ := r
    rw [List.countP_cons, List.count_cons, ih]
    rfl
theorem mt_tup_count : MtR X "tuple.count" (rTCnt X.K) := by
  intro pins s σ H x xs v us Q I rx rs h
  obtain ⟨p, ys, z, rfl, rfl, hq, q⟩ := h
  cases rx
  obtain ⟨u, rfl, t, rfl⟩ := vals1 rs
  obtain ⟨its, r, pl, hz⟩ := I.tuple hq
  obtain ⟨⟨cls, dd, dt, sl⟩, ho, hc, n, hd⟩ := pl
  simp only at hc hd
  subst hc
  subst hd
  refine call_meets PySem.F.slot_tuple_count ⟨_, ho, rfl⟩ PySem.F.entry_tuple_count (PySem.F.args_tuple_count_2 _ _) (SeqAt.tuple_countAt p its.toArray n dd sl (.str z t) (eqU (.str z)))
    ⟨ho, fun w hw => mem_eqAt (x := .str z) ⟨t, rfl⟩ rfl r (flat_strs ys) w (by simpa using hw), ⟨.int (ys.count z : Nat), H, I.tok _, ⟨s.toks, ?_⟩, q⟩⟩
  show Value.int ((its.toArray.toList.countP (eqU (.str z)) : Nat) : Int) s.toks = Value.int ((ys.count z : Nat) : Int) s.toks
  rw [show its.toArray.toList = its from rfl, eqU_strs r]
def fTCnt (a b : D) : Option D := match a, b with
  | .tupF true xs, .str z => (D.strs xs).map fun ys => .int (ys.count z : Nat)
  | _, _ => none
abbrev gTCnt := bin fTCnt
theorem rop_tCnt {Y : Cx} (hY : Y.K = G.K) : ROp G (rvM (rTCnt Y.K)) gTCnt := by
  intro ds vs H Q d h e q
  obtain ⟨a, b, rfl, e⟩ := bin_some e
  obtain ⟨x, y, rfl, h1, h2⟩ := own2 h
  replace e : fTCnt a b = some d := e
  unfold fTCnt at e
  split at e
  · rename_i xs z _
    obtain ⟨ys, hy, rfl⟩ := map_some2 e
    obtain ⟨p, ws, rfl, hs, o⟩ := h1
    have := strs_own hy o
    subst this
    exact ⟨p, ys, z, rfl, by rw [h2.1], by rw [hY]; exact hs.seq, done0 q fun Z => ⟨rfl, rfl⟩⟩
  · cases e
theorem pure_tCnt : PureG gTCnt := by
  intro ds d e
  obtain ⟨a, b, rfl, e⟩ := bin_some e
  replace e : fTCnt a b = some d := e
  unfold fTCnt at e
  split at e
  · obtain ⟨ys, hy, rfl⟩ := map_some2 e
    rfl
  · cases e
variable {o e : Expr} {es : List Expr} {t : TA} {apos cpos : Pos} {h : DEnv → Option D} {hs : List SArg}
theorem p_tCnt (dx : DX X G) (ho : PE X o (TPur G h)) (ha : PA X (e :: es) t)
    (ht : t = seqTE (hs.map (SArg.te G)) := by rfl) (hbase : attributeBase o "count" X.env (eval o X.env) = eval o X.env := by rfl)
    (hfew : ((backTo cpos (starEach (e :: es) X.env)).all (fun x => !x.1) && (backToKw cpos (keywordEach [] X.env)).all (fun x => x.1.isSome)
      && decide ((e :: es).length + ([] : List Keyword).length + (if ([] : List Keyword).isEmpty then 0 else 1) < 30)) = true := by rfl)
    (hline : (apos.endLine == cpos.line) = true := by rfl) (hst : starEach (e :: es) X.env = (false, eval e X.env) :: starEach es X.env := by rfl) (hplain : (backTo cpos (starEach es X.env)).any (·.1) = false := by rfl) :
    PE X (.Call (.Attribute o "count" apos) (e :: es) [] cpos) (TPur G (hOp (.put h (tyD "tuple") :: hs) gTCnt)) :=
  p_mtP dx F.plainAttrs_tuple F.slot_tuple_count F.type_tuple_count mt_tup_count (rop_tCnt dx.K) pure_tCnt ho ha ht hbase hfew hline hst hplain
end
end DL

/-! x, y = a, b -/
namespace DL
open PySem PySem.Spec PyProof.Rows L2
section
variable {G : Gc} {W : Wsh} {X : Cx}
def sPar (i j : Nat) (hs : List SArg) : Stm := fun env => must (evS hs env) fun ds => if hs.all (bArg env) = true ∧ D.pureL ds = true then must (putsS [i, j] ds env) fun e => .ok (.nx e) else .bad
theorem s_par {x y : Str} {a b : Expr} {ta : TA} {px py pt pos : Pos} {kt k2 : Nat} {pt2 : Pos} (i j : Nat) (hs : List SArg) (dx : DX X G) (hi : X.N[i]? = some x) (hj : X.N[j]? = some y) (ha : PA X [a, b] ta) (hx : X.env.scope.names.lookup x = some .local) (hy : X.env.scope.names.lookup y = some .local)
    (hij : i ≠ j := by decide) (ht : ta = seqTE (hs.map (SArg.te G)) := by rfl)
    (hw : swappedStores [.Tuple [.Name x px, .Name y py] kt pt] (.Tuple [a, b] k2 pt2) X.env = pure (some [x, y]) := by rfl)
    (hsw : swapsWithSole [.Tuple [.Name x px, .Name y py] kt pt] (.Tuple [a, b] k2 pt2) pos.line X.env = pure false := by rfl) :
    PS X (.Assign [.Tuple [.Name x px, .Name y py] kt pt] (.Tuple [a, b] k2 pt2) pos) (TSt G W (sPar i j hs)) :=
  (ps_par dx.calm dx.nd hi hj hij hx hy ha hw hsw).imp fun En σ H ⟨B, Z, Fs, env, gd, q⟩ => by
    subst ht
    unfold sPar at q
    cases hev : evS hs env with
    | none => rw [hev] at q; exact q.elim
    | some ds =>
      rw [hev, must_some] at q
      split at q
      · rename_i hc
        cases hput : putsS [i, j] ds env with
        | none => rw [hput] at q; exact q.elim
        | some e2 =>
          rw [hput, must_some] at q
          refine evB_ok hs ds H _ gd hev hc.1 fun vs H1 s1 ol => ?_
          have o2 : OwnL G Z H1 ds vs [] := OwnL.pure_any hc.2 ol
          have hg := puts_ok (Q := fun σ2 H2 => En.nx σ2 H2) (gd.grow s1) o2 List.nodup_nil (fun a m => by cases m) (fun a m => by cases m) hput fun σ2 Fs2 s2 => q _ _ _ _ ((Stp.grow gd (P := InF Fs) (fun a m => m) s1).trans (fun a m => m.elim .inr fun m => (by cases m)) s2)
          obtain ⟨v, r, rfl, v2, r2, rfl, e, hq⟩ := hg
          exact ⟨v, v2, by rw [e], hq⟩
      · exact q.elim
end
end DL

/-! zip of three -/
namespace DL
open PySem PySem.Spec PyProof.Rows L2
def ItzX3 (K : PySem.W.Frag) (k1 k2 k3 : Bool) (a b c : Addr) : It :=
  ⟨fun i H => ∃ (xs ys us : List V) (x y u : V), Sq K k1 H a xs ∧ Sq K k2 H b ys ∧ Sq K k3 H c us ∧ xs[i]? = some x ∧ ys[i]? = some y ∧ us[i]? = some u,
    fun i H v H' => ∃ T x y u, v = .ref T ∧ H T = none ∧ H' = upd H T (.tup [x, y, u]) ∧ (∀ xs, Sq K k1 H a xs → xs[i]? = some x) ∧ (∀ ys, Sq K k2 H b ys → ys[i]? = some y) ∧ ∀ us, Sq K k3 H c us → us[i]? = some u,
    fun i H => ∃ xs ys us : List V, Sq K k1 H a xs ∧ Sq K k2 H b ys ∧ Sq K k3 H c us ∧ i = min (min xs.length ys.length) us.length⟩
theorem turn_zipX3 {P : Program} {w : World} {K : PySem.W.Frag} {elts : List Expr} {kk : Nat} {tpos : Pos} {k1 k2 k3 : Bool} {a b c z TI TO i1 i2 i3 : Addr} (S : ZipSep3 z TI TO i1 i2 i3 [i1, a] [i2, b] [i3, c]) (na : a ≠ i1) (nb : b ≠ i2) (nc : c ≠ i3) :
    Turn P w K (.Tuple elts kk tpos) (ItzX3 K k1 k2 k3 a b c) [z, TI, TO, i1, i2, i3] z (fun i h => IsZip h z TI TO .none ∧ IsTupOf3 h TI (.ref i1) (.ref i2) (.ref i3) ∧ (∃ x y u, IsTupOf3 h TO x y u) ∧ SqIt k1 h i1 a i ∧ SqIt k2 h i2 b i ∧ SqIt k3 h i3 c i) where
  mem := by simp
  obj := fun i h st c hc => by
    obtain ⟨hz, hTI, ⟨x, y, u, hTO⟩, t1, t2, t3⟩ := st
    have e' : c = z ∨ c = TI ∨ c = TO ∨ c = i1 ∨ c = i2 ∨ c = i3 := by simpa using hc
    rcases e' with q | q | q | q | q | q
    · subst q; exact ⟨_, hz, fun v q => nomatch q⟩
    · subst q; exact ⟨_, hTI, fun v q => nomatch q⟩
    · subst q; exact ⟨_, hTO, fun v q => nomatch q⟩
    · subst q; exact t1.obj
    · subst q; exact t2.obj
    · subst q; exact t3.obj
  keep := fun i h h' st k => by
    obtain ⟨hz, hTI, ⟨x, y, u, hTO⟩, t1, t2, t3⟩ := st
    exact ⟨k z (by simp) _ hz, k TI (by simp) _ hTI, ⟨x, y, u, k TO (by simp) _ hTO⟩, t1.at fun o q => k i1 (by simp) o q, t2.at fun o q => k i2 (by simp) o q, t3.at fun o q => k i3 (by simp) o q⟩
  item := by
    intro X hP hw hK hcm i ps sh sg H E inv hf st hg
    subst hP hw hK
    obtain ⟨hz, hTI, hTO, t1, t2, t3⟩ := st
    obtain ⟨xs, ys, us, x, y, u, hqx, hqy, hqu, hx, hy, hu⟩ := hg
    obtain ⟨its, rv, p, la⟩ := sq_items inv hqx
    obtain ⟨its2, rv2, p2, lb⟩ := sq_items inv hqy
    obtain ⟨its3, rv3, p3, lc⟩ := sq_items inv hqu
    obtain ⟨v1, hv1, ru1⟩ := rv.get hx
    obtain ⟨v2, hv2, ru2⟩ := rv2.get hy
    obtain ⟨v3, hv3, ru3⟩ := rv3.get hu
    have W := GoesN.zip3 (A := X.A) (elts := elts) (x1 := kk) (pos := tpos) S (draws_sq (prog := X.prog) (w := X.w) (A := X.A.in1) (inv.ok.hd hcm) k1 i1 a na its.toArray) (draws_sq (prog := X.prog) (w := X.w) (A := X.A.in1) (inv.ok.hd hcm) k2 i2 b nb its2.toArray) (draws_sq (prog := X.prog) (w := X.w) (A := X.A.in1) (inv.ok.hd hcm) k3 i3 c nc its3.toArray)
    have hi : i < min (min its.toArray.size its2.toArray.size) its3.toArray.size := by
      have h1 := (List.getElem?_eq_some_iff.mp hv1).1
      have h2 := (List.getElem?_eq_some_iff.mp hv2).1
      have h3 := (List.getElem?_eq_some_iff.mp hv3).1
      rw [List.size_toArray, List.size_toArray, List.size_toArray]
      omega
    have hin : ∀ c, c ∈ [z, TI, TO, i1, i2, i3] → ∃ o, sh.heap.get? c = some o := fun c hcm => by
      have e' : c = z ∨ c = TI ∨ c = TO ∨ c = i1 ∨ c = i2 ∨ c = i3 := by simpa using hcm
      obtain ⟨x0, y0, u0, hTO0⟩ := hTO
      rcases e' with q | q | q | q | q | q
      · subst q; exact ⟨_, hz⟩
      · subst q; exact ⟨_, hTI⟩
      · subst q; exact ⟨_, hTO0⟩
      · subst q; exact ⟨_, t1.obj.choose_spec.1⟩
      · subst q; exact ⟨_, t2.obj.choose_spec.1⟩
      · subst q; exact ⟨_, t3.obj.choose_spec.1⟩
    refine W.goes i sh (fun v s2 => ∃ x H', Inv X ps sg H' s2 ∧ RelV x v ∧ (ItzX3 X.K k1 k2 k3 a b c).yld i H x H' ∧ (IsZip s2.heap z TI TO .none ∧ IsTupOf3 s2.heap TI (.ref i1) (.ref i2) (.ref i3) ∧ (∃ x y u, IsTupOf3 s2.heap TO x y u) ∧ SqIt k1 s2.heap i1 a (i + 1) ∧ SqIt k2 s2.heap i2 b (i + 1) ∧ SqIt k3 s2.heap i3 c (i + 1)) ∧ ∀ c ∈ [z, TI, TO, i1, i2, i3], H' c = none) E hi ⟨hz, hTI, hTO, ⟨t1, p⟩, ⟨t2, p2⟩, t3, p3⟩ fun v h2 tk hY hst hk _ => ?_
    obtain ⟨T, w1, w2, w3, rfl, hT, g1, g2, g3, hIs⟩ := hY
    obtain ⟨hz', hTI', hTO', ⟨t1', _⟩, ⟨t2', _⟩, t3', _⟩ := hst
    have e1 : w1 = v1 := by
      have : its[i]? = some w1 := by simpa using g1
      rw [hv1] at this
      exact (Option.some.inj this).symm
    have e2 : w2 = v2 := by
      have : its2[i]? = some w2 := by simpa using g2
      rw [hv2] at this
      exact (Option.some.inj this).symm
    have e3 : w3 = v3 := by
      have : its3[i]? = some w3 := by simpa using g3
      rw [hv3] at this
      exact (Option.some.inj this).symm
    subst e1 e2 e3
    have new : ObjOk X.prog X.w (upd H T (.tup [x, y, u])) h2 T (.tup [x, y, u]) := ⟨by show 3 ≤ sizeLine; decide, [w1, w2, w3], .cons ru1 (.cons ru2 (.cons ru3 .nil)), hIs⟩
    have inv2 : Inv X ps sg (upd H T (.tup [x, y, u])) { sh with heap := h2, toks := tk } := inv.turnedNew (t' := tk) (ch := [z, TI, TO, i1, i2, i3]) (fun c o hb q => hk c o (fun m => hb (by
      have m' : c = z ∨ c = TO ∨ c = i1 ∨ c = i2 ∨ c = i3 := by simpa using m
      rcases m' with m | m | m | m | m <;> simp [m])) q) hf hT new
    refine ⟨.ref T, _, inv2, rfl, ⟨T, x, y, u, rfl, inv.hok.fresh hT, rfl, fun l hl => by rw [sq_inj inv hl hqx]; exact hx, fun l hl => by rw [sq_inj inv hl hqy]; exact hy, fun l hl => by rw [sq_inj inv hl hqu]; exact hu⟩, ⟨hz', hTI', hTO', t1', t2', t3'⟩, fun c hcm => ?_⟩
    obtain ⟨o, eo⟩ := hin c hcm
    rw [upd_ne (Nat.ne_of_lt (Nat.lt_of_lt_of_le (Heap.lt_size eo) hT))]
    exact (hf c hcm).1
  done := by
    intro X hP hw hK hcm i ps sh sg H E inv hf st hg
    subst hP hw hK
    obtain ⟨hz, hTI, hTO, t1, t2, t3⟩ := st
    obtain ⟨xs, ys, us, hqx, hqy, hqu, hend⟩ := hg
    obtain ⟨its, rv, p, la⟩ := sq_items inv hqx
    obtain ⟨its2, rv2, p2, lb⟩ := sq_items inv hqy
    obtain ⟨its3, rv3, p3, lc⟩ := sq_items inv hqu
    have W := GoesN.zip3 (A := X.A) (elts := elts) (x1 := kk) (pos := tpos) S (draws_sq (prog := X.prog) (w := X.w) (A := X.A.in1) (inv.ok.hd hcm) k1 i1 a na its.toArray) (draws_sq (prog := X.prog) (w := X.w) (A := X.A.in1) (inv.ok.hd hcm) k2 i2 b nb its2.toArray) (draws_sq (prog := X.prog) (w := X.w) (A := X.A.in1) (inv.ok.hd hcm) k3 i3 c nc its3.toArray)
    have en : min (min its.toArray.size its2.toArray.size) its3.toArray.size = i := by
      rw [List.size_toArray, List.size_toArray, List.size_toArray, ← rv.length, ← rv2.length, ← rv3.length, hend]
    refine W.stops sh (fun s2 => Inv X ps sg H s2) E (by rw [en]; exact ⟨hz, hTI, hTO, ⟨t1, p⟩, ⟨t2, p2⟩, t3, p3⟩) fun h2 tk hk _ => ?_
    exact inv.turnedL (t' := tk) (ch := [z, TI, TO, i1, i2, i3]) (fun c o hb q => hk c o (fun m => hb (by
      have m' : c = z ∨ c = TO ∨ c = i1 ∨ c = i2 ∨ c = i3 := by simpa using m
      rcases m' with m | m | m | m | m <;> simp [m])) q) hf
  self := fun A i s Q E st h => wpAny_pyIter_zip st.1 h
def rZipX3 (K : PySem.W.Frag) : List V → Hp → (It → Hp → Prop) → Prop := fun vs H1 R => ∃ a b c xs ys us k1 k2 k3, vs = [.ref a, .ref b, .ref c] ∧ Sq K k1 H1 a xs ∧ Sq K k2 H1 b ys ∧ Sq K k3 H1 c us ∧ R (ItzX3 K k1 k2 k3 a b c) H1
theorem pi_zipX3 {X : Cx} {e e2 e3 : Expr} {ta : TA} {p pos tpos : Pos} {elts : List Expr} {kk : Nat} (hg : Gl X "zip") (hm : X.mg "zip" = none) (ha : PA X [e, e2, e3] ta)
    (hs : starEach [e, e2, e3] X.env = (false, eval e X.env) :: starEach [e2, e3] X.env := by rfl) (hpl : (backTo pos (starEach [e2, e3] X.env)).any (·.1) = false := by rfl) :
    PI X (.Tuple elts kk tpos) (.Call (.Name "zip" p) [e, e2, e3] [] pos) (fun σ H R => ta σ H fun vs H1 => rZipX3 X.K vs H1 R) := by
  refine ⟨fun ps sh sg H R inv h => ?_⟩
  refine Call_ (ld_blt inv hg hm PyProof.Rows.boot_zip (PyProof.Rows.callWith_type1 (thn (ha.run pos ps sh sg H _ inv h) fun us s1 ⟨vs, H1, I1, r1, q1⟩ => ?_) hs hpl))
  obtain ⟨a, b, c, xs, ys, us, k1, k2, k3, ex, hqx, hqy, hqu, q⟩ := q1
  subst ex
  cases r1 with
  | cons r rr =>
    cases rr with
    | cons r' rr =>
      cases rr with
      | cons r'' rr =>
        cases rr
        cases r
        cases r'
        cases r''
        obtain ⟨its, rv, p1, la⟩ := sq_items I1 hqx
        obtain ⟨its2, rv2, p2, lb⟩ := sq_items I1 hqy
        obtain ⟨its3, rv3, p3, lc⟩ := sq_items I1 hqu
        obtain ⟨o1, B1, j1⟩ := begins_sq (k := k1) (h := s1.heap) (a := a) (items := its.toArray)
        obtain ⟨o2, B2, j2⟩ := begins_sq (k := k2) (h := s1.heap) (a := b) (items := its2.toArray)
        obtain ⟨o3, B3, j3⟩ := begins_sq (k := k3) (h := s1.heap) (a := c) (items := its3.toArray)
        have fresh6 : ∀ c, c ∈ [s1.heap.objs.size + 5, s1.heap.objs.size + 3, s1.heap.objs.size + 4, s1.heap.objs.size, s1.heap.objs.size + 1, s1.heap.objs.size + 2] → FpOk X ps H1 c := fun c hcm => by
          have hle : s1.heap.objs.size ≤ c := by
            simp only [List.mem_cons, List.not_mem_nil, or_false] at hcm
            rcases hcm with z | z | z | z | z | z <;> rw [z]
            · exact Nat.le_add_right _ _
            · exact Nat.le_add_right _ _
            · exact Nat.le_add_right _ _
            · exact Nat.le_refl _
            · exact Nat.le_add_right _ _
            · exact Nat.le_add_right _ _
          exact I1.fpOk hle (I1.hok.fresh hle)
        refine zip_begins3 B1 B2 B3 p1 p2 p3 fun h2 hz hTI hTO g1 g2 g3 hsz hk => wpAny_pyIter_zip hz ?_
        have I2 : Inv X ps sg H1 { s1 with heap := h2 } := I1.kept (t' := s1.toks) hk
        refine ⟨s1.heap.objs.size + 5, [s1.heap.objs.size + 5, s1.heap.objs.size + 3, s1.heap.objs.size + 4, s1.heap.objs.size, s1.heap.objs.size + 1, s1.heap.objs.size + 2], _, _, H1, rfl, I2, turn_zipX3 (k1 := k1) (k2 := k2) (k3 := k3) (zip_sep3 (N := s1.heap.objs.size) (fp1 := [a]) (fp2 := [b]) (fp3 := [c]) (fun c m => by rw [List.mem_singleton.mp m]; exact la) (fun c m => by rw [List.mem_singleton.mp m]; exact lb) (fun d m => by rw [List.mem_singleton.mp m]; exact lc)) (Nat.ne_of_lt la) (Nat.ne_of_lt (Nat.lt_succ_of_lt lb)) (Nat.ne_of_lt (Nat.lt_succ_of_lt (Nat.lt_succ_of_lt lc))), ⟨hz, hTI, ⟨_, _, _, hTO⟩, j1 _ _ g1, j2 _ _ g2, j3 _ _ g3⟩, fresh6, q⟩
/-! ### in data -/
section
variable {G : Gc}
def zipD3 : List D → List D → List D → List D
  | x :: xs, y :: ys, z :: zs => .tup [x, y, z] :: zipD3 xs ys zs
  | _, _, _ => []
theorem zipD3_length : ∀ (xs ys zs : List D), (zipD3 xs ys zs).length = min (min xs.length ys.length) zs.length
  | [], ys, zs => by simp [zipD3]
  | x :: xs, [], zs => by simp [zipD3]
  | x :: xs, y :: ys, [] => by simp [zipD3]
  | x :: xs, y :: ys, z :: zs => by
    show (zipD3 xs ys zs).length + 1 = _
    rw [zipD3_length xs ys zs, List.length_cons, List.length_cons, List.length_cons]
    omega
theorem zipD3_at : ∀ (xs ys zs : List D) (i : Nat) (r : D), (zipD3 xs ys zs)[i]? = some r → ∃ x y z, xs[i]? = some x ∧ ys[i]? = some y ∧ zs[i]? = some z ∧ r = .tup [x, y, z]
  | [], ys, zs, i, r, h => by simp [zipD3] at h
  | x :: xs, [], zs, i, r, h => by simp [zipD3] at h
  | x :: xs, y :: ys, [], i, r, h => by simp [zipD3] at h
  | x :: xs, y :: ys, z :: zs, 0, r, h => ⟨x, y, z, rfl, rfl, rfl, (Option.some.inj h).symm⟩
  | x :: xs, y :: ys, z :: zs, i + 1, r, h => zipD3_at xs ys zs i r h
def mkZip3 : List D → Option (List D)
  | [a, b, c] => match a.toSeq, b.toSeq, c.toSeq with
    | some xs, some ys, some zs => some (zipD3 xs ys zs)
    | _, _, _ => none
  | _ => none
theorem mkZip3_some {ds rs : List D} (h : mkZip3 ds = some rs) : ∃ a b c xs ys zs, rs = zipD3 xs ys zs ∧ ds = [a, b, c] ∧ a.toSeq = some xs ∧ b.toSeq = some ys ∧ c.toSeq = some zs := by
  match ds, h with
  | [a, b, c], h =>
    have h : (match a.toSeq, b.toSeq, c.toSeq with
      | some xs, some ys, some zs => some (zipD3 xs ys zs)
      | _, _, _ => none) = some rs := h
    cases ha : a.toSeq with
    | none => rw [ha] at h; cases h
    | some xs =>
      cases hb : b.toSeq with
      | none => rw [ha, hb] at h; cases h
      | some ys =>
        cases hc : c.toSeq with
        | none => rw [ha, hb, hc] at h; cases h
        | some zs =>
          rw [ha, hb, hc] at h
          cases h
          exact ⟨a, b, c, xs, ys, zs, rfl, rfl, ha, hb, hc⟩
theorem trip_new {Y H H' : Hp} {x y z : D} {u v w : V} {T : Addr} (hT : H T = none) (e : H' = upd H T (.tup [u, v, w])) (h1 : Own G Y H x u []) (h2 : Own G Y H y v []) (h3 : Own G Y H z w []) : Same H H' ∧ Own G Y H' (.tup [x, y, z]) (.ref T) [] := by
  subst e
  have s := same_upd (o := .tup [u, v, w]) hT
  exact ⟨s, T, [u, v, w], rfl, (upd_same : upd H T (.tup [u, v, w]) T = some (.tup [u, v, w])), OwnL.cons_nil (Own.keepT (Same.refl Y) (TK.of s) h1) (OwnL.cons_nil (Own.keepT (Same.refl Y) (TK.of s) h2) (OwnL.cons_nil (Own.keepT (Same.refl Y) (TK.of s) h3) ⟨rfl, rfl⟩))⟩
theorem zip3_fits : fits G (rZipX3 G.K) mkZip3 := by
  intro ds vs Y H zs R ho hy hx q
  obtain ⟨da, db, dc, xs, ys, us, rfl, rfl, ea, eb, ec⟩ := mkZip3_some hx
  obtain ⟨v, r, rfl, h1, h2⟩ := OwnL.uncons ho
  obtain ⟨v2, r2, rfl, h3, h4⟩ := OwnL.uncons h2
  obtain ⟨v3, r3, rfl, h5, h6⟩ := OwnL.uncons h4
  obtain ⟨rfl, _⟩ := h6
  obtain ⟨k1, a, ws1, rfl, s1, o1⟩ := Own.sq h1 ea
  obtain ⟨k2, b, ws2, rfl, s2, o2⟩ := Own.sq h3 eb
  obtain ⟨k3, c, ws3, rfl, s3, o3⟩ := Own.sq h5 ec
  refine ⟨a, b, c, ws1, ws2, ws3, k1, k2, k3, rfl, s1 H hy (TK.of (Same.refl H)), s2 H hy (TK.of (Same.refl H)), s3 H hy (TK.of (Same.refl H)), q _ H (Same.refl H) fun i H' y t => ⟨fun z e => ?_, fun hl => ?_⟩⟩
  · obtain ⟨dx, dy, dz, e1, e2, e3, rfl⟩ := zipD3_at _ _ _ _ _ e
    obtain ⟨vx, ex, hvx⟩ := OwnL.at o1 e1
    obtain ⟨vy, ey, hvy⟩ := OwnL.at o2 e2
    obtain ⟨vz, ez, hvz⟩ := OwnL.at o3 e3
    refine ⟨⟨ws1, ws2, ws3, vx, vy, vz, s1 H' y t, s2 H' y t, s3 H' y t, ex, ey, ez⟩, fun w H2 yy => ?_⟩
    obtain ⟨T, x', y', z', rfl, hT, eH, f1, f2, f3⟩ := yy
    have q1 := f1 ws1 (s1 H' y t)
    have q2 := f2 ws2 (s2 H' y t)
    have q3 := f3 ws3 (s3 H' y t)
    rw [ex] at q1
    rw [ey] at q2
    rw [ez] at q3
    cases q1
    cases q2
    cases q3
    exact trip_new hT eH (Own.keepT (Same.refl Y) t hvx) (Own.keepT (Same.refl Y) t hvy) (Own.keepT (Same.refl Y) t hvz)
  · rw [zipD3_length] at hl
    refine ⟨ws1, ws2, ws3, s1 H' y t, s2 H' y t, s3 H' y t, ?_⟩
    rw [OwnL.length o1, OwnL.length o2, OwnL.length o3]
    exact hl
theorem i_zip3 {W : Wsh} {X : Cx} {elts : List Expr} {kk : Nat} {tpos : Pos} {e e2 e3 : Expr} {ta : TA} {p pos : Pos} (ops : List Opn) (dx : DX X G) (hg : Gl X "zip") (hm : X.mg "zip" = none) (ha : PA X [e, e2, e3] ta) (ht : ta = seqTE (ops.map (Opn.te G W)) := by rfl)
    (hs : starEach [e, e2, e3] X.env = (false, eval e X.env) :: starEach [e2, e3] X.env := by rfl) (hpl : (backTo pos (starEach [e2, e3] X.env)).any (·.1) = false := by rfl) : PI X (.Tuple elts kk tpos) (.Call (.Name "zip" p) [e, e2, e3] [] pos) (TSrc G W ops mkZip3) :=
  src_ok (r := rZipX3 X.K) (by rw [dx.K]; exact zip3_fits) (by subst ht; exact pi_zipX3 hg hm ha hs hpl)
end
end DL

/-! max of three, list + list, < of data, slices of either -/
namespace DL
open PySem PySem.Spec PyProof.Rows L2
section
variable {G : Gc} {W : Wsh} {X : Cx}
/-! ### max(a, b, c) -/
def mx2 (i j : Int) : Int := if j > i then j else i
def mn2 (i j : Int) : Int := if j < i then j else i
def rMax3 (f : Int → Int → Int) : List V → Hp → VK → Prop := fun xs H Q => ∃ i j k, xs = [.int i, .int j, .int k] ∧ Q (.int (f (f i j) k)) H
theorem call_max3 (hc : X.calm = true) : CallR X (.builtin "max") (rMax3 mx2) := by
  intro pins s σ H xs us Q I r h
  obtain ⟨i, j, k, rfl, q⟩ := h
  refine call_max3Nu hc pins s σ H _ us Q I r ⟨.int i, .int j, .int k, _, rfl, ?_, q⟩
  have key : ∀ i j : Int, nuMax2 (.int i) (.int j) = some (.int (mx2 i j)) := fun i j => by
    show (some (decide (i < j))).map (fun c => if c = true then V.int j else V.int i) = _
    unfold mx2
    by_cases h : i < j
    · simp [h]
    · simp [h]
  unfold nuMax3
  rw [key i j]
  exact key (mx2 i j) k
def gMax3 : List D → Option D
  | [.int i, .int j, .int k] => some (.int (mx2 (mx2 i j) k))
  | _ => none
theorem rop_max3 : ROp G (rMax3 mx2) gMax3 := by
  intro ds vs H Q d h e q
  match ds, e with
  | [.int i, .int j, .int k], e =>
    cases e
    obtain ⟨x, y, z, rfl, h1, h2, h3⟩ := own3 h
    exact ⟨i, j, k, by rw [h1.1, h2.1, h3.1], done0 q fun Z => ⟨rfl, rfl⟩⟩
theorem pure_max3 : PureG gMax3 := by
  intro ds d e
  match ds, e with
  | [.int i, .int j, .int k], e => cases e; rfl
section
variable {e : Expr} {es : List Expr} {t : TA} {hs : List SArg} {p pos : Pos}
theorem p_max3 (dx : DX X G) (hg : Gl X "max") (hm : X.mg "max" = none) (ha : PA X (e :: es) t) (ht : t = seqTE (hs.map (SArg.te G)) := by rfl) (he : starEach (e :: es) X.env = (false, eval e X.env) :: starEach es X.env := by rfl) (hpl : (backTo pos (starEach es X.env)).any (·.1) = false := by rfl) :
    PE X (.Call (.Name "max" p) (e :: es) [] pos) (TPur G (hOp hs gMax3)) :=
  p_callB (call_max3 dx.calm) hg hm bt_max rop_max3 pure_max3 ha ht (by decide) (by decide) he hpl
end
/-! ### list + list -/
def rCatLL (K : PySem.W.Frag) : R2 := fun x y H Q => ∃ a b xs ys, x = .ref a ∧ y = .ref b ∧ SqL K H a xs ∧ SqL K H b ys ∧ xs.length + ys.length ≤ sizeLine ∧ ∀ p, H p = none → Q (.ref p) (upd H p (.lst (xs ++ ys)))
theorem op_catLL : OpR X (binaryOp .Add) (rCatLL X.K) := by
  intro pins s σ H x y v u Q I rx ry h
  obtain ⟨a, b, xs, ys, rfl, rfl, ha, hb, hz, q⟩ := h
  cases rx
  cases ry
  obtain ⟨its, r1, p1, _⟩ := I.list ha
  obtain ⟨its2, r2, p2, _⟩ := I.list hb
  obtain ⟨⟨cls, dd, data, sl⟩, ho, hc, n, hd⟩ := id p1.isList
  obtain ⟨⟨cls2, dd2, data2, sl2⟩, ho2, hc2, n2, hd2⟩ := id p2.isList
  simp only at hc hd hc2 hd2
  subst hc hd hc2 hd2
  have e : its.toArray ++ its2.toArray = (its ++ its2).toArray := by simp
  refine concat_meets ⟨_, ho, rfl⟩ ⟨_, ho2, rfl⟩ noFill_list_add seq_list_add PySem.F.slot_list_add PySem.F.entry_list_add (PySem.F.args_list_add_2 _ _) (list_addW a b its.toArray its2.toArray n n2 dd dd2 sl sl2 (by
    rw [List.size_toArray, List.size_toArray, ← r1.length, ← r2.length]; exact hz)) ⟨ho, ho2, ?_⟩
  rw [e]
  refine ⟨.ref s.heap.objs.size, _, I.laid (t' := s.toks) (o := .lst (xs ++ ys)) (fun b ob q => Heap.get?_push_of_some _ q) (Nat.le_refl _) ?_, rfl, q _ (I.hok.fresh (Nat.le_refl _))⟩
  exact ⟨by rw [List.length_append]; exact hz, _, 0, r1.append r2, Heap.get?_push_size _ rfl⟩
def fCatLL (a b : D) : Option D := match a, b with
  | .lst x, .lst y => iff? (D.pureL x = true ∧ D.pureL y = true ∧ x.length + y.length ≤ 16777216) (.lst (x ++ y))
  | _, _ => none
abbrev gCatLL := bin fCatLL
theorem fCatLL_some {a b d : D} (h : fCatLL a b = some d) : ∃ x y, a = .lst x ∧ b = .lst y ∧ (D.pureL x = true ∧ D.pureL y = true ∧ x.length + y.length ≤ 16777216) ∧ d = .lst (x ++ y) := by
  unfold fCatLL at h
  split at h
  · obtain ⟨h1, rfl⟩ := iff?_some h
    exact ⟨_, _, rfl, rfl, h1, rfl⟩
  · cases h
theorem rop_catLL : ROp G (l2 (rCatLL G.K)) gCatLL := by
  intro ds vs H Q d h e q
  obtain ⟨a, b, rfl, e⟩ := bin_some e
  obtain ⟨x, y, rfl, h1, h2⟩ := own2 h
  obtain ⟨a, b, rfl, rfl, hl, rfl⟩ := fCatLL_some e
  obtain ⟨p, us, rfl, e1, o1⟩ := h1.lstR
  obtain ⟨p2, us2, rfl, e2, o2⟩ := h2.lstR
  have l1 := OwnL.length o1
  have l2 := OwnL.length o2
  refine ⟨p, p2, us, us2, rfl, rfl, e1, e2, by rw [← size_line, l1, l2]; exact hl.2.2, fun p3 hn => ?_⟩
  have hpp : D.pureL (a ++ b) = true := by rw [D.pureL_append, hl.1, hl.2.1]; rfl
  have hap := OwnL.append (OwnL.pure_any (Z' := H) hl.1 o1) (OwnL.pure_any (Z' := H) hl.2.1 o2)
  rw [List.append_nil] at hap
  exact q _ _ [p3] (same_upd hn) (fun Z => new_lst hpp hn hap Z) (List.nodup_cons.mpr ⟨by simp, List.nodup_nil⟩) fun a m => by
    rw [List.mem_singleton.mp m]; exact hn
/-! ### < of data -/
def rLtD (K : PySem.W.Frag) : R2 := fun x y H Q => ∃ d e, Dp K H x d ∧ Dp K H y e ∧ PySem.W.alike d e = true ∧ d ≠ .none ∧ d.depth ≤ 60 ∧ Q (.bl (PySem.W.dataLt d e)) H
theorem op_ltD (hu : X.A.units + 64 < cLine) : OpR X (compareOp .Lt) (rLtD X.K) := by
  intro pins s σ H x y v u Q I rx ry h
  obtain ⟨d, e, hd, he, ha, hn, hdp, q⟩ := h
  obtain ⟨as, r1⟩ := Dp.reads I d x v hd rx
  obtain ⟨bs, r2⟩ := Dp.reads I e y u he ry
  exact PySem.W.lt_data r1 r2 ha hn (by omega) ⟨.bl _, H, I, rfl, q⟩
def fLtD (a b : D) : Option D := match a.py, b.py with
  | some p, some q => iff? (PySem.W.alike p q = true ∧ PySem.W.alike p .none = false ∧ p.depth ≤ 60) (.bl (PySem.W.dataLt p q))
  | _, _ => none
abbrev gLtD := bin fLtD
theorem fLtD_some {a b d : D} (h : fLtD a b = some d) : ∃ p q, a.py = some p ∧ b.py = some q ∧ (PySem.W.alike p q = true ∧ PySem.W.alike p .none = false ∧ p.depth ≤ 60) ∧ d = .bl (PySem.W.dataLt p q) := by
  unfold fLtD at h
  split at h
  · rename_i p q h1 h2
    obtain ⟨h3, rfl⟩ := iff?_some h
    exact ⟨p, q, h1, h2, h3, rfl⟩
  · cases h
theorem rop_ltD : ROp G (l2 (rLtD G.K)) gLtD := by
  intro ds vs H Q d h e q
  obtain ⟨a, b, rfl, e⟩ := bin_some e
  obtain ⟨x, y, rfl, h1, h2⟩ := own2 h
  obtain ⟨p, r, ep, er, hl, rfl⟩ := fLtD_some e
  exact ⟨p, r, Own.dp a x p h1 ep, Own.dp b y r h2 er, hl.1, fun z => (by rw [z] at hl; exact Bool.noConfusion hl.2.1), hl.2.2, done0 q (fun Z => ⟨rfl, rfl⟩)⟩
theorem pure_ltD : PureG gLtD := by
  intro ds d e
  obtain ⟨a, b, rfl, e⟩ := bin_some e
  obtain ⟨p, r, ep, er, hl, rfl⟩ := fLtD_some e
  rfl
/-! ### slices of a list or a tuple -/
def fSlJ (d : D) (lo hi : Option Int) : Option D := match d with
  | .lst _ => fSlL d lo hi
  | .scr _ => fSlL d lo hi
  | _ => fSlP d lo hi
def rSlJ (K : PySem.W.Frag) : RS := fun x lo hi H Q => rSlL K x lo hi H Q ∨ rSlP K x lo hi H Q
theorem sl_J : SlR X (rSlJ X.K) := SlR.or sl_list sl_P
theorem slJ_ok : RSl G (rSlJ G.K) fSlJ := by
  intro a x lo hi H Q d h e q
  unfold fSlJ at e
  split at e
  · exact .inl (slL_ok _ x lo hi H Q d h e q)
  · exact .inl (slL_ok _ x lo hi H Q d h e q)
  · exact .inr (slP_ok _ x lo hi H Q d h e q)
/-! ### a <= b < c, of whole numbers -/
def hChI (p q : Int → Int → Bool) (a b c : DEnv → Option D) : DEnv → Option D := fun env => match a env, b env, c env with
  | some (.int i), some (.int j), some (.int k) => some (.bl (p i j && q j k))
  | _, _, _ => none
theorem hChI_some {p q : Int → Int → Bool} {a b c : DEnv → Option D} {env : DEnv} {d : D} (h : hChI p q a b c env = some d) : ∃ i j k, a env = some (.int i) ∧ b env = some (.int j) ∧ c env = some (.int k) ∧ d = .bl (p i j && q j k) := by
  unfold hChI at h
  split at h
  · rename_i i j k h1 h2 h3
    cases h
    exact ⟨i, j, k, h1, h2, h3, rfl⟩
  · cases h
theorem chI_run {p q : Int → Int → Bool} {h1 h2 h3 : DEnv → Option D} {σ : L2.St} {H : Hp} {Q : VK} (h : TPur G (hChI p q h1 h2 h3) σ H Q) : tChain (rI0 fun i j => V.bl (p i j)) (rI0 fun i j => V.bl (q i j)) (TPur G h1) (TPur G h2) (TPur G h3) σ H Q := by
  obtain ⟨B, Z, Fs, env, gd, d, hd, q0⟩ := h
  obtain ⟨i, j, k, e1, e2, e3, rfl⟩ := hChI_some hd
  refine ⟨B, Z, Fs, env, gd, _, e1, fun v H1 s1 _ o1 => ⟨B, Z, Fs, env, gd.grow s1, _, e2, fun v2 H2 s2 _ o2 => ⟨i, j, (o1 Z).1, (o2 Z).1, p i j, rfl, ?_⟩⟩⟩
  cases hp : p i j with
  | false =>
    rw [if_neg (by decide)]
    exact q0 _ H2 (s1.trans s2) rfl fun Z' => ⟨by rw [hp, Bool.false_and], rfl⟩
  | true =>
    rw [if_pos rfl]
    exact ⟨B, Z, Fs, env, (gd.grow s1).grow s2, _, e3, fun v3 H3 s3 _ o3 => ⟨j, k, (o2 Z).1, (o3 Z).1, q0 _ H3 ((s1.trans s2).trans s3) rfl fun Z' => ⟨by rw [hp, Bool.true_and], rfl⟩⟩⟩
variable {op op' : CmpOp} {p q : Int → Int → Bool} {a b c : Expr} {h1 h2 h3 : DEnv → Option D} {pos : Pos}
theorem p_chI (ho : OpR X (compareOp op) (rI0 fun i j => V.bl (p i j))) (ho' : OpR X (compareOp op') (rI0 fun i j => V.bl (q i j))) (ha : PE X a (TPur G h1)) (hb : PE X b (TPur G h2)) (hc : PE X c (TPur G h3)) (hm : lastMarks [op, op'] [b, c] = false := by with_unfolding_all rfl) : PE X (.Compare a [op, op'] [b, c] pos) (TPur G (hChI p q h1 h2 h3)) :=
  (pe_chain ho ho' ha hb hc hm).imp fun σ H Q h => chI_run h
theorem t_chI (ho : OpR X (compareOp op) (rI0 fun i j => V.bl (p i j))) (ho' : OpR X (compareOp op') (rI0 fun i j => V.bl (q i j))) (ha : PE X a (TPur G h1)) (hb : PE X b (TPur G h2)) (hc : PE X c (TPur G h3)) (hm : lastMarks [op, op'] [b, c] = false := by with_unfolding_all rfl) : PT X (.Compare a [op, op'] [b, c] pos) (TBp G (hB (hChI p q h1 h2 h3))) :=
  (pt_chain ho ho' ha hb hc hm).imp fun σ H Q ⟨B, Z, Fs, env, gd, k, hk, q⟩ => chI_run ⟨B, Z, Fs, env, gd, .bl k, hB_some hk, fun v H' hs _ ho => ⟨k, (ho Z).1, q H' hs⟩⟩
abbrev leI (i j : Int) : Bool := decide (i ≤ j)
abbrev ltI (i j : Int) : Bool := decide (i < j)
/-! ### (a, place), read where it stands -/
def pTup (h g : DEnv → Option D) : DEnv → Option D := fun env => match h env, g env with
  | some d, some x => if d.pure = true then some (.tup [d, x]) else none
  | _, _ => none
theorem pTup_some {h g : DEnv → Option D} {env : DEnv} {d : D} (e : pTup h g env = some d) : ∃ d0 x, h env = some d0 ∧ g env = some x ∧ d0.pure = true ∧ d = .tup [d0, x] := by
  unfold pTup at e
  split at e
  · rename_i d0 x h1 h2
    split at e
    · rename_i hp
      cases e
      exact ⟨d0, x, h1, h2, hp, rfl⟩
    · cases e
  · cases e
theorem p_tpl {e1 e2 : Expr} {t : TA} {k : Nat} {tpos : Pos} {j : Nat} {h g : DEnv → Option D} (hp : PA X [e1, e2] t) (ht : t = seqTE [TPur G h, TPlc G j g] := by rfl) : PE X (.Tuple [e1, e2] k tpos) (TPlc G j (pTup h g)) :=
  (pe_tup hp).imp fun σ H Q ⟨B, Z, Fs, env, gd, d, hd, q⟩ => by
    subst ht
    obtain ⟨d0, x, e1, e2, hpu, rfl⟩ := pTup_some hd
    refine ⟨B, Z, Fs, env, gd, d0, e1, fun v H1 s1 _ o1 => ⟨B, Z, Fs, env, gd.grow s1, x, e2, fun w H2 s2 o2 => ⟨by show 2 ≤ sizeLine; decide, fun p hn => ?_⟩⟩⟩
    have s3 : Same H2 (upd H2 p (.tup [v, w])) := same_upd hn
    refine q _ _ ((s1.trans s2).trans s3) ⟨p, [v, w], rfl, (upd_same : upd H2 p (.tup [v, w]) p = some (.tup [v, w])), ?_⟩
    exact OwnL.cons_nil (Own.keepT (Same.refl _) (TK.of (s2.trans s3)) (o1 _)) (OwnL.cons_nil (Own.keepT ((gd.grow (s1.trans s2)).joi_up s3 j) (TK.of s3) o2) ⟨rfl, rfl⟩)
end
end DL

/-! <=, >, >= of data; a text some times -/
namespace DL
open PySem PySem.Spec PyProof.Rows L2
section
variable {G : Gc} {W : Wsh} {X : Cx}
def rCmD (K : PySem.W.Frag) (f : PyData → PyData → Bool) : R2 := fun x y H Q => ∃ d e, Dp K H x d ∧ Dp K H y e ∧ PySem.W.alike d e = true ∧ d ≠ .none ∧ d.depth ≤ 60 ∧ Q (.bl (f d e)) H
abbrev geF (p q : PyData) : Bool := !PySem.W.dataLt p q
abbrev gtF (p q : PyData) : Bool := PySem.W.dataLt q p
abbrev leF (p q : PyData) : Bool := !PySem.W.dataLt q p
theorem op_geD (hu : X.A.units + 64 < cLine) : OpR X (compareOp .GtE) (rCmD X.K geF) := by
  intro pins s σ H x y v u Q I rx ry h
  obtain ⟨d, e, hd, he, ha, hn, hdp, q⟩ := h
  obtain ⟨as, r1⟩ := Dp.reads I d x v hd rx
  obtain ⟨bs, r2⟩ := Dp.reads I e y u he ry
  exact PySem.W.ge_data r1 r2 ha hn (by omega) ⟨.bl _, H, I, rfl, q⟩
theorem op_gtD (hu : X.A.units + 64 < cLine) : OpR X (compareOp .Gt) (rCmD X.K gtF) := by
  intro pins s σ H x y v u Q I rx ry h
  obtain ⟨d, e, hd, he, ha, hn, hdp, q⟩ := h
  obtain ⟨as, r1⟩ := Dp.reads I d x v hd rx
  obtain ⟨bs, r2⟩ := Dp.reads I e y u he ry
  exact PySem.W.gt_data r1 r2 ha hn (by omega) ⟨.bl _, H, I, rfl, q⟩
theorem op_leD (hu : X.A.units + 64 < cLine) : OpR X (compareOp .LtE) (rCmD X.K leF) := by
  intro pins s σ H x y v u Q I rx ry h
  obtain ⟨d, e, hd, he, ha, hn, hdp, q⟩ := h
  obtain ⟨as, r1⟩ := Dp.reads I d x v hd rx
  obtain ⟨bs, r2⟩ := Dp.reads I e y u he ry
  exact PySem.W.le_data r1 r2 ha hn (by omega) ⟨.bl _, H, I, rfl, q⟩
def fCmD (f : PyData → PyData → Bool) (a b : D) : Option D := match a.py, b.py with
  | some p, some q => iff? (PySem.W.alike p q = true ∧ PySem.W.alike p .none = false ∧ p.depth ≤ 60) (.bl (f p q))
  | _, _ => none
abbrev gGeD := bin (fCmD geF)
abbrev gGtD := bin (fCmD gtF)
abbrev gLeD := bin (fCmD leF)
theorem fCmD_some {f : PyData → PyData → Bool} {a b d : D} (h : fCmD f a b = some d) : ∃ p q, a.py = some p ∧ b.py = some q ∧ (PySem.W.alike p q = true ∧ PySem.W.alike p .none = false ∧ p.depth ≤ 60) ∧ d = .bl (f p q) := by
  unfold fCmD at h
  split at h
  · rename_i p q h1 h2
    obtain ⟨h3, rfl⟩ := iff?_some h
    exact ⟨p, q, h1, h2, h3, rfl⟩
  · cases h
theorem rop_cmD {f : PyData → PyData → Bool} : ROp G (l2 (rCmD G.K f)) (bin (fCmD f)) := by
  intro ds vs H Q d h e q
  obtain ⟨a, b, rfl, e⟩ := bin_some e
  obtain ⟨x, y, rfl, h1, h2⟩ := own2 h
  obtain ⟨p, r, ep, er, hl, rfl⟩ := fCmD_some e
  exact ⟨p, r, Own.dp a x p h1 ep, Own.dp b y r h2 er, hl.1, fun z => (by rw [z] at hl; exact Bool.noConfusion hl.2.1), hl.2.2, done0 q (fun Z => ⟨rfl, rfl⟩)⟩
theorem pure_cmD {f : PyData → PyData → Bool} : PureG (bin (fCmD f)) := by
  intro ds d e
  obtain ⟨a, b, rfl, e⟩ := bin_some e
  obtain ⟨p, r, ep, er, hl, rfl⟩ := fCmD_some e
  rfl
/-! ### a text, some times -/
def repS (x : Str) (n : Nat) : Str := ⟨(List.replicate n x.cps).foldl (· ++ ·) #[]⟩
theorem repS_len (x : Str) : ∀ n : Nat, (repS x n).length = n * x.length := fun n => by
  have key : ∀ (n : Nat) (a : Array Nat), ((List.replicate n x.cps).foldl (· ++ ·) a).size = a.size + n * x.cps.size := fun n => by
    induction n with
    | zero => intro a; simp
    | succ n ih =>
      intro a
      rw [List.replicate_succ, List.foldl_cons, ih, Array.size_append, Nat.succ_mul]
      omega
  show ((List.replicate n x.cps).foldl (· ++ ·) #[]).size = _
  rw [key n #[]]
  simp [Str.length]
def rRepS : R2 := fun x y H Q => ∃ s n, x = .str s ∧ y = .int n ∧ 2 ≤ n ∧ n ≤ 1000 ∧ 1 ≤ s.length ∧ s.length ≤ 1000 ∧ Q (.str (repS s n.toNat)) H
theorem op_repS : OpR X (binaryOp .Mult) rRepS := by
  intro pins s σ H x y v u Q I rx ry h
  obtain ⟨z, n, rfl, rfl, n1, n2, l1, l2, q⟩ := h
  obtain ⟨t, rfl⟩ := rx
  obtain ⟨t2, rfl⟩ := ry
  have hn : ¬ n < 1 := by omega
  have hc : (n == 1 || z.length == 0) = false := by
    rw [Bool.or_eq_false_iff]
    exact ⟨beq_eq_false_iff_ne.mpr (by omega), beq_eq_false_iff_ne.mpr (by omega)⟩
  have hmul : z.length * n.toNat ≤ 1000000 := (Nat.mul_le_mul l2 (show n.toNat ≤ 1000 by omega) : z.length * n.toNat ≤ 1000 * 1000)
  have htl : ∀ k, k ≤ 1000000 → Builtin.Str.tooLong k = false := fun k hk => by
    unfold Builtin.Str.tooLong
    simp
    have := sizeLine_eq
    omega
  refine PySem.P.mul_str (by
    rw [Bool.or_eq_false_iff]
    exact ⟨decide_eq_false (by omega), decide_eq_false (by omega)⟩) (fun _ _ => ?_) (fun _ _ => htl _ hmul) ?_
  · have h1 : (1000 : Int) ≤ (2 ^ 63 - 1) / n := by
      rw [Int.le_ediv_iff_mul_le (by omega)]
      omega
    omega
  · rw [if_neg hn, hc, if_neg (by decide)]
    refine ⟨?_, ⟨.str (repS z n.toNat), H, I.tok _, ⟨s.toks, rfl⟩, q⟩⟩
    have h3 := repS_len z n.toNat
    have h4 := sizeLine_eq
    show (repS z n.toNat).length ≤ sizeLine
    rw [h3, Nat.mul_comm]
    omega
def fRepS (a b : D) : Option D := match a, b with
  | .str s, .int n => iff? (2 ≤ n ∧ n ≤ 1000 ∧ 1 ≤ s.length ∧ s.length ≤ 1000) (.str (repS s n.toNat))
  | _, _ => none
abbrev gRepS := bin fRepS
theorem fRepS_some {a b d : D} (h : fRepS a b = some d) : ∃ s n, a = .str s ∧ b = .int n ∧ (2 ≤ n ∧ n ≤ 1000 ∧ 1 ≤ s.length ∧ s.length ≤ 1000) ∧ d = .str (repS s n.toNat) := by
  unfold fRepS at h
  split at h
  · obtain ⟨h1, rfl⟩ := iff?_some h
    exact ⟨_, _, rfl, rfl, h1, rfl⟩
  · cases h
theorem rop_repS : ROp G (l2 rRepS) gRepS := by
  intro ds vs H Q d h e q
  obtain ⟨a, b, rfl, e⟩ := bin_some e
  obtain ⟨x, y, rfl, h1, h2⟩ := own2 h
  obtain ⟨s, n, rfl, rfl, hc, rfl⟩ := fRepS_some e
  exact ⟨s, n, h1.1, h2.1, hc.1, hc.2.1, hc.2.2.1, hc.2.2.2, done0 q (fun Z => ⟨rfl, rfl⟩)⟩
theorem pure_repS : PureG gRepS := by
  intro ds d e
  obtain ⟨a, b, rfl, e⟩ := bin_some e
  obtain ⟨s, n, rfl, rfl, hc, rfl⟩ := fRepS_some e
  rfl
end
end DL

/-! an item taken out of a list that is left behind -/
namespace DL
open PySem PySem.Spec PyProof.Rows L2
section
variable {G : Gc} {W : Wsh} {X : Cx}
theorem atI_split {α β : Type} {xs : List α} {ys : List β} {n : Int} {x : α} (h : atI xs n = some x) (hl : ys.length = xs.length) : ∃ a b c y d, xs = a ++ x :: b ∧ ys = c ++ y :: d ∧ c.length = a.length ∧ atI ys n = some y := by
  unfold atI at h ⊢
  rw [hl]
  cases e : ixN xs.length n with
  | none => rw [e] at h; cases h
  | some j =>
    rw [e] at h
    replace h : xs[j]? = some x := h
    obtain ⟨hj, hx⟩ := List.getElem?_eq_some_iff.mp h
    have hj2 : j < ys.length := by omega
    refine ⟨xs.take j, xs.drop (j + 1), ys.take j, ys[j], ys.drop (j + 1), ?_, ?_, by simp; omega, ?_⟩
    · rw [← hx, ← List.drop_eq_getElem_cons hj, List.take_append_drop]
    · rw [← List.drop_eq_getElem_cons hj2, List.take_append_drop]
    · exact List.getElem?_eq_getElem hj2
def takeK : Kn := fun ds e => match ds with
  | [.lst xs, .int n] => match atI xs n with
    | some x => .ok (x, [], e)
    | none => .bad
  | _ => .bad
theorem k_take : KOk G W [false, false] [true, true] (l2 (rIxL G.K)) takeK := by
  intro B Z H σ env Fs its vs T ios Q gd hd hb hn hF
  obtain ⟨d1, d2, rfl⟩ := its2 hb
  unfold takeK at hF
  split at hF
  · rename_i xs n e
    cases e
    split at hF
    · rename_i x hx
      obtain ⟨v, w, F1, F2, rfl, rfl, h1, h2⟩ := hand2 hd.own
      obtain ⟨a, ws, F', rfl, rfl, hH, o⟩ := h1.alive gd.z0
      obtain ⟨rfl, rfl⟩ := (show w = .int n ∧ F2 = [] from h2)
      subst hn
      obtain ⟨p, q, c, y, d, rfl, rfl, hcl, hy⟩ := atI_split hx (OwnL.length o)
      obtain ⟨w1, w2, G1, G2, e1, rfl, o1, o2⟩ := OwnL.split o
      obtain ⟨y', r, G3, G4, rfl, rfl, o3, o4⟩ := o2
      have hl1 := OwnL.length o1
      obtain ⟨ec, ed⟩ := List.append_inj e1 (by rw [hcl, hl1])
      obtain ⟨rfl, rfl⟩ := List.cons.inj ed
      refine ⟨a, _, n, y, rfl, rfl, SqL.of hH, hy, ?_⟩
      have nd := hd.nd
      simp only [List.append_nil] at nd
      have n2 := (List.nodup_cons.mp nd).2
      have n3 := (List.nodup_append.mp (List.nodup_append.mp n2).2.1).1
      have sub : ∀ b, b ∈ G3 → b ∈ (a :: (G1 ++ (G3 ++ G4)) ++ []) := fun b m => by simp [m]
      refine hF y Z H Fs G3 ⟨Stp.refl gd fun b m => .inl m, ⟨y, [], G3, [], rfl, by simp, o3, rfl, rfl⟩, n3, fun b m => hd.dj b (sub b m), fun b m => hd.fr b (sub b m), fun b m => .inr (.inr (sub b m))⟩
    · exact hF.elim
  · exact hF.elim
theorem e_take {a b : Expr} {pos : Pos} {f : DEnv → Out (D × DEnv)} {h : DEnv → Option D} (dx : DX X G) (ha : PE X a (TV G W f)) (hb : PE X b (TPur G h)) (hs : PlainIx b := by exact fun _ _ => rfl) : PE X (.Subscript a b pos) (TV G W (eK (.own f (.fin [.pur h])) takeK)) :=
  (pe_ix ix_list ha hb hs).imp fun σ H Q q => by
    have q := tv_chn (c := .own f (.fin [.pur h])) k_take rfl rfl σ H Q q
    rw [← dx.K] at q
    exact q
end
end DL

/-! an item taken out of a list that is left behind -/
/-! x[2].append(n) -/
namespace DL
open PySem PySem.Spec PyProof.Rows L2
section
variable {G : Gc} {W : Wsh} {X : Cx}
def app2K (n : Int) : Kn := fun ds e => match ds with
  | [.tupF f [d0, d1, .lst xs]] => if d0.pure = true ∧ d1.pure = true ∧ D.pureL xs = true ∧ xs.length < 16777216 then .ok (.non, [.tupF f [d0, d1, .lst (xs ++ [.int n])]], e) else .bad
  | _ => .bad
def rApp2 (K : PySem.W.Frag) (n : Int) : List V → Hp → VK → Prop := fun vs H Q => ∃ a v0 v1 l xs, vs = [.ref a] ∧ SqT K H a [v0, v1, .ref l] ∧ H l = some (.lst xs) ∧ xs.length < sizeLine ∧ Q .non (upd H l (.lst (xs ++ [.int n])))
theorem k_app2 {n : Int} : KOk G W [true] [true] (rApp2 G.K n) (app2K n) := by
  intro B Z H σ env Fs its vs T ios Q gd hd hb hn hF
  obtain ⟨d1, rfl⟩ := its1 hb
  unfold app2K at hF
  split at hF
  · rename_i f d0 d1 xs e
    cases e
    split at hF
    · rename_i hp
      obtain ⟨hp0, hp1, hpx, hxl⟩ := hp
      obtain ⟨v, rfl, a, ws, rfl, ht, o⟩ := hand1 hd.own
      obtain ⟨v0, r, F1, F2, rfl, rfl, o0, o1⟩ := o
      obtain ⟨v1, r1, F3, F4, rfl, rfl, om, o2⟩ := o1
      obtain ⟨v2, r2, F5, F6, rfl, rfl, ol, rfl, rfl⟩ := o2
      obtain ⟨rfl, _⟩ := Own.ofPure (Z' := Z) d0 v0 F1 hp0 o0
      obtain ⟨rfl, _⟩ := Own.ofPure (Z' := Z) d1 v1 F3 hp1 om
      obtain ⟨l, us, F', rfl, rfl, hH, ox⟩ := ol.alive gd.z0
      obtain ⟨rfl, _⟩ := OwnL.ofPure (Z' := Z) xs us F' hpx ox
      subst hn
      refine ⟨a, v0, v1, l, us, rfl, ht.seq, hH, by rw [← size_line, OwnL.length ox]; exact hxl, ?_⟩
      have nl : ∀ (b : Addr) (w : HO), H b = some w → Still w → b ≠ l := fun b w e st z => by
        rw [z, hH] at e; cases e; exact st trivial
      have kp : ∀ (b : Addr) (w : HO), H b = some w → Still w → upd H l (.lst (us ++ [.int n])) b = some w := fun b w e st => by
        rw [upd_ne (nl b w e st)]; exact e
      have kp2 : ∀ (b : Addr) (w : HO), H b = some w → b ∈ ([] : List Addr) ∨ Still w → upd H l (.lst (us ++ [.int n])) b = some w := fun b w e m => kp b w e (m.elim (fun m => (by cases m)) id)
      refine mut_fin3 gd hd (by simp) hH trivial ?_ hF
      refine ⟨a, [v0, v1, .ref l], rfl, ht.keep kp, v0, [v1, .ref l], [], [l], rfl, rfl, ?_, v1, [.ref l], [], [l], rfl, rfl, ?_, .ref l, [], [l], [], rfl, rfl, ⟨l, us ++ [.int n], [], rfl, .inr ⟨rfl, upd_same⟩, ?_⟩, rfl, rfl⟩
      · exact Own.keep (Same.refl Z) d0 v0 [] kp2 o0
      · exact Own.keep (Same.refl Z) d1 v1 [] kp2 om
      · exact OwnL.append (OwnL.keep (Same.refl Z) xs us [] kp2 ox) (OwnL.one ⟨rfl, rfl⟩)
    · exact hF.elim
  · exact hF.elim
theorem e_app2 {o i e : Expr} {apos cpos spos : Pos} {j : Nat} {n : Int} (dx : DX X G) (ho : PE X o (tVar j)) (hi : PE X i (tC (.int 2))) (he : PE X e (tC (.int n))) (hs : PlainIx i := by exact fun _ _ => rfl)
    (hbase : attributeBase (.Subscript o i spos) "append" X.env (eval (.Subscript o i spos) X.env) = eval (.Subscript o i spos) X.env := by rfl)
    (hfew : ((backTo cpos (starEach [e] X.env)).all (fun x => !x.1) && (backToKw cpos (keywordEach [] X.env)).all (fun x => x.1.isSome)
      && decide ([e].length + ([] : List Keyword).length + (if ([] : List Keyword).isEmpty then 0 else 1) < 30)) = true := by rfl)
    (hline : (apos.endLine == cpos.line) = true := by rfl) (hse : starEach [e] X.env = (false, eval e X.env) :: starEach [] X.env := by rfl) (hplain : (backTo cpos (starEach [] X.env)).any (·.1) = false := by rfl) : PE X (.Call (.Attribute (.Subscript o i spos) "append" apos) [e] [] cpos) (TV G W (eK (.io j (.fin [])) (app2K n))) :=
  (pe_bm F.plainAttrs_list F.slot_list_append F.type_list_append mt_append (pe_ix ix_tup ho hi hs) (pa_cons he pa_nil (hs := hse)) hbase hfew hline hse hplain).imp fun σ H Q h => by
    obtain ⟨v, ev, q⟩ := tv_chn (c := .io j (.fin [])) (k_app2 (n := n)) rfl rfl σ H Q h
    obtain ⟨a, v0, v1, l, xs, e, h1, h2, h3, q⟩ := q
    cases e
    exact ⟨_, ev, a, [v0, v1, .ref l], 2, .ref l, rfl, rfl, by rw [dx.K]; exact h1, rfl, .inl ⟨rfl, xs, SqL.of h2⟩, l, xs, .int n, rfl, rfl, h2, h3, q⟩
def takeT : Kn := fun ds e => match ds with
  | [.tupF _ xs, .int n] => match atI xs n with
    | some x => .ok (x, [], e)
    | none => .bad
  | _ => .bad
theorem k_takeT : KOk G W [false, false] [true, true] (l2 (rIxT G.K)) takeT := by
  intro B Z H σ env Fs its vs T ios Q gd hd hb hn hF
  obtain ⟨d1, d2, rfl⟩ := its2 hb
  unfold takeT at hF
  split at hF
  · rename_i fl xs n e
    cases e
    split at hF
    · rename_i x hx
      obtain ⟨v, w, F1, F2, rfl, rfl, h1, h2⟩ := hand2 hd.own
      obtain ⟨a, ws, rfl, ht, o⟩ := h1
      obtain ⟨rfl, rfl⟩ := (show w = .int n ∧ F2 = [] from h2)
      subst hn
      obtain ⟨p, q, c, y, d, rfl, rfl, hcl, hy⟩ := atI_split hx (OwnL.length o)
      obtain ⟨w1, w2, G1, G2, e1, rfl, o1, o2⟩ := OwnL.split o
      obtain ⟨y', r, G3, G4, rfl, rfl, o3, o4⟩ := o2
      have hl1 := OwnL.length o1
      obtain ⟨ec, ed⟩ := List.append_inj e1 (by rw [hcl, hl1])
      obtain ⟨rfl, rfl⟩ := List.cons.inj ed
      refine ⟨a, _, n, y, rfl, rfl, ht.seq, hy, ?_⟩
      have nd := hd.nd
      simp only [List.append_nil] at nd
      have n3 := (List.nodup_append.mp (List.nodup_append.mp nd).2.1).1
      have sub : ∀ b, b ∈ G3 → b ∈ ((G1 ++ (G3 ++ G4)) ++ []) := fun b m => by simp [m]
      refine hF y Z H Fs G3 ⟨Stp.refl gd fun b m => .inl m, ⟨y, [], G3, [], rfl, by simp, o3, rfl, rfl⟩, n3, fun b m => hd.dj b (sub b m), fun b m => hd.fr b (sub b m), fun b m => .inr (.inr (sub b m))⟩
    · exact hF.elim
  · exact hF.elim
theorem e_takeT {a b : Expr} {pos : Pos} {f : DEnv → Out (D × DEnv)} {h : DEnv → Option D} (dx : DX X G) (ha : PE X a (TV G W f)) (hb : PE X b (TPur G h)) (hs : PlainIx b := by exact fun _ _ => rfl) : PE X (.Subscript a b pos) (TV G W (eK (.own f (.fin [.pur h])) takeT)) :=
  (pe_ix ix_tup ha hb hs).imp fun σ H Q q => by
    have q := tv_chn (c := .own f (.fin [.pur h])) k_takeT rfl rfl σ H Q q
    rw [← dx.K] at q
    exact q
end
end DL

/-! enumerate of a tuple -/
namespace DL
open PySem PySem.Spec PyProof.Rows L2
section
variable {G : Gc} {W : Wsh} {X : Cx}
def mkEnumT : List D → Option (List D)
  | [.tupF _ xs] => some (enumD 0 xs)
  | _ => none
theorem enumT_fits : fits G (fun vs H R => ∃ a xs, vs = [.ref a] ∧ SqT G.K H a xs ∧ R (IteT G.K a) H) mkEnumT := by
  intro ds vs Y H zs R ho hy hx q
  unfold mkEnumT at hx
  split at hx
  · rename_i f xs
    cases hx
    obtain ⟨v, r, rfl, h1, h2⟩ := OwnL.uncons ho
    obtain ⟨rfl, _⟩ := h2
    obtain ⟨a, ws, rfl, e1, o⟩ := h1
    refine ⟨a, ws, rfl, e1.seq, q _ H (Same.refl H) fun i H' y t => ⟨fun z e => ?_, fun hl => ?_⟩⟩
    · obtain ⟨dx, e2, rfl⟩ := enumD_at _ _ _ _ e
      obtain ⟨vx, ex, hvx⟩ := OwnL.at o e2
      refine ⟨⟨ws, vx, (e1.keep t).seq, ex⟩, fun w H2 yy => ?_⟩
      obtain ⟨T, x', rfl, hT, eH, f1⟩ := yy
      have q1 := f1 ws (e1.keep t).seq
      rw [ex] at q1
      cases q1
      rw [Nat.zero_add]
      exact pair_new hT eH ⟨rfl, rfl⟩ (Own.keepT (Same.refl Y) t hvx)
    · rw [enumD_length] at hl
      exact ⟨ws, (e1.keep t).seq, by rw [OwnL.length o]; exact Nat.le_of_eq hl.symm⟩
  · cases hx
theorem i_enumT {elts : List Expr} {kk : Nat} {tpos : Pos} {e : Expr} {ta : TA} {p pos : Pos} (ops : List Opn) (dx : DX X G) (hg : Gl X "enumerate") (hm : X.mg "enumerate" = none) (ha : PA X [e] ta) (ht : ta = seqTE (ops.map (Opn.te G W)) := by rfl) (hs : starEach [e] X.env = [(false, eval e X.env)] := by rfl) :
    PI X (.Tuple elts kk tpos) (.Call (.Name "enumerate" p) [e] [] pos) (TSrc G W ops mkEnumT) :=
  src_ok (r := fun vs H R => ∃ a xs, vs = [.ref a] ∧ SqT X.K H a xs ∧ R (IteT X.K a) H) (by rw [dx.K]; exact enumT_fits) (by subst ht; exact pi_enumT hg hm ha hs)
/-- a def of which nothing is known -/
theorem fn_bad {P : Program} {w : World} {K : PySem.W.Frag} {mg : Str → Option Value} {base : Heap} {CX : CXT} {k : Nat} {f : Addr} {fd : FuncData} {ps : List Str} {ms : List Pm} : FnOk P w K mg base CX k f fd ps (spD G ms fun _ => .bad) :=
  ⟨fun vs H Q E h => by
    obtain ⟨_, _, _, _, _, _, _, _, _, hF⟩ := h
    exact hF.elim, fun A outer s H args us vs Q E _ _ _ _ h => by
    obtain ⟨_, _, _, _, _, _, _, _, _, hF⟩ := h
    exact hF.elim⟩
end
end DL

/-! a list is changed by arguments of which the first one reads the list -/
namespace DL
open PySem PySem.Spec PyProof.Rows L2
def evIP (j : Nat) (h : DEnv → Option D) (c : Chn) (k : Kn) : DEnv → Out (D × List D × DEnv) := fun env => match env[j]? with
  | some (some (m, d)) => if m.mut = true then must (h env) fun x => evC c (fun ds e => k (d :: x :: ds) e) (env.set j none) >>= fun q => match q.2.1 with
      | o :: os => .ok (q.1, os, q.2.2.set j (some (m, o)))
      | [] => .bad
    else .bad
  | _ => .bad
def ioP (j : Nat) (h : DEnv → Option D) (c : Chn) (k : Kn) : DEnv → Out (D × DEnv) := fun env => evIP j h c k env >>= fun q => .ok (q.1, q.2.2)
section
variable {G : Gc} {W : Wsh} {X : Cx}
theorem chn_ioP {bs : List Bool} {r : V → List V → Hp → VK → Prop} {k : Kn} {j : Nat} {h : DEnv → Option D} {c : Chn} (hk : KOk G W (true :: false :: c.iofs) bs (rvM r) k) (hb : true :: true :: c.kinds = bs) {Q : VK} {B Z H : Hp} {σ : L2.St} {env : DEnv} {Fs : Nat → List Addr} (g0 : Good G B Z H σ env Fs)
    (hF0 : FinV G W B Z H σ env (InF Fs) (ioP j h c k env) Q) : ∃ v, σ[j]? = some (some v) ∧ seqTE (TPur G h :: c.tes G W) σ H fun us H1 => r v us H1 Q := by
  have hF0 : FinO G W B Z H σ env (PT_ Fs []) [] (evIP j h c k env) Q := FinV.toO hF0
  cases hs : env[j]? with
  | none =>
    have e0 : evIP j h c k env = .bad := by unfold evIP; rw [hs]
    rw [e0] at hF0; exact hF0.elim
  | some sl =>
    match sl, hs with
    | none, hs =>
      have e0 : evIP j h c k env = .bad := by unfold evIP; rw [hs]
      rw [e0] at hF0; exact hF0.elim
    | some (m, d), hs =>
      by_cases hm : m.mut = true
      · have e0 : evIP j h c k env = (must (h env) fun x => evC c (fun ds e => k (d :: x :: ds) e) (env.set j none) >>= fun (q : D × List D × DEnv) => match q.2.1 with
            | o :: os => Out.ok (q.1, os, q.2.2.set j (some (m, o)))
            | [] => Out.bad) := by
          unfold evIP
          rw [hs]
          exact if_pos hm
        rw [e0] at hF0
        cases hr : h env with
        | none => rw [hr] at hF0; exact hF0.elim
        | some x =>
          rw [hr] at hF0
          have hF0 : FinO G W B Z H σ env (PT_ Fs []) [] (evC c (fun ds e => k (d :: x :: ds) e) (env.set j none) >>= fun (q : D × List D × DEnv) => match q.2.1 with
            | o :: os => Out.ok (q.1, os, q.2.2.set j (some (m, o)))
            | [] => Out.bad) Q := hF0
          obtain ⟨v, ev⟩ : ∃ v, σ[j]? = some (some v) := by
            have hsl := g0.sl j
            rw [hs] at hsl
            cases m with
            | own => obtain ⟨v, ev, _⟩ := hsl; exact ⟨v, ev⟩
            | io => obtain ⟨v, ev, _⟩ := hsl; exact ⟨v, ev⟩
            | shr => cases hm
            | brw => cases hm
            | lck => cases hm
          refine ⟨v, ev, ⟨B, Z, Fs, env, g0, x, hr, fun v2 H1 hs1 hp hv2 => ?_⟩⟩
          have hF := FinO.later (Stp.grow (P := PT_ Fs []) g0 (fun a m => .inl m) hs1) (fun a m => .inr m) hF0
          have g := g0.grow hs1
          clear hF0 e0
          have hv : Own G Z H1 d v (Fs j) := by
            have hsl := g.sl j
            rw [hs] at hsl
            cases m with
            | own => obtain ⟨v', ev', hv⟩ := hsl; rw [ev] at ev'; cases ev'; exact hv
            | io => obtain ⟨v', ev', hv⟩ := hsl; rw [ev] at ev'; cases ev'; exact hv
            | shr => cases hm
            | brw => cases hm
            | lck => cases hm
          have g1 := g.take j
          have off_j : ∀ a, InF (offF Fs j) a → a ∉ Fs j := fun a m n => by
            obtain ⟨i, m⟩ := m
            unfold offF at m
            split at m
            · cases m
            · rename_i hne
              exact hne (g.dj i j a m n)
          have hT1 : Hand G B Z H1 (joi B Z) (offF Fs j) [(true, d), (true, x)] [v, v2] (Fs j) := by
            refine ⟨⟨v, [v2], Fs j, [], rfl, (List.append_nil _).symm, hv, ⟨v2, [], [], [], rfl, rfl, hv2 Z, rfl, rfl⟩⟩, g.nd j, fun a m n => off_j a n m, fun a m => g.fr j a m⟩
          have hpp : ∀ a, PT_ (offF Fs j) (Fs j) a → PT_ Fs [] a := fun a m => by
            rcases m with m | m
            · exact .inl (inF_off m)
            · exact .inl ⟨j, m⟩
          have hjl : j < env.length := (List.getElem?_eq_some_iff.mp hs).1
          have hF1 : FinO G W B Z H1 σ (env.set j none) (PT_ (offF Fs j) (Fs j)) [v] (evC c (fun ds e => k ([(true, d), (true, x)].map (·.2) ++ ds) e) (env.set j none)) Q := by
            have e5 : (fun (ds : List D) (e : DEnv) => k ([(true, d), (true, x)].map (·.2) ++ ds) e) = fun ds e => k (d :: x :: ds) e := rfl
            rw [e5]
            generalize evC c (fun ds e => k (d :: x :: ds) e) (env.set j none) = oo at hF
            unfold FinO at hF ⊢
            match oo, hF with
            | .exc c', hF => exact hF
            | .ok (d', [], env'), hF => exact hF.elim
            | .ok (d', o :: os, env'), hF =>
              intro v' Z' H' Fs' F p
              obtain ⟨w1, r1, Fa, Fb, ea, eb, ha, hb'⟩ := p.own
              obtain ⟨rfl, rfl⟩ := List.cons.inj ea
              obtain ⟨w2, r2, Fc, Fd, ec, ed, hc, hd'⟩ := hb'
              cases ec
              subst ed
              subst eb
              have nd0 := List.nodup_append.mp p.nd
              have nd1 := List.nodup_append.mp nd0.2.1
              have memc : ∀ a, a ∈ Fc → a ∈ Fa ++ (Fc ++ Fd) := fun a m => List.mem_append_right _ (List.mem_append_left _ m)
              have tm : Tm G B Z' H' (InF Fs') o v Fc := ⟨hc, nd1.1, fun a m n => p.dj a (memc a m) n, fun a m => p.fr a (memc a m)⟩
              have ls : env'.length = env.length := by rw [p.st.ln, List.length_set]
              have g2 := p.st.good.give hm ev (by rw [ls]; exact hjl) tm
              have nj : ∀ i, i ≠ j → (env.set j none)[i]? = env[i]? := fun i h => List.getElem?_set_ne (fun z => h z.symm)
              have nj' : ∀ i, i ≠ j → (env'.set j (some (m, o)))[i]? = env'[i]? := fun i h => List.getElem?_set_ne (fun z => h z.symm)
              have at_j : (env'.set j (some (m, o)))[j]? = some (some (m, o)) := List.getElem?_set_self (by rw [ls]; exact hjl)
              refine hF v' Z' H' (onF Fs' j Fc) (Fa ++ Fd) ⟨⟨p.st.zz, fun a u e n => p.st.ext a u e fun z => n (hpp a z), g2, fun a mm => ?_, fun a mm => ?_, fun i d2 e => ?_, fun i d2 e => ?_, fun i d2 e => ?_, fun i d2 e => ?_, by rw [List.length_set]; exact ls⟩, ⟨v', _, Fa, Fd, rfl, rfl, ha, hd'⟩, ?_, fun a mm n => ?_, fun a mm => ?_, fun a mm => ?_⟩
              · rcases inF_on mm with mm | mm
                · exact (p.new a (memc a mm)).imp id (hpp a)
                · exact (p.st.new a mm).imp id (hpp a)
              · exact (p.st.newz a mm).imp id fun z => z.imp id (hpp a)
              · by_cases hi : i = j
                · subst hi
                  rw [hs] at e
                  cases e
                  exact ⟨⟨o, at_j⟩, rfl⟩
                · rw [nj' i hi]
                  exact p.st.io i d2 (by rw [nj i hi]; exact e)
              · by_cases hi : i = j
                · subst hi
                  rw [hs] at e
                  cases e
                  cases hm
                · rw [nj' i hi]
                  exact p.st.lk i d2 (by rw [nj i hi]; exact e)
              · by_cases hi : i = j
                · subst hi
                  rw [at_j] at e
                  cases e
                  cases hm
                · rw [nj' i hi] at e
                  have q := p.st.bw i d2 e
                  rw [nj i hi] at q
                  exact q
              · by_cases hi : i = j
                · subst hi
                  rw [at_j] at e
                  cases e
                  cases hm
                · rw [nj' i hi] at e
                  have q := p.st.lb i d2 e
                  rw [nj i hi] at q
                  exact q
              · exact List.nodup_append.mpr ⟨nd0.1, nd1.2.1, fun a m1 b m2 => nd0.2.2 a m1 b (List.mem_append_right _ m2)⟩
              · rcases inF_on n with n | n
                · rcases List.mem_append.mp mm with mm | mm
                  · exact nd0.2.2 a mm a (List.mem_append_left _ n) rfl
                  · exact nd1.2.2 a n a mm rfl
                · refine p.dj a ?_ n
                  rcases List.mem_append.mp mm with mm | mm
                  · exact List.mem_append_left _ mm
                  · exact List.mem_append_right _ (List.mem_append_right _ mm)
              · refine p.fr a ?_
                rcases List.mem_append.mp mm with mm | mm
                · exact List.mem_append_left _ mm
                · exact List.mem_append_right _ (List.mem_append_right _ mm)
              · refine (p.new a ?_).imp id (hpp a)
                rcases List.mem_append.mp mm with mm | mm
                · exact List.mem_append_left _ mm
                · exact List.mem_append_right _ (List.mem_append_right _ mm)
          have rec' := chn_ok hk c B Z H1 σ (env.set j none) (offF Fs j) [(true, d), (true, x)] [v, v2] (Fs j) [v] [true, false] g1 hT1 hb ⟨rfl, rfl, rfl⟩ hF1
          exact rec'
      · have e0 : evIP j h c k env = .bad := by
          unfold evIP
          rw [hs]
          exact if_neg hm
        rw [e0] at hF0; exact hF0.elim
theorem tv_ioP {σ : L2.St} {H : Hp} {Q : VK} {j : Nat} {h : DEnv → Option D} {c : Chn} {k : Kn} {r : V → List V → Hp → VK → Prop} {bs : List Bool} (hk : KOk G W (true :: false :: c.iofs) bs (rvM r) k) (hb : true :: true :: c.kinds = bs) (q : TV G W (isL j (ioP j h c k)) σ H Q) :
    ∃ v, σ[j]? = some (some v) ∧ tyV G.K "list" v H ∧ seqTE (TPur G h :: c.tes G W) σ H fun us H1 => r v us H1 Q := by
  obtain ⟨B, Z, Fs, env, gd, q⟩ := q
  have nb : isL j (ioP j h c k) env ≠ .bad := fun e => by rw [e] at q; exact q
  obtain ⟨⟨m, ds, hs⟩, e⟩ := isL_run nb
  rw [e] at q
  obtain ⟨v, ev, ty⟩ := io_tyV gd hs
  obtain ⟨w, ew, q⟩ := chn_ioP hk hb gd q
  rw [ev] at ew
  obtain rfl : v = w := Option.some.inj (Option.some.inj ew)
  exact ⟨v, ev, ty, q⟩
theorem e_insertP {o e e2 : Expr} {t : TA} {apos cpos : Pos} {j : Nat} {h : DEnv → Option D} (dx : DX X G) (ho : PE X o (tVar j)) (c : Chn) (ha : PA X [e, e2] t) (hn : c.iofs = [false] := by rfl) (ht : t = seqTE (TPur G h :: c.tes G W) := by rfl) (hb : c.kinds = [true] := by rfl) (hbase : attributeBase o "insert" X.env (eval o X.env) = eval o X.env := by rfl)
    (hfew : ((backTo cpos (starEach [e, e2] X.env)).all (fun x => !x.1) && (backToKw cpos (keywordEach [] X.env)).all (fun x => x.1.isSome)
      && decide ([e, e2].length + ([] : List Keyword).length + (if ([] : List Keyword).isEmpty then 0 else 1) < 30)) = true := by rfl)
    (hline : (apos.endLine == cpos.line) = true := by rfl) (hs : starEach [e, e2] X.env = (false, eval e X.env) :: starEach [e2] X.env := by rfl) (hplain : (backTo cpos (starEach [e2] X.env)).any (·.1) = false := by rfl) :
    PE X (.Call (.Attribute o "insert" apos) [e, e2] [] cpos) (TV G W (isL j (ioP j h c insK))) :=
  (pe_bm F.plainAttrs_list F.slot_list_insert F.type_list_insert mt_insert ho ha hbase hfew hline hs hplain).imp fun σ H Q q => by
    subst ht
    have hk : KOk G W (true :: false :: c.iofs) [true, true, true] (rvM rInsert) insK := by
      rw [hn]
      exact k_ins (fl := [false, false]) rfl
    obtain ⟨v, ev, ty, q⟩ := tv_ioP hk (by rw [hb]) q
    exact ⟨v, ev, by rw [dx.K]; exact ty, q⟩
theorem e_appendP {o e : Expr} {t : TA} {apos cpos : Pos} {j : Nat} {h : DEnv → Option D} (dx : DX X G) (ho : PE X o (tVar j)) (ha : PA X [e] t) (ht : t = seqTE [TPur G h] := by rfl) (hbase : attributeBase o "append" X.env (eval o X.env) = eval o X.env := by rfl)
    (hfew : ((backTo cpos (starEach [e] X.env)).all (fun x => !x.1) && (backToKw cpos (keywordEach [] X.env)).all (fun x => x.1.isSome)
      && decide ([e].length + ([] : List Keyword).length + (if ([] : List Keyword).isEmpty then 0 else 1) < 30)) = true := by rfl)
    (hline : (apos.endLine == cpos.line) = true := by rfl) (hs : starEach [e] X.env = (false, eval e X.env) :: starEach [] X.env := by rfl) (hplain : (backTo cpos (starEach [] X.env)).any (·.1) = false := by rfl) :
    PE X (.Call (.Attribute o "append" apos) [e] [] cpos) (TV G W (isL j (ioP j h (.fin []) appK))) :=
  (pe_bm F.plainAttrs_list F.slot_list_append F.type_list_append mt_append ho ha hbase hfew hline hs hplain).imp fun σ H Q q => by
    subst ht
    have hk : KOk G W (true :: false :: (Chn.fin []).iofs) [true, true] (rvM rAppend) appK := k_app (fl := [false]) rfl
    obtain ⟨v, ev, ty, q⟩ := tv_ioP hk rfl q
    exact ⟨v, ev, by rw [dx.K]; exact ty, q⟩
end
@[simp] theorem z_iop {j : Nat} {h : DEnv → Option D} {c : Chn} {k : Kn} {env : DEnv} : ioP j h c k env = (evIP j h c k env >>= fun q => .ok (q.1, q.2.2)) := rfl
@[simp] theorem z_evip {j : Nat} {h : DEnv → Option D} {c : Chn} {k : Kn} {env : DEnv} : evIP j h c k env = match env[j]? with
  | some (some (m, d)) => if m.mut = true then must (h env) fun x => evC c (fun ds e => k (d :: x :: ds) e) (env.set j none) >>= fun q => match q.2.1 with
      | o :: os => .ok (q.1, os, q.2.2.set j (some (m, o)))
      | [] => .bad
    else .bad
  | _ => .bad := rfl
end DL

/-! where an item stands in a list just made -/
namespace DL
open PySem PySem.Spec PyProof.Rows L2
/-- a value of its own, a list -/
def eLst (f : DEnv → Out (D × DEnv)) : DEnv → Out (D × DEnv) := fun env => f env >>= fun p => match p.1 with
  | .lst _ => .ok p
  | _ => .bad
section
variable {G : Gc} {W : Wsh} {X : Cx}
theorem tv_lst {f : DEnv → Out (D × DEnv)} {σ : L2.St} {H : Hp} {Q : VK} (h : TV G W (eLst f) σ H Q) : TV G W f σ H fun v H1 => tyW G.K "list" v H1 ∧ Q v H1 := by
  obtain ⟨B, Z, Fs, env, g, q⟩ := h
  refine ⟨B, Z, Fs, env, g, ?_⟩
  unfold eLst at q
  cases hr : f env with
  | bad => rw [hr] at q; exact q.elim
  | exc c => rw [hr] at q; exact q
  | ok p =>
    obtain ⟨d, env1⟩ := p
    rw [hr] at q
    simp only [Out.bind_ok] at q
    cases d with
    | lst xs =>
      intro v Z' H' Fs' F p
      refine ⟨?_, q v Z' H' Fs' F p⟩
      obtain ⟨v', r', Fa, Fb, e1, e2, h1, h2⟩ := p.own
      cases e1
      obtain ⟨a, vs, F', rfl, _, hs, _⟩ := h1.alive p.st.good.z0
      exact .inl (.inl ⟨rfl, vs, .inl (.inl hs)⟩)
    | _ => exact q.elim
theorem e_lIxO {o e : Expr} {es : List Expr} {t : TA} {apos cpos : Pos} {f : DEnv → Out (D × DEnv)} {hs : List SArg} (dx : DX X G) (ho : PE X o (TV G W f)) (ha : PA X (e :: es) t)
    (ht : t = seqTE (hs.map (SArg.te G)) := by rfl) (hn : (Chn.own (eLst f) (.fin hs)).iofs.any id = false := by rfl) (hbase : attributeBase o "index" X.env (eval o X.env) = eval o X.env := by rfl)
    (hfew : ((backTo cpos (starEach (e :: es) X.env)).all (fun x => !x.1) && (backToKw cpos (keywordEach [] X.env)).all (fun x => x.1.isSome)
      && decide ((e :: es).length + ([] : List Keyword).length + (if ([] : List Keyword).isEmpty then 0 else 1) < 30)) = true := by rfl)
    (hline : (apos.endLine == cpos.line) = true := by rfl) (hst : starEach (e :: es) X.env = (false, eval e X.env) :: starEach es X.env := by rfl) (hplain : (backTo cpos (starEach es X.env)).any (·.1) = false := by rfl) :
    PE X (.Call (.Attribute o "index" apos) (e :: es) [] cpos) (TV G W (eOp (.own (eLst f) (.fin hs)) gLIx)) :=
  (pe_bw F.plainAttrs_list F.slot_list_index F.type_list_index (mt_indexD (by have := dx.un; omega)) ho ha hbase hfew hline hst hplain).imp fun σ H Q q => by
    have q := tv_lst (tv_op (c := .own (eLst f) (.fin hs)) (rop_lIx dx.K) hn σ H Q q)
    rw [← dx.K] at q
    rw [ht]
    exact q
end
@[simp] theorem z_elst {f : DEnv → Out (D × DEnv)} {env : DEnv} : eLst f env = (f env >>= fun p => match p.1 with
  | .lst _ => .ok p
  | _ => .bad) := rfl
end DL

/-! a list is changed by arguments of which the first one, a call, reads the list -/
namespace DL
open PySem PySem.Spec PyProof.Rows L2
def evIV (j : Nat) (f : DEnv → Out (D × DEnv)) (c : Chn) (k : Kn) : DEnv → Out (D × List D × DEnv) := fun env => match env[j]? with
  | some (some (m, d)) => if m.mut = true then f (lock j env) >>= fun p => evC c (fun ds e => k (d :: p.1 :: ds) e) ((unlock env p.2).set j none) >>= fun q => match q.2.1 with
      | o :: os => .ok (q.1, os, q.2.2.set j (some (m, o)))
      | [] => .bad
    else .bad
  | _ => .bad
def ioVX (j : Nat) (f : DEnv → Out (D × DEnv)) (c : Chn) (k : Kn) : DEnv → Out (D × DEnv) := fun env => evIV j f c k env >>= fun q => .ok (q.1, q.2.2)
section
variable {G : Gc} {W : Wsh} {X : Cx}
theorem chn_ioV {bs : List Bool} {r : V → List V → Hp → VK → Prop} {k : Kn} {j : Nat} {f : DEnv → Out (D × DEnv)} {c : Chn} (hk : KOk G W (true :: false :: c.iofs) bs (rvM r) k) (hb : true :: true :: c.kinds = bs) {Q : VK} {B Z H : Hp} {σ : L2.St} {env : DEnv} {Fs : Nat → List Addr} (g0 : Good G B Z H σ env Fs)
    (hF0 : FinV G W B Z H σ env (InF Fs) (ioVX j f c k env) Q) : ∃ v, σ[j]? = some (some v) ∧ seqTE (TV G W f :: c.tes G W) σ H fun us H1 => r v us H1 Q := by
  have hF0 : FinO G W B Z H σ env (PT_ Fs []) [] (evIV j f c k env) Q := FinV.toO hF0
  cases hs0 : env[j]? with
  | none =>
    have e0 : evIV j f c k env = .bad := by unfold evIV; rw [hs0]
    rw [e0] at hF0; exact hF0.elim
  | some sl =>
    match sl, hs0 with
    | none, hs0 =>
      have e0 : evIV j f c k env = .bad := by unfold evIV; rw [hs0]
      rw [e0] at hF0; exact hF0.elim
    | some (m, d), hs0 =>
      by_cases hm : m.mut = true
      · have e0 : evIV j f c k env = (f (lock j env) >>= fun p => evC c (fun ds e => k (d :: p.1 :: ds) e) ((unlock env p.2).set j none) >>= fun (q : D × List D × DEnv) => match q.2.1 with
            | o :: os => Out.ok (q.1, os, q.2.2.set j (some (m, o)))
            | [] => Out.bad) := by
          unfold evIV
          rw [hs0]
          exact if_pos hm
        rw [e0] at hF0
        obtain ⟨v, ev⟩ : ∃ v, σ[j]? = some (some v) := by
          have hsl := g0.sl j
          rw [hs0] at hsl
          cases m with
          | own => obtain ⟨v, ev, _⟩ := hsl; exact ⟨v, ev⟩
          | io => obtain ⟨v, ev, _⟩ := hsl; exact ⟨v, ev⟩
          | shr => cases hm
          | brw => cases hm
          | lck => cases hm
        refine ⟨v, ev, ⟨lockB B H Fs j, Z, offF Fs j, lock j env, g0.lock j, ?_⟩⟩
        cases hr : f (lock j env) with
        | bad => rw [hr] at hF0; exact hF0.elim
        | exc c' =>
          rw [hr] at hF0
          exact fun H' hs => hF0 H' ((lockB_up g0 j).trans hs)
        | ok xp =>
          obtain ⟨x, env1⟩ := xp
          rw [hr] at hF0
          simp only [Out.bind_ok] at hF0
          intro v2 Z1 H1 Fs1 F1 p1
          have off_0 : ∀ a, InF (offF Fs j) a → InF Fs a ∧ a ∉ Fs j := fun a m => ⟨inF_off m, fun n => by
            obtain ⟨i, m⟩ := m
            unfold offF at m
            split at m
            · cases m
            · rename_i hne
              exact hne (g0.dj i j a m n)⟩
          have st2 := p1.st.unlock g0 (g0.lock j).pm off_0 (fun a m => ⟨j, m⟩)
          have hlk : env1[j]? = some (some (.lck, d)) := (p1.st.lk j d (by
            rw [lock_at, if_pos rfl, hs0]
            cases m <;> first | rfl | cases hm)).1
          have hs : (unlock env env1)[j]? = some (some (m, d)) := by
            rw [unlock_at, hs0, hlk]
            cases m <;> first | rfl | cases hm
          have p2 : Post G B Z H σ env (InF Fs) Z1 H1 (unlock env env1) (backF env Fs Fs1 j) [x] [v2] F1 := by
            refine ⟨st2, p1.own, p1.nd, fun a m n => ?_, fun a m => ?_, fun a m => (p1.new a m).imp id fun z => (off_0 a z).1⟩
            · obtain ⟨i, n⟩ := n
              rcases backF_mem n with ⟨_, n⟩ | n
              · have q := (p1.fr a m).1
                unfold lockB at q
                rw [lay_in n] at q
                obtain ⟨u, e, _⟩ := g0.dom ⟨j, n⟩
                rw [e] at q; cases q
              · exact p1.dj a m ⟨i, n⟩
            · refine ⟨?_, (p1.fr a m).2⟩
              cases q : B a with
              | none => rfl
              | some u =>
                have := lockB_up g0 j a u q
                rw [(p1.fr a m).1] at this
                cases this
          clear p1 st2 hlk
          generalize unlock env env1 = env2 at *
          generalize backF env Fs Fs1 j = Fs2 at *
          have hp1 : ∀ a, PT_ Fs2 F1 a → H a = none ∨ PT_ Fs [] a := fun a m => by
            rcases m with m | m
            · exact (p2.st.new a m).imp id .inl
            · exact (p2.new a m).imp id .inl
          have hF := FinO.later (p2.st.more fun a m => .inl m) hp1 hF0
          have g := p2.st.good
          have ho : Own G Z1 H1 x v2 F1 := by
            obtain ⟨v', r', Fa, Fb, e1, e2, h1, h2⟩ := p2.own
            cases e1
            obtain ⟨_, rfl⟩ := h2
            rw [List.append_nil] at e2
            rw [e2]
            exact h1
          clear hF0 e0
          have hv : Own G Z1 H1 d v (Fs2 j) := by
            have hsl := g.sl j
            rw [hs] at hsl
            cases m with
            | own => obtain ⟨v', ev', hv⟩ := hsl; rw [ev] at ev'; cases ev'; exact hv
            | io => obtain ⟨v', ev', hv⟩ := hsl; rw [ev] at ev'; cases ev'; exact hv
            | shr => cases hm
            | brw => cases hm
            | lck => cases hm
          have g1 := g.take j
          have off_j : ∀ a, InF (offF Fs2 j) a → a ∉ Fs2 j := fun a m n => by
            obtain ⟨i, m⟩ := m
            unfold offF at m
            split at m
            · cases m
            · rename_i hne
              exact hne (g.dj i j a m n)
          have hT1 : Hand G B Z1 H1 (joi B Z1) (offF Fs2 j) [(true, d), (true, x)] [v, v2] (Fs2 j ++ F1) := by
            refine ⟨⟨v, [v2], Fs2 j, F1, rfl, rfl, hv, ⟨v2, [], F1, [], rfl, (List.append_nil _).symm, ho, rfl, rfl⟩⟩, List.nodup_append.mpr ⟨g.nd j, p2.nd, fun a m b n => ?_⟩, fun a m n => ?_, fun a m => ?_⟩
            · rintro rfl
              exact p2.dj a n ⟨j, m⟩
            · rcases List.mem_append.mp m with m | m
              · exact off_j a n m
              · exact p2.dj a m (inF_off n)
            · rcases List.mem_append.mp m with m | m
              · exact g.fr j a m
              · exact p2.fr a m
          have hpp : ∀ a, PT_ (offF Fs2 j) (Fs2 j ++ F1) a → PT_ Fs2 F1 a := fun a m => by
            rcases m with m | m
            · exact .inl (inF_off m)
            · rcases List.mem_append.mp m with m | m
              · exact .inl ⟨j, m⟩
              · exact .inr m
          have hjl : j < env2.length := (List.getElem?_eq_some_iff.mp hs).1
          have hF1 : FinO G W B Z1 H1 σ (env2.set j none) (PT_ (offF Fs2 j) (Fs2 j ++ F1)) [v] (evC c (fun ds e => k ([(true, d), (true, x)].map (·.2) ++ ds) e) (env2.set j none)) Q := by
            have e5 : (fun (ds : List D) (e : DEnv) => k ([(true, d), (true, x)].map (·.2) ++ ds) e) = fun ds e => k (d :: x :: ds) e := rfl
            rw [e5]
            generalize evC c (fun ds e => k (d :: x :: ds) e) (env2.set j none) = oo at hF
            unfold FinO at hF ⊢
            match oo, hF with
            | .exc c', hF => exact hF
            | .ok (d', [], env'), hF => exact hF.elim
            | .ok (d', o :: os, env'), hF =>
              intro v' Z' H' Fs' F p
              obtain ⟨w1, r1, Fa, Fb, ea, eb, ha, hb'⟩ := p.own
              obtain ⟨rfl, rfl⟩ := List.cons.inj ea
              obtain ⟨w2, r2, Fc, Fd, ec, ed, hc, hd'⟩ := hb'
              cases ec
              subst ed
              subst eb
              have nd0 := List.nodup_append.mp p.nd
              have nd1 := List.nodup_append.mp nd0.2.1
              have memc : ∀ a, a ∈ Fc → a ∈ Fa ++ (Fc ++ Fd) := fun a m => List.mem_append_right _ (List.mem_append_left _ m)
              have tm : Tm G B Z' H' (InF Fs') o v Fc := ⟨hc, nd1.1, fun a m n => p.dj a (memc a m) n, fun a m => p.fr a (memc a m)⟩
              have ls : env'.length = env2.length := by rw [p.st.ln, List.length_set]
              have g2 := p.st.good.give hm ev (by rw [ls]; exact hjl) tm
              have nj : ∀ i, i ≠ j → (env2.set j none)[i]? = env2[i]? := fun i h => List.getElem?_set_ne (fun z => h z.symm)
              have nj' : ∀ i, i ≠ j → (env'.set j (some (m, o)))[i]? = env'[i]? := fun i h => List.getElem?_set_ne (fun z => h z.symm)
              have at_j : (env'.set j (some (m, o)))[j]? = some (some (m, o)) := List.getElem?_set_self (by rw [ls]; exact hjl)
              refine hF v' Z' H' (onF Fs' j Fc) (Fa ++ Fd) ⟨⟨p.st.zz, fun a u e n => p.st.ext a u e fun z => n (hpp a z), g2, fun a mm => ?_, fun a mm => ?_, fun i d2 e => ?_, fun i d2 e => ?_, fun i d2 e => ?_, fun i d2 e => ?_, by rw [List.length_set]; exact ls⟩, ⟨v', _, Fa, Fd, rfl, rfl, ha, hd'⟩, ?_, fun a mm n => ?_, fun a mm => ?_, fun a mm => ?_⟩
              · rcases inF_on mm with mm | mm
                · exact (p.new a (memc a mm)).imp id (hpp a)
                · exact (p.st.new a mm).imp id (hpp a)
              · exact (p.st.newz a mm).imp id fun z => z.imp id (hpp a)
              · by_cases hi : i = j
                · subst hi
                  rw [hs] at e
                  cases e
                  exact ⟨⟨o, at_j⟩, rfl⟩
                · rw [nj' i hi]
                  exact p.st.io i d2 (by rw [nj i hi]; exact e)
              · by_cases hi : i = j
                · subst hi
                  rw [hs] at e
                  cases e
                  cases hm
                · rw [nj' i hi]
                  exact p.st.lk i d2 (by rw [nj i hi]; exact e)
              · by_cases hi : i = j
                · subst hi
                  rw [at_j] at e
                  cases e
                  cases hm
                · rw [nj' i hi] at e
                  have q := p.st.bw i d2 e
                  rw [nj i hi] at q
                  exact q
              · by_cases hi : i = j
                · subst hi
                  rw [at_j] at e
                  cases e
                  cases hm
                · rw [nj' i hi] at e
                  have q := p.st.lb i d2 e
                  rw [nj i hi] at q
                  exact q
              · exact List.nodup_append.mpr ⟨nd0.1, nd1.2.1, fun a m1 b m2 => nd0.2.2 a m1 b (List.mem_append_right _ m2)⟩
              · rcases inF_on n with n | n
                · rcases List.mem_append.mp mm with mm | mm
                  · exact nd0.2.2 a mm a (List.mem_append_left _ n) rfl
                  · exact nd1.2.2 a n a mm rfl
                · refine p.dj a ?_ n
                  rcases List.mem_append.mp mm with mm | mm
                  · exact List.mem_append_left _ mm
                  · exact List.mem_append_right _ (List.mem_append_right _ mm)
              · refine p.fr a ?_
                rcases List.mem_append.mp mm with mm | mm
                · exact List.mem_append_left _ mm
                · exact List.mem_append_right _ (List.mem_append_right _ mm)
              · refine (p.new a ?_).imp id (hpp a)
                rcases List.mem_append.mp mm with mm | mm
                · exact List.mem_append_left _ mm
                · exact List.mem_append_right _ (List.mem_append_right _ mm)
          have rec' := chn_ok hk c B Z1 H1 σ (env2.set j none) (offF Fs2 j) [(true, d), (true, x)] [v, v2] (Fs2 j ++ F1) [v] [true, false] g1 hT1 hb ⟨rfl, rfl, rfl⟩ hF1
          exact rec'
      · have e0 : evIV j f c k env = .bad := by
          unfold evIV
          rw [hs0]
          exact if_neg hm
        rw [e0] at hF0; exact hF0.elim
theorem tv_ioV {σ : L2.St} {H : Hp} {Q : VK} {j : Nat} {f : DEnv → Out (D × DEnv)} {c : Chn} {k : Kn} {r : V → List V → Hp → VK → Prop} {bs : List Bool} (hk : KOk G W (true :: false :: c.iofs) bs (rvM r) k) (hb : true :: true :: c.kinds = bs) (q : TV G W (isL j (ioVX j f c k)) σ H Q) :
    ∃ v, σ[j]? = some (some v) ∧ tyV G.K "list" v H ∧ seqTE (TV G W f :: c.tes G W) σ H fun us H1 => r v us H1 Q := by
  obtain ⟨B, Z, Fs, env, gd, q⟩ := q
  have nb : isL j (ioVX j f c k) env ≠ .bad := fun e => by rw [e] at q; exact q
  obtain ⟨⟨m, ds, hs⟩, e⟩ := isL_run nb
  rw [e] at q
  obtain ⟨v, ev, ty⟩ := io_tyV gd hs
  obtain ⟨w, ew, q⟩ := chn_ioV hk hb gd q
  rw [ev] at ew
  obtain rfl : v = w := Option.some.inj (Option.some.inj ew)
  exact ⟨v, ev, ty, q⟩
theorem e_insertV {o e e2 : Expr} {t : TA} {apos cpos : Pos} {j : Nat} {f : DEnv → Out (D × DEnv)} (dx : DX X G) (ho : PE X o (tVar j)) (c : Chn) (ha : PA X [e, e2] t) (hn : c.iofs = [false] := by rfl) (ht : t = seqTE (TV G W f :: c.tes G W) := by rfl) (hb : c.kinds = [true] := by rfl) (hbase : attributeBase o "insert" X.env (eval o X.env) = eval o X.env := by rfl)
    (hfew : ((backTo cpos (starEach [e, e2] X.env)).all (fun x => !x.1) && (backToKw cpos (keywordEach [] X.env)).all (fun x => x.1.isSome)
      && decide ([e, e2].length + ([] : List Keyword).length + (if ([] : List Keyword).isEmpty then 0 else 1) < 30)) = true := by rfl)
    (hline : (apos.endLine == cpos.line) = true := by rfl) (hs : starEach [e, e2] X.env = (false, eval e X.env) :: starEach [e2] X.env := by rfl) (hplain : (backTo cpos (starEach [e2] X.env)).any (·.1) = false := by rfl) :
    PE X (.Call (.Attribute o "insert" apos) [e, e2] [] cpos) (TV G W (isL j (ioVX j f c insK))) :=
  (pe_bm F.plainAttrs_list F.slot_list_insert F.type_list_insert mt_insert ho ha hbase hfew hline hs hplain).imp fun σ H Q q => by
    subst ht
    have hk : KOk G W (true :: false :: c.iofs) [true, true, true] (rvM rInsert) insK := by
      rw [hn]
      exact k_ins (fl := [false, false]) rfl
    obtain ⟨v, ev, ty, q⟩ := tv_ioV hk (by rw [hb]) q
    exact ⟨v, ev, by rw [dx.K]; exact ty, q⟩
end
@[simp] theorem z_iov {j : Nat} {f : DEnv → Out (D × DEnv)} {c : Chn} {k : Kn} {env : DEnv} : ioVX j f c k env = (evIV j f c k env >>= fun q => .ok (q.1, q.2.2)) := rfl
@[simp] theorem z_eviv {j : Nat} {f : DEnv → Out (D × DEnv)} {c : Chn} {k : Kn} {env : DEnv} : evIV j f c k env = match env[j]? with
  | some (some (m, d)) => if m.mut = true then f (lock j env) >>= fun p => evC c (fun ds e => k (d :: p.1 :: ds) e) ((unlock env p.2).set j none) >>= fun q => match q.2.1 with
      | o :: os => .ok (q.1, os, q.2.2.set j (some (m, o)))
      | [] => .bad
    else .bad
  | _ => .bad := rfl
end DL

/-! walking what stands behind some items of a list, the items of any kind; a name for an item of a list, for a while -/
namespace DL
open PySem PySem.Spec PyProof.Rows L2
def mkTail : List D → Option (List D)
  | [.lst xs, .int n] => some (cutD xs (some n) none)
  | _ => none
theorem mkTail_some {ds xs : List D} (h : mkTail ds = some xs) : ∃ ys n, ds = [.lst ys, .int n] ∧ xs = cutD ys (some n) none := by
  unfold mkTail at h
  split at h
  · cases h; exact ⟨_, _, rfl, rfl⟩
  · cases h
section
variable {G : Gc} {W : Wsh} {X : Cx} {B Z H B1 Z1 H1 : Hp} {σ : L2.St} {env env1 : DEnv} {P : Addr → Prop} {Fs1 : Nat → List Addr} {u : DEnv → DEnv}
/-- more is only read -/
theorem Unl.hold0 {F : List Addr} (w : Unl G B Z H σ env P B1 Z1 H1 env1 Fs1 u) (hd : ∀ a, a ∈ F → ¬ InF Fs1 a) : Unl G B Z H σ env P (lay B1 H1 F) Z1 H1 env1 Fs1 u := by
  have g := w.good
  have up : Same B1 (lay B1 H1 F) := lay_up g.sb
  have le : Same (lay B1 H1 F) H1 := lay_le g.sb
  refine ⟨⟨le, g.sz, g.len, fun j => ?_, g.nd, g.dj, fun i a m => ⟨?_, (g.fr i a m).2⟩, g.z0⟩, w.bb.trans up, w.hh, fun Z2 H2 σ2 e2 F2 s => ?_⟩
  · have h := g.sl j
    have j1 : Same (joi B1 Z1) (joi (lay B1 H1 F) Z1) := joi_mono up (Same.refl Z1) le g.sz
    unfold SlotOk at h ⊢
    match hs : env1[j]?, h with
    | some (some (.own, d)), h => exact h
    | some (some (.io, d)), h => exact h
    | some (some (.shr, d)), h => exact h
    | some (some (.brw, d)), h => obtain ⟨v, e, h, f⟩ := h; exact ⟨v, e, Own.keep j1 d v [] (fun _ _ e _ => e) h, f⟩
    | some (some (.lck, d)), h => obtain ⟨v, e, h, f⟩ := h; exact ⟨v, e, Own.keep j1 d v [] (fun _ _ e _ => e) h, f⟩
    | some none, h => exact h
    | none, h => exact h
  · rw [lay_out fun n => hd a n ⟨i, m⟩]
    exact (g.fr i a m).1
  · obtain ⟨F3, s3, h3⟩ := w.out _ _ _ _ _ (s.unB g up g.pm)
    refine ⟨F3, s3, fun a n b => h3 a n ?_⟩
    cases q : B1 a with
    | none => rfl
    | some o =>
      have := up a o q
      rw [b] at this; cases this
theorem i_tail {tg l lo : Expr} {i : Nat} {g hl : DEnv → Option D} {pos p2 : Pos} (dx : DX X G) (hp : PE X l (TPlc G i g)) (pl : PE X lo (TPur G hl)) : PI X tg (.Subscript l (.Slice (some lo) none none p2) pos) (TSrc G W [.plc i g, .pur hl] mkTail) :=
  (pi_any (pe_slice sl_list hp (po_some pl) po_none)).imp fun σ H R ⟨B, Z, Fs, env, g0, q⟩ => by
    have key : seqTE ([Opn.plc i g, Opn.pur hl].map (Opn.te G W)) σ H fun us H2 => ∃ v n, us = [v, .int n] ∧ rSlL X.K v (some n) none H2 fun w H4 => rSeqI X.K [w] H4 R := by
      refine evO_ok (W := W) [.plc i g, .pur hl] B Z H env Fs id [] [] _ (Unl.refl g0) ⟨rfl, rfl⟩ ?_
      cases hr : evO [.plc i g, .pur hl] env with
      | bad => rw [hr] at q; exact q.elim
      | exc c => rw [hr] at q; exact q
      | ok p =>
        obtain ⟨ds, st, env1⟩ := p
        rw [hr] at q
        obtain ⟨xs, hmk, q⟩ := q
        obtain ⟨ys, n, rfl, rfl⟩ := mkTail_some hmk
        intro us B2 Z2 H2 Fs2 w o2
        obtain ⟨v, r1, e1, h1, o3⟩ := OwnL.uncons o2
        obtain ⟨vl, r2, rfl, h2, o4⟩ := OwnL.uncons o3
        obtain ⟨rfl, _⟩ := o4
        obtain ⟨rfl, _⟩ := h2
        rw [List.nil_append] at e1
        subst e1
        have hy : Same (joi B2 Z2) H2 := joi_le w.good.sb w.good.sz
        obtain ⟨a, ws, F', rfl, nn, h3⟩ := h1
        rcases nn with ⟨hs, _, rfl⟩ | ⟨z, _⟩
        · refine ⟨_, n, rfl, a, ws, rfl, .inl (Same.rd hy hs), fun p hn => ?_⟩
          have same := same_upd (o := .lst (cutV ws (some n) none)) hn
          have w4 := w.step (Stp.grow w.good (fun _ m => m) same)
          have hpn : ∀ b, b ∈ [p] → ¬ InF Fs2 b := fun b m n => by
            rw [List.mem_singleton.mp m] at n
            obtain ⟨o, e, _⟩ := w.good.dom n
            rw [hn] at e; cases e
          have w5 := w4.hold0 hpn
          have hl5 : Same (lay B2 (upd H2 p (.lst (cutV ws (some n) none))) [p]) (upd H2 p (.lst (cutV ws (some n) none))) := w5.good.sb
          have hy5 : Same (joi (lay B2 (upd H2 p (.lst (cutV ws (some n) none))) [p]) Z2) (upd H2 p (.lst (cutV ws (some n) none))) := joi_le hl5 w5.good.sz
          have j5 : Same (joi B2 Z2) (joi (lay B2 (upd H2 p (.lst (cutV ws (some n) none))) [p]) Z2) := joi_mono (lay_up w4.good.sb) (Same.refl Z2) hl5 w5.good.sz
          have o5 : OwnL G (joi (lay B2 (upd H2 p (.lst (cutV ws (some n) none))) [p]) Z2) (upd H2 p (.lst (cutV ws (some n) none))) [.lst (cutD ys (some n) none)] [.ref p] [] := by
            refine OwnL.cons_nil ⟨p, cutV ws (some n) none, [], rfl, .inl ⟨.inl (joi_left p _ (by rw [lay_in List.mem_cons_self]; exact upd_same)), rfl, rfl⟩, ?_⟩ ⟨rfl, rfl⟩
            exact OwnL.keepT j5 (TK.of same) (cutD_own h3)
          have hf := seq_fits (G := G) [.lst (cutD ys (some n) none)] [.ref p] _ _ (cutD ys (some n) none) R o5 hy5 rfl fun J H' hs' it => ?_
          · rw [dx.K]; exact hf
          · exact q _ Z2 H' Fs2 J (w5.step (Stp.grow w5.good (fun _ m => m) hs')) it
        · cases z
    refine SArg.mono (a := .plc i g) (fun x H1 k => ?_) (show (SArg.plc i g).te G σ H _ from key)
    obtain ⟨B, Z, Fs, env, gd, d, hd, k⟩ := k
    refine ⟨B, Z, Fs, env, gd, d, hd, fun v H' hs hp ho => ?_⟩
    obtain ⟨v', n, e, k⟩ := k v H' hs hp ho
    cases e
    exact ⟨n, rfl, k⟩
/-! ### a name for an item, while some statements run -/
def letD (bind : D → DEnv → Option DEnv) (clr : List Nat) (body : Stm) (x : D) : Stm := fun env => must (bind x env) fun e => body e >>= fun fl => match fl with
  | .nx e => must (dropS clr e) fun e => .ok (.nx e)
  | .rt d e => must (dropS clr e) fun e => .ok (.rt d e)
  | _ => .bad
def sLet (i : Nat) (g : DEnv → Option D) (j : Nat) (clr : List Nat) (body : Stm) : Stm := fun env => must (g env) fun d => letD (bName j) clr body d (lock i env) >>= unS [env]
theorem s_let {x : Str} {e : Expr} {p' pos : Pos} {i j : Nat} {g : DEnv → Option D} {body : List Stmt} {fb : Stm} (clr : List Nat) (dx : DX X G) (hj : X.N[j]? = some x) (hx : Loc X.env.scope x) (he : PE X e (TPlc G i g)) (hb : PSs X body (TSt G W fb)) (hc : [j].all (fun k => clr.contains k) = true := by rfl)
    (hs : swapsWith e (some (.Name x p')) pos.line X.env = pure false := by rfl) (hf : X.fn x = true ∨ X.env.scope.names.lookup x = some .local := by first | exact .inl rfl | exact .inr rfl) :
    PSs X (.Assign [.Name x p'] e pos :: body) (TSt G W (sLet i g j clr fb)) :=
  (pss_cons (ps_set dx.nd hj hx he hs hf) hb).imp fun En σ H ⟨B, Z, Fs, env, gd, q⟩ => by
    have hcl : ∀ k, k ∈ [j] → k ∈ clr := fun k m => by
      have := List.all_eq_true.mp hc k m
      simpa using this
    have q : FinS G W B Z H σ env (InF Fs) (must (g env) fun d => letD (bName j) clr fb d (lock i env) >>= unS [env]) En := q
    cases hg : g env with
    | none => rw [hg] at q; exact q.elim
    | some d =>
      rw [hg, must_some] at q
      refine ⟨B, Z, Fs, env, gd, d, hg, fun v H1 hs1 ho => ?_⟩
      have g1 := gd.grow hs1
      have q1 : FinS G W B Z H1 σ env (InF Fs) (letD (bName j) clr fb d (lock i env) >>= unS [env]) En := FinS.later (Stp.grow (P := InF Fs) gd (fun _ m => m) hs1) (fun a m => .inr m) q
      have w : Unl G B Z H1 σ env (InF Fs) (lockB B H1 Fs i) Z H1 (lock i env) (offF Fs i) (unlk [env]) := (Unl.refl g1).lock i
      have q2 := FinS.unl w q1
      have q3 : FinS G W (lockB B H1 Fs i) Z H1 σ (lock i env) (InF (offF Fs i)) (must (bName j d (lock i env)) fun e => fb e >>= fun fl => match fl with
        | .nx e => must (dropS clr e) fun e => .ok (.nx e)
        | .rt d e => must (dropS clr e) fun e => .ok (.rt d e)
        | _ => .bad) En := q2
      cases hbd : bName j d (lock i env) with
      | none => rw [hbd] at q3; exact q3.elim
      | some e4 =>
        rw [hbd, must_some] at q3
        refine bind_name (i := j) _ Z H1 σ (lock i env) (offF Fs i) d v e4 (fun σ H => TSt G W fb En σ H) w.good ho hbd fun σ4 Fs4 b4 => ?_
        refine ⟨_, Z, Fs4, e4, b4.good, ?_⟩
        unfold FinS
        cases hfb : fb e4 with
        | bad => rw [hfb] at q3; exact q3.elim
        | exc c => rw [hfb] at q3; exact q3
        | ok fl =>
          rw [hfb] at q3
          cases fl with
          | nx e5 =>
            intro σ6 Z6 H6 F6 s6
            have q3 : FinS G W (lockB B H1 Fs i) Z H1 σ (lock i env) (InF (offF Fs i)) (must (dropS clr e5) fun e => .ok (.nx e)) En := q3
            cases hdr : dropS clr e5 with
            | none => rw [hdr] at q3; exact q3.elim
            | some e7 =>
              rw [hdr] at q3
              obtain ⟨F7, s7, _⟩ := b4.stp (P := InF (offF Fs i)) (fun _ m => m) s6 hdr hcl
              exact q3 σ6 Z6 H6 F7 s7
          | ct e5 => exact q3.elim
          | bk e5 => exact q3.elim
          | rt d5 e5 =>
            intro σ6 v6 Z6 H6 F6 F p6
            have q3 : FinS G W (lockB B H1 Fs i) Z H1 σ (lock i env) (InF (offF Fs i)) (must (dropS clr e5) fun e => .ok (.rt d5 e)) En := q3
            cases hdr : dropS clr e5 with
            | none => rw [hdr] at q3; exact q3.elim
            | some e7 =>
              rw [hdr] at q3
              obtain ⟨F7, s7, h7⟩ := b4.stp (P := InF (offF Fs i)) (fun _ m => m) p6.st hdr hcl
              exact q3 σ6 v6 Z6 H6 F7 F ⟨s7, p6.own, p6.nd, fun a m n => p6.dj a m (h7 a n), p6.fr, fun a m => (p6.new a m).imp id (b4.sub a)⟩
/-! ### one part of a block, and the rest -/
theorem wp_execs_app {M : Model} {Γ : _} {Q E} {b : List Stmt} {ev : Env} : ∀ (a : List Stmt) (p s), Sem.wp M Γ (execs a ev) (fun f p' s' => match f with | .next => Sem.wp M Γ (execs b ev) Q E p' s' | f => Q f p' s') E p s → Sem.wp M Γ (execs (a ++ b) ev) Q E p s
  | [], p, s, h => h
  | st :: rest, p, s, h => by
    rw [List.cons_append, execs_cons, Sem.wp_bind']
    rw [execs_cons, Sem.wp_bind'] at h
    refine Sem.wp_mono M Γ _ (fun f p' s' h' => ?_) (fun _ _ _ h' => h') _ _ h
    cases f with
    | next => exact wp_execs_app rest p' s' h'
    | ret v => exact h'
    | brk => exact h'
    | cont => exact h'
theorem pss_app {a b : List Stmt} {t v : TS} (h1 : PSs X a t) (h2 : PSs X b v) : PSs X (a ++ b) (tSeq t v) := by
  refine ⟨fun pins s σ H D I h => ?_⟩
  have q := thn (h1.run pins s σ H { D with nx := v D } I h) (Q' := fun f s1 => match f with | .next => wpAny (model X.prog X.w) X.A (execs b X.env) (SP X pins D) X.xe s1 | f => SP X pins D f s1) fun f s1 q => by
    cases f with
    | next =>
      obtain ⟨σ', H', I', q⟩ := q
      exact h2.run pins s1 σ' H' D I' q
    | ret v => exact q
    | brk => exact q
    | cont => exact q
  intro Γ p hΓ
  refine wp_execs_app a _ _ (Sem.wp_mono _ Γ _ (fun f p' s' h' => ?_) (fun _ _ _ h' => h') _ _ (q Γ p hΓ))
  cases f with
  | next => exact h' Γ p' hΓ
  | ret v => exact h'
  | brk => exact h'
  | cont => exact h'
theorem s_app {ss : List Stmt} {f g : Stm} (n : Nat) (h1 : PSs X (ss.take n) (TSt G W f)) (h2 : PSs X (ss.drop n) (TSt G W g)) : PSs X ss (TSt G W (sSeq f g)) := by
  have h := pss_app h1 h2
  rw [List.take_append_drop] at h
  refine h.imp fun En σ H ⟨B, Z, Fs, env, gd, q⟩ => ?_
  refine ⟨B, Z, Fs, env, gd, ?_⟩
  unfold sSeq at q
  cases hf : f env with
  | bad => rw [hf] at q; exact q.elim
  | exc c => rw [hf] at q; exact q
  | ok fl =>
    rw [hf] at q
    cases fl with
    | nx e => exact fun σ' Z' H' Fs' s => ⟨B, Z', Fs', e, s.good, FinS.later s s.new q⟩
    | bk e => exact q
    | ct e => exact q
    | rt d e => exact q
end
end DL

namespace DL
open PySem PySem.Spec PyProof.Rows L2

/-! ### how the semantics is reckoned -/
section
variable {env : DEnv} {i j : Nat} {d e : D} {m : Md} {h k : DEnv → Option D}
@[simp] theorem z_var : hVar i env = match env[i]? with
  | some (some (_, d)) => if d.pure = true then some d else none
  | _ => none := rfl
@[simp] theorem z_pvar : pVar i env = match env[i]? with
  | some (some (_, d)) => some d
  | _ => none := rfl
@[simp] theorem z_c : hC d env = some d := rfl
@[simp] theorem z_rd {g : DEnv → Option D} : hRd g env = match g env with
  | some d => if d.pure = true then some d else none
  | none => none := rfl
@[simp] theorem z_pix {g : DEnv → Option D} : pIx g h env = match g env, h env with
  | some d, some k => gAt d k
  | _, _ => none := rfl
@[simp] theorem z_at {n : Int} : gAt d (.int n) = dIx d n := rfl
@[simp] theorem z_ixl {xs : List D} {n : Int} : dIx (.lst xs) n = atI xs n := rfl
@[simp] theorem z_ixt {xs : List D} {n : Int} {fl : Bool} : dIx (.tupF fl xs) n = atI xs n := rfl
@[simp] theorem z_hop {hs : List SArg} {g : List D → Option D} : hOp hs g env = match evS hs env with
  | some ds => g ds
  | none => none := rfl
@[simp] theorem z_s0 : evS [] env = some [] := rfl
@[simp] theorem z_s1 {a : SArg} {r : List SArg} : evS (a :: r) env = match a.val env with
  | some d => match evS r env with
    | some ds => some (d :: ds)
    | none => none
  | none => none := rfl
@[simp] theorem z_vpur : (SArg.pur h).val env = h env := rfl
@[simp] theorem z_vplc {g : DEnv → Option D} : (SArg.plc i g).val env = g env := rfl
@[simp] theorem z_vint : (SArg.int h).val env = match h env with
  | some d => onlyInt d
  | none => none := rfl
@[simp] theorem z_oi {n : Int} : onlyInt (.int n) = some (.int n) := rfl
@[simp] theorem z_vplt {g : DEnv → Option D} {T : D → Bool} : (SArg.plt i g T).val env = match g env with
  | some d => onlyT T d
  | none => none := rfl
@[simp] theorem z_vput {T : D → Bool} : (SArg.put h T).val env = match h env with
  | some d => onlyT T d
  | none => none := rfl
@[simp] theorem z_ep : eP h env = must (h env) fun d => .ok (d, env) := rfl
@[simp] theorem z_mov : eMov i env = match env[i]? with
  | some (some (m, d)) => if m = .own then .ok (d, env.set i none) else .bad
  | _ => .bad := rfl
@[simp] theorem z_cfin {hs : List SArg} {k : Kn} : evC (.fin hs) k env = must (evS hs env) fun ds => k ds env := rfl
@[simp] theorem z_cown {f : DEnv → Out (D × DEnv)} {c : Chn} {k : Kn} : evC (.own f c) k env = (f env >>= fun p => evC c (fun ds e => k (p.1 :: ds) e) p.2) := rfl
@[simp] theorem z_cpur {c : Chn} {k : Kn} : evC (.pur h c) k env = must (h env) fun d => evC c (fun ds e => k (d :: ds) e) env := rfl
@[simp] theorem z_cplc {g : DEnv → Option D} {c : Chn} {k : Kn} : evC (.plc i g c) k env = must (g env) fun d => evC c (fun ds e => k (d :: ds) e) (lock i env) >>= fun q => .ok (q.1, q.2.1, unlock env q.2.2) := rfl
@[simp] theorem z_cio {c : Chn} {k : Kn} : evC (.io j c) k env = match env[j]? with
  | some (some (m, d)) => if m.mut = true then evC c (fun ds e => k (d :: ds) e) (env.set j none) >>= fun q => match q.2.1 with
      | o :: os => .ok (q.1, os, q.2.2.set j (some (m, o)))
      | [] => .bad
    else .bad
  | _ => .bad := rfl
@[simp] theorem z_ek {c : Chn} {k : Kn} : eK c k env = (evC c k env >>= fun q => .ok (q.1, q.2.2)) := rfl
@[simp] theorem z_opk {g : List D → Option D} {ds : List D} : opK g ds env = must (g ds) fun d => .ok (d, [], env) := rfl
@[simp] theorem z_callk {ms : List Pm} {F : Fn} {ds : List D} : callK ms F ds env = match F ds with
  | .ok (r, o) => .ok (r, o, env)
  | .exc c => if ms.all (fun (m : Pm) => !m.own) = true then .exc c else .bad
  | .bad => .bad := rfl
@[simp] theorem z_mut1 : Md.mut .own = true := rfl
@[simp] theorem z_mut2 : Md.mut .io = true := rfl
@[simp] theorem z_lock0 {s : Slot} {r : DEnv} : lock 0 (s :: r) = lock1 s :: r := rfl
@[simp] theorem z_lock1 {s : Slot} {r : DEnv} : lock (i + 1) (s :: r) = s :: lock i r := rfl
@[simp] theorem z_l1 : lock1 (some (.own, d)) = some (.lck, d) := rfl
@[simp] theorem z_l2 : lock1 (some (.io, d)) = some (.lck, d) := rfl
@[simp] theorem z_l3 : lock1 (some (.brw, d)) = some (.brw, d) := rfl
@[simp] theorem z_l4 : lock1 (some (.lck, d)) = some (.lck, d) := rfl
@[simp] theorem z_l5 : lock1 none = none := rfl
@[simp] theorem z_un0 : unlock [] [] = [] := rfl
@[simp] theorem z_un1 {s t : Slot} {r u : DEnv} : unlock (s :: r) (t :: u) = unl1 s t :: unlock r u := rfl
@[simp] theorem z_u1 : unl1 (some (.own, d)) (some (.lck, e)) = some (.own, e) := rfl
@[simp] theorem z_u2 : unl1 (some (.io, d)) (some (.lck, e)) = some (.io, e) := rfl
@[simp] theorem z_u3 {s : Slot} : unl1 none s = s := rfl
@[simp] theorem z_u4 {s : Slot} : unl1 (some (.brw, d)) s = s := rfl
@[simp] theorem z_u5 {s : Slot} : unl1 (some (.lck, d)) s = s := rfl
@[simp] theorem z_u6 {s : Slot} : unl1 s none = none := by
  match s with
  | none => rfl
  | some (.own, _) => rfl
  | some (.io, _) => rfl
  | some (.shr, _) => rfl
  | some (.brw, _) => rfl
  | some (.lck, _) => rfl
@[simp] theorem z_u7 {s : Slot} : unl1 s (some (.own, d)) = some (.own, d) := by
  match s with
  | none => rfl
  | some (.own, _) => rfl
  | some (.io, _) => rfl
  | some (.shr, _) => rfl
  | some (.brw, _) => rfl
  | some (.lck, _) => rfl
@[simp] theorem z_u8 {s : Slot} : unl1 s (some (.io, d)) = some (.io, d) := by
  match s with
  | none => rfl
  | some (.own, _) => rfl
  | some (.io, _) => rfl
  | some (.shr, _) => rfl
  | some (.brw, _) => rfl
  | some (.lck, _) => rfl
@[simp] theorem z_u9 {s : Slot} : unl1 s (some (.brw, d)) = some (.brw, d) := by
  match s with
  | none => rfl
  | some (.own, _) => rfl
  | some (.io, _) => rfl
  | some (.shr, _) => rfl
  | some (.brw, _) => rfl
  | some (.lck, _) => rfl
-- statements
variable {f g : Stm} {fe : DEnv → Out (D × DEnv)} {c : DEnv → Option Bool} {ce : DEnv → Out (Bool × DEnv)}
@[simp] theorem z_nop : sNop env = .ok (.nx env) := rfl
@[simp] theorem z_seq : sSeq f g env = (f env >>= fun fl => match fl with
  | .nx e => g e
  | fl => .ok fl) := rfl
@[simp] theorem z_if : sIf c f g env = must (c env) fun b => if b = true then f env else g env := rfl
@[simp] theorem z_ife : sIfE ce f g env = (ce env >>= fun p => if p.1 = true then f p.2 else g p.2) := rfl
@[simp] theorem z_ret : sRet fe env = (fe env >>= fun p => .ok (.rt p.1 p.2)) := rfl
@[simp] theorem z_retn : sRetN env = .ok (.rt .non env) := rfl
@[simp] theorem z_expr : sExpr fe env = (fe env >>= fun p => .ok (.nx p.2)) := rfl
@[simp] theorem z_brk : sBrk env = .ok (.bk env) := rfl
@[simp] theorem z_cont : sCont env = .ok (.ct env) := rfl
@[simp] theorem z_free : free? i env = match env[i]? with
  | some (some (.io, _)) => false
  | some (some (.lck, _)) => false
  | some _ => true
  | none => false := rfl
@[simp] theorem z_put : putS i d env = if free? i env = true then some (env.set i (some (.own, d))) else none := rfl
@[simp] theorem z_set : sSet i fe env = (fe env >>= fun p => must (putS i p.1 p.2) fun e => .ok (.nx e)) := rfl
@[simp] theorem z_dr0 : dropS [] env = some env := rfl
@[simp] theorem z_dr1 {r : List Nat} : dropS (i :: r) env = if free? i env = true then dropS r (env.set i none) else none := rfl
@[simp] theorem z_drop {is : List Nat} : sDrop is env = must (dropS is env) fun e => .ok (.nx e) := rfl
@[simp] theorem z_aug {o : List D → Option D} : sAug i o fe env = must (hVar i env) fun dx => fe env >>= fun p => must (o [dx, p.1]) fun d => must (putS i d p.2) fun e => .ok (.nx e) := rfl
@[simp] theorem z_isl {α : Type} {f : DEnv → Out α} : isL j f env = match env[j]? with
  | some (some (_, .lst _)) => f env
  | _ => .bad := rfl
-- tests
@[simp] theorem z_hb : hB h env = match h env with
  | some d => d.toBl
  | none => none := rfl
@[simp] theorem z_eb : eB fe env = (fe env >>= fun p => must p.1.toBl fun b => .ok (b, p.2)) := rfl
@[simp] theorem z_ebp : eBp c env = must (c env) fun b => .ok (b, env) := rfl
@[simp] theorem z_not : hNot c env = match c env with
  | some b => some (!b)
  | none => none := rfl
@[simp] theorem z_note : eNot ce env = (ce env >>= fun p => .ok (!p.1, p.2)) := rfl
@[simp] theorem z_and {c2 : DEnv → Option Bool} : hAnd c c2 env = match c env with
  | some b => if b = true then c2 env else some false
  | none => none := rfl
@[simp] theorem z_or {c2 : DEnv → Option Bool} : hOr c c2 env = match c env with
  | some b => if b = true then some true else c2 env
  | none => none := rfl
@[simp] theorem z_ande {c2 : DEnv → Out (Bool × DEnv)} : eAnd ce c2 env = (ce env >>= fun p => if p.1 = true then c2 p.2 else .ok (false, p.2)) := rfl
@[simp] theorem z_ore {c2 : DEnv → Out (Bool × DEnv)} : eOr ce c2 env = (ce env >>= fun p => if p.1 = true then .ok (true, p.2) else c2 p.2) := rfl
@[simp] theorem z_andv : hAndV h k env = match hB h env with
  | some b => if b = true then k env else some (.bl false)
  | none => none := rfl
@[simp] theorem z_orv : hOrV h k env = match hB h env with
  | some b => if b = true then some (.bl true) else k env
  | none => none := rfl
@[simp] theorem z_notv : hNotV h env = match hB h env with
  | some b => some (.bl (!b))
  | none => none := rfl
@[simp] theorem z_andve {f2 : DEnv → Out (D × DEnv)} : eAndV fe f2 env = (eB fe env >>= fun p => if p.1 = true then f2 p.2 else .ok (.bl false, p.2)) := rfl
@[simp] theorem z_orve {f2 : DEnv → Out (D × DEnv)} : eOrV fe f2 env = (eB fe env >>= fun p => if p.1 = true then .ok (.bl true, p.2) else f2 p.2) := rfl
@[simp] theorem z_notve : eNotV fe env = (eB fe env >>= fun p => .ok (.bl (!p.1), p.2)) := rfl
-- operations
variable {n n2 : Int} {b b2 : Bool} {xs ys : List D} {s t : Str}
@[simp] theorem z_bin {o : D → D → Option D} : bin o [d, e] = o d e := rfl
@[simp] theorem z_una {o : D → Option D} : una o [d] = o d := rfl
@[simp] theorem z_bi {o : Int → Int → Option D} : bI o (.int n) (.int n2) = o n n2 := rfl
@[simp] theorem z_addi : fAdd (.int n) (.int n2) = some (.int (n + n2)) := rfl
@[simp] theorem z_adds : fAdd (.str s) (.str t) = iff? (s.length + t.length ≤ 16777216) (.str (s ++ t)) := rfl
@[simp] theorem z_addt : fAdd (.tup xs) (.tup ys) = iff? (D.pureL xs = true ∧ D.pureL ys = true ∧ xs.length + ys.length ≤ 16777216) (.tup (xs ++ ys)) := rfl
@[simp] theorem z_lti : fLt (.int n) (.int n2) = some (.bl (decide (n < n2))) := rfl
@[simp] theorem z_lts : fLt (.str s) (.str t) = some (.bl (decide (s.cps.toList < t.cps.toList))) := rfl
@[simp] theorem z_tobl : D.toBl (.bl b) = some b := rfl
@[simp] theorem z_toint : D.toInt (.int n) = some n := rfl
@[simp] theorem z_tolst : D.toLst (.lst xs) = some xs := rfl
@[simp] theorem z_totup : D.toTup (.tup xs) = some xs := rfl
@[simp] theorem z_torow1 : D.toRow (.lst xs) = some xs := rfl
@[simp] theorem z_torow2 {ns : List Int} : D.toRow (.scr ns) = some (ns.map .int) := rfl
@[simp] theorem z_pint : D.pure (.int n) = true := rfl
@[simp] theorem z_pbl : D.pure (.bl b) = true := rfl
@[simp] theorem z_pstr : D.pure (.str s) = true := rfl
@[simp] theorem z_pnon : D.pure .non = true := rfl
@[simp] theorem z_ptup {fl : Bool} : D.pure (.tupF fl xs) = D.pureL xs := rfl
@[simp] theorem z_plst : D.pure (.lst xs) = false := rfl
@[simp] theorem z_pl0 : D.pureL [] = true := rfl
@[simp] theorem z_pl1 : D.pureL (d :: xs) = (d.pure && D.pureL xs) := rfl
@[simp] theorem z_pints (ns : List Int) : D.pureL (ns.map .int) = true := pureL_ints ns
theorem pureL_map {α : Type} {φ : α → D} (hp : ∀ a, (φ a).pure = true) : ∀ l : List α, D.pureL (l.map φ) = true
  | [] => rfl
  | a :: r => by rw [List.map_cons, z_pl1, hp a, pureL_map hp r]; rfl
theorem pureL_of {l : List D} (h : ∀ d ∈ l, d.pure = true) : D.pureL l = true := by
  induction l with
  | nil => rfl
  | cons a r ih => rw [z_pl1, h a List.mem_cons_self, ih fun d hd => h d (List.mem_cons_of_mem _ hd)]; rfl
@[simp] theorem z_lenl : fLen (.lst xs) = some (.int xs.length) := rfl
@[simp] theorem z_lent {fl : Bool} : fLen (.tupF fl xs) = some (.int xs.length) := rfl
@[simp] theorem z_lens {ns : List Int} : fLen (.scr ns) = some (.int ns.length) := rfl
@[simp] theorem z_lenstr : fLen (.str s) = iff? (s.length ≤ 16777216) (.int s.length) := rfl
@[simp] theorem z_sum : fSum (.lst xs) = (D.ints xs).map fun ns => .int ns.sum := rfl
@[simp] theorem z_rev : fRev (.lst xs) = iff? (D.pureL xs = true) (.lst xs.reverse) := rfl
@[simp] theorem z_lo1 : fListOf (.lst xs) = iff? (D.pureL xs = true) (.lst xs) := rfl
@[simp] theorem z_lo2 {fl : Bool} : fListOf (.tupF fl xs) = iff? (D.pureL xs = true) (.lst xs) := rfl
@[simp] theorem z_to1 : fTupOf (.lst xs) = iff? (D.pureL xs = true) (.tup xs) := rfl
@[simp] theorem z_to2 {fl : Bool} : fTupOf (.tupF fl xs) = iff? (D.pureL xs = true) (.tupF fl xs) := rfl
@[simp] theorem z_ftup : fTup xs = iff? (D.pureL xs = true ∧ xs.length ≤ 16777216) (.tup xs) := rfl
@[simp] theorem z_dsp {mk : List D → D} : dspK mk xs env = if xs.length ≤ 16777216 then .ok (mk xs, [], env) else .bad := rfl
@[simp] theorem z_app : appK [.lst xs, d] env = if xs.length < 16777216 then .ok (.non, [.lst (xs ++ [d])], env) else .bad := rfl
@[simp] theorem z_pop : popK [.lst xs] env = match xs.getLast? with
  | some y => .ok (y, [.lst xs.dropLast], env)
  | none => .bad := rfl
@[simp] theorem z_clear : clearK [.lst xs] env = .ok (.non, [.lst []], env) := rfl
@[simp] theorem z_setk : setK [d, .lst xs, .int n] env = match ixN xs.length n with
  | some k => .ok (.non, [.lst (xs.set k d)], env)
  | none => .bad := rfl
@[simp] theorem z_repk : repK [.lst xs, .int n] env = if n.natAbs < 9223372036854775808 ∧ xs.length * n.toNat ≤ 16777216 ∧ D.pureL xs = true then .ok (.lst (List.replicate n.toNat xs).flatten, [], env) else .bad := rfl
@[simp] theorem z_rept : fRepT (.tup xs) (.int n) = iff? (-1000 ≤ n ∧ n ≤ 1000 ∧ xs.length ≤ 1000 ∧ D.pureL xs = true) (.tup (List.replicate n.toNat xs).flatten) := rfl
@[simp] theorem z_isi {T : String} : gIsi T [d] = d.ty.map fun t => .bl (tyLe t T) := rfl
@[simp] theorem z_slh {o : D → Option Int → Option Int → Option D} : slH o [d, .int n] = o d none (some n) := rfl
@[simp] theorem z_sll {o : D → Option Int → Option Int → Option D} : slL o [d, .int n] = o d (some n) none := rfl
@[simp] theorem z_sl2 {o : D → Option Int → Option Int → Option D} : sl2 o [d, .int n, .int n2] = o d (some n) (some n2) := rfl
@[simp] theorem z_iff_pos {α : Type} {p : Prop} [Decidable p] {a : α} (h : p) : iff? p a = some a := if_pos h
theorem z_iff {α : Type} {p : Prop} [Decidable p] {a : α} : iff? p a = if p then some a else none := rfl
@[simp] theorem z_ty1 : D.ty (.int n) = some "int" := rfl
@[simp] theorem z_ty2 : D.ty (.bl b) = some "bool" := rfl
@[simp] theorem z_ty3 : D.ty (.str s) = some "str" := rfl
@[simp] theorem z_ty4 {fl : Bool} : D.ty (.tupF fl xs) = some "tuple" := rfl
@[simp] theorem z_ty5 : D.ty (.lst xs) = some "list" := rfl
@[simp] theorem z_ty6 : D.ty .non = some "NoneType" := rfl
-- loops
variable {bd : D → DEnv → Option DEnv} {ops : List Opn} {mk : List D → Option (List D)} {cl : List Nat} {elt : DEnv → Out (D × DEnv)} {vs : List Nat}
@[simp] theorem z_o0 : evO [] env = .ok ([], [], env) := rfl
@[simp] theorem z_o1 {r : List Opn} : evO (.pur h :: r) env = must (h env) fun d => evO r env >>= fun q => .ok (d :: q.1, q.2.1, q.2.2) := rfl
@[simp] theorem z_o2 {g : DEnv → Option D} {r : List Opn} : evO (.plc i g :: r) env = must (g env) fun d => evO r (lock i env) >>= fun q => .ok (d :: q.1, q.2.1 ++ [env], q.2.2) := rfl
@[simp] theorem z_o3 {r : List Opn} : evO (.own fe :: r) env = (fe env >>= fun p => evO r p.2 >>= fun q => .ok (p.1 :: q.1, q.2.1, q.2.2)) := rfl
@[simp] theorem z_ul0 : unlk [] env = env := rfl
@[simp] theorem z_ul1 {e0 : DEnv} {st : List DEnv} : unlk (e0 :: st) env = unlk st (unlock e0 env) := rfl
@[simp] theorem z_for : sFor ops mk bd cl f env = (evO ops env >>= fun q => must (mk q.1) fun xs => forD bd cl f xs q.2.2 >>= unS q.2.1) := rfl
@[simp] theorem z_uns1 {st : List DEnv} : unS st (.nx env) = .ok (.nx (unlk st env)) := rfl
@[simp] theorem z_uns2 {st : List DEnv} : unS st (.rt d env) = .ok (.rt d (unlk st env)) := rfl
@[simp] theorem z_lc : lcE ops mk bd ce elt vs env = (evO ops env >>= fun q => must (mk q.1) fun xs => must (hideS vs q.2.2) fun e0 => if xs.length < 16777216 then must (noEx (lcG bd ce elt vs xs e0)) fun r => .ok (.lst r.1, unlk q.2.1 (backS vs q.2.2 r.2)) else .bad) := rfl
@[simp] theorem z_yes : eYes env = .ok (true, env) := rfl
@[simp] theorem z_noex {α : Type} {a : α} : noEx (.ok a) = some a := rfl
@[simp] theorem z_hid0 : hideS [] env = some env := rfl
@[simp] theorem z_hid1 {v : Nat} {r : List Nat} : hideS (v :: r) env = match hideS r env with
  | some e => if hid? v e = true then some (e.set v none) else none
  | none => none := rfl
@[simp] theorem z_hid : hid? i env = match env[i]? with
  | some none => true
  | some (some (.own, d)) => d.pure
  | _ => false := rfl
@[simp] theorem z_bk0 {env0 : DEnv} : backS [] env0 env = env := rfl
@[simp] theorem z_bk1 {v : Nat} {r : List Nat} {env0 : DEnv} : backS (v :: r) env0 env = (backS r env0 env).set v (env0[v]?.getD none) := rfl
@[simp] theorem z_bname : bName i d env = if free? i env = true then some (env.set i (some (if d.pure = true then .own else .brw, d))) else none := rfl
@[simp] theorem z_btup {f : List D → DEnv → Option DEnv} {fl : Bool} : bTup f (.tupF fl xs) env = f xs env := rfl
@[simp] theorem z_bnil : bNil [] env = some env := rfl
@[simp] theorem z_bcons {f : D → DEnv → Option DEnv} {h : List D → DEnv → Option DEnv} : bCons f h (d :: xs) env = match f d env with
  | some e => h xs e
  | none => none := rfl
@[simp] theorem z_mkl : mkSeq [.lst xs] = some xs := rfl
@[simp] theorem z_mkt {fl : Bool} : mkSeq [.tupF fl xs] = some xs := rfl
@[simp] theorem z_mkz {a b : D} : mkZip [a, b] = match a.toSeq, b.toSeq with
  | some xs, some ys => some (zipD xs ys)
  | _, _ => none := rfl
@[simp] theorem z_seq1 : D.toSeq (.lst xs) = some xs := rfl
@[simp] theorem z_seq2 {fl : Bool} : D.toSeq (.tupF fl xs) = some xs := rfl
@[simp] theorem z_mkr1 : mkRange1 [.int n] = if inRng n = true then some (rngD 0 n.toNat) else none := rfl
@[simp] theorem z_mkr2 : mkRange2 [.int n, .int n2] = if inRng n = true ∧ inRng n2 = true then some (rngD n (n2 - n).toNat) else none := rfl
@[simp] theorem z_run {N : Nat} {ms : List Pm} {body : Stm} {ds : List D} : runFn N ms body ds = if ds.length = ms.length then body (startD N ms ds) >>= fun fl => match fl with
    | .nx e => must (outsFrom ms 0 e) fun o => .ok (.non, o)
    | .rt d e => must (outsFrom ms 0 e) fun o => .ok (d, o)
    | _ => .bad
  else .bad := rfl
@[simp] theorem z_start {N : Nat} {ms : List Pm} {ds : List D} : startD N ms ds = slotsOf ms ds ++ List.replicate (N - ms.length) none := rfl
@[simp] theorem z_slots1 {m : Pm} {ms : List Pm} {ds : List D} : slotsOf (m :: ms) (d :: ds) = some (m.md, d) :: slotsOf ms ds := rfl
@[simp] theorem z_slots0 {ds : List D} : slotsOf [] ds = [] := by cases ds <;> rfl
@[simp] theorem z_md1 : Pm.md .b = .brw := rfl
@[simp] theorem z_md2 : Pm.md .io = .io := rfl
@[simp] theorem z_md3 : Pm.md .mv = .own := rfl
@[simp] theorem z_out0 : outsFrom [] j env = some [] := rfl
@[simp] theorem z_out1 {ms : List Pm} : outsFrom (.io :: ms) j env = match env[j]?, outsFrom ms (j + 1) env with
    | some (some (.io, d)), some r => some (r ++ [d])
    | _, _ => none := rfl
@[simp] theorem z_out2 {ms : List Pm} : outsFrom (.b :: ms) j env = outsFrom ms (j + 1) env := rfl
@[simp] theorem z_out3 {ms : List Pm} : outsFrom (.mv :: ms) j env = outsFrom ms (j + 1) env := rfl
end

/-! ### loops by their turns -/
section
variable {α β : Type} {bd : D → DEnv → Option DEnv} {cl : List Nat} {body : Stm} {elt : DEnv → Out (D × DEnv)} {ce : DEnv → Out (Bool × DEnv)}
/-- a turn that goes on -/
def Turn1 (bd : D → DEnv → Option DEnv) (cl : List Nat) (body : Stm) (x : D) (e e' : DEnv) : Prop := (must (bd x e) fun e1 => body e1 >>= fun fl => match fl with
    | .nx e2 => must (dropS cl e2) fun e3 => .ok (Flw.nx e3)
    | .ct e2 => must (dropS cl e2) fun e3 => .ok (Flw.nx e3)
    | .bk e2 => .bad
    | .rt d e2 => .bad) = .ok (.nx e')
theorem forD_cons {x : D} {xs : List D} {e e' : DEnv} (h : Turn1 bd cl body x e e') : forD bd cl body (x :: xs) e = forD bd cl body xs e' := by
  unfold Turn1 at h
  rw [forD]
  cases hb : bd x e with
  | none => rw [hb] at h; cases h
  | some e1 =>
    rw [hb, must_some] at h
    rw [must_some]
    cases hf : body e1 with
    | bad => rw [hf] at h; cases h
    | exc c => rw [hf] at h; cases h
    | ok fl =>
      rw [hf] at h
      cases fl with
      | nx e2 =>
        have h : (must (dropS cl e2) fun e3 => Out.ok (Flw.nx e3)) = .ok (.nx e') := h
        show (must (dropS cl e2) fun e => forD bd cl body xs e) = _
        cases hd : dropS cl e2 with
        | none => rw [hd] at h; cases h
        | some e3 => rw [hd] at h; cases h; rfl
      | ct e2 =>
        have h : (must (dropS cl e2) fun e3 => Out.ok (Flw.nx e3)) = .ok (.nx e') := h
        show (must (dropS cl e2) fun e => forD bd cl body xs e) = _
        cases hd : dropS cl e2 with
        | none => rw [hd] at h; cases h
        | some e3 => rw [hd] at h; cases h; rfl
      | bk e2 => cases h
      | rt d e2 => cases h
/-- a loop as a fold -/
theorem forD_fold {st : α → DEnv} {f : α → β → α} {φ : β → D} {I : α → Prop} : ∀ (xs : List β) (a : α), I a → (∀ a x, x ∈ xs → I a → I (f a x) ∧ Turn1 bd cl body (φ x) (st a) (st (f a x))) → forD bd cl body (xs.map φ) (st a) = .ok (.nx (st (xs.foldl f a)))
  | [], a, _, _ => rfl
  | x :: xs, a, hI, h => by
    obtain ⟨h1, h2⟩ := h a x List.mem_cons_self hI
    rw [List.map_cons, forD_cons h2, List.foldl_cons]
    exact forD_fold xs _ h1 fun a y hy => h a y (List.mem_cons_of_mem _ hy)
/-- a comprehension's turns, the state going along -/
theorem lcG_st {st : α → DEnv} {g : α → β → D} {f : α → β → α} {φ : β → D} {I : α → Prop} : ∀ (xs : List β) (a : α), I a → (∀ a x, x ∈ xs → I a → I (f a x) ∧ (must (bd (φ x) (st a)) fun e => elt e >>= fun q => must (dropS cl q.2) fun e2 => Out.ok (q.1, e2)) = .ok (g a x, st (f a x))) →
    ∃ ds, lcG bd eYes elt cl (xs.map φ) (st a) = .ok (ds, st (xs.foldl f a)) ∧ ds = (xs.foldl (fun (p : List D × α) x => (p.1 ++ [g p.2 x], f p.2 x)) ([], a)).1
  | [], a, _, _ => ⟨[], rfl, rfl⟩
  | x :: xs, a, hI, h => by
    obtain ⟨h1, h2⟩ := h a x List.mem_cons_self hI
    obtain ⟨ds, h3, h4⟩ := lcG_st xs _ h1 fun a y hy => h a y (List.mem_cons_of_mem _ hy)
    refine ⟨g a x :: ds, ?_, ?_⟩
    · rw [List.map_cons, lcG]
      cases hb : bd (φ x) (st a) with
      | none => rw [hb] at h2; cases h2
      | some e1 =>
        rw [hb, must_some] at h2
        rw [must_some]
        show (Out.ok (true, e1) >>= _) = _
        simp only [Out.bind_ok, if_true]
        cases he : elt e1 with
        | bad => rw [he] at h2; cases h2
        | exc c => rw [he] at h2; cases h2
        | ok q =>
          obtain ⟨d, e2⟩ := q
          rw [he] at h2
          have h2 : (must (dropS cl e2) fun e3 => Out.ok (d, e3)) = .ok (g a x, st (f a x)) := h2
          simp only [Out.bind_ok]
          cases hd : dropS cl e2 with
          | none => rw [hd] at h2; cases h2
          | some e3 =>
            rw [hd] at h2
            cases h2
            rw [must_some, h3]
            rfl
    · rw [List.foldl_cons, h4]
      have key : ∀ (l : List β) (p : List D) (b : α), (l.foldl (fun (p : List D × α) x => (p.1 ++ [g p.2 x], f p.2 x)) (p, b)).1 = p ++ (l.foldl (fun (p : List D × α) x => (p.1 ++ [g p.2 x], f p.2 x)) ([], b)).1 := fun l => by
        induction l with
        | nil => intro p b; simp
        | cons y l ih =>
          intro p b
          rw [List.foldl_cons, List.foldl_cons, ih, ih ([] ++ [g b y])]
          simp
      rw [key xs ([] ++ [g a x])]
      rfl
/-- .. the state staying -/
theorem lcG_map {e0 : DEnv} {g : β → D} {φ : β → D} : ∀ (xs : List β), (∀ x, x ∈ xs → (must (bd (φ x) e0) fun e => elt e >>= fun q => must (dropS cl q.2) fun e2 => Out.ok (q.1, e2)) = .ok (g x, e0)) → lcG bd eYes elt cl (xs.map φ) e0 = .ok (xs.map g, e0)
  | [], _ => rfl
  | x :: xs, h => by
    have h2 := h x List.mem_cons_self
    have h3 := lcG_map xs fun y hy => h y (List.mem_cons_of_mem _ hy)
    rw [List.map_cons, lcG]
    cases hb : bd (φ x) e0 with
    | none => rw [hb] at h2; cases h2
    | some e1 =>
      rw [hb, must_some] at h2
      rw [must_some]
      show (Out.ok (true, e1) >>= _) = _
      simp only [Out.bind_ok, if_true]
      cases he : elt e1 with
      | bad => rw [he] at h2; cases h2
      | exc c => rw [he] at h2; cases h2
      | ok q =>
        obtain ⟨d, e2⟩ := q
        rw [he] at h2
        have h2 : (must (dropS cl e2) fun e3 => Out.ok (d, e3)) = .ok (g x, e0) := h2
        simp only [Out.bind_ok]
        cases hd : dropS cl e2 with
        | none => rw [hd] at h2; cases h2
        | some e3 =>
          rw [hd] at h2
          cases h2
          rw [must_some, h3]
          rfl
/-- a loop as a fold, the turns counted -/
theorem forD_foldI {st : α → DEnv} {f : α → β → α} {φ : β → D} {I : Nat → α → Prop} : ∀ (xs : List β) (i : Nat) (a : α), I i a → (∀ j a x, xs[j]? = some x → I (i + j) a → I (i + j + 1) (f a x) ∧ Turn1 bd cl body (φ x) (st a) (st (f a x))) → forD bd cl body (xs.map φ) (st a) = .ok (.nx (st (xs.foldl f a))) ∧ I (i + xs.length) (xs.foldl f a)
  | [], i, a, hI, _ => ⟨rfl, hI⟩
  | x :: xs, i, a, hI, h => by
    obtain ⟨h1, h2⟩ := h 0 a x rfl hI
    rw [List.map_cons, forD_cons h2, List.foldl_cons, List.length_cons]
    have e : ∀ j, i + 1 + j = i + (j + 1) := fun j => by omega
    have r := forD_foldI xs (i + 1) (f a x) h1 fun j b y hy hb => by
      have q := h (j + 1) b y hy (by rw [← e]; exact hb)
      rw [e]
      exact q
    rw [e] at r
    exact r
/-- a loop whose state is not told in full -/
theorem forD_ex {st : α → DEnv} {φ : β → D} {I : α → Prop} : ∀ (xs : List β) (a : α), I a → (∀ a x, x ∈ xs → I a → ∃ b, I b ∧ Turn1 bd cl body (φ x) (st a) (st b)) → ∃ b, I b ∧ forD bd cl body (xs.map φ) (st a) = .ok (.nx (st b))
  | [], a, hI, _ => ⟨a, hI, rfl⟩
  | x :: xs, a, hI, h => by
    obtain ⟨b, h1, h2⟩ := h a x List.mem_cons_self hI
    rw [List.map_cons, forD_cons h2]
    exact forD_ex xs b h1 fun c y hy => h c y (List.mem_cons_of_mem _ hy)
theorem lcG_cons {x : D} {xs : List D} {e e' : DEnv} {d : D} (h : (must (bd x e) fun e => elt e >>= fun q => must (dropS cl q.2) fun e2 => Out.ok (q.1, e2)) = .ok (d, e')) : lcG bd eYes elt cl (x :: xs) e = (lcG bd eYes elt cl xs e' >>= fun r => .ok (d :: r.1, r.2)) := by
  rw [lcG]
  cases hb : bd x e with
  | none => rw [hb] at h; cases h
  | some e1 =>
    rw [hb, must_some] at h
    rw [must_some]
    show (Out.ok (true, e1) >>= _) = _
    simp only [Out.bind_ok, if_true]
    cases he : elt e1 with
    | bad => rw [he] at h; cases h
    | exc c => rw [he] at h; cases h
    | ok q =>
      obtain ⟨d2, e2⟩ := q
      rw [he] at h
      have h : (must (dropS cl e2) fun e3 => Out.ok (d2, e3)) = .ok (d, e') := h
      simp only [Out.bind_ok]
      cases hd : dropS cl e2 with
      | none => rw [hd] at h; cases h
      | some e3 =>
        rw [hd] at h
        cases h
        rfl
/-- a comprehension whose items are not told in full -/
theorem lcG_ex {γ : Type} {st : α → DEnv} {φ : β → D} {ω : γ → D} {R : γ → Prop} {I : α → Prop} : ∀ (xs : List β) (a : α), I a → (∀ a x, x ∈ xs → I a → ∃ r b, R r ∧ I b ∧ (must (bd (φ x) (st a)) fun e => elt e >>= fun q => must (dropS cl q.2) fun e2 => Out.ok (q.1, e2)) = .ok (ω r, st b)) →
    ∃ (rs : List γ) (b : α), rs.length = xs.length ∧ (∀ r ∈ rs, R r) ∧ I b ∧ lcG bd eYes elt cl (xs.map φ) (st a) = .ok (rs.map ω, st b)
  | [], a, hI, _ => ⟨[], a, rfl, fun r h => (by cases h), hI, rfl⟩
  | x :: xs, a, hI, h => by
    obtain ⟨r, b, h1, h2, h3⟩ := h a x List.mem_cons_self hI
    obtain ⟨rs, c, g1, g2, g3, g4⟩ := lcG_ex xs b h2 fun d y hy => h d y (List.mem_cons_of_mem _ hy)
    refine ⟨r :: rs, c, by rw [List.length_cons, List.length_cons, g1], fun q hq => ?_, g3, ?_⟩
    · rcases List.mem_cons.mp hq with rfl | hq
      · exact h1
      · exact g2 q hq
    · rw [List.map_cons, lcG_cons h3, g4]
      rfl
end
end DL

namespace DL
open PySem PySem.Spec PyProof.Rows L2
/-! ### == and in, of data with a Lean type -/
structure EqOk {α : Type} [DecidableEq α] (φ : α → D) (n : Nat) : Prop where
  py : ∀ a, ∃ p, (φ a).py = some p ∧ p.canLay0 = true ∧ p.depth ≤ n
  eqv : ∀ a b p q, (φ a).py = some p → (φ b).py = some q → PyData.eqv p q = decide (a = b)
section
variable {α β : Type} [DecidableEq α] [DecidableEq β] {φ : α → D} {ψ : β → D} {n m : Nat}
theorem beq_dec {γ : Type} [BEq γ] [LawfulBEq γ] [DecidableEq γ] (a b : γ) : (a == b) = decide (a = b) := by
  rw [Bool.eq_iff_iff, beq_iff_eq, decide_eq_true_eq]
theorem EqOk.int : EqOk D.int 0 := ⟨fun a => ⟨_, rfl, rfl, Nat.le_refl _⟩, fun a b p q hp hq => by
  cases hp; cases hq
  simp only [PyData.eqv]
  exact beq_dec a b⟩
theorem EqOk.bl : EqOk D.bl 0 := ⟨fun a => ⟨_, rfl, rfl, Nat.le_refl _⟩, fun a b p q hp hq => by
  cases hp; cases hq
  simp only [PyData.eqv]
  exact beq_dec a b⟩
theorem EqOk.items (h : EqOk φ n) : ∀ xs : List α, ∃ ps, D.pyL (xs.map φ) = some ps ∧ PyData.canLayAll0 ps = true ∧ PyData.depthAll ps ≤ n
  | [] => ⟨[], rfl, rfl, Nat.zero_le _⟩
  | x :: r => by
    obtain ⟨p, h1, h2, h3⟩ := h.py x
    obtain ⟨ps, g1, g2, g3⟩ := EqOk.items h r
    refine ⟨p :: ps, ?_, ?_, ?_⟩
    · rw [List.map_cons, D.pyL, h1, g1]
    · rw [PyData.canLayAll0, h2, g2]; rfl
    · rw [PyData.depthAll]; exact Nat.max_le.mpr ⟨h3, g3⟩
theorem EqOk.itemsEq (h : EqOk φ n) : ∀ (xs ys : List α) (ps qs : List PyData), D.pyL (xs.map φ) = some ps → D.pyL (ys.map φ) = some qs → PyData.eqvAll ps qs = decide (xs = ys)
  | [], [], ps, qs, h1, h2 => by
    cases (show some ([] : List PyData) = some ps from h1)
    cases (show some ([] : List PyData) = some qs from h2)
    simp [PyData.eqvAll]
  | [], y :: ys, ps, qs, h1, h2 => by
    cases (show some ([] : List PyData) = some ps from h1)
    obtain ⟨q, e1, _⟩ := h.py y
    obtain ⟨qs', g1, _⟩ := h.items ys
    rw [List.map_cons, D.pyL, e1, g1] at h2
    cases h2
    simp [PyData.eqvAll]
  | x :: xs, [], ps, qs, h1, h2 => by
    cases (show some ([] : List PyData) = some qs from h2)
    obtain ⟨q, e1, _⟩ := h.py x
    obtain ⟨qs', g1, _⟩ := h.items xs
    rw [List.map_cons, D.pyL, e1, g1] at h1
    cases h1
    simp [PyData.eqvAll]
  | x :: xs, y :: ys, ps, qs, h1, h2 => by
    obtain ⟨p, e1, _⟩ := h.py x
    obtain ⟨ps', g1, _⟩ := h.items xs
    rw [List.map_cons, D.pyL, e1, g1] at h1
    cases h1
    obtain ⟨q, e2, _⟩ := h.py y
    obtain ⟨qs', g2, _⟩ := h.items ys
    rw [List.map_cons, D.pyL, e2, g2] at h2
    cases h2
    rw [PyData.eqvAll, h.eqv x y p q e1 e2, EqOk.itemsEq h xs ys _ _ g1 g2, ← Bool.decide_and]
    exact decide_eq_decide.mpr (by rw [List.cons.injEq])
theorem EqOk.lst (h : EqOk φ n) : EqOk (fun xs : List α => D.lst (xs.map φ)) (n + 1) := ⟨fun xs => by
    obtain ⟨ps, h1, h2, h3⟩ := h.items xs
    refine ⟨.list ps, ?_, ?_, ?_⟩
    · show (D.pyL (xs.map φ)).map PyData.list = _
      rw [h1]; rfl
    · rw [PyData.canLay0]; exact h2
    · rw [PyData.depth]; omega, fun xs ys p q hp hq => by
    obtain ⟨ps, h1, _⟩ := h.items xs
    obtain ⟨qs, h2, _⟩ := h.items ys
    have hp : (D.pyL (xs.map φ)).map PyData.list = some p := hp
    have hq : (D.pyL (ys.map φ)).map PyData.list = some q := hq
    rw [h1] at hp
    rw [h2] at hq
    cases hp
    cases hq
    simp only [PyData.eqv]
    exact h.itemsEq xs ys ps qs h1 h2⟩
theorem EqOk.tup (h : EqOk φ n) : EqOk (fun xs : List α => D.tup (xs.map φ)) (n + 1) := ⟨fun xs => by
    obtain ⟨ps, h1, h2, h3⟩ := h.items xs
    refine ⟨.tuple ps, ?_, ?_, ?_⟩
    · show (D.pyL (xs.map φ)).map PyData.tuple = _
      rw [h1]; rfl
    · rw [PyData.canLay0]; exact h2
    · rw [PyData.depth]; omega, fun xs ys p q hp hq => by
    obtain ⟨ps, h1, _⟩ := h.items xs
    obtain ⟨qs, h2, _⟩ := h.items ys
    have hp : (D.pyL (xs.map φ)).map PyData.tuple = some p := hp
    have hq : (D.pyL (ys.map φ)).map PyData.tuple = some q := hq
    rw [h1] at hp
    rw [h2] at hq
    cases hp
    cases hq
    simp only [PyData.eqv]
    exact h.itemsEq xs ys ps qs h1 h2⟩
theorem EqOk.pair (h : EqOk φ n) (k : EqOk ψ n) : EqOk (fun p : α × β => D.tup [φ p.1, ψ p.2]) (n + 1) := ⟨fun x => by
    obtain ⟨p, h1, h2, h3⟩ := h.py x.1
    obtain ⟨q, k1, k2, k3⟩ := k.py x.2
    refine ⟨.tuple [p, q], ?_, ?_, ?_⟩
    · show (D.pyL [φ x.1, ψ x.2]).map PyData.tuple = _
      simp only [D.pyL, h1, k1]; rfl
    · simp only [PyData.canLay0, PyData.canLayAll0, h2, k2, Bool.and_true]
    · simp only [PyData.depth, PyData.depthAll]; omega, fun x y p q hp hq => by
    obtain ⟨p1, h1, _⟩ := h.py x.1
    obtain ⟨q1, k1, _⟩ := k.py x.2
    obtain ⟨p2, h2, _⟩ := h.py y.1
    obtain ⟨q2, k2, _⟩ := k.py y.2
    have hp : (D.pyL [φ x.1, ψ x.2]).map PyData.tuple = some p := hp
    have hq : (D.pyL [φ y.1, ψ y.2]).map PyData.tuple = some q := hq
    simp only [D.pyL, h1, k1] at hp
    simp only [D.pyL, h2, k2] at hq
    cases hp
    cases hq
    simp only [PyData.eqv, PyData.eqvAll, h.eqv _ _ _ _ h1 h2, k.eqv _ _ _ _ k1 k2, Bool.and_true, ← Bool.decide_and]
    exact decide_eq_decide.mpr ⟨fun e => Prod.ext e.1 e.2, fun e => by rw [e]; exact ⟨rfl, rfl⟩⟩⟩
theorem shaped_of {p : PyData} (h1 : p.canLay0 = true) (h2 : p.depth ≤ n) (hn : n ≤ 64) : SeqAt.shaped p = true := by
  unfold SeqAt.shaped
  rw [h1, decide_eq_true (by omega)]; rfl
theorem EqOk.eq (h : EqOk φ n) (a b : α) (hn : n ≤ 64 := by decide) : gEqB (φ a) (φ b) = some (decide (a = b)) := by
  obtain ⟨p, h1, h2, h3⟩ := h.py a
  obtain ⟨q, k1, k2, k3⟩ := h.py b
  unfold gEqB
  rw [h1, k1]
  show iff? (SeqAt.shaped p = true ∧ SeqAt.shaped q = true) (PyData.eqv p q) = _
  rw [iff?_pos ⟨shaped_of h2 h3 hn, shaped_of k2 k3 hn⟩, h.eqv a b p q h1 k1]
theorem EqOk.mem (h : EqOk φ n) (a : α) (xs : List α) (hn : n ≤ 63 := by decide) : inB (φ a) (.lst (xs.map φ)) = some (decide (a ∈ xs)) := by
  obtain ⟨p, h1, h2, h3⟩ := h.py a
  obtain ⟨ps, g1, g2, g3⟩ := h.items xs
  have e : (D.lst (xs.map φ)).py = some (.list ps) := by
    show (D.pyL (xs.map φ)).map PyData.list = _
    rw [g1]; rfl
  unfold inB
  simp only [h1, e]
  rw [iff?_pos ⟨shaped_of h2 h3 (Nat.le_succ_of_le hn), shaped_of (n := n + 1) (by rw [PyData.canLay0]; exact g2) (by rw [PyData.depth]; omega) (by omega)⟩]
  have key : ∀ (xs : List α) (ps : List PyData), D.pyL (xs.map φ) = some ps → (ps.any fun z => PyData.eqv z p) = decide (a ∈ xs) := fun xs => by
    induction xs with
    | nil =>
      intro ps g
      cases (show some ([] : List PyData) = some ps from g)
      simp
    | cons x r ih =>
      intro ps g
      obtain ⟨q, e1, _⟩ := h.py x
      obtain ⟨qs, e2, _⟩ := h.items r
      rw [List.map_cons, D.pyL, e1, e2] at g
      cases g
      rw [List.any_cons, h.eqv x a q p e1 h1, ih qs e2]
      by_cases hx : x = a
      · subst hx; simp
      · have : ¬ a = x := fun z => hx z.symm
        simp [hx, this]
  rw [key xs ps g1]
/-- what is compared with itself -/
theorem eq_same {d : D} {p : PyData} (h1 : d.py = some p) (h2 : p.canLay0 = true) (h3 : p.depth ≤ 64) : gEqB d d = some true := by
  unfold gEqB
  rw [h1]
  show iff? (SeqAt.shaped p = true ∧ SeqAt.shaped p = true) (PyData.eqv p p) = _
  rw [iff?_pos ⟨shaped_of h2 h3 (Nat.le_refl _), shaped_of h2 h3 (Nat.le_refl _)⟩, SeqAt.eqv_refl p h2]
end
@[simp] theorem eq_nil0 : gEqB (.lst []) (.lst []) = some true := (EqOk.int.lst.eq [] []).trans (by simp)
@[simp] theorem eq_int (a b : Int) : gEqB (.int a) (.int b) = some (decide (a = b)) := EqOk.int.eq a b
@[simp] theorem eq_nilI (ns : List Int) : gEqB (.lst (ns.map .int)) (.lst []) = some (decide (ns = [])) := EqOk.int.lst.eq ns []
theorem inRng_of {i : Int} (h : -1000000000 ≤ i ∧ i ≤ 1000000000) : inRng i = true := by
  unfold inRng
  exact decide_eq_true (by omega)
theorem log_lt {n k : Nat} (h : n < 2 ^ k) (hk : 0 < k) : n.log2 < k := by
  by_cases h0 : n = 0
  · rw [h0]; simpa using hk
  · exact (Nat.log2_lt h0).mpr h
@[simp] theorem log_9000 {n : Nat} (h : n < 18446744073709551616) : n.log2 < 9000 := Nat.lt_of_lt_of_le (log_lt (k := 64) (by simpa using h) (by decide)) (by decide)
@[simp] theorem log_1920 {n : Nat} (h : n < 18446744073709551616) : n.log2 < 1920 := Nat.lt_of_lt_of_le (log_lt (k := 64) (by simpa using h) (by decide)) (by decide)
/-- a number of less than k bits -/
def Bd (k : Nat) (n : Int) : Prop := n.natAbs < 2 ^ k
section
variable {j k : Nat} {a b : Int}
theorem Bd.mono (h : Bd j a) (hk : j ≤ k) : Bd k a := Nat.lt_of_lt_of_le h (Nat.pow_le_pow_right (by decide) hk)
theorem Bd.add (h : Bd k a) (h2 : Bd k b) : Bd (k + 1) (a + b) := by
  unfold Bd at *
  have := Int.natAbs_add_le a b
  rw [Nat.pow_succ]
  omega
theorem Bd.neg (h : Bd k a) : Bd k (-a) := by
  unfold Bd at *
  rw [Int.natAbs_neg]; exact h
theorem Bd.sub (h : Bd k a) (h2 : Bd k b) : Bd (k + 1) (a - b) := by
  rw [Int.sub_eq_add_neg]
  exact h.add h2.neg
theorem Bd.mul (h : Bd j a) (h2 : Bd k b) : Bd (j + k) (a * b) := by
  unfold Bd at *
  rw [Int.natAbs_mul, Nat.pow_add]
  exact Nat.mul_lt_mul'' h h2
theorem Bd.log (h : Bd k a) (hk : 0 < k) : a.natAbs.log2 < k := by
  unfold Bd at h
  by_cases h0 : a.natAbs = 0
  · rw [h0]; simpa using hk
  · exact (Nat.log2_lt h0).mpr h
theorem mulOk (h : Bd j a) (h2 : Bd k b) (hj : j < 30000000 := by decide) (hk : k < 30000000 := by decide) : MulOk a b := by
  unfold MulOk
  have h1 := (h.mono (Nat.le_succ j)).log (Nat.succ_pos j)
  have h3 := (h2.mono (Nat.le_succ k)).log (Nat.succ_pos k)
  omega
theorem Bd.of_lt {n : Int} (h0 : -(2 ^ k : Nat) < n) (h1 : n < (2 ^ k : Nat)) : Bd k n := by
  unfold Bd
  omega
end
end DL

namespace DL
open PySem PySem.Spec PyProof.Rows L2
/-! ### more of how the semantics is reckoned -/
section
variable {env : DEnv} {xs ys : List D} {s t : Str} {d : D} {T : String}
@[simp] theorem z_onlyT {f : D → Bool} : onlyT f d = if f d = true then some d else none := rfl
@[simp] theorem z_tyS : tyD T (.str s) = (T == "str") := rfl
@[simp] theorem z_tyT : tyD T (.tupF true xs) = (T == "tuple") := rfl
@[simp] theorem z_tyL : tyD T (.lst xs) = (T == "list") := rfl
@[simp] theorem z_strs : ∀ l : List Str, D.strs (l.map .str) = some l
  | [] => rfl
  | a :: r => by
    show (D.strs (r.map .str)).map (a :: ·) = _
    rw [z_strs r]; rfl
@[simp] theorem z_tix {l : List Str} : fTIx (.tupF true (l.map .str)) (.str s) = (l.findIdx? (· == s)).map fun (j : Nat) => .int (j : Int) := by
  unfold fTIx
  simp
@[simp] theorem z_tupx : fTupX (.lst xs) = iff? (D.pureL xs = true) (.tupF true xs) := rfl
@[simp] theorem z_unp {is : List Nat} {f : DEnv → Out (D × DEnv)} : sUnp is f env = (f env >>= fun p => match p.1.toTupA with
  | some ds => must (putsS is ds p.2) fun e => .ok (.nx e)
  | none => .bad) := rfl
@[simp] theorem z_toTupA {fl : Bool} : D.toTupA (.tupF fl xs) = some xs := rfl
@[simp] theorem z_puts0 : putsS [] [] env = some env := rfl
@[simp] theorem z_puts1 {i : Nat} {is : List Nat} {ds : List D} : putsS (i :: is) (d :: ds) env = match putS i d env with
    | some e' => putsS is ds e'
    | none => none := rfl
@[simp] theorem z_al {i j : Nat} {hs : List SArg} {ds : List Nat} {rest : Stm} : sAl i j hs ds rest env = must (evS hs (lock i env)) fun xs => if hs.all (bArg (lock i env)) = true ∧ xs.length ≤ 16777216 then must (bName j (.tup xs) (lock i env)) fun e2 => (rest e2 >>= dropF ds) >>= unS [env] else .bad := rfl
@[simp] theorem z_barg1 {h : DEnv → Option D} : bArg env (.pur h) = true := rfl
@[simp] theorem z_barg2 {i : Nat} {g : DEnv → Option D} : bArg env (.plc i g) = match env[i]? with
    | some (some (.brw, _)) => true
    | some (some (.lck, _)) => true
    | _ => false := rfl
@[simp] theorem z_dropf1 {ds : List Nat} {e : DEnv} : dropF ds (.nx e) = must (dropS ds e) fun e => .ok (.nx e) := rfl
@[simp] theorem z_dropf2 {ds : List Nat} {e : DEnv} : dropF ds (.rt d e) = must (dropS ds e) fun e => .ok (.rt d e) := rfl
@[simp] theorem z_mkr3 {a b c : Int} : mkRange3 [.int a, .int b, .int c] = if c ≠ 0 ∧ c.natAbs < 1073741824 ∧ Builtin.Range.small a b c = true then some (rngC a c (Builtin.Range.rangeSize a b c).toNat) else none := rfl
@[simp] theorem z_sorted : fSorted (.lst xs) = iff? (D.pureL xs = true ∧ (xs.all fun x => x.py.isSome) = true ∧ sortB (xs.map encD) = true) (.lst (sortL xs)) := rfl
@[simp] theorem z_mksigs : mkSigs [.str s] = some (sigsD s) := rfl
@[simp] theorem z_mkenum : mkEnum [.lst xs] = some (enumD 0 xs) := rfl
@[simp] theorem z_slps {lo hi : Option Int} : fSlP (.str s) lo hi = iff? (s.length ≤ 16777216) (.str (cutS s lo hi)) := rfl
@[simp] theorem z_slpt {lo hi : Option Int} : fSlP (.tup xs) lo hi = iff? (D.pureL xs = true) (.tup (cutD xs lo hi)) := rfl
@[simp] theorem z_ixs {n : Int} : fIx (.str s) (.int n) = match atI s.cps.toList n with
    | some c => iff? (s.length ≤ 16777216) (.str ⟨#[c]⟩)
    | none => none := rfl
@[simp] theorem z_ixlst {n : Int} : fIx (.lst xs) (.int n) = match atI xs n with
    | some e => iff? (e.pure = true) e
    | none => none := rfl
@[simp] theorem z_ixtup {n : Int} {fl : Bool} : fIx (.tupF fl xs) (.int n) = match atI xs n with
    | some e => iff? (e.pure = true) e
    | none => none := rfl
@[simp] theorem z_ixscr {n : Int} {ns : List Int} : fIx (.scr ns) (.int n) = match dIx (.scr ns) n with
    | some e => iff? (e.pure = true) e
    | none => none := rfl
@[simp] theorem z_fsl1 {lo hi : Option Int} : fSlL (.lst xs) lo hi = iff? (D.pureL xs = true) (.lst (cutD xs lo hi)) := rfl
@[simp] theorem z_fsl2 {ns : List Int} {lo hi : Option Int} : fSlL (.scr ns) lo hi = some (.lst (cutD (ns.map .int) lo hi)) := iff?_pos (pureL_ints ns) _
@[simp] theorem z_pstrs (l : List Str) : D.pureL (l.map .str) = true := pureL_map (fun _ => rfl) l
@[simp] theorem z_int1 {n : Int} : fInt (.int n) = some (.int n) := rfl
@[simp] theorem z_int2 {b : Bool} : fInt (.bl b) = some (.int (if b then 1 else 0)) := rfl
@[simp] theorem z_bB {f : Bool → Bool → D} {a b : Bool} : bB f (.bl a) (.bl b) = some (f a b) := rfl
@[simp] theorem z_inS {f : Bool → Bool} {c : Nat} {z : Str} : fInS f (.str ⟨#[c]⟩) (.str z) = some (.bl (f (decide (c ∈ z.cps.toList)))) := rfl
@[simp] theorem z_isnon0 : D.isNon .non = true := rfl
@[simp] theorem z_isnon1 {n : Int} : D.isNon (.int n) = false := rfl
@[simp] theorem z_isnon2 {b : Bool} : D.isNon (.bl b) = false := rfl
@[simp] theorem z_isnon3 : D.isNon (.str s) = false := rfl
@[simp] theorem z_isnon4 {fl : Bool} : D.isNon (.tupF fl xs) = false := rfl
@[simp] theorem z_isnon5 : D.isNon (.lst xs) = false := rfl
end
/-! ### small things -/
theorem pow_eq {b e : Int} {r : Int} (h : 0 ≤ e ∧ e ≤ 1000 ∧ b.natAbs < 1000000) (hr : b ^ e.toNat = r) : gPow [.int b, .int e] = some (.int r) := by
  simp only [z_bin, z_bi]
  rw [iff?_pos h, hr]
theorem eq_str {a b : Str} (ha : PyData.strOk a = true) (hb : PyData.strOk b = true) : gEqB (.str a) (.str b) = some (decide (a = b)) := by
  unfold gEqB
  show iff? (SeqAt.shaped (.str a) = true ∧ SeqAt.shaped (.str b) = true) (PyData.eqv (.str a) (.str b)) = _
  have h1 : SeqAt.shaped (.str a) = true := shaped_of (n := 0) (by rw [PyData.canLay0]; exact ha) (Nat.le_refl _) (by decide)
  have h2 : SeqAt.shaped (.str b) = true := shaped_of (n := 0) (by rw [PyData.canLay0]; exact hb) (Nat.le_refl _) (by decide)
  rw [iff?_pos ⟨h1, h2⟩]
  simp only [PyData.eqv]
  rw [beq_dec]
/-- data that are compared -/
def Lay (n : Nat) (d : D) : Prop := ∃ q, d.py = some q ∧ q.canLay0 = true ∧ q.depth ≤ n
theorem Lay.items {n : Nat} : ∀ {ds : List D}, (∀ d ∈ ds, Lay n d) → ∃ qs, D.pyL ds = some qs ∧ PyData.canLayAll0 qs = true ∧ PyData.depthAll qs ≤ n
  | [], _ => ⟨[], rfl, rfl, Nat.zero_le _⟩
  | d :: ds, h => by
    obtain ⟨q, h1, h2, h3⟩ := h d List.mem_cons_self
    obtain ⟨qs, g1, g2, g3⟩ := Lay.items fun e m => h e (List.mem_cons_of_mem _ m)
    refine ⟨q :: qs, ?_, ?_, ?_⟩
    · rw [D.pyL, h1, g1]
    · rw [PyData.canLayAll0, h2, g2]; rfl
    · rw [PyData.depthAll]; exact Nat.max_le.mpr ⟨h3, g3⟩
theorem Lay.tup {n : Nat} {f : Bool} {ds : List D} (h : ∀ d ∈ ds, Lay n d) : Lay (n + 1) (.tupF f ds) := by
  obtain ⟨qs, h1, h2, h3⟩ := Lay.items h
  refine ⟨.tuple qs, ?_, ?_, ?_⟩
  · show (D.pyL ds).map PyData.tuple = _
    rw [h1]; rfl
  · rw [PyData.canLay0]; exact h2
  · rw [PyData.depth]; omega
theorem Lay.lst {n : Nat} {ds : List D} (h : ∀ d ∈ ds, Lay n d) : Lay (n + 1) (.lst ds) := by
  obtain ⟨qs, h1, h2, h3⟩ := Lay.items h
  refine ⟨.list qs, ?_, ?_, ?_⟩
  · show (D.pyL ds).map PyData.list = _
    rw [h1]; rfl
  · rw [PyData.canLay0]; exact h2
  · rw [PyData.depth]; omega
theorem Lay.int {n : Nat} {i : Int} : Lay n (.int i) := ⟨_, rfl, rfl, Nat.zero_le _⟩
theorem Lay.bl {n : Nat} {i : Bool} : Lay n (.bl i) := ⟨_, rfl, rfl, Nat.zero_le _⟩
theorem Lay.str {n : Nat} {s : Str} (h : PyData.strOk s = true) : Lay n (.str s) := ⟨_, rfl, by rw [PyData.canLay0]; exact h, Nat.zero_le _⟩
theorem Lay.ints {n : Nat} {l : List Int} : ∀ d ∈ l.map D.int, Lay n d := fun d h => by
  obtain ⟨i, _, rfl⟩ := List.mem_map.mp h
  exact Lay.int
theorem Lay.same {n : Nat} {d : D} (h : Lay n d) (hn : n ≤ 64) : gEqB d d = some true := by
  obtain ⟨q, h1, h2, h3⟩ := h
  exact eq_same h1 h2 (by omega)
theorem eq_nilL {n : Nat} {ds : List D} (h : ∀ d ∈ ds, Lay n d) (hn : n < 64) : gEqB (.lst ds) (.lst []) = some (decide (ds = [])) := by
  obtain ⟨qs, h1, h2, h3⟩ := Lay.items h
  unfold gEqB
  have e1 : (D.lst ds).py = some (.list qs) := by
    show (D.pyL ds).map PyData.list = _
    rw [h1]; rfl
  have e2 : (D.lst []).py = some (.list []) := rfl
  rw [e1, e2]
  show iff? (SeqAt.shaped (.list qs) = true ∧ SeqAt.shaped (.list []) = true) (PyData.eqv (.list qs) (.list [])) = _
  have s1 : SeqAt.shaped (.list qs) = true := shaped_of (n := n + 1) (by rw [PyData.canLay0]; exact h2) (by rw [PyData.depth]; omega) (by omega)
  have s2 : SeqAt.shaped (.list []) = true := shaped_of (n := 1) (by rw [PyData.canLay0]; rfl) (by decide) (by decide)
  rw [iff?_pos ⟨s1, s2⟩]
  cases ds with
  | nil =>
    cases (show some ([] : List PyData) = some qs from h1)
    simp [PyData.eqv, PyData.eqvAll]
  | cons d r =>
    cases qs with
    | nil =>
      have : (match d.py, D.pyL r with
        | some p, some q => some (p :: q)
        | _, _ => none) = some [] := h1
      split at this <;> cases this
    | cons q qs => simp [PyData.eqv, PyData.eqvAll]
/-- a text of code points that are told apart -/
abbrev OStr := {s : Str // PyData.strOk s = true}
theorem EqOk.str : EqOk (fun s : OStr => D.str s.1) 0 := ⟨fun a => ⟨.str a.1, rfl, by rw [PyData.canLay0]; exact a.2, Nat.le_refl _⟩, fun a b p q hp hq => by
  cases hp; cases hq
  simp only [PyData.eqv]
  rw [beq_dec]
  exact decide_eq_decide.mpr ⟨fun e => Subtype.ext e, fun e => by rw [e]⟩⟩
theorem cutS_take (l : List Nat) (t : Nat) : cutS (SX.S l) none (some (t : Int)) = SX.S (l.take t) := by
  unfold cutS
  rw [HT.sIx_none, HT.sIx_nat]
  simp [SX.S, Str.length]
theorem cutS_drop (l : List Nat) (t : Nat) : cutS (SX.S l) (some (t : Int)) none = SX.S (l.drop t) := by
  unfold cutS
  rw [HT.sIx_none, HT.sIx_nat]
  simp only [SX.S, Str.length]
  congr 2
  by_cases h : t ≤ l.length
  · rw [show min t l.toArray.size = t from by simp; omega]
    rw [List.take_of_length_le]
    simp
  · have h2 : l.length ≤ t := by omega
    rw [List.drop_of_length_le (i := t) h2, List.drop_of_length_le (by simp; omega)]
    simp
theorem cutD_take' (xs : List D) (t : Nat) : cutD xs none (some (t : Int)) = xs.take t := by
  unfold cutD
  rw [HT.sIx_none, HT.sIx_nat]
  simp
theorem cutD_drop' (xs : List D) (t : Nat) : cutD xs (some (t : Int)) none = xs.drop t := by
  unfold cutD
  rw [HT.sIx_none, HT.sIx_nat]
  by_cases h : t ≤ xs.length
  · rw [Nat.min_eq_left h, List.take_of_length_le]
    simp
  · have h2 : xs.length ≤ t := by omega
    rw [Nat.min_eq_right h2, List.drop_of_length_le h2, List.drop_of_length_le (Nat.le_refl _)]
    simp
theorem cutD_mid (xs : List D) (a b : Nat) : cutD xs (some (a : Int)) (some (b : Int)) = (xs.take b).drop a := by
  unfold cutD
  rw [HT.sIx_nat, HT.sIx_nat, List.drop_take]
  by_cases h : a ≤ xs.length
  · rw [Nat.min_eq_left h]
    by_cases hb : b ≤ xs.length
    · rw [Nat.min_eq_left hb]
    · have hb : xs.length ≤ b := by omega
      rw [Nat.min_eq_right hb, List.take_of_length_le (by simp), List.take_of_length_le (by simp; omega)]
  · have h : xs.length ≤ a := by omega
    rw [Nat.min_eq_right h, List.drop_of_length_le (Nat.le_refl _), List.drop_of_length_le h]
    simp
/-! ### while, turn by turn -/
def WhR (c : DEnv → Out (Bool × DEnv)) (body : Stm) (e : DEnv) (o : Flw) : Prop := ∃ n, whileN c body n e = .ok o
theorem WhR.stop {c : DEnv → Out (Bool × DEnv)} {body : Stm} {e e2 : DEnv} (h : c e = .ok (false, e2)) : WhR c body e (.nx e2) := ⟨1, by
  show (c e >>= _) = _
  rw [h]
  rfl⟩
theorem WhR.step {c : DEnv → Out (Bool × DEnv)} {body : Stm} {e e1 e2 : DEnv} {o : Flw} (h : c e = .ok (true, e1)) (hb : body e1 = .ok (.nx e2) ∨ body e1 = .ok (.ct e2)) (k : WhR c body e2 o) : WhR c body e o := by
  obtain ⟨n, hn⟩ := k
  refine ⟨n + 1, ?_⟩
  rw [whileN, h]
  simp only [Out.bind_ok, if_true]
  rcases hb with hb | hb
  · rw [hb]; exact hn
  · rw [hb]; exact hn
theorem WhR.sw {c : DEnv → Out (Bool × DEnv)} {body : Stm} {e : DEnv} {o : Flw} (k : WhR c body e o) : sWhile c body e = .ok o := by
  obtain ⟨n, hn⟩ := k
  exact sWhile_of hn (by intro z; cases z)
/-! ### loops, the turns counted, the state not told in full -/
section
variable {α β : Type} {bd : D → DEnv → Option DEnv} {cl : List Nat} {body : Stm} {elt : DEnv → Out (D × DEnv)} {ce : DEnv → Out (Bool × DEnv)}
theorem forD_exI {st : α → DEnv} {φ : β → D} {I : Nat → α → Prop} : ∀ (xs : List β) (i : Nat) (a : α), I i a → (∀ j a x, xs[j]? = some x → I (i + j) a → ∃ b, I (i + j + 1) b ∧ Turn1 bd cl body (φ x) (st a) (st b)) → ∃ b, I (i + xs.length) b ∧ forD bd cl body (xs.map φ) (st a) = .ok (.nx (st b))
  | [], i, a, hI, _ => ⟨a, hI, rfl⟩
  | x :: xs, i, a, hI, h => by
    obtain ⟨b, h1, h2⟩ := h 0 a x rfl hI
    rw [List.map_cons, forD_cons h2, List.length_cons]
    have e : ∀ j, i + 1 + j = i + (j + 1) := fun j => by omega
    have r := forD_exI xs (i + 1) b h1 fun j c y hy hb => by
      have q := h (j + 1) c y hy (by rw [← e]; exact hb)
      rw [e]
      exact q
    rw [e] at r
    exact r
/-- a loop that goes through, or returns d at the first turn at which c is not so -/
theorem forD_scan {st : α → DEnv} {f : α → β → α} {c : β → Bool} {d : D} {φ : β → D} : ∀ (xs : List β) (a : α), (∀ a x, x ∈ xs → c x = true → Turn1 bd cl body (φ x) (st a) (st (f a x))) → (∀ a x, x ∈ xs → c x = false → ∃ e1 e2 e3, bd (φ x) (st a) = some e1 ∧ body e1 = .ok (.rt d e2) ∧ dropS cl e2 = some e3) →
    (xs.all c = true → forD bd cl body (xs.map φ) (st a) = .ok (.nx (st (xs.foldl f a)))) ∧ (xs.all c = false → ∃ e, forD bd cl body (xs.map φ) (st a) = .ok (.rt d e))
  | [], a, _, _ => ⟨fun _ => rfl, fun h => (Bool.noConfusion (show true = false from h))⟩
  | x :: xs, a, h1, h2 => by
    have r := forD_scan xs (f a x) (fun b y hy => h1 b y (List.mem_cons_of_mem _ hy)) (fun b y hy => h2 b y (List.mem_cons_of_mem _ hy))
    cases hc : c x with
    | true =>
      rw [List.map_cons, forD_cons (h1 a x List.mem_cons_self hc), List.foldl_cons, List.all_cons, hc, Bool.true_and]
      exact r
    | false =>
      rw [List.all_cons, hc, Bool.false_and]
      refine ⟨fun h => Bool.noConfusion h, fun _ => ?_⟩
      obtain ⟨e1, e2, e3, g1, g2, g3⟩ := h2 a x List.mem_cons_self hc
      refine ⟨e3, ?_⟩
      rw [List.map_cons, forD, g1]
      simp only [must_some, g2, Out.bind_ok, g3]
/-- .. the turns counted -/
theorem forD_scanI {st : α → DEnv} {f : α → β → α} {c : β → Bool} {d : D} {φ : β → D} {I : Nat → α → Prop} : ∀ (xs : List β) (i : Nat) (a : α), I i a → (∀ j a x, xs[j]? = some x → I (i + j) a → c x = true → I (i + j + 1) (f a x) ∧ Turn1 bd cl body (φ x) (st a) (st (f a x))) → (∀ j a x, xs[j]? = some x → I (i + j) a → c x = false → ∃ e1 e2 e3, bd (φ x) (st a) = some e1 ∧ body e1 = .ok (.rt d e2) ∧ dropS cl e2 = some e3) →
    (xs.all c = true → forD bd cl body (xs.map φ) (st a) = .ok (.nx (st (xs.foldl f a)))) ∧ (xs.all c = false → ∃ e, forD bd cl body (xs.map φ) (st a) = .ok (.rt d e))
  | [], i, a, _, _, _ => ⟨fun _ => rfl, fun h => (Bool.noConfusion (show true = false from h))⟩
  | x :: xs, i, a, hI, h1, h2 => by
    have e : ∀ j, i + 1 + j = i + (j + 1) := fun j => by omega
    cases hc : c x with
    | true =>
      have t := h1 0 a x rfl hI hc
      have r := forD_scanI xs (i + 1) (f a x) t.1 (fun j b y hy hb => by rw [e] at hb ⊢; exact h1 (j + 1) b y hy hb) (fun j b y hy hb => by rw [e] at hb; exact h2 (j + 1) b y hy hb)
      rw [List.map_cons, forD_cons t.2, List.foldl_cons, List.all_cons, hc, Bool.true_and]
      exact r
    | false =>
      rw [List.all_cons, hc, Bool.false_and]
      refine ⟨fun h => Bool.noConfusion h, fun _ => ?_⟩
      obtain ⟨e1, e2, e3, g1, g2, g3⟩ := h2 0 a x rfl hI hc
      refine ⟨e3, ?_⟩
      rw [List.map_cons, forD, g1]
      simp only [must_some, g2, Out.bind_ok, g3]
/-- one turn of a comprehension with a test -/
def TurnC (bd : D → DEnv → Option DEnv) (ce : DEnv → Out (Bool × DEnv)) (elt : DEnv → Out (D × DEnv)) (cl : List Nat) (x : D) (e : DEnv) : Out (Option D × DEnv) := must (bd x e) fun e => ce e >>= fun p => if p.1 = true then elt p.2 >>= fun q => must (dropS cl q.2) fun e2 => .ok (some q.1, e2)
      else must (dropS cl p.2) fun e2 => .ok (none, e2)
theorem lcG_filt {e0 : DEnv} {c : β → Bool} {g : β → D} {φ : β → D} : ∀ (xs : List β), (∀ x, x ∈ xs → TurnC bd ce elt cl (φ x) e0 = .ok (if c x = true then some (g x) else none, e0)) → lcG bd ce elt cl (xs.map φ) e0 = .ok ((xs.filter c).map g, e0)
  | [], _ => rfl
  | x :: xs, h => by
    have h2 := h x List.mem_cons_self
    have h3 := lcG_filt xs fun y hy => h y (List.mem_cons_of_mem _ hy)
    rw [List.map_cons, lcG]
    unfold TurnC at h2
    cases hb : bd (φ x) e0 with
    | none => rw [hb] at h2; cases h2
    | some e1 =>
      rw [hb, must_some] at h2
      rw [must_some]
      cases hc : ce e1 with
      | bad => rw [hc] at h2; cases h2
      | exc k => rw [hc] at h2; cases h2
      | ok p =>
        obtain ⟨b, e2⟩ := p
        rw [hc] at h2
        simp only [Out.bind_ok] at h2 ⊢
        cases b with
        | false =>
          simp only [Bool.false_eq_true, if_false] at h2 ⊢
          cases hd : dropS cl e2 with
          | none => rw [hd] at h2; cases h2
          | some e3 =>
            rw [hd] at h2
            rw [must_some] at h2 ⊢
            by_cases hx : c x = true
            · rw [if_pos hx] at h2; cases h2
            · rw [if_neg hx] at h2
              cases h2
              rw [h3, List.filter_cons_of_neg hx]
        | true =>
          simp only [if_true] at h2 ⊢
          cases he : elt e2 with
          | bad => rw [he] at h2; cases h2
          | exc k => rw [he] at h2; cases h2
          | ok q =>
            obtain ⟨d, e3⟩ := q
            rw [he] at h2
            simp only [Out.bind_ok] at h2 ⊢
            cases hd : dropS cl e3 with
            | none => rw [hd] at h2; cases h2
            | some e4 =>
              rw [hd] at h2
              rw [must_some] at h2 ⊢
              by_cases hx : c x = true
              · rw [if_pos hx] at h2
                cases h2
                rw [h3, List.filter_cons_of_pos hx]
                rfl
              · rw [if_neg hx] at h2; cases h2
end
@[simp] theorem z_pcomp {α : Type} (f : α → Int) (l : List α) : D.pureL (l.map (D.int ∘ f)) = true := pureL_map (fun _ => rfl) l
theorem range_at {n j k : Nat} (h : (List.range n)[j]? = some k) : k = j ∧ j < n := by
  by_cases hj : j < n
  · rw [List.getElem?_range hj] at h
    exact ⟨(Option.some.inj h).symm, hj⟩
  · rw [List.getElem?_eq_none (by simpa using hj)] at h
    cases h
theorem zipD_map {α β : Type} {φ : α → D} {ψ : β → D} : ∀ (xs : List α) (ys : List β), zipD (xs.map φ) (ys.map ψ) = (xs.zip ys).map fun p => .tup [φ p.1, ψ p.2]
  | [], ys => by simp [zipD]
  | x :: xs, [] => by simp [zipD]
  | x :: xs, y :: ys => by
    rw [List.map_cons, List.map_cons, List.zip_cons_cons, List.map_cons, ← zipD_map xs ys]
    rfl
theorem at_map {α : Type} {φ : α → D} {l : List α} {k : Nat} (h : k < l.length) : atI (l.map φ) (k : Int) = some (φ l[k]) := atI_nat (by rw [List.getElem?_map, List.getElem?_eq_getElem h]; rfl)
theorem rng_map (n : Nat) : rngD 0 n = (List.range n).map fun k : Nat => D.int (k : Int) := by
  unfold rngD
  simp
theorem at_mapI {l : List Int} {k : Nat} (h : k < l.length) : atI (l.map D.int) (k : Int) = some (.int (l.getD k 0)) := by
  rw [at_map h]; simp [h]
theorem idx_nodup {l : List Str} (hn : l.Nodup) {k : Nat} (h : k < l.length) : l.findIdx? (· == l[k]) = some k := by
  rw [List.findIdx?_eq_some_iff_getElem]
  refine ⟨h, by simp, fun j hj => ?_⟩
  simp only [beq_iff_eq]
  intro e
  exact List.pairwise_iff_getElem.mp hn j k _ h hj e
theorem zip_self {α β : Type} (f : α → β) : ∀ l : List α, (l.map f).zip l = l.map fun x => (f x, x)
  | [] => rfl
  | x :: l => by rw [List.map_cons, List.zip_cons_cons, List.map_cons, zip_self f l]
@[simp] theorem at0 {α : Type} (a : α) (l : List α) : atI (a :: l) 0 = some a := atI_nat (j := 0) rfl
@[simp] theorem at1 {α : Type} (a b : α) (l : List α) : atI (a :: b :: l) 1 = some b := atI_nat (j := 1) rfl
@[simp] theorem at2 {α : Type} (a b c : α) (l : List α) : atI (a :: b :: c :: l) 2 = some c := atI_nat (j := 2) rfl
theorem ixN_lt {n k : Nat} (h : k < n) : ixN n (k : Int) = some k := by
  unfold ixN
  rw [if_pos (by omega), if_pos (by omega)]
  simp
def outv (o : Out Flw) : Option D := match o with
  | .ok (.rt d _) => some d
  | _ => none
theorem outv_ok {o : Out Flw} {d : D} (h : outv o = some d) : ∃ e, o = .ok (.rt d e) := by
  unfold outv at h
  split at h
  · cases h; exact ⟨_, rfl⟩
  · cases h
theorem sort_strs (l : List Str) : ∃ l2 : List Str, fSorted (.lst (l.map .str)) = some (.lst (l2.map .str)) ∧ l2.Perm l := by
  have hp : (sortL (l.map D.str)).Perm (l.map D.str) := sortL_perm _
  have key : ∀ ds : List D, (∀ d ∈ ds, ∃ s, d = .str s) → ∃ l2 : List Str, ds = l2.map .str := fun ds => by
    induction ds with
    | nil => intro _; exact ⟨[], rfl⟩
    | cons d r ih =>
      intro h
      obtain ⟨s, rfl⟩ := h d List.mem_cons_self
      obtain ⟨l2, rfl⟩ := ih fun e m => h e (List.mem_cons_of_mem _ m)
      exact ⟨s :: l2, rfl⟩
  obtain ⟨l2, h2⟩ := key (sortL (l.map D.str)) fun d m => by
    obtain ⟨s, _, rfl⟩ := List.mem_map.mp (hp.mem_iff.mp m)
    exact ⟨s, rfl⟩
  refine ⟨l2, ?_, ?_⟩
  · rw [z_sorted, h2, iff?_pos]
    refine ⟨z_pstrs l, ?_, ?_⟩
    · simp [D.py]
    · unfold sortB
      simp only [List.map_map, List.all_map, Bool.and_eq_true, Bool.or_eq_true, List.all_eq_true, Function.comp]
      refine ⟨⟨fun a _ b _ => rfl, .inr fun a _ => rfl⟩, fun a _ => rfl⟩
  · rw [h2] at hp
    have := hp.map (fun d => match d with | D.str s => s | _ => default)
    simpa [List.map_map, Function.comp_def] using this
theorem foldl_push {α β : Type} (g : α → β) : ∀ (xs : List α) (l : List β), xs.foldl (fun l x => l ++ [g x]) l = l ++ xs.map g
  | [], l => by simp
  | x :: xs, l => by rw [List.foldl_cons, foldl_push g xs]; simp
/-- the script's cells -/
def cv (ns : List Int) (k : Nat) : Int := ns.getD k 0
theorem scr_ix {ns : List Int} {k : Nat} (h : k < ns.length) : fIx (.scr ns) (.int k) = some (.int (cv ns k)) := by
  have e : dIx (.scr ns) k = some (.int (cv ns k)) := by
    show (atI ns (k : Int)).map D.int = _
    rw [atI_nat (j := k) (List.getElem?_eq_getElem h)]
    simp [cv, h]
  rw [z_ixscr, e]
  rfl
end DL

namespace DL
open PySem PySem.Spec PyProof.Rows L2
noncomputable section
/-- product(one, other) -/
def b_product : Stm := (sSeq (sSet 2 (eP (hC (.int 0))))
  (sSeq (sFor [.pur (hVar 0), .pur (hVar 1)] mkZip (bTup (bCons (bName 3) (bCons (bName 4) bNil))) [3, 4] (sSeq (sAug 2 (bin (bI fun a b => some (.int (a + b)))) (eP (hOp [.pur (hVar 3), .pur (hVar 4)] gMul)))
  sNop))
  (sSeq (sRet (eP (hVar 2)))
  sNop)))
def fn_product : Fn := runFn 5 [.b, .b] b_product

/-- divisor(one, other) -/
def b_divisor : Stm := (sSeq (sSet 0 (eP (hOp [.pur (hVar 0)] gAbs)))
  (sSeq (sSet 1 (eP (hOp [.pur (hVar 1)] gAbs)))
  (sSeq (sWhile (eBp (hB (hOp [.pur (hVar 1), .pur (hC (.int 0))] gGt))) (sSeq (sPar 0 1 [.pur (hVar 1), .pur (hOp [.pur (hVar 0), .pur (hVar 1)] gMod)])
  sNop))
  (sSeq (sRet (eP (hVar 0)))
  sNop))))
def fn_divisor : Fn := runFn 2 [.b, .b] b_divisor

/-- lowest(numbers) -/
def b_lowest : Stm := (sSeq (sSet 1 (eP (hC (.int 0))))
  (sSeq (sFor [.pur (hVar 0)] mkSeq (bName 2) [2] (sSeq (sSet 1 (eK (.fin [.pur (hVar 1), .pur (hVar 2)]) (callK [.b, .b] fn_divisor)))
  sNop))
  (sSeq (sIf (hB (hOp [.pur (hVar 1), .pur (hC (.int 2))] gLt)) (sSeq (sRet (eP (hOp [.pur (hVar 0)] gTupOf)))
  sNop) sNop)
  (sSeq (sRet (eOp (.own (lcE [.pur (hVar 0)] mkSeq (bName 2) eYes (eP (hOp [.pur (hVar 2), .pur (hVar 1)] gDiv)) [2]) (.fin [])) gTupOf))
  sNop))))
def fn_lowest : Fn := runFn 3 [.b] b_lowest

/-- blended(one, times, other, more) -/
def b_blended : Stm := (sSeq (sRet (eOp (.own (lcE [.pur (hVar 0), .pur (hVar 2)] mkZip (bTup (bCons (bName 4) (bCons (bName 5) bNil))) eYes (eP (hOp [.pur (hOp [.pur (hVar 4), .pur (hVar 1)] gMul), .pur (hOp [.pur (hVar 5), .pur (hVar 3)] gMul)] gAdd)) [4, 5]) (.fin [])) gTupOf))
  sNop)
def fn_blended : Fn := runFn 6 [.b, .b, .b, .b] b_blended

/-- unit(width, place) -/
def b_unit : Stm := (sSeq (sRet (eP (hOp [.pur (hOp [.pur (hOp [.pur (hOp [.pur (hC (.int 0))] fTup), .pur (hVar 1)] gRepT), .pur (hOp [.pur (hC (.int 1))] fTup)] gAdd), .pur (hOp [.pur (hOp [.pur (hC (.int 0))] fTup), .pur (hOp [.pur (hOp [.pur (hVar 0), .pur (hVar 1)] gSub), .pur (hC (.int 1))] gSub)] gRepT)] gAdd)))
  sNop)
def fn_unit : Fn := runFn 2 [.b, .b] b_unit

/-- kernel_with(basis, row) -/
def b_kernel_with : Stm := (sSeq (sSet 2 (lcE [.plc 0 (pVar 0)] mkSeq (bName 7) eYes (eK (.fin [.pur (hVar 7), .pur (hVar 1)]) (callK [.b, .b] fn_product)) [7]))
  (sSeq (sSet 3 (lcE [.plc 2 (pVar 2)] mkEnum (bTup (bCons (bName 6) (bCons (bName 8) bNil))) (eBp (hB (hOp [.pur (hVar 8), .pur (hC (.int 0))] gNe))) (eP (hVar 6)) [6, 8]))
  (sSeq (sIfE (eB (eOp (.plc 3 (pVar 3) (.own (eK (.fin []) (dspK .lst)) (.fin []))) gEq)) (sSeq (sRet (eMov 0))
  sNop) sNop)
  (sSeq (sSet 4 (eP (hRd (pIx (pVar 3) (hC (.int 0))))))
  (sSeq (sSet 5 (eK (.fin []) (dspK .lst)))
  (sSeq (sFor [.plc 0 (pVar 0)] mkEnum (bTup (bCons (bName 6) (bCons (bName 7) bNil))) [6, 7] (sSeq (sIf (hB (hOp [.pur (hVar 6), .pur (hVar 4)] gNe)) (sSeq (sExpr (isL 5 (eK (.io 5 (.own (eK (.own (eK (.fin [.pur (hVar 7), .pur (hRd (pIx (pVar 2) (hVar 4))), .pur (hRd (pIx (pVar 0) (hVar 4))), .pur (hOp [.pur (hC (.int 0)), .pur (hRd (pIx (pVar 2) (hVar 6)))] gSub)]) (callK [.b, .b, .b, .b] fn_blended)) (.fin [])) (callK [.b] fn_lowest)) (.fin []))) appK)))
  sNop) sNop)
  sNop))
  (sSeq (sRet (eMov 5))
  sNop)))))))
def fn_kernel_with : Fn := runFn 9 [.mv, .b] b_kernel_with

/-- kernel(rows, width) -/
def b_kernel : Stm := (sSeq (sSet 2 (lcE [.pur (hVar 1)] mkRange1 (bName 4) eYes (eK (.fin [.pur (hVar 1), .pur (hVar 4)]) (callK [.b, .b] fn_unit)) [4]))
  (sSeq (sFor [.plc 0 (pVar 0)] mkSeq (bName 3) [3] (sSeq (sSet 2 (eK (.own (eMov 2) (.fin [.pur (hVar 3)])) (callK [.mv, .b] fn_kernel_with)))
  sNop))
  (sSeq (sRet (eMov 2))
  sNop)))
def fn_kernel : Fn := runFn 5 [.b, .b] b_kernel

/-- _law_numbers(_law_script, _law_most) -/
def b_law_numbers : Stm := (sSeq (sSet 2 (lcE [.own (eOp (.fin [.plc 0 (pVar 0), .int (hVar 1)]) (slH fSlL))] mkSeq (bName 4) eYes (eP (hOp [.pur (hVar 4), .pur (hOp [.pur (hC (.int 10)), .pur (hC (.int 59))] gPow)] gMod)) [4]))
  (sSeq (sSet 3 (eP (hOp [.pur (hC (.int 48271)), .pur (hOp [.pur (hOp [.plc 2 (pVar 2)] gSum), .pur (hC (.int 2147483647))] gMod)] gAdd)))
  (sSeq (sWhile (eBp (hB (hOp [.pur (hOp [.plc 2 (pVar 2)] gLen), .pur (hVar 1)] gLt))) (sSeq (sSet 3 (eP (hOp [.pur (hOp [.pur (hOp [.pur (hOp [.pur (hVar 3), .pur (hVar 3)] gMul), .pur (hOp [.pur (hC (.int 48271)), .pur (hVar 3)] gMul)] gAdd), .pur (hOp [.plc 2 (pVar 2)] gLen)] gAdd), .pur (hC (.int 2147483647))] gMod)))
  (sSeq (sExpr (isL 2 (eK (.io 2 (.fin [.pur (hVar 3)])) appK)))
  sNop)))
  (sSeq (sRet (eOp (.fin [.plc 2 (pVar 2)]) gRev))
  sNop))))
def fn_law_numbers : Fn := runFn 5 [.b, .b] b_law_numbers

/-- _law_draw(_law_deck, _law_most) -/
def b_law_draw : Stm := (sSeq (sIfE (eB (eOp (.plc 0 (pVar 0) (.own (eK (.fin []) (dspK .lst)) (.fin []))) gEq)) (sSeq (sRet (eP (hC (.int 0))))
  sNop) sNop)
  (sSeq (sRet (eOp (.own (isL 0 (eK (.io 0 (.fin [])) popK)) (.fin [.pur (hVar 1)])) gMod))
  sNop))
def fn_law_draw : Fn := runFn 2 [.io, .b] b_law_draw

/-- _law_number(_law_deck) -/
def b_law_number : Stm := (sSeq (sSet 1 (eK (.io 0 (.fin [.pur (hOp [.pur (hC (.int 10)), .pur (hC (.int 59))] gPow)])) (callK [.io, .b] fn_law_draw)))
  (sSeq (sIf (hB (hOp [.pur (hOp [.pur (hVar 1), .pur (hC (.int 4))] gMod), .pur (hC (.int 3))] gEq)) (sSeq (sRet (eP (hOp [.pur (hOp [.pur (hOp [.pur (hVar 1), .pur (hC (.int 4))] gDiv), .pur (hOp [.pur (hOp [.pur (hC (.int 2)), .pur (hOp [.pur (hC (.int 10)), .pur (hC (.int 30))] gPow)] gMul), .pur (hC (.int 1))] gAdd)] gMod), .pur (hOp [.pur (hC (.int 10)), .pur (hC (.int 30))] gPow)] gSub)))
  sNop) sNop)
  (sSeq (sRet (eP (hOp [.pur (hOp [.pur (hOp [.pur (hVar 1), .pur (hC (.int 4))] gDiv), .pur (hC (.int 7))] gMod), .pur (hC (.int 3))] gSub)))
  sNop)))
def fn_law_number : Fn := runFn 2 [.io] b_law_number

/-- _law_row(_law_deck, _law_width) -/
def b_law_row : Stm := (sSeq (sRet (eOp (.own (lcE [.pur (hVar 1)] mkRange1 (bName 2) eYes (eK (.io 0 (.fin [])) (callK [.io] fn_law_number)) [2]) (.fin [])) gTupOf))
  sNop)
def fn_law_row : Fn := runFn 3 [.io, .b] b_law_row

/-- _law_product(_law_one, _law_other) -/
def b_law_product : Stm := (sSeq (sSet 2 (eP (hC (.int 0))))
  (sSeq (sFor [.pur (hOp [.pur (hVar 0)] gLen)] mkRange1 (bName 3) [3] (sSeq (sSet 2 (eP (hOp [.pur (hVar 2), .pur (hOp [.pur (hRd (pIx (pVar 0) (hVar 3))), .pur (hRd (pIx (pVar 1) (hVar 3)))] gMul)] gAdd)))
  sNop))
  (sSeq (sRet (eP (hVar 2)))
  sNop)))
def fn_law_product : Fn := runFn 4 [.b, .b] b_law_product

/-- _law_sum(_law_rows_here, _law_numbers_here, _law_width) -/
def b_law_sum : Stm := (sSeq (sSet 3 (eK (.own (eK (.fin [.pur (hC (.int 0))]) (dspK .lst)) (.fin [.pur (hVar 2)])) repK))
  (sSeq (sFor [.plc 0 (pVar 0), .plc 1 (pVar 1)] mkZip (bTup (bCons (bName 4) (bCons (bName 5) bNil))) [4, 5, 6] (sSeq (sFor [.pur (hVar 2)] mkRange1 (bName 6) [6] (sSeq (sExpr (eK (.pur (hOp [.pur (hRd (pIx (pVar 3) (hVar 6))), .pur (hOp [.pur (hRd (pIx (pVar 4) (hVar 6))), .pur (hVar 5)] gMul)] gAdd) (.io 3 (.fin [.pur (hVar 6)]))) setK))
  sNop))
  sNop))
  (sSeq (sRet (eP (hOp [.plc 3 (pVar 3)] gTupOf)))
  sNop)))
def fn_law_sum : Fn := runFn 7 [.b, .b, .b] b_law_sum

/-- _law_whole(_law_found) -/
def b_law_whole : Stm := (sSeq (sRet (eP (hAndV (hOp [.pur (hVar 0)] (gIsi "int")) (hNotV (hOp [.pur (hVar 0)] (gIsi "bool"))))))
  sNop)
def fn_law_whole : Fn := runFn 1 [.b] b_law_whole

/-- _law_is_row(_law_told, _law_width) -/
def b_law_is_row : Stm := (sSeq (sIf (hOr (hNot (hB (hOp [.pur (hVar 0)] (gIsi "tuple")))) (hB (hOp [.pur (hOp [.pur (hVar 0)] gLen), .pur (hVar 1)] gNe))) (sSeq (sRet (eP (hC (.bl false))))
  sNop) sNop)
  (sSeq (sRet (eOp (.pur (hC (.bl false)) (.own (lcE [.pur (hVar 0)] mkSeq (bName 2) eYes (eK (.fin [.pur (hVar 2)]) (callK [.b] fn_law_whole)) [2]) (.fin []))) gNotIn))
  sNop))
def fn_law_is_row : Fn := runFn 3 [.b, .b] b_law_is_row

/-- _law_rank(_law_rows_here) -/
def b_law_rank : Stm := (sSeq (sSet 1 (lcE [.plc 0 (pVar 0)] mkSeq (bName 6) (eB (eOp (.own (lcE [.plc 6 (pVar 6)] mkSeq (bName 9) (eBp (hB (hOp [.pur (hVar 9), .pur (hC (.int 0))] gNe))) (eP (hVar 9)) [9]) (.own (eK (.fin []) (dspK .lst)) (.fin []))) gNe)) (eMov 6) [6]))
  (sSeq (sSet 2 (eP (hC (.int 0))))
  (sSeq (sWhile (eB (eOp (.plc 1 (pVar 1) (.own (eK (.fin []) (dspK .lst)) (.fin []))) gNe)) (sSeq (sSeq (sLet 1 (pIx (pVar 1) (hC (.int 0))) 3 [3]
  (sSeq (sSet 4 (eOp (.own (lcE [.pur (hOp [.plc 3 (pVar 3)] gLen)] mkRange1 (bName 8) (eBp (hB (hOp [.pur (hRd (pIx (pVar 3) (hVar 8))), .pur (hC (.int 0))] gNe))) (eP (hVar 8)) [8]) (.fin [.pur (hC (.int 0))])) gIx))
  (sSeq (sSet 5 (eK (.fin []) (dspK .lst)))
  (sSeq (sFor [.plc 1 (pVar 1), .pur (hC (.int 1))] mkTail (bName 6) [6, 7] (sSeq (sSet 7 (lcE [.pur (hOp [.plc 6 (pVar 6)] gLen)] mkRange1 (bName 8) eYes (eP (hOp [.pur (hOp [.pur (hRd (pIx (pVar 6) (hVar 8))), .pur (hRd (pIx (pVar 3) (hVar 4)))] gMul), .pur (hOp [.pur (hRd (pIx (pVar 3) (hVar 8))), .pur (hRd (pIx (pVar 6) (hVar 4)))] gMul)] gSub)) [8]))
  (sSeq (sIfE (eB (eOp (.own (lcE [.plc 7 (pVar 7)] mkSeq (bName 9) (eBp (hB (hOp [.pur (hVar 9), .pur (hC (.int 0))] gNe))) (eP (hVar 9)) [9]) (.own (eK (.fin []) (dspK .lst)) (.fin []))) gNe)) (sSeq (sExpr (isL 5 (eK (.io 5 (.own (eMov 7) (.fin []))) appK)))
  sNop) sNop)
  sNop)))
  sNop))))
  (sSeq (sSet 1 (eMov 5))
  (sSeq (sSet 2 (eP (hOp [.pur (hVar 2), .pur (hC (.int 1))] gAdd)))
  sNop))) (sDrop [3, 4, 5, 6, 7])))
  (sSeq (sRet (eP (hVar 2)))
  sNop))))
def fn_law_rank : Fn := runFn 10 [.b] b_law_rank

/-- _law_rows(_law_deck, _law_width) -/
def b_law_rows : Stm := (sSeq (sSet 2 (eK (.fin []) (dspK .lst)))
  (sSeq (sFor [.own (eK (.io 0 (.fin [.pur (hC (.int 8))])) (callK [.io, .b] fn_law_draw))] mkRange1 (bName 3) [3, 4, 5] (sSeq (sSet 4 (eK (.io 0 (.fin [.pur (hVar 1)])) (callK [.io, .b] fn_law_row)))
  (sSeq (sSet 5 (eK (.io 0 (.fin [.pur (hC (.int 6))])) (callK [.io, .b] fn_law_draw)))
  (sSeq (sIf (hAnd (hB (hOp [.pur (hVar 5), .pur (hC (.int 0))] gEq)) (hB (hOp [.pur (hVar 3), .pur (hC (.int 1))] gGt))) (sSeq (sSet 4 (eK (.own (eOp (.fin [.plc 2 (pVar 2), .int (hOp [.pur (hVar 3), .pur (hC (.int 2))] gSub)]) (slL fSlL)) (.own (eK (.own (eOp (.own (eK (.io 0 (.fin [.pur (hC (.int 5))])) (callK [.io, .b] fn_law_draw)) (.fin [.pur (hC (.int 2))])) gSub) (.own (eOp (.own (eK (.io 0 (.fin [.pur (hC (.int 5))])) (callK [.io, .b] fn_law_draw)) (.fin [.pur (hC (.int 2))])) gSub) (.fin []))) (dspK .lst)) (.fin [.pur (hVar 1)]))) (callK [.b, .b, .b] fn_law_sum)))
  sNop) sNop)
  (sSeq (sIf (hB (hOp [.pur (hVar 5), .pur (hC (.int 1))] gEq)) (sSeq (sSet 4 (eP (hOp [.pur (hOp [.pur (hC (.int 0))] fTup), .pur (hVar 1)] gRepT)))
  sNop) sNop)
  (sSeq (sExpr (isL 2 (eK (.io 2 (.fin [.pur (hVar 4)])) appK)))
  sNop))))))
  (sSeq (sRet (eMov 2))
  sNop)))
def fn_law_rows : Fn := runFn 6 [.io, .b] b_law_rows

/-- law(_law_script) -/
def b_law : Stm := (sSeq (sSet 1 (eK (.fin [.plc 0 (pVar 0), .pur (hC (.int 80))]) (callK [.b, .b] fn_law_numbers)))
  (sSeq (sSet 2 (eK (.io 1 (.fin [.pur (hC (.int 7))])) (callK [.io, .b] fn_law_draw)))
  (sSeq (sSet 3 (eK (.io 1 (.fin [.pur (hVar 2)])) (callK [.io, .b] fn_law_rows)))
  (sSeq (sSet 4 (eOp (.fin [.plc 3 (pVar 3)]) gListOf))
  (sSeq (sSet 5 (eK (.fin [.plc 4 (pVar 4), .pur (hVar 2)]) (callK [.b, .b] fn_kernel)))
  (sSeq (sIfE (eOr (eBp (hNot (hB (hOp [.plc 5 (pVar 5)] (gIsi "list"))))) (eB (eOp (.pur (hOp [.plc 5 (pVar 5)] gLen) (.own (eOp (.pur (hVar 2) (.own (eK (.fin [.plc 3 (pVar 3)]) (callK [.b] fn_law_rank)) (.fin []))) gSub) (.fin []))) gNe))) (sSeq (sRet (eP (hC (.bl false))))
  sNop) sNop)
  (sSeq (sFor [.plc 5 (pVar 5)] mkSeq (bName 6) [6, 7] (sSeq (sIfE (eNot (eB (eK (.fin [.pur (hVar 6), .pur (hVar 2)]) (callK [.b, .b] fn_law_is_row)))) (sSeq (sRet (eP (hC (.bl false))))
  sNop) sNop)
  (sSeq (sFor [.plc 3 (pVar 3)] mkSeq (bName 7) [7] (sSeq (sIfE (eB (eOp (.own (eK (.fin [.pur (hVar 7), .pur (hVar 6)]) (callK [.b, .b] fn_law_product)) (.fin [.pur (hC (.int 0))])) gNe)) (sSeq (sRet (eP (hC (.bl false))))
  sNop) sNop)
  sNop))
  sNop)))
  (sSeq (sIfE (eB (eOp (.own (eK (.fin [.plc 5 (pVar 5)]) (callK [.b] fn_law_rank)) (.fin [.pur (hOp [.plc 5 (pVar 5)] gLen)])) gNe)) (sSeq (sRet (eP (hC (.bl false))))
  sNop) sNop)
  (sSeq (sSet 8 (eOp (.fin [.plc 5 (pVar 5)]) gListOf))
  (sSeq (sExpr (isL 5 (eK (.io 5 (.fin [.pur (hOp [.pur (hOp [.pur (hC (.int 1))] fTup), .pur (hVar 2)] gRepT)])) appK)))
  (sSeq (sRet (eAndV (eOp (.own (eK (.fin [.plc 4 (pVar 4), .pur (hVar 2)]) (callK [.b, .b] fn_kernel)) (.fin [.plc 8 (pVar 8)])) gEq) (eP (hOp [.plc 4 (pVar 4), .plc 3 (pVar 3)] gEq))))
  sNop)))))))))))
def fn_law : Fn := runFn 9 [.b] b_law
end
end DL

namespace DL
open PySem PySem.Spec PyProof.Rows L2
/-! ### dicts, reckoned -/
section
variable {env : DEnv} {ks : List Key} {kt : List (List Key)} {vs xs : List D} {d x : D} {k : Key} {n : Int} {s : Str}
@[simp] theorem z_keyi : keyD (.int n) = some (.inl n) := rfl
@[simp] theorem z_keys : keyD (.str s) = some (.inr s) := rfl
@[simp] theorem z_keysd : keysD (.tupF false xs) = keysL xs := rfl
@[simp] theorem z_keysl0 : keysL [] = some [] := rfl
@[simp] theorem z_keysl1 : keysL (d :: xs) = match keyD d, keysL xs with
    | some k, some ks => some (k :: ks)
    | _, _ => none := rfl
@[simp] theorem z_gone : gOne k d [] = some (.dk [k] [d]) := rfl
@[simp] theorem z_newk : gNewK [] = some (.dk [] []) := rfl
@[simp] theorem z_newt : gNewT [] = some (.dt [] []) := rfl
@[simp] theorem z_lendk : fLenD (.dk ks vs) = some (.int ks.length) := rfl
@[simp] theorem z_lendt : fLenD (.dt kt vs) = some (.int kt.length) := rfl
@[simp] theorem z_listd : fListD (.dk ks vs) = some (.lst (ks.map toKD)) := rfl
@[simp] theorem z_sortd : fSortD (.dt kt vs) = iff? (sortB (kt.map keyPy) = true) (.lst ((kt.mergeSort (PySem.W.dataLe false keyPy)).map toKsD)) := rfl
@[simp] theorem z_din {f : Bool → Bool} : fDIn f x d = (fLook d x).map fun r => .bl (f r.isSome) := rfl
@[simp] theorem z_dget : fDGet d x = match fLook d x with
    | some (some e) => iff? (e.pure = true) e
    | _ => none := rfl
@[simp] theorem z_look1 : fLook (.dk ks vs) x = (keyD x).map fun k => lookP ks vs k := rfl
@[simp] theorem z_look2 : fLook (.dt kt vs) x = (keysD x).map fun k => lookP kt vs k := rfl
@[simp] theorem z_setd1 : setDK [x, .dk ks vs, d] env = match keyD d with
    | some k => if x.pure = true ∧ D.pureL vs = true ∧ ks.length < 16777216 then .ok (.non, [.dk (putKs ks vs k x) (putVs ks vs k x)], env) else .bad
    | none => .bad := rfl
@[simp] theorem z_setd2 : setDK [x, .dt kt vs, d] env = match keysD d with
    | some k => if x.pure = true ∧ D.pureL vs = true ∧ kt.length < 16777216 then .ok (.non, [.dt (putKs kt vs k x) (putVs kt vs k x)], env) else .bad
    | none => .bad := rfl
@[simp] theorem z_items : mkItems [.dk ks vs] = if ks.length = vs.length ∧ D.pureL vs = true then some (itemsD ks vs) else none := rfl
@[simp] theorem z_maxd {f : Int → List Int → Int} : fMaxD f (.lst xs) (.int n) = (D.ints xs).map fun ns => .int (f n ns) := rfl
@[simp] theorem z_tupP : fTupP xs = iff? (D.pureL xs = true ∧ xs.length ≤ 16777216) (.tupF true xs) := rfl
@[simp] theorem z_addX : fAddX (.tupF true xs) (.tupF true vs) = iff? (D.pureL xs = true ∧ D.pureL vs = true ∧ xs.length + vs.length ≤ 16777216) (.tupF true (xs ++ vs)) := rfl
@[simp] theorem z_tcnt {l : List Str} : fTCnt (.tupF true (l.map .str)) (.str s) = some (.int (l.count s : Nat)) := by
  unfold fTCnt
  simp
@[simp] theorem z_clr1 {fl : Bool} : clr1K [.tupF fl [d, .lst xs]] env = if d.pure = true then .ok (.non, [.tupF fl [d, .lst []]], env) else .bad := rfl
@[simp] theorem z_mkz3 {a b c : D} : mkZip3 [a, b, c] = match a.toSeq, b.toSeq, c.toSeq with
    | some xs, some ys, some zs => some (zipD3 xs ys zs)
    | _, _, _ => none := rfl
@[simp] theorem z_par {i j : Nat} {hs : List SArg} : sPar i j hs env = must (evS hs env) fun ds => if hs.all (bArg env) = true ∧ D.pureL ds = true then must (putsS [i, j] ds env) fun e => .ok (.nx e) else .bad := rfl
@[simp] theorem z_notn1 : D.toBl (.bl true) = some true := rfl
end
section
variable {κ : Type} [DecidableEq κ] {α : Type}
theorem look_none {L : List α} {f : α → κ} {g : α → D} {k : κ} (h : ∀ a ∈ L, f a ≠ k) : lookP (L.map f) (L.map g) k = none := by
  unfold lookP
  have e : (L.map f).zip (L.map g) = L.map fun a => (f a, g a) := by
    induction L with
    | nil => rfl
    | cons a r ih => simp [ih fun b m => h b (List.mem_cons_of_mem _ m)]
  rw [e, Option.map_eq_none_iff, List.find?_eq_none]
  intro p hp
  obtain ⟨a, ha, rfl⟩ := List.mem_map.mp hp
  simpa using h a ha
theorem zip_maps (L : List α) (f : α → κ) (g : α → D) : (L.map f).zip (L.map g) = L.map fun a => (f a, g a) := by
  induction L with
  | nil => rfl
  | cons a r ih => simp [ih]
theorem look_some {L : List α} {f : α → κ} {g : α → D} {a : α} (ha : a ∈ L) (h : ∀ b ∈ L, f b = f a → g b = g a) : lookP (L.map f) (L.map g) (f a) = some (g a) := by
  unfold lookP
  rw [zip_maps]
  cases hf : (L.map fun a => (f a, g a)).find? fun p => decide (p.1 = f a) with
  | none =>
    rw [List.find?_eq_none] at hf
    exact absurd (by simp) (hf _ (List.mem_map.mpr ⟨a, ha, rfl⟩))
  | some p =>
    have h1 := List.find?_some hf
    have h2 := List.mem_of_find?_eq_some hf
    obtain ⟨b, hb, rfl⟩ := List.mem_map.mp h2
    simp only [decide_eq_true_eq] at h1
    show some (g b) = _
    rw [h b hb h1]
theorem put_new {L : List α} {f : α → κ} {g : α → D} {k : κ} {x : D} (h : ∀ a ∈ L, f a ≠ k) : putKs (L.map f) (L.map g) k x = L.map f ++ [k] ∧ putVs (L.map f) (L.map g) k x = L.map g ++ [x] := by
  have e : putG ((L.map f).zip (L.map g)) k x = (L.map fun a => (f a, g a)) ++ [(k, x)] := by
    unfold putG
    rw [zip_maps, if_neg]
    intro h2
    obtain ⟨p, hp, h3⟩ := List.any_eq_true.mp h2
    obtain ⟨a, ha, rfl⟩ := List.mem_map.mp hp
    exact h a ha (by simpa using h3)
  unfold putKs putVs
  rw [e]
  simp [List.map_map, Function.comp_def]
/-- a set, kept as a dict -/
def ins (L : List α) [DecidableEq α] (a : α) : List α := if a ∈ L then L else L ++ [a]
theorem put_set [DecidableEq α] {L : List α} {f : α → κ} {x : D} {a : α} (hf : ∀ a b, f a = f b → a = b) : putKs (L.map f) (L.map fun _ => x) (f a) x = (ins L a).map f ∧ putVs (L.map f) (L.map fun _ => x) (f a) x = (ins L a).map fun _ => x := by
  unfold ins
  by_cases h : a ∈ L
  · rw [if_pos h]
    have e : putG ((L.map f).zip (L.map fun _ => x)) (f a) x = L.map fun b => (f b, x) := by
      unfold putG
      rw [zip_maps, if_pos]
      · rw [List.map_map]
        refine List.map_congr_left fun b _ => ?_
        simp
      · rw [List.any_eq_true]
        exact ⟨(f a, x), List.mem_map.mpr ⟨a, h, rfl⟩, by simp⟩
    unfold putKs putVs
    rw [e]
    simp [List.map_map, Function.comp_def]
  · rw [if_neg h]
    have q := put_new (L := L) (f := f) (g := fun _ => x) (k := f a) (x := x) fun b hb e => h (hf _ _ e ▸ hb)
    rw [q.1, q.2]
    simp
theorem ins_mem [DecidableEq α] {L : List α} {a b : α} : b ∈ ins L a ↔ b ∈ L ∨ b = a := by
  unfold ins
  by_cases h : a ∈ L
  · rw [if_pos h]
    exact ⟨.inl, fun q => q.elim id fun e => e ▸ h⟩
  · rw [if_neg h, List.mem_append, List.mem_singleton]
theorem ins_len [DecidableEq α] {L : List α} {a : α} : (ins L a).length ≤ L.length + 1 := by
  unfold ins
  split
  · omega
  · simp
theorem ins_nodup [DecidableEq α] {L : List α} {a : α} (h : L.Nodup) : (ins L a).Nodup := by
  unfold ins
  split
  · exact h
  · rename_i h2
    rw [List.nodup_append]
    exact ⟨h, by simp, fun x hx y hy e => h2 (by rw [List.mem_singleton.mp hy] at e; exact e ▸ hx)⟩
end
theorem maxDI_eq {l : List Int} {M : Int} (h : ∀ x ∈ l, x ≤ M) (h2 : M ∈ l ∨ (l = [] ∧ M = 0)) : maxDI 0 l = M := by
  cases l with
  | nil =>
    rcases h2 with h2 | h2
    · cases h2
    · rw [h2.2]; rfl
  | cons n r =>
    show r.foldl max n = M
    have key : ∀ (r : List Int) (n : Int), n ≤ M → (∀ x ∈ r, x ≤ M) → (M = n ∨ M ∈ r) → r.foldl max n = M := fun r => by
      induction r with
      | nil =>
        intro n _ _ h
        rcases h with h | h
        · exact h.symm
        · cases h
      | cons a r ih =>
        intro n hn hr hm
        rw [List.foldl_cons]
        refine ih _ (Int.max_le.mpr ⟨hn, hr a List.mem_cons_self⟩) (fun x hx => hr x (List.mem_cons_of_mem _ hx)) ?_
        have ha := hr a List.mem_cons_self
        rcases hm with h | h
        · left; omega
        · rcases List.mem_cons.mp h with h | h
          · left; omega
          · exact .inr h
    refine key r n (h n List.mem_cons_self) (fun x hx => h x (List.mem_cons_of_mem _ hx)) ?_
    rcases h2 with h2 | h2
    · exact List.mem_cons.mp h2
    · cases h2.1
/-! ### ranges -/
theorem rngD_map (a : Int) (n : Nat) : rngD a n = (List.range n).map fun i : Nat => D.int (a + (i : Int)) := rfl
end DL

namespace DL
open PySem PySem.Spec PyProof.Rows L2
/-! ### names -/
def ltr : List Nat := (List.range 26).map (97 + ·)
theorem alpha_eq : ("abcdefghijklmnopqrstuvwxyz" : Str) = SX.S ltr := by decide +kernel
theorem nil_eq : ("" : Str) = SX.S [] := by decide +kernel
theorem p10_20 : gPow [.int 10, .int 20] = some (.int 100000000000000000000) := pow_eq (by decide) (by decide +kernel)
theorem ltr_at (i : Int) : atI ltr (i % 26) = some (97 + (i % 26).toNat) := by
  have h1 := Int.emod_nonneg i (show (26 : Int) ≠ 0 by decide)
  have h2 := Int.emod_lt_of_pos i (show (0 : Int) < 26 by decide)
  obtain ⟨j, hj⟩ := Int.eq_ofNat_of_zero_le h1
  rw [hj]
  have hj2 : j < 26 := by omega
  rw [atI_nat (j := j) (v := 97 + j)]
  · rfl
  · unfold ltr
    rw [List.getElem?_map, List.getElem?_range hj2]
    rfl
theorem ltr_len : ltr.length = 26 := by decide
theorem ix_letter (j : Nat) (h : j < 26) : fSIx (.str (SX.S ltr)) (.str ⟨#[97 + j]⟩) = some (.int (j : Int)) := by
  have key : ∀ j : Fin 26, (match Builtin.Str.occurrences (SX.S ltr) ⟨#[97 + j.1]⟩ 0 (SX.S ltr).length 1 with
    | i :: _ => i == j.1
    | [] => false) = true := by decide +kernel
  have k := key ⟨j, h⟩
  unfold fSIx
  simp only at k ⊢
  split
  · rename_i i l e
    rw [e] at k
    rw [beq_iff_eq.mp k]
  · rename_i e
    rw [e] at k
    cases k
def isLo (c : Nat) : Prop := 97 ≤ c ∧ c < 123
theorem strOk_of {l : List Nat} (h : ∀ c ∈ l, isLo c) : PyData.strOk (SX.S l) = true := by
  show (SX.S l).cps.all (fun c => decide (c < 0x110000)) = true
  simp only [SX.S, List.all_toArray, List.all_eq_true, decide_eq_true_eq]
  intro c hc
  have := h c hc
  unfold isLo at this
  omega
theorem okMoves : PyData.strOk "moves" = true := by decide +kernel
theorem okMovesa : PyData.strOk "movesa" = true := by decide +kernel
/-- a name, moves no name -/
def fixN (s : Str) : Str := if s = "moves" then "movesa" else s
theorem fixN_ok {s : Str} (h : PyData.strOk s = true) : PyData.strOk (fixN s) = true := by
  unfold fixN
  split
  · exact okMovesa
  · exact h
theorem fixN_inj {a b : Str} (hl : a.length = b.length) (h : fixN a = fixN b) : a = b := by
  have l1 : (("moves" : Str)).length = 5 := by decide +kernel
  have l2 : (("movesa" : Str)).length = 6 := by decide +kernel
  unfold fixN at h
  split at h
  · rename_i e1
    split at h
    · rename_i e2; rw [e1, e2]
    · rw [← h, e1, l1, l2] at hl; cases hl
  · split at h
    · rename_i e2; rw [h, e2, l1, l2] at hl; cases hl
    · exact h
/-! ### sorted texts, in order -/
theorem sortLe_pw {β : Type} (k : β → PyData) (l : List β) : (l.mergeSort (PySem.W.dataLe false k)).Pairwise fun a b => PySem.W.dataLe false k a b = true :=
  List.pairwise_mergeSort (PySem.W.sortLe_total _ _ _).trans (fun a b => by
    rcases (PySem.W.sortLe_total _ _ _).total a b with h | h
    · exact Bool.or_eq_true_iff.mpr (.inl h)
    · exact Bool.or_eq_true_iff.mpr (.inr h)) l
theorem le_strs (a b : Str) : PySem.W.dataLe false encD (.str a) (.str b) = decide (a.cps.toList ≤ b.cps.toList) := by
  show (!PySem.W.dataLt (.str b) (.str a)) = _
  rw [PySem.W.dataLt_str, PySem.W.not_lt_str]
theorem sort_strs2 (l : List Str) : ∃ l2 : List Str, fSorted (.lst (l.map .str)) = some (.lst (l2.map .str)) ∧ l2.Perm l ∧ l2.Pairwise fun a b => a.cps.toList ≤ b.cps.toList := by
  obtain ⟨l2, h1, h2⟩ := sort_strs l
  refine ⟨l2, h1, h2, ?_⟩
  rw [z_sorted] at h1
  unfold iff? at h1
  split at h1
  · have h3 : sortL (l.map D.str) = l2.map .str := by
      have := Option.some.inj h1
      injection this
    have h4 := sortLe_pw encD (l.map D.str)
    have h5 : ((l2.map D.str).Pairwise fun a b => PySem.W.dataLe false encD a b = true) := by
      rw [← h3]; exact h4
    rw [List.pairwise_map] at h5
    exact h5.imp fun {a b} h => by
      rw [le_strs] at h
      exact of_decide_eq_true h
  · cases h1
theorem sz_small {l : List Nat} (h : l.length ≤ 9) : (SX.S l).length ≤ 16777216 := by rw [SX.S_len]; omega
end DL

namespace DL
open PySem PySem.Spec PyProof.Rows L2
/-! ### decks -/
def dv (deck : List Int) (m : Int) : Int := match deck.getLast? with
  | some x => x % m
  | none => 0
theorem draw_ok (deck : List Int) (m : Int) (hm : 0 < m) : fn_law_draw [.lst (deck.map .int), .int m] = .ok (.int (dv deck m), [.lst (deck.dropLast.map .int)]) := by
  cases hd : deck.getLast? with
  | none =>
    have : deck = [] := List.getLast?_eq_none_iff.mp hd
    subst this
    simp [fn_law_draw, b_law_draw, dv]
  | some x =>
    have hne : deck ≠ [] := fun e => by rw [e] at hd; cases hd
    simp [fn_law_draw, b_law_draw, dv, hd, hne, hm, List.map_dropLast]
theorem dv_pos (deck : List Int) {m : Int} (hm : 0 < m) : 0 ≤ dv deck m ∧ dv deck m < m := by
  unfold dv
  split
  · exact ⟨Int.emod_nonneg _ (by omega), Int.emod_lt_of_pos _ hm⟩
  · omega
theorem slL_scr (ns : List Int) (m : Nat) : fSlL (.scr ns) none (some (m : Int)) = some (.lst ((ns.take m).map .int)) := by
  unfold fSlL
  simp only [z_torow2]
  rw [iff?_pos (pureL_ints ns), cutD_take', List.map_take]
theorem pow59 : (10 : Int) ^ (59 : Int).toNat = 100000000000000000000000000000000000000000000000000000000000 := by decide +kernel
theorem gp59 : gPow [.int 10, .int 59] = some (.int 100000000000000000000000000000000000000000000000000000000000) := by
  simp only [z_bin, z_bi]
  rw [iff?_pos (by decide), pow59]
theorem while_deck (most : Nat) (hm : most ≤ 100000) (scr : D) : ∀ (k : Nat) (deck : List Int) (last : Int), deck.length + k = max most deck.length → 0 ≤ last → last < 4294967296 → (∀ x ∈ deck, 0 ≤ x) → ∃ (deck2 : List Int) (last2 : Int), (∀ x ∈ deck2, 0 ≤ x) ∧
    whileN (eBp (hB (hOp [.pur (hOp [.plc 2 (pVar 2)] gLen), .pur (hVar 1)] gLt))) (sSeq (sSet 3 (eP (hOp [.pur (hOp [.pur (hOp [.pur (hOp [.pur (hVar 3), .pur (hVar 3)] gMul), .pur (hOp [.pur (hC (.int 48271)), .pur (hVar 3)] gMul)] gAdd), .pur (hOp [.plc 2 (pVar 2)] gLen)] gAdd), .pur (hC (.int 2147483647))] gMod)))
  (sSeq (sExpr (isL 2 (eK (.io 2 (.fin [.pur (hVar 3)])) appK)))
  sNop)) (k + 1) [some (.brw, scr), some (.brw, .int most), some (.own, .lst (deck.map .int)), some (.own, .int last), none] = .ok (.nx [some (.brw, scr), some (.brw, .int most), some (.own, .lst (deck2.map .int)), some (.own, .int last2), none])
  | 0, deck, last, hk, h0, h1, hd => by
    have hl : ¬ ((deck.length : Int) < (most : Int)) := by omega
    refine ⟨deck, last, hd, ?_⟩
    simp [whileN, hl]
  | k + 1, deck, last, hk, h0, h1, hd => by
    have hl : (deck.length : Int) < (most : Int) := by omega
    have m1 : MulOk last last := mulOk (j := 32) (k := 32) (by unfold Bd; omega) (by unfold Bd; omega)
    have m2 : MulOk 48271 last := mulOk (j := 32) (k := 32) (by unfold Bd; omega) (by unfold Bd; omega)
    have hln : deck.length < 16777216 := by omega
    obtain ⟨deck2, last2, g1, g2⟩ := while_deck most hm scr k (deck ++ [(last * last + 48271 * last + deck.length) % 2147483647]) ((last * last + 48271 * last + deck.length) % 2147483647) (by rw [List.length_append, List.length_singleton]; omega) (Int.emod_nonneg _ (by decide)) (by have := Int.emod_lt_of_pos (last * last + 48271 * last + deck.length) (show (0 : Int) < 2147483647 by decide); omega) (fun x hx => by
      rcases List.mem_append.mp hx with hx | hx
      · exact hd x hx
      · rw [List.mem_singleton.mp hx]; exact Int.emod_nonneg _ (by decide))
    refine ⟨deck2, last2, g1, ?_⟩
    rw [← g2, whileN]
    simp [hl, m1, m2, hln]
theorem sum_nonneg : ∀ {l : List Int}, (∀ x ∈ l, 0 ≤ x) → 0 ≤ l.sum
  | [], _ => Int.le_refl _
  | x :: r, h => by
    rw [List.sum_cons]
    have := h x List.mem_cons_self
    have := sum_nonneg fun y hy => h y (List.mem_cons_of_mem _ hy)
    omega
theorem numbers_ok (ns : List Int) (most : Nat) (hm : most ≤ 100000) (hn : ns.length ≤ 63) : ∃ deck : List Int, fn_law_numbers [.scr ns, .int most] = .ok (.lst (deck.map .int), []) ∧ ∀ x ∈ deck, 0 ≤ x := by
  obtain ⟨ts, hts, htl⟩ : ∃ ts : List Int, fSlL (.scr ns) none (some (most : Int)) = some (.lst (ts.map .int)) ∧ ts.length < 16777216 := ⟨_, slL_scr ns most, by rw [List.length_take]; omega⟩
  obtain ⟨ds, h1, h2⟩ : ∃ ds : List Int, lcG (bName 4) eYes (eP (hOp [.pur (hVar 4), .pur (hOp [.pur (hC (.int 10)), .pur (hC (.int 59))] gPow)] gMod)) [4] (ts.map .int) [some (.brw, .scr ns), some (.brw, .int most), none, none, none] = .ok (ds.map .int, [some (.brw, .scr ns), some (.brw, .int most), none, none, none]) ∧ ∀ x ∈ ds, 0 ≤ x := by
    refine ⟨ts.map fun x => x % 100000000000000000000000000000000000000000000000000000000000, ?_, fun x hx => ?_⟩
    · rw [lcG_map (g := fun x => .int (x % 100000000000000000000000000000000000000000000000000000000000)) ts fun x hx => ?_, List.map_map]
      · rfl
      · simp [gp59]
    · obtain ⟨y, _, rfl⟩ := List.mem_map.mp hx
      exact Int.emod_nonneg _ (by decide)
  have hs := sum_nonneg h2
  have e1 := Int.emod_nonneg ds.sum (show (2147483647 : Int) ≠ 0 by decide)
  have e2 := Int.emod_lt_of_pos ds.sum (show (0 : Int) < 2147483647 by decide)
  obtain ⟨deck2, last2, g1, g2⟩ := while_deck most hm (.scr ns) (max most ds.length - ds.length) ds (48271 + ds.sum % 2147483647) (by omega) (by omega) (by omega) h2
  have hw := sWhile_of g2 (by intro z; cases z)
  refine ⟨deck2.reverse, ?_, fun x hx => g1 x (List.mem_reverse.mp hx)⟩
  simp [fn_law_numbers, b_law_numbers, hts, htl, h1, hw]
def dot (xs ys : List Int) : Int := (xs.zip ys).foldl (fun t p => t + p.1 * p.2) 0
theorem product_ok (xs ys : List Int) (hx : ∀ x ∈ xs, Bd 1000000 x) (hy : ∀ y ∈ ys, Bd 1000000 y) : fn_product [.tup (xs.map .int), .tup (ys.map .int)] = .ok (.int (dot xs ys), []) := by
  have hf := forD_fold (bd := bTup (bCons (bName 3) (bCons (bName 4) bNil))) (cl := [3, 4]) (body := sSeq (sAug 2 (bin (bI fun a b => some (.int (a + b)))) (eP (hOp [.pur (hVar 3), .pur (hVar 4)] gMul))) sNop)
    (st := fun t : Int => [some (.brw, .tup (xs.map .int)), some (.brw, .tup (ys.map .int)), some (.own, .int t), none, none]) (f := fun t (p : Int × Int) => t + p.1 * p.2) (φ := fun p : Int × Int => D.tup [.int p.1, .int p.2]) (I := fun _ => True) (xs.zip ys) 0 trivial fun a p hp _ => ⟨trivial, by
      have h1 := hx _ (List.of_mem_zip hp).1
      have h2 := hy _ (List.of_mem_zip hp).2
      have hm : MulOk p.1 p.2 := mulOk h1 h2
      unfold Turn1
      simp [hm]⟩
  simp [fn_product, b_product, zipD_map, hf, dot]

theorem zip_range : ∀ (xs ys : List Int), xs.length = ys.length → xs.zip ys = (List.range xs.length).map fun k => (xs.getD k 0, ys.getD k 0)
  | [], [], _ => rfl
  | [], _ :: _, h => by simp at h
  | _ :: _, [], h => by simp at h
  | x :: xs, y :: ys, h => by
    rw [List.zip_cons_cons, zip_range xs ys (by simpa using h), List.length_cons, List.range_succ_eq_map, List.map_cons, List.map_map]
    rfl
theorem law_product_ok (xs ys : List Int) (hl : xs.length = ys.length) (hs : xs.length < 1000) (hx : ∀ x ∈ xs, Bd 1000000 x) (hy : ∀ y ∈ ys, Bd 1000000 y) : fn_law_product [.tup (xs.map .int), .tup (ys.map .int)] = .ok (.int (dot xs ys), []) := by
  have hf := forD_fold (bd := bName 3) (cl := [3]) (body := sSeq (sSet 2 (eP (hOp [.pur (hVar 2), .pur (hOp [.pur (hRd (pIx (pVar 0) (hVar 3))), .pur (hRd (pIx (pVar 1) (hVar 3)))] gMul)] gAdd))) sNop)
    (st := fun t : Int => [some (.brw, .tup (xs.map .int)), some (.brw, .tup (ys.map .int)), some (.own, .int t), none]) (f := fun t (k : Nat) => t + xs.getD k 0 * ys.getD k 0) (φ := fun k : Nat => D.int (k : Int)) (I := fun _ => True) (List.range xs.length) 0 trivial fun a k hk _ => ⟨trivial, by
      have hk := List.mem_range.mp hk
      have hk2 : k < ys.length := by omega
      have h1 := hx _ (List.getElem_mem hk)
      have h2 := hy _ (List.getElem_mem hk2)
      have hm : MulOk xs[k] ys[k] := mulOk h1 h2
      unfold Turn1
      simp [at_map hk, at_map hk2, hm, hk, hk2]⟩
  have hr : inRng (xs.length : Int) = true := inRng_of (by omega)
  have e : dot xs ys = (List.range xs.length).foldl (fun t k => t + xs.getD k 0 * ys.getD k 0) 0 := by
    unfold dot
    rw [zip_range xs ys hl, List.foldl_map]
  simp [fn_law_product, b_law_product, hr, rng_map, hf, e]
/-! ### sums -/
def mix (a : List Int) (t : Int) (b : List Int) (m : Int) : List Int := (a.zip b).map fun p => p.1 * t + p.2 * m
theorem blended_ok (a b : List Int) (t m : Int) (ha : ∀ x ∈ a, Bd 1000000 x) (hb : ∀ x ∈ b, Bd 1000000 x) (ht : Bd 1000000 t) (hm : Bd 1000000 m) (hl : a.length < 1000) : fn_blended [.tup (a.map .int), .int t, .tup (b.map .int), .int m] = .ok (.tup ((mix a t b m).map .int), []) := by
  have hc := lcG_map (bd := bTup (bCons (bName 4) (bCons (bName 5) bNil))) (cl := [4, 5]) (elt := eP (hOp [.pur (hOp [.pur (hVar 4), .pur (hVar 1)] gMul), .pur (hOp [.pur (hVar 5), .pur (hVar 3)] gMul)] gAdd))
    (e0 := [some (.brw, .tup (a.map .int)), some (.brw, .int t), some (.brw, .tup (b.map .int)), some (.brw, .int m), none, none]) (g := fun p : Int × Int => .int (p.1 * t + p.2 * m)) (φ := fun p : Int × Int => D.tup [.int p.1, .int p.2]) (a.zip b) fun p hp => by
      have m1 : MulOk p.1 t := mulOk (ha _ (List.of_mem_zip hp).1) ht
      have m2 : MulOk p.2 m := mulOk (hb _ (List.of_mem_zip hp).2) hm
      simp [m1, m2]
  have hz : ((a.zip b).map fun p : Int × Int => D.int (p.1 * t + p.2 * m)) = (mix a t b m).map .int := by unfold mix; rw [List.map_map]; rfl
  have hlen : min a.length b.length < 16777216 := by omega
  simp [fn_blended, b_blended, zipD_map, hc, hz, hlen]

theorem mix_len (a b : List Int) (t m : Int) : (mix a t b m).length = min a.length b.length := by unfold mix; simp
theorem mix_bd {k : Nat} (a b : List Int) (m : Int) (ha : ∀ x ∈ a, Bd k x) (hb : ∀ x ∈ b, Bd 1000 x) (hm : Bd 1000 m) (hk : 2000 ≤ k) : ∀ x ∈ mix a 1 b m, Bd (k + 1) x := fun x hx => by
  unfold mix at hx
  obtain ⟨p, hp, rfl⟩ := List.mem_map.mp hx
  have h1 := ha _ (List.of_mem_zip hp).1
  have h2 := hb _ (List.of_mem_zip hp).2
  rw [Int.mul_one]
  exact h1.add ((h2.mul hm).mono (by omega))
theorem flat_one {α : Type} (a : α) : ∀ n : Nat, (List.replicate n [a]).flatten = List.replicate n a
  | 0 => rfl
  | n + 1 => by rw [List.replicate_succ, List.flatten_cons, flat_one a n]; rfl
theorem rep_int (n : Nat) (i : Int) : List.replicate n (D.int i) = (List.replicate n i).map .int := by simp
/-- what both sums come to -/
def total (w : Nat) (rs : List (List Int × Int)) : List Int := rs.foldl (fun t p => mix t 1 p.1 p.2) (List.replicate w 0)
theorem bd0 {k : Nat} : Bd k 0 := by unfold Bd; exact Nat.pow_pos (by decide)
theorem ext_getD {a b : List Int} (hl : a.length = b.length) (h : ∀ i, i < a.length → a.getD i 0 = b.getD i 0) : a = b := by
  apply List.ext_getElem hl
  intro i h1 h2
  have := h i h1
  simpa [h1, h2] using this
theorem fold_set (g : Nat → Int → Int) (d : List Int) : ∀ n, n ≤ d.length → ((List.range n).foldl (fun e k => e.set k (g k (e.getD k 0))) d).length = d.length ∧ ∀ i, ((List.range n).foldl (fun e k => e.set k (g k (e.getD k 0))) d).getD i 0 = if i < n then g i (d.getD i 0) else d.getD i 0
  | 0, _ => ⟨rfl, fun i => by simp⟩
  | n + 1, hn => by
    obtain ⟨h1, h2⟩ := fold_set g d n (by omega)
    rw [List.range_succ, List.foldl_append]
    simp only [List.foldl_cons, List.foldl_nil]
    generalize (List.range n).foldl (fun e k => e.set k (g k (e.getD k 0))) d = e at h1 h2
    refine ⟨by rw [List.length_set, h1], fun i => ?_⟩
    rw [h2 n, if_neg (Nat.lt_irrefl n)]
    rw [List.getD_eq_getElem?_getD, set_self]
    by_cases hi : n = i
    · subst hi
      rw [if_pos rfl, if_pos (by omega), if_pos (Nat.lt_succ_self n)]
      rfl
    · rw [if_neg hi, ← List.getD_eq_getElem?_getD, h2 i]
      by_cases h3 : i < n
      · rw [if_pos h3, if_pos (by omega)]
      · rw [if_neg h3, if_neg (by omega)]
theorem mix_getD (a b : List Int) (t m : Int) (hl : a.length = b.length) (i : Nat) (hi : i < a.length) : (mix a t b m).getD i 0 = a.getD i 0 * t + b.getD i 0 * m := by
  have h2 : i < b.length := by omega
  unfold mix
  have e : (a.zip b)[i]? = some (a[i], b[i]) := by
    rw [List.getElem?_eq_getElem (by rw [List.length_zip]; omega)]
    simp
  rw [List.getD_eq_getElem?_getD, List.getElem?_map, e]
  simp [hi, h2]
theorem fold_mix (d r : List Int) (m : Int) (hl : d.length = r.length) : (List.range d.length).foldl (fun e k => e.set k (e.getD k 0 + r.getD k 0 * m)) d = mix d 1 r m := by
  obtain ⟨h1, h2⟩ := fold_set (fun k x => x + r.getD k 0 * m) d d.length (Nat.le_refl _)
  refine ext_getD (by rw [h1, mix_len]; omega) fun i hi => ?_
  rw [h1] at hi
  rw [h2 i, if_pos hi, mix_getD d r 1 m hl i hi, Int.mul_one]
theorem law_sum_ok (rows : List (List Int)) (nums : List Int) (w : Nat) (hw : w ≤ 100) (hr : ∀ r ∈ rows, r.length = w ∧ ∀ x ∈ r, Bd 100000 x) (hn : ∀ n ∈ nums, Bd 100000 n) : fn_law_sum [.lst (rows.map fun r => .tup (r.map .int)), .lst (nums.map .int), .int w] = .ok (.tup ((total w (rows.zip nums)).map .int), []) := by
  have hrng : inRng (w : Int) = true := inRng_of (by omega)
  have inner : ∀ (r : List Int) (m : Int) (d : List Int), r.length = w → (∀ x ∈ r, Bd 100000 x) → Bd 100000 m → d.length = w → forD (bName 6) [6] (sSeq (sExpr (eK (.pur (hOp [.pur (hRd (pIx (pVar 3) (hVar 6))), .pur (hOp [.pur (hRd (pIx (pVar 4) (hVar 6))), .pur (hVar 5)] gMul)] gAdd) (.io 3 (.fin [.pur (hVar 6)]))) setK)) sNop) ((List.range w).map fun k : Nat => D.int (k : Int))
      [some (.brw, .lst (rows.map fun r => .tup (r.map .int))), some (.brw, .lst (nums.map .int)), some (.brw, .int w), some (.own, .lst (d.map .int)), some (.own, .tup (r.map .int)), some (.own, .int m), none] = .ok (.nx [some (.brw, .lst (rows.map fun r => .tup (r.map .int))), some (.brw, .lst (nums.map .int)), some (.brw, .int w), some (.own, .lst ((mix d 1 r m).map .int)), some (.own, .tup (r.map .int)), some (.own, .int m), none]) := fun r m d h1 h2 h3 h4 => by
    have hf := (forD_foldI (bd := bName 6) (cl := [6]) (body := sSeq (sExpr (eK (.pur (hOp [.pur (hRd (pIx (pVar 3) (hVar 6))), .pur (hOp [.pur (hRd (pIx (pVar 4) (hVar 6))), .pur (hVar 5)] gMul)] gAdd) (.io 3 (.fin [.pur (hVar 6)]))) setK)) sNop)
      (st := fun d : List Int => [some (.brw, .lst (rows.map fun r => .tup (r.map .int))), some (.brw, .lst (nums.map .int)), some (.brw, .int w), some (.own, .lst (d.map .int)), some (.own, .tup (r.map .int)), some (.own, .int m), none]) (f := fun e k => e.set k (e.getD k 0 + r.getD k 0 * m)) (φ := fun k : Nat => D.int (k : Int)) (I := fun _ e => e.length = w) (List.range w) 0 d h4 fun j e k hk he => by
        have hkw : k < w := List.mem_range.mp (List.mem_of_getElem? hk)
        have k1 : k < e.length := by omega
        have k2 : k < r.length := by omega
        have hm : MulOk r[k] m := mulOk (h2 _ (List.getElem_mem k2)) h3
        refine ⟨by rw [List.length_set]; exact he, ?_⟩
        unfold Turn1
        simp [at_map k1, at_map k2, hm, ixN_lt k1, k1, k2, List.map_set]).1
    have e1 := fold_mix d r m (h4.trans h1.symm)
    rw [h4] at e1
    rw [e1] at hf
    exact hf
  have hf := (forD_foldI (bd := bTup (bCons (bName 4) (bCons (bName 5) bNil))) (cl := [4, 5, 6]) (body := sSeq (sFor [.pur (hVar 2)] mkRange1 (bName 6) [6] (sSeq (sExpr (eK (.pur (hOp [.pur (hRd (pIx (pVar 3) (hVar 6))), .pur (hOp [.pur (hRd (pIx (pVar 4) (hVar 6))), .pur (hVar 5)] gMul)] gAdd) (.io 3 (.fin [.pur (hVar 6)]))) setK)) sNop)) sNop)
    (st := fun d : List Int => [some (.brw, .lst (rows.map fun r => .tup (r.map .int))), some (.brw, .lst (nums.map .int)), some (.brw, .int w), some (.own, .lst (d.map .int)), none, none, none]) (f := fun t (p : List Int × Int) => mix t 1 p.1 p.2) (φ := fun p : List Int × Int => D.tup [.tup (p.1.map .int), .int p.2]) (I := fun _ e => e.length = w) (rows.zip nums) 0 (List.replicate w 0) (by simp) fun j t p hp hI => by
      have hm := List.mem_of_getElem? hp
      obtain ⟨r1, r2⟩ := hr _ (List.of_mem_zip hm).1
      have n1 := hn _ (List.of_mem_zip hm).2
      refine ⟨by rw [mix_len, hI, r1, Nat.min_self], ?_⟩
      unfold Turn1
      simp [hrng, rng_map, inner p.1 p.2 t r1 r2 n1 hI]).1
  have hw1 : w ≤ 16777216 := by omega
  have hw2 : w < 9223372036854775808 := by omega
  simp only [List.map_replicate] at hf
  simp [fn_law_sum, b_law_sum, zipD_map, flat_one, hw1, hw2, hf, total]
/-! ### rows told -/
theorem whole_ok (n : Int) : fn_law_whole [.int n] = .ok (.bl true, []) := by
  simp [fn_law_whole, b_law_whole, tyLe]
theorem is_row_ok (t : List Int) (w : Nat) (hl : t.length = w) (hw : w ≤ 1000) : fn_law_is_row [.tup (t.map .int), .int w] = .ok (.bl true, []) := by
  have hc := lcG_map (bd := bName 2) (cl := [2]) (elt := eK (.fin [.pur (hVar 2)]) (callK [.b] fn_law_whole)) (e0 := [some (.brw, .tup (t.map .int)), some (.brw, .int w), none]) (g := fun _ : Int => .bl true) (φ := D.int) t fun x hx => by
    simp [whole_ok]
  have hin : inB (.bl false) (.lst (t.map fun _ => D.bl true)) = some false := by
    have := EqOk.bl.mem false (t.map fun _ => true)
    rw [List.map_map] at this
    rw [show (fun _ : Int => D.bl true) = D.bl ∘ fun _ => true from rfl, this]
    simp
  have hlen : w < 16777216 := by omega
  simp [fn_law_is_row, b_law_is_row, hl, tyLe, hc, hlen, hin]

/-! ### the law's drawings -/
theorem pow30 : (10 : Int) ^ (30 : Int).toNat = 1000000000000000000000000000000 := by decide +kernel
theorem gp30 : gPow [.int 10, .int 30] = some (.int 1000000000000000000000000000000) := by
  simp only [z_bin, z_bi]
  rw [iff?_pos (by decide), pow30]
def nv (deck : List Int) : Int := if dv deck 100000000000000000000000000000000000000000000000000000000000 % 4 = 3 then dv deck 100000000000000000000000000000000000000000000000000000000000 / 4 % (2 * 1000000000000000000000000000000 + 1) - 1000000000000000000000000000000 else dv deck 100000000000000000000000000000000000000000000000000000000000 / 4 % 7 - 3
theorem number_ok (deck : List Int) : fn_law_number [.lst (deck.map .int)] = .ok (.int (nv deck), [.lst (deck.dropLast.map .int)]) := by
  have h1 := draw_ok deck 100000000000000000000000000000000000000000000000000000000000 (by decide)
  have m1 : MulOk 2 1000000000000000000000000000000 := mulOk (j := 2) (k := 200) (by unfold Bd; decide) (by unfold Bd; decide)
  unfold nv
  generalize dv deck 100000000000000000000000000000000000000000000000000000000000 = x at h1
  have h4 : (4 : Int).natAbs.log2 < 9000 := by decide
  by_cases hx : x % 4 = 3
  · simp [fn_law_number, b_law_number, gp59, h1, hx, gp30, m1]
  · simp [fn_law_number, b_law_number, gp59, h1, hx, gp30, m1]
theorem nv_bd (deck : List Int) : Bd 100 (nv deck) := by
  unfold nv
  generalize dv deck 100000000000000000000000000000000000000000000000000000000000 = x
  have e1 := Int.emod_nonneg (x / 4) (show (2 * 1000000000000000000000000000000 + 1 : Int) ≠ 0 by decide)
  have e2 := Int.emod_lt_of_pos (x / 4) (show (0 : Int) < 2 * 1000000000000000000000000000000 + 1 by decide)
  have e3 := Int.emod_nonneg (x / 4) (show (7 : Int) ≠ 0 by decide)
  have e4 := Int.emod_lt_of_pos (x / 4) (show (0 : Int) < 7 by decide)
  have hp : (2 : Nat) ^ 100 = 1267650600228229401496703205376 := by decide +kernel
  unfold Bd
  rw [hp]
  split <;> omega
theorem row_ok (deck : List Int) (w : Nat) (hw : w ≤ 1000) : ∃ (r deck2 : List Int), fn_law_row [.lst (deck.map .int), .int w] = .ok (.tup (r.map .int), [.lst (deck2.map .int)]) ∧ r.length = w ∧ ∀ x ∈ r, Bd 100 x := by
  obtain ⟨r, deck2, h1, h2, _, h4⟩ := lcG_ex (bd := bName 2) (cl := [2]) (elt := eK (.io 0 (.fin [])) (callK [.io] fn_law_number)) (st := fun d : List Int => [some (.io, .lst (d.map .int)), some (.brw, .int w), none]) (φ := fun k : Nat => D.int (k : Int)) (ω := D.int) (R := fun x => Bd 100 x) (I := fun _ => True) (List.range w) deck trivial fun d k hk _ => ⟨nv d, d.dropLast, nv_bd d, trivial, by
    simp [number_ok]⟩
  have hrng : inRng (w : Int) = true := inRng_of (by omega)
  have hlen : w < 16777216 := by omega
  refine ⟨r, deck2, ?_, by rw [h1, List.length_range], h2⟩
  simp [fn_law_row, b_law_row, hrng, rng_map, h4, hlen]

theorem draw_ex (deck : List Int) (m : Nat) (hm : 0 < m) : ∃ (v : Nat) (deck2 : List Int), fn_law_draw [.lst (deck.map .int), .int m] = .ok (.int v, [.lst (deck2.map .int)]) ∧ v < m := by
  obtain ⟨h1, h2⟩ := dv_pos deck (m := m) (by omega)
  obtain ⟨v, hv⟩ := Int.eq_ofNat_of_zero_le h1
  refine ⟨v, deck.dropLast, ?_, by omega⟩
  rw [← hv]
  exact draw_ok deck m (by omega)
theorem number_ex (deck : List Int) : ∃ (v : Int) (deck2 : List Int), fn_law_number [.lst (deck.map .int)] = .ok (.int v, [.lst (deck2.map .int)]) ∧ Bd 100 v := ⟨nv deck, deck.dropLast, number_ok deck, nv_bd deck⟩
end DL

namespace DL
open PySem PySem.Spec PyProof.Rows L2
/-! ### products, plainly -/
def dt : List Int → List Int → Int
  | a :: as, b :: bs => a * b + dt as bs
  | _, _ => 0
theorem foldl_dt : ∀ (a b : List Int) (t : Int), (a.zip b).foldl (fun t p => t + p.1 * p.2) t = t + dt a b
  | [], b, t => by simp [dt]
  | a :: as, [], t => by simp [dt]
  | a :: as, b :: bs, t => by
    rw [List.zip_cons_cons, List.foldl_cons, foldl_dt as bs, dt]
    dsimp only
    omega
theorem dot_dt (a b : List Int) : dot a b = dt a b := by
  unfold dot
  rw [foldl_dt]
  omega
theorem dt_comm : ∀ a b : List Int, dt a b = dt b a
  | [], [] => rfl
  | [], b :: bs => rfl
  | a :: as, [] => rfl
  | a :: as, b :: bs => by rw [dt, dt, dt_comm as bs, Int.mul_comm]
theorem dt_nil (a : List Int) : dt a [] = 0 := by cases a <;> rfl
theorem dt_mix : ∀ (a b v : List Int) (t m : Int), a.length = b.length → dt (mix a t b m) v = dt a v * t + dt b v * m
  | [], [], v, t, m, _ => by cases v <;> simp [mix, dt]
  | [], b :: bs, v, t, m, h => by simp at h
  | a :: as, [], v, t, m, h => by simp at h
  | a :: as, b :: bs, [], t, m, h => by rw [dt_nil, dt_nil, dt_nil]; simp
  | a :: as, b :: bs, v :: vs, t, m, h => by
    have ih := dt_mix as bs vs t m (by simpa using h)
    have e : mix (a :: as) t (b :: bs) m = (a * t + b * m) :: mix as t bs m := rfl
    rw [e, dt, dt, dt, ih]
    have e1 : a * t * v = a * v * t := by rw [Int.mul_assoc, Int.mul_comm t v, ← Int.mul_assoc]
    have e2 : b * m * v = b * v * m := by rw [Int.mul_assoc, Int.mul_comm m v, ← Int.mul_assoc]
    rw [Int.add_mul, Int.add_mul, Int.add_mul, e1, e2]
    omega
theorem dt_smul : ∀ (l v : List Int) (c : Int), dt (l.map (c * ·)) v = c * dt l v
  | [], v, c => by cases v <;> simp [dt]
  | a :: as, [], c => by rw [dt_nil, dt_nil, Int.mul_zero]
  | a :: as, v :: vs, c => by rw [List.map_cons, dt, dt, dt_smul as vs c, Int.mul_add, Int.mul_assoc]
theorem dt_snoc : ∀ (a b : List Int) (m x : Int), a.length = b.length → dt (a ++ [m]) (b ++ [x]) = dt a b + m * x
  | [], [], m, x, _ => by simp [dt]
  | [], b :: bs, m, x, h => by simp at h
  | a :: as, [], m, x, h => by simp at h
  | a :: as, b :: bs, m, x, h => by
    rw [List.cons_append, List.cons_append, dt, dt, dt_snoc as bs m x (by simpa using h)]
    omega
def BdL (k : Nat) (l : List Int) : Prop := ∀ x ∈ l, Bd k x
theorem BdL.mono {j k : Nat} {l : List Int} (h : BdL j l) (hk : j ≤ k) : BdL k l := fun x hx => (h x hx).mono hk
theorem dt_abs (j k : Nat) : ∀ (a b : List Int), BdL j a → BdL k b → (dt a b).natAbs ≤ a.length * 2 ^ (j + k)
  | [], b, _, _ => by cases b <;> simp [dt]
  | a :: as, [], _, _ => by rw [dt_nil]; simp
  | a :: as, b :: bs, ha, hb => by
    have ih := dt_abs j k as bs (fun x hx => ha x (List.mem_cons_of_mem _ hx)) (fun x hx => hb x (List.mem_cons_of_mem _ hx))
    have h1 := (ha a List.mem_cons_self).mul (hb b List.mem_cons_self)
    unfold Bd at h1
    rw [dt, List.length_cons, Nat.add_mul, Nat.one_mul]
    have := Int.natAbs_add_le (a * b) (dt as bs)
    omega
theorem dt_bd {j k s : Nat} {a b : List Int} (ha : BdL j a) (hb : BdL k b) (hl : a.length < 2 ^ s) : Bd (j + k + s) (dt a b) := by
  have h := dt_abs j k a b ha hb
  unfold Bd
  rw [Nat.pow_add]
  have hp : 0 < 2 ^ (j + k) := Nat.pow_pos (by decide)
  have : a.length * 2 ^ (j + k) < 2 ^ s * 2 ^ (j + k) := Nat.mul_lt_mul_of_pos_right hl hp
  rw [Nat.mul_comm (2 ^ (j + k))]
  omega
theorem mix_bdl {j k p q : Nat} {a b : List Int} {t m : Int} (ha : BdL j a) (ht : Bd p t) (hb : BdL k b) (hm : Bd q m) {n : Nat} (h1 : j + p ≤ n) (h2 : k + q ≤ n) : BdL (n + 1) (mix a t b m) := fun x hx => by
  unfold mix at hx
  obtain ⟨z, hz, rfl⟩ := List.mem_map.mp hx
  exact (((ha _ (List.of_mem_zip hz).1).mul ht).mono h1).add (((hb _ (List.of_mem_zip hz).2).mul hm).mono h2)
/-! ### the greatest divisor -/
def dvC : DEnv → Out (Bool × DEnv) := (eBp (hB (hOp [.pur (hVar 1), .pur (hC (.int 0))] gGt)))
def dvB : Stm := (sSeq (sPar 0 1 [.pur (hVar 1), .pur (hOp [.pur (hVar 0), .pur (hVar 1)] gMod)])
  sNop)
theorem dv_eq : b_divisor = (sSeq (sSet 0 (eP (hOp [.pur (hVar 0)] gAbs)))
  (sSeq (sSet 1 (eP (hOp [.pur (hVar 1)] gAbs)))
  (sSeq (sWhile dvC dvB)
  (sSeq (sRet (eP (hVar 0)))
  sNop)))) := rfl
abbrev dvS (a b : Nat) : DEnv := [some (.own, .int (a : Int)), some (.own, .int (b : Int))]
theorem dv_loop : ∀ (b a : Nat), WhR dvC dvB (dvS a b) (.nx (dvS (Nat.gcd a b) 0)) := fun b => by
  induction b using Nat.strongRecOn with
  | ind b ih =>
    intro a
    by_cases hb : b = 0
    · subst hb
      rw [Nat.gcd_zero_right]
      refine WhR.stop ?_
      show dvC [some (.own, .int (a : Int)), some (.own, .int 0)] = .ok (false, [some (.own, .int (a : Int)), some (.own, .int 0)])
      generalize (a : Int) = A
      simp [dvC]
    · have h1 : (0 : Int) < (b : Int) := by omega
      have h0 : 0 < b := by omega
      have e : (a : Int) % (b : Int) = ((a % b : Nat) : Int) := (Int.natCast_emod a b).symm
      have r := ih (a % b) (Nat.mod_lt _ h0) b
      have hg : Nat.gcd b (a % b) = Nat.gcd a b := by
        rw [Nat.gcd_comm a b, Nat.gcd_rec b a, Nat.gcd_comm]
      rw [hg] at r
      refine WhR.step (e1 := dvS a b) ?_ (.inl ?_) r
      · dsimp only [dvS]
        clear e r ih hg hb h0
        generalize (b : Int) = bz at *
        generalize (a : Int) = az at *
        have h2 : gGt [.int bz, .int 0] = some (.bl true) := by simp [h1]
        unfold dvC
        simp [h1]
      · dsimp only [dvS]
        clear r ih hg hb h0
        generalize ((a % b : Nat) : Int) = mz at *
        generalize (b : Int) = bz at *
        generalize (a : Int) = az at *
        unfold dvB
        simp [h1, e]
theorem fabs_eq (n : Int) : (if n < 0 then -n else n) = (n.natAbs : Int) := by split <;> omega
theorem divisor_ok (a b : Int) : fn_divisor [.int a, .int b] = .ok (.int (Nat.gcd a.natAbs b.natAbs : Nat), []) := by
  have h := (dv_loop b.natAbs a.natAbs).sw
  have ea := fabs_eq a
  have eb := fabs_eq b
  dsimp only [dvS] at h
  have ga : fAbs (.int a) = some (.int (a.natAbs : Int)) := by
    show some (D.int (if a < 0 then -a else a)) = _
    rw [ea]
  have gb : fAbs (.int b) = some (.int (b.natAbs : Int)) := by
    show some (D.int (if b < 0 then -b else b)) = _
    rw [eb]
  generalize Nat.gcd a.natAbs b.natAbs = g at *
  generalize a.natAbs = na at *
  generalize b.natAbs = nb at *
  simp [fn_divisor, dv_eq, ga, gb, h]
/-! ### lowest -/
def gcdL (r : List Int) : Nat := r.foldl (fun g x => Nat.gcd g x.natAbs) 0
def low (r : List Int) : List Int := if gcdL r < 2 then r else r.map (· / (gcdL r : Int))
theorem gcd_fold : ∀ (r : List Int) (g : Nat), r.foldl (fun g x => Nat.gcd g x.natAbs) g ∣ g ∧ ∀ x ∈ r, r.foldl (fun g x => Nat.gcd g x.natAbs) g ∣ x.natAbs
  | [], g => ⟨Nat.dvd_refl g, fun x hx => (by cases hx)⟩
  | a :: r, g => by
    obtain ⟨h1, h2⟩ := gcd_fold r (Nat.gcd g a.natAbs)
    rw [List.foldl_cons]
    refine ⟨Nat.dvd_trans h1 (Nat.gcd_dvd_left _ _), fun x hx => ?_⟩
    rcases List.mem_cons.mp hx with rfl | hx
    · exact Nat.dvd_trans h1 (Nat.gcd_dvd_right _ _)
    · exact h2 x hx
theorem gcdL_dvd {r : List Int} {x : Int} (hx : x ∈ r) : (gcdL r : Int) ∣ x := Int.ofNat_dvd_left.mpr ((gcd_fold r 0).2 x hx)
theorem low_spec (r : List Int) : ∃ c : Int, 1 ≤ c ∧ r = (low r).map (c * ·) := by
  unfold low
  split
  · exact ⟨1, by decide, by simp⟩
  · rename_i h
    refine ⟨(gcdL r : Int), by omega, ?_⟩
    rw [List.map_map]
    conv => lhs; rw [← List.map_id r]
    refine List.map_congr_left fun x hx => ?_
    exact (Int.mul_ediv_cancel' (gcdL_dvd hx)).symm
theorem low_len (r : List Int) : (low r).length = r.length := by
  unfold low
  split
  · rfl
  · exact List.length_map _
theorem low_bd {k : Nat} {r : List Int} (h : BdL k r) : BdL k (low r) := by
  unfold low
  split
  · exact h
  · rename_i h2
    intro x hx
    obtain ⟨y, hy, rfl⟩ := List.mem_map.mp hx
    have := h y hy
    unfold Bd at *
    rw [Int.natAbs_ediv_of_dvd (gcdL_dvd hy)]
    exact Nat.lt_of_le_of_lt (Nat.div_le_self _ _) this
theorem gcdL_bd {k : Nat} {r : List Int} (h : BdL k r) : gcdL r < 2 ^ k := by
  by_cases h0 : ∃ x ∈ r, x ≠ 0
  · obtain ⟨x, hx, hx0⟩ := h0
    exact Nat.lt_of_le_of_lt (Nat.le_of_dvd (by omega) ((gcd_fold r 0).2 x hx)) (h x hx)
  · have : gcdL r = 0 := by
      have key : ∀ r : List Int, (∀ x ∈ r, x = 0) → r.foldl (fun g x => Nat.gcd g x.natAbs) 0 = 0 := fun r => by
        induction r with
        | nil => intro _; rfl
        | cons a r ih =>
          intro h
          rw [List.foldl_cons, h a List.mem_cons_self]
          exact ih fun x hx => h x (List.mem_cons_of_mem _ hx)
      exact key r fun x hx => Classical.byContradiction fun hn => h0 ⟨x, hx, hn⟩
    rw [this]
    exact Nat.pow_pos (by decide)
theorem div_cond {g : Nat} (h2 : ¬ g < 2) (hb : g < 2 ^ 9000) : (0 : Int) < (g : Int) ∧ ((g : Int)).natAbs.log2 < 9000 := ⟨by omega, by rw [Int.natAbs_natCast]; exact log_lt hb (by decide)⟩
noncomputable def loB : Stm := (sSeq (sSet 1 (eK (.fin [.pur (hVar 1), .pur (hVar 2)]) (callK [.b, .b] fn_divisor)))
  sNop)
def loE : DEnv → Out (D × DEnv) := (eP (hOp [.pur (hVar 2), .pur (hVar 1)] gDiv))
theorem lo_eq : b_lowest = (sSeq (sSet 1 (eP (hC (.int 0))))
  (sSeq (sFor [.pur (hVar 0)] mkSeq (bName 2) [2] loB)
  (sSeq (sIf (hB (hOp [.pur (hVar 1), .pur (hC (.int 2))] gLt)) (sSeq (sRet (eP (hOp [.pur (hVar 0)] gTupOf)))
  sNop) sNop)
  (sSeq (sRet (eOp (.own (lcE [.pur (hVar 0)] mkSeq (bName 2) eYes loE [2]) (.fin [])) gTupOf))
  sNop)))) := rfl
abbrev rowD (r : List Int) : D := .tup (r.map .int)
theorem low_lc {r : List Int} (g : Nat) (hc : (0 : Int) < (g : Int) ∧ ((g : Int)).natAbs.log2 < 9000) (X : D) : lcG (bName 2) eYes loE [2] (r.map .int) [some (.brw, X), some (.own, .int (g : Int)), none] = .ok ((r.map fun x => D.int (x / (g : Int))), [some (.brw, X), some (.own, .int (g : Int)), none]) := by
  refine lcG_map (g := fun x : Int => D.int (x / (g : Int))) r fun x hx => ?_
  have h0 := hc.1
  have h1 := hc.2
  generalize hG : (g : Int) = G at *
  unfold loE
  simp [hc, h0, h1]
theorem lowest_ok {r : List Int} (hl : r.length < 1000) (hb : BdL 9000 r) : fn_lowest [rowD r] = .ok (rowD (low r), []) := by
  have hf := (forD_foldI (bd := bName 2) (cl := [2]) (body := loB) (st := fun g : Nat => [some (.brw, rowD r), some (.own, .int (g : Int)), none]) (f := fun g (x : Int) => Nat.gcd g x.natAbs) (φ := D.int) (I := fun _ _ => True) r 0 0 trivial fun j g x hx _ => ⟨trivial, by
    have h := divisor_ok (g : Int) x
    rw [Int.natAbs_natCast] at h
    dsimp only [rowD]
    generalize Nat.gcd g x.natAbs = g2 at *
    unfold Turn1 loB
    simp [h]⟩).1
  have hg : r.foldl (fun g x => Nat.gcd g x.natAbs) 0 = gcdL r := rfl
  rw [hg] at hf
  replace hf : forD (bName 2) [2] loB (r.map .int) [some (.brw, rowD r), some (.own, .int 0), none] = .ok (.nx [some (.brw, rowD r), some (.own, .int (gcdL r : Int)), none]) := hf
  have hlen : (r.map D.int).length < 16777216 := by rw [List.length_map]; omega
  have hlc := fun hc => low_lc (r := r) (gcdL r) hc (rowD r)
  have hbd := gcdL_bd hb
  have hpr : D.pureL (r.map .int) = true := pureL_ints r
  unfold low
  by_cases h2 : gcdL r < 2
  · rw [if_pos h2]
    have h2i : (gcdL r : Int) < 2 := by omega
    dsimp only [rowD] at *
    clear hlc hbd hb
    generalize gcdL r = g at *
    generalize r.map D.int = RD at *
    simp [fn_lowest, lo_eq, hf, h2, h2i, hpr]
  · rw [if_neg h2]
    have h2i : ¬ (gcdL r : Int) < 2 := by omega
    have hlc := hlc (div_cond h2 hbd)
    have e : (r.map fun x => D.int (x / (gcdL r : Int))) = (r.map (· / (gcdL r : Int))).map .int := by rw [List.map_map]; rfl
    rw [e] at hlc
    have hpr2 : D.pureL ((r.map (· / (gcdL r : Int))).map .int) = true := pureL_ints _
    have hlen2 : ((r.map (· / (gcdL r : Int))).map D.int).length ≤ 16777216 := by simp; omega
    dsimp only [rowD] at *
    clear hbd hb
    generalize (r.map (· / (gcdL r : Int))).map D.int = LD at *
    generalize gcdL r = g at *
    generalize r.map D.int = RD at *
    simp [fn_lowest, lo_eq, hf, h2, h2i, hpr, hlen, hlc, hpr2, hlen2]
end DL

namespace DL
open PySem PySem.Spec PyProof.Rows L2
theorem enum_map {α : Type} (φ : α → D) (d : α) : ∀ (xs : List α) (k : Nat), enumD k (xs.map φ) = (List.range xs.length).map fun i => .tup [.int ((k + i : Nat) : Int), φ (xs.getD i d)]
  | [], k => rfl
  | x :: xs, k => by
    rw [List.map_cons, List.length_cons, List.range_succ_eq_map, List.map_cons, List.map_map]
    show D.tup [.int (k : Int), φ x] :: enumD (k + 1) (xs.map φ) = _
    rw [enum_map φ d xs (k + 1)]
    congr 1
    refine List.map_congr_left fun i _ => ?_
    show D.tup [.int ((k + 1 + i : Nat) : Int), φ (xs.getD i d)] = D.tup [.int ((k + (i + 1) : Nat) : Int), φ ((x :: xs).getD (i + 1) d)]
    rw [show k + 1 + i = k + (i + 1) from by omega]
    rfl
@[simp] theorem z_enumT {fl : Bool} {xs : List D} : mkEnumT [.tupF fl xs] = some (enumD 0 xs) := rfl
/-! ### unit rows -/
def unitL (w p : Nat) : List Int := List.replicate p 0 ++ [1] ++ List.replicate (w - p - 1) 0
theorem unit_len {w p : Nat} (h : p < w) : (unitL w p).length = w := by unfold unitL; simp; omega
theorem unit_ok {w p : Nat} (h : p < w) (hw : w ≤ 500) : fn_unit [.int (w : Int), .int (p : Int)] = .ok (rowD (unitL w p), []) := by
  have h1 : (-1000 : Int) ≤ (p : Int) := by omega
  have h2 : (p : Int) ≤ 1000 := by omega
  have h3 : (w : Int) - (p : Int) - 1 = ((w - p - 1 : Nat) : Int) := by omega
  have h4 : (-1000 : Int) ≤ ((w - p - 1 : Nat) : Int) := by omega
  have h5 : ((w - p - 1 : Nat) : Int) ≤ 1000 := by omega
  have h7 : w - p - 1 ≤ 16777215 := by omega
  have p1 := pureL_ints (List.replicate p 0)
  have p2 := pureL_ints (List.replicate (w - p - 1) 0)
  have p3 := pureL_ints (List.replicate p 0 ++ [1])
  have e : rowD (unitL w p) = .tup (((List.replicate p 0).map D.int ++ [D.int 1]) ++ (List.replicate (w - p - 1) 0).map D.int) := by
    show D.tup ((unitL w p).map D.int) = _
    unfold unitL
    rw [List.map_append, List.map_append, List.map_cons, List.map_nil]
  have f1 := (rep_int p 0)
  have f2 := (rep_int (w - p - 1) 0)
  have l1 : ((List.replicate p (0 : Int)).map D.int).length = p := by simp
  have l2 : ((List.replicate (w - p - 1) (0 : Int)).map D.int).length = w - p - 1 := by simp
  have g1 : p + 1 ≤ 16777216 := by omega
  have g2 : p + 1 + (w - p - 1) ≤ 16777216 := by omega
  have g3 : p + (w - p - 1 + 1) ≤ 16777216 := by omega
  have g4 : p ≤ 16777215 := by omega
  rw [List.map_append, List.map_cons, List.map_nil] at p3
  rw [e]
  generalize hk : w - p - 1 = k at *
  generalize (List.replicate p (0 : Int)).map D.int = A at *
  generalize (List.replicate k (0 : Int)).map D.int = C at *
  simp [fn_unit, b_unit, flat_one, h1, h2, h3, h4, h5, f1, f2, p1, p2, p3, l1, l2, g1, g2, g3, g4]
theorem dt_zeros : ∀ (n : Nat) (v : List Int), dt (List.replicate n 0) v = 0
  | 0, v => by cases v <;> rfl
  | n + 1, [] => dt_nil _
  | n + 1, a :: v => by rw [List.replicate_succ, dt, dt_zeros n v, Int.zero_mul, Int.add_zero]
theorem dt_unit : ∀ (w p : Nat) (v : List Int), p < w → v.length = w → dt (unitL w p) v = v.getD p 0
  | 0, p, v, h, _ => by omega
  | w + 1, 0, [], _, hv => by simp at hv
  | w + 1, 0, a :: v, _, hv => by
    have e : unitL (w + 1) 0 = 1 :: List.replicate w 0 := by unfold unitL; simp
    rw [e, dt, dt_zeros]
    simp
  | w + 1, p + 1, [], _, hv => by simp at hv
  | w + 1, p + 1, a :: v, h, hv => by
    have e : unitL (w + 1) (p + 1) = 0 :: unitL w p := by
      unfold unitL
      rw [List.replicate_succ, show w + 1 - (p + 1) - 1 = w - p - 1 from by omega]
      rfl
    rw [e, dt, dt_unit w p v (by omega) (by simpa using hv)]
    simp
theorem unit_getD {w p : Nat} (h : p < w) (j : Nat) : (unitL w p).getD j 0 = if j = p then 1 else 0 := by
  unfold unitL
  simp only [List.getD_eq_getElem?_getD, List.getElem?_append, List.length_append, List.length_replicate, List.length_cons, List.length_nil, List.getElem?_replicate]
  by_cases h1 : j < p
  · have h2 : ¬ j = p := by omega
    have h3 : j < p + 1 := by omega
    simp [h1, h2, h3]
  · by_cases h2 : j = p
    · subst h2
      simp
    · have h3 : ¬ j < p + 1 := by omega
      rw [if_neg h3, if_neg h2]
      split <;> rfl
theorem unit_bd {w p : Nat} : BdL 1 (unitL w p) := fun x hx => by
  unfold unitL at hx
  simp only [List.mem_append, List.mem_replicate, List.mem_singleton] at hx
  rcases hx with (⟨_, rfl⟩ | rfl) | ⟨_, rfl⟩
  · exact bd0
  · unfold Bd; decide
  · exact bd0
end DL

namespace DL
open PySem PySem.Spec PyProof.Rows L2
theorem enum0 {α : Type} (φ : α → D) (d : α) (xs : List α) : enumD 0 (xs.map φ) = (List.range xs.length).map fun i : Nat => .tup [.int (i : Int), φ (xs.getD i d)] := by
  rw [enum_map φ d xs 0]
  refine List.map_congr_left fun i _ => ?_
  rw [Nat.zero_add]
theorem getD_lt {α : Type} {l : List α} {d : α} {k : Nat} (h : k < l.length) : l.getD k d = l[k] := by
  rw [List.getD_eq_getElem?_getD, List.getElem?_eq_getElem h]; rfl
abbrev colI (i : Nat) (R : List (List Int)) : List Int := R.map fun r => r.getD i 0
theorem getD_app1 {a b : List Int} {i : Nat} (h : i < a.length) : (a ++ b).getD i 0 = a.getD i 0 := by
  rw [List.getD_eq_getElem?_getD, List.getElem?_append_left h, ← List.getD_eq_getElem?_getD]
theorem getD_app2 {a b : List Int} {i : Nat} : (a ++ b).getD (a.length + i) 0 = b.getD i 0 := by
  rw [List.getD_eq_getElem?_getD, List.getElem?_append_right (by omega), Nat.add_sub_cancel_left, ← List.getD_eq_getElem?_getD]
theorem getD_take {a : List Int} {n i : Nat} (h : i < n) : (a.take n).getD i 0 = a.getD i 0 := by
  rw [List.getD_eq_getElem?_getD, List.getElem?_take_of_lt h, ← List.getD_eq_getElem?_getD]
theorem getD_drop {a : List Int} {n i : Nat} : (a.drop n).getD i 0 = a.getD (n + i) 0 := by
  rw [List.getD_eq_getElem?_getD, List.getElem?_drop, ← List.getD_eq_getElem?_getD]
theorem getD_ge {a : List Int} {i : Nat} (h : a.length ≤ i) : a.getD i 0 = 0 := by
  rw [List.getD_eq_getElem?_getD, List.getElem?_eq_none h]; rfl
theorem getD_smul (l : List Int) (c : Int) (i : Nat) : (l.map (c * ·)).getD i 0 = c * l.getD i 0 := by
  rw [List.getD_eq_getElem?_getD, List.getD_eq_getElem?_getD, List.getElem?_map]
  cases l[i]? with
  | none => simp
  | some x => simp
theorem mulz {a b : Int} (h : a ≠ 0) (e : a * b = 0) : b = 0 := (Int.mul_eq_zero.mp e).resolve_left h
theorem dt_allz : ∀ (a l : List Int), (∀ j, a.getD j 0 = 0) → dt a l = 0
  | [], l, _ => by cases l <;> rfl
  | a :: as, [], _ => dt_nil _
  | a :: as, b :: bs, h => by
    have h0 : a = 0 := h 0
    have h1 : ∀ j, as.getD j 0 = 0 := fun j => h (j + 1)
    rw [dt, dt_allz as bs h1, h0, Int.zero_mul]; rfl
theorem forD_find {β : Type} {bd : D → DEnv → Option DEnv} {cl : List Nat} {body : Stm} {c : β → Bool} {d : β → D} {φ : β → D} {st : DEnv} : ∀ (xs : List β), (∀ x, x ∈ xs → c x = true → Turn1 bd cl body (φ x) st st) → (∀ x, x ∈ xs → c x = false → ∃ e1 e2 e3, bd (φ x) st = some e1 ∧ body e1 = .ok (.rt (d x) e2) ∧ dropS cl e2 = some e3) →
    ((∀ x ∈ xs, c x = true) ∧ forD bd cl body (xs.map φ) st = .ok (.nx st)) ∨ ∃ x, x ∈ xs ∧ c x = false ∧ ∃ e, forD bd cl body (xs.map φ) st = .ok (.rt (d x) e)
  | [], _, _ => .inl ⟨fun x hx => (by cases hx), rfl⟩
  | x :: xs, h1, h2 => by
    cases hc : c x with
    | true =>
      rw [List.map_cons, forD_cons (h1 x List.mem_cons_self hc)]
      rcases forD_find xs (fun y hy => h1 y (List.mem_cons_of_mem _ hy)) (fun y hy => h2 y (List.mem_cons_of_mem _ hy)) with ⟨g1, g2⟩ | ⟨y, g1, g2, g3⟩
      · refine .inl ⟨fun y hy => ?_, g2⟩
        rcases List.mem_cons.mp hy with rfl | hy
        · exact hc
        · exact g1 y hy
      · exact .inr ⟨y, List.mem_cons_of_mem _ g1, g2, g3⟩
    | false =>
      refine .inr ⟨x, List.mem_cons_self, hc, ?_⟩
      obtain ⟨e1, e2, e3, g1, g2, g3⟩ := h2 x List.mem_cons_self hc
      refine ⟨e3, ?_⟩
      rw [List.map_cons, forD, g1]
      simp only [must_some, g2, Out.bind_ok, g3]
/-! ### sums of rows -/
theorem fold_total {w : Nat} : ∀ (rows : List (List Int)) (nums t : List Int), t.length = w → (∀ r ∈ rows, r.length = w) → ((rows.zip nums).foldl (fun t p => mix t 1 p.1 p.2) t).length = w ∧ (∀ i, i < w → ((rows.zip nums).foldl (fun t p => mix t 1 p.1 p.2) t).getD i 0 = t.getD i 0 + dt nums (colI i rows)) ∧ ∀ b, dt ((rows.zip nums).foldl (fun t p => mix t 1 p.1 p.2) t) b = dt t b + dt nums (rows.map fun r => dt r b)
  | [], nums, t, ht, _ => ⟨ht, fun i _ => by show t.getD i 0 = t.getD i 0 + dt nums []; rw [dt_nil]; omega, fun b => by show dt t b = dt t b + dt nums []; rw [dt_nil]; omega⟩
  | r :: rows, [], t, ht, _ => ⟨ht, fun i _ => by show t.getD i 0 = t.getD i 0 + 0; omega, fun b => by show dt t b = dt t b + 0; omega⟩
  | r :: rows, m :: nums, t, ht, hr => by
    have hrl := hr r List.mem_cons_self
    obtain ⟨h1, h2, h3⟩ := fold_total rows nums (mix t 1 r m) (by rw [mix_len, ht, hrl, Nat.min_self]) fun x hx => hr x (List.mem_cons_of_mem _ hx)
    rw [List.zip_cons_cons, List.foldl_cons]
    refine ⟨h1, fun i hi => ?_, fun b => ?_⟩
    · rw [h2 i hi, mix_getD t r 1 m (ht.trans hrl.symm) i (by omega)]
      show _ = t.getD i 0 + (m * r.getD i 0 + dt nums (colI i rows))
      rw [Int.mul_one, Int.mul_comm m]
      omega
    · rw [h3 b, dt_mix _ _ _ _ _ (ht.trans hrl.symm)]
      show _ = dt t b + (m * dt r b + dt nums (rows.map fun r => dt r b))
      rw [Int.mul_one, Int.mul_comm m]
      omega
section
variable {rows : List (List Int)} {w : Nat} (hr : ∀ r ∈ rows, r.length = w) (nums : List Int)
include hr
theorem total_len : (total w (rows.zip nums)).length = w := (fold_total rows nums (List.replicate w 0) (by simp) hr).1
theorem total_getD {i : Nat} (hi : i < w) : (total w (rows.zip nums)).getD i 0 = dt nums (colI i rows) := by
  have := (fold_total rows nums (List.replicate w 0) (by simp) hr).2.1 i hi
  unfold total
  rw [this, List.getD_eq_getElem?_getD, List.getElem?_replicate]
  split <;> simp
theorem total_dt (b : List Int) : dt (total w (rows.zip nums)) b = dt nums (rows.map fun r => dt r b) := by
  have := (fold_total rows nums (List.replicate w 0) (by simp) hr).2.2 b
  unfold total
  rw [this, dt_zeros]
  omega
theorem total_bd {j k s : Nat} (hn : BdL j nums) (hk : ∀ r ∈ rows, BdL k r) (hl : nums.length < 2 ^ s) : BdL (j + k + s) (total w (rows.zip nums)) := fun x hx => by
  obtain ⟨i, hi, rfl⟩ := List.mem_iff_getElem.mp hx
  have hi2 : i < w := by rw [total_len hr nums] at hi; exact hi
  rw [← getD_lt (d := 0) hi, total_getD hr nums hi2]
  refine dt_bd hn (fun y hy => ?_) hl
  obtain ⟨r, hrm, rfl⟩ := List.mem_map.mp hy
  by_cases h : i < r.length
  · rw [getD_lt h]; exact hk r hrm _ (List.getElem_mem h)
  · rw [getD_ge (by omega)]; exact bd0
end
theorem rows_eq (a b : List Int) : gEqB (rowD a) (rowD b) = some (decide (a = b)) := EqOk.int.tup.eq a b
/-! ### what is told -/
theorem no_false {α : Type} (l : List α) : inB (.bl false) (.lst (l.map fun _ => D.bl true)) = some false := by
  have := EqOk.bl.mem false (l.map fun _ => true)
  rw [List.map_map] at this
  rw [show (fun _ : α => D.bl true) = D.bl ∘ fun _ => true from rfl, this]
  simp
theorem gtD_int (a b : Int) : gGtD [.int a, .int b] = some (.bl (decide (b < a))) := by
  show fCmD gtF (.int a) (.int b) = _
  show iff? (PySem.W.alike (.int a) (.int b) = true ∧ PySem.W.alike (.int a) .none = false ∧ PyData.depth (.int a) ≤ 60) (D.bl (gtF (.int a) (.int b))) = _
  rw [iff?_pos ⟨rfl, rfl, Nat.zero_le _⟩]
  show some (D.bl (PySem.W.dataLt (.int b) (.int a))) = _
  rw [PySem.W.dataLt_int]
theorem okSum : PyData.strOk "sum" = true := by decide +kernel
theorem okRow : PyData.strOk "row" = true := by decide +kernel
theorem neRS : ("row" : Str) ≠ "sum" := by decide +kernel
theorem neSR : ("sum" : Str) ≠ "row" := by decide +kernel
theorem neS0 : ("sum" : Str) ≠ "" := by decide +kernel
theorem neR0 : ("row" : Str) ≠ "" := by decide +kernel
theorem okE0 : PyData.strOk "" = true := by decide +kernel
theorem eq_ss : gEqB (.str "sum") (.str "sum") = some true := (eq_str okSum okSum).trans (by simp)
theorem eq_rr : gEqB (.str "row") (.str "row") = some true := (eq_str okRow okRow).trans (by simp)
theorem eq_rs : gEqB (.str "row") (.str "sum") = some false := (eq_str okRow okSum).trans (by rw [decide_eq_false neRS])
theorem eq_sr : gEqB (.str "sum") (.str "row") = some false := (eq_str okSum okRow).trans (by rw [decide_eq_false neSR])
theorem eq_s0 : gEqB (.str "sum") (.str "") = some false := (eq_str okSum okE0).trans (by rw [decide_eq_false neS0])
theorem eq_r0 : gEqB (.str "row") (.str "") = some false := (eq_str okRow okE0).trans (by rw [decide_eq_false neR0])
theorem rows_pure (rows : List (List Int)) : D.pureL (rows.map rowD) = true := pureL_map (φ := rowD) (fun r => pureL_ints r) rows
theorem rows_same (rows : List (List Int)) : gEqB (.lst (rows.map rowD)) (.lst (rows.map rowD)) = some true := (EqOk.int.tup.lst.eq rows rows).trans (by simp)
@[simp] theorem z_catll {xs ys : List D} : fCatLL (.lst xs) (.lst ys) = iff? (D.pureL xs = true ∧ D.pureL ys = true ∧ xs.length + ys.length ≤ 16777216) (.lst (xs ++ ys)) := rfl
@[simp] theorem z_insk {xs : List D} {i : Int} {y : D} {env : DEnv} : insK [.lst xs, .int i, y] env = if xs.length < 16777216 ∧ 0 ≤ i ∧ i.natAbs < 9223372036854775808 then .ok (.non, [.lst (xs.take i.toNat ++ [y] ++ xs.drop i.toNat)], env) else .bad := rfl
@[simp] theorem z_hif {c : DEnv → Option Bool} {h k : DEnv → Option D} {env : DEnv} : hIf c h k env = match c env with
  | some b => if b = true then h env else k env
  | none => none := rfl
end DL

namespace DL
open PySem PySem.Spec PyProof.Rows L2
noncomputable def kwE : DEnv → Out (D × DEnv) := (eK (.fin [.pur (hVar 7), .pur (hVar 1)]) (callK [.b, .b] fn_product))
def kwC : DEnv → Out (Bool × DEnv) := (eBp (hB (hOp [.pur (hVar 8), .pur (hC (.int 0))] gNe)))
noncomputable def kwB : Stm := (sSeq (sIf (hB (hOp [.pur (hVar 6), .pur (hVar 4)] gNe)) (sSeq (sExpr (isL 5 (eK (.io 5 (.own (eK (.own (eK (.fin [.pur (hVar 7), .pur (hRd (pIx (pVar 2) (hVar 4))), .pur (hRd (pIx (pVar 0) (hVar 4))), .pur (hOp [.pur (hC (.int 0)), .pur (hRd (pIx (pVar 2) (hVar 6)))] gSub)]) (callK [.b, .b, .b, .b] fn_blended)) (.fin [])) (callK [.b] fn_lowest)) (.fin []))) appK)))
  sNop) sNop)
  sNop)
theorem kw_eq : b_kernel_with = (sSeq (sSet 2 (lcE [.plc 0 (pVar 0)] mkSeq (bName 7) eYes kwE [7]))
  (sSeq (sSet 3 (lcE [.plc 2 (pVar 2)] mkEnum (bTup (bCons (bName 6) (bCons (bName 8) bNil))) kwC (eP (hVar 6)) [6, 8]))
  (sSeq (sIfE (eB (eOp (.plc 3 (pVar 3) (.own (eK (.fin []) (dspK .lst)) (.fin []))) gEq)) (sSeq (sRet (eMov 0))
  sNop) sNop)
  (sSeq (sSet 4 (eP (hRd (pIx (pVar 3) (hC (.int 0))))))
  (sSeq (sSet 5 (eK (.fin []) (dspK .lst)))
  (sSeq (sFor [.plc 0 (pVar 0)] mkEnum (bTup (bCons (bName 6) (bCons (bName 7) bNil))) [6, 7] kwB)
  (sSeq (sRet (eMov 5))
  sNop))))))) := rfl
section
variable {K : List (List Int)} {row : List Int} {w β ρ : Nat}
def newB (K : List (List Int)) (row : List Int) (at_ k : Nat) : List Int := low (mix (K.getD k []) (dt (K.getD at_ []) row) (K.getD at_ []) (0 - dt (K.getD k []) row))
theorem val_bd (hw : w < 8) (hK : ∀ b ∈ K, b.length = w ∧ BdL β b) (hrow : BdL ρ row) {k : Nat} (hk : k < K.length) : Bd (β + ρ + 3) (dt (K.getD k []) row) := by
  rw [getD_lt hk]
  have h := hK _ (List.getElem_mem hk)
  exact dt_bd h.2 hrow (by rw [h.1]; exact hw)
theorem mixK_bd (hw : w < 8) (hK : ∀ b ∈ K, b.length = w ∧ BdL β b) (hrow : BdL ρ row) {a k : Nat} (ha : a < K.length) (hk : k < K.length) : BdL (2 * β + ρ + 4) (mix (K.getD k []) (dt (K.getD a []) row) (K.getD a []) (0 - dt (K.getD k []) row)) := by
  have v1 := val_bd hw hK hrow ha
  have v2 := val_bd hw hK hrow hk
  rw [show (0 : Int) - dt (K.getD k []) row = -dt (K.getD k []) row from by omega]
  have h1 := (hK _ (List.getElem_mem hk)).2
  have h2 := (hK _ (List.getElem_mem ha)).2
  rw [← getD_lt (d := []) hk] at h1
  rw [← getD_lt (d := []) ha] at h2
  exact (mix_bdl (n := 2 * β + ρ + 3) h1 v1 h2 v2.neg (by omega) (by omega)).mono (by omega)
abbrev kwS (K : List (List Int)) (row vals : List Int) (ch : List Int) (a : Nat) (L : List (List Int)) : DEnv := [some (.lck, .lst (K.map rowD)), some (.brw, rowD row), some (.own, .lst (vals.map .int)), some (.own, .lst (ch.map .int)), some (.own, .int (a : Int)), some (.own, .lst (L.map rowD)), none, none, none]
theorem kw_turn (hw : w < 8) (hK : ∀ b ∈ K, b.length = w ∧ BdL β b) (hrow : BdL ρ row) (hβ : β ≤ 100000) (hρ : ρ ≤ 100000) (ch : List Int) {a k : Nat} (hB : k ≠ a → 2 * β + ρ + 4 ≤ 9000) (ha : a < K.length) (hk : k < K.length) (L : List (List Int)) (hL : L.length ≤ 1000) :
    Turn1 (bTup (bCons (bName 6) (bCons (bName 7) bNil))) [6, 7] kwB (.tup [.int (k : Int), rowD (K.getD k [])]) (kwS K row (K.map fun b => dt b row) ch a L) (kwS K row (K.map fun b => dt b row) ch a (if k = a then L else L ++ [newB K row a k])) := by
  have hva : atI ((K.map fun b => dt b row).map D.int) (a : Int) = some (.int (dt (K.getD a []) row)) := by
    rw [List.map_map, getD_lt ha]; exact at_map (φ := fun b => D.int (dt b row)) ha
  have hvk : atI ((K.map fun b => dt b row).map D.int) (k : Int) = some (.int (dt (K.getD k []) row)) := by
    rw [List.map_map, getD_lt hk]; exact at_map (φ := fun b => D.int (dt b row)) hk
  have hka : atI (K.map rowD) (a : Int) = some (rowD (K.getD a [])) := by
    rw [getD_lt ha]; exact at_map ha
  have v1 := val_bd hw hK hrow ha
  have v2 := val_bd hw hK hrow hk
  have v2n : Bd (β + ρ + 3) (0 - dt (K.getD k []) row) := by
    rw [show (0 : Int) - dt (K.getD k []) row = -dt (K.getD k []) row from by omega]; exact v2.neg
  have hka2 := hK _ (List.getElem_mem ha)
  have hkk2 := hK _ (List.getElem_mem hk)
  rw [← getD_lt (d := []) ha] at hka2
  rw [← getD_lt (d := []) hk] at hkk2
  have hmx := mixK_bd hw hK hrow ha hk
  have hbl := blended_ok (K.getD k []) (K.getD a []) (dt (K.getD a []) row) (0 - dt (K.getD k []) row) (fun x hx => (hkk2.2 x hx).mono (by omega)) (fun x hx => (hka2.2 x hx).mono (by omega)) (v1.mono (by omega)) (v2n.mono (by omega)) (by omega)
  have hLl : (L.map rowD).length < 16777216 := by rw [List.length_map]; omega
  by_cases hka3 : k = a
  · rw [if_pos hka3]
    subst hka3
    have pk := pureL_ints (K.getD k [])
    dsimp only [kwS, rowD]
    clear hbl hva hvk hka hLl
    generalize K.map (fun r => D.tup (r.map D.int)) = KD at *
    generalize (K.map fun b => dt b row).map D.int = VD at *
    generalize L.map (fun r => D.tup (r.map D.int)) = LD at *
    generalize ch.map D.int = CD at *
    generalize (K.getD k []).map D.int = R1 at *
    generalize row.map D.int = RW at *
    unfold Turn1 kwB
    simp [pk]
  · rw [if_neg hka3]
    have hlo := lowest_ok (r := mix (K.getD k []) (dt (K.getD a []) row) (K.getD a []) (0 - dt (K.getD k []) row)) (by rw [mix_len]; omega) (hmx.mono (hB hka3))
    have hnb : low (mix (K.getD k []) (dt (K.getD a []) row) (K.getD a []) (0 - dt (K.getD k []) row)) = newB K row a k := rfl
    rw [hnb] at hlo
    have hne : ¬ (k : Int) = (a : Int) := by omega
    dsimp only [kwS]
    rw [List.map_append, List.map_cons, List.map_nil]
    dsimp only [rowD] at *
    generalize K.map (fun r => D.tup (r.map D.int)) = KD at *
    generalize (K.map fun b => dt b row).map D.int = VD at *
    generalize L.map (fun r => D.tup (r.map D.int)) = LD at *
    generalize ch.map D.int = CD at *
    generalize newB K row a k = NB at *
    generalize mix (K.getD k []) (dt (K.getD a []) row) (K.getD a []) (0 - dt (K.getD k []) row) = MX at *
    generalize hdk : dt (K.getD k []) row = dk at *
    generalize hda : dt (K.getD a []) row = da at *
    have pk := pureL_ints (K.getD k [])
    have pa := pureL_ints (K.getD a [])
    generalize (K.getD k []).map D.int = R1 at *
    generalize (K.getD a []).map D.int = R2 at *
    generalize row.map D.int = RW at *
    unfold Turn1 kwB
    simp only [Int.zero_sub] at hbl
    simp [hne, hva, hvk, hka, hbl, hlo, hLl, pk, pa]
theorem chosen_at (vals : List Int) : (∀ v ∈ vals, v = 0) ∧ (List.range vals.length).filter (fun k => decide (vals.getD k 0 ≠ 0)) = [] ∨ ∃ a rest, a < vals.length ∧ vals.getD a 0 ≠ 0 ∧ (List.range vals.length).filter (fun k => decide (vals.getD k 0 ≠ 0)) = a :: rest := by
  cases h : (List.range vals.length).filter (fun k => decide (vals.getD k 0 ≠ 0)) with
  | nil =>
    refine .inl ⟨fun v hv => ?_, rfl⟩
    obtain ⟨k, hk, rfl⟩ := List.mem_iff_getElem.mp hv
    have q := List.filter_eq_nil_iff.mp h k (List.mem_range.mpr hk)
    rw [getD_lt hk] at q
    simpa using q
  | cons a rest =>
    have q : a ∈ (List.range vals.length).filter (fun k => decide (vals.getD k 0 ≠ 0)) := by rw [h]; exact List.mem_cons_self
    have q := List.mem_filter.mp q
    exact .inr ⟨a, rest, List.mem_range.mp q.1, by simpa using q.2, rfl⟩
/-- all but one -/
def but (n a : Nat) : List Nat := (List.range n).filter fun k => k != a
theorem but_len {n a : Nat} (h : a < n) : (but n a).length = n - 1 := by
  unfold but
  rw [← (List.nodup_range (n := n)).erase_eq_filter a, List.length_erase_of_mem (List.mem_range.mpr h), List.length_range]
theorem but_mem {n a k : Nat} : k ∈ but n a ↔ k < n ∧ k ≠ a := by
  unfold but
  rw [List.mem_filter, List.mem_range]
  simp
theorem but_nodup (n a : Nat) : (but n a).Nodup := (List.filter_sublist).nodup List.nodup_range
theorem fold_but {β : Type} (g : Nat → β) (a : Nat) : ∀ (xs : List Nat) (L : List β), xs.foldl (fun L k => if k = a then L else L ++ [g k]) L = L ++ ((xs.filter fun k => k != a).map g)
  | [], L => by simp
  | x :: xs, L => by
    rw [List.foldl_cons, fold_but g a xs]
    by_cases h : x = a
    · subst h; simp
    · rw [if_neg h]
      simp [h]
theorem kernel_with_ok (hw : w < 8) (hK : ∀ b ∈ K, b.length = w ∧ BdL β b) (hKl : K.length ≤ 100) (hrl : row.length = w) (hrow : BdL ρ row) (hβ : β ≤ 100000) (hρ : ρ ≤ 100000) (hB : 2 ≤ K.length → 2 * β + ρ + 4 ≤ 9000) :
    ((∀ b ∈ K, dt b row = 0) ∧ fn_kernel_with [.lst (K.map rowD), rowD row] = .ok (.lst (K.map rowD), [])) ∨
    ∃ a, a < K.length ∧ dt (K.getD a []) row ≠ 0 ∧ fn_kernel_with [.lst (K.map rowD), rowD row] = .ok (.lst (((but K.length a).map (newB K row a)).map rowD), []) := by
  have hc1 := lcG_map (bd := bName 7) (cl := [7]) (elt := kwE) (e0 := [some (.lck, .lst (K.map rowD)), some (.brw, rowD row), none, none, none, none, none, none, none]) (g := fun b : List Int => D.int (dt b row)) (φ := rowD) K fun b hb => by
    have h := hK b hb
    have hp := product_ok b row (fun x hx => (h.2 x hx).mono (by omega)) (fun x hx => (hrow x hx).mono (by omega))
    rw [dot_dt] at hp
    dsimp only [rowD] at *
    have pb := pureL_ints b
    have pr := pureL_ints row
    generalize K.map (fun r => D.tup (r.map D.int)) = KD at *
    generalize dt b row = z at *
    generalize b.map D.int = BD at *
    generalize row.map D.int = RW at *
    unfold kwE
    simp [hp, pb, pr]
  have e1 : (K.map fun b => D.int (dt b row)) = (K.map fun b => dt b row).map D.int := by rw [List.map_map]; rfl
  rw [e1] at hc1
  have hc2 := lcG_filt (bd := bTup (bCons (bName 6) (bCons (bName 8) bNil))) (cl := [6, 8]) (ce := kwC) (elt := eP (hVar 6)) (e0 := [some (.own, .lst (K.map rowD)), some (.brw, rowD row), some (.lck, .lst ((K.map fun b => dt b row).map .int)), none, none, none, none, none, none]) (c := fun k : Nat => decide ((K.map fun b => dt b row).getD k 0 ≠ 0)) (g := fun k : Nat => D.int (k : Int)) (φ := fun k : Nat => D.tup [.int (k : Int), .int ((K.map fun b => dt b row).getD k 0)]) (List.range (K.map fun b => dt b row).length) fun k hk => by
    generalize K.map rowD = KD at *
    generalize (K.map fun b => dt b row).map D.int = VD at *
    generalize (K.map fun b => dt b row).getD k 0 = v at *
    generalize rowD row = RW at *
    unfold TurnC kwC
    by_cases hv : v = 0
    · simp [hv]
    · simp [hv]
  have en1 := enum0 D.int 0 (K.map fun b => dt b row)
  rw [← en1] at hc2
  have hKL : (K.map rowD).length < 16777216 := by rw [List.length_map]; omega
  have hVL : ((K.map fun b => dt b row).map D.int).length < 16777216 := by simp; omega
  have hEL : (enumD 0 ((K.map fun b => dt b row).map D.int)).length < 16777216 := by rw [enumD_length]; exact hVL
  rcases chosen_at (K.map fun b => dt b row) with ⟨hz, hch⟩ | ⟨a, rest, ha, hva, hch⟩
  · refine .inl ⟨fun b hb => hz _ (List.mem_map.mpr ⟨b, hb, rfl⟩), ?_⟩
    rw [hch] at hc2
    clear hz hch en1 hK e1
    simp only [List.map_nil] at hc2
    generalize K.map rowD = KD at *
    generalize (K.map fun b => dt b row).map D.int = VD at *
    generalize hED : enumD 0 VD = ED at *
    generalize rowD row = RW at *
    simp [fn_kernel_with, kw_eq, hKL, hVL, hEL, hED, hc1, hc2]
  · rw [List.length_map] at ha
    have hva2 : dt (K.getD a []) row ≠ 0 := by
      have e : (K.map fun b => dt b row).getD a 0 = dt (K.getD a []) row := by
        rw [getD_lt (by rw [List.length_map]; exact ha), List.getElem_map, getD_lt ha]
      rw [e] at hva
      exact hva
    rw [hch] at hc2
    have hf := (forD_foldI (bd := bTup (bCons (bName 6) (bCons (bName 7) bNil))) (cl := [6, 7]) (body := kwB) (st := fun L : List (List Int) => kwS K row (K.map fun b => dt b row) ((a :: rest).map fun k : Nat => (k : Int)) a L) (f := fun L k => if k = a then L else L ++ [newB K row a k]) (φ := fun k : Nat => D.tup [.int (k : Int), rowD (K.getD k [])]) (I := fun j L => L.length ≤ j) (List.range K.length) 0 [] (Nat.le_refl _) fun j L k hk hI => by
      obtain ⟨rfl, hkn⟩ := range_at hk
      rw [Nat.zero_add] at hI ⊢
      refine ⟨?_, kw_turn hw hK hrow hβ hρ _ (fun hne => hB (by omega)) ha hkn L (by omega)⟩
      by_cases hka : k = a
      · rw [if_pos hka]; omega
      · rw [if_neg hka, List.length_append]; simp; omega).1
    rw [fold_but, List.nil_append] at hf
    replace hf : forD (bTup (bCons (bName 6) (bCons (bName 7) bNil))) [6, 7] kwB ((List.range K.length).map fun k : Nat => D.tup [.int (k : Int), rowD (K.getD k [])]) (kwS K row (K.map fun b => dt b row) ((a :: rest).map fun k : Nat => (k : Int)) a []) = .ok (.nx (kwS K row (K.map fun b => dt b row) ((a :: rest).map fun k : Nat => (k : Int)) a ((but K.length a).map (newB K row a)))) := hf
    refine .inr ⟨a, ha, hva2, ?_⟩
    generalize (but K.length a).map (newB K row a) = L at *
    clear hva2 hva hch hK e1
    have en2 := enum0 rowD [] K
    rw [← en2] at hf
    have hEL2 : (enumD 0 (K.map rowD)).length < 16777216 := by rw [enumD_length]; exact hKL
    have hne := eq_nilI ((a :: rest).map fun k : Nat => (k : Int))
    rw [List.map_map] at hne
    have hne2 : gEqB (.lst ((a :: rest).map fun k : Nat => D.int (k : Int))) (.lst []) = some false := by
      refine hne.trans ?_
      simp
    have hat0 : atI ((a :: rest).map fun k : Nat => D.int (k : Int)) 0 = some (.int (a : Int)) := at0 _ _
    dsimp only [kwS] at hf
    clear en1
    generalize (K.map fun b => dt b row).map D.int = VD at *
    rw [List.map_map] at hf
    have ecomp : (D.int ∘ fun k : Nat => (k : Int)) = fun k : Nat => D.int (k : Int) := rfl
    rw [ecomp] at hf
    simp only [List.map_nil] at hf
    generalize ((a :: rest).map fun k : Nat => D.int (k : Int)) = CH at *
    clear en2 hne
    generalize K.map rowD = KD at *
    generalize hED : enumD 0 VD = ED at *
    generalize hED2 : enumD 0 KD = ED2 at *
    generalize rowD row = RW at *
    generalize L.map rowD = LD at *
    simp [fn_kernel_with, kw_eq, hKL, hVL, hEL, hED, hED2, hc1, hc2, hne2, hat0, hf]
end
end DL

namespace DL
open PySem PySem.Spec PyProof.Rows L2
def be (ρ : Nat) : Nat → Nat
  | 0 => 1
  | j + 1 => 2 * be ρ j + ρ + 4
theorem be_mono (ρ : Nat) : ∀ {i j : Nat}, i ≤ j → be ρ i ≤ be ρ j := fun {i j} h => by
  induction j with
  | zero => rw [show i = 0 by omega]; exact Nat.le_refl _
  | succ j ih =>
    by_cases e : i = j + 1
    · rw [e]; exact Nat.le_refl _
    · have := ih (by omega)
      show be ρ i ≤ 2 * be ρ j + ρ + 4
      omega
/-- v is made of the rows, taken some times -/
def Comb (w : Nat) (R : List (List Int)) (v : Nat → Int) : Prop := ∃ cs : List Int, cs.length = R.length ∧ ∀ i, i < w → v i = dt cs (R.map fun r => r.getD i 0)
theorem Comb.snoc {w : Nat} {R : List (List Int)} {r : List Int} {u v : Nat → Int} {m : Int} (h : Comb w R u) (e : ∀ i, i < w → v i = u i + m * r.getD i 0) : Comb w (R ++ [r]) v := by
  obtain ⟨cs, h1, h2⟩ := h
  refine ⟨cs ++ [m], by simp [h1], fun i hi => ?_⟩
  rw [List.map_append, List.map_cons, List.map_nil, dt_snoc _ _ _ _ (by rw [List.length_map]; exact h1), ← h2 i hi]
  exact e i hi
theorem Comb.lin {w : Nat} {R : List (List Int)} {u v x : Nat → Int} {a b : Int} (hu : Comb w R u) (hv : Comb w R v) (e : ∀ i, i < w → x i = u i * a + v i * b) : Comb w R x := by
  obtain ⟨c1, l1, e1⟩ := hu
  obtain ⟨c2, l2, e2⟩ := hv
  refine ⟨mix c1 a c2 b, by rw [mix_len]; omega, fun i hi => ?_⟩
  rw [dt_mix _ _ _ _ _ (l1.trans l2.symm), ← e1 i hi, ← e2 i hi]
  exact e i hi
theorem Comb.split {w : Nat} {R : List (List Int)} {r : List Int} {v : Nat → Int} (h : Comb w (R ++ [r]) v) : ∃ (u : Nat → Int) (m : Int), Comb w R u ∧ ∀ i, i < w → v i = u i + m * r.getD i 0 := by
  obtain ⟨cs, h1, h2⟩ := h
  have hn : cs ≠ [] := fun e => by rw [e] at h1; simp at h1
  obtain ⟨ds, m, rfl⟩ : ∃ ds m, cs = ds ++ [m] := ⟨cs.dropLast, cs.getLast hn, (List.dropLast_concat_getLast hn).symm⟩
  have hl : ds.length = R.length := by simpa using h1
  refine ⟨fun i => dt ds (R.map fun r => r.getD i 0), m, ⟨ds, hl, fun _ _ => rfl⟩, fun i hi => ?_⟩
  rw [h2 i hi, List.map_append, List.map_cons, List.map_nil, dt_snoc _ _ _ _ (by rw [List.length_map]; exact hl)]
theorem Comb.congr {w : Nat} {R : List (List Int)} {u v : Nat → Int} (h : Comb w R u) (e : ∀ i, i < w → v i = u i) : Comb w R v := by
  obtain ⟨cs, h1, h2⟩ := h
  exact ⟨cs, h1, fun i hi => (e i hi).trans (h2 i hi)⟩
theorem Comb.zero (w : Nat) (R : List (List Int)) : Comb w R fun _ => 0 := ⟨List.replicate R.length 0, by simp, fun i _ => (dt_zeros _ _).symm⟩
/-! ### what is spanned -/
def Sp (w : Nat) (P : List (List Int)) (v : Nat → Int) : Prop := ∃ t : Int, t ≠ 0 ∧ Comb w P fun i => t * v i
theorem Sp.congr {w : Nat} {P : List (List Int)} {u v : Nat → Int} (h : Sp w P u) (e : ∀ i, i < w → v i = u i) : Sp w P v := by
  obtain ⟨t, ht, hc⟩ := h
  exact ⟨t, ht, hc.congr fun i hi => by rw [e i hi]⟩
theorem sp_snoc {w : Nat} {P : List (List Int)} {r : List Int} {v : Nat → Int} : Sp w (P ++ [r]) v ↔ ∃ t m : Int, t ≠ 0 ∧ Sp w P fun i => t * v i - m * r.getD i 0 := by
  constructor
  · rintro ⟨t, ht, hc⟩
    obtain ⟨u, m, hu, e⟩ := hc.split
    exact ⟨t, m, ht, 1, by decide, hu.congr fun i hi => by
      show 1 * (t * v i - m * r.getD i 0) = u i
      have e : t * v i = _ := e i hi
      omega⟩
  · rintro ⟨t, m, ht, s, hs, hc⟩
    refine ⟨s * t, Int.mul_ne_zero hs ht, hc.snoc (m := s * m) fun i hi => ?_⟩
    rw [Int.mul_sub, Int.mul_assoc, Int.mul_assoc]
    omega
theorem sp_ext {w : Nat} {P P' : List (List Int)} {r : List Int} (h : ∀ v, Sp w P v ↔ Sp w P' v) (v : Nat → Int) : Sp w (P ++ [r]) v ↔ Sp w (P' ++ [r]) v := by
  rw [sp_snoc, sp_snoc]
  exact ⟨fun ⟨t, m, ht, q⟩ => ⟨t, m, ht, (h _).mp q⟩, fun ⟨t, m, ht, q⟩ => ⟨t, m, ht, (h _).mpr q⟩⟩
theorem sp_zero {w : Nat} (P : List (List Int)) {v : Nat → Int} (h : ∀ i, i < w → v i = 0) : Sp w P v := ⟨1, by decide, (Comb.zero w P).congr fun i hi => by rw [h i hi, Int.mul_zero]⟩
open Classical in
/-- how many rows no span of the rows ahead holds -/
noncomputable def nI (w : Nat) : List (List Int) → List (List Int) → Nat
  | _, [] => 0
  | P, r :: L => (if Sp w P (fun i => r.getD i 0) then 0 else 1) + nI w (P ++ [r]) L
theorem nI_eq {w : Nat} : ∀ (L P P' : List (List Int)), (∀ v, Sp w P v ↔ Sp w P' v) → nI w P L = nI w P' L
  | [], _, _, _ => rfl
  | r :: L, P, P', h => by
    unfold nI
    rw [nI_eq L _ _ (sp_ext h)]
    by_cases q : Sp w P (fun i => r.getD i 0)
    · rw [if_pos q, if_pos ((h _).mp q)]
    · rw [if_neg q, if_neg (fun z => q ((h _).mpr z))]
theorem nI_snoc {w : Nat} {r : List Int} : ∀ (L P : List (List Int)), (Sp w (P ++ L) (fun i => r.getD i 0) → nI w P (L ++ [r]) = nI w P L) ∧ (¬ Sp w (P ++ L) (fun i => r.getD i 0) → nI w P (L ++ [r]) = nI w P L + 1)
  | [], P => by
    rw [List.append_nil, List.nil_append]
    refine ⟨fun h => ?_, fun h => ?_⟩
    · unfold nI; rw [if_pos h]; rfl
    · unfold nI; rw [if_neg h]; rfl
  | q :: L, P => by
    obtain ⟨h1, h2⟩ := nI_snoc L (P ++ [q])
    rw [List.append_assoc] at h1 h2
    refine ⟨fun h => ?_, fun h => ?_⟩
    · rw [List.cons_append]
      unfold nI
      rw [h1 h]
    · rw [List.cons_append]
      unfold nI
      rw [h2 h]
      omega
theorem nI_all {w : Nat} : ∀ (L P : List (List Int)), (∀ i, i < L.length → ¬ Sp w (P ++ L.take i) (fun k => (L.getD i []).getD k 0)) → nI w P L = L.length
  | [], _, _ => rfl
  | r :: L, P, h => by
    have h0 := h 0 (by simp)
    rw [List.take_zero, List.append_nil] at h0
    have h0 : ¬ Sp w P (fun i => r.getD i 0) := h0
    unfold nI
    rw [if_neg h0, nI_all L (P ++ [r]) fun i hi => ?_]
    · rw [List.length_cons]; omega
    · have := h (i + 1) (by simpa using hi)
      rw [List.take_succ_cons, ← List.singleton_append, ← List.append_assoc] at this
      exact this
/-! ### rows of 0s count nothing -/
theorem nI_filter {w : Nat} {c : List Int → Bool} (hc : ∀ r, c r = false → ∀ i, r.getD i 0 = 0) : ∀ (L P : List (List Int)), nI w P (L.filter c) = nI w P L
  | [], _ => rfl
  | r :: L, P => by
    cases h : c r with
    | true =>
      rw [List.filter_cons_of_pos h]
      unfold nI
      rw [nI_filter hc L]
    | false =>
      have hz := hc r h
      rw [List.filter_cons_of_neg (by rw [h]; decide), nI_filter hc L]
      have e : nI w P (r :: L) = nI w (P ++ [r]) L := by
        conv => lhs; unfold nI
        rw [if_pos (sp_zero P fun i _ => hz i)]
        omega
      rw [e]
      refine nI_eq L _ _ fun v => ⟨fun h => ?_, fun h => ?_⟩
      · rw [sp_snoc]
        exact ⟨1, 0, by decide, h.congr fun i hi => by omega⟩
      · rw [sp_snoc] at h
        obtain ⟨t, m, ht, s, hs, hcb⟩ := h
        exact ⟨s * t, Int.mul_ne_zero hs ht, hcb.congr fun i hi => by
          show s * t * v i = s * (t * v i - m * r.getD i 0)
          rw [hz i, Int.mul_zero, Int.sub_zero, Int.mul_assoc]⟩
/-! ### a row put to the others -/
def lowL (top : List Int) (p : Nat) (r : List Int) : List Int := (List.range r.length).map fun k => r.getD k 0 * top.getD p 0 - top.getD k 0 * r.getD p 0
theorem lowL_len (top : List Int) (p : Nat) (r : List Int) : (lowL top p r).length = r.length := by unfold lowL; simp
theorem lowL_at {top : List Int} {p i : Nat} {r : List Int} (h : i < r.length) : (lowL top p r).getD i 0 = r.getD i 0 * top.getD p 0 - top.getD i 0 * r.getD p 0 := by
  unfold lowL
  rw [List.getD_eq_getElem?_getD, List.getElem?_map, List.getElem?_range h]
  rfl
theorem dt_col3 (f g : List Int → Int) (c e : Int) : ∀ (ns : List Int) (rows : List (List Int)), dt ns (rows.map fun o => f o * c - e * g o) = dt ns (rows.map f) * c - e * dt ns (rows.map g)
  | [], rows => by show (0 : Int) = 0 * c - e * 0; simp
  | x :: ns, [] => by show (0 : Int) = 0 * c - e * 0; simp
  | x :: ns, o :: rows => by
    rw [List.map_cons, List.map_cons, List.map_cons, dt, dt, dt, dt_col3 f g c e ns rows, Int.mul_sub, Int.mul_add, Int.add_mul, ← Int.mul_assoc, ← Int.mul_assoc, ← Int.mul_assoc, Int.mul_comm x e]
    omega
section
variable {w p : Nat} {top : List Int}
theorem sp_low (hp : top.getD p 0 ≠ 0) (hpw : p < w) {P : List (List Int)} (hP : ∀ r ∈ P, r.length = w) {v : List Int} (hv : v.length = w) : Sp w (top :: P) (fun i => v.getD i 0) ↔ Sp w (P.map (lowL top p)) fun i => (lowL top p v).getD i 0 := by
  have col : ∀ (cs : List Int) (i : Nat), i < w → dt cs ((P.map (lowL top p)).map fun r => r.getD i 0) = dt cs (P.map fun r => r.getD i 0) * top.getD p 0 - top.getD i 0 * dt cs (P.map fun r => r.getD p 0) := fun cs i hi => by
    rw [← dt_col3 (fun r => r.getD i 0) (fun r => r.getD p 0), List.map_map]
    congr 1
    refine List.map_congr_left fun r hr => ?_
    show (lowL top p r).getD i 0 = _
    rw [lowL_at (by rw [hP r hr]; exact hi)]
  constructor
  · rintro ⟨t, ht, cs, h1, h2⟩
    cases cs with
    | nil => simp at h1
    | cons c cs =>
      refine ⟨t, ht, cs, by simpa using h1, fun i hi => ?_⟩
      have e1 : t * v.getD i 0 = _ := h2 i hi
      have e2 : t * v.getD p 0 = _ := h2 p hpw
      rw [List.map_cons, dt] at e1 e2
      show t * (lowL top p v).getD i 0 = _
      rw [col cs i hi, lowL_at (by rw [hv]; exact hi)]
      generalize dt cs (P.map fun r => r.getD i 0) = Si at *
      generalize dt cs (P.map fun r => r.getD p 0) = Sq at *
      have f1 : Si = t * v.getD i 0 - c * top.getD i 0 := by omega
      have f2 : Sq = t * v.getD p 0 - c * top.getD p 0 := by omega
      rw [f1, f2, Int.mul_sub, Int.sub_mul, Int.mul_sub, Int.mul_assoc, ← Int.mul_assoc t, Int.mul_comm (c * top.getD i 0), ← Int.mul_assoc (top.getD i 0) t, Int.mul_comm (top.getD i 0) t, Int.mul_assoc t (top.getD i 0), ← Int.mul_assoc (top.getD p 0), Int.mul_comm (top.getD p 0) c, ← Int.mul_assoc (top.getD i 0) c, Int.mul_comm (top.getD i 0) c, Int.mul_assoc c, Int.mul_assoc c, Int.mul_comm (top.getD p 0) (top.getD i 0), Int.mul_assoc t (v.getD i 0)]
      omega
  · rintro ⟨t, ht, cs, h1, h2⟩
    refine ⟨t * top.getD p 0, Int.mul_ne_zero ht hp, (t * v.getD p 0 - dt cs (P.map fun r => r.getD p 0)) :: cs.map (top.getD p 0 * ·), by simpa using h1, fun i hi => ?_⟩
    have e1 : t * (lowL top p v).getD i 0 = _ := h2 i hi
    rw [col cs i hi, lowL_at (by rw [hv]; exact hi)] at e1
    show t * top.getD p 0 * v.getD i 0 = _
    rw [List.map_cons, dt, dt_smul]
    generalize dt cs (P.map fun r => r.getD i 0) = Si at *
    generalize dt cs (P.map fun r => r.getD p 0) = Sq at *
    rw [Int.mul_sub, ← Int.mul_assoc] at e1
    rw [Int.sub_mul, Int.mul_assoc t, Int.mul_comm (top.getD p 0) (v.getD i 0), ← Int.mul_assoc, Int.mul_comm (top.getD p 0) Si, Int.mul_comm Sq, Int.mul_assoc t (v.getD p 0), Int.mul_comm (v.getD p 0) (top.getD i 0)]
    omega
theorem nI_low (hp : top.getD p 0 ≠ 0) (hpw : p < w) : ∀ (L P : List (List Int)), (∀ r ∈ P, r.length = w) → (∀ r ∈ L, r.length = w) → nI w (top :: P) L = nI w (P.map (lowL top p)) (L.map (lowL top p))
  | [], _, _, _ => rfl
  | r :: L, P, hP, hL => by
    have hr := hL r List.mem_cons_self
    have ih := nI_low hp hpw L (P ++ [r]) (fun q hq => by
      rcases List.mem_append.mp hq with z | z
      · exact hP q z
      · rw [List.mem_singleton.mp z]; exact hr) fun q hq => hL q (List.mem_cons_of_mem _ hq)
    rw [List.map_cons]
    unfold nI
    rw [List.map_append, List.map_cons, List.map_nil] at ih
    have ih : nI w (top :: P ++ [r]) L = _ := ih
    rw [ih]
    have e := sp_low hp hpw hP hr
    by_cases q : Sp w (top :: P) (fun i => r.getD i 0)
    · rw [if_pos q, if_pos (e.mp q)]
    · rw [if_neg q, if_neg (fun z => q (e.mpr z))]
theorem nI_top (hp : top.getD p 0 ≠ 0) (hpw : p < w) {rest : List (List Int)} (hL : ∀ r ∈ rest, r.length = w) : nI w [] (top :: rest) = 1 + nI w [] (rest.map (lowL top p)) := by
  have h0 : ¬ Sp w [] (fun i => top.getD i 0) := fun ⟨t, ht, cs, h1, h2⟩ => by
    have := h2 p hpw
    rw [List.map_nil, dt_nil] at this
    rcases Int.mul_eq_zero.mp this with q | q
    · exact ht q
    · exact hp q
  have e := nI_low hp hpw rest [] (fun r h => (by cases h)) hL
  have e0 : nI w [] (top :: rest) = 1 + nI w [top] rest := by
    conv => lhs; unfold nI
    rw [if_neg h0]; rfl
  rw [e0, e, List.map_nil]
end
/-! ### products -/
theorem dt_allr : ∀ (a l : List Int), (∀ x ∈ l, x = 0) → dt a l = 0
  | [], l, _ => by cases l <;> rfl
  | a :: as, [], _ => dt_nil _
  | a :: as, b :: bs, h => by rw [dt, h b List.mem_cons_self, dt_allr as bs fun x hx => h x (List.mem_cons_of_mem _ hx)]; simp
theorem comb_orth {w : Nat} {R : List (List Int)} {t : Int} {v b : List Int} (hR : ∀ r ∈ R, r.length = w) (hv : v.length = w) (h : Comb w R fun i => t * v.getD i 0) (hb : ∀ r ∈ R, dt b r = 0) : t * dt b v = 0 := by
  obtain ⟨cs, h1, h2⟩ := h
  have e : total w (R.zip cs) = v.map (t * ·) := by
    refine ext_getD (by rw [total_len hR cs, List.length_map, hv]) fun i hi => ?_
    rw [total_len hR cs] at hi
    rw [total_getD hR cs hi, getD_smul]
    exact (h2 i hi).symm
  have q := total_dt hR cs b
  rw [e, dt_smul, dt_comm v b, dt_allr cs _ fun x hx => ?_] at q
  · exact q
  · obtain ⟨r, hr, rfl⟩ := List.mem_map.mp hx
    rw [dt_comm]; exact hb r hr
structure KE (rows : List (List Int)) (w ρ : Nat) (K : List (List Int)) : Prop where
  len : K.length ≤ w
  bd : ∀ b ∈ K, b.length = w ∧ BdL (be ρ (w - K.length)) b
  or : ∀ r ∈ rows, ∀ b ∈ K, dt b r = 0
  cb : ∀ v : List Int, v.length = w → (∀ b ∈ K, dt b v = 0) → Sp w rows fun i => v.getD i 0
  cnt : K.length + nI w [] rows = w
  pv : ∃ f : Nat → Nat, ∀ i, i < K.length → f i < w ∧ (K.getD i []).getD (f i) 0 ≠ 0 ∧ ∀ m, m < K.length → m ≠ i → (K.getD m []).getD (f i) 0 = 0
theorem range_map_at {α : Type} {n i : Nat} {g : Nat → α} {d : α} (h : i < n) : ((List.range n).map g).getD i d = g i := by
  rw [List.getD_eq_getElem?_getD, List.getElem?_map, List.getElem?_range h]; rfl
theorem unit_KE (w ρ : Nat) : KE [] w ρ ((List.range w).map fun p => unitL w p) where
  len := by simp
  bd := fun b hb => by
    obtain ⟨p, hp, rfl⟩ := List.mem_map.mp hb
    refine ⟨unit_len (List.mem_range.mp hp), ?_⟩
    have e : w - ((List.range w).map fun p => unitL w p).length = 0 := by simp
    rw [e]
    exact unit_bd
  or := fun r hr => (by cases hr)
  cb := fun v hv h => sp_zero _ fun i hi => by
    have := h _ (List.mem_map.mpr ⟨i, List.mem_range.mpr hi, rfl⟩)
    rw [dt_unit w i v hi hv] at this
    exact this
  cnt := by simp [nI]
  pv := ⟨id, fun i hi => by
    rw [List.length_map, List.length_range] at hi
    refine ⟨hi, ?_, fun m hm hne => ?_⟩
    · rw [range_map_at hi, unit_getD hi]; simp
    · rw [List.length_map, List.length_range] at hm
      rw [range_map_at hm, unit_getD hm, if_neg (fun z => hne z.symm)]⟩
section
variable {rows K : List (List Int)} {row : List Int} {w ρ : Nat}
theorem KE.same (h : KE rows w ρ K) (hrl : row.length = w) (hz : ∀ b ∈ K, dt b row = 0) : KE (rows ++ [row]) w ρ K where
  len := h.len
  bd := h.bd
  or := fun r hr b hb => by
    rcases List.mem_append.mp hr with q | q
    · exact h.or r q b hb
    · rw [List.mem_singleton.mp q]; exact hz b hb
  cb := fun v hv hb => by
    rw [sp_snoc]
    exact ⟨1, 0, by decide, (h.cb v hv hb).congr fun i hi => by omega⟩
  cnt := by
    have := (nI_snoc (w := w) (r := row) rows []).1 (by rw [List.nil_append]; exact h.cb row hrl hz)
    rw [this]; exact h.cnt
  pv := h.pv
theorem KE.less (h : KE rows w ρ K) (hw : w < 8) (hR : ∀ r ∈ rows, r.length = w) (hrl : row.length = w) (hrow : BdL ρ row) {a : Nat} (ha : a < K.length) (hd : dt (K.getD a []) row ≠ 0) : KE (rows ++ [row]) w ρ ((but K.length a).map (newB K row a)) := by
  have hKl := h.len
  have hlen : ((but K.length a).map (newB K row a)).length = K.length - 1 := by rw [List.length_map, but_len ha]
  have kl : ∀ k, k < K.length → (K.getD k []).length = w := fun k hk => by
    rw [getD_lt hk]; exact (h.bd _ (List.getElem_mem hk)).1
  have nl : ∀ k, k < K.length → (newB K row a k).length = w := fun k hk => by
    unfold newB
    rw [low_len, mix_len, kl k hk, kl a ha, Nat.min_self]
  have spec : ∀ k, k < K.length → ∃ c : Int, 1 ≤ c ∧ (∀ v, c * dt (newB K row a k) v = dt (K.getD k []) v * dt (K.getD a []) row + dt (K.getD a []) v * (0 - dt (K.getD k []) row)) ∧ ∀ i, i < w → c * (newB K row a k).getD i 0 = (K.getD k []).getD i 0 * dt (K.getD a []) row + (K.getD a []).getD i 0 * (0 - dt (K.getD k []) row) := fun k hk => by
    obtain ⟨c, h1, h2⟩ := low_spec (mix (K.getD k []) (dt (K.getD a []) row) (K.getD a []) (0 - dt (K.getD k []) row))
    refine ⟨c, h1, fun v => ?_, fun i hi => ?_⟩
    · rw [← dt_mix _ _ v _ _ ((kl k hk).trans (kl a ha).symm), ← dt_smul]
      unfold newB
      rw [← h2]
    · rw [← mix_getD _ _ _ _ ((kl k hk).trans (kl a ha).symm) i (by rw [kl k hk]; exact hi), ← getD_smul]
      unfold newB
      rw [← h2]
  have pos0 : ∀ c x : Int, 1 ≤ c → c * x = 0 → x = 0 := fun c x h1 h2 => by
    rcases Int.mul_eq_zero.mp h2 with e | e
    · omega
    · exact e
  have hmem : ∀ b, b ∈ (but K.length a).map (newB K row a) → ∃ k, k < K.length ∧ k ≠ a ∧ b = newB K row a k := fun b hb => by
    obtain ⟨k, hk, rfl⟩ := List.mem_map.mp hb
    exact ⟨k, (but_mem.mp hk).1, (but_mem.mp hk).2, rfl⟩
  refine ⟨by rw [hlen]; omega, fun b hb => ?_, fun r hr b hb => ?_, fun v hv hb => ?_, ?_, ?_⟩
  · obtain ⟨k, hk, _, rfl⟩ := hmem b hb
    refine ⟨nl k hk, ?_⟩
    rw [hlen, show w - (K.length - 1) = (w - K.length) + 1 from by omega]
    exact low_bd (mixK_bd hw h.bd hrow ha hk)
  · obtain ⟨k, hk, _, rfl⟩ := hmem b hb
    obtain ⟨c, h1, h2, _⟩ := spec k hk
    rcases List.mem_append.mp hr with q | q
    · refine pos0 c _ h1 ?_
      have e1 := h.or r q _ (List.getElem_mem hk)
      have e2 := h.or r q _ (List.getElem_mem ha)
      rw [← getD_lt (d := []) hk] at e1
      rw [← getD_lt (d := []) ha] at e2
      rw [h2, e1, e2, Int.zero_mul, Int.zero_mul]; rfl
    · rw [List.mem_singleton.mp q]
      refine pos0 c _ h1 ?_
      rw [h2, Int.mul_sub, Int.mul_zero, Int.mul_comm]
      omega
  · have hvr : v.length = row.length := hv.trans hrl.symm
    have q := h.cb (mix v (dt (K.getD a []) row) row (0 - dt (K.getD a []) v)) (by rw [mix_len, hvr, Nat.min_self, hrl]) fun b hbm => by
      obtain ⟨k, hk, rfl⟩ := List.mem_iff_getElem.mp hbm
      rw [← getD_lt (d := []) hk, dt_comm, dt_mix _ _ _ _ _ hvr, dt_comm v, dt_comm row]
      by_cases e : k = a
      · subst e
        rw [Int.mul_sub, Int.mul_zero, Int.mul_comm]
        omega
      · obtain ⟨c, h1, h2, _⟩ := spec k hk
        have z := hb _ (List.mem_map.mpr ⟨k, but_mem.mpr ⟨hk, e⟩, rfl⟩)
        have z2 := h2 v
        rw [z, Int.mul_zero, Int.mul_sub, Int.mul_zero] at z2
        rw [Int.mul_sub, Int.mul_zero, Int.mul_comm (dt (K.getD k []) row)]
        omega
    rw [sp_snoc]
    refine ⟨dt (K.getD a []) row, dt (K.getD a []) v, hd, q.congr fun i hi => ?_⟩
    rw [mix_getD v row _ _ hvr i (by rw [hv]; exact hi), Int.mul_sub, Int.mul_zero, Int.mul_comm (v.getD i 0), Int.mul_comm (row.getD i 0)]
    omega
  · have hn : ¬ Sp w ([] ++ rows) (fun i => row.getD i 0) := fun ⟨t, ht, hc⟩ => by
      rw [List.nil_append] at hc
      have z := comb_orth (b := K.getD a []) hR hrl hc fun r hr => by
        have := h.or r hr _ (List.getElem_mem ha)
        rw [← getD_lt (d := []) ha] at this
        exact this
      rcases Int.mul_eq_zero.mp z with q | q
      · exact ht q
      · exact hd q
    have := (nI_snoc (w := w) (r := row) rows []).2 hn
    have := h.cnt
    rw [hlen]
    omega
  · obtain ⟨f, hf⟩ := h.pv
    have at_ : ∀ i, i < K.length - 1 → ∃ k, (but K.length a)[i]? = some k ∧ k < K.length ∧ k ≠ a ∧ ((but K.length a).map (newB K row a)).getD i [] = newB K row a k := fun i hi => by
      have hi2 : i < (but K.length a).length := by rw [but_len ha]; exact hi
      have hm := but_mem.mp (List.getElem_mem hi2)
      refine ⟨_, List.getElem?_eq_getElem hi2, hm.1, hm.2, ?_⟩
      rw [List.getD_eq_getElem?_getD, List.getElem?_map, List.getElem?_eq_getElem hi2]; rfl
    refine ⟨fun i => f ((but K.length a).getD i 0), fun i hi => ?_⟩
    rw [hlen] at hi
    obtain ⟨k, k1, k2, k3, k4⟩ := at_ i hi
    have kk : (but K.length a).getD i 0 = k := by rw [List.getD_eq_getElem?_getD, k1]; rfl
    dsimp only
    rw [kk, k4]
    obtain ⟨f1, f2, f3⟩ := hf k k2
    have fa := f3 a ha (fun z => k3 z.symm)
    refine ⟨f1, fun z => ?_, fun m hm hne => ?_⟩
    · obtain ⟨c, h1, _, h2⟩ := spec k k2
      have e := h2 (f k) f1
      rw [z, fa, Int.mul_zero, Int.zero_mul, Int.add_zero] at e
      rcases Int.mul_eq_zero.mp e.symm with q | q
      · exact f2 q
      · exact hd q
    · rw [hlen] at hm
      obtain ⟨k', k1', k2', k3', k4'⟩ := at_ m hm
      rw [k4']
      have hkk : k' ≠ k := fun z => by
        subst z
        have hi2 : i < (but K.length a).length := by rw [but_len ha]; exact hi
        have hm2 : m < (but K.length a).length := by rw [but_len ha]; exact hm
        rw [List.getElem?_eq_getElem hi2] at k1
        rw [List.getElem?_eq_getElem hm2] at k1'
        have e := (Option.some.inj k1).trans (Option.some.inj k1').symm
        exact hne ((List.getElem_inj (but_nodup _ _)).mp e).symm
      obtain ⟨c, h1, _, h2⟩ := spec k' k2'
      refine pos0 c _ h1 ?_
      rw [h2 (f k) f1, fa, f3 k' k2' hkk, Int.zero_mul, Int.zero_mul]; rfl
/-- the rows of a kernel: none is spanned by those ahead -/
theorem KE.free (h : KE rows w ρ K) : nI w [] K = K.length := by
  refine nI_all K [] fun i hi ⟨t, ht, cs, h1, h2⟩ => ?_
  rw [List.nil_append] at h1 h2
  obtain ⟨f, hf⟩ := h.pv
  obtain ⟨f1, f2, f3⟩ := hf i hi
  have e := h2 (f i) f1
  rw [dt_allr cs _ fun x hx => ?_] at e
  · rcases Int.mul_eq_zero.mp e with q | q
    · exact ht q
    · exact f2 q
  · obtain ⟨b, hb, rfl⟩ := List.mem_map.mp hx
    obtain ⟨m, hm, rfl⟩ := List.mem_take_iff_getElem.mp hb
    have hm2 : m < K.length := by omega
    have := f3 m hm2 (by omega)
    rw [getD_lt hm2] at this
    exact this
end
noncomputable def keE : DEnv → Out (D × DEnv) := (eK (.fin [.pur (hVar 1), .pur (hVar 4)]) (callK [.b, .b] fn_unit))
noncomputable def keB : Stm := (sSeq (sSet 2 (eK (.own (eMov 2) (.fin [.pur (hVar 3)])) (callK [.mv, .b] fn_kernel_with)))
  sNop)
theorem ke_eq : b_kernel = (sSeq (sSet 2 (lcE [.pur (hVar 1)] mkRange1 (bName 4) eYes keE [4]))
  (sSeq (sFor [.plc 0 (pVar 0)] mkSeq (bName 3) [3] keB)
  (sSeq (sRet (eMov 2))
  sNop))) := rfl
theorem kernel_ok {rows : List (List Int)} {w ρ : Nat} (hw : w < 8) (hr : ∀ r ∈ rows, r.length = w ∧ BdL ρ r) (hl : rows.length ≤ 1000) (hρ : ρ ≤ 100000) (hB : 2 ≤ w → be ρ (w - 1) ≤ 9000) (hB2 : be ρ w ≤ 100000) : ∃ K, fn_kernel [.lst (rows.map rowD), .int (w : Int)] = .ok (.lst (K.map rowD), []) ∧ KE rows w ρ K := by
  have hc := lcG_map (bd := bName 4) (cl := [4]) (elt := keE) (e0 := [some (.brw, .lst (rows.map rowD)), some (.brw, .int (w : Int)), none, none, none]) (g := fun p : Nat => rowD (unitL w p)) (φ := fun p : Nat => D.int (p : Int)) (List.range w) fun p hp => by
    have hu := unit_ok (List.mem_range.mp hp) (by omega : w ≤ 500)
    generalize rows.map rowD = RD at *
    generalize rowD (unitL w p) = U at *
    unfold keE
    simp [hu]
  have e1 : ((List.range w).map fun p : Nat => rowD (unitL w p)) = ((List.range w).map fun p => unitL w p).map rowD := by rw [List.map_map]; rfl
  rw [e1] at hc
  obtain ⟨K, hK, hf⟩ := forD_exI (bd := bName 3) (cl := [3]) (body := keB) (st := fun K : List (List Int) => [some (.brw, .lst (rows.map rowD)), some (.brw, .int (w : Int)), some (.own, .lst (K.map rowD)), none, none]) (φ := rowD) (I := fun j K => KE (rows.take j) w ρ K) rows 0 _ (unit_KE w ρ) fun j K row hx hI => by
    rw [Nat.zero_add] at hI ⊢
    have hj : j < rows.length := (List.getElem?_eq_some_iff.mp hx).1
    have hrow := hr row (List.mem_of_getElem? hx)
    have htk : rows.take (j + 1) = rows.take j ++ [row] := by
      rw [List.take_succ, hx]; rfl
    have hKl := hI.len
    have hbb : be ρ (w - K.length) ≤ 100000 := Nat.le_trans (be_mono ρ (by omega)) hB2
    have turn : ∀ K2 : List (List Int), fn_kernel_with [.lst (K.map rowD), rowD row] = .ok (.lst (K2.map rowD), []) → Turn1 (bName 3) [3] keB (rowD row) [some (.brw, .lst (rows.map rowD)), some (.brw, .int (w : Int)), some (.own, .lst (K.map rowD)), none, none] [some (.brw, .lst (rows.map rowD)), some (.brw, .int (w : Int)), some (.own, .lst (K2.map rowD)), none, none] := fun K2 k1 => by
      dsimp only [rowD] at *
      have pr := pureL_ints row
      generalize K.map (fun r => D.tup (r.map D.int)) = KD at *
      generalize K2.map (fun r => D.tup (r.map D.int)) = KD2 at *
      generalize rows.map (fun r => D.tup (r.map D.int)) = RD at *
      generalize row.map D.int = RW at *
      unfold Turn1 keB
      simp [k1, pr]
    rw [htk]
    rcases kernel_with_ok (K := K) (row := row) hw hI.bd (by omega) hrow.1 hrow.2 hbb hρ (fun h2 => by
      have q := hB (by omega)
      have m : be ρ ((w - K.length) + 1) ≤ be ρ (w - 1) := be_mono ρ (by omega)
      show be ρ ((w - K.length) + 1) ≤ 9000
      omega) with ⟨hz, k1⟩ | ⟨a, ha, hd, k1⟩
    · exact ⟨K, hI.same hrow.1 hz, turn K k1⟩
    · exact ⟨_, hI.less hw (fun r hr2 => (hr r (List.mem_of_mem_take hr2)).1) hrow.1 hrow.2 ha hd, turn _ k1⟩
  rw [Nat.zero_add, List.take_length] at hK
  refine ⟨K, ?_, hK⟩
  have hir : inRng (w : Int) = true := inRng_of (by omega)
  have hrm := rng_map w
  have hrl : ((List.range w).map fun k : Nat => D.int (k : Int)).length < 16777216 := by simp; omega
  clear e1 hK
  generalize ((List.range w).map fun p => unitL w p).map rowD = U at *
  generalize (List.range w).map (fun k : Nat => D.int (k : Int)) = RNG at *
  generalize K.map rowD = KD at *
  generalize rows.map rowD = RD at *
  simp [fn_kernel, ke_eq, hir, hrm, hrl, hc, hf]
end DL

namespace DL
open PySem PySem.Spec PyProof.Rows L2
@[simp] theorem z_mktl {xs : List D} {n : Int} : mkTail [.lst xs, .int n] = some (cutD xs (some n) none) := rfl
@[simp] theorem z_slet {i j : Nat} {g : DEnv → Option D} {clr : List Nat} {body : Stm} {env : DEnv} : sLet i g j clr body env = must (g env) fun d => letD (bName j) clr body d (lock i env) >>= unS [env] := rfl
@[simp] theorem z_letd {bind : D → DEnv → Option DEnv} {clr : List Nat} {body : Stm} {x : D} {env : DEnv} : letD bind clr body x env = must (bind x env) fun e => body e >>= fun fl => match fl with
  | .nx e => must (dropS clr e) fun e => .ok (.nx e)
  | .rt d e => must (dropS clr e) fun e => .ok (.rt d e)
  | _ => .bad := rfl
def elD (b : Bool) (r : List Int) : D := if b = true then .lst (r.map .int) else .tup (r.map .int)
def nzF (r : List Int) : List Int := r.filter fun x => decide (x ≠ 0)
def nzB (r : List Int) : Bool := decide (nzF r ≠ [])
theorem nzB_false {r : List Int} (h : nzB r = false) : ∀ i, r.getD i 0 = 0 := fun i => by
  have h := of_decide_eq_false h
  by_cases hi : i < r.length
  · rw [getD_lt hi]
    apply Classical.byContradiction
    intro hn
    refine h fun e => ?_
    have : r[i] ∈ nzF r := List.mem_filter.mpr ⟨List.getElem_mem hi, decide_eq_true hn⟩
    rw [e] at this; cases this
  · exact getD_ge (by omega)
theorem nzB_true {r : List Int} (h : nzB r = true) : ∃ x ∈ r, x ≠ 0 := by
  have h := of_decide_eq_true h
  cases e : nzF r with
  | nil => exact absurd e h
  | cons x l =>
    have : x ∈ nzF r := by rw [e]; exact List.mem_cons_self
    obtain ⟨h1, h2⟩ := List.mem_filter.mp this
    exact ⟨x, h1, of_decide_eq_true h2⟩
def rkN : DEnv → Out (Bool × DEnv) := (eBp (hB (hOp [.pur (hVar 9), .pur (hC (.int 0))] gNe)))
def rkC1 : DEnv → Out (Bool × DEnv) := (eB (eOp (.own (lcE [.plc 6 (pVar 6)] mkSeq (bName 9) rkN (eP (hVar 9)) [9]) (.own (eK (.fin []) (dspK .lst)) (.fin []))) gNe))
def rkC2 : DEnv → Out (Bool × DEnv) := (eB (eOp (.own (lcE [.plc 7 (pVar 7)] mkSeq (bName 9) rkN (eP (hVar 9)) [9]) (.own (eK (.fin []) (dspK .lst)) (.fin []))) gNe))
def rkP : DEnv → Out (Bool × DEnv) := (eBp (hB (hOp [.pur (hRd (pIx (pVar 3) (hVar 8))), .pur (hC (.int 0))] gNe)))
def rkL : DEnv → Out (D × DEnv) := (eP (hOp [.pur (hOp [.pur (hRd (pIx (pVar 6) (hVar 8))), .pur (hRd (pIx (pVar 3) (hVar 4)))] gMul), .pur (hOp [.pur (hRd (pIx (pVar 3) (hVar 8))), .pur (hRd (pIx (pVar 6) (hVar 4)))] gMul)] gSub))
def rkF : Stm := (sSeq (sSet 7 (lcE [.pur (hOp [.plc 6 (pVar 6)] gLen)] mkRange1 (bName 8) eYes rkL [8]))
  (sSeq (sIfE rkC2 (sSeq (sExpr (isL 5 (eK (.io 5 (.own (eMov 7) (.fin []))) appK)))
  sNop) sNop)
  sNop))
def rkI : Stm := (sSeq (sSet 4 (eOp (.own (lcE [.pur (hOp [.plc 3 (pVar 3)] gLen)] mkRange1 (bName 8) rkP (eP (hVar 8)) [8]) (.fin [.pur (hC (.int 0))])) gIx))
  (sSeq (sSet 5 (eK (.fin []) (dspK .lst)))
  (sSeq (sFor [.plc 1 (pVar 1), .pur (hC (.int 1))] mkTail (bName 6) [6, 7] rkF)
  sNop)))
def rkW : DEnv → Out (Bool × DEnv) := (eB (eOp (.plc 1 (pVar 1) (.own (eK (.fin []) (dspK .lst)) (.fin []))) gNe))
def rkB : Stm := (sSeq (sSeq (sLet 1 (pIx (pVar 1) (hC (.int 0))) 3 [3]
  rkI)
  (sSeq (sSet 1 (eMov 5))
  (sSeq (sSet 2 (eP (hOp [.pur (hVar 2), .pur (hC (.int 1))] gAdd)))
  sNop))) (sDrop [3, 4, 5, 6, 7]))
theorem rk_eq : b_law_rank = (sSeq (sSet 1 (lcE [.plc 0 (pVar 0)] mkSeq (bName 6) rkC1 (eMov 6) [6]))
  (sSeq (sSet 2 (eP (hC (.int 0))))
  (sSeq (sWhile rkW rkB)
  (sSeq (sRet (eP (hVar 2)))
  sNop)))) := rfl
theorem rk_nz (r : List Int) (e0 e1 e2 e3 e4 e5 e6 e7 e8 : Slot) : lcG (bName 9) rkN (eP (hVar 9)) [9] (r.map .int) [e0, e1, e2, e3, e4, e5, e6, e7, e8, none] = .ok ((nzF r).map .int, [e0, e1, e2, e3, e4, e5, e6, e7, e8, none]) := by
  have q := lcG_filt (bd := bName 9) (cl := [9]) (ce := rkN) (elt := eP (hVar 9)) (e0 := [e0, e1, e2, e3, e4, e5, e6, e7, e8, none]) (c := fun x : Int => decide (x ≠ 0)) (g := D.int) (φ := D.int) r fun x hx => by
    unfold TurnC rkN
    by_cases h : x = 0
    · simp [h]
    · simp [h]
  exact q
theorem nz_eq (r : List Int) : gEqB (.lst ((nzF r).map D.int)) (.lst []) = some (!nzB r) := by
  rw [eq_nilL (n := 3) Lay.ints (by decide)]
  congr 1
  unfold nzB
  by_cases h : nzF r = []
  · simp [h]
  · simp [h]
theorem left_eq (b : Bool) (L : List (List Int)) : gEqB (.lst (L.map (elD b))) (.lst []) = some (decide (L = [])) := by
  rw [eq_nilL (n := 3) (fun d hd => by
    obtain ⟨r, _, rfl⟩ := List.mem_map.mp hd
    cases b
    · exact Lay.tup Lay.ints
    · exact Lay.lst Lay.ints) (by decide)]
  congr 1
  cases L <;> rfl
theorem rk_comp (rows : List (List Int)) (X : D) (hlr : ∀ r ∈ rows, r.length < 1000) : lcG (bName 6) rkC1 (eMov 6) [6] (rows.map rowD) [some (.brw, X), none, none, none, none, none, none, none, none, none] = .ok ((rows.filter nzB).map rowD, [some (.brw, X), none, none, none, none, none, none, none, none, none]) := by
  refine lcG_filt (c := nzB) (g := rowD) (φ := rowD) rows fun r hr => ?_
  have pr := pureL_ints r
  have h1 := rk_nz r (some (.brw, X)) none none none none none (some (.lck, rowD r)) none none
  have h2 := nz_eq r
  have hl : (r.map D.int).length < 16777216 := by rw [List.length_map]; have := hlr r hr; omega
  dsimp only [rowD] at *
  generalize (nzF r).map D.int = NZ at *
  generalize r.map D.int = R at *
  unfold TurnC rkC1
  cases h : nzB r
  · rw [h] at h2
    simp [h1, h2, pr, hl]
  · rw [h] at h2
    simp [h1, h2, pr, hl]
section
variable {w β p : Nat} {top : List Int} {b : Bool}
abbrev rkM (b : Bool) : Md := if b = true then .brw else .own
theorem el_mode (b : Bool) (r : List Int) (e : DEnv) (i : Nat) (h : free? i e = true) : bName i (elD b r) e = some (e.set i (some (rkM b, elD b r))) := by
  unfold bName
  rw [if_pos h]
  cases b
  · have : (elD false r).pure = true := pureL_ints r
    rw [this]; rfl
  · have : (elD true r).pure = false := rfl
    rw [this]; rfl
theorem rk_lower {r : List Int} (X : D) (n : Int) (LD F : D) (hw : w < 8) (htl : top.length = w) (hrl : r.length = w) (hp : p < w) (ht : BdL β top) (hr : BdL β r) (hβ : β ≤ 1000000) : lcG (bName 8) eYes rkL [8] ((List.range w).map fun k : Nat => D.int (k : Int)) [some (.brw, X), some (.lck, LD), some (.own, .int n), some (rkM b, elD b top), some (.own, .int (p : Int)), some (.own, F), some (rkM b, elD b r), none, none, none] = .ok ((lowL top p r).map D.int, [some (.brw, X), some (.lck, LD), some (.own, .int n), some (rkM b, elD b top), some (.own, .int (p : Int)), some (.own, F), some (rkM b, elD b r), none, none, none]) := by
  have q := lcG_map (bd := bName 8) (cl := [8]) (elt := rkL) (e0 := [some (.brw, X), some (.lck, LD), some (.own, .int n), some (rkM b, elD b top), some (.own, .int (p : Int)), some (.own, F), some (rkM b, elD b r), none, none, none]) (g := fun k : Nat => .int (r.getD k 0 * top.getD p 0 - top.getD k 0 * r.getD p 0)) (φ := fun k : Nat => D.int (k : Int)) (List.range w) fun k hk => by
    have hk := List.mem_range.mp hk
    have a1 : atI (r.map D.int) (k : Int) = some (.int (r.getD k 0)) := at_mapI (by omega)
    have a2 : atI (r.map D.int) (p : Int) = some (.int (r.getD p 0)) := at_mapI (by omega)
    have a3 : atI (top.map D.int) (k : Int) = some (.int (top.getD k 0)) := at_mapI (by omega)
    have a4 : atI (top.map D.int) (p : Int) = some (.int (top.getD p 0)) := at_mapI (by omega)
    have getb : ∀ {l : List Int}, BdL β l → ∀ i, Bd 1000000 (l.getD i 0) := fun {l} h i => by
      by_cases hi : i < l.length
      · rw [getD_lt hi]; exact (h _ (List.getElem_mem hi)).mono hβ
      · rw [getD_ge (by omega)]; exact bd0
    have m1 : MulOk (r.getD k 0) (top.getD p 0) := mulOk (j := 1000000) (k := 1000000) (getb hr k) (getb ht p)
    have m2 : MulOk (top.getD k 0) (r.getD p 0) := mulOk (j := 1000000) (k := 1000000) (getb ht k) (getb hr p)
    have pr := pureL_ints r
    have pt := pureL_ints top
    generalize r.getD k 0 = x1 at *
    generalize r.getD p 0 = x2 at *
    generalize top.getD k 0 = x3 at *
    generalize top.getD p 0 = x4 at *
    cases b
    · dsimp only [elD, rkM]
      generalize r.map D.int = R at *
      generalize top.map D.int = TP at *
      unfold rkL
      simp [a1, a2, a3, a4, m1, m2, pr, pt]
    · dsimp only [elD, rkM]
      generalize r.map D.int = R at *
      generalize top.map D.int = TP at *
      unfold rkL
      simp [a1, a2, a3, a4, m1, m2, pr, pt]
  rw [q]
  unfold lowL
  rw [List.map_map, hrl]
  rfl
theorem rk_turn {r : List Int} (X : D) (n : Int) (LD : D) (F : List (List Int)) (hw : w < 8) (htl : top.length = w) (hrl : r.length = w) (hp : p < w) (ht : BdL β top) (hr : BdL β r) (hβ : β ≤ 1000000) (hF : F.length ≤ 1000) : Turn1 (bName 6) [6, 7] rkF (elD b r) [some (.brw, X), some (.lck, LD), some (.own, .int n), some (rkM b, elD b top), some (.own, .int (p : Int)), some (.own, .lst (F.map (elD true))), none, none, none, none] [some (.brw, X), some (.lck, LD), some (.own, .int n), some (rkM b, elD b top), some (.own, .int (p : Int)), some (.own, .lst ((if nzB (lowL top p r) = true then F ++ [lowL top p r] else F).map (elD true))), none, none, none, none] := by
  have h1 := rk_lower (b := b) X n LD (.lst (F.map (elD true))) hw htl hrl hp ht hr hβ
  have h2 := rk_nz (lowL top p r) (some (.brw, X)) (some (.lck, LD)) (some (.own, .int n)) (some (rkM b, elD b top)) (some (.own, .int (p : Int))) (some (.own, .lst (F.map (elD true)))) (some (rkM b, elD b r)) (some (.lck, .lst ((lowL top p r).map .int))) none
  have h3 := nz_eq (lowL top p r)
  have hlen : fLen (elD b r) = some (.int (w : Int)) := by
    cases b
    · show some (D.int ((r.map D.int).length : Int)) = _
      rw [List.length_map, hrl]
    · show some (D.int ((r.map D.int).length : Int)) = _
      rw [List.length_map, hrl]
  have hir : inRng (w : Int) = true := inRng_of (by omega)
  have hrm := rng_map w
  have hrg : ((List.range w).map fun k : Nat => D.int (k : Int)).length < 16777216 := by simp; omega
  have hll : ((lowL top p r).map D.int).length < 16777216 := by rw [List.length_map, lowL_len]; omega
  have hFl : (F.map (elD true)).length < 16777216 := by rw [List.length_map]; omega
  have hap : (F ++ [lowL top p r]).map (elD true) = F.map (elD true) ++ [.lst ((lowL top p r).map .int)] := by rw [List.map_append]; rfl
  have hbn := el_mode b r [some (.brw, X), some (.lck, LD), some (.own, .int n), some (rkM b, elD b top), some (.own, .int (p : Int)), some (.own, .lst (F.map (elD true))), none, none, none, none] 6 rfl
  have hel : elD b r = .tup (r.map .int) ∨ elD b r = .lst (r.map .int) := by cases b; exact .inl rfl; exact .inr rfl
  have hmode : (rkM b = .own ∧ (elD b r).pure = true) ∨ (rkM b = .brw ∧ (elD b r).pure = false) := by
    cases b
    · exact .inl ⟨rfl, pureL_ints r⟩
    · exact .inr ⟨rfl, rfl⟩
  cases hz : nzB (lowL top p r)
  · rw [hz] at h3
    rw [if_neg (show ¬ (false = true) by decide)]
    generalize elD b r = ER at *
    generalize elD b top = ET at *
    generalize (F.map (elD true)) = FD at *
    generalize (nzF (lowL top p r)).map D.int = NZ at *
    generalize (lowL top p r).map D.int = LW at *
    generalize (List.range w).map (fun k : Nat => D.int (k : Int)) = RG at *
    generalize rkM b = mm at *
    unfold Turn1 rkF rkC2
    rcases hmode with ⟨rfl, hpu⟩ | ⟨rfl, hpu⟩
    · simp [hpu, hlen, hir, hrm, hrg, h1, h2, h3, hll]
    · simp [hpu, hlen, hir, hrm, hrg, h1, h2, h3, hll]
  · rw [hz] at h3
    rw [if_pos rfl, hap]
    generalize elD b r = ER at *
    generalize elD b top = ET at *
    generalize (F.map (elD true)) = FD at *
    generalize (nzF (lowL top p r)).map D.int = NZ at *
    generalize (lowL top p r).map D.int = LW at *
    generalize (List.range w).map (fun k : Nat => D.int (k : Int)) = RG at *
    generalize rkM b = mm at *
    unfold Turn1 rkF rkC2
    rcases hmode with ⟨rfl, hpu⟩ | ⟨rfl, hpu⟩
    · simp [hpu, hlen, hir, hrm, hrg, h1, h2, h3, hll, hFl]
    · simp [hpu, hlen, hir, hrm, hrg, h1, h2, h3, hll, hFl]
theorem fold_if (top : List Int) (p : Nat) : ∀ (rest F : List (List Int)), rest.foldl (fun F r => if nzB (lowL top p r) = true then F ++ [lowL top p r] else F) F = F ++ (rest.map (lowL top p)).filter nzB
  | [], F => by simp
  | r :: rest, F => by
    rw [List.foldl_cons, fold_if top p rest, List.map_cons]
    cases h : nzB (lowL top p r)
    · simp [h]
    · simp [h]
theorem lowL_bd {r : List Int} (ht : BdL β top) (hr : BdL β r) : BdL (2 * β + 1) (lowL top p r) := fun x hx => by
  unfold lowL at hx
  obtain ⟨k, hk, rfl⟩ := List.mem_map.mp hx
  have getb : ∀ {l : List Int}, BdL β l → ∀ i, Bd β (l.getD i 0) := fun {l} h i => by
    by_cases hi : i < l.length
    · rw [getD_lt hi]; exact h _ (List.getElem_mem hi)
    · rw [getD_ge (by omega)]; exact bd0
  rw [Int.sub_eq_add_neg]
  exact (((getb hr k).mul (getb ht p)).mono (by omega)).add (((getb ht k).mul (getb hr p)).mono (by omega)).neg
theorem rk_inner (X : D) (n : Int) (rest : List (List Int)) (hw : w < 8) (htl : top.length = w) (ht : BdL β top) (hnz : nzB top = true) (hr : ∀ r ∈ rest, r.length = w ∧ BdL β r) (hβ : β ≤ 1000000) (hl : rest.length < 900) :
    ∃ p, p < w ∧ top.getD p 0 ≠ 0 ∧ rkB [some (.brw, X), some (.own, .lst ((top :: rest).map (elD b))), some (.own, .int n), none, none, none, none, none, none, none] = .ok (.nx [some (.brw, X), some (.own, .lst (((rest.map (lowL top p)).filter nzB).map (elD true))), some (.own, .int (n + 1)), none, none, none, none, none, none, none]) := by
  rcases chosen_at top with ⟨hz, _⟩ | ⟨p, more, hp, hp0, hch⟩
  · obtain ⟨x, hx, hx0⟩ := nzB_true hnz
    exact absurd (hz x hx) hx0
  · rw [htl] at hp hch
    refine ⟨p, hp, hp0, ?_⟩
    have hpl := lcG_filt (bd := bName 8) (cl := [8]) (ce := rkP) (elt := eP (hVar 8)) (e0 := [some (.brw, X), some (.lck, .lst ((top :: rest).map (elD b))), some (.own, .int n), some (rkM b, elD b top), none, none, none, none, none, none]) (c := fun k : Nat => decide (top.getD k 0 ≠ 0)) (g := fun k : Nat => D.int (k : Int)) (φ := fun k : Nat => D.int (k : Int)) (List.range w) fun k hk => by
      have hk := List.mem_range.mp hk
      have a3 : atI (top.map D.int) (k : Int) = some (.int (top.getD k 0)) := at_mapI (by omega)
      have pt := pureL_ints top
      generalize (top :: rest).map (elD b) = LD at *
      generalize top.getD k 0 = x at *
      cases b
      · dsimp only [elD, rkM]
        generalize top.map D.int = TP at *
        unfold TurnC rkP
        by_cases h : x = 0
        · simp [a3, h, pt]
        · simp [a3, h, pt]
      · dsimp only [elD, rkM]
        generalize top.map D.int = TP at *
        unfold TurnC rkP
        by_cases h : x = 0
        · simp [a3, h, pt]
        · simp [a3, h, pt]
    have em : (p :: more).map (fun k : Nat => D.int (k : Int)) = D.int (p : Int) :: more.map (fun k : Nat => D.int (k : Int)) := rfl
    rw [hch, em] at hpl
    have hf := (forD_foldI (bd := bName 6) (cl := [6, 7]) (body := rkF) (st := fun F : List (List Int) => [some (.brw, X), some (.lck, .lst ((top :: rest).map (elD b))), some (.own, .int n), some (rkM b, elD b top), some (.own, .int (p : Int)), some (.own, .lst (F.map (elD true))), none, none, none, none]) (f := fun F r => if nzB (lowL top p r) = true then F ++ [lowL top p r] else F) (φ := elD b) (I := fun j F => F.length ≤ j) rest 0 [] (Nat.le_refl _) fun j F r hrj hI => by
      have hrm := hr r (List.mem_of_getElem? hrj)
      have hjl : j < rest.length := (List.getElem?_eq_some_iff.mp hrj).1
      refine ⟨?_, rk_turn X n _ F hw htl hrm.1 hp ht hrm.2 hβ (by omega)⟩
      split
      · rw [List.length_append]; simp; omega
      · omega).1
    rw [fold_if, List.nil_append] at hf
    have hf : forD (bName 6) [6, 7] rkF (rest.map (elD b)) [some (.brw, X), some (.lck, .lst ((top :: rest).map (elD b))), some (.own, .int n), some (rkM b, elD b top), some (.own, .int (p : Int)), some (.own, .lst []), none, none, none, none] = .ok (.nx [some (.brw, X), some (.lck, .lst ((top :: rest).map (elD b))), some (.own, .int n), some (rkM b, elD b top), some (.own, .int (p : Int)), some (.own, .lst (((rest.map (lowL top p)).filter nzB).map (elD true))), none, none, none, none]) := hf
    have hcut : cutD ((top :: rest).map (elD b)) (some 1) none = rest.map (elD b) := by
      have := cutD_drop' ((top :: rest).map (elD b)) 1
      exact this
    have hat : atI ((top :: rest).map (elD b)) 0 = some (elD b top) := at0 _ _
    have hlen : fLen (elD b top) = some (.int (w : Int)) := by
      cases b
      · show some (D.int ((top.map D.int).length : Int)) = _
        rw [List.length_map, htl]
      · show some (D.int ((top.map D.int).length : Int)) = _
        rw [List.length_map, htl]
    have hir : inRng (w : Int) = true := inRng_of (by omega)
    have hrm := rng_map w
    have hrg : ((List.range w).map fun k : Nat => D.int (k : Int)).length < 16777216 := by simp; omega
    have hrl : (rest.map (elD b)).length < 16777216 := by rw [List.length_map]; omega
    have hml : (more.map fun k : Nat => D.int (k : Int)).length < 16777215 := by
      have : (p :: more).length ≤ w := by
        rw [← hch]
        have := List.length_filter_le (fun k => decide (top.getD k 0 ≠ 0)) (List.range w)
        rw [List.length_range] at this
        exact this
      rw [List.length_map]
      rw [List.length_cons] at this
      omega
    have hbn := el_mode b top [some (.brw, X), some (.lck, .lst ((top :: rest).map (elD b))), some (.own, .int n), none, none, none, none, none, none, none] 3 rfl
    have hmode : (rkM b = .own ∧ (elD b top).pure = true) ∨ (rkM b = .brw ∧ (elD b top).pure = false) := by
      cases b
      · exact .inl ⟨rfl, pureL_ints top⟩
      · exact .inr ⟨rfl, rfl⟩
    have hat2 : atI (D.int (p : Int) :: more.map fun k : Nat => D.int (k : Int)) 0 = some (.int (p : Int)) := at0 _ _
    clear hr hch hnz
    generalize ((rest.map (lowL top p)).filter nzB).map (elD true) = FR at *
    generalize (top :: rest).map (elD b) = LD at *
    generalize rest.map (elD b) = RD at *
    generalize elD b top = ET at *
    generalize (more.map fun k : Nat => D.int (k : Int)) = MD at *
    generalize (List.range w).map (fun k : Nat => D.int (k : Int)) = RG at *
    generalize rkM b = mm at *
    unfold rkB rkI
    rcases hmode with ⟨rfl, hpu⟩ | ⟨rfl, hpu⟩
    · simp [hat, hpu, hlen, hir, hrm, hrg, hpl, hat2, hcut, hf, hrl, hml]
    · simp [hat, hpu, hlen, hir, hrm, hrg, hpl, hat2, hcut, hf, hrl, hml]
end
def SBr (ρ : Nat) : Nat → Nat
  | 0 => ρ
  | j + 1 => SBr (2 * ρ + 1) j
theorem rk_loop {w : Nat} (X : D) (hw : w < 8) : ∀ (m β : Nat) (b : Bool) (L : List (List Int)) (n : Nat), L.length ≤ m → L.length < 900 → (∀ r ∈ L, (r.length = w ∧ BdL β r) ∧ nzB r = true) → SBr β m ≤ 1000000 → WhR rkW rkB [some (.brw, X), some (.own, .lst (L.map (elD b))), some (.own, .int (n : Int)), none, none, none, none, none, none, none] (.nx [some (.brw, X), some (.own, .lst []), some (.own, .int ((n + nI w [] L : Nat) : Int)), none, none, none, none, none, none, none])
  | m, β, b, [], n, _, _, _, _ => by
    refine WhR.stop ?_
    have h := left_eq b []
    show rkW [some (.brw, X), some (.own, .lst []), some (.own, .int (n : Int)), none, none, none, none, none, none, none] = .ok (false, [some (.brw, X), some (.own, .lst []), some (.own, .int (n : Int)), none, none, none, none, none, none, none])
    have h : gEqB (.lst []) (.lst []) = some true := h
    unfold rkW
    simp [h]
  | 0, β, b, top :: rest, n, hm, _, _, _ => by simp at hm
  | m + 1, β, b, top :: rest, n, hm, hl, hr, hβ => by
    have htop := hr top List.mem_cons_self
    have hSB : ∀ (m ρ : Nat), ρ ≤ SBr ρ m := fun m => by
      induction m with
      | zero => exact fun ρ => Nat.le_refl _
      | succ m ih => intro ρ; have := ih (2 * ρ + 1); show ρ ≤ SBr (2 * ρ + 1) m; omega
    obtain ⟨p, hp, hp0, hb⟩ := rk_inner (b := b) X (n : Int) rest hw htop.1.1 htop.1.2 htop.2 (fun r h => (hr r (List.mem_cons_of_mem _ h)).1) (Nat.le_trans (hSB (m + 1) β) hβ) (by rw [List.length_cons] at hl; omega)
    have hfl := List.length_filter_le nzB (rest.map (lowL top p))
    rw [List.length_map] at hfl
    have ih := rk_loop X hw m (2 * β + 1) true ((rest.map (lowL top p)).filter nzB) (n + 1) (by rw [List.length_cons] at hm; omega) (by rw [List.length_cons] at hl; omega) (fun r h => by
      obtain ⟨h1, h2⟩ := List.mem_filter.mp h
      obtain ⟨q, hq, rfl⟩ := List.mem_map.mp h1
      have hq := (hr q (List.mem_cons_of_mem _ hq)).1
      exact ⟨⟨by rw [lowL_len]; exact hq.1, lowL_bd htop.1.2 hq.2⟩, h2⟩) hβ
    have hn : nI w [] (top :: rest) = 1 + nI w [] ((rest.map (lowL top p)).filter nzB) := by
      rw [nI_top hp0 hp fun r h => (hr r (List.mem_cons_of_mem _ h)).1.1, nI_filter (fun r => nzB_false)]
    have hcast : ((n + 1 : Nat) : Int) = (n : Int) + 1 := by omega
    rw [hn, ← Nat.add_assoc]
    refine WhR.step (e1 := [some (.brw, X), some (.own, .lst ((top :: rest).map (elD b))), some (.own, .int (n : Int)), none, none, none, none, none, none, none]) ?_ (.inl hb) (by rw [← hcast]; exact ih)
    have h := left_eq b (top :: rest)
    rw [decide_eq_false (by simp)] at h
    clear hb ih hr
    generalize (top :: rest).map (elD b) = LD at *
    unfold rkW
    simp [h]
theorem rank_ok {rows : List (List Int)} {w β : Nat} (hw : w < 8) (hr : ∀ r ∈ rows, r.length = w ∧ BdL β r) (hl : rows.length < 900) (hβ : SBr β rows.length ≤ 1000000) : fn_law_rank [.lst (rows.map rowD)] = .ok (.int (nI w [] rows : Nat), []) := by
  have h1 := rk_comp rows (.lst (rows.map rowD)) fun r h => by have := (hr r h).1; omega
  have hfl := List.length_filter_le nzB rows
  have h2 := (rk_loop (w := w) (.lst (rows.map rowD)) hw rows.length β false (rows.filter nzB) 0 hfl (by omega) (fun r h => ⟨hr r (List.mem_filter.mp h).1, (List.mem_filter.mp h).2⟩) hβ).sw
  rw [nI_filter (fun r => nzB_false), Nat.zero_add] at h2
  have e : (rows.filter nzB).map (elD false) = (rows.filter nzB).map rowD := rfl
  rw [e] at h2
  have h2 : sWhile rkW rkB [some (.brw, .lst (rows.map rowD)), some (.own, .lst ((rows.filter nzB).map rowD)), some (.own, .int 0), none, none, none, none, none, none, none] = _ := h2
  have hRl : (rows.map rowD).length < 16777216 := by rw [List.length_map]; omega
  have hFl : ((rows.filter nzB).map rowD).length < 16777216 := by rw [List.length_map]; omega
  clear hr e
  generalize (rows.filter nzB).map rowD = FD at *
  generalize rows.map rowD = RD at *
  generalize ((nI w [] rows : Nat) : Int) = N at *
  simp [fn_law_rank, rk_eq, h1, h2, hRl, hFl]
end DL

namespace DL
open PySem PySem.Spec PyProof.Rows L2
theorem seq_nx {f g : Stm} {env e : DEnv} (h : f env = .ok (.nx e)) : sSeq f g env = g e := by
  unfold sSeq
  rw [h]
  rfl
def lrB : Stm := (sSeq (sSet 4 (eK (.io 0 (.fin [.pur (hVar 1)])) (callK [.io, .b] fn_law_row)))
  (sSeq (sSet 5 (eK (.io 0 (.fin [.pur (hC (.int 6))])) (callK [.io, .b] fn_law_draw)))
  (sSeq (sIf (hAnd (hB (hOp [.pur (hVar 5), .pur (hC (.int 0))] gEq)) (hB (hOp [.pur (hVar 3), .pur (hC (.int 1))] gGt))) (sSeq (sSet 4 (eK (.own (eOp (.fin [.plc 2 (pVar 2), .int (hOp [.pur (hVar 3), .pur (hC (.int 2))] gSub)]) (slL fSlL)) (.own (eK (.own (eOp (.own (eK (.io 0 (.fin [.pur (hC (.int 5))])) (callK [.io, .b] fn_law_draw)) (.fin [.pur (hC (.int 2))])) gSub) (.own (eOp (.own (eK (.io 0 (.fin [.pur (hC (.int 5))])) (callK [.io, .b] fn_law_draw)) (.fin [.pur (hC (.int 2))])) gSub) (.fin []))) (dspK .lst)) (.fin [.pur (hVar 1)]))) (callK [.b, .b, .b] fn_law_sum)))
  sNop) sNop)
  (sSeq (sIf (hB (hOp [.pur (hVar 5), .pur (hC (.int 1))] gEq)) (sSeq (sSet 4 (eP (hOp [.pur (hOp [.pur (hC (.int 0))] fTup), .pur (hVar 1)] gRepT)))
  sNop) sNop)
  (sSeq (sExpr (isL 2 (eK (.io 2 (.fin [.pur (hVar 4)])) appK)))
  sNop)))))
theorem lr_eq : b_law_rows = (sSeq (sSet 2 (eK (.fin []) (dspK .lst)))
  (sSeq (sFor [.own (eK (.io 0 (.fin [.pur (hC (.int 8))])) (callK [.io, .b] fn_law_draw))] mkRange1 (bName 3) [3, 4, 5] lrB)
  (sSeq (sRet (eMov 2))
  sNop))) := rfl
theorem lr_turn {w k : Nat} (hw : w ≤ 6) (hk : k < 8) (deck : List Int) (L : List (List Int)) (hL : L.length = k) (hLr : ∀ r ∈ L, r.length = w ∧ BdL (100 + 4 * k) r) : ∃ (r deck2 : List Int), (r.length = w ∧ BdL (100 + 4 * (k + 1)) r) ∧
    Turn1 (bName 3) [3, 4, 5] lrB (D.int (k : Int)) [some (.io, .lst (deck.map .int)), some (.brw, .int (w : Int)), some (.own, .lst (L.map rowD)), none, none, none] [some (.io, .lst (deck2.map .int)), some (.brw, .int (w : Int)), some (.own, .lst ((L ++ [r]).map rowD)), none, none, none] := by
  obtain ⟨r1, d1, a1, a2, a3⟩ := row_ok deck w (by omega)
  obtain ⟨way, d2, b1, b2⟩ := draw_ex d1 6 (by decide)
  obtain ⟨x1, d3, c1, c2⟩ := draw_ex d2 5 (by decide)
  obtain ⟨x2, d4, e1, e2⟩ := draw_ex d3 5 (by decide)
  change fn_law_draw [_, .int 6] = _ at b1
  change fn_law_draw [_, .int 5] = _ at c1
  change fn_law_draw [_, .int 5] = _ at e1
  have hap : ∀ r : List Int, (L ++ [r]).map rowD = L.map rowD ++ [rowD r] := fun r => by rw [List.map_append]; rfl
  have hLl : (L.map rowD).length < 16777216 := by rw [List.length_map]; omega
  have pL := rows_pure L
  have p1 := pureL_ints r1
  by_cases h0 : way = 0 ∧ 1 < k
  · obtain ⟨rfl, hk1⟩ := h0
    have hk1i : (1 : Int) < (k : Int) := by omega
    have hR : ∀ r ∈ L.drop (k - 2), r.length = w := fun r h => (hLr r (List.mem_of_mem_drop h)).1
    have hN : ∀ n ∈ [(x1 : Int) - 2, (x2 : Int) - 2], Bd 2 n := fun n hn => by
      simp only [List.mem_cons, List.not_mem_nil, or_false] at hn
      unfold Bd
      rcases hn with rfl | rfl <;> omega
    have hs := law_sum_ok (L.drop (k - 2)) [(x1 : Int) - 2, (x2 : Int) - 2] w (by omega) (fun r h => ⟨hR r h, (hLr r (List.mem_of_mem_drop h)).2.mono (by omega)⟩) (fun n hn => (hN n hn).mono (by omega))
    have hb := total_bd (j := 2) (k := 100 + 4 * k) (s := 2) hR [(x1 : Int) - 2, (x2 : Int) - 2] hN (fun r h => (hLr r (List.mem_of_mem_drop h)).2) (by simp)
    have hl := total_len hR [(x1 : Int) - 2, (x2 : Int) - 2]
    refine ⟨_, d4, ⟨hl, hb.mono (by omega)⟩, ?_⟩
    rw [hap]
    generalize total w ((L.drop (k - 2)).zip [(x1 : Int) - 2, (x2 : Int) - 2]) = a at *
    have pa := pureL_ints a
    have hk2 : (k : Int) - 2 = ((k - 2 : Nat) : Int) := by omega
    have hcut : cutD (L.map rowD) (some ((k - 2 : Nat) : Int)) none = (L.drop (k - 2)).map rowD := by rw [cutD_drop', List.map_drop]
    have hs : fn_law_sum [.lst ((L.drop (k - 2)).map rowD), .lst [.int ((x1 : Int) - 2), .int ((x2 : Int) - 2)], .int (w : Int)] = .ok (rowD a, []) := hs
    clear hap hR hN hb hl hLr
    dsimp only [rowD] at *
    generalize (L.drop (k - 2)).map (fun r => D.tup (r.map D.int)) = DR at *
    generalize L.map (fun r => D.tup (r.map D.int)) = LD at *
    generalize a.map D.int = AD at *
    generalize r1.map D.int = R1 at *
    generalize deck.map D.int = DK at *
    generalize d1.map D.int = D1 at *
    generalize d2.map D.int = D2 at *
    generalize d3.map D.int = D3 at *
    generalize d4.map D.int = D4 at *
    have b1 : fn_law_draw [.lst D1, .int 6] = .ok (.int 0, [.lst D2]) := b1
    unfold Turn1 lrB
    simp [a1, b1, c1, e1, hk1, hk1i, hk2, hcut, hs, hLl, pL, p1, pa]
  · by_cases h1 : way = 1
    · subst h1
      refine ⟨List.replicate w 0, d2, ⟨by simp, fun x hx => by rw [List.eq_of_mem_replicate hx]; exact bd0⟩, ?_⟩
      rw [hap]
      have hrp := rep_int w 0
      have pz := pureL_ints (List.replicate w 0)
      have hw1 : (-1000 : Int) ≤ (w : Int) := by omega
      have hw2 : (w : Int) ≤ 1000 := by omega
      have hw3 : w ≤ 16777216 := by omega
      clear hap hLr
      dsimp only [rowD] at *
      generalize (List.replicate w (0 : Int)).map D.int = ZD at *
      generalize L.map (fun r => D.tup (r.map D.int)) = LD at *
      generalize r1.map D.int = R1 at *
      generalize deck.map D.int = DK at *
      generalize d1.map D.int = D1 at *
      generalize d2.map D.int = D2 at *
      have b1 : fn_law_draw [.lst D1, .int 6] = .ok (.int 1, [.lst D2]) := b1
      unfold Turn1 lrB
      simp [a1, b1, flat_one, hrp, hw1, hw2, hw3, hLl, p1, pz]
    · refine ⟨r1, d2, ⟨a2, BdL.mono a3 (by omega)⟩, ?_⟩
      rw [hap]
      have h1i : ¬ (way : Int) = 1 := by omega
      clear hap hLr
      dsimp only [rowD] at *
      generalize L.map (fun r => D.tup (r.map D.int)) = LD at *
      generalize r1.map D.int = R1 at *
      generalize deck.map D.int = DK at *
      generalize d1.map D.int = D1 at *
      generalize d2.map D.int = D2 at *
      unfold Turn1 lrB
      by_cases hk1 : 1 < k
      · have hw0 : ¬ way = 0 := fun z => h0 ⟨z, hk1⟩
        have hw0i : ¬ (way : Int) = 0 := by omega
        simp [a1, b1, h1, h1i, hw0, hw0i, hLl, p1]
      · have hk1i : ¬ (1 : Int) < (k : Int) := by omega
        by_cases hw0 : way = 0
        · subst hw0
          simp [a1, b1, hk1, hk1i, hLl, p1]
        · have hw0i : ¬ (way : Int) = 0 := by omega
          simp [a1, b1, h1, h1i, hk1, hk1i, hw0, hw0i, hLl, p1]
theorem law_rows_ok {w : Nat} (hw : w ≤ 6) (deck : List Int) : ∃ (rows : List (List Int)) (deck2 : List Int), fn_law_rows [.lst (deck.map .int), .int (w : Int)] = .ok (.lst (rows.map rowD), [.lst (deck2.map .int)]) ∧ rows.length ≤ 7 ∧ ∀ r ∈ rows, r.length = w ∧ BdL 132 r := by
  obtain ⟨n, d1, h1, hn⟩ := draw_ex deck 8 (by decide)
  change fn_law_draw [_, .int 8] = _ at h1
  obtain ⟨⟨d2, rows⟩, ⟨i1, i2⟩, hf⟩ := forD_exI (bd := bName 3) (cl := [3, 4, 5]) (body := lrB) (st := fun s : List Int × List (List Int) => [some (.io, .lst (s.1.map .int)), some (.brw, .int (w : Int)), some (.own, .lst (s.2.map rowD)), none, none, none]) (φ := fun k : Nat => D.int (k : Int)) (I := fun j s => s.2.length = j ∧ ∀ r ∈ s.2, r.length = w ∧ BdL (100 + 4 * j) r) (List.range n) 0 (d1, []) ⟨rfl, fun r h => (by cases h)⟩ fun j s k hk hI => by
    obtain ⟨rfl, hj⟩ := range_at hk
    obtain ⟨dk, L⟩ := s
    obtain ⟨i1, i2⟩ := hI
    rw [Nat.zero_add] at i1 i2 ⊢
    obtain ⟨r, d, g1, g2⟩ := lr_turn hw (by omega) dk L i1 i2
    refine ⟨(d, L ++ [r]), ⟨by dsimp only at i1 ⊢; rw [List.length_append, i1]; rfl, fun q hq => ?_⟩, g2⟩
    rcases List.mem_append.mp hq with z | z
    · exact ⟨(i2 q z).1, (i2 q z).2.mono (by omega)⟩
    · rw [List.mem_singleton.mp z]; exact g1
  rw [List.length_range, Nat.zero_add] at i1 i2
  dsimp only at i1 i2
  refine ⟨rows, d2, ?_, by omega, fun r h => ⟨(i2 r h).1, (i2 r h).2.mono (by omega)⟩⟩
  have hir : inRng (n : Int) = true := inRng_of (by omega)
  have hrm := rng_map n
  have hrg : ((List.range n).map fun k : Nat => D.int (k : Int)).length < 16777216 := by simp; omega
  dsimp only at hf
  simp only [List.map_nil] at hf
  clear i2
  generalize (List.range n).map (fun k : Nat => D.int (k : Int)) = RG at *
  generalize rows.map rowD = RD at *
  generalize deck.map D.int = DK at *
  generalize d1.map D.int = D1 at *
  generalize d2.map D.int = D2 at *
  simp [fn_law_rows, lr_eq, h1, hir, hrm, hrg, hf]
end DL

namespace DL
open PySem PySem.Spec PyProof.Rows L2
theorem bnds {w : Nat} (h : w ≤ 6) : (2 ≤ w → be 132 (w - 1) ≤ 9000) ∧ be 132 w ≤ 100000 := by
  rcases w with _ | _ | _ | _ | _ | _ | _ | w
  · decide
  · decide
  · decide
  · decide
  · decide
  · decide
  · decide
  · omega
theorem SBr_mono : ∀ {m n ρ σ : Nat}, m ≤ n → ρ ≤ σ → SBr ρ m ≤ SBr σ n := fun {m n} => by
  induction n generalizing m with
  | zero =>
    intro ρ σ h1 h2
    rw [show m = 0 by omega]; exact h2
  | succ n ih =>
    intro ρ σ h1 h2
    cases m with
    | zero =>
      have := ih (m := 0) (ρ := ρ) (σ := 2 * σ + 1) (by omega) (by omega)
      exact this
    | succ m => exact ih (m := m) (ρ := 2 * ρ + 1) (σ := 2 * σ + 1) (by omega) (by omega)
abbrev kS (scr dk : D) (w : Nat) (m3 : Md) (rows : List (List Int)) (m5 : Md) (K : List (List Int)) (s6 s7 : Option (Md × D)) : DEnv := [some (.brw, scr), some (.own, dk), some (.own, .int (w : Int)), some (m3, .lst (rows.map rowD)), some (.own, .lst (rows.map rowD)), some (m5, .lst (K.map rowD)), s6, s7, none]
def inB2 : Stm := (sSeq (sIfE (eB (eOp (.own (eK (.fin [.pur (hVar 7), .pur (hVar 6)]) (callK [.b, .b] fn_law_product)) (.fin [.pur (hC (.int 0))])) gNe)) (sSeq (sRet (eP (hC (.bl false))))
  sNop) sNop)
  sNop)
def inB1 : Stm := (sSeq (sIfE (eNot (eB (eK (.fin [.pur (hVar 6), .pur (hVar 2)]) (callK [.b, .b] fn_law_is_row)))) (sSeq (sRet (eP (hC (.bl false))))
  sNop) sNop)
  (sSeq (sFor [.plc 3 (pVar 3)] mkSeq (bName 7) [7] inB2)
  sNop))
noncomputable def lEnd : Stm := (sSeq (sIfE (eB (eOp (.own (eK (.fin [.plc 5 (pVar 5)]) (callK [.b] fn_law_rank)) (.fin [.pur (hOp [.plc 5 (pVar 5)] gLen)])) gNe)) (sSeq (sRet (eP (hC (.bl false))))
  sNop) sNop)
  (sSeq (sSet 8 (eOp (.fin [.plc 5 (pVar 5)]) gListOf))
  (sSeq (sExpr (isL 5 (eK (.io 5 (.fin [.pur (hOp [.pur (hOp [.pur (hC (.int 1))] fTup), .pur (hVar 2)] gRepT)])) appK)))
  (sSeq (sRet (eAndV (eOp (.own (eK (.fin [.plc 4 (pVar 4), .pur (hVar 2)]) (callK [.b, .b] fn_kernel)) (.fin [.plc 8 (pVar 8)])) gEq) (eP (hOp [.plc 4 (pVar 4), .plc 3 (pVar 3)] gEq))))
  sNop))))
theorem law_eq : b_law = (sSeq (sSet 1 (eK (.fin [.plc 0 (pVar 0), .pur (hC (.int 80))]) (callK [.b, .b] fn_law_numbers)))
  (sSeq (sSet 2 (eK (.io 1 (.fin [.pur (hC (.int 7))])) (callK [.io, .b] fn_law_draw)))
  (sSeq (sSet 3 (eK (.io 1 (.fin [.pur (hVar 2)])) (callK [.io, .b] fn_law_rows)))
  (sSeq (sSet 4 (eOp (.fin [.plc 3 (pVar 3)]) gListOf))
  (sSeq (sSet 5 (eK (.fin [.plc 4 (pVar 4), .pur (hVar 2)]) (callK [.b, .b] fn_kernel)))
  (sSeq (sIfE (eOr (eBp (hNot (hB (hOp [.plc 5 (pVar 5)] (gIsi "list"))))) (eB (eOp (.pur (hOp [.plc 5 (pVar 5)] gLen) (.own (eOp (.pur (hVar 2) (.own (eK (.fin [.plc 3 (pVar 3)]) (callK [.b] fn_law_rank)) (.fin []))) gSub) (.fin []))) gNe))) (sSeq (sRet (eP (hC (.bl false))))
  sNop) sNop)
  (sSeq (sFor [.plc 5 (pVar 5)] mkSeq (bName 6) [6, 7] inB1)
  lEnd))))))) := rfl
section
variable {rows K : List (List Int)} {w : Nat}
theorem rank_K (hw : w ≤ 6) (hK : KE rows w 132 K) : fn_law_rank [.lst (K.map rowD)] = .ok (.int (K.length : Int), []) := by
  have h := rank_ok (rows := K) (w := w) (β := be 132 w) (by omega) (fun b hb => ⟨(hK.bd b hb).1, (hK.bd b hb).2.mono (be_mono 132 (by omega))⟩) (by have := hK.len; omega) (by
    have h1 : be 132 w ≤ be 132 6 := be_mono 132 hw
    have h2 : SBr (be 132 w) K.length ≤ SBr (be 132 6) 6 := SBr_mono (by have := hK.len; omega) h1
    exact Nat.le_trans h2 (by decide))
  rw [hK.free] at h
  exact h
theorem st6 (scr dk : D) (hw : w ≤ 6) (hr : ∀ r ∈ rows, r.length = w ∧ BdL 132 r) (hl : rows.length ≤ 7) (hK : KE rows w 132 K) : (sIfE (eOr (eBp (hNot (hB (hOp [.plc 5 (pVar 5)] (gIsi "list"))))) (eB (eOp (.pur (hOp [.plc 5 (pVar 5)] gLen) (.own (eOp (.pur (hVar 2) (.own (eK (.fin [.plc 3 (pVar 3)]) (callK [.b] fn_law_rank)) (.fin []))) gSub) (.fin []))) gNe))) (sSeq (sRet (eP (hC (.bl false))))
  sNop) sNop) (kS scr dk w .own rows .own K none none) = .ok (.nx (kS scr dk w .own rows .own K none none)) := by
  have h := rank_ok (rows := rows) (w := w) (β := 132) (by omega) hr (by omega) (Nat.le_trans (SBr_mono (n := 7) hl (Nat.le_refl _)) (by decide))
  have hc := hK.cnt
  have hci : (w : Int) - ((nI w [] rows : Nat) : Int) = (K.length : Int) := by omega
  have hKl : (K.map rowD).length = K.length := List.length_map _
  clear hr hK hc
  dsimp only [kS]
  generalize ((nI w [] rows : Nat) : Int) = N at *
  generalize rows.map rowD = RD at *
  generalize K.map rowD = KD at *
  simp [tyLe, hKl, h, hci]
theorem st7 (scr dk : D) (hw : w ≤ 6) (hr : ∀ r ∈ rows, r.length = w ∧ BdL 132 r) (hl : rows.length ≤ 7) (hK : KE rows w 132 K) (hbe : be 132 w ≤ 100000) : (sFor [.plc 5 (pVar 5)] mkSeq (bName 6) [6, 7] inB1) (kS scr dk w .own rows .own K none none) = .ok (.nx (kS scr dk w .own rows .own K none none)) := by
  have hRl : (rows.map rowD).length < 16777216 := by rw [List.length_map]; omega
  have hKl : (K.map rowD).length < 16777216 := by rw [List.length_map]; have := hK.len; omega
  have hin : ∀ b ∈ K, forD (bName 7) [7] inB2 (rows.map rowD) (kS scr dk w .lck rows .lck K (some (.own, rowD b)) none) = .ok (.nx (kS scr dk w .lck rows .lck K (some (.own, rowD b)) none)) := fun b hb => by
    have hbb := hK.bd b hb
    have hf := (forD_foldI (bd := bName 7) (cl := [7]) (body := inB2) (st := fun _ : Unit => kS scr dk w .lck rows .lck K (some (.own, rowD b)) none) (f := fun u _ => u) (φ := rowD) (I := fun _ _ => True) rows 0 () trivial fun j _ r hrj _ => ⟨trivial, by
      have hrm := List.mem_of_getElem? hrj
      have hr2 := hr r hrm
      have hp := law_product_ok r b (hr2.1.trans hbb.1.symm) (by omega) (fun x hx => (hr2.2 x hx).mono (by omega)) (fun x hx => (hbb.2 x hx).mono (by have := be_mono 132 (show w - K.length ≤ w by omega); omega))
      rw [dot_dt, dt_comm, hK.or r hrm b hb] at hp
      have pr := pureL_ints r
      have pb := pureL_ints b
      dsimp only [kS, rowD] at *
      generalize rows.map (fun r => D.tup (r.map D.int)) = RD at *
      generalize K.map (fun r => D.tup (r.map D.int)) = KD at *
      generalize r.map D.int = R at *
      generalize b.map D.int = BD at *
      unfold Turn1 inB2
      simp [hp, pr, pb]⟩).1
    exact hf
  have hf := (forD_foldI (bd := bName 6) (cl := [6, 7]) (body := inB1) (st := fun _ : Unit => kS scr dk w .own rows .lck K none none) (f := fun u _ => u) (φ := rowD) (I := fun _ _ => True) K 0 () trivial fun j _ b hbj _ => ⟨trivial, by
    have hbm := List.mem_of_getElem? hbj
    have hbb := hK.bd b hbm
    have hir := is_row_ok b w hbb.1 (by omega)
    have hi := hin b hbm
    have pb := pureL_ints b
    dsimp only [kS, rowD] at *
    generalize rows.map (fun r => D.tup (r.map D.int)) = RD at *
    generalize K.map (fun r => D.tup (r.map D.int)) = KD at *
    generalize b.map D.int = BD at *
    unfold Turn1 inB1
    simp [hir, hi, pb, hRl]⟩).1
  have hf : forD (bName 6) [6, 7] inB1 (K.map rowD) (kS scr dk w .own rows .lck K none none) = .ok (.nx (kS scr dk w .own rows .lck K none none)) := hf
  clear hin hr hK
  dsimp only [kS] at *
  generalize rows.map rowD = RD at *
  generalize K.map rowD = KD at *
  simp [hf, hKl]
theorem end_ok (scr dk : D) (hw : w ≤ 6) (hK : KE rows w 132 K) (hk : fn_kernel [.lst (rows.map rowD), .int (w : Int)] = .ok (.lst (K.map rowD), [])) : ∃ e, lEnd (kS scr dk w .own rows .own K none none) = .ok (.rt (.bl true) e) := by
  have h := rank_K hw hK
  have hKl : (K.map rowD).length = K.length := List.length_map _
  have hK2 : K.length < 16777216 := by have := hK.len; omega
  have s1 := rows_same rows
  have s2 := rows_same K
  have pR := rows_pure rows
  have pK := rows_pure K
  have hw1 : (-1000 : Int) ≤ (w : Int) := by omega
  have hw2 : (w : Int) ≤ 1000 := by omega
  have hw3 : w ≤ 16777216 := by omega
  have hrp := rep_int w 1
  have pz := pureL_ints (List.replicate w 1)
  refine outv_ok ?_
  clear hK
  dsimp only [kS]
  generalize (List.replicate w (1 : Int)).map D.int = ZD at *
  generalize rows.map rowD = RD at *
  generalize K.map rowD = KD at *
  unfold lEnd
  simp [h, hKl, hK2, s1, s2, pR, pK, hk, flat_one, hrp, hw1, hw2, hw3, pz]
  rfl
end
theorem law_true (ns : List Int) (hl : ns.length ≤ 63) (hb : ∀ z ∈ ns, Builtin.Int.intBits z ≤ 1048576) : fn_law [.scr ns] = .ok (.bl true, []) := by
  obtain ⟨deck0, e0, _⟩ := numbers_ok ns 80 (by decide) hl
  obtain ⟨w, deck1, e1, w1⟩ := draw_ex deck0 7 (by decide)
  change fn_law_numbers [_, .int 80] = _ at e0
  change fn_law_draw [_, .int 7] = _ at e1
  have hw : w ≤ 6 := by omega
  obtain ⟨rows, deck2, e2, r1, r2⟩ := law_rows_ok hw deck1
  obtain ⟨q1, q2⟩ := bnds hw
  obtain ⟨K, k1, k2⟩ := kernel_ok (rows := rows) (w := w) (ρ := 132) (by omega) r2 (by omega) (by decide) q1 q2
  have t6 := st6 (.scr ns) (.lst (deck2.map .int)) hw r2 r1 k2
  have t7 := st7 (.scr ns) (.lst (deck2.map .int)) hw r2 r1 k2 q2
  obtain ⟨e, he⟩ := end_ok (.scr ns) (.lst (deck2.map .int)) hw k2 k1
  have hRl : (rows.map rowD).length < 16777216 := by rw [List.length_map]; omega
  have pR := rows_pure rows
  have t1 : (sSet 1 (eK (.fin [.plc 0 (pVar 0), .pur (hC (.int 80))]) (callK [.b, .b] fn_law_numbers))) [some (.brw, .scr ns), none, none, none, none, none, none, none, none] = .ok (.nx [some (.brw, .scr ns), some (.own, .lst (deck0.map .int)), none, none, none, none, none, none, none]) := by
    generalize deck0.map D.int = DK at *
    simp [e0]
  have t2 : (sSet 2 (eK (.io 1 (.fin [.pur (hC (.int 7))])) (callK [.io, .b] fn_law_draw))) [some (.brw, .scr ns), some (.own, .lst (deck0.map .int)), none, none, none, none, none, none, none] = .ok (.nx [some (.brw, .scr ns), some (.own, .lst (deck1.map .int)), some (.own, .int (w : Int)), none, none, none, none, none, none]) := by
    generalize deck0.map D.int = DK at *
    generalize deck1.map D.int = DK1 at *
    simp [e1]
  have t3 : (sSet 3 (eK (.io 1 (.fin [.pur (hVar 2)])) (callK [.io, .b] fn_law_rows))) [some (.brw, .scr ns), some (.own, .lst (deck1.map .int)), some (.own, .int (w : Int)), none, none, none, none, none, none] = .ok (.nx [some (.brw, .scr ns), some (.own, .lst (deck2.map .int)), some (.own, .int (w : Int)), some (.own, .lst (rows.map rowD)), none, none, none, none, none]) := by
    generalize deck1.map D.int = DK at *
    generalize deck2.map D.int = DK1 at *
    generalize rows.map rowD = RD at *
    simp [e2]
  have t4 : (sSet 4 (eOp (.fin [.plc 3 (pVar 3)]) gListOf)) [some (.brw, .scr ns), some (.own, .lst (deck2.map .int)), some (.own, .int (w : Int)), some (.own, .lst (rows.map rowD)), none, none, none, none, none] = .ok (.nx [some (.brw, .scr ns), some (.own, .lst (deck2.map .int)), some (.own, .int (w : Int)), some (.own, .lst (rows.map rowD)), some (.own, .lst (rows.map rowD)), none, none, none, none]) := by
    generalize deck2.map D.int = DK1 at *
    generalize rows.map rowD = RD at *
    simp [hRl, pR]
  have t5 : (sSet 5 (eK (.fin [.plc 4 (pVar 4), .pur (hVar 2)]) (callK [.b, .b] fn_kernel))) [some (.brw, .scr ns), some (.own, .lst (deck2.map .int)), some (.own, .int (w : Int)), some (.own, .lst (rows.map rowD)), some (.own, .lst (rows.map rowD)), none, none, none, none] = .ok (.nx (kS (.scr ns) (.lst (deck2.map .int)) w .own rows .own K none none)) := by
    dsimp only [kS]
    generalize deck2.map D.int = DK1 at *
    generalize rows.map rowD = RD at *
    generalize K.map rowD = KD at *
    simp [k1]
  have hb : b_law (startD 9 [.b] [.scr ns]) = .ok (.rt (.bl true) e) := by
    have hs : startD 9 [.b] [.scr ns] = [some (.brw, .scr ns), none, none, none, none, none, none, none, none] := rfl
    rw [law_eq, hs, seq_nx t1, seq_nx t2, seq_nx t3, seq_nx t4, seq_nx t5, seq_nx t6, seq_nx t7]
    exact he
  unfold fn_law runFn
  rw [if_pos (show [D.scr ns].length = [Pm.b].length from rfl), hb]
  rfl
end DL

namespace DL
open PySem PySem.Spec PyProof.Rows L2
noncomputable section
def topS (i : Nat) : Stmt := PySem.Challenge.pw_netfinder_k41_kernels.main.body.getD i (.Pass ⟨0, 0, 0, 0⟩)
abbrev s_product : Stmt := topS 1
abbrev N_product : List Str := ["one", "other", "total", "a", "b"]
abbrev P_product : List Str := ["one", "other"]
theorem sc_product : FnScope N_product P_product (defScope s_product) := ⟨rfl, rfl, rfl, by decide +kernel, rfl, by decide +kernel, by decide +kernel⟩
abbrev s_divisor : Stmt := topS 2
abbrev N_divisor : List Str := ["one", "other"]
abbrev P_divisor : List Str := ["one", "other"]
theorem sc_divisor : FnScope N_divisor P_divisor (defScope s_divisor) := ⟨rfl, rfl, rfl, by decide +kernel, rfl, by decide +kernel, by decide +kernel⟩
abbrev s_lowest : Stmt := topS 3
abbrev N_lowest : List Str := ["numbers", "by", "number"]
abbrev P_lowest : List Str := ["numbers"]
theorem sc_lowest : FnScope N_lowest P_lowest (defScope s_lowest) := ⟨rfl, rfl, rfl, by decide +kernel, rfl, by decide +kernel, by decide +kernel⟩
abbrev s_blended : Stmt := topS 4
abbrev N_blended : List Str := ["one", "times", "other", "more", "a", "b"]
abbrev P_blended : List Str := ["one", "times", "other", "more"]
theorem sc_blended : FnScope N_blended P_blended (defScope s_blended) := ⟨rfl, rfl, rfl, by decide +kernel, rfl, by decide +kernel, by decide +kernel⟩
abbrev s_unit : Stmt := topS 5
abbrev N_unit : List Str := ["width", "place"]
abbrev P_unit : List Str := ["width", "place"]
theorem sc_unit : FnScope N_unit P_unit (defScope s_unit) := ⟨rfl, rfl, rfl, by decide +kernel, rfl, by decide +kernel, by decide +kernel⟩
abbrev s_kernel_with : Stmt := topS 7
abbrev N_kernel_with : List Str := ["basis", "row", "values", "chosen", "at", "found", "k", "one", "value"]
abbrev P_kernel_with : List Str := ["basis", "row"]
theorem sc_kernel_with : FnScope N_kernel_with P_kernel_with (defScope s_kernel_with) := ⟨rfl, rfl, rfl, by decide +kernel, rfl, by decide +kernel, by decide +kernel⟩
abbrev s_kernel : Stmt := topS 8
abbrev N_kernel : List Str := ["rows", "width", "basis", "row", "k"]
abbrev P_kernel : List Str := ["rows", "width"]
theorem sc_kernel : FnScope N_kernel P_kernel (defScope s_kernel) := ⟨rfl, rfl, rfl, by decide +kernel, rfl, by decide +kernel, by decide +kernel⟩
abbrev s_law_numbers : Stmt := topS 10
abbrev N_law_numbers : List Str := ["_law_script", "_law_most", "_law_deck", "_law_last", "_law_cell"]
abbrev P_law_numbers : List Str := ["_law_script", "_law_most"]
theorem sc_law_numbers : FnScope N_law_numbers P_law_numbers (defScope s_law_numbers) := ⟨rfl, rfl, rfl, by decide +kernel, rfl, by decide +kernel, by decide +kernel⟩
abbrev s_law_draw : Stmt := topS 11
abbrev N_law_draw : List Str := ["_law_deck", "_law_most"]
abbrev P_law_draw : List Str := ["_law_deck", "_law_most"]
theorem sc_law_draw : FnScope N_law_draw P_law_draw (defScope s_law_draw) := ⟨rfl, rfl, rfl, by decide +kernel, rfl, by decide +kernel, by decide +kernel⟩
abbrev s_law_number : Stmt := topS 12
abbrev N_law_number : List Str := ["_law_deck", "_law_number_here"]
abbrev P_law_number : List Str := ["_law_deck"]
theorem sc_law_number : FnScope N_law_number P_law_number (defScope s_law_number) := ⟨rfl, rfl, rfl, by decide +kernel, rfl, by decide +kernel, by decide +kernel⟩
abbrev s_law_row : Stmt := topS 13
abbrev N_law_row : List Str := ["_law_deck", "_law_width", "_law_k"]
abbrev P_law_row : List Str := ["_law_deck", "_law_width"]
theorem sc_law_row : FnScope N_law_row P_law_row (defScope s_law_row) := ⟨rfl, rfl, rfl, by decide +kernel, rfl, by decide +kernel, by decide +kernel⟩
abbrev s_law_product : Stmt := topS 14
abbrev N_law_product : List Str := ["_law_one", "_law_other", "_law_total", "_law_k"]
abbrev P_law_product : List Str := ["_law_one", "_law_other"]
theorem sc_law_product : FnScope N_law_product P_law_product (defScope s_law_product) := ⟨rfl, rfl, rfl, by decide +kernel, rfl, by decide +kernel, by decide +kernel⟩
abbrev s_law_sum : Stmt := topS 15
abbrev N_law_sum : List Str := ["_law_rows_here", "_law_numbers_here", "_law_width", "_law_due", "_law_row_here", "_law_number_here", "_law_k"]
abbrev P_law_sum : List Str := ["_law_rows_here", "_law_numbers_here", "_law_width"]
theorem sc_law_sum : FnScope N_law_sum P_law_sum (defScope s_law_sum) := ⟨rfl, rfl, rfl, by decide +kernel, rfl, by decide +kernel, by decide +kernel⟩
abbrev s_law_whole : Stmt := topS 16
abbrev N_law_whole : List Str := ["_law_found"]
abbrev P_law_whole : List Str := ["_law_found"]
theorem sc_law_whole : FnScope N_law_whole P_law_whole (defScope s_law_whole) := ⟨rfl, rfl, rfl, by decide +kernel, rfl, by decide +kernel, by decide +kernel⟩
abbrev s_law_is_row : Stmt := topS 17
abbrev N_law_is_row : List Str := ["_law_told", "_law_width", "_law_number_here"]
abbrev P_law_is_row : List Str := ["_law_told", "_law_width"]
theorem sc_law_is_row : FnScope N_law_is_row P_law_is_row (defScope s_law_is_row) := ⟨rfl, rfl, rfl, by decide +kernel, rfl, by decide +kernel, by decide +kernel⟩
abbrev s_law_rank : Stmt := topS 19
abbrev N_law_rank : List Str := ["_law_rows_here", "_law_left", "_law_rank_here", "_law_top", "_law_place", "_law_further", "_law_row_here", "_law_lower", "_law_k", "_law_number_here"]
abbrev P_law_rank : List Str := ["_law_rows_here"]
theorem sc_law_rank : FnScope N_law_rank P_law_rank (defScope s_law_rank) := ⟨rfl, rfl, rfl, by decide +kernel, rfl, by decide +kernel, by decide +kernel⟩
abbrev s_law_rows : Stmt := topS 20
abbrev N_law_rows : List Str := ["_law_deck", "_law_width", "_law_rows_here", "_law_k", "_law_row_here", "_law_way"]
abbrev P_law_rows : List Str := ["_law_deck", "_law_width"]
theorem sc_law_rows : FnScope N_law_rows P_law_rows (defScope s_law_rows) := ⟨rfl, rfl, rfl, by decide +kernel, rfl, by decide +kernel, by decide +kernel⟩
abbrev s_law : Stmt := topS 21
abbrev N_law : List Str := ["_law_script", "_law_deck", "_law_width", "_law_rows_here", "_law_handed", "_law_told", "_law_other", "_law_row_here", "_law_kept"]
abbrev P_law : List Str := ["_law_script"]
theorem sc_law : FnScope N_law P_law (defScope s_law) := ⟨rfl, rfl, rfl, by decide +kernel, rfl, by decide +kernel, by decide +kernel⟩
/-- what the top has written -/
structure Fx (K : PySem.W.Frag) (mg : Str → Option Value) where
  f_product : Addr
  d_product : FuncData
  F_product : L2.Fun K "product" "product" s_product f_product d_product
  b_product : Binds K d_product P_product []
  g_product : mg "product" = some (.ref f_product)
  f_divisor : Addr
  d_divisor : FuncData
  F_divisor : L2.Fun K "divisor" "divisor" s_divisor f_divisor d_divisor
  b_divisor : Binds K d_divisor P_divisor []
  g_divisor : mg "divisor" = some (.ref f_divisor)
  f_lowest : Addr
  d_lowest : FuncData
  F_lowest : L2.Fun K "lowest" "lowest" s_lowest f_lowest d_lowest
  b_lowest : Binds K d_lowest P_lowest []
  g_lowest : mg "lowest" = some (.ref f_lowest)
  f_blended : Addr
  d_blended : FuncData
  F_blended : L2.Fun K "blended" "blended" s_blended f_blended d_blended
  b_blended : Binds K d_blended P_blended []
  g_blended : mg "blended" = some (.ref f_blended)
  f_unit : Addr
  d_unit : FuncData
  F_unit : L2.Fun K "unit" "unit" s_unit f_unit d_unit
  b_unit : Binds K d_unit P_unit []
  g_unit : mg "unit" = some (.ref f_unit)
  f_kernel_with : Addr
  d_kernel_with : FuncData
  F_kernel_with : L2.Fun K "kernel_with" "kernel_with" s_kernel_with f_kernel_with d_kernel_with
  b_kernel_with : Binds K d_kernel_with P_kernel_with []
  g_kernel_with : mg "kernel_with" = some (.ref f_kernel_with)
  f_kernel : Addr
  d_kernel : FuncData
  F_kernel : L2.Fun K "kernel" "kernel" s_kernel f_kernel d_kernel
  b_kernel : Binds K d_kernel P_kernel []
  g_kernel : mg "kernel" = some (.ref f_kernel)
  f_law_numbers : Addr
  d_law_numbers : FuncData
  F_law_numbers : L2.Fun K "_law_numbers" "_law_numbers" s_law_numbers f_law_numbers d_law_numbers
  b_law_numbers : Binds K d_law_numbers P_law_numbers []
  g_law_numbers : mg "_law_numbers" = some (.ref f_law_numbers)
  f_law_draw : Addr
  d_law_draw : FuncData
  F_law_draw : L2.Fun K "_law_draw" "_law_draw" s_law_draw f_law_draw d_law_draw
  b_law_draw : Binds K d_law_draw P_law_draw []
  g_law_draw : mg "_law_draw" = some (.ref f_law_draw)
  f_law_number : Addr
  d_law_number : FuncData
  F_law_number : L2.Fun K "_law_number" "_law_number" s_law_number f_law_number d_law_number
  b_law_number : Binds K d_law_number P_law_number []
  g_law_number : mg "_law_number" = some (.ref f_law_number)
  f_law_row : Addr
  d_law_row : FuncData
  F_law_row : L2.Fun K "_law_row" "_law_row" s_law_row f_law_row d_law_row
  b_law_row : Binds K d_law_row P_law_row []
  g_law_row : mg "_law_row" = some (.ref f_law_row)
  f_law_product : Addr
  d_law_product : FuncData
  F_law_product : L2.Fun K "_law_product" "_law_product" s_law_product f_law_product d_law_product
  b_law_product : Binds K d_law_product P_law_product []
  g_law_product : mg "_law_product" = some (.ref f_law_product)
  f_law_sum : Addr
  d_law_sum : FuncData
  F_law_sum : L2.Fun K "_law_sum" "_law_sum" s_law_sum f_law_sum d_law_sum
  b_law_sum : Binds K d_law_sum P_law_sum []
  g_law_sum : mg "_law_sum" = some (.ref f_law_sum)
  f_law_whole : Addr
  d_law_whole : FuncData
  F_law_whole : L2.Fun K "_law_whole" "_law_whole" s_law_whole f_law_whole d_law_whole
  b_law_whole : Binds K d_law_whole P_law_whole []
  g_law_whole : mg "_law_whole" = some (.ref f_law_whole)
  f_law_is_row : Addr
  d_law_is_row : FuncData
  F_law_is_row : L2.Fun K "_law_is_row" "_law_is_row" s_law_is_row f_law_is_row d_law_is_row
  b_law_is_row : Binds K d_law_is_row P_law_is_row []
  g_law_is_row : mg "_law_is_row" = some (.ref f_law_is_row)
  f_law_rank : Addr
  d_law_rank : FuncData
  F_law_rank : L2.Fun K "_law_rank" "_law_rank" s_law_rank f_law_rank d_law_rank
  b_law_rank : Binds K d_law_rank P_law_rank []
  g_law_rank : mg "_law_rank" = some (.ref f_law_rank)
  f_law_rows : Addr
  d_law_rows : FuncData
  F_law_rows : L2.Fun K "_law_rows" "_law_rows" s_law_rows f_law_rows d_law_rows
  b_law_rows : Binds K d_law_rows P_law_rows []
  g_law_rows : mg "_law_rows" = some (.ref f_law_rows)
  f_law : Addr
  d_law : FuncData
  F_law : L2.Fun K "law" "law" s_law f_law d_law
  b_law : Binds K d_law P_law []
  g_law : mg "law" = some (.ref f_law)
  n_abs : mg "abs" = none
  n_bool : mg "bool" = none
  n_enumerate : mg "enumerate" = none
  n_int : mg "int" = none
  n_isinstance : mg "isinstance" = none
  n_len : mg "len" = none
  n_list : mg "list" = none
  n_range : mg "range" = none
  n_reversed : mg "reversed" = none
  n_sum : mg "sum" = none
  n_tuple : mg "tuple" = none
  n_zip : mg "zip" = none
section
variable {P : Program} {w : World} {K : PySem.W.Frag} {mg : Str → Option Value} {base : Heap} {cl : Str → Option Addr}
theorem ok_product {k : Nat} (fx : Fx K mg) : FnOk P w K mg base (L2.CX P w) (k + 1) fx.f_product fx.d_product P_product (spD ⟨K, cl⟩ [.b, .b] fn_product) := by
  refine def_ok (k := k + 0) (N := N_product) (ms := [.b, .b]) (body := b_product) fx.F_product sc_product rfl fun cdv A outer s H E W hr dw hp => ?_
  exact (s_cons (s_set dw.dx rfl (by first | exact .inl rfl | exact .inr rfl) (e_p p_int))
  (s_cons (s_for [3, 4] dw.dx hp (i_zip [.pur (hVar 0), .pur (hVar 1)] dw.dx (by rfl) fx.n_zip (pa_cons (p_var (pv 0)) (pa_cons (p_var (pv 1)) pa_nil))) (pg_tup rfl (pgs_cons (pg_name (i := 3) sc_product.nd rfl (by first | exact .inl rfl | exact .inr rfl)) (pgs_cons (pg_name (i := 4) sc_product.nd rfl (by first | exact .inl rfl | exact .inr rfl)) pgs_nil))) (bind_tup rfl (binds_cons bind_name (binds_cons bind_name binds_nil)) (bCons_len (bCons_len bNil_len))) (s_cons (s_aug dw.dx rfl (by first | exact .inl rfl | exact .inr rfl) ip_add (e_p (p_binPP op_mulD rop_mul pure_mul (p_var (pv 3)) (p_var (pv 4)))))
  s_nil))
  (s_cons (s_ret (e_p (p_var (pv 2))))
  s_nil)))
theorem ok_divisor {k : Nat} (fx : Fx K mg) : FnOk P w K mg base (L2.CX P w) (k + 1) fx.f_divisor fx.d_divisor P_divisor (spD ⟨K, cl⟩ [.b, .b] fn_divisor) := by
  refine def_ok (k := k + 0) (N := N_divisor) (ms := [.b, .b]) (body := b_divisor) fx.F_divisor sc_divisor rfl fun cdv A outer s H E W hr dw hp => ?_
  exact (s_cons (s_set dw.dx rfl (by first | exact .inl rfl | exact .inr rfl) (e_p (p_abs (hs := [.pur (hVar 0)]) dw.dx (by rfl) fx.n_abs (pa_cons (p_var (pv 0)) pa_nil))))
  (s_cons (s_set dw.dx rfl (by first | exact .inl rfl | exact .inr rfl) (e_p (p_abs (hs := [.pur (hVar 1)]) dw.dx (by rfl) fx.n_abs (pa_cons (p_var (pv 1)) pa_nil))))
  (s_cons (s_while hp (t_p (t_cmpPP op_gt rop_gt pure_gt (p_var (pv 1)) p_int)) (s_cons (s_par 0 1 [.pur (hVar 1), .pur (hOp [.pur (hVar 0), .pur (hVar 1)] gMod)] dw.dx rfl rfl (pa_cons (p_var (pv 1)) (pa_cons (p_binPP op_mod rop_mod pure_mod (p_var (pv 0)) (p_var (pv 1))) pa_nil)) rfl rfl)
  s_nil))
  (s_cons (s_ret (e_p (p_var (pv 0))))
  s_nil))))
theorem ok_lowest {k : Nat} (fx : Fx K mg) : FnOk P w K mg base (L2.CX P w) (k + 2) fx.f_lowest fx.d_lowest P_lowest (spD ⟨K, cl⟩ [.b] fn_lowest) := by
  refine def_ok (k := k + 1) (N := N_lowest) (ms := [.b]) (body := b_lowest) fx.F_lowest sc_lowest rfl fun cdv A outer s H E W hr dw hp => ?_
  exact (s_cons (s_set dw.dx rfl (by first | exact .inl rfl | exact .inr rfl) (e_p p_int))
  (s_cons (s_for [2] dw.dx hp (i_seq (.pur (hVar 0)) dw.dx (p_var (pv 0))) (pg_name (i := 2) sc_lowest.nd rfl (by first | exact .inl rfl | exact .inr rfl)) bind_name (s_cons (s_set dw.dx rfl (by first | exact .inl rfl | exact .inr rfl) (e_call dw (ok_divisor (k := k + 0) fx) hr (by rfl) fx.g_divisor fx.F_divisor.kp fx.b_divisor (.fin [.pur (hVar 1), .pur (hVar 2)]) (pa_cons (p_var (pv 1)) (pa_cons (p_var (pv 2)) pa_nil))))
  s_nil))
  (s_cons (s_if (t_cmpPP op_ltA rop_lt pure_lt (p_var (pv 1)) p_int) (s_cons (s_ret (e_p (p_tupOf (hs := [.pur (hVar 0)]) dw.dx (by rfl) fx.n_tuple (pa_cons (p_var (pv 0)) pa_nil))))
  s_nil) s_nil)
  (s_cons (s_ret (e_tupOf dw.dx (by rfl) fx.n_tuple (.own (lcE [.pur (hVar 0)] mkSeq (bName 2) eYes (eP (hOp [.pur (hVar 2), .pur (hVar 1)] gDiv)) [2]) (.fin [])) (pa_cons (e_lc (own := [("number", 2)]) dw.dx (i_seq (.pur (hVar 0)) dw.dx (p_var (pv 0))) (blkOk_by (N := N_lowest) (sc := (defScope s_lowest)) (by decide +kernel)) bind_name (fun _ _ _ _ _ => (pg_name (i := 2) sc_lowest.nd rfl (by first | exact .inl rfl | exact .inr rfl))) (fun _ _ _ _ _ => ts_nil) (fun _ _ _ _ _ => (e_p (p_binPP op_fdivW rop_div pure_div (p_var (pv 2)) (p_var (pv 1)))))) pa_nil)))
  s_nil))))
theorem ok_blended {k : Nat} (fx : Fx K mg) : FnOk P w K mg base (L2.CX P w) (k + 1) fx.f_blended fx.d_blended P_blended (spD ⟨K, cl⟩ [.b, .b, .b, .b] fn_blended) := by
  refine def_ok (k := k + 0) (N := N_blended) (ms := [.b, .b, .b, .b]) (body := b_blended) fx.F_blended sc_blended rfl fun cdv A outer s H E W hr dw hp => ?_
  exact (s_cons (s_ret (e_tupOf dw.dx (by rfl) fx.n_tuple (.own (lcE [.pur (hVar 0), .pur (hVar 2)] mkZip (bTup (bCons (bName 4) (bCons (bName 5) bNil))) eYes (eP (hOp [.pur (hOp [.pur (hVar 4), .pur (hVar 1)] gMul), .pur (hOp [.pur (hVar 5), .pur (hVar 3)] gMul)] gAdd)) [4, 5]) (.fin [])) (pa_cons (e_lc (own := [("a", 4), ("b", 5)]) dw.dx (i_zip [.pur (hVar 0), .pur (hVar 2)] dw.dx (by rfl) fx.n_zip (pa_cons (p_var (pv 0)) (pa_cons (p_var (pv 2)) pa_nil))) (blkOk_by (N := N_blended) (sc := (defScope s_blended)) (by decide +kernel)) (bind_tup rfl (binds_cons bind_name (binds_cons bind_name binds_nil)) (bCons_len (bCons_len bNil_len))) (fun _ _ _ _ _ => (pg_tup rfl (pgs_cons (pg_name (i := 4) sc_blended.nd rfl (by first | exact .inl rfl | exact .inr rfl)) (pgs_cons (pg_name (i := 5) sc_blended.nd rfl (by first | exact .inl rfl | exact .inr rfl)) pgs_nil)))) (fun _ _ _ _ _ => ts_nil) (fun _ _ _ _ _ => (e_p (p_binPP op_addA rop_add pure_add (p_binPP op_mulD rop_mul pure_mul (p_var (pv 4)) (p_var (pv 1))) (p_binPP op_mulD rop_mul pure_mul (p_var (pv 5)) (p_var (pv 3))))))) pa_nil)))
  s_nil)
theorem ok_unit {k : Nat} (fx : Fx K mg) : FnOk P w K mg base (L2.CX P w) (k + 1) fx.f_unit fx.d_unit P_unit (spD ⟨K, cl⟩ [.b, .b] fn_unit) := by
  refine def_ok (k := k + 0) (N := N_unit) (ms := [.b, .b]) (body := b_unit) fx.F_unit sc_unit rfl fun cdv A outer s H E W hr dw hp => ?_
  exact (s_cons (s_ret (e_p (p_binPP op_addA rop_add pure_add (p_binPP op_addA rop_add pure_add (p_binPP op_repAny rop_repT pure_repT (p_tup (hs := [.pur (hC (.int 0))]) (pa_cons p_int pa_nil)) (p_var (pv 1))) (p_tup (hs := [.pur (hC (.int 1))]) (pa_cons p_int pa_nil))) (p_binPP op_repAny rop_repT pure_repT (p_tup (hs := [.pur (hC (.int 0))]) (pa_cons p_int pa_nil)) (p_binPP op_sub rop_sub pure_sub (p_binPP op_sub rop_sub pure_sub (p_var (pv 0)) (p_var (pv 1))) p_int)))))
  s_nil)
theorem ok_kernel_with {k : Nat} (fx : Fx K mg) : FnOk P w K mg base (L2.CX P w) (k + 3) fx.f_kernel_with fx.d_kernel_with P_kernel_with (spD ⟨K, cl⟩ [.mv, .b] fn_kernel_with) := by
  refine def_ok (k := k + 2) (N := N_kernel_with) (ms := [.mv, .b]) (body := b_kernel_with) fx.F_kernel_with sc_kernel_with rfl fun cdv A outer s H E W hr dw hp => ?_
  exact (s_cons (s_setLc (own := [("one", 7)]) dw.dx rfl rfl (sw_true rfl rfl rfl (by decide +kernel)) (i_seq (.plc 0 (pVar 0)) dw.dx (p_plc (pv 0))) (blkOk_by (N := N_kernel_with) (sc := (defScope s_kernel_with)) (by decide +kernel)) bind_name (fun _ _ _ _ _ => (pg_name (i := 7) sc_kernel_with.nd rfl (by first | exact .inl rfl | exact .inr rfl))) (fun _ _ _ _ _ => ts_nil) (fun _ _ _ _ _ => (e_call dw.blk (ok_product (k := k + 1) fx) hr (by rfl) fx.g_product fx.F_product.kp fx.b_product (.fin [.pur (hVar 7), .pur (hVar 1)]) (pa_cons (p_var (pv 7)) (pa_cons (p_var (pv 1)) pa_nil)))))
  (s_cons (s_setLc (own := [("k", 6), ("value", 8)]) dw.dx rfl rfl (sw_true rfl rfl rfl (by decide +kernel)) (i_enum [.plc 2 (pVar 2)] dw.dx (by rfl) fx.n_enumerate (pa_cons (p_plc (pv 2)) pa_nil)) (blkOk_by (N := N_kernel_with) (sc := (defScope s_kernel_with)) (by decide +kernel)) (bind_tup rfl (binds_cons bind_name (binds_cons bind_name binds_nil)) (bCons_len (bCons_len bNil_len))) (fun _ _ _ _ _ => (pg_tup rfl (pgs_cons (pg_name (i := 6) sc_kernel_with.nd rfl (by first | exact .inl rfl | exact .inr rfl)) (pgs_cons (pg_name (i := 8) sc_kernel_with.nd rfl (by first | exact .inl rfl | exact .inr rfl)) pgs_nil)))) (fun _ _ _ _ _ => (ts_one (t_p (t_cmpPP (op_neD (hu_eq1 dw.blk.dx)) rop_ne pure_ne (p_var (pv 8)) p_int)))) (fun _ _ _ _ _ => (e_p (p_var (pv 6)))))
  (s_cons (s_ifE (t_cmpE (op_eqD (hu_eq1 dw.dx)) rop_eq (.plc 3 (pVar 3) (.own (eK (.fin []) (dspK .lst)) (.fin []))) (p_plc (pv 3)) (e_lst (.fin []) pa_nil)) (s_cons (s_ret (e_mov (pv 0)))
  s_nil) s_nil)
  (s_cons (s_set dw.dx rfl (by first | exact .inl rfl | exact .inr rfl) (e_p (p_rd (l_ix dw.dx (p_plc (pv 3)) p_int))))
  (s_cons (s_set dw.dx rfl (by first | exact .inl rfl | exact .inr rfl) (e_lst (.fin []) pa_nil))
  (s_cons (s_for [6, 7] dw.dx hp (i_enum [.plc 0 (pVar 0)] dw.dx (by rfl) fx.n_enumerate (pa_cons (p_plc (pv 0)) pa_nil)) (pg_tup rfl (pgs_cons (pg_name (i := 6) sc_kernel_with.nd rfl (by first | exact .inl rfl | exact .inr rfl)) (pgs_cons (pg_name (i := 7) sc_kernel_with.nd rfl (by first | exact .inl rfl | exact .inr rfl)) pgs_nil))) (bind_tup rfl (binds_cons bind_name (binds_cons bind_name binds_nil)) (bCons_len (bCons_len bNil_len))) (s_cons (s_if (t_cmpPP (op_neD (hu_eq1 dw.dx)) rop_ne pure_ne (p_var (pv 6)) (p_var (pv 4))) (s_cons (s_expr (e_append dw.dx (pv 5) (.own (eK (.own (eK (.fin [.pur (hVar 7), .pur (hRd (pIx (pVar 2) (hVar 4))), .pur (hRd (pIx (pVar 0) (hVar 4))), .pur (hOp [.pur (hC (.int 0)), .pur (hRd (pIx (pVar 2) (hVar 6)))] gSub)]) (callK [.b, .b, .b, .b] fn_blended)) (.fin [])) (callK [.b] fn_lowest)) (.fin [])) (pa_cons (e_call dw (ok_lowest (k := k + 0) fx) hr (by rfl) fx.g_lowest fx.F_lowest.kp fx.b_lowest (.own (eK (.fin [.pur (hVar 7), .pur (hRd (pIx (pVar 2) (hVar 4))), .pur (hRd (pIx (pVar 0) (hVar 4))), .pur (hOp [.pur (hC (.int 0)), .pur (hRd (pIx (pVar 2) (hVar 6)))] gSub)]) (callK [.b, .b, .b, .b] fn_blended)) (.fin [])) (pa_cons (e_call dw (ok_blended (k := k + 1) fx) hr (by rfl) fx.g_blended fx.F_blended.kp fx.b_blended (.fin [.pur (hVar 7), .pur (hRd (pIx (pVar 2) (hVar 4))), .pur (hRd (pIx (pVar 0) (hVar 4))), .pur (hOp [.pur (hC (.int 0)), .pur (hRd (pIx (pVar 2) (hVar 6)))] gSub)]) (pa_cons (p_var (pv 7)) (pa_cons (p_rd (l_ix dw.dx (p_plc (pv 2)) (p_var (pv 4)))) (pa_cons (p_rd (l_ix dw.dx (p_plc (pv 0)) (p_var (pv 4)))) (pa_cons (p_binPP op_sub rop_sub pure_sub p_int (p_rd (l_ix dw.dx (p_plc (pv 2)) (p_var (pv 6))))) pa_nil))))) pa_nil)) pa_nil)))
  s_nil) s_nil)
  s_nil))
  (s_cons (s_ret (e_mov (pv 5)))
  s_nil)))))))
theorem ok_kernel {k : Nat} (fx : Fx K mg) : FnOk P w K mg base (L2.CX P w) (k + 4) fx.f_kernel fx.d_kernel P_kernel (spD ⟨K, cl⟩ [.b, .b] fn_kernel) := by
  refine def_ok (k := k + 3) (N := N_kernel) (ms := [.b, .b]) (body := b_kernel) fx.F_kernel sc_kernel rfl fun cdv A outer s H E W hr dw hp => ?_
  exact (s_cons (s_setLc (own := [("k", 4)]) dw.dx rfl rfl (sw_true rfl rfl rfl (by decide +kernel)) (i_range1 [.pur (hVar 1)] (by rfl) fx.n_range (pa_cons (p_var (pv 1)) pa_nil)) (blkOk_by (N := N_kernel) (sc := (defScope s_kernel)) (by decide +kernel)) bind_name (fun _ _ _ _ _ => (pg_name (i := 4) sc_kernel.nd rfl (by first | exact .inl rfl | exact .inr rfl))) (fun _ _ _ _ _ => ts_nil) (fun _ _ _ _ _ => (e_call dw.blk (ok_unit (k := k + 2) fx) hr (by rfl) fx.g_unit fx.F_unit.kp fx.b_unit (.fin [.pur (hVar 1), .pur (hVar 4)]) (pa_cons (p_var (pv 1)) (pa_cons (p_var (pv 4)) pa_nil)))))
  (s_cons (s_for [3] dw.dx hp (i_seq (.plc 0 (pVar 0)) dw.dx (p_plc (pv 0))) (pg_name (i := 3) sc_kernel.nd rfl (by first | exact .inl rfl | exact .inr rfl)) bind_name (s_cons (s_set dw.dx rfl (by first | exact .inl rfl | exact .inr rfl) (e_call dw (ok_kernel_with (k := k + 0) fx) hr (by rfl) fx.g_kernel_with fx.F_kernel_with.kp fx.b_kernel_with (.own (eMov 2) (.fin [.pur (hVar 3)])) (pa_cons (e_mov (pv 2)) (pa_cons (p_var (pv 3)) pa_nil))))
  s_nil))
  (s_cons (s_ret (e_mov (pv 2)))
  s_nil)))
theorem ok_law_numbers {k : Nat} (fx : Fx K mg) : FnOk P w K mg base (L2.CX P w) (k + 1) fx.f_law_numbers fx.d_law_numbers P_law_numbers (spD ⟨K, cl⟩ [.b, .b] fn_law_numbers) := by
  refine def_ok (k := k + 0) (N := N_law_numbers) (ms := [.b, .b]) (body := b_law_numbers) fx.F_law_numbers sc_law_numbers rfl fun cdv A outer s H E W hr dw hp => ?_
  exact (s_cons (s_setLc (own := [("_law_cell", 4)]) dw.dx rfl rfl (sw_true rfl rfl rfl (by decide +kernel)) (i_seq (.own (eOp (.fin [.plc 0 (pVar 0), .int (hVar 1)]) (slH fSlL))) dw.dx (e_slH (W := W) sl_list (slL_ok (G := ⟨K, cl⟩)) (.fin [.plc 0 (pVar 0), .int (hVar 1)]) (p_plc (pv 0)) (p_var (pv 1)))) (blkOk_by (N := N_law_numbers) (sc := (defScope s_law_numbers)) (by decide +kernel)) bind_name (fun _ _ _ _ _ => (pg_name (i := 4) sc_law_numbers.nd rfl (by first | exact .inl rfl | exact .inr rfl))) (fun _ _ _ _ _ => ts_nil) (fun _ _ _ _ _ => (e_p (p_binPP op_mod rop_mod pure_mod (p_var (pv 4)) (p_binPP op_pow rop_pow pure_pow p_int p_int)))))
  (s_cons (s_set dw.dx rfl (by first | exact .inl rfl | exact .inr rfl) (e_p (p_binPP op_addA rop_add pure_add p_int (p_binPP op_mod rop_mod pure_mod (p_sum (hs := [.plc 2 (pVar 2)]) dw.dx (by rfl) fx.n_sum (pa_cons (p_plc (pv 2)) pa_nil)) p_int))))
  (s_cons (s_while hp (t_p (t_cmpPP op_ltA rop_lt pure_lt (p_len (hs := [.plc 2 (pVar 2)]) dw.dx (by rfl) fx.n_len (pa_cons (p_plc (pv 2)) pa_nil)) (p_var (pv 1)))) (s_cons (s_set dw.dx rfl (by first | exact .inl rfl | exact .inr rfl) (e_p (p_binPP op_mod rop_mod pure_mod (p_binPP op_addA rop_add pure_add (p_binPP op_addA rop_add pure_add (p_binPP op_mulD rop_mul pure_mul (p_var (pv 3)) (p_var (pv 3))) (p_binPP op_mulD rop_mul pure_mul p_int (p_var (pv 3)))) (p_len (hs := [.plc 2 (pVar 2)]) dw.dx (by rfl) fx.n_len (pa_cons (p_plc (pv 2)) pa_nil))) p_int)))
  (s_cons (s_expr (e_append dw.dx (pv 2) (.fin [.pur (hVar 3)]) (pa_cons (p_var (pv 3)) pa_nil)))
  s_nil)))
  (s_cons (s_ret (e_rev dw.dx (.fin [.plc 2 (pVar 2)]) (by rfl) fx.n_list (by rfl) fx.n_reversed (p_plc (pv 2))))
  s_nil))))
theorem ok_law_draw {k : Nat} (fx : Fx K mg) : FnOk P w K mg base (L2.CX P w) (k + 1) fx.f_law_draw fx.d_law_draw P_law_draw (spD ⟨K, cl⟩ [.io, .b] fn_law_draw) := by
  refine def_ok (k := k + 0) (N := N_law_draw) (ms := [.io, .b]) (body := b_law_draw) fx.F_law_draw sc_law_draw rfl fun cdv A outer s H E W hr dw hp => ?_
  exact (s_cons (s_ifE (t_cmpE (op_eqD (hu_eq1 dw.dx)) rop_eq (.plc 0 (pVar 0) (.own (eK (.fin []) (dspK .lst)) (.fin []))) (p_plc (pv 0)) (e_lst (.fin []) pa_nil)) (s_cons (s_ret (e_p p_int))
  s_nil) s_nil)
  (s_cons (s_ret (e_bin op_mod rop_mod (.own (isL 0 (eK (.io 0 (.fin [])) popK)) (.fin [.pur (hVar 1)])) (e_pop dw.dx (pv 0)) (p_var (pv 1))))
  s_nil))
theorem ok_law_number {k : Nat} (fx : Fx K mg) : FnOk P w K mg base (L2.CX P w) (k + 2) fx.f_law_number fx.d_law_number P_law_number (spD ⟨K, cl⟩ [.io] fn_law_number) := by
  refine def_ok (k := k + 1) (N := N_law_number) (ms := [.io]) (body := b_law_number) fx.F_law_number sc_law_number rfl fun cdv A outer s H E W hr dw hp => ?_
  exact (s_cons (s_set dw.dx rfl (by first | exact .inl rfl | exact .inr rfl) (e_call dw (ok_law_draw (k := k + 0) fx) hr (by rfl) fx.g_law_draw fx.F_law_draw.kp fx.b_law_draw (.io 0 (.fin [.pur (hOp [.pur (hC (.int 10)), .pur (hC (.int 59))] gPow)])) (pa_cons (pv 0) (pa_cons (p_binPP op_pow rop_pow pure_pow p_int p_int) pa_nil))))
  (s_cons (s_if (t_cmpPP (op_eqD (hu_eq1 dw.dx)) rop_eq pure_eq (p_binPP op_mod rop_mod pure_mod (p_var (pv 1)) p_int) p_int) (s_cons (s_ret (e_p (p_binPP op_sub rop_sub pure_sub (p_binPP op_mod rop_mod pure_mod (p_binPP op_fdivW rop_div pure_div (p_var (pv 1)) p_int) (p_binPP op_addA rop_add pure_add (p_binPP op_mulD rop_mul pure_mul p_int (p_binPP op_pow rop_pow pure_pow p_int p_int)) p_int)) (p_binPP op_pow rop_pow pure_pow p_int p_int))))
  s_nil) s_nil)
  (s_cons (s_ret (e_p (p_binPP op_sub rop_sub pure_sub (p_binPP op_mod rop_mod pure_mod (p_binPP op_fdivW rop_div pure_div (p_var (pv 1)) p_int) p_int) p_int)))
  s_nil)))
theorem ok_law_row {k : Nat} (fx : Fx K mg) : FnOk P w K mg base (L2.CX P w) (k + 3) fx.f_law_row fx.d_law_row P_law_row (spD ⟨K, cl⟩ [.io, .b] fn_law_row) := by
  refine def_ok (k := k + 2) (N := N_law_row) (ms := [.io, .b]) (body := b_law_row) fx.F_law_row sc_law_row rfl fun cdv A outer s H E W hr dw hp => ?_
  exact (s_cons (s_ret (e_tupOf dw.dx (by rfl) fx.n_tuple (.own (lcE [.pur (hVar 1)] mkRange1 (bName 2) eYes (eK (.io 0 (.fin [])) (callK [.io] fn_law_number)) [2]) (.fin [])) (pa_cons (e_lc (own := [("_law_k", 2)]) dw.dx (i_range1 [.pur (hVar 1)] (by rfl) fx.n_range (pa_cons (p_var (pv 1)) pa_nil)) (blkOk_by (N := N_law_row) (sc := (defScope s_law_row)) (by decide +kernel)) bind_name (fun _ _ _ _ _ => (pg_name (i := 2) sc_law_row.nd rfl (by first | exact .inl rfl | exact .inr rfl))) (fun _ _ _ _ _ => ts_nil) (fun _ _ _ _ _ => (e_call dw.blk (ok_law_number (k := k + 0) fx) hr (by rfl) fx.g_law_number fx.F_law_number.kp fx.b_law_number (.io 0 (.fin [])) (pa_cons (pv 0) pa_nil)))) pa_nil)))
  s_nil)
theorem ok_law_product {k : Nat} (fx : Fx K mg) : FnOk P w K mg base (L2.CX P w) (k + 1) fx.f_law_product fx.d_law_product P_law_product (spD ⟨K, cl⟩ [.b, .b] fn_law_product) := by
  refine def_ok (k := k + 0) (N := N_law_product) (ms := [.b, .b]) (body := b_law_product) fx.F_law_product sc_law_product rfl fun cdv A outer s H E W hr dw hp => ?_
  exact (s_cons (s_set dw.dx rfl (by first | exact .inl rfl | exact .inr rfl) (e_p p_int))
  (s_cons (s_for [3] dw.dx hp (i_range1 [.pur (hOp [.pur (hVar 0)] gLen)] (by rfl) fx.n_range (pa_cons (p_len (hs := [.pur (hVar 0)]) dw.dx (by rfl) fx.n_len (pa_cons (p_var (pv 0)) pa_nil)) pa_nil)) (pg_name (i := 3) sc_law_product.nd rfl (by first | exact .inl rfl | exact .inr rfl)) bind_name (s_cons (s_set dw.dx rfl (by first | exact .inl rfl | exact .inr rfl) (e_p (p_binPP op_addA rop_add pure_add (p_var (pv 2)) (p_binPP op_mulD rop_mul pure_mul (p_rd (l_ix dw.dx (p_plc (pv 0)) (p_var (pv 3)))) (p_rd (l_ix dw.dx (p_plc (pv 1)) (p_var (pv 3))))))))
  s_nil))
  (s_cons (s_ret (e_p (p_var (pv 2))))
  s_nil)))
theorem ok_law_sum {k : Nat} (fx : Fx K mg) : FnOk P w K mg base (L2.CX P w) (k + 1) fx.f_law_sum fx.d_law_sum P_law_sum (spD ⟨K, cl⟩ [.b, .b, .b] fn_law_sum) := by
  refine def_ok (k := k + 0) (N := N_law_sum) (ms := [.b, .b, .b]) (body := b_law_sum) fx.F_law_sum sc_law_sum rfl fun cdv A outer s H E W hr dw hp => ?_
  exact (s_cons (s_set dw.dx rfl (by first | exact .inl rfl | exact .inr rfl) (e_rep (.own (eK (.fin [.pur (hC (.int 0))]) (dspK .lst)) (.fin [.pur (hVar 2)])) (e_lst (.fin [.pur (hC (.int 0))]) (pa_cons p_int pa_nil)) (p_var (pv 2))))
  (s_cons (s_for [4, 5, 6] dw.dx hp (i_zip [.plc 0 (pVar 0), .plc 1 (pVar 1)] dw.dx (by rfl) fx.n_zip (pa_cons (p_plc (pv 0)) (pa_cons (p_plc (pv 1)) pa_nil))) (pg_tup rfl (pgs_cons (pg_name (i := 4) sc_law_sum.nd rfl (by first | exact .inl rfl | exact .inr rfl)) (pgs_cons (pg_name (i := 5) sc_law_sum.nd rfl (by first | exact .inl rfl | exact .inr rfl)) pgs_nil))) (bind_tup rfl (binds_cons bind_name (binds_cons bind_name binds_nil)) (bCons_len (bCons_len bNil_len))) (s_cons (s_for [6] dw.dx hp (i_range1 [.pur (hVar 2)] (by rfl) fx.n_range (pa_cons (p_var (pv 2)) pa_nil)) (pg_name (i := 6) sc_law_sum.nd rfl (by first | exact .inl rfl | exact .inr rfl)) bind_name (s_cons (s_setix (.pur (hOp [.pur (hRd (pIx (pVar 3) (hVar 6))), .pur (hOp [.pur (hRd (pIx (pVar 4) (hVar 6))), .pur (hVar 5)] gMul)] gAdd) (.io 3 (.fin [.pur (hVar 6)]))) (p_binPP op_addA rop_add pure_add (p_rd (l_ix dw.dx (p_plc (pv 3)) (p_var (pv 6)))) (p_binPP op_mulD rop_mul pure_mul (p_rd (l_ix dw.dx (p_plc (pv 4)) (p_var (pv 6)))) (p_var (pv 5)))) (pv 3) (p_var (pv 6)))
  s_nil))
  s_nil))
  (s_cons (s_ret (e_p (p_tupOf (hs := [.plc 3 (pVar 3)]) dw.dx (by rfl) fx.n_tuple (pa_cons (p_plc (pv 3)) pa_nil))))
  s_nil)))
theorem ok_law_whole {k : Nat} (fx : Fx K mg) : FnOk P w K mg base (L2.CX P w) (k + 1) fx.f_law_whole fx.d_law_whole P_law_whole (spD ⟨K, cl⟩ [.b] fn_law_whole) := by
  refine def_ok (k := k + 0) (N := N_law_whole) (ms := [.b]) (body := b_law_whole) fx.F_law_whole sc_law_whole rfl fun cdv A outer s H E W hr dw hp => ?_
  exact (s_cons (s_ret (e_p (p_and (p_isi (s1 := .pur (hVar 0)) dw.dx (by decide) (by rfl) fx.n_isinstance (by rfl) fx.n_int bt_int (p_var (pv 0))) (p_one (p_not (p_isi (s1 := .pur (hVar 0)) dw.dx (by decide) (by rfl) fx.n_isinstance (by rfl) fx.n_bool bt_bool (p_var (pv 0))))))))
  s_nil)
theorem ok_law_is_row {k : Nat} (fx : Fx K mg) : FnOk P w K mg base (L2.CX P w) (k + 2) fx.f_law_is_row fx.d_law_is_row P_law_is_row (spD ⟨K, cl⟩ [.b, .b] fn_law_is_row) := by
  refine def_ok (k := k + 1) (N := N_law_is_row) (ms := [.b, .b]) (body := b_law_is_row) fx.F_law_is_row sc_law_is_row rfl fun cdv A outer s H E W hr dw hp => ?_
  exact (s_cons (s_if (w_or (t_not (t_val (p_isi (s1 := .pur (hVar 0)) dw.dx (by decide) (by rfl) fx.n_isinstance (by rfl) fx.n_tuple bt_tuple (p_var (pv 0))))) (w_or1 (t_cmpPP (op_neD (hu_eq1 dw.dx)) rop_ne pure_ne (p_len (hs := [.pur (hVar 0)]) dw.dx (by rfl) fx.n_len (pa_cons (p_var (pv 0)) pa_nil)) (p_var (pv 1))))).pt (s_cons (s_ret (e_p p_bl))
  s_nil) s_nil)
  (s_cons (s_ret (e_cmp (op_notInA dw.dx) rop_notIn (.pur (hC (.bl false)) (.own (lcE [.pur (hVar 0)] mkSeq (bName 2) eYes (eK (.fin [.pur (hVar 2)]) (callK [.b] fn_law_whole)) [2]) (.fin []))) p_bl (e_lc (own := [("_law_number_here", 2)]) dw.dx (i_seq (.pur (hVar 0)) dw.dx (p_var (pv 0))) (blkOk_by (N := N_law_is_row) (sc := (defScope s_law_is_row)) (by decide +kernel)) bind_name (fun _ _ _ _ _ => (pg_name (i := 2) sc_law_is_row.nd rfl (by first | exact .inl rfl | exact .inr rfl))) (fun _ _ _ _ _ => ts_nil) (fun _ _ _ _ _ => (e_call dw.blk (ok_law_whole (k := k + 0) fx) hr (by rfl) fx.g_law_whole fx.F_law_whole.kp fx.b_law_whole (.fin [.pur (hVar 2)]) (pa_cons (p_var (pv 2)) pa_nil))))))
  s_nil))
theorem ok_law_rank {k : Nat} (fx : Fx K mg) : FnOk P w K mg base (L2.CX P w) (k + 1) fx.f_law_rank fx.d_law_rank P_law_rank (spD ⟨K, cl⟩ [.b] fn_law_rank) := by
  refine def_ok (k := k + 0) (N := N_law_rank) (ms := [.b]) (body := b_law_rank) fx.F_law_rank sc_law_rank rfl fun cdv A outer s H E W hr dw hp => ?_
  exact (s_cons (s_setLc (own := [("_law_row_here", 6)]) dw.dx rfl rfl (sw_true rfl rfl rfl (by decide +kernel)) (i_seq (.plc 0 (pVar 0)) dw.dx (p_plc (pv 0))) (blkOk_by (N := N_law_rank) (sc := (defScope s_law_rank)) (by decide +kernel)) bind_name (fun _ _ _ _ _ => (pg_name (i := 6) sc_law_rank.nd rfl (by first | exact .inl rfl | exact .inr rfl))) (fun _ _ _ _ _ => (ts_one (t_cmpE (op_neD (hu_eq1 dw.blk.dx)) rop_ne (.own (lcE [.plc 6 (pVar 6)] mkSeq (bName 9) (eBp (hB (hOp [.pur (hVar 9), .pur (hC (.int 0))] gNe))) (eP (hVar 9)) [9]) (.own (eK (.fin []) (dspK .lst)) (.fin []))) (e_lc (own := [("_law_number_here", 9)]) dw.blk.dx (i_seq (.plc 6 (pVar 6)) dw.blk.dx (p_plc (pv 6))) (blkOk_by (N := N_law_rank) (by kernel_rfl)) bind_name (fun _ _ _ _ _ => (pg_name (i := 9) sc_law_rank.nd rfl (by first | exact .inl rfl | exact .inr rfl))) (fun _ _ _ _ _ => (ts_one (t_p (t_cmpPP (op_neD (hu_eq1 dw.blk.blk.dx)) rop_ne pure_ne (p_var (pv 9)) p_int)))) (fun _ _ _ _ _ => (e_p (p_var (pv 9))))) (e_lst (.fin []) pa_nil)))) (fun _ _ _ _ _ => (e_mov (pv 6))))
  (s_cons (s_set dw.dx rfl (by first | exact .inl rfl | exact .inr rfl) (e_p p_int))
  (s_cons (s_while hp (t_cmpE (op_neD (hu_eq1 dw.dx)) rop_ne (.plc 1 (pVar 1) (.own (eK (.fin []) (dspK .lst)) (.fin []))) (p_plc (pv 1)) (e_lst (.fin []) pa_nil)) (s_drop [3, 4, 5, 6, 7] (s_app 4 (s_let (g := (pIx (pVar 1) (hC (.int 0)))) [3] dw.dx rfl (by first | exact .inl rfl | exact .inr rfl) (l_ix dw.dx (p_plc (pv 1)) p_int)
  (s_cons (s_set dw.dx rfl (by first | exact .inl rfl | exact .inr rfl) (e_ixo dw.dx (.own (lcE [.pur (hOp [.plc 3 (pVar 3)] gLen)] mkRange1 (bName 8) (eBp (hB (hOp [.pur (hRd (pIx (pVar 3) (hVar 8))), .pur (hC (.int 0))] gNe))) (eP (hVar 8)) [8]) (.fin [.pur (hC (.int 0))])) (e_lc (own := [("_law_k", 8)]) dw.dx (i_range1 [.pur (hOp [.plc 3 (pVar 3)] gLen)] (by rfl) fx.n_range (pa_cons (p_len (hs := [.plc 3 (pVar 3)]) dw.dx (by rfl) fx.n_len (pa_cons (p_plc (pv 3)) pa_nil)) pa_nil)) (blkOk_by (N := N_law_rank) (sc := (defScope s_law_rank)) (by decide +kernel)) bind_name (fun _ _ _ _ _ => (pg_name (i := 8) sc_law_rank.nd rfl (by first | exact .inl rfl | exact .inr rfl))) (fun _ _ _ _ _ => (ts_one (t_p (t_cmpPP (op_neD (hu_eq1 dw.blk.dx)) rop_ne pure_ne (p_rd (l_ix dw.blk.dx (p_plc (pv 3)) (p_var (pv 8)))) p_int)))) (fun _ _ _ _ _ => (e_p (p_var (pv 8))))) p_int))
  (s_cons (s_set dw.dx rfl (by first | exact .inl rfl | exact .inr rfl) (e_lst (.fin []) pa_nil))
  (s_cons (s_for [6, 7] dw.dx hp (i_tail dw.dx (p_plc (pv 1)) p_int) (pg_name (i := 6) sc_law_rank.nd rfl (by first | exact .inl rfl | exact .inr rfl)) bind_name (s_cons (s_setLc (own := [("_law_k", 8)]) dw.dx rfl rfl (sw_true rfl rfl rfl (by decide +kernel)) (i_range1 [.pur (hOp [.plc 6 (pVar 6)] gLen)] (by rfl) fx.n_range (pa_cons (p_len (hs := [.plc 6 (pVar 6)]) dw.dx (by rfl) fx.n_len (pa_cons (p_plc (pv 6)) pa_nil)) pa_nil)) (blkOk_by (N := N_law_rank) (sc := (defScope s_law_rank)) (by decide +kernel)) bind_name (fun _ _ _ _ _ => (pg_name (i := 8) sc_law_rank.nd rfl (by first | exact .inl rfl | exact .inr rfl))) (fun _ _ _ _ _ => ts_nil) (fun _ _ _ _ _ => (e_p (p_binPP op_sub rop_sub pure_sub (p_binPP op_mulD rop_mul pure_mul (p_rd (l_ix dw.blk.dx (p_plc (pv 6)) (p_var (pv 8)))) (p_rd (l_ix dw.blk.dx (p_plc (pv 3)) (p_var (pv 4))))) (p_binPP op_mulD rop_mul pure_mul (p_rd (l_ix dw.blk.dx (p_plc (pv 3)) (p_var (pv 8)))) (p_rd (l_ix dw.blk.dx (p_plc (pv 6)) (p_var (pv 4)))))))))
  (s_cons (s_ifE (t_cmpE (op_neD (hu_eq1 dw.dx)) rop_ne (.own (lcE [.plc 7 (pVar 7)] mkSeq (bName 9) (eBp (hB (hOp [.pur (hVar 9), .pur (hC (.int 0))] gNe))) (eP (hVar 9)) [9]) (.own (eK (.fin []) (dspK .lst)) (.fin []))) (e_lc (own := [("_law_number_here", 9)]) dw.dx (i_seq (.plc 7 (pVar 7)) dw.dx (p_plc (pv 7))) (blkOk_by (N := N_law_rank) (sc := (defScope s_law_rank)) (by decide +kernel)) bind_name (fun _ _ _ _ _ => (pg_name (i := 9) sc_law_rank.nd rfl (by first | exact .inl rfl | exact .inr rfl))) (fun _ _ _ _ _ => (ts_one (t_p (t_cmpPP (op_neD (hu_eq1 dw.blk.dx)) rop_ne pure_ne (p_var (pv 9)) p_int)))) (fun _ _ _ _ _ => (e_p (p_var (pv 9))))) (e_lst (.fin []) pa_nil)) (s_cons (s_expr (e_append dw.dx (pv 5) (.own (eMov 7) (.fin [])) (pa_cons (e_mov (pv 7)) pa_nil)))
  s_nil) s_nil)
  s_nil)))
  s_nil))))
  (s_cons (s_set dw.dx rfl (by first | exact .inl rfl | exact .inr rfl) (e_mov (pv 5)))
  (s_cons (s_set dw.dx rfl (by first | exact .inl rfl | exact .inr rfl) (e_p (p_binPP op_addA rop_add pure_add (p_var (pv 2)) p_int)))
  s_nil)))))
  (s_cons (s_ret (e_p (p_var (pv 2))))
  s_nil))))
theorem ok_law_rows {k : Nat} (fx : Fx K mg) : FnOk P w K mg base (L2.CX P w) (k + 4) fx.f_law_rows fx.d_law_rows P_law_rows (spD ⟨K, cl⟩ [.io, .b] fn_law_rows) := by
  refine def_ok (k := k + 3) (N := N_law_rows) (ms := [.io, .b]) (body := b_law_rows) fx.F_law_rows sc_law_rows rfl fun cdv A outer s H E W hr dw hp => ?_
  exact (s_cons (s_set dw.dx rfl (by first | exact .inl rfl | exact .inr rfl) (e_lst (.fin []) pa_nil))
  (s_cons (s_for [3, 4, 5] dw.dx hp (i_range1 [.own (eK (.io 0 (.fin [.pur (hC (.int 8))])) (callK [.io, .b] fn_law_draw))] (by rfl) fx.n_range (pa_cons (e_call dw (ok_law_draw (k := k + 2) fx) hr (by rfl) fx.g_law_draw fx.F_law_draw.kp fx.b_law_draw (.io 0 (.fin [.pur (hC (.int 8))])) (pa_cons (pv 0) (pa_cons p_int pa_nil))) pa_nil)) (pg_name (i := 3) sc_law_rows.nd rfl (by first | exact .inl rfl | exact .inr rfl)) bind_name (s_cons (s_set dw.dx rfl (by first | exact .inl rfl | exact .inr rfl) (e_call dw (ok_law_row (k := k + 0) fx) hr (by rfl) fx.g_law_row fx.F_law_row.kp fx.b_law_row (.io 0 (.fin [.pur (hVar 1)])) (pa_cons (pv 0) (pa_cons (p_var (pv 1)) pa_nil))))
  (s_cons (s_set dw.dx rfl (by first | exact .inl rfl | exact .inr rfl) (e_call dw (ok_law_draw (k := k + 2) fx) hr (by rfl) fx.g_law_draw fx.F_law_draw.kp fx.b_law_draw (.io 0 (.fin [.pur (hC (.int 6))])) (pa_cons (pv 0) (pa_cons p_int pa_nil))))
  (s_cons (s_if (w_and (t_cmpPP (op_eqD (hu_eq1 dw.dx)) rop_eq pure_eq (p_var (pv 5)) p_int) (w_and1 (t_cmpPP op_gt rop_gt pure_gt (p_var (pv 3)) p_int))).pt (s_cons (s_set dw.dx rfl (by first | exact .inl rfl | exact .inr rfl) (e_call dw (ok_law_sum (k := k + 2) fx) hr (by rfl) fx.g_law_sum fx.F_law_sum.kp fx.b_law_sum (.own (eOp (.fin [.plc 2 (pVar 2), .int (hOp [.pur (hVar 3), .pur (hC (.int 2))] gSub)]) (slL fSlL)) (.own (eK (.own (eOp (.own (eK (.io 0 (.fin [.pur (hC (.int 5))])) (callK [.io, .b] fn_law_draw)) (.fin [.pur (hC (.int 2))])) gSub) (.own (eOp (.own (eK (.io 0 (.fin [.pur (hC (.int 5))])) (callK [.io, .b] fn_law_draw)) (.fin [.pur (hC (.int 2))])) gSub) (.fin []))) (dspK .lst)) (.fin [.pur (hVar 1)]))) (pa_cons (e_slL (W := W) sl_list (slL_ok (G := ⟨K, cl⟩)) (.fin [.plc 2 (pVar 2), .int (hOp [.pur (hVar 3), .pur (hC (.int 2))] gSub)]) (p_plc (pv 2)) (p_binPP op_sub rop_sub pure_sub (p_var (pv 3)) p_int)) (pa_cons (e_lst (.own (eOp (.own (eK (.io 0 (.fin [.pur (hC (.int 5))])) (callK [.io, .b] fn_law_draw)) (.fin [.pur (hC (.int 2))])) gSub) (.own (eOp (.own (eK (.io 0 (.fin [.pur (hC (.int 5))])) (callK [.io, .b] fn_law_draw)) (.fin [.pur (hC (.int 2))])) gSub) (.fin []))) (pa_cons (e_bin op_sub rop_sub (.own (eK (.io 0 (.fin [.pur (hC (.int 5))])) (callK [.io, .b] fn_law_draw)) (.fin [.pur (hC (.int 2))])) (e_call dw (ok_law_draw (k := k + 2) fx) hr (by rfl) fx.g_law_draw fx.F_law_draw.kp fx.b_law_draw (.io 0 (.fin [.pur (hC (.int 5))])) (pa_cons (pv 0) (pa_cons p_int pa_nil))) p_int) (pa_cons (e_bin op_sub rop_sub (.own (eK (.io 0 (.fin [.pur (hC (.int 5))])) (callK [.io, .b] fn_law_draw)) (.fin [.pur (hC (.int 2))])) (e_call dw (ok_law_draw (k := k + 2) fx) hr (by rfl) fx.g_law_draw fx.F_law_draw.kp fx.b_law_draw (.io 0 (.fin [.pur (hC (.int 5))])) (pa_cons (pv 0) (pa_cons p_int pa_nil))) p_int) pa_nil))) (pa_cons (p_var (pv 1)) pa_nil)))))
  s_nil) s_nil)
  (s_cons (s_if (t_cmpPP (op_eqD (hu_eq1 dw.dx)) rop_eq pure_eq (p_var (pv 5)) p_int) (s_cons (s_set dw.dx rfl (by first | exact .inl rfl | exact .inr rfl) (e_p (p_binPP op_repAny rop_repT pure_repT (p_tup (hs := [.pur (hC (.int 0))]) (pa_cons p_int pa_nil)) (p_var (pv 1)))))
  s_nil) s_nil)
  (s_cons (s_expr (e_append dw.dx (pv 2) (.fin [.pur (hVar 4)]) (pa_cons (p_var (pv 4)) pa_nil)))
  s_nil))))))
  (s_cons (s_ret (e_mov (pv 2)))
  s_nil)))
theorem ok_law {k : Nat} (fx : Fx K mg) : FnOk P w K mg base (L2.CX P w) (k + 5) fx.f_law fx.d_law P_law (spD ⟨K, cl⟩ [.b] fn_law) := by
  refine def_ok (k := k + 4) (N := N_law) (ms := [.b]) (body := b_law) fx.F_law sc_law rfl fun cdv A outer s H E W hr dw hp => ?_
  exact (s_cons (s_set dw.dx rfl (by first | exact .inl rfl | exact .inr rfl) (e_call dw (ok_law_numbers (k := k + 3) fx) hr (by rfl) fx.g_law_numbers fx.F_law_numbers.kp fx.b_law_numbers (.fin [.plc 0 (pVar 0), .pur (hC (.int 80))]) (pa_cons (p_plc (pv 0)) (pa_cons p_int pa_nil))))
  (s_cons (s_set dw.dx rfl (by first | exact .inl rfl | exact .inr rfl) (e_call dw (ok_law_draw (k := k + 3) fx) hr (by rfl) fx.g_law_draw fx.F_law_draw.kp fx.b_law_draw (.io 1 (.fin [.pur (hC (.int 7))])) (pa_cons (pv 1) (pa_cons p_int pa_nil))))
  (s_cons (s_set dw.dx rfl (by first | exact .inl rfl | exact .inr rfl) (e_call dw (ok_law_rows (k := k + 0) fx) hr (by rfl) fx.g_law_rows fx.F_law_rows.kp fx.b_law_rows (.io 1 (.fin [.pur (hVar 2)])) (pa_cons (pv 1) (pa_cons (p_var (pv 2)) pa_nil))))
  (s_cons (s_set dw.dx rfl (by first | exact .inl rfl | exact .inr rfl) (e_listOf dw.dx (by rfl) fx.n_list (.fin [.plc 3 (pVar 3)]) (pa_cons (p_plc (pv 3)) pa_nil)))
  (s_cons (s_set dw.dx rfl (by first | exact .inl rfl | exact .inr rfl) (e_call dw (ok_kernel (k := k + 0) fx) hr (by rfl) fx.g_kernel fx.F_kernel.kp fx.b_kernel (.fin [.plc 4 (pVar 4), .pur (hVar 2)]) (pa_cons (p_plc (pv 4)) (pa_cons (p_var (pv 2)) pa_nil))))
  (s_cons (s_ifE (w_orE (t_p (t_not (t_val (p_isi (s1 := .plc 5 (pVar 5)) dw.dx (by decide) (by rfl) fx.n_isinstance (by rfl) fx.n_list bt_list (p_plc (pv 5)))))) (w_or1 (t_cmpE (op_neD (hu_eq1 dw.dx)) rop_ne (.pur (hOp [.plc 5 (pVar 5)] gLen) (.own (eOp (.pur (hVar 2) (.own (eK (.fin [.plc 3 (pVar 3)]) (callK [.b] fn_law_rank)) (.fin []))) gSub) (.fin []))) (p_len (hs := [.plc 5 (pVar 5)]) dw.dx (by rfl) fx.n_len (pa_cons (p_plc (pv 5)) pa_nil)) (e_bin op_sub rop_sub (.pur (hVar 2) (.own (eK (.fin [.plc 3 (pVar 3)]) (callK [.b] fn_law_rank)) (.fin []))) (p_var (pv 2)) (e_call dw (ok_law_rank (k := k + 3) fx) hr (by rfl) fx.g_law_rank fx.F_law_rank.kp fx.b_law_rank (.fin [.plc 3 (pVar 3)]) (pa_cons (p_plc (pv 3)) pa_nil)))))).pt (s_cons (s_ret (e_p p_bl))
  s_nil) s_nil)
  (s_cons (s_for [6, 7] dw.dx hp (i_seq (.plc 5 (pVar 5)) dw.dx (p_plc (pv 5))) (pg_name (i := 6) sc_law.nd rfl (by first | exact .inl rfl | exact .inr rfl)) bind_name (s_cons (s_ifE (t_notE (t_valE (e_call dw (ok_law_is_row (k := k + 2) fx) hr (by rfl) fx.g_law_is_row fx.F_law_is_row.kp fx.b_law_is_row (.fin [.pur (hVar 6), .pur (hVar 2)]) (pa_cons (p_var (pv 6)) (pa_cons (p_var (pv 2)) pa_nil))))) (s_cons (s_ret (e_p p_bl))
  s_nil) s_nil)
  (s_cons (s_for [7] dw.dx hp (i_seq (.plc 3 (pVar 3)) dw.dx (p_plc (pv 3))) (pg_name (i := 7) sc_law.nd rfl (by first | exact .inl rfl | exact .inr rfl)) bind_name (s_cons (s_ifE (t_cmpE (op_neD (hu_eq1 dw.dx)) rop_ne (.own (eK (.fin [.pur (hVar 7), .pur (hVar 6)]) (callK [.b, .b] fn_law_product)) (.fin [.pur (hC (.int 0))])) (e_call dw (ok_law_product (k := k + 3) fx) hr (by rfl) fx.g_law_product fx.F_law_product.kp fx.b_law_product (.fin [.pur (hVar 7), .pur (hVar 6)]) (pa_cons (p_var (pv 7)) (pa_cons (p_var (pv 6)) pa_nil))) p_int) (s_cons (s_ret (e_p p_bl))
  s_nil) s_nil)
  s_nil))
  s_nil)))
  (s_cons (s_ifE (t_cmpE (op_neD (hu_eq1 dw.dx)) rop_ne (.own (eK (.fin [.plc 5 (pVar 5)]) (callK [.b] fn_law_rank)) (.fin [.pur (hOp [.plc 5 (pVar 5)] gLen)])) (e_call dw (ok_law_rank (k := k + 3) fx) hr (by rfl) fx.g_law_rank fx.F_law_rank.kp fx.b_law_rank (.fin [.plc 5 (pVar 5)]) (pa_cons (p_plc (pv 5)) pa_nil)) (p_len (hs := [.plc 5 (pVar 5)]) dw.dx (by rfl) fx.n_len (pa_cons (p_plc (pv 5)) pa_nil))) (s_cons (s_ret (e_p p_bl))
  s_nil) s_nil)
  (s_cons (s_set dw.dx rfl (by first | exact .inl rfl | exact .inr rfl) (e_listOf dw.dx (by rfl) fx.n_list (.fin [.plc 5 (pVar 5)]) (pa_cons (p_plc (pv 5)) pa_nil)))
  (s_cons (s_expr (e_append dw.dx (pv 5) (.fin [.pur (hOp [.pur (hOp [.pur (hC (.int 1))] fTup), .pur (hVar 2)] gRepT)]) (pa_cons (p_binPP op_repAny rop_repT pure_repT (p_tup (hs := [.pur (hC (.int 1))]) (pa_cons p_int pa_nil)) (p_var (pv 2))) pa_nil)))
  (s_cons (s_ret (e_and (e_cmp (op_eqD (hu_eq1 dw.dx)) rop_eq (.own (eK (.fin [.plc 4 (pVar 4), .pur (hVar 2)]) (callK [.b, .b] fn_kernel)) (.fin [.plc 8 (pVar 8)])) (e_call dw (ok_kernel (k := k + 0) fx) hr (by rfl) fx.g_kernel fx.F_kernel.kp fx.b_kernel (.fin [.plc 4 (pVar 4), .pur (hVar 2)]) (pa_cons (p_plc (pv 4)) (pa_cons (p_var (pv 2)) pa_nil))) (p_plc (pv 8))) (p_one (e_p (p_cmpLL (op_eqD (hu_eq1 dw.dx)) rop_eq pure_eq (p_plc (pv 4)) (p_plc (pv 3)))))))
  s_nil)))))))))))
end
theorem all_mk {l : PySem.W.OpenLaw} {w : World} {K : PySem.W.Frag} {h : Heap} {mg : Str → Option Value} {fa : Addr} (X : K.In h) (G : h.Ns mainGlobals mg) (hfa : mg "law" = some (.ref fa))
    {f_product : Addr} {od_product an_product : Option Addr} {sl_product : Array (Option Value)} {oc_product kV_product dc_product pm_product cd_product ct_product : Value}
    (a_product : PySem.W.nsIn K mainGlobals "product" = some (some (.ref f_product))) (l_product : K.lookup f_product = some ⟨oc_product, od_product, .func (PySem.W.fnOf "product" "product" (defArgs s_product) (defBody s_product) (defScope s_product) .none kV_product dc_product pm_product an_product cd_product ct_product), sl_product⟩) (c_product : PySem.W.codeIn K cd_product "product" = true) (k_product : PySem.W.keepIn K (.ref f_product) = true)
    {f_divisor : Addr} {od_divisor an_divisor : Option Addr} {sl_divisor : Array (Option Value)} {oc_divisor kV_divisor dc_divisor pm_divisor cd_divisor ct_divisor : Value}
    (a_divisor : PySem.W.nsIn K mainGlobals "divisor" = some (some (.ref f_divisor))) (l_divisor : K.lookup f_divisor = some ⟨oc_divisor, od_divisor, .func (PySem.W.fnOf "divisor" "divisor" (defArgs s_divisor) (defBody s_divisor) (defScope s_divisor) .none kV_divisor dc_divisor pm_divisor an_divisor cd_divisor ct_divisor), sl_divisor⟩) (c_divisor : PySem.W.codeIn K cd_divisor "divisor" = true) (k_divisor : PySem.W.keepIn K (.ref f_divisor) = true)
    {f_lowest : Addr} {od_lowest an_lowest : Option Addr} {sl_lowest : Array (Option Value)} {oc_lowest kV_lowest dc_lowest pm_lowest cd_lowest ct_lowest : Value}
    (a_lowest : PySem.W.nsIn K mainGlobals "lowest" = some (some (.ref f_lowest))) (l_lowest : K.lookup f_lowest = some ⟨oc_lowest, od_lowest, .func (PySem.W.fnOf "lowest" "lowest" (defArgs s_lowest) (defBody s_lowest) (defScope s_lowest) .none kV_lowest dc_lowest pm_lowest an_lowest cd_lowest ct_lowest), sl_lowest⟩) (c_lowest : PySem.W.codeIn K cd_lowest "lowest" = true) (k_lowest : PySem.W.keepIn K (.ref f_lowest) = true)
    {f_blended : Addr} {od_blended an_blended : Option Addr} {sl_blended : Array (Option Value)} {oc_blended kV_blended dc_blended pm_blended cd_blended ct_blended : Value}
    (a_blended : PySem.W.nsIn K mainGlobals "blended" = some (some (.ref f_blended))) (l_blended : K.lookup f_blended = some ⟨oc_blended, od_blended, .func (PySem.W.fnOf "blended" "blended" (defArgs s_blended) (defBody s_blended) (defScope s_blended) .none kV_blended dc_blended pm_blended an_blended cd_blended ct_blended), sl_blended⟩) (c_blended : PySem.W.codeIn K cd_blended "blended" = true) (k_blended : PySem.W.keepIn K (.ref f_blended) = true)
    {f_unit : Addr} {od_unit an_unit : Option Addr} {sl_unit : Array (Option Value)} {oc_unit kV_unit dc_unit pm_unit cd_unit ct_unit : Value}
    (a_unit : PySem.W.nsIn K mainGlobals "unit" = some (some (.ref f_unit))) (l_unit : K.lookup f_unit = some ⟨oc_unit, od_unit, .func (PySem.W.fnOf "unit" "unit" (defArgs s_unit) (defBody s_unit) (defScope s_unit) .none kV_unit dc_unit pm_unit an_unit cd_unit ct_unit), sl_unit⟩) (c_unit : PySem.W.codeIn K cd_unit "unit" = true) (k_unit : PySem.W.keepIn K (.ref f_unit) = true)
    {f_kernel_with : Addr} {od_kernel_with an_kernel_with : Option Addr} {sl_kernel_with : Array (Option Value)} {oc_kernel_with kV_kernel_with dc_kernel_with pm_kernel_with cd_kernel_with ct_kernel_with : Value}
    (a_kernel_with : PySem.W.nsIn K mainGlobals "kernel_with" = some (some (.ref f_kernel_with))) (l_kernel_with : K.lookup f_kernel_with = some ⟨oc_kernel_with, od_kernel_with, .func (PySem.W.fnOf "kernel_with" "kernel_with" (defArgs s_kernel_with) (defBody s_kernel_with) (defScope s_kernel_with) .none kV_kernel_with dc_kernel_with pm_kernel_with an_kernel_with cd_kernel_with ct_kernel_with), sl_kernel_with⟩) (c_kernel_with : PySem.W.codeIn K cd_kernel_with "kernel_with" = true) (k_kernel_with : PySem.W.keepIn K (.ref f_kernel_with) = true)
    {f_kernel : Addr} {od_kernel an_kernel : Option Addr} {sl_kernel : Array (Option Value)} {oc_kernel kV_kernel dc_kernel pm_kernel cd_kernel ct_kernel : Value}
    (a_kernel : PySem.W.nsIn K mainGlobals "kernel" = some (some (.ref f_kernel))) (l_kernel : K.lookup f_kernel = some ⟨oc_kernel, od_kernel, .func (PySem.W.fnOf "kernel" "kernel" (defArgs s_kernel) (defBody s_kernel) (defScope s_kernel) .none kV_kernel dc_kernel pm_kernel an_kernel cd_kernel ct_kernel), sl_kernel⟩) (c_kernel : PySem.W.codeIn K cd_kernel "kernel" = true) (k_kernel : PySem.W.keepIn K (.ref f_kernel) = true)
    {f_law_numbers : Addr} {od_law_numbers an_law_numbers : Option Addr} {sl_law_numbers : Array (Option Value)} {oc_law_numbers kV_law_numbers dc_law_numbers pm_law_numbers cd_law_numbers ct_law_numbers : Value}
    (a_law_numbers : PySem.W.nsIn K mainGlobals "_law_numbers" = some (some (.ref f_law_numbers))) (l_law_numbers : K.lookup f_law_numbers = some ⟨oc_law_numbers, od_law_numbers, .func (PySem.W.fnOf "_law_numbers" "_law_numbers" (defArgs s_law_numbers) (defBody s_law_numbers) (defScope s_law_numbers) .none kV_law_numbers dc_law_numbers pm_law_numbers an_law_numbers cd_law_numbers ct_law_numbers), sl_law_numbers⟩) (c_law_numbers : PySem.W.codeIn K cd_law_numbers "_law_numbers" = true) (k_law_numbers : PySem.W.keepIn K (.ref f_law_numbers) = true)
    {f_law_draw : Addr} {od_law_draw an_law_draw : Option Addr} {sl_law_draw : Array (Option Value)} {oc_law_draw kV_law_draw dc_law_draw pm_law_draw cd_law_draw ct_law_draw : Value}
    (a_law_draw : PySem.W.nsIn K mainGlobals "_law_draw" = some (some (.ref f_law_draw))) (l_law_draw : K.lookup f_law_draw = some ⟨oc_law_draw, od_law_draw, .func (PySem.W.fnOf "_law_draw" "_law_draw" (defArgs s_law_draw) (defBody s_law_draw) (defScope s_law_draw) .none kV_law_draw dc_law_draw pm_law_draw an_law_draw cd_law_draw ct_law_draw), sl_law_draw⟩) (c_law_draw : PySem.W.codeIn K cd_law_draw "_law_draw" = true) (k_law_draw : PySem.W.keepIn K (.ref f_law_draw) = true)
    {f_law_number : Addr} {od_law_number an_law_number : Option Addr} {sl_law_number : Array (Option Value)} {oc_law_number kV_law_number dc_law_number pm_law_number cd_law_number ct_law_number : Value}
    (a_law_number : PySem.W.nsIn K mainGlobals "_law_number" = some (some (.ref f_law_number))) (l_law_number : K.lookup f_law_number = some ⟨oc_law_number, od_law_number, .func (PySem.W.fnOf "_law_number" "_law_number" (defArgs s_law_number) (defBody s_law_number) (defScope s_law_number) .none kV_law_number dc_law_number pm_law_number an_law_number cd_law_number ct_law_number), sl_law_number⟩) (c_law_number : PySem.W.codeIn K cd_law_number "_law_number" = true) (k_law_number : PySem.W.keepIn K (.ref f_law_number) = true)
    {f_law_row : Addr} {od_law_row an_law_row : Option Addr} {sl_law_row : Array (Option Value)} {oc_law_row kV_law_row dc_law_row pm_law_row cd_law_row ct_law_row : Value}
    (a_law_row : PySem.W.nsIn K mainGlobals "_law_row" = some (some (.ref f_law_row))) (l_law_row : K.lookup f_law_row = some ⟨oc_law_row, od_law_row, .func (PySem.W.fnOf "_law_row" "_law_row" (defArgs s_law_row) (defBody s_law_row) (defScope s_law_row) .none kV_law_row dc_law_row pm_law_row an_law_row cd_law_row ct_law_row), sl_law_row⟩) (c_law_row : PySem.W.codeIn K cd_law_row "_law_row" = true) (k_law_row : PySem.W.keepIn K (.ref f_law_row) = true)
    {f_law_product : Addr} {od_law_product an_law_product : Option Addr} {sl_law_product : Array (Option Value)} {oc_law_product kV_law_product dc_law_product pm_law_product cd_law_product ct_law_product : Value}
    (a_law_product : PySem.W.nsIn K mainGlobals "_law_product" = some (some (.ref f_law_product))) (l_law_product : K.lookup f_law_product = some ⟨oc_law_product, od_law_product, .func (PySem.W.fnOf "_law_product" "_law_product" (defArgs s_law_product) (defBody s_law_product) (defScope s_law_product) .none kV_law_product dc_law_product pm_law_product an_law_product cd_law_product ct_law_product), sl_law_product⟩) (c_law_product : PySem.W.codeIn K cd_law_product "_law_product" = true) (k_law_product : PySem.W.keepIn K (.ref f_law_product) = true)
    {f_law_sum : Addr} {od_law_sum an_law_sum : Option Addr} {sl_law_sum : Array (Option Value)} {oc_law_sum kV_law_sum dc_law_sum pm_law_sum cd_law_sum ct_law_sum : Value}
    (a_law_sum : PySem.W.nsIn K mainGlobals "_law_sum" = some (some (.ref f_law_sum))) (l_law_sum : K.lookup f_law_sum = some ⟨oc_law_sum, od_law_sum, .func (PySem.W.fnOf "_law_sum" "_law_sum" (defArgs s_law_sum) (defBody s_law_sum) (defScope s_law_sum) .none kV_law_sum dc_law_sum pm_law_sum an_law_sum cd_law_sum ct_law_sum), sl_law_sum⟩) (c_law_sum : PySem.W.codeIn K cd_law_sum "_law_sum" = true) (k_law_sum : PySem.W.keepIn K (.ref f_law_sum) = true)
    {f_law_whole : Addr} {od_law_whole an_law_whole : Option Addr} {sl_law_whole : Array (Option Value)} {oc_law_whole kV_law_whole dc_law_whole pm_law_whole cd_law_whole ct_law_whole : Value}
    (a_law_whole : PySem.W.nsIn K mainGlobals "_law_whole" = some (some (.ref f_law_whole))) (l_law_whole : K.lookup f_law_whole = some ⟨oc_law_whole, od_law_whole, .func (PySem.W.fnOf "_law_whole" "_law_whole" (defArgs s_law_whole) (defBody s_law_whole) (defScope s_law_whole) .none kV_law_whole dc_law_whole pm_law_whole an_law_whole cd_law_whole ct_law_whole), sl_law_whole⟩) (c_law_whole : PySem.W.codeIn K cd_law_whole "_law_whole" = true) (k_law_whole : PySem.W.keepIn K (.ref f_law_whole) = true)
    {f_law_is_row : Addr} {od_law_is_row an_law_is_row : Option Addr} {sl_law_is_row : Array (Option Value)} {oc_law_is_row kV_law_is_row dc_law_is_row pm_law_is_row cd_law_is_row ct_law_is_row : Value}
    (a_law_is_row : PySem.W.nsIn K mainGlobals "_law_is_row" = some (some (.ref f_law_is_row))) (l_law_is_row : K.lookup f_law_is_row = some ⟨oc_law_is_row, od_law_is_row, .func (PySem.W.fnOf "_law_is_row" "_law_is_row" (defArgs s_law_is_row) (defBody s_law_is_row) (defScope s_law_is_row) .none kV_law_is_row dc_law_is_row pm_law_is_row an_law_is_row cd_law_is_row ct_law_is_row), sl_law_is_row⟩) (c_law_is_row : PySem.W.codeIn K cd_law_is_row "_law_is_row" = true) (k_law_is_row : PySem.W.keepIn K (.ref f_law_is_row) = true)
    {f_law_rank : Addr} {od_law_rank an_law_rank : Option Addr} {sl_law_rank : Array (Option Value)} {oc_law_rank kV_law_rank dc_law_rank pm_law_rank cd_law_rank ct_law_rank : Value}
    (a_law_rank : PySem.W.nsIn K mainGlobals "_law_rank" = some (some (.ref f_law_rank))) (l_law_rank : K.lookup f_law_rank = some ⟨oc_law_rank, od_law_rank, .func (PySem.W.fnOf "_law_rank" "_law_rank" (defArgs s_law_rank) (defBody s_law_rank) (defScope s_law_rank) .none kV_law_rank dc_law_rank pm_law_rank an_law_rank cd_law_rank ct_law_rank), sl_law_rank⟩) (c_law_rank : PySem.W.codeIn K cd_law_rank "_law_rank" = true) (k_law_rank : PySem.W.keepIn K (.ref f_law_rank) = true)
    {f_law_rows : Addr} {od_law_rows an_law_rows : Option Addr} {sl_law_rows : Array (Option Value)} {oc_law_rows kV_law_rows dc_law_rows pm_law_rows cd_law_rows ct_law_rows : Value}
    (a_law_rows : PySem.W.nsIn K mainGlobals "_law_rows" = some (some (.ref f_law_rows))) (l_law_rows : K.lookup f_law_rows = some ⟨oc_law_rows, od_law_rows, .func (PySem.W.fnOf "_law_rows" "_law_rows" (defArgs s_law_rows) (defBody s_law_rows) (defScope s_law_rows) .none kV_law_rows dc_law_rows pm_law_rows an_law_rows cd_law_rows ct_law_rows), sl_law_rows⟩) (c_law_rows : PySem.W.codeIn K cd_law_rows "_law_rows" = true) (k_law_rows : PySem.W.keepIn K (.ref f_law_rows) = true)
    {f_law : Addr} {od_law an_law : Option Addr} {sl_law : Array (Option Value)} {oc_law kV_law dc_law pm_law cd_law ct_law : Value}
    (a_law : PySem.W.nsIn K mainGlobals "law" = some (some (.ref f_law))) (l_law : K.lookup f_law = some ⟨oc_law, od_law, .func (PySem.W.fnOf "law" "law" (defArgs s_law) (defBody s_law) (defScope s_law) .none kV_law dc_law pm_law an_law cd_law ct_law), sl_law⟩) (c_law : PySem.W.codeIn K cd_law "law" = true) (k_law : PySem.W.keepIn K (.ref f_law) = true)
    (z_abs : PySem.W.nsIn K mainGlobals "abs" = some none)
    (z_bool : PySem.W.nsIn K mainGlobals "bool" = some none)
    (z_enumerate : PySem.W.nsIn K mainGlobals "enumerate" = some none)
    (z_int : PySem.W.nsIn K mainGlobals "int" = some none)
    (z_isinstance : PySem.W.nsIn K mainGlobals "isinstance" = some none)
    (z_len : PySem.W.nsIn K mainGlobals "len" = some none)
    (z_list : PySem.W.nsIn K mainGlobals "list" = some none)
    (z_range : PySem.W.nsIn K mainGlobals "range" = some none)
    (z_reversed : PySem.W.nsIn K mainGlobals "reversed" = some none)
    (z_sum : PySem.W.nsIn K mainGlobals "sum" = some none)
    (z_tuple : PySem.W.nsIn K mainGlobals "tuple" = some none)
    (z_zip : PySem.W.nsIn K mainGlobals "zip" = some none)
    : ∃ fd : FuncData, (∀ (s : Shared) (v : Value), BindsTo s fd ⟨[v], []⟩ [("_law_script", v)]) ∧ ∀ base : Heap, K.In base → base.Ns mainGlobals mg → FnOk l.prog w K mg base (L2.CX l.prog w) 5 fa fd P_law (spD ⟨K, fun _ => none⟩ [.b] fn_law) := by
  have e := hfa.symm.trans (PySem.W.mg_of X G a_law)
  cases e
  have F_product := fun_mk (st := s_product) l_product c_product k_product
  have b_product := F_product.binds (ps := P_product) fun _ _ _ _ _ _ us hl => match us, hl with | [_, _], _ => rfl
  have F_divisor := fun_mk (st := s_divisor) l_divisor c_divisor k_divisor
  have b_divisor := F_divisor.binds (ps := P_divisor) fun _ _ _ _ _ _ us hl => match us, hl with | [_, _], _ => rfl
  have F_lowest := fun_mk (st := s_lowest) l_lowest c_lowest k_lowest
  have b_lowest := F_lowest.binds (ps := P_lowest) fun _ _ _ _ _ _ us hl => match us, hl with | [_], _ => rfl
  have F_blended := fun_mk (st := s_blended) l_blended c_blended k_blended
  have b_blended := F_blended.binds (ps := P_blended) fun _ _ _ _ _ _ us hl => match us, hl with | [_, _, _, _], _ => rfl
  have F_unit := fun_mk (st := s_unit) l_unit c_unit k_unit
  have b_unit := F_unit.binds (ps := P_unit) fun _ _ _ _ _ _ us hl => match us, hl with | [_, _], _ => rfl
  have F_kernel_with := fun_mk (st := s_kernel_with) l_kernel_with c_kernel_with k_kernel_with
  have b_kernel_with := F_kernel_with.binds (ps := P_kernel_with) fun _ _ _ _ _ _ us hl => match us, hl with | [_, _], _ => rfl
  have F_kernel := fun_mk (st := s_kernel) l_kernel c_kernel k_kernel
  have b_kernel := F_kernel.binds (ps := P_kernel) fun _ _ _ _ _ _ us hl => match us, hl with | [_, _], _ => rfl
  have F_law_numbers := fun_mk (st := s_law_numbers) l_law_numbers c_law_numbers k_law_numbers
  have b_law_numbers := F_law_numbers.binds (ps := P_law_numbers) fun _ _ _ _ _ _ us hl => match us, hl with | [_, _], _ => rfl
  have F_law_draw := fun_mk (st := s_law_draw) l_law_draw c_law_draw k_law_draw
  have b_law_draw := F_law_draw.binds (ps := P_law_draw) fun _ _ _ _ _ _ us hl => match us, hl with | [_, _], _ => rfl
  have F_law_number := fun_mk (st := s_law_number) l_law_number c_law_number k_law_number
  have b_law_number := F_law_number.binds (ps := P_law_number) fun _ _ _ _ _ _ us hl => match us, hl with | [_], _ => rfl
  have F_law_row := fun_mk (st := s_law_row) l_law_row c_law_row k_law_row
  have b_law_row := F_law_row.binds (ps := P_law_row) fun _ _ _ _ _ _ us hl => match us, hl with | [_, _], _ => rfl
  have F_law_product := fun_mk (st := s_law_product) l_law_product c_law_product k_law_product
  have b_law_product := F_law_product.binds (ps := P_law_product) fun _ _ _ _ _ _ us hl => match us, hl with | [_, _], _ => rfl
  have F_law_sum := fun_mk (st := s_law_sum) l_law_sum c_law_sum k_law_sum
  have b_law_sum := F_law_sum.binds (ps := P_law_sum) fun _ _ _ _ _ _ us hl => match us, hl with | [_, _, _], _ => rfl
  have F_law_whole := fun_mk (st := s_law_whole) l_law_whole c_law_whole k_law_whole
  have b_law_whole := F_law_whole.binds (ps := P_law_whole) fun _ _ _ _ _ _ us hl => match us, hl with | [_], _ => rfl
  have F_law_is_row := fun_mk (st := s_law_is_row) l_law_is_row c_law_is_row k_law_is_row
  have b_law_is_row := F_law_is_row.binds (ps := P_law_is_row) fun _ _ _ _ _ _ us hl => match us, hl with | [_, _], _ => rfl
  have F_law_rank := fun_mk (st := s_law_rank) l_law_rank c_law_rank k_law_rank
  have b_law_rank := F_law_rank.binds (ps := P_law_rank) fun _ _ _ _ _ _ us hl => match us, hl with | [_], _ => rfl
  have F_law_rows := fun_mk (st := s_law_rows) l_law_rows c_law_rows k_law_rows
  have b_law_rows := F_law_rows.binds (ps := P_law_rows) fun _ _ _ _ _ _ us hl => match us, hl with | [_, _], _ => rfl
  have F_law := fun_mk (st := s_law) l_law c_law k_law
  have b_law := F_law.binds (ps := P_law) fun _ _ _ _ _ _ us hl => match us, hl with | [_], _ => rfl
  let fx : Fx K mg := ⟨_, _, F_product, b_product, PySem.W.mg_of X G a_product, _, _, F_divisor, b_divisor, PySem.W.mg_of X G a_divisor, _, _, F_lowest, b_lowest, PySem.W.mg_of X G a_lowest, _, _, F_blended, b_blended, PySem.W.mg_of X G a_blended, _, _, F_unit, b_unit, PySem.W.mg_of X G a_unit, _, _, F_kernel_with, b_kernel_with, PySem.W.mg_of X G a_kernel_with, _, _, F_kernel, b_kernel, PySem.W.mg_of X G a_kernel, _, _, F_law_numbers, b_law_numbers, PySem.W.mg_of X G a_law_numbers, _, _, F_law_draw, b_law_draw, PySem.W.mg_of X G a_law_draw, _, _, F_law_number, b_law_number, PySem.W.mg_of X G a_law_number, _, _, F_law_row, b_law_row, PySem.W.mg_of X G a_law_row, _, _, F_law_product, b_law_product, PySem.W.mg_of X G a_law_product, _, _, F_law_sum, b_law_sum, PySem.W.mg_of X G a_law_sum, _, _, F_law_whole, b_law_whole, PySem.W.mg_of X G a_law_whole, _, _, F_law_is_row, b_law_is_row, PySem.W.mg_of X G a_law_is_row, _, _, F_law_rank, b_law_rank, PySem.W.mg_of X G a_law_rank, _, _, F_law_rows, b_law_rows, PySem.W.mg_of X G a_law_rows, _, _, F_law, b_law, PySem.W.mg_of X G a_law, PySem.W.mg_none_of X G z_abs, PySem.W.mg_none_of X G z_bool, PySem.W.mg_none_of X G z_enumerate, PySem.W.mg_none_of X G z_int, PySem.W.mg_none_of X G z_isinstance, PySem.W.mg_none_of X G z_len, PySem.W.mg_none_of X G z_list, PySem.W.mg_none_of X G z_range, PySem.W.mg_none_of X G z_reversed, PySem.W.mg_none_of X G z_sum, PySem.W.mg_none_of X G z_tuple, PySem.W.mg_none_of X G z_zip⟩
  exact ⟨_, fun s v => .of_eq rfl, fun base _ _ => ok_law (k := 0) fx⟩
end
end DL

open PySem PySem.W PyProof.Rows
set_option maxHeartbeats 0 in
theorem PySem.Challenge.cw_netfinder_k41_kernels_holds : PySem.Challenge.rw_netfinder_k41_kernels.Holds := by
  w_on; o_law; k_head; (case hw => w_witness2)
  k_fill
  refine L2.walk_ofB (l := PySem.Challenge.rw_netfinder_k41_kernels) (n := 63) (k := 5) (x := "_law_script") (CX := fun w => L2.CX PySem.Challenge.rw_netfinder_k41_kernels.prog w) (sp := fun w => DL.spD ⟨_, fun _ => none⟩ [.b] DL.fn_law) rfl (by decide) rfl ⟨rfl, by decide, by decide⟩ (fun w h Y => PySem.W.kIn_of Y) ?F (fun w H a ns hl hb _ hS => DL.law_sp hS (DL.law_true ns hl hb)) ?X
  case F =>
    intro w mg fa h KX G hmg
    refine' DL.all_mk KX G hmg ?a_product ?l_product ?c_product ?k_product ?a_divisor ?l_divisor ?c_divisor ?k_divisor ?a_lowest ?l_lowest ?c_lowest ?k_lowest ?a_blended ?l_blended ?c_blended ?k_blended ?a_unit ?l_unit ?c_unit ?k_unit ?a_kernel_with ?l_kernel_with ?c_kernel_with ?k_kernel_with ?a_kernel ?l_kernel ?c_kernel ?k_kernel ?a_law_numbers ?l_law_numbers ?c_law_numbers ?k_law_numbers ?a_law_draw ?l_law_draw ?c_law_draw ?k_law_draw ?a_law_number ?l_law_number ?c_law_number ?k_law_number ?a_law_row ?l_law_row ?c_law_row ?k_law_row ?a_law_product ?l_law_product ?c_law_product ?k_law_product ?a_law_sum ?l_law_sum ?c_law_sum ?k_law_sum ?a_law_whole ?l_law_whole ?c_law_whole ?k_law_whole ?a_law_is_row ?l_law_is_row ?c_law_is_row ?k_law_is_row ?a_law_rank ?l_law_rank ?c_law_rank ?k_law_rank ?a_law_rows ?l_law_rows ?c_law_rows ?k_law_rows ?a_law ?l_law ?c_law ?k_law ?z_abs ?z_bool ?z_enumerate ?z_int ?z_isinstance ?z_len ?z_list ?z_range ?z_reversed ?z_sum ?z_tuple ?z_zip
    (case a_product => k_is); (case l_product => k_is); (case c_product => k_is); (case k_product => k_is); (case a_divisor => k_is); (case l_divisor => k_is); (case c_divisor => k_is); (case k_divisor => k_is); (case a_lowest => k_is); (case l_lowest => k_is); (case c_lowest => k_is); (case k_lowest => k_is); (case a_blended => k_is); (case l_blended => k_is); (case c_blended => k_is); (case k_blended => k_is); (case a_unit => k_is); (case l_unit => k_is); (case c_unit => k_is); (case k_unit => k_is); (case a_kernel_with => k_is); (case l_kernel_with => k_is); (case c_kernel_with => k_is); (case k_kernel_with => k_is); (case a_kernel => k_is); (case l_kernel => k_is); (case c_kernel => k_is); (case k_kernel => k_is); (case a_law_numbers => k_is); (case l_law_numbers => k_is); (case c_law_numbers => k_is); (case k_law_numbers => k_is); (case a_law_draw => k_is); (case l_law_draw => k_is); (case c_law_draw => k_is); (case k_law_draw => k_is); (case a_law_number => k_is); (case l_law_number => k_is); (case c_law_number => k_is); (case k_law_number => k_is); (case a_law_row => k_is); (case l_law_row => k_is); (case c_law_row => k_is); (case k_law_row => k_is); (case a_law_product => k_is); (case l_law_product => k_is); (case c_law_product => k_is); (case k_law_product => k_is); (case a_law_sum => k_is); (case l_law_sum => k_is); (case c_law_sum => k_is); (case k_law_sum => k_is); (case a_law_whole => k_is); (case l_law_whole => k_is); (case c_law_whole => k_is); (case k_law_whole => k_is); (case a_law_is_row => k_is); (case l_law_is_row => k_is); (case c_law_is_row => k_is); (case k_law_is_row => k_is); (case a_law_rank => k_is); (case l_law_rank => k_is); (case c_law_rank => k_is); (case k_law_rank => k_is); (case a_law_rows => k_is); (case l_law_rows => k_is); (case c_law_rows => k_is); (case k_law_rows => k_is); (case a_law => k_is); (case l_law => k_is); (case c_law => k_is); (case k_law => k_is); (case z_abs => k_is); (case z_bool => k_is); (case z_enumerate => k_is); (case z_int => k_is); (case z_isinstance => k_is); (case z_len => k_is); (case z_list => k_is); (case z_range => k_is); (case z_reversed => k_is); (case z_sum => k_is); (case z_tuple => k_is); (case z_zip => k_is)
  case X =>
    intro w H s e s2 h
    obtain ⟨_, _, _, _, _, _, _, _, _, _, _, _, h⟩ := h
    exact h
