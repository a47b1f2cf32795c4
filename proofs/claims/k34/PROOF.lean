import PyProof.Rows.All
import Wide.All
import OpenK.AllK
import Wide.FinOn
import PyProof.ListRange
import HandS.Base
import HandS.Call
import HandS.List
import HandS.Rev
import HandS.RevTup
import HandS.TupMul
import KE.GoesNew
import KE.GoesMore
import HandS.Iter
import HandS.Zip
import HandS.ForMost
import HandS.Strs
import HandS.Replace
import HandS.Deep
import KE.SortData
import HandS.Conv
import KE.KDictSum
import PyProof.Draws
import PyProof.EnumMake
import HandS.Walk
import HandS.Zip0
import HandS.Wide
import HandS.TupAny
import HandS.IsInst
import HandS.ForExc
import HandS.More
import PyProof.FactsAll.list_3
import HandS.WordsExc
import HandS.TupLe
import HandS.Text
import HandS.Dict
import HandS.WordsDict
import HandS.TupLen
import HandS.SortKw
import KE.DataMinMax
import HandS.Flt
import KE.DataCmp
import PyProof.Rows.SeqMore
import PyProof.StrOps2
import HandS.Codes
import HandS.EndBits
import PySem.Challenge.RW_netfinder_k34_rings_and_arcs
set_option Elab.async false
set_option linter.all false
set_option maxRecDepth 100000
/-! list(reversed(xs)), xs a list -/
namespace DL
open PySem PySem.Spec PyProof.Rows L2
section
variable {prog : Program} {w : World} {A : Around} {E : Value → Shared → Prop} {s : Shared}
theorem rev_ext {R : Result → Shared → Prop} {it l S : Addr} {items : Array Value} {c0 : Nat} (hh : A.handled = none) (hit : s.heap.IsRevIter it l ((items.size : Int) - 1)) (hl : s.heap.IsList l items) (hne : l ≠ it) (hn : items.size ≤ sizeLine)
    (hS : s.heap.get? S = some { cls := .type "list", data := .seq #[] c0 }) (ne1 : S ≠ it) (ne2 : S ≠ l)
    (hR : ∀ h2 tk acc c2, (∀ b o, b ≠ S → b ≠ it → s.heap.get? b = some o → h2.get? b = some o) → h2.get? S = some { cls := .type "list", dict := none, data := .seq acc c2, slots := #[] } →
      ItemsOf (fun i v => items[items.size - 1 - i]? = some v) acc items.size → R (.ok (.ret .none)) { s with heap := h2, toks := tk }) :
    wpAny (model prog w) A.in1 (Builtin.List.listExtendWith (.ref S) (.ref it) .none)
      (fun fin s2 => match fin with
        | .done f => R (.ok f) s2
        | .again c => c.quiet = true ∧ codeAny (model prog w) A c R s2) (fun e s2 => R (.error e) s2) s := by
  have Wk := (Walks.listRev (prog := prog) (w := w) (A := A.in1) hh it l hne items).toS
  have fS : S ∉ [it, l] := by
    simp only [List.mem_cons, List.not_mem_nil, or_false, not_or]
    exact ⟨ne1, ne2⟩
  have tI : s.TypeIs (.ref it) "list_reverseiterator" := hit.typeIs
  have z1 : Builtin.List.listSameRef (.ref S) (.ref it) = false := by simp [Builtin.List.listSameRef, ne1]
  unfold Builtin.List.listExtendWith
  refine wpAny_bind (wpAny_typeOf tI ?_)
  rw [if_neg (by rw [z1]; decide)]
  refine wpAny_bind (wpAny_pyIter_revIter hit ?_)
  refine wpAny_bind (wpAny_holding ?_)
  unfold Builtin.List.listLengthHint
  refine wpAny_bind (wpAny_specialOf tI RT.nolen_lri ?_)
  show wpAny _ A.in1 (specialOf (Value.ref it) (Str.ofString "__length_hint__") >>= _) _ _ _
  refine wpAny_bind (wpAny_specialOf tI RT.hint_lri ?_)
  generalize hid : ("list_reverseiterator.__length_hint__" : String) = id0
  wp_delta
  rw [show splitId id0 = some ("list_reverseiterator", "__length_hint__") from by subst hid; decide +kernel]
  subst hid
  refine wpAny_bind (wpAny_isInstance (b := true) tI (by rw [isSubtype_type]; kernel_rfl) ?_)
  refine wpAny_pure ?_
  rw [if_neg (by decide)]
  have e0 : ((items.size : Nat) : Int) - 1 - ((0 : Nat) : Int) = (items.size : Int) - 1 := by omega
  refine wpAny_pure ⟨plainId_quiet F.plain_extend_loop _, codeAny_extend_loopS Wk hn _ fS _ items.size 0 _ _ _ rfl (Nat.zero_le _) ⟨Nat.zero_le _, (by rw [e0]; exact hit), hl⟩ hS (ItemsOf.nil _) fun s2 acc c2 hm hS2 hacc => ?_⟩
  rw [Moved.eq_with hm]
  refine hR s2.heap s2.toks acc c2 (fun b o hb hi e => hm.heap b o (fun hmem => ?_) e) hS2 hacc
  rcases List.mem_cons.mp hmem with e' | hmem
  · exact hb e'
  · exact hi (List.mem_singleton.mp hmem)
theorem rev_init {R : Result → Shared → Prop} {it l S : Addr} {items : Array Value} (hh : A.handled = none) (hit : s.heap.IsRevIter it l ((items.size : Int) - 1)) (hl : s.heap.IsList l items) (hne : l ≠ it) (hn : items.size ≤ sizeLine)
    (hS : s.heap.get? S = some { cls := .type "list", data := .seq #[] }) (ne1 : S ≠ it) (ne2 : S ≠ l)
    (hR : ∀ h2 tk acc c2, (∀ b o, b ≠ S → b ≠ it → s.heap.get? b = some o → h2.get? b = some o) → h2.get? S = some { cls := .type "list", dict := none, data := .seq acc c2, slots := #[] } →
      ItemsOf (fun i v => items[items.size - 1 - i]? = some v) acc items.size → R (.ok (.ret .none)) { s with heap := h2, toks := tk }) :
    wpAny (model prog w) A.in1 (Builtin.«list.__init__» ⟨[.ref S, .ref it], []⟩)
      (fun fin s2 => match fin with
        | .done f => R (.ok f) s2
        | .again c => c.quiet = true ∧ codeAny (model prog w) A c R s2) (fun e s2 => R (.error e) s2) s := by
  show wpAny _ _ (do
    let old ← Builtin.List.listItems (.ref S)
    Builtin.List.listUpdate (.ref S) (fun _ => #[])
    letGo old.toList.reverse
    Builtin.List.listExtendWith (.ref S) (.ref it) .none) _ _ s
  refine wpAny_bind ?_
  unfold Builtin.List.listItems
  refine wpAny_bind (wpAny_seqItems hS rfl (wpAny_pure ?_))
  show wpAny _ _ (updateSeq S (fun _ => #[]) >>= fun _ =>
    letGo (#[] : Array Value).toList.reverse >>= fun _ =>
    Builtin.List.listExtendWith (.ref S) (.ref it) .none) _ _ s
  refine wpAny_bind (wpAny_updateSeq hS rfl ?_)
  have hS3 := Heap.get?_update_self (Obj.mapSeq (fun _ => (#[] : Array Value))) hS rfl
  have oth : ∀ b o, b ≠ S → s.heap.get? b = some o →
      (s.heap.update S (Obj.mapSeq (fun _ => (#[] : Array Value)))).get? b = some o := fun b o hb e => (Heap.get?_update_other _ _ (Ne.symm hb)).trans e
  refine wpAny_bind (wpAny_letGo ?_)
  refine rev_ext hh (hit.at fun o e => oth it o (Ne.symm ne1) e) ?_ hne hn hS3 ne1 ne2 fun h2 tk acc c2 hk hS2 hacc => ?_
  · obtain ⟨o, e, r⟩ := hl
    exact ⟨o, oth l o (Ne.symm ne2) e, r⟩
  · exact hR h2 tk acc c2 (fun b o hb hi e => hk b o hb hi (oth b o hb e)) hS2 hacc
theorem call_lrev {it l : Addr} {items : Array Value} {Q : Value → Shared → Prop} (hh : A.handled = none) (hit : s.heap.IsRevIter it l ((items.size : Int) - 1)) (hl : s.heap.IsList l items) (hne : l ≠ it) (hn : items.size ≤ sizeLine)
    (hQ : ∀ h2 tk acc c2, (∀ b o, b ≠ it → s.heap.get? b = some o → h2.get? b = some o) → h2.get? s.heap.objs.size = some { cls := .type "list", dict := none, data := .seq acc c2, slots := #[] } →
      ItemsOf (fun i v => items[items.size - 1 - i]? = some v) acc items.size → Q (.ref s.heap.objs.size) { s with heap := h2, toks := tk }) :
    wpAny (model prog w) A (call (.type "list") [.ref it]) Q E s := by
  obtain ⟨oi, hoi, _⟩ := id hit
  obtain ⟨ol, hol, _⟩ := id hl
  refine callType_codes (Q₁ := fun obj s₁ => obj = .ref s.heap.objs.size ∧ s₁ = { s with heap := s.heap.push { cls := .type "list", data := .seq #[] } })
    F.called_list (F.typeCall_list_1 _) F.entry_list_init (code_list_new _ ⟨rfl, rfl⟩) fun obj s₁ h₁ => ?_
  obtain ⟨rfl, rfl⟩ := h₁
  have hS : (s.heap.push { cls := .type "list", data := .seq #[] }).get? s.heap.objs.size = some { cls := .type "list", data := .seq #[] } := Heap.get?_push_size _ rfl
  refine ⟨⟨_, hS, rfl⟩, F.args_list_init_2 _ _, rev_init (A := A.in1) hh (hit.at fun o e => Heap.get?_push_of_some _ e) (hl.push _) hne hn hS (Nat.ne_of_gt (Heap.lt_size hoi)) (Nat.ne_of_gt (Heap.lt_size hol)) fun h2 tk acc c2 hk hS2 hacc => ?_⟩
  exact ⟨rfl, hQ h2 tk acc c2 (fun b o hb e => hk b o (Nat.ne_of_lt (Heap.lt_size e)) hb (Heap.get?_push_of_some _ e)) hS2 hacc⟩
end
section
variable {X : Cx}
def tLRev (K : PySem.W.Frag) (te : TE) : TE := fun σ H Q => te σ H fun v H1 => ∃ (a : Addr) (xs : List V), v = .ref a ∧ SqL K H1 a xs ∧ ∀ q, H1 q = none → Q (.ref q) (upd H1 q (.lst xs.reverse))
theorem pe_lrev {e : Expr} {te : TE} {p p2 pos pos2 : Pos} (hc : X.calm = true) (hg : Gl X "list") (hm : X.mg "list" = none) (hg2 : Gl X "reversed") (hm2 : X.mg "reversed" = none) (he : PE X e te)
    (hs : starEach [e] X.env = (false, eval e X.env) :: starEach [] X.env := by rfl)
    (hs2 : starEach [.Call (.Name "reversed" p2) [e] [] pos2] X.env = (false, eval (.Call (.Name "reversed" p2) [e] [] pos2) X.env) :: starEach [] X.env := by rfl) :
    PE X (.Call (.Name "list" p) [.Call (.Name "reversed" p2) [e] [] pos2] [] pos) (tLRev X.K te) := by
  refine ⟨fun ps sh sg hp QQ inv h => ?_⟩
  have inner : ∀ (R : Value → Shared → Prop), (∀ u s1 v H1, Inv X ps sg H1 s1 → RelV v u → (∃ (a : Addr) (xs : List V), v = .ref a ∧ SqL X.K H1 a xs ∧ ∀ q, H1 q = none → QQ (.ref q) (upd H1 q (.lst xs.reverse))) →
      wpAny (model X.prog X.w) X.A (call (.type "reversed") [u]) R X.xe s1) → wpAny (model X.prog X.w) X.A (eval (.Call (.Name "reversed" p2) [e] [] pos2) X.env) R X.xe sh := fun R k =>
    Call_ (ld_blt inv hg2 hm2 PyProof.Rows.boot_reversed (PyProof.Rows.callWith_type1 (args_cons (thn (he.run ps sh sg hp _ inv h) fun u s1 ⟨v, H1, I1, r1, q1⟩ => args_nil (k u s1 v H1 I1 r1 q1)) hs) hs rfl))
  refine Call_ (ld_blt inv hg hm boot_list (PyProof.Rows.callWith_type1 (args_cons (inner _ fun u s1 v H1 I1 r1 q1 => ?_) hs2) hs2 rfl))
  obtain ⟨a, xs, ev, hq, q⟩ := q1
  subst ev
  obtain rfl : u = Value.ref a := r1
  obtain ⟨its, rv, p', hz⟩ := I1.list hq
  refine call_reversed_list p'.isList (args_nil ?_)
  have k0 : ∀ b o, s1.heap.get? b = some o → (s1.heap.push (revObj a ((its.toArray.size : Int) - 1))).get? b = some o := fun b o e => Heap.get?_push_of_some _ e
  have I2 : Inv X ps sg H1 { s1 with heap := s1.heap.push (revObj a ((its.toArray.size : Int) - 1)) } := I1.kept (t' := s1.toks) k0
  have fp := I1.fpOk (H' := H1) (b := s1.heap.objs.size) (Nat.le_refl _) (I1.hok.fresh (Nat.le_refl _))
  have hl := p'.isList
  obtain ⟨ol, hol, _⟩ := id hl
  have hne : a ≠ s1.heap.objs.size := Nat.ne_of_lt (Heap.lt_size hol)
  have hn : its.toArray.size ≤ sizeLine := by
    rw [List.size_toArray, ← rv.length]
    exact hz
  refine call_lrev (s := { s1 with heap := s1.heap.push (revObj a ((its.toArray.size : Int) - 1)) }) (I1.ok.hd hc) ⟨_, Heap.get?_push_size _ rfl, rfl, rfl⟩ (hl.push _) hne hn fun h2 tk acc c2 hk hS hi => ?_
  have szp : ({ s1 with heap := s1.heap.push (revObj a ((its.toArray.size : Int) - 1)) } : Shared).heap.objs.size = s1.heap.objs.size + 1 := Heap.size_push ..
  have fr : H1 ({ s1 with heap := s1.heap.push (revObj a ((its.toArray.size : Int) - 1)) } : Shared).heap.objs.size = none := I2.hok.fresh (Nat.le_refl _)
  generalize hD : ({ s1 with heap := s1.heap.push (revObj a ((its.toArray.size : Int) - 1)) } : Shared).heap.objs.size = dd at hS fr szp
  have Dn : dd ≠ s1.heap.objs.size := by omega
  obtain ⟨f0, f1, f2, f3, f4, f5⟩ := fp
  have I3 : Inv X ps sg (upd H1 dd (.lst xs.reverse)) { s1 with heap := h2, toks := tk } := by
    refine Inv.turnedNew (s := { s1 with heap := s1.heap.push (revObj a ((its.toArray.size : Int) - 1)) }) (t' := tk) (ch := [s1.heap.objs.size]) I2 (fun b o hb e => hk b o (by simpa using hb) e) (fun b hb => ?_) (by rw [← hD]; exact Nat.le_refl _) ?_
    · obtain rfl : b = s1.heap.objs.size := by simpa using hb
      exact ⟨f0, f1, f2, f3, f4, f5⟩
    · refine ⟨?_, acc.toList, c2, RT.vals_rev rv hi, ?_⟩
      · rw [List.length_reverse]; exact hz
      · rw [Array.toArray_toList]; exact hS
  exact ⟨.ref dd, _, I3, rfl, q dd fr⟩
end
end DL

set_option maxHeartbeats 4000000
/-! a tuple times 0, 1 or less -/
namespace DL
open PySem PySem.Spec PyProof.Rows L2
theorem tup_mul_none (l : Addr) (items : Array Value) (n : Nat) (dd : Option Addr) (sl : Array (Option Value)) (x : Int) (u : Tok) (c0 : (decide (x < -(2 ^ 63)) || decide (x ≥ 2 ^ 63)) = false) (c1 : (items.isEmpty || x == 1) = false) (c2 : (decide (x ≤ 0) || items.isEmpty) = true) :
    Meets (Builtin.«tuple.__mul__» ⟨[.ref l, .int x u], []⟩) (fun _ R s => s.heap.get? l = some { cls := .type "tuple", dict := dd, data := .seq items n, slots := sl } ∧
      R (.ok (.ret (Value.ref s.heap.objs.size))) { s with heap := s.heap.push { cls := Value.type "tuple", data := Data.seq #[] }, toks := s.toks }) :=
  .of_wp fun prog w A R s h => by
    obtain ⟨hp, g, d, tk, os⟩ := s
    obtain ⟨hl, h⟩ := h
    have f1 := AutoSeq1.idx_int
    wp_walk using AutoSeq1.wpAny_loadPart' hl
    repeat (first
      | (refine wpAny_ite_false (decide_eq_false (by rw [c0]; exact Bool.false_ne_true)) ?_; wp_walk using AutoSeq1.wpAny_loadPart' hl)
      | (refine wpAny_ite_false (decide_eq_false (by rw [c1]; exact Bool.false_ne_true)) ?_; wp_walk using AutoSeq1.wpAny_loadPart' hl)
      | (refine wpAny_ite_true (decide_eq_true c2) ?_; wp_walk using AutoSeq1.wpAny_loadPart' hl))
    all_goals first
      | exact ⟨_, rfl, h⟩
      | skip
theorem tup_mul_same (l : Addr) (items : Array Value) (n : Nat) (dd : Option Addr) (sl : Array (Option Value)) (x : Int) (u : Tok) (c0 : (decide (x < -(2 ^ 63)) || decide (x ≥ 2 ^ 63)) = false) (c1 : (items.isEmpty || x == 1) = true) :
    Meets (Builtin.«tuple.__mul__» ⟨[.ref l, .int x u], []⟩) (fun _ R s => s.heap.get? l = some { cls := .type "tuple", dict := dd, data := .seq items n, slots := sl } ∧
      R (.ok (.ret (Value.ref l))) s) :=
  .of_wp fun prog w A R s h => by
    obtain ⟨hp, g, d, tk, os⟩ := s
    obtain ⟨hl, h⟩ := h
    have f1 := AutoSeq1.idx_int
    wp_walk using AutoSeq1.wpAny_loadPart' hl
    repeat (first
      | (refine wpAny_ite_false (decide_eq_false (by rw [c0]; exact Bool.false_ne_true)) ?_; wp_walk using AutoSeq1.wpAny_loadPart' hl)
      | (refine wpAny_ite_true (decide_eq_true c1) ?_; wp_walk using AutoSeq1.wpAny_loadPart' hl))
    all_goals first
      | exact ⟨_, rfl, h⟩
      | skip
section
variable {X : Cx}
/-- a tuple times an int -/
def rRepAny (K : PySem.W.Frag) : R2 := fun x y H Q => ∃ l k xs, x = .ref l ∧ y = .int k ∧ SqT K H l xs ∧ -1000 ≤ k ∧ k ≤ 1000 ∧ xs.length ≤ 1000 ∧ ((xs = [] ∨ k = 1) → Q (.ref l) H) ∧ (xs ≠ [] → k ≤ 0 → ∀ p, H p = none → Q (.ref p) (upd H p (.tup []))) ∧
  (xs ≠ [] → 2 ≤ k → ∀ p, H p = none → Q (.ref p) (upd H p (.tup (List.replicate k.toNat xs).flatten)))
theorem op_repAny : OpR X (binaryOp .Mult) (rRepAny X.K) := by
  intro ps sh sg hp x y v u Q inv rx ry h
  obtain ⟨l, k, xs, rfl, rfl, hT, k0, k1, hz, qs, qn, qr⟩ := h
  by_cases h2 : xs ≠ [] ∧ 2 ≤ k
  · exact op_repT ps sh sg hp _ _ v u Q inv rx ry ⟨l, k, xs, rfl, rfl, hT, h2.1, h2.2, k1, hz, qr h2.1 h2.2⟩
  · cases rx
    obtain ⟨t, rfl⟩ := ry
    obtain ⟨its, r, ⟨⟨cls, dd, data, sl⟩, ho, hc, n, hd⟩, hs⟩ := inv.tuple hT
    simp only at hc hd
    subst hc hd
    have hle : its.length = xs.length := r.length.symm
    have c0 : (decide (k < -(2 ^ 63)) || decide (k ≥ 2 ^ 63)) = false := by
      rw [decide_eq_false (by omega), decide_eq_false (by omega)] <;> rfl
    by_cases hs : xs = [] ∨ k = 1
    · have c1 : (its.toArray.isEmpty || k == 1) = true := by
        rcases hs with e | e
        · subst e
          have : its = [] := List.eq_nil_of_length_eq_zero hle
          subst this
          rfl
        · subst e
          simp
      refine wpAny_binaryOp_repeat_ref (T := "tuple") (U := "int") (by decide) ⟨_, ho, rfl⟩ (fun s' => typeIs_int s' k t) noFill_tuple_mul F.fills_int_mul F.slot_int_rmul repeat_tuple F.slot_int_index.lookup
        (call_meets F.slot_int_rmul (typeIs_int sh k t) F.entry_int_rmul (F.args_int_rmul_2 _ _) (int_rmul_tuple k t l its.toArray n dd sl)
          ⟨ho, rfl, ⟨_, ho, rfl⟩, call_meets F.slot_tuple_mul ⟨_, ho, rfl⟩ F.entry_tuple_mul (F.args_tuple_mul_2 _ _) (tup_mul_same l its.toArray n dd sl k t c0 c1) ⟨ho, ?_⟩⟩)
      exact ⟨.ref l, hp, inv, rfl, qs hs⟩
    · have hne : xs ≠ [] := fun e => hs (.inl e)
      have hk1 : k ≠ 1 := fun e => hs (.inr e)
      have hk : k ≤ 0 := by
        by_cases h : 2 ≤ k
        · exact absurd ⟨hne, h⟩ h2
        · omega
      have hi : its.toArray.isEmpty = false := by
        cases its with
        | nil => exact absurd (List.eq_nil_of_length_eq_zero hle.symm) hne
        | cons a b => rfl
      have c1 : (its.toArray.isEmpty || k == 1) = false := by
        rw [hi, Bool.false_or]
        exact beq_eq_false_iff_ne.mpr hk1
      have c2 : (decide (k ≤ 0) || its.toArray.isEmpty) = true := by
        rw [hi, Bool.or_false]
        exact decide_eq_true hk
      refine wpAny_binaryOp_repeat_ref (T := "tuple") (U := "int") (by decide) ⟨_, ho, rfl⟩ (fun s' => typeIs_int s' k t) noFill_tuple_mul F.fills_int_mul F.slot_int_rmul repeat_tuple F.slot_int_index.lookup
        (call_meets F.slot_int_rmul (typeIs_int sh k t) F.entry_int_rmul (F.args_int_rmul_2 _ _) (int_rmul_tuple k t l its.toArray n dd sl)
          ⟨ho, rfl, ⟨_, ho, rfl⟩, call_meets F.slot_tuple_mul ⟨_, ho, rfl⟩ F.entry_tuple_mul (F.args_tuple_mul_2 _ _) (tup_mul_none l its.toArray n dd sl k t c0 c1 c2) ⟨ho, ?_⟩⟩)
      refine ⟨.ref sh.heap.objs.size, _, inv.laid (t' := sh.toks) (o := .tup []) (fun b ob q => Heap.get?_push_of_some _ q) (Nat.le_refl _) ?_, rfl, qn hne hk _ (inv.hok.fresh (Nat.le_refl _))⟩
      exact ⟨Nat.zero_le _, [], .nil, IsTup.new _ _⟩
end
end DL

/-! zip of two, each a list or a tuple -/
namespace DL
open PySem PySem.Spec PyProof.Rows L2
def Sq (K : PySem.W.Frag) (k : Bool) (H : Hp) (a : Addr) (xs : List V) : Prop := match k with
  | true => SqL K H a xs
  | false => SqT K H a xs
def SqIt (k : Bool) (h : Heap) (it a : Addr) (i : Nat) : Prop := match k with
  | true => h.IsListIter it a i
  | false => h.IsTupleIter it a i
def SqAt (k : Bool) (h : Heap) (a : Addr) (items : Array Value) : Prop := match k with
  | true => h.IsList a items
  | false => h.IsTuple a items
theorem SqIt.at {k : Bool} {h h' : Heap} {it a : Addr} {i : Nat} (x : SqIt k h it a i) (e : ∀ o, h.get? it = some o → h'.get? it = some o) : SqIt k h' it a i := by
  cases k with
  | true => exact Heap.IsListIter.at x e
  | false => exact Heap.IsTupleIter.at x e
theorem SqIt.obj {k : Bool} {h : Heap} {it a : Addr} {i : Nat} (x : SqIt k h it a i) : ∃ o, h.get? it = some o ∧ ∀ v, o.data ≠ .cell v := by
  cases k with
  | true =>
    obtain ⟨o, e, _, d⟩ := x
    exact ⟨o, e, fun v q => by rw [d] at q; cases q⟩
  | false =>
    obtain ⟨o, e, _, d⟩ := x
    exact ⟨o, e, fun v q => by rw [d] at q; cases q⟩
theorem draws_sq {prog : Program} {w : World} {A : Around} (hh : A.handled = none) (k : Bool) (it l : Addr) (hne : l ≠ it) (items : Array Value) :
    Draws prog w A it [it, l] items.size (fun i v => items[i]? = some v) (fun i h => SqIt k h it l i ∧ SqAt k h l items) := by
  cases k with
  | true => exact Draws.list hh it l hne items
  | false => exact Draws.tuple hh it l hne items
theorem sq_items {X : Cx} {pins : List (Addr × Obj)} {σ : L2.St} {H : Hp} {s : Shared} {k : Bool} {a : Addr} {xs : List V} (I : Inv X pins σ H s) (h : Sq X.K k H a xs) : ∃ its : List Value, Vals xs its ∧ SqAt k s.heap a its.toArray ∧ a < s.heap.objs.size := by
  cases k with
  | true =>
    obtain ⟨its, rv, p, _⟩ := I.list h
    have q := p.isList
    obtain ⟨o, e, _⟩ := id q
    exact ⟨its, rv, q, Heap.lt_size e⟩
  | false =>
    obtain ⟨its, rv, p, _⟩ := I.tuple h
    obtain ⟨o, e, _⟩ := id p
    exact ⟨its, rv, p, Heap.lt_size e⟩
theorem sq_inj {X : Cx} {pins : List (Addr × Obj)} {σ : L2.St} {H : Hp} {s : Shared} {k : Bool} {a : Addr} {xs ys : List V} (I : Inv X pins σ H s) (h : Sq X.K k H a xs) (h2 : Sq X.K k H a ys) : xs = ys := by
  cases k with
  | true => exact I.list_inj h h2
  | false => exact I.tuple_inj h h2
/-- the two as they stand at each turn, the items in new pairs -/
def ItzX (K : PySem.W.Frag) (k1 k2 : Bool) (a b : Addr) : It :=
  ⟨fun i H => ∃ (xs ys : List V) (x y : V), Sq K k1 H a xs ∧ Sq K k2 H b ys ∧ xs[i]? = some x ∧ ys[i]? = some y,
    fun i H v H' => ∃ T x y, v = .ref T ∧ H T = none ∧ H' = upd H T (.tup [x, y]) ∧ (∀ xs, Sq K k1 H a xs → xs[i]? = some x) ∧ ∀ ys, Sq K k2 H b ys → ys[i]? = some y,
    fun i H => ∃ xs ys : List V, Sq K k1 H a xs ∧ Sq K k2 H b ys ∧ i = min xs.length ys.length⟩
theorem turn_zipX {P : Program} {w : World} {K : PySem.W.Frag} {elts : List Expr} {kk : Nat} {tpos : Pos} {k1 k2 : Bool} {a b z TI TO i1 i2 : Addr} (S : ZipSep2 z TI TO i1 i2 [i1, a] [i2, b]) (na : a ≠ i1) (nb : b ≠ i2) :
    Turn P w K (.Tuple elts kk tpos) (ItzX K k1 k2 a b) [z, TI, TO, i1, i2] z (fun i h => IsZip h z TI TO .none ∧ IsTupOf2 h TI (.ref i1) (.ref i2) ∧ (∃ x y, IsTupOf2 h TO x y) ∧ SqIt k1 h i1 a i ∧ SqIt k2 h i2 b i) where
  mem := by simp
  obj := fun i h st c hc => by
    obtain ⟨hz, hTI, ⟨x, y, hTO⟩, t1, t2⟩ := st
    have e' : c = z ∨ c = TI ∨ c = TO ∨ c = i1 ∨ c = i2 := by simpa using hc
    rcases e' with q | q | q | q | q
    · subst q; exact ⟨_, hz, fun v q => nomatch q⟩
    · subst q; exact ⟨_, hTI, fun v q => nomatch q⟩
    · subst q; exact ⟨_, hTO, fun v q => nomatch q⟩
    · subst q; exact t1.obj
    · subst q; exact t2.obj
  keep := fun i h h' st k => by
    obtain ⟨hz, hTI, ⟨x, y, hTO⟩, t1, t2⟩ := st
    exact ⟨k z (by simp) _ hz, k TI (by simp) _ hTI, ⟨x, y, k TO (by simp) _ hTO⟩, t1.at fun o q => k i1 (by simp) o q, t2.at fun o q => k i2 (by simp) o q⟩
  item := by
    intro X hP hw hK hc i ps sh sg H E inv hf st hg
    subst hP hw hK
    obtain ⟨hz, hTI, hTO, t1, t2⟩ := st
    obtain ⟨xs, ys, x, y, hqx, hqy, hx, hy⟩ := hg
    obtain ⟨its, rv, p, la⟩ := sq_items inv hqx
    obtain ⟨its2, rv2, p2, lb⟩ := sq_items inv hqy
    obtain ⟨u, hu, ru⟩ := rv.get hx
    obtain ⟨u2, hu2, ru2⟩ := rv2.get hy
    have W := GoesN.zip2 (A := X.A) (elts := elts) (x1 := kk) (pos := tpos) S (draws_sq (prog := X.prog) (w := X.w) (A := X.A.in1) (inv.ok.hd hc) k1 i1 a na its.toArray) (draws_sq (prog := X.prog) (w := X.w) (A := X.A.in1) (inv.ok.hd hc) k2 i2 b nb its2.toArray)
    have hi : i < min its.toArray.size its2.toArray.size := by
      have h1 := (List.getElem?_eq_some_iff.mp hu).1
      have h2 := (List.getElem?_eq_some_iff.mp hu2).1
      rw [List.size_toArray, List.size_toArray]
      omega
    have hin : ∀ c, c ∈ [z, TI, TO, i1, i2] → ∃ o, sh.heap.get? c = some o := fun c hcm => by
      have e' : c = z ∨ c = TI ∨ c = TO ∨ c = i1 ∨ c = i2 := by simpa using hcm
      obtain ⟨x0, y0, hTO0⟩ := hTO
      rcases e' with q | q | q | q | q
      · subst q; exact ⟨_, hz⟩
      · subst q; exact ⟨_, hTI⟩
      · subst q; exact ⟨_, hTO0⟩
      · subst q; exact ⟨_, t1.obj.choose_spec.1⟩
      · subst q; exact ⟨_, t2.obj.choose_spec.1⟩
    refine W.goes i sh (fun v s2 => ∃ x H', Inv X ps sg H' s2 ∧ RelV x v ∧ (ItzX X.K k1 k2 a b).yld i H x H' ∧ (IsZip s2.heap z TI TO .none ∧ IsTupOf2 s2.heap TI (.ref i1) (.ref i2) ∧ (∃ x y, IsTupOf2 s2.heap TO x y) ∧ SqIt k1 s2.heap i1 a (i + 1) ∧ SqIt k2 s2.heap i2 b (i + 1)) ∧ ∀ c ∈ [z, TI, TO, i1, i2], H' c = none) E hi ⟨hz, hTI, hTO, ⟨t1, p⟩, t2, p2⟩ fun v h2 tk hY hst hk _ => ?_
    obtain ⟨T, w1, w2, rfl, hT, g1, g2, hIs⟩ := hY
    obtain ⟨hz', hTI', hTO', ⟨t1', _⟩, t2', _⟩ := hst
    have e1 : w1 = u := by
      have : its[i]? = some w1 := by simpa using g1
      rw [hu] at this
      exact (Option.some.inj this).symm
    have e2 : w2 = u2 := by
      have : its2[i]? = some w2 := by simpa using g2
      rw [hu2] at this
      exact (Option.some.inj this).symm
    subst e1 e2
    have new : ObjOk X.prog X.w (upd H T (.tup [x, y])) h2 T (.tup [x, y]) := ⟨by show 2 ≤ sizeLine; decide, [w1, w2], .cons ru (.cons ru2 .nil), hIs⟩
    have inv2 : Inv X ps sg (upd H T (.tup [x, y])) { sh with heap := h2, toks := tk } := inv.turnedNew (t' := tk) (ch := [z, TI, TO, i1, i2]) (fun c o hb q => hk c o (fun m => hb (by
      have m' : c = z ∨ c = TO ∨ c = i1 ∨ c = i2 := by simpa using m
      rcases m' with m | m | m | m <;> simp [m])) q) hf hT new
    refine ⟨.ref T, _, inv2, rfl, ⟨T, x, y, rfl, inv.hok.fresh hT, rfl, fun l hl => by rw [sq_inj inv hl hqx]; exact hx, fun l hl => by rw [sq_inj inv hl hqy]; exact hy⟩, ⟨hz', hTI', hTO', t1', t2'⟩, fun c hcm => ?_⟩
    obtain ⟨o, eo⟩ := hin c hcm
    rw [upd_ne (Nat.ne_of_lt (Nat.lt_of_lt_of_le (Heap.lt_size eo) hT))]
    exact (hf c hcm).1
  done := by
    intro X hP hw hK hc i ps sh sg H E inv hf st hg
    subst hP hw hK
    obtain ⟨hz, hTI, hTO, t1, t2⟩ := st
    obtain ⟨xs, ys, hqx, hqy, hend⟩ := hg
    obtain ⟨its, rv, p, la⟩ := sq_items inv hqx
    obtain ⟨its2, rv2, p2, lb⟩ := sq_items inv hqy
    have W := GoesN.zip2 (A := X.A) (elts := elts) (x1 := kk) (pos := tpos) S (draws_sq (prog := X.prog) (w := X.w) (A := X.A.in1) (inv.ok.hd hc) k1 i1 a na its.toArray) (draws_sq (prog := X.prog) (w := X.w) (A := X.A.in1) (inv.ok.hd hc) k2 i2 b nb its2.toArray)
    have en : min its.toArray.size its2.toArray.size = i := by
      rw [List.size_toArray, List.size_toArray, ← rv.length, ← rv2.length, hend]
    refine W.stops sh (fun s2 => Inv X ps sg H s2) E (by rw [en]; exact ⟨hz, hTI, hTO, ⟨t1, p⟩, t2, p2⟩) fun h2 tk hk _ => ?_
    exact inv.turnedL (t' := tk) (ch := [z, TI, TO, i1, i2]) (fun c o hb q => hk c o (fun m => hb (by
      have m' : c = z ∨ c = TO ∨ c = i1 ∨ c = i2 := by simpa using m
      rcases m' with m | m | m | m <;> simp [m])) q) hf
  self := fun A i s Q E st h => wpAny_pyIter_zip st.1 h

theorem begins_sq {k : Bool} {h : Heap} {a : Addr} {items : Array Value} : ∃ o : Obj, Begins (.ref a) o (fun h => SqAt k h a items) ∧ ∀ (h : Heap) (it : Addr), h.get? it = some o → SqIt k h it a 0 := by
  cases k with
  | true => exact ⟨_, begins_list a items, fun h it e => ⟨_, e, rfl, rfl⟩⟩
  | false => exact ⟨_, begins_tuple a items, fun h it e => ⟨_, e, rfl, rfl⟩⟩
def rZipX (K : PySem.W.Frag) : List V → Hp → (It → Hp → Prop) → Prop := fun vs H1 R => ∃ a b xs ys k1 k2, vs = [.ref a, .ref b] ∧ Sq K k1 H1 a xs ∧ Sq K k2 H1 b ys ∧ R (ItzX K k1 k2 a b) H1
theorem pi_zipX {X : Cx} {e e2 : Expr} {ta : TA} {p pos tpos : Pos} {elts : List Expr} {kk : Nat} (hg : Gl X "zip") (hm : X.mg "zip" = none) (ha : PA X [e, e2] ta)
    (hs : starEach [e, e2] X.env = (false, eval e X.env) :: starEach [e2] X.env := by rfl) (hpl : (backTo pos (starEach [e2] X.env)).any (·.1) = false := by rfl) :
    PI X (.Tuple elts kk tpos) (.Call (.Name "zip" p) [e, e2] [] pos) (fun σ H R => ta σ H fun vs H1 => rZipX X.K vs H1 R) := by
  refine ⟨fun ps sh sg H R inv h => ?_⟩
  refine Call_ (ld_blt inv hg hm PyProof.Rows.boot_zip (PyProof.Rows.callWith_type1 (thn (ha.run pos ps sh sg H _ inv h) fun us s1 ⟨vs, H1, I1, r1, q1⟩ => ?_) hs hpl))
  obtain ⟨a, b, xs, ys, k1, k2, ex, hqx, hqy, q⟩ := q1
  subst ex
  cases r1 with
  | cons r rr =>
    cases rr with
    | cons r' rr =>
      cases rr
      cases r
      cases r'
      obtain ⟨its, rv, p1, la⟩ := sq_items I1 hqx
      obtain ⟨its2, rv2, p2, lb⟩ := sq_items I1 hqy
      obtain ⟨o1, B1, j1⟩ := begins_sq (k := k1) (h := s1.heap) (a := a) (items := its.toArray)
      obtain ⟨o2, B2, j2⟩ := begins_sq (k := k2) (h := s1.heap) (a := b) (items := its2.toArray)
      have fresh5 : ∀ c, c ∈ [s1.heap.objs.size + 4, s1.heap.objs.size + 2, s1.heap.objs.size + 3, s1.heap.objs.size, s1.heap.objs.size + 1] → FpOk X ps H1 c := fun c hcm => by
        have hle : s1.heap.objs.size ≤ c := by
          simp only [List.mem_cons, List.not_mem_nil, or_false] at hcm
          rcases hcm with z | z | z | z | z <;> rw [z]
          · exact Nat.le_add_right _ _
          · exact Nat.le_add_right _ _
          · exact Nat.le_add_right _ _
          · exact Nat.le_refl _
          · exact Nat.le_add_right _ _
        exact I1.fpOk hle (I1.hok.fresh hle)
      refine zip_begins2 B1 B2 p1 p2 fun h2 hz hTI hTO g1 g2 hsz hk => wpAny_pyIter_zip hz ?_
      have I2 : Inv X ps sg H1 { s1 with heap := h2 } := I1.kept (t' := s1.toks) hk
      refine ⟨s1.heap.objs.size + 4, [s1.heap.objs.size + 4, s1.heap.objs.size + 2, s1.heap.objs.size + 3, s1.heap.objs.size, s1.heap.objs.size + 1], _, _, H1, rfl, I2, turn_zipX (k1 := k1) (k2 := k2) (zip_sep2 (N := s1.heap.objs.size) (fp1 := [a]) (fp2 := [b]) (fun c m => by rw [List.mem_singleton.mp m]; exact la) (fun c m => by rw [List.mem_singleton.mp m]; exact lb)) (Nat.ne_of_lt la) (Nat.ne_of_lt (Nat.lt_succ_of_lt lb)), ⟨hz, hTI, ⟨_, _, hTO⟩, j1 _ _ g1, j2 _ _ g2⟩, fresh5, q⟩
end DL

set_option maxHeartbeats 4000000
/-! tuples of the plain kind and their methods; sorted by data -/
namespace DL
open PySem PySem.Spec PyProof.Rows L2
/-- a tuple known to be of the plain kind -/
def PlT (H : Hp) (p : Addr) (ys : List V) : Prop := ∃ o : Obj, o.dict = none ∧ H p = some (.frz o (.tup ys))
section
variable {X : Cx}
theorem PlT.is {pins : List (Addr × Obj)} {σ : L2.St} {H : Hp} {s : Shared} {p : Addr} {ys : List V} (I : Inv X pins σ H s) (h : PlT H p ys) : s.TypeIs (.ref p) "tuple" ∧ ∃ ob, s.heap.get? p = some ob ∧ ob.dict = none := by
  obtain ⟨o, hd, e⟩ := h
  obtain ⟨h1, h2⟩ := (show ObjOk X.prog X.w H s.heap p (.frz o (.tup ys)) from I.hok p _ e)
  obtain ⟨_, its, _, o2, e2, hc, _⟩ := h2
  rw [h1] at e2
  cases e2
  exact ⟨⟨o, h1, hc⟩, o, h1, hd⟩
def rTupX (K : PySem.W.Frag) : List V → Hp → VK → Prop := fun xs H Q => ∃ p ys, xs = [.ref p] ∧ SqL K H p ys ∧ ∀ l (o : Obj), H l = none → o.dict = none → Q (.ref l) (upd H l (.frz o (.tup ys)))
theorem call_tupX : CallR X (.type "tuple") (rTupX X.K) := by
  intro pins s σ H xs us Q I r h
  obtain ⟨p, ys, rfl, hq, q⟩ := h
  obtain ⟨u, rfl, rx⟩ := vals1 r
  cases rx
  obtain ⟨its, r', pl, hz⟩ := I.list hq
  have hlen := r'.length
  refine call_tuple_list pl.isList (fun h' kp => ?_) (by simp only [List.size_toArray] <;> omega)
  have I1 : Inv X pins σ H { s with heap := h' } := I.kept (t' := s.toks) kp
  have I2 : Inv X pins σ (upd H h'.objs.size (.frz { cls := .type "tuple", data := .seq its.toArray } (.tup ys))) { s with heap := h'.push { cls := .type "tuple", data := .seq its.toArray } } :=
    I1.laid (t' := s.toks) (fun b o e => Heap.get?_push_of_some _ e) (Nat.le_refl _) (show ObjOk X.prog X.w _ _ _ (.frz { cls := .type "tuple", data := .seq its.toArray } (.tup ys)) from ⟨Heap.get?_push_size _ rfl, hz, its, r', IsTup.new _ _⟩)
  exact ⟨.ref h'.objs.size, _, I2, rfl, q _ _ (I1.hok.fresh (Nat.le_refl _)) rfl⟩
/-- what a method is asked of -/
def tyW (K : PySem.W.Frag) (T : String) (x : V) (H : Hp) : Prop := tyV K T x H ∨ (T = "tuple" ∧ ∃ p ys, x = .ref p ∧ PlT H p ys)
theorem tyW_is {pins : List (Addr × Obj)} {σ : L2.St} {H : Hp} {s : Shared} {T : String} {x : V} {v : Value} (I : Inv X pins σ H s) (r : RelV x v) (ty : tyW X.K T x H) :
    s.TypeIs v T ∧ ∀ a, v = .ref a → ∃ ob, s.heap.get? a = some ob ∧ ob.dict = none := by
  rcases ty with ty | ⟨rfl, p, ys, rfl, h⟩
  · exact tyV_is I r ty
  · cases r
    obtain ⟨h1, h2⟩ := h.is I
    exact ⟨h1, fun a e => by cases e; exact h2⟩
variable {o e : Expr} {es : List Expr} {to : TE} {t : TA} {name : Str} {apos cpos : Pos} {T id : String} {r : V → List V → Hp → VK → Prop}
def tBW0 (K : PySem.W.Frag) (T : String) (r : V → List V → Hp → VK → Prop) (to : TE) : TE := fun σ H Q => to σ H fun x H1 => tyW K T x H1 ∧ r x [] H1 Q
def tBW (K : PySem.W.Frag) (T : String) (r : V → List V → Hp → VK → Prop) (to : TE) (t : TA) : TE := fun σ H Q => to σ H fun x H1 => tyW K T x H1 ∧ t σ H1 fun xs H2 => r x xs H2 Q
theorem pe_bw0 (pa : PlainAttrs T) (slot : PySem.Slot T name id) (hty : typeOf (.builtin id) = pure (.type "method_descriptor")) (hm : MtR X id r) (ho : PE X o to)
    (hbase : attributeBase o name X.env (eval o X.env) = eval o X.env := by rfl) (hline : (apos.endLine == cpos.line) = true := by rfl) : PE X (.Call (.Attribute o name apos) [] [] cpos) (tBW0 X.K T r to) := by
  refine ⟨fun pins s σ H Q I h => ?_⟩
  refine wpAny_Call_method0_late hbase hline (thn (ho.run pins s σ H _ I h) fun v s1 ⟨x, H1, I1, r1, ty, q1⟩ => ?_)
  obtain ⟨h1, h2⟩ := tyW_is I1 r1 ty
  exact ⟨T, id, pa, slot, hty, h1, h2, Calls.callWith_builtin rfl (PySem.evalArgs_none (hm pins s1 σ H1 x [] v [] Q I1 r1 .nil q1))⟩
theorem pe_bw (pa : PlainAttrs T) (slot : PySem.Slot T name id) (hty : typeOf (.builtin id) = pure (.type "method_descriptor")) (hm : MtR X id r) (ho : PE X o to) (ha : PA X (e :: es) t)
    (hbase : attributeBase o name X.env (eval o X.env) = eval o X.env := by rfl)
    (hfew : ((backTo cpos (starEach (e :: es) X.env)).all (fun x => !x.1) && (backToKw cpos (keywordEach [] X.env)).all (fun x => x.1.isSome)
      && decide ((e :: es).length + ([] : List Keyword).length + (if ([] : List Keyword).isEmpty then 0 else 1) < 30)) = true := by rfl)
    (hline : (apos.endLine == cpos.line) = true := by rfl) (hs : starEach (e :: es) X.env = (false, eval e X.env) :: starEach es X.env := by rfl) (hplain : (backTo cpos (starEach es X.env)).any (·.1) = false := by rfl) :
    PE X (.Call (.Attribute o name apos) (e :: es) [] cpos) (tBW X.K T r to t) := by
  refine ⟨fun pins s σ H Q I h => ?_⟩
  refine wpAny_Call_method_late hbase hfew hline rfl (thn (ho.run pins s σ H _ I h) fun v s1 ⟨x, H1, I1, r1, ty, q1⟩ => ?_)
  obtain ⟨h1, h2⟩ := tyW_is I1 r1 ty
  refine ⟨T, id, pa, slot, hty, h1, h2, ?_⟩
  have hA := ha.run cpos pins s1 σ H1 _ I1 q1
  rw [hs] at hA ⊢
  refine Calls.callWith_builtin (by show (false || (backTo cpos (starEach es X.env)).any (·.1)) = false; rw [hplain] <;> rfl) (Calls.evalArgs_plain ?_)
  exact thn hA fun us s2 ⟨vs, H2, I2, r2, q2⟩ => hm pins s2 σ H2 x vs v us Q I2 r1 r2 q2
/-- sorted(xs), by what the items read as -/
def rSortD (K : PySem.W.Frag) : List V → Hp → VK → Prop := fun xs H Q => ∃ (β : Type) (enc : β → PyData) (p : Addr) (bs : List (V × β)), xs = [.ref p] ∧ SqL K H p (bs.map (·.1)) ∧ (∀ b ∈ bs, Dp K H b.1 (enc b.2)) ∧
  PySem.W.AllAlike (bs.map fun b => enc b.2) ∧ PySem.W.Sortable (bs.map fun b => enc b.2) ∧ (∀ b ∈ bs, (enc b.2).depth ≤ 60) ∧
  ∀ l, H l = none → Q (.ref l) (upd H l (.lst ((bs.mergeSort (PySem.W.dataLe false fun b => enc b.2)).map (·.1))))
theorem each_of {β : Type} {P : Value → V × β → Prop} : ∀ {bs : List (V × β)} {its : List Value}, Vals (bs.map (·.1)) its → (∀ b v, b ∈ bs → RelV b.1 v → P v b) → PySem.W.EachIs P its bs
  | [], _, .nil, _ => .nil
  | b :: bs, _, .cons r t, h => .cons (h b _ List.mem_cons_self r) (each_of t fun b v m => h b v (List.mem_cons_of_mem _ m))
theorem vals_of_each {β : Type} : ∀ {bs : List (V × β)} {its : List Value}, PySem.W.EachIs (fun v b => RelV b.1 v) its bs → Vals (bs.map (·.1)) its
  | [], _, .nil => .nil
  | b :: bs, _, .cons r t => .cons r (vals_of_each t)
theorem cr_sortD (hu : X.A.units + 64 < cLine) : CallR X (.builtin "sorted") (rSortD X.K) := by
  intro pins s σ H xs us Q I r h
  obtain ⟨β, enc, p, bs, rfl, hq, hd, ha, hs, hdep, q⟩ := h
  obtain ⟨u, rfl, rx⟩ := vals1 r
  cases rx
  obtain ⟨its, r', pl, hz⟩ := I.list hq
  have hlen := r'.length
  rw [List.length_map] at hlen hz
  refine PySem.W.sorted_data (vs := its) (bs := bs) (enc := fun b => enc b.2) (R := fun v b => RelV b.1 v) pl.isList (each_of r' fun b v m r => r) (each_of r' fun b v m r => Dp.reads I _ _ _ (hd b m) r) ha hs hz (fun b m => ?_) fun out ho eo => ?_
  · have := hdep b m
    omega
  · obtain ⟨c, hc⟩ := sortedAll_at s.heap its out.toArray
    have hv := vals_of_each eo
    refine ⟨.ref (s.heap.objs.size + 1), _, I.laid (t' := s.toks) (o := .lst ((bs.mergeSort (PySem.W.dataLe false fun b => enc b.2)).map (·.1))) (fun b o e => sortedAll_old e) (Nat.le_succ _) ?_, rfl, q _ (I.hok.fresh (Nat.le_succ _))⟩
    refine ⟨?_, out, c, hv, hc⟩
    rw [List.length_map, List.length_mergeSort]
    exact hz
end
end DL

set_option maxHeartbeats 4000000
/-! sorted(d), d a dict with tuple keys -/
namespace DL
open PySem PySem.Spec PyProof.Rows L2
def keyPy1 : Key → PyData
  | .inl i => .int i
  | .inr s => .str s
def keyPy (k : List Key) : PyData := .tuple (k.map keyPy1)
theorem key_dp1 {K : PySem.W.Frag} {H : Hp} (k : Key) : Dp K H (kV k) (keyPy1 k) := by
  cases k with
  | inl i => exact .int i
  | inr s => exact .str s
theorem keys_dp {K : PySem.W.Frag} {H : Hp} : ∀ k : List Key, DpAll K H (k.map kV) (k.map keyPy1)
  | [] => .nil
  | a :: k => .cons (key_dp1 a) (keys_dp k)
section
variable {X : Cx}
/-- the keys' tuples, sorted -/
def rSortT (K : PySem.W.Frag) : List V → Hp → VK → Prop := fun xs H Q => ∃ d kvs, xs = [V.ref d] ∧ Rd H d (.dT kvs) ∧ PySem.W.AllAlike (kvs.map fun p => keyPy p.1) ∧ PySem.W.Sortable (kvs.map fun p => keyPy p.1) ∧ (∀ p ∈ kvs, (keyPy p.1).depth ≤ 60) ∧
  ∀ l (ps : List (Addr × List Key)), H l = none → (∀ x ∈ ps, H x.1 = some (.tup (x.2.map kV))) → ps.map (·.2) = (kvs.map (·.1)).mergeSort (PySem.W.dataLe false keyPy) → Q (.ref l) (upd H l (.lst (ps.map fun x => V.ref x.1)))
theorem each_refs {P : Value → Addr × List Key → Prop} : ∀ {bs : List (Addr × List Key)}, (∀ b ∈ bs, P (Value.ref b.1) b) → PySem.W.EachIs P (bs.map fun b => Value.ref b.1) bs
  | [], _ => .nil
  | b :: bs, h => .cons (h b List.mem_cons_self) (each_refs fun c m => h c (List.mem_cons_of_mem _ m))
theorem refs_of_each : ∀ {bs : List (Addr × List Key)} {its : List Value}, PySem.W.EachIs (fun v b => v = Value.ref b.1) its bs → its = bs.map fun b => Value.ref b.1
  | [], _, .nil => rfl
  | b :: bs, _, .cons r t => by rw [List.map_cons, ← refs_of_each t, r]
theorem paired_all {H : Hp} : ∀ {kvs : List (List Key × V)} {bs : List Addr}, IsKeys H kvs bs → ∀ x ∈ bs.zip (kvs.map (·.1)), H x.1 = some (.tup (x.2.map kV))
  | _, _, .nil => fun x m => by cases m
  | _, _, .cons h t => fun x m => by
    rw [List.map_cons, List.zip_cons_cons] at m
    rcases List.mem_cons.mp m with rfl | m
    · exact h
    · exact paired_all t x m
theorem cr_sortT (hc : X.calm = true) (hu : X.A.units + 64 < cLine) : CallR X (.builtin "sorted") (rSortT X.K) := by
  intro pins s σ H xs us Q I r h
  obtain ⟨d, kvs, rfl, hd, ha, hs2, hdep, q⟩ := h
  obtain ⟨u, rfl, rx⟩ := r.one
  cases rx
  obtain ⟨z, hs, ks, pr, o, es, ep, ho, hx, hdt, he, hn⟩ := (show ObjOk X.prog X.w H s.heap d (.dT kvs) from hd.ok I.hok)
  have l1 : es.size = ks.length := size_of_entries he
  have l2 : kvs.length = ks.length := Paired.length pr
  have hz' : es.size ≤ sizeLine := by omega
  refine Calls.call_function_entry kind_sorted plain_sorted entry_sorted (args_sorted1 _) ?_
  unfold Builtin.«sorted»
  refine wpAny_bind (m := checkCount "sorted" 1 1 _) (wpAny_pure ?_)
  refine wpAny_bind (PySem.W.kdu_collect (A := X.A.in1) (kdl_raw hs hx hdt) (I.ok.hd hc) ho hz' fun h' tk acc kp it => ?_)
  have ea : acc.toList = ks.map fun x => Value.ref x.2.1 := by
    have hl : acc.toList.length = ks.length := by rw [Array.length_toList, it.1]; exact l1
    apply List.ext_getElem?
    intro j
    rw [List.getElem?_map]
    cases hj : acc.toList[j]? with
    | none =>
      have h1 := List.getElem?_eq_none_iff.mp hj
      rw [List.getElem?_eq_none (by omega)]
      all_goals rfl
    | some v =>
      obtain ⟨en, hen, hv⟩ := it.2 j v (by rw [← Array.getElem?_toList]; exact hj)
      have qe := entry_at he j
      rw [hen] at qe
      cases hb : ks[j]? with
      | none =>
        rw [hb] at qe
        exact nomatch (show some en = none from qe)
      | some b =>
        rw [hb] at qe
        have e2 : en = entryOfKey (tupleKind (mixKind X.prog X.w)) b := Option.some.inj qe
        rw [hv, e2]
        all_goals rfl
  -- the keys and their tuples
  have hik : IsKeys H kvs (ks.map fun x => x.2.1) := isKeys_of pr
  have hpl : ((ks.map fun x => x.2.1).length) = (kvs.map (·.1)).length := by rw [List.length_map, List.length_map]; omega
  generalize hbs : (ks.map fun x => x.2.1).zip (kvs.map (·.1)) = bs
  have hb1 : bs.map (·.1) = ks.map fun x => x.2.1 := by rw [← hbs]; exact List.map_fst_zip (Nat.le_of_eq hpl)
  have hb2 : bs.map (·.2) = kvs.map (·.1) := by rw [← hbs]; exact List.map_snd_zip (Nat.le_of_eq hpl.symm)
  have hbt : ∀ x ∈ bs, H x.1 = some (.tup (x.2.map kV)) := by rw [← hbs]; exact paired_all hik
  have eb : acc.toList = bs.map fun b => Value.ref b.1 := by
    rw [ea, show (fun b : Addr × List Key => Value.ref b.1) = Value.ref ∘ (·.1) from rfl, ← List.map_map, hb1, List.map_map]
    rfl
  have hal : acc.toList.length ≤ sizeLine := by rw [eb, List.length_map, ← List.length_map (f := fun b : Addr × List Key => b.1), hb1, List.length_map]; omega
  refine wpAny_bind (wpAny_newList ?_ hal)
  -- the new list
  have I1 : Inv X pins σ H { s with heap := h', toks := tk } := I.kept kp
  have hpy : (bs.map fun b => keyPy b.2) = kvs.map fun p => keyPy p.1 := by
    rw [show (fun b : Addr × List Key => keyPy b.2) = keyPy ∘ (·.2) from rfl, ← List.map_map, hb2, List.map_map]
    rfl
  have hD : (h'.push { cls := .type "list", data := .seq acc.toList.toArray }).get? h'.objs.size = some (seqObj "list" acc.toList.toArray 0) := Heap.get?_push_size _ rfl
  have rd : ∀ b ∈ bs, ∃ as, Reads h' (Value.ref b.1) (keyPy b.2) as := fun b m => by
    refine Dp.reads I1 (keyPy b.2) (.ref b.1) (.ref b.1) ?_ rfl
    refine .tup (SqT.of (hbt b m)) ?_
    exact keys_dp b.2
  have er : PySem.W.EachIs (fun v b => ∃ as, Reads (PySem.W.sortingHeap (h'.push { cls := .type "list", data := .seq acc.toList.toArray }) h'.objs.size acc.toList) v (keyPy b.2) as) acc.toList bs := by
    rw [eb]
    refine each_refs fun b m => ?_
    obtain ⟨as, r⟩ := rd b m
    exact ⟨as, PyProof.Rows.Reads.keeps (fun b2 o2 e => PySem.W.sortingHeap_old (Nat.ne_of_lt (Heap.lt_size e)) (Heap.get?_push_of_some _ e)) r⟩
  have ev : PySem.W.EachIs (fun v (b : Addr × List Key) => v = Value.ref b.1) acc.toList bs := by
    rw [eb]
    exact each_refs fun b m => rfl
  have hL : bs.length ≤ sizeLine := by rw [← List.length_map (f := fun b : Addr × List Key => Value.ref b.1), ← eb]; exact hal
  have hdep2 : ∀ b, b ∈ bs → X.A.in1.in1.units + (keyPy b.2).depth < cLine := fun b m => by
    have h1 : keyPy b.2 ∈ kvs.map fun p => keyPy p.1 := by rw [← hpy]; exact List.mem_map.mpr ⟨b, m, rfl⟩
    obtain ⟨p, hp, e⟩ := List.mem_map.mp h1
    have := hdep p hp
    rw [← e]
    show X.A.units + 2 + _ < _
    omega
  have hg : wpAny (model X.prog X.w) X.A.in1 (call (.builtin "list.sort") [.ref h'.objs.size]) (fun _ s' => EP X pins σ Q (.ref h'.objs.size) s') X.xe { s with heap := h'.push { cls := .type "list", data := .seq acc.toList.toArray }, toks := tk } := by
    refine wpAny_call_entry slot_list_sort ⟨_, hD, rfl⟩ entry_list_sort (PySem.W.list_sort_vals (s := { s with heap := h'.push { cls := .type "list", data := .seq acc.toList.toArray }, toks := tk }) (κ := PySem.W.dataKind (PySem.W.sortingHeap (h'.push { cls := .type "list", data := .seq acc.toList.toArray }) h'.objs.size acc.toList) (bs.map fun b => keyPy b.2)) hD
      (PySem.W.SortsAt.data (s := { s with heap := PySem.W.sortingHeap (h'.push { cls := .type "list", data := .seq acc.toList.toArray }) h'.objs.size acc.toList, toks := tk }) (PySem.W.each_map (R := fun v d => ∃ as, Reads (PySem.W.sortingHeap (h'.push { cls := .type "list", data := .seq acc.toList.toArray }) h'.objs.size acc.toList) v d as) (fun b : Addr × List Key => keyPy b.2) er) (by rw [hpy]; exact ha) (by rw [hpy]; exact hs2) (PySem.W.bound_map hdep2)) hal ⟨.none, rfl, ?_⟩) (args_list_sort _)
    have eo := PySem.W.sortVals_data (enc := fun b : Addr × List Key => keyPy b.2) false ev er (by rw [hpy]; exact ha)
    have hout := refs_of_each eo
    obtain ⟨c, hc2⟩ := sortedHeap_at (out := (PySem.W.sortVals (PySem.W.dataKind (PySem.W.sortingHeap (h'.push { cls := .type "list", data := .seq acc.toList.toArray }) h'.objs.size acc.toList) (bs.map fun b => keyPy b.2)) false acc.toList acc.toList).toArray) (vs := acc.toList) hD
    have hlt : h'.objs.size < (h'.push { cls := .type "list", data := .seq acc.toList.toArray }).objs.size := Heap.lt_size hD
    refine ⟨.ref h'.objs.size, _, I1.laid (t' := _) (o := .lst ((bs.mergeSort (PySem.W.dataLe false fun b => keyPy b.2)).map fun x => V.ref x.1)) (fun b2 o2 e => ?_) (Nat.le_refl _) ?_, rfl, q _ _ (I1.hok.fresh (Nat.le_refl _)) (fun x m => hbt x (List.mem_mergeSort.mp m)) ?_⟩
    · have e2 : (h'.push { cls := .type "list", data := .seq acc.toList.toArray }).get? b2 = some o2 := Heap.get?_push_of_some _ e
      rw [sortedHeap_old (Nat.ne_of_lt (Heap.lt_size e)) (Heap.lt_size e2)]
      exact e2
    · refine ⟨?_, _, c, ?_, hc2⟩
      · rw [List.length_map, List.length_mergeSort]
        exact hL
      · rw [hout]
        have : ∀ l : List (Addr × List Key), Vals (l.map fun x => V.ref x.1) (l.map fun b => Value.ref b.1) := fun l => by
          induction l with
          | nil => exact .nil
          | cons a l ih => exact .cons rfl ih
        exact this _
    · rw [← hb2]
      exact List.map_mergeSort (fun a _ b _ => rfl)
  refine wpAny_bind (wpAny_holding (wpAny_mono hg (fun _ s' x => ?_) fun _ _ e => e))
  exact wpAny_pure ⟨_, rfl, x⟩
end
end DL

set_option maxHeartbeats 4000000
/-! enumerate of a tuple -/
namespace DL
open PySem PySem.Spec PyProof.Rows L2
open PySem.Sem (wp)
open AutoSeq1 (wpAny_loadPart')
theorem meets_enumerate_newT (l : Addr) (items : Array Value) (n : Nat) (dct : Option Addr) (sl : Array (Option Value)) :
    Meets (Builtin.«enumerate.__new__» ⟨[.type "enumerate", .ref l], []⟩) (fun _ R s => s.heap.get? l = some { cls := .type "tuple", dict := dct, data := .seq items n, slots := sl } ∧
      R (.ok (.ret (.ref (s.heap.push { cls := .type "tuple_iterator", data := .fields #[.ref l, .int 0 0] }).objs.size)))
        { s with heap := (s.heap.push { cls := .type "tuple_iterator", data := .fields #[.ref l, .int 0 0] }).push { cls := .type "enumerate", data := .fields #[.none, .bool false, .ref s.heap.objs.size, rawInt 0, .none, .none] } }) :=
  .of_wp fun prog w A R s h => by
    obtain ⟨hp, g, d, tk, os⟩ := s; obtain ⟨hl, h⟩ := h
    have hsub := sub_enumerate
    have hL : Heap.IsTuple (Shared.heap ⟨hp, g, d, tk, os⟩) l items := ⟨_, hl, rfl, n, rfl⟩
    wp_walk using wpAny_loadPart' hl
    refine wpAny_stack_any fun st => wpAny_pure ?_
    split
    · rename_i c _ _ _ _ _
      cases (c == Value.type "enumerate")
      · wp_walk using wpAny_loadPart' hl, wpAny_pyIter_tuple hL
        exact ⟨_, rfl, h⟩
      · wp_walk using wpAny_loadPart' hl, wpAny_pyIter_tuple hL
        exact ⟨_, rfl, h⟩
    · wp_walk using wpAny_loadPart' hl, wpAny_pyIter_tuple hL
      exact ⟨_, rfl, h⟩
section
variable {prog : Program} {w : World} {A : Around} {E : Value → Shared → Prop} {s : Shared}
theorem call_enumerate_tuple {l : Addr} {items : Array Value} {Q : Value → Shared → Prop} (hL : s.heap.IsTuple l items)
    (h : ∀ h', IsEnum h' (s.heap.objs.size + 1) s.heap.objs.size 0 .none → h'.IsTupleIter s.heap.objs.size l 0 → h'.objs.size = s.heap.objs.size + 2 →
      (∀ b o, s.heap.get? b = some o → h'.get? b = some o) → Q (.ref (s.heap.objs.size + 1)) { s with heap := h' }) :
    wpAny (model prog w) A (call (.type "enumerate") [.ref l]) Q E s := by
  obtain ⟨⟨c, dct, dat, sl⟩, hl, hc, n, hd⟩ := hL
  replace hc : c = .type "tuple" := hc
  replace hd : dat = .seq items n := hd
  subst hc hd
  refine callType_new F.called_enumerate (by decide) (F.typeCall_enumerate_1 _) (F.newCall_enumerate_1 _) (fun obj => F.args_object_init_2 obj _) F.entry_enumerate_new
    (meets_enumerate_newT l items n dct sl) ⟨hl, ?_⟩
  have hz : (s.heap.push { cls := .type "tuple_iterator", data := .fields #[.ref l, .int 0 0] }).objs.size = s.heap.objs.size + 1 := Heap.size_push ..
  show _ ∧ _
  rw [hz]
  have he : IsEnum ((s.heap.push { cls := .type "tuple_iterator", data := .fields #[.ref l, .int 0 0] }).push
      { cls := .type "enumerate", data := .fields #[.none, .bool false, .ref s.heap.objs.size, rawInt 0, .none, .none] }) (s.heap.objs.size + 1) s.heap.objs.size 0 .none := by
    have := Heap.get?_push_size (s.heap.push { cls := .type "tuple_iterator", data := .fields #[.ref l, .int 0 0] })
      (o := { cls := .type "enumerate", data := .fields #[.none, .bool false, .ref s.heap.objs.size, rawInt 0, .none, .none] }) rfl
    rw [hz] at this; exact this
  refine ⟨⟨_, he, rfl⟩, h _ he ⟨_, Heap.get?_push_of_some _ (Heap.get?_push_size _ rfl), rfl, rfl⟩ (by rw [Heap.size_push, hz]) fun b o x => Heap.get?_push_of_some _ (Heap.get?_push_of_some _ x)⟩
end
theorem draws_tup {prog : Program} {w : World} {A : Around} (hh : A.handled = none) {it l : Addr} {items : Array Value} (hne : l ≠ it) :
    Draws prog w A it [it, l] items.size (fun i v => items[i]? = some v) (fun i h => h.IsTupleIter it l i ∧ h.IsTuple l items) where
  live := fun i h st => let ⟨o, ho, _⟩ := st.1; ⟨o, ho⟩
  frame := fun i h h' st k => ⟨let ⟨o, ho, r⟩ := st.1; ⟨o, k it (by simp) o ho, r⟩, let ⟨o, ho, r⟩ := st.2; ⟨o, k l (by simp) o ho, r⟩⟩
  item := fun i s Q E hi st hQ => by
    obtain ⟨x, hx⟩ : ∃ x, items[i]? = some x := ⟨items[i], by simp [hi]⟩
    exact RZ.nextOf_tuple_item st.1 st.2 hx fun h' a b => hQ x h' s.toks hx ⟨a, st.2.extBut b.extBut hne⟩ b
  done := fun s Q E st hE => RZ.nextOf_tuple_end hh st.1 st.2 (by simp) hE
/-- the tuple at a as it stands at each turn, each item in a new pair -/
def IteT (K : PySem.W.Frag) (a : Addr) : It :=
  ⟨fun i H => ∃ (xs : List V) (x : V), SqT K H a xs ∧ xs[i]? = some x, fun i H v H' => ∃ T x, v = .ref T ∧ H T = none ∧ H' = upd H T (.tup [.int (i : Nat), x]) ∧ ∀ xs, SqT K H a xs → xs[i]? = some x, fun i H => ∃ xs : List V, SqT K H a xs ∧ xs.length ≤ i⟩
theorem turn_enumT {P : Program} {w : World} {K : PySem.W.Frag} {elts : List Expr} {kk : Nat} {tpos : Pos} (a e it : Addr) :
    Turn P w K (.Tuple elts kk tpos) (IteT K a) [e, it] e (fun i h => (∃ old, IsEnum h e it ((i : Nat) : Int) old) ∧ h.IsTupleIter it a i ∧ e ≠ it) where
  mem := by simp
  obj := fun i h st b hb => by
    obtain ⟨⟨old, he⟩, ⟨o, ho, hc, hd⟩, _⟩ := st
    have e' : b = e ∨ b = it := by simpa using hb
    rcases e' with z | z
    · rw [z]; exact ⟨_, he, fun v q => nomatch q⟩
    · rw [z]; exact ⟨o, ho, fun v q => by rw [hd] at q; cases q⟩
  keep := fun i h h' st k => let ⟨⟨old, he⟩, hi, hne⟩ := st; ⟨⟨old, k e (by simp) _ he⟩, hi.at fun o q => k it (by simp) o q, hne⟩
  item := by
    intro X hP hw hK hc i pins s σ H E I hf st hg
    subst hP hw hK
    obtain ⟨⟨old, he⟩, hit, hne⟩ := st
    obtain ⟨xs, x, hq, hx⟩ := hg
    obtain ⟨its, rv, p, hz⟩ := I.tuple hq
    replace p : s.heap.IsTuple a its.toArray := p
    obtain ⟨u, hu, ru⟩ := rv.get hx
    have hel : e < s.heap.objs.size := Heap.lt_size he
    have hil : it < s.heap.objs.size := by obtain ⟨_, q, _⟩ := hit; exact Heap.lt_size q
    have hai : a ≠ it := fun z => by
      obtain ⟨o1, q1, c1, _⟩ := p
      obtain ⟨o2, q2, c2, _⟩ := hit
      rw [z, q2] at q1
      cases q1
      rw [c2] at c1
      injection c1 with c3
      exact absurd c3 (by decide)
    have hea : e ≠ a := fun z => by
      obtain ⟨o1, q1, c1, _⟩ := p
      have q2 : s.heap.get? e = some _ := he
      rw [z, q1] at q2
      cases q2
      injection c1 with c3
      exact absurd c3 (by decide)
    have hh : X.A.in1.handled = none := I.ok.hd hc
    have hi : i < its.toArray.size := by
      have := (List.getElem?_eq_some_iff.mp hu).1
      simpa using this
    refine wpAny_pyNext_enum_itemD (draws_tup hh hai) he ⟨hit, p⟩ hi hne (by simp [hne, hea]) fun x2 h' tk hx2 ho hst hT hsz hk => ?_
    have hxu : x2 = u := by
      have h2 : its.toArray[i]? = some u := by simpa using hu
      rw [h2] at hx2
      exact (Option.some.inj hx2).symm
    subst hxu
    obtain ⟨hit', _⟩ := hst
    refine ⟨_, rfl, wpAny_letOwnedTupleGo_enum (s := { s with heap := h', toks := tk + 1 }) ho fun h'' he' sb => ?_⟩
    have hT2 : h''.get? s.heap.objs.size = some { cls := .type "tuple", data := .seq #[.int i tk, x2] } := (sb.2 _ (Nat.ne_of_gt hel)).trans hT
    have new : ObjOk X.prog X.w (upd H s.heap.objs.size (.tup [.int (i : Nat), x])) h'' s.heap.objs.size (.tup [.int (i : Nat), x]) :=
      ⟨by show 2 ≤ sizeLine; decide, [.int i tk, x2], .cons ⟨_, rfl⟩ (.cons ru .nil), ⟨_, hT2, rfl, _, rfl⟩⟩
    have I1 : Inv X pins σ (upd H s.heap.objs.size (.tup [.int (i : Nat), x])) { s with heap := h'', toks := tk + 1 } :=
      I.turnedNew (ch := [e, it]) (fun b ob hb q => (sb.2 b (fun z => hb (by simp [z]))).trans (hk b ob (fun z => hb (by simp [z])) (fun z => hb (by simp [z])) q)) hf (Nat.le_refl _) new
    refine ⟨.ref s.heap.objs.size, _, I1, rfl, ⟨_, x, rfl, I.hok.fresh (Nat.le_refl _), rfl, fun ys hy => by rw [I.tuple_inj hy hq]; exact hx⟩, ⟨⟨x2, ?_⟩, hit'.at fun o q => (sb.2 it (Ne.symm hne)).trans q, hne⟩, fun b hb => ?_⟩
    · have e1 : ((i + 1 : Nat) : Int) = (i : Int) + 1 := by omega
      rw [e1]; exact he'
    · have hb' : b < s.heap.objs.size := by
        have e' : b = e ∨ b = it := by simpa using hb
        rcases e' with z | z
        · rw [z]; exact hel
        · rw [z]; exact hil
      rw [upd_ne (Nat.ne_of_lt hb')]
      exact (hf b hb).1
  done := by
    intro X hP hw hK hc i pins s σ H E I hf st hg
    subst hP hw hK
    obtain ⟨⟨old, he⟩, hit, hne⟩ := st
    obtain ⟨xs, hq, hx⟩ := hg
    obtain ⟨its, rv, p, hz⟩ := I.tuple hq
    replace p : s.heap.IsTuple a its.toArray := p
    obtain ⟨f0, f1, f2, f3, f4, f5⟩ := hf it (by simp)
    have hl := rv.length
    have hai : a ≠ it := fun z => by
      obtain ⟨o1, q1, c1, _⟩ := p
      obtain ⟨o2, q2, c2, _⟩ := hit
      rw [z, q2] at q1
      cases q1
      rw [c2] at c1
      injection c1 with c3
      exact absurd c3 (by decide)
    have hh : X.A.in1.handled = none := I.ok.hd hc
    have hT : s.TypeIs (.ref e) "enumerate" := ⟨_, he, rfl⟩
    unfold pyNext
    refine wpAny_bind (wpAny_attempt (wpAny_callSpecial?_slot (name := Str.ofString "__next__") hT F.slot_enumerate_next
      (wpAny_call_entry F.slot_enumerate_next hT F.entry_enumerate_next ?_ (F.args_enumerate_next_1 _))))
    show wpAny _ _ (field (.ref e) 2 >>= _) _ _ _
    refine wpAny_bind (wpAny_field he rfl (x := .ref it) rfl ?_)
    refine wpAny_bind (RZ.nextOf_tuple_end hh hit p (by simp; omega) fun h' x he' hx' => ?_)
    obtain ⟨o, ho, hc⟩ := hx'
    refine wpAny_bind (wpAny_isInstance (T := "StopIteration") (b := true) ⟨o, ho, hc⟩ isSubtype_stop ?_)
    exact wpAny_pure ⟨rfl, I.turned (t' := s.toks) (fun b o hb q => he' b o hb q) f0 f1 f3 f4 f5⟩
  self := fun A i s Q E st h => let ⟨⟨_, he⟩, _⟩ := st; wpAny_pyIter_enum he h
def iEnumT (K : PySem.W.Frag) (ta : TA) : TI := fun σ H R => ta σ H fun vs H1 => ∃ a xs, vs = [.ref a] ∧ SqT K H1 a xs ∧ R (IteT K a) H1
theorem pi_enumT {X : Cx} {e : Expr} {ta : TA} {p pos tpos : Pos} {elts : List Expr} {kk : Nat} (hg : Gl X "enumerate") (hm : X.mg "enumerate" = none) (ha : PA X [e] ta) (hs : starEach [e] X.env = [(false, eval e X.env)] := by rfl) :
    PI X (.Tuple elts kk tpos) (.Call (.Name "enumerate" p) [e] [] pos) (iEnumT X.K ta) := by
  refine ⟨fun pins s σ H R I h => ?_⟩
  refine Call_ (ld_blt I hg hm boot_enumerate (PyProof.Rows.callWith_type1 (thn (ha.run pos pins s σ H _ I h) fun us s1 ⟨vs, H1, I1, r1, q1⟩ => ?_) hs rfl))
  obtain ⟨a, xs, ex, hq, q⟩ := q1
  subst ex
  cases r1 with
  | cons r rr =>
    cases rr
    cases r
    obtain ⟨its, rv, p', hz⟩ := I1.tuple hq
    replace p' : s1.heap.IsTuple a its.toArray := p'
    refine call_enumerate_tuple p' fun h' he hit hsz hk => wpAny_pyIter_enum he ?_
    have I2 : Inv X pins σ H1 { s1 with heap := h' } := I1.kept (t' := s1.toks) hk
    refine ⟨s1.heap.objs.size + 1, [s1.heap.objs.size + 1, s1.heap.objs.size], _, _, H1, rfl, I2, turn_enumT a (s1.heap.objs.size + 1) s1.heap.objs.size, ⟨⟨.none, he⟩, hit, Nat.succ_ne_self _⟩, fun b hb => ?_, q⟩
    have e' : b = s1.heap.objs.size + 1 ∨ b = s1.heap.objs.size := by simpa using hb
    have hle : s1.heap.objs.size ≤ b := by
      rcases e' with z | z
      · rw [z]; exact Nat.le_add_right _ _
      · rw [z]; exact Nat.le_refl _
    exact I1.fpOk hle (I1.hok.fresh hle)
end DL

namespace DL
open PySem PySem.Spec PyProof.Rows L2

/-! ### data trees -/
inductive D where
  | non
  | bl (b : Bool)
  | int (i : Int)
  | str (s : Str)
  /-- the script -/
  | scr (ns : List Int)
  /-- a tuple; true: it is known to be one of the plain kind -/
  | tupF (f : Bool) (xs : List D)
  | lst (xs : List D)
  | dk (ks : List Key) (vs : List D)
  | dt (ks : List (List Key)) (vs : List D)
  | obj (c : Str) (fs : List Str) (vs : List D)

abbrev D.tup (xs : List D) : D := .tupF false xs

mutual
def D.pure : D → Bool
  | .non => true
  | .bl _ => true
  | .int _ => true
  | .str _ => true
  | .scr _ => false
  | .tupF _ xs => D.pureL xs
  | .lst _ => false
  | .dk _ _ => false
  | .dt _ _ => false
  | .obj _ _ _ => false
def D.pureL : List D → Bool
  | [] => true
  | d :: r => d.pure && D.pureL r
end

/-- what an operation ends in: a value, a refusal of an own class, or nothing that is known -/
inductive Out (α : Type) where
  | ok (a : α)
  | exc (c : Str)
  | bad
def Out.bind {α β : Type} (x : Out α) (f : α → Out β) : Out β := match x with
  | .ok a => f a
  | .exc c => .exc c
  | .bad => .bad
instance : Monad Out where
  pure := Out.ok
  bind := Out.bind
@[simp] theorem Out.bind_ok {α β : Type} (a : α) (f : α → Out β) : (Out.ok a >>= f) = f a := rfl
@[simp] theorem Out.bind_exc {α β : Type} (c : Str) (f : α → Out β) : (Out.exc c >>= f) = Out.exc c := rfl
@[simp] theorem Out.bind_bad {α β : Type} (f : α → Out β) : ((Out.bad : Out α) >>= f) = Out.bad := rfl
@[simp] theorem Out.pure_eq {α : Type} (a : α) : (Pure.pure a : Out α) = Out.ok a := rfl
theorem Out.bind_assoc {α β γ : Type} (x : Out α) (f : α → Out β) (g : β → Out γ) : ((x >>= f) >>= g) = (x >>= fun a => f a >>= g) := by
  cases x <;> rfl

/-! ### where data stand in the heap -/
/-- what is never written -/
def Still (u : HO) : Prop := ¬ Mut (some u)
theorem still_tup {vs : List V} : Still (.tup vs) := id
theorem still_frz {o : Obj} {u : HO} : Still (.frz o u) := id
def TupAt (H : Hp) (f : Bool) (a : Addr) (vs : List V) : Prop := match f with
  | false => H a = some (.tup vs)
  | true => ∃ o : Obj, o.dict = none ∧ H a = some (.frz o (.tup vs))
theorem TupAt.keep {H H' : Hp} {f : Bool} {a : Addr} {vs : List V} (k : ∀ b u, H b = some u → Still u → H' b = some u) (h : TupAt H f a vs) : TupAt H' f a vs := by
  cases f with
  | false => exact k _ _ h still_tup
  | true =>
    obtain ⟨o, e, h⟩ := h
    exact ⟨o, e, k _ _ h still_frz⟩
theorem TupAt.seq {K : PySem.W.Frag} {H : Hp} {f : Bool} {a : Addr} {vs : List V} (h : TupAt H f a vs) : SqT K H a vs := by
  cases f with
  | false => exact SqT.of h
  | true =>
    obtain ⟨o, e, h⟩ := h
    exact .inl (.inr ⟨o, h⟩)
structure Gc where
  K : PySem.W.Frag
  cl : Str → Option Addr

/-- the object o at a: frozen (in Z), or owned -/
def Nod (Z H : Hp) (o : HO) (a : Addr) (F F' : List Addr) : Prop := (Z a = some o ∧ F = [] ∧ F' = []) ∨ (F = a :: F' ∧ H a = some o)
theorem Same.rd {Z Z' : Hp} {a : Addr} {u : HO} (hz : Same Z Z') (h : Rd Z a u) : Rd Z' a u := h.imp (fun e => hz _ _ e) fun ⟨o, e⟩ => ⟨o, hz _ _ e⟩
def NodL (Z H : Hp) (vs : List V) (a : Addr) (F F' : List Addr) : Prop := (Rd Z a (.lst vs) ∧ F = [] ∧ F' = []) ∨ (F = a :: F' ∧ H a = some (.lst vs))

mutual
/-- the data d stand in H at v; the nodes that may be written are those at F, each once; all others that can be written stand in Z -/
def Own (G : Gc) (Z H : Hp) : D → V → List Addr → Prop
  | .non, v, F => v = .non ∧ F = []
  | .bl b, v, F => v = .bl b ∧ F = []
  | .int i, v, F => v = .int i ∧ F = []
  | .str s, v, F => v = .str s ∧ F = []
  | .scr ns, v, F => F = [] ∧ ∃ a, v = .ref a ∧ SqL G.K Z a (ns.map V.int)
  | .tupF f ds, v, F => ∃ a vs, v = .ref a ∧ TupAt H f a vs ∧ OwnL G Z H ds vs F
  | .lst ds, v, F => ∃ a vs F', v = .ref a ∧ NodL Z H vs a F F' ∧ OwnL G Z H ds vs F'
  | .dk ks ds, v, F => ∃ a vs F', v = .ref a ∧ ks.length = vs.length ∧ Nod Z H (.dK (ks.zip vs)) a F F' ∧ OwnL G Z H ds vs F'
  | .dt ks ds, v, F => ∃ a vs F', v = .ref a ∧ ks.length = vs.length ∧ Nod Z H (.dT (ks.zip vs)) a F F' ∧ OwnL G Z H ds vs F'
  | .obj c fs ds, v, F => ∃ a vs F' C dx, v = .ref a ∧ G.cl c = some C ∧ fs.length = vs.length ∧ Nod Z H (.ins C dx (fs.zip vs)) a F F' ∧ OwnL G Z H ds vs F'
def OwnL (G : Gc) (Z H : Hp) : List D → List V → List Addr → Prop
  | [], vs, F => vs = [] ∧ F = []
  | d :: ds, vs, F => ∃ v r F1 F2, vs = v :: r ∧ F = F1 ++ F2 ∧ Own G Z H d v F1 ∧ OwnL G Z H ds r F2
end

/-- all of A stands in H -/
theorem Same.nod {Z Z' H H' : Hp} {o : HO} {a : Addr} {F F' : List Addr} (hz : Same Z Z') (hk : ∀ b u, H b = some u → b ∈ F → H' b = some u) (n : Nod Z H o a F F') : Nod Z' H' o a F F' := by
  rcases n with ⟨h, e⟩ | ⟨e, h⟩
  · exact .inl ⟨hz _ _ h, e⟩
  · exact .inr ⟨e, hk _ _ h (by rw [e]; exact List.mem_cons_self)⟩
theorem Same.nodL {Z Z' H H' : Hp} {vs : List V} {a : Addr} {F F' : List Addr} (hz : Same Z Z') (hk : ∀ b u, H b = some u → b ∈ F → H' b = some u) (n : NodL Z H vs a F F') : NodL Z' H' vs a F F' := by
  rcases n with ⟨h, e⟩ | ⟨e, h⟩
  · exact .inl ⟨Same.rd hz h, e⟩
  · exact .inr ⟨e, hk _ _ h (by rw [e]; exact List.mem_cons_self)⟩
theorem Nod.sub {Z H : Hp} {o : HO} {a : Addr} {F F' : List Addr} (n : Nod Z H o a F F') : ∀ b ∈ F', b ∈ F := by
  rcases n with ⟨_, _, e⟩ | ⟨e, _⟩
  · rw [e]; intro b h; cases h
  · rw [e]; intro b h; exact List.mem_cons_of_mem _ h
theorem NodL.sub {Z H : Hp} {vs : List V} {a : Addr} {F F' : List Addr} (n : NodL Z H vs a F F') : ∀ b ∈ F', b ∈ F := by
  rcases n with ⟨_, _, e⟩ | ⟨e, _⟩
  · rw [e]; intro b h; cases h
  · rw [e]; intro b h; exact List.mem_cons_of_mem _ h

section
variable {G : Gc} {Z Z' H H' : Hp}
mutual
/-- data stay where the heap keeps their owned nodes and the tuples, and Z grows -/
theorem Own.keep (hz : Same Z Z') : ∀ (d : D) (v : V) (F : List Addr), (∀ b u, H b = some u → (b ∈ F ∨ Still u) → H' b = some u) → Own G Z H d v F → Own G Z' H' d v F
  | .non, _, _, _, h => h
  | .bl _, _, _, _, h => h
  | .int _, _, _, _, h => h
  | .str _, _, _, _, h => h
  | .scr _, _, _, _, h => ⟨h.1, h.2.imp fun _ z => ⟨z.1, hz.seq z.2⟩⟩
  | .tupF f ds, v, F, k, h => by
    obtain ⟨a, vs, e, h1, h2⟩ := h
    exact ⟨a, vs, e, h1.keep fun b u q st => k b u q (.inr st), OwnL.keep hz ds vs F k h2⟩
  | .lst ds, v, F, k, h => by
    obtain ⟨a, vs, F', e, n, h2⟩ := h
    exact ⟨a, vs, F', e, Same.nodL hz (fun b u q m => k b u q (.inl m)) n, OwnL.keep hz ds vs F' (fun b u q m => k b u q (m.imp (n.sub b) id)) h2⟩
  | .dk ks ds, v, F, k, h => by
    obtain ⟨a, vs, F', e, l, n, h2⟩ := h
    exact ⟨a, vs, F', e, l, Same.nod hz (fun b u q m => k b u q (.inl m)) n, OwnL.keep hz ds vs F' (fun b u q m => k b u q (m.imp (n.sub b) id)) h2⟩
  | .dt ks ds, v, F, k, h => by
    obtain ⟨a, vs, F', e, l, n, h2⟩ := h
    exact ⟨a, vs, F', e, l, Same.nod hz (fun b u q m => k b u q (.inl m)) n, OwnL.keep hz ds vs F' (fun b u q m => k b u q (m.imp (n.sub b) id)) h2⟩
  | .obj c fs ds, v, F, k, h => by
    obtain ⟨a, vs, F', C, dx, e, ec, l, n, h2⟩ := h
    exact ⟨a, vs, F', C, dx, e, ec, l, Same.nod hz (fun b u q m => k b u q (.inl m)) n, OwnL.keep hz ds vs F' (fun b u q m => k b u q (m.imp (n.sub b) id)) h2⟩
theorem OwnL.keep (hz : Same Z Z') : ∀ (ds : List D) (vs : List V) (F : List Addr), (∀ b u, H b = some u → (b ∈ F ∨ Still u) → H' b = some u) → OwnL G Z H ds vs F → OwnL G Z' H' ds vs F
  | [], _, _, _, h => h
  | d :: ds, vs, F, k, h => by
    obtain ⟨v, r, F1, F2, e1, e2, h1, h2⟩ := h
    subst e2
    exact ⟨v, r, F1, F2, e1, rfl, Own.keep hz d v F1 (fun b u q m => k b u q (m.imp (fun z => List.mem_append_left _ z) id)) h1, OwnL.keep hz ds r F2 (fun b u q m => k b u q (m.imp (fun z => List.mem_append_right _ z) id)) h2⟩
end

mutual
/-- data are read in all of the heap -/
theorem Own.rep (hz : Same Z H) : ∀ (d : D) (v : V) (F : List Addr), Own G Z H d v F → Own G H H d v []
  | .non, _, _, h => ⟨h.1, rfl⟩
  | .bl _, _, _, h => ⟨h.1, rfl⟩
  | .int _, _, _, h => ⟨h.1, rfl⟩
  | .str _, _, _, h => ⟨h.1, rfl⟩
  | .scr _, _, _, h => ⟨rfl, h.2.imp fun _ z => ⟨z.1, hz.seq z.2⟩⟩
  | .tupF f ds, v, F, h => by
    obtain ⟨a, vs, e, h1, h2⟩ := h
    exact ⟨a, vs, e, h1, OwnL.rep hz ds vs F h2⟩
  | .lst ds, v, F, h => by
    obtain ⟨a, vs, F', e, n, h2⟩ := h
    refine ⟨a, vs, [], e, .inl ⟨?_, rfl, rfl⟩, OwnL.rep hz ds vs F' h2⟩
    rcases n with ⟨h, _⟩ | ⟨_, h⟩
    · exact Same.rd hz h
    · exact Rd.of h
  | .dk ks ds, v, F, h => by
    obtain ⟨a, vs, F', e, l, n, h2⟩ := h
    refine ⟨a, vs, [], e, l, .inl ⟨?_, rfl, rfl⟩, OwnL.rep hz ds vs F' h2⟩
    rcases n with ⟨h, _⟩ | ⟨_, h⟩
    · exact hz _ _ h
    · exact h
  | .dt ks ds, v, F, h => by
    obtain ⟨a, vs, F', e, l, n, h2⟩ := h
    refine ⟨a, vs, [], e, l, .inl ⟨?_, rfl, rfl⟩, OwnL.rep hz ds vs F' h2⟩
    rcases n with ⟨h, _⟩ | ⟨_, h⟩
    · exact hz _ _ h
    · exact h
  | .obj c fs ds, v, F, h => by
    obtain ⟨a, vs, F', C, dx, e, ec, l, n, h2⟩ := h
    refine ⟨a, vs, [], C, dx, e, ec, l, .inl ⟨?_, rfl, rfl⟩, OwnL.rep hz ds vs F' h2⟩
    rcases n with ⟨h, _⟩ | ⟨_, h⟩
    · exact hz _ _ h
    · exact h
theorem OwnL.rep (hz : Same Z H) : ∀ (ds : List D) (vs : List V) (F : List Addr), OwnL G Z H ds vs F → OwnL G H H ds vs []
  | [], _, _, h => ⟨h.1, rfl⟩
  | d :: ds, vs, F, h => by
    obtain ⟨v, r, F1, F2, e1, e2, h1, h2⟩ := h
    exact ⟨v, r, [], [], e1, rfl, Own.rep hz d v F1 h1, OwnL.rep hz ds r F2 h2⟩
end

mutual
/-- owned nodes frozen -/
theorem Own.freeze (hz : Same Z Z') : ∀ (d : D) (v : V) (F : List Addr), (∀ b u, b ∈ F → H b = some u → Z' b = some u) → Own G Z H d v F → Own G Z' H d v []
  | .non, _, _, _, h => ⟨h.1, rfl⟩
  | .bl _, _, _, _, h => ⟨h.1, rfl⟩
  | .int _, _, _, _, h => ⟨h.1, rfl⟩
  | .str _, _, _, _, h => ⟨h.1, rfl⟩
  | .scr _, _, _, _, h => ⟨rfl, h.2.imp fun _ z => ⟨z.1, hz.seq z.2⟩⟩
  | .tupF f ds, v, F, k, h => by
    obtain ⟨a, vs, e, h1, h2⟩ := h
    exact ⟨a, vs, e, h1, OwnL.freeze hz ds vs F k h2⟩
  | .lst ds, v, F, k, h => by
    obtain ⟨a, vs, F', e, n, h2⟩ := h
    refine ⟨a, vs, [], e, .inl ⟨?_, rfl, rfl⟩, OwnL.freeze hz ds vs F' (fun b u m => k b u (n.sub b m)) h2⟩
    rcases n with ⟨h, _⟩ | ⟨e, h⟩
    · exact Same.rd hz h
    · exact Rd.of (k _ _ (by rw [e]; exact List.mem_cons_self) h)
  | .dk ks ds, v, F, k, h => by
    obtain ⟨a, vs, F', e, l, n, h2⟩ := h
    refine ⟨a, vs, [], e, l, .inl ⟨?_, rfl, rfl⟩, OwnL.freeze hz ds vs F' (fun b u m => k b u (n.sub b m)) h2⟩
    rcases n with ⟨h, _⟩ | ⟨e, h⟩
    · exact hz _ _ h
    · exact k _ _ (by rw [e]; exact List.mem_cons_self) h
  | .dt ks ds, v, F, k, h => by
    obtain ⟨a, vs, F', e, l, n, h2⟩ := h
    refine ⟨a, vs, [], e, l, .inl ⟨?_, rfl, rfl⟩, OwnL.freeze hz ds vs F' (fun b u m => k b u (n.sub b m)) h2⟩
    rcases n with ⟨h, _⟩ | ⟨e, h⟩
    · exact hz _ _ h
    · exact k _ _ (by rw [e]; exact List.mem_cons_self) h
  | .obj c fs ds, v, F, k, h => by
    obtain ⟨a, vs, F', C, dx, e, ec, l, n, h2⟩ := h
    refine ⟨a, vs, [], C, dx, e, ec, l, .inl ⟨?_, rfl, rfl⟩, OwnL.freeze hz ds vs F' (fun b u m => k b u (n.sub b m)) h2⟩
    rcases n with ⟨h, _⟩ | ⟨e, h⟩
    · exact hz _ _ h
    · exact k _ _ (by rw [e]; exact List.mem_cons_self) h
theorem OwnL.freeze (hz : Same Z Z') : ∀ (ds : List D) (vs : List V) (F : List Addr), (∀ b u, b ∈ F → H b = some u → Z' b = some u) → OwnL G Z H ds vs F → OwnL G Z' H ds vs []
  | [], _, _, _, h => ⟨h.1, rfl⟩
  | d :: ds, vs, F, k, h => by
    obtain ⟨v, r, F1, F2, e1, e2, h1, h2⟩ := h
    subst e2
    exact ⟨v, r, [], [], e1, rfl, Own.freeze hz d v F1 (fun b u m => k b u (List.mem_append_left _ m)) h1, OwnL.freeze hz ds r F2 (fun b u m => k b u (List.mem_append_right _ m)) h2⟩
end

mutual
/-- owned nodes stand in the heap, and may be written -/
theorem Own.dom : ∀ (d : D) (v : V) (F : List Addr), Own G Z H d v F → ∀ a ∈ F, ∃ o, H a = some o ∧ Mut (some o)
  | .non, _, _, h => fun a m => by rw [h.2] at m; cases m
  | .bl _, _, _, h => fun a m => by rw [h.2] at m; cases m
  | .int _, _, _, h => fun a m => by rw [h.2] at m; cases m
  | .str _, _, _, h => fun a m => by rw [h.2] at m; cases m
  | .scr _, _, _, h => fun a m => by rw [h.1] at m; cases m
  | .tupF f ds, v, F, h => by
    obtain ⟨a, vs, e, h1, h2⟩ := h
    exact OwnL.dom ds vs F h2
  | .lst ds, v, F, h => by
    obtain ⟨a, vs, F', e, n, h2⟩ := h
    rcases n with ⟨_, e, _⟩ | ⟨e, q⟩
    · rw [e]; intro a m; cases m
    · rw [e]
      intro b m
      rcases List.mem_cons.mp m with rfl | m
      · exact ⟨_, q, trivial⟩
      · exact OwnL.dom ds vs F' h2 b m
  | .dk ks ds, v, F, h => by
    obtain ⟨a, vs, F', e, l, n, h2⟩ := h
    rcases n with ⟨_, e, _⟩ | ⟨e, q⟩
    · rw [e]; intro a m; cases m
    · rw [e]
      intro b m
      rcases List.mem_cons.mp m with rfl | m
      · exact ⟨_, q, trivial⟩
      · exact OwnL.dom ds vs F' h2 b m
  | .dt ks ds, v, F, h => by
    obtain ⟨a, vs, F', e, l, n, h2⟩ := h
    rcases n with ⟨_, e, _⟩ | ⟨e, q⟩
    · rw [e]; intro a m; cases m
    · rw [e]
      intro b m
      rcases List.mem_cons.mp m with rfl | m
      · exact ⟨_, q, trivial⟩
      · exact OwnL.dom ds vs F' h2 b m
  | .obj c fs ds, v, F, h => by
    obtain ⟨a, vs, F', C, dx, e, ec, l, n, h2⟩ := h
    rcases n with ⟨_, e, _⟩ | ⟨e, q⟩
    · rw [e]; intro a m; cases m
    · rw [e]
      intro b m
      rcases List.mem_cons.mp m with rfl | m
      · exact ⟨_, q, trivial⟩
      · exact OwnL.dom ds vs F' h2 b m
theorem OwnL.dom : ∀ (ds : List D) (vs : List V) (F : List Addr), OwnL G Z H ds vs F → ∀ a ∈ F, ∃ o, H a = some o ∧ Mut (some o)
  | [], _, _, h => fun a m => by rw [h.2] at m; cases m
  | d :: ds, vs, F, h => by
    obtain ⟨v, r, F1, F2, e1, e2, h1, h2⟩ := h
    subst e2
    intro a m
    rcases List.mem_append.mp m with m | m
    · exact Own.dom d v F1 h1 a m
    · exact OwnL.dom ds r F2 h2 a m
end

mutual
/-- pure data own nothing and lean on no frozen node -/
theorem Own.ofPure : ∀ (d : D) (v : V) (F : List Addr), d.pure = true → Own G Z H d v F → F = [] ∧ Own G Z' H d v []
  | .non, _, _, _, h => ⟨h.2, h.1, rfl⟩
  | .bl _, _, _, _, h => ⟨h.2, h.1, rfl⟩
  | .int _, _, _, _, h => ⟨h.2, h.1, rfl⟩
  | .str _, _, _, _, h => ⟨h.2, h.1, rfl⟩
  | .tupF f ds, v, F, p, h => by
    obtain ⟨a, vs, e, h1, h2⟩ := h
    obtain ⟨q1, q2⟩ := OwnL.ofPure ds vs F p h2
    exact ⟨q1, a, vs, e, h1, q2⟩
  | .scr _, v, F, p, h => by cases p
  | .lst ds, v, F, p, h => by cases p
  | .dk ks ds, v, F, p, h => by cases p
  | .dt ks ds, v, F, p, h => by cases p
  | .obj c fs ds, v, F, p, h => by cases p
theorem OwnL.ofPure : ∀ (ds : List D) (vs : List V) (F : List Addr), D.pureL ds = true → OwnL G Z H ds vs F → F = [] ∧ OwnL G Z' H ds vs []
  | [], _, _, _, h => ⟨h.2, h.1, rfl⟩
  | d :: ds, vs, F, p, h => by
    obtain ⟨v, r, F1, F2, e1, e2, h1, h2⟩ := h
    have p' : (d.pure && D.pureL ds) = true := p
    simp only [Bool.and_eq_true] at p'
    obtain ⟨q1, q2⟩ := Own.ofPure d v F1 p'.1 h1
    obtain ⟨r1, r2⟩ := OwnL.ofPure ds r F2 p'.2 h2
    exact ⟨by rw [e2, q1, r1]; rfl, v, r, [], [], e1, rfl, q2, r2⟩
end
theorem OwnL.length : ∀ {ds : List D} {vs : List V} {F : List Addr}, OwnL G Z H ds vs F → vs.length = ds.length
  | [], _, _, h => by rw [h.1]; rfl
  | d :: ds, vs, F, h => by
    obtain ⟨v, r, F1, F2, e1, e2, h1, h2⟩ := h
    rw [e1, List.length_cons, List.length_cons, OwnL.length h2]
theorem OwnL.append : ∀ {ds es : List D} {vs us : List V} {F F' : List Addr}, OwnL G Z H ds vs F → OwnL G Z H es us F' → OwnL G Z H (ds ++ es) (vs ++ us) (F ++ F')
  | [], es, vs, us, F, F', h, h' => by
    rw [h.1, h.2]
    exact h'
  | d :: ds, es, vs, us, F, F', h, h' => by
    obtain ⟨v, r, F1, F2, e1, e2, h1, h2⟩ := h
    subst e1 e2
    exact ⟨v, r ++ us, F1, F2 ++ F', rfl, by rw [List.append_assoc], h1, OwnL.append h2 h'⟩
theorem OwnL.split : ∀ {ds es : List D} {vs : List V} {F : List Addr}, OwnL G Z H (ds ++ es) vs F → ∃ vs1 vs2 F1 F2, vs = vs1 ++ vs2 ∧ F = F1 ++ F2 ∧ OwnL G Z H ds vs1 F1 ∧ OwnL G Z H es vs2 F2
  | [], es, vs, F, h => ⟨[], vs, [], F, rfl, rfl, ⟨rfl, rfl⟩, h⟩
  | d :: ds, es, vs, F, h => by
    obtain ⟨v, r, F1, F2, e1, e2, h1, h2⟩ := h
    obtain ⟨vs1, vs2, F3, F4, q1, q2, q3, q4⟩ := OwnL.split (ds := ds) h2
    exact ⟨v :: vs1, vs2, F1 ++ F3, F4, by rw [e1, q1]; rfl, by rw [e2, q2, List.append_assoc], ⟨v, vs1, F1, F3, rfl, rfl, h1, q3⟩, q4⟩
theorem OwnL.get : ∀ {ds : List D} {vs : List V} {i : Nat} {d : D}, OwnL G Z H ds vs [] → ds[i]? = some d → ∃ v, vs[i]? = some v ∧ Own G Z H d v []
  | [], _, _, _, _, e => by cases e
  | d :: ds, vs, 0, d', h, e => by
    obtain ⟨v, r, F1, F2, e1, e2, h1, h2⟩ := h
    have e3 : d = d' := Option.some.inj e
    subst e1 e3
    obtain ⟨rfl, rfl⟩ := List.append_eq_nil_iff.mp e2.symm
    exact ⟨v, rfl, h1⟩
  | d :: ds, vs, i + 1, d', h, e => by
    obtain ⟨v, r, F1, F2, e1, e2, h1, h2⟩ := h
    subst e1
    obtain ⟨rfl, rfl⟩ := List.append_eq_nil_iff.mp e2.symm
    exact OwnL.get (i := i) h2 e
theorem OwnL.cons_nil {d : D} {ds : List D} {v : V} {vs : List V} (h1 : Own G Z H d v []) (h2 : OwnL G Z H ds vs []) : OwnL G Z H (d :: ds) (v :: vs) [] := ⟨v, vs, [], [], rfl, rfl, h1, h2⟩
theorem OwnL.uncons {d : D} {ds : List D} {vs : List V} (h : OwnL G Z H (d :: ds) vs []) : ∃ v r, vs = v :: r ∧ Own G Z H d v [] ∧ OwnL G Z H ds r [] := by
  obtain ⟨v, r, F1, F2, e1, e2, h1, h2⟩ := h
  obtain ⟨rfl, rfl⟩ := List.append_eq_nil_iff.mp e2.symm
  exact ⟨v, r, e1, h1, h2⟩
end

/-! ### joined heaps -/
def joi (B Z : Hp) : Hp := fun a => match B a with
  | some o => some o
  | none => Z a
/-- B, and what H has at F -/
def lay (B H : Hp) (F : List Addr) : Hp := fun a => if a ∈ F then H a else B a
/-- H without what stands at F -/
def cut (H : Hp) (F : List Addr) : Hp := fun a => if a ∈ F then none else H a
theorem joi_le {B Z H : Hp} (b : Same B H) (z : Same Z H) : Same (joi B Z) H := fun a o e => by
  unfold joi at e
  cases q : B a with
  | some u =>
    rw [q] at e
    cases e
    exact b _ _ q
  | none =>
    rw [q] at e
    exact z _ _ e
theorem joi_mono {B B' Z Z' H : Hp} (b : Same B B') (z : Same Z Z') (b' : Same B' H) (z' : Same Z' H) : Same (joi B Z) (joi B' Z') := fun a o e => by
  unfold joi at e ⊢
  cases q : B a with
  | some u =>
    rw [q] at e
    cases e
    rw [b _ _ q]
  | none =>
    rw [q] at e
    cases q' : B' a with
    | some u =>
      have h1 := b' _ _ q'
      have h2 := z' _ _ (z _ _ e)
      rw [h1] at h2
      exact h2
    | none => exact z _ _ e
theorem joi_right {B Z H : Hp} (b : Same B H) (z : Same Z H) : Same Z (joi B Z) := fun a o e => by
  unfold joi
  cases q : B a with
  | some u =>
    have h1 := b _ _ q
    rw [z _ _ e] at h1
    exact h1.symm
  | none => exact e
theorem joi_left {B Z : Hp} : Same B (joi B Z) := fun a o e => by
  unfold joi
  rw [e]
theorem joi_none {B Z : Hp} {a : Addr} (b : B a = none) (z : Z a = none) : joi B Z a = none := by
  unfold joi
  rw [b]
  exact z
theorem of_joi_none {B Z : Hp} {a : Addr} (h : joi B Z a = none) : B a = none ∧ Z a = none := by
  unfold joi at h
  cases q : B a with
  | some u => rw [q] at h; cases h
  | none => rw [q] at h; exact ⟨rfl, h⟩
theorem lay_le {B H : Hp} {F : List Addr} (b : Same B H) : Same (lay B H F) H := fun a o e => by
  unfold lay at e
  split at e
  · exact e
  · exact b _ _ e
theorem lay_up {B H : Hp} {F : List Addr} (b : Same B H) : Same B (lay B H F) := fun a o e => by
  unfold lay
  split
  · exact b _ _ e
  · exact e
theorem lay_in {B H : Hp} {F : List Addr} {a : Addr} (h : a ∈ F) : lay B H F a = H a := by
  unfold lay
  rw [if_pos h]
theorem lay_out {B H : Hp} {F : List Addr} {a : Addr} (h : a ∉ F) : lay B H F a = B a := by
  unfold lay
  rw [if_neg h]
theorem lay_nil {B H : Hp} : lay B H [] = B := by
  funext a
  unfold lay
  rw [if_neg (by simp)]
theorem cut_le {H : Hp} {F : List Addr} : Same (cut H F) H := fun a o e => by
  unfold cut at e
  split at e
  · cases e
  · exact e
theorem cut_out {H : Hp} {F : List Addr} {a : Addr} (h : a ∉ F) : cut H F a = H a := by
  unfold cut
  rw [if_neg h]
theorem cut_in {H : Hp} {F : List Addr} {a : Addr} (h : a ∈ F) : cut H F a = none := by
  unfold cut
  rw [if_pos h]
theorem same_upd {H : Hp} {p : Addr} {o : HO} (h : H p = none) : Same H (upd H p o) := fun b x e => by
  rw [upd_ne (ne_of_none e h)]
  exact e
end DL

namespace DL
open PySem PySem.Spec PyProof.Rows L2

/-! ### slots -/
inductive Md where
  /-- owned; owned, and the caller's (an argument that is changed); frozen; the caller's, read only; owned, but being read elsewhere -/
  | own | io | shr | brw | lck
  deriving DecidableEq
abbrev Slot := Option (Md × D)
abbrev DEnv := List Slot
def Md.mut : Md → Bool
  | .own => true
  | .io => true
  | _ => false

def SlotOk (G : Gc) (B Z H : Hp) (x : Option (Option V)) (s : Option Slot) (F : List Addr) : Prop :=
  match s with
  | some (some (m, d)) => ∃ v, x = some (some v) ∧ (match m with
      | .own => Own G Z H d v F
      | .io => Own G Z H d v F
      | .shr => Own G Z H d v [] ∧ F = []
      | .brw => Own G (joi B Z) H d v [] ∧ F = []
      | .lck => Own G (joi B Z) H d v [] ∧ F = [])
  | _ => F = []

structure Good (G : Gc) (B Z H : Hp) (σ : L2.St) (env : DEnv) (Fs : Nat → List Addr) : Prop where
  sb : Same B H
  sz : Same Z H
  len : env.length = σ.length
  sl : ∀ i, SlotOk G B Z H σ[i]? env[i]? (Fs i)
  nd : ∀ i, (Fs i).Nodup
  dj : ∀ i j a, a ∈ Fs i → a ∈ Fs j → i = j
  fr : ∀ i a, a ∈ Fs i → B a = none ∧ Z a = none
  z0 : ∀ a, Z a = none

def InF (Fs : Nat → List Addr) (a : Addr) : Prop := ∃ i, a ∈ Fs i

/-- from the one state to the other: what is not the slots' own stays; the slots own what they owned and what is new -/
structure Stp (G : Gc) (B Z H : Hp) (σ : L2.St) (env : DEnv) (P : Addr → Prop) (Z' H' : Hp) (σ' : L2.St) (env' : DEnv) (Fs' : Nat → List Addr) : Prop where
  zz : Same Z Z'
  ext : ∀ a o, H a = some o → ¬ P a → H' a = some o
  good : Good G B Z' H' σ' env' Fs'
  new : ∀ a, InF Fs' a → H a = none ∨ P a
  newz : ∀ a, Z' a ≠ none → Z a ≠ none ∨ H a = none ∨ P a
  io : ∀ (j : Nat) (d : D), env[j]? = some (some (Md.io, d)) → (∃ d' : D, env'[j]? = some (some (Md.io, d'))) ∧ σ'[j]? = σ[j]?
  lk : ∀ (j : Nat) (d : D), env[j]? = some (some (Md.lck, d)) → env'[j]? = some (some (Md.lck, d)) ∧ σ'[j]? = σ[j]?
  bw : ∀ (j : Nat) (d : D), env'[j]? = some (some (Md.brw, d)) → env[j]? = some (some (Md.brw, d)) ∧ σ'[j]? = σ[j]?
  lb : ∀ (j : Nat) (d : D), env'[j]? = some (some (Md.lck, d)) → env[j]? = some (some (Md.lck, d)) ∧ σ'[j]? = σ[j]?
  ln : env'.length = env.length

/-- a value at hand, owned by nobody else -/
structure Tm (G : Gc) (B Z H : Hp) (P : Addr → Prop) (d : D) (v : V) (F : List Addr) : Prop where
  own : Own G Z H d v F
  nd : F.Nodup
  dj : ∀ a, a ∈ F → ¬ P a
  fr : ∀ a, a ∈ F → B a = none ∧ Z a = none

section
variable {G : Gc} {B Z H Z' H' Z'' H'' : Hp} {σ σ' σ'' : L2.St} {env env' env'' : DEnv} {Fs Fs' Fs'' : Nat → List Addr}
theorem SlotOk.dom {x : Option (Option V)} {s : Option Slot} {F : List Addr} (h : SlotOk G B Z H x s F) : ∀ a ∈ F, ∃ o, H a = some o ∧ Mut (some o) := by
  unfold SlotOk at h
  match s, h with
  | some (some (.own, d)), h => obtain ⟨v, _, h⟩ := h; exact Own.dom d v F h
  | some (some (.io, d)), h => obtain ⟨v, _, h⟩ := h; exact Own.dom d v F h
  | some (some (.shr, d)), h => obtain ⟨v, _, _, h⟩ := h; intro a m; rw [h] at m; cases m
  | some (some (.brw, d)), h => obtain ⟨v, _, _, h⟩ := h; intro a m; rw [h] at m; cases m
  | some (some (.lck, d)), h => obtain ⟨v, _, _, h⟩ := h; intro a m; rw [h] at m; cases m
  | some none, h => intro a m; rw [show F = [] from h] at m; cases m
  | none, h => intro a m; rw [show F = [] from h] at m; cases m
theorem Good.dom (g : Good G B Z H σ env Fs) {a : Addr} (h : InF Fs a) : ∃ o, H a = some o ∧ Mut (some o) := by
  obtain ⟨i, m⟩ := h
  exact (g.sl i).dom a m
/-- a tuple is nobody's own -/
theorem Good.tup (g : Good G B Z H σ env Fs) {a : Addr} {u : HO} (h : H a = some u) (hs : Still u) : ¬ InF Fs a := fun m => by
  obtain ⟨o, e, mu⟩ := g.dom m
  rw [h] at e
  cases e
  exact hs mu
theorem SlotOk.keep {x : Option (Option V)} {s : Option Slot} {F : List Addr} (h : SlotOk G B Z H x s F) (b : Same B H) (z : Same Z H) (b' : Same B H') (z' : Same Z' H') (hz : Same Z Z')
    (k : ∀ a u, H a = some u → (a ∈ F ∨ Still u) → H' a = some u) : SlotOk G B Z' H' x s F := by
  have j : Same (joi B Z) (joi B Z') := joi_mono (Same.refl B) hz b' z'
  have k0 : ∀ a u, H a = some u → (a ∈ ([] : List Addr) ∨ Still u) → H' a = some u := fun a u e m => k a u e (m.imp (fun z => by cases z) id)
  unfold SlotOk at h ⊢
  match s, h with
  | some (some (.own, d)), h => obtain ⟨v, e, h⟩ := h; exact ⟨v, e, Own.keep hz d v F k h⟩
  | some (some (.io, d)), h => obtain ⟨v, e, h⟩ := h; exact ⟨v, e, Own.keep hz d v F k h⟩
  | some (some (.shr, d)), h => obtain ⟨v, e, h, f⟩ := h; exact ⟨v, e, Own.keep hz d v [] k0 h, f⟩
  | some (some (.brw, d)), h => obtain ⟨v, e, h, f⟩ := h; exact ⟨v, e, Own.keep j d v [] k0 h, f⟩
  | some (some (.lck, d)), h => obtain ⟨v, e, h, f⟩ := h; exact ⟨v, e, Own.keep j d v [] k0 h, f⟩
  | some none, h => exact h
  | none, h => exact h

variable {P P' P1 : Addr → Prop}
/-- what is owned may be written -/
def PMut (H : Hp) (P : Addr → Prop) : Prop := ∀ a, P a → ∃ o, H a = some o ∧ Mut (some o)
theorem PMut.tup (p : PMut H P) {a : Addr} {u : HO} (h : H a = some u) (hs : Still u) : ¬ P a := fun m => by
  obtain ⟨o, e, mu⟩ := p a m
  rw [h] at e
  cases e
  exact hs mu
theorem Good.pm (g : Good G B Z H σ env Fs) : PMut H (InF Fs) := fun _ h => g.dom h
theorem Stp.refl (g : Good G B Z H σ env Fs) (hp : ∀ a, InF Fs a → P a) : Stp G B Z H σ env P Z H σ env Fs :=
  ⟨Same.refl Z, fun _ _ e _ => e, g, fun a m => .inr (hp a m), fun _ m => .inl m, fun j d e => ⟨⟨d, e⟩, rfl⟩, fun j d e => ⟨e, rfl⟩, fun j d e => ⟨e, rfl⟩, fun j d e => ⟨e, rfl⟩, rfl⟩
theorem Stp.trans (a : Stp G B Z H σ env P Z' H' σ' env' Fs') (hp : ∀ x, P1 x → H x = none ∨ P x) (b : Stp G B Z' H' σ' env' P1 Z'' H'' σ'' env'' Fs'') : Stp G B Z H σ env P Z'' H'' σ'' env'' Fs'' := by
  have back : ∀ x, H' x = none → H x = none ∨ P x := fun x z => by
    cases q : H x with
    | none => exact .inl rfl
    | some o =>
      refine .inr ?_
      by_cases n : P x
      · exact n
      · have := a.ext x o q n
        rw [z] at this; cases this
  refine ⟨a.zz.trans b.zz, fun x o e n => b.ext x o (a.ext x o e n) fun m => ?_, b.good, fun x m => ?_, fun x m => ?_, fun j d e => ?_, fun j d e => ?_, fun j d e => ?_, fun j d e => ?_, b.ln.trans a.ln⟩
  · rcases hp x m with z | z
    · rw [e] at z; cases z
    · exact n z
  · rcases b.new x m with z | z
    · exact back x z
    · exact hp x z
  · rcases b.newz x m with z | z | z
    · exact a.newz x z
    · exact .inr (back x z)
    · exact .inr (hp x z)
  · obtain ⟨⟨d', e1⟩, s1⟩ := a.io j d e
    obtain ⟨q, s2⟩ := b.io j d' e1
    exact ⟨q, s2.trans s1⟩
  · obtain ⟨e1, s1⟩ := a.lk j d e
    obtain ⟨q, s2⟩ := b.lk j d e1
    exact ⟨q, s2.trans s1⟩
  · obtain ⟨e1, s1⟩ := b.bw j d e
    obtain ⟨q, s2⟩ := a.bw j d e1
    exact ⟨q, s1.trans s2⟩
  · obtain ⟨e1, s1⟩ := b.lb j d e
    obtain ⟨q, s2⟩ := a.lb j d e1
    exact ⟨q, s1.trans s2⟩
/-- .. where more is owned at the start -/
theorem Stp.more (a : Stp G B Z H σ env P Z' H' σ' env' Fs') (hp : ∀ x, P x → P1 x) : Stp G B Z H σ env P1 Z' H' σ' env' Fs' :=
  ⟨a.zz, fun x o e n => a.ext x o e fun m => n (hp x m), a.good, fun x m => (a.new x m).imp id (hp x), fun x m => (a.newz x m).imp id fun z => z.imp id (hp x), a.io, a.lk, a.bw, a.lb, a.ln⟩
/-- the heap grows by what nobody owns -/
theorem Good.grow (g : Good G B Z H σ env Fs) (h : Same H H') : Good G B Z H' σ env Fs :=
  ⟨g.sb.trans h, g.sz.trans h, g.len, fun i => (g.sl i).keep g.sb g.sz (g.sb.trans h) (g.sz.trans h) (Same.refl Z) fun a u e _ => h a u e, g.nd, g.dj, g.fr, g.z0⟩
theorem Stp.grow (g : Good G B Z H σ env Fs) (hp : ∀ a, InF Fs a → P a) (h : Same H H') : Stp G B Z H σ env P Z H' σ env Fs :=
  ⟨Same.refl Z, fun a o e _ => h a o e, g.grow h, fun a m => .inr (hp a m), fun _ m => .inl m, fun j d e => ⟨⟨d, e⟩, rfl⟩, fun j d e => ⟨e, rfl⟩, fun j d e => ⟨e, rfl⟩, fun j d e => ⟨e, rfl⟩, rfl⟩
theorem Tm.dom {d : D} {v : V} {F : List Addr} (t : Tm G B Z H P d v F) {a : Addr} (m : a ∈ F) : ∃ o, H a = some o := by
  obtain ⟨o, e, _⟩ := Own.dom d v F t.own a m
  exact ⟨o, e⟩
/-- a value at hand stays at hand -/
theorem Tm.step {d : D} {v : V} {F : List Addr} (t : Tm G B Z H P d v F) (pm : PMut H P) (s : Stp G B Z H σ env P Z' H' σ' env' Fs') (hp : ∀ x, P1 x → H x = none ∨ P x) : Tm G B Z' H' P1 d v F where
  own := Own.keep s.zz d v F (fun a u e m => s.ext a u e (by
    rcases m with m | nm
    · exact t.dj a m
    · exact pm.tup e nm)) t.own
  nd := t.nd
  dj := fun a m z => by
    obtain ⟨o, e⟩ := t.dom m
    rcases hp a z with q | q
    · rw [e] at q; cases q
    · exact t.dj a m q
  fr := fun a m => by
    refine ⟨(t.fr a m).1, ?_⟩
    cases q : Z' a with
    | none => rfl
    | some u =>
      obtain ⟨o, e⟩ := t.dom m
      rcases s.newz a (by rw [q]; simp) with z | z | z
      · exact absurd (t.fr a m).2 z
      · rw [e] at z; cases z
      · exact absurd z (t.dj a m)
theorem Tm.grow {d : D} {v : V} {F : List Addr} (t : Tm G B Z H P d v F) (h : Same H H') : Tm G B Z H' P d v F :=
  ⟨Own.keep (Same.refl Z) d v F (fun a u e _ => h a u e) t.own, t.nd, t.dj, t.fr⟩
theorem Tm.pure {d : D} {v : V} (h : Own G Z H d v []) : Tm G B Z H P d v [] := ⟨h, List.nodup_nil, fun a m => (by cases m), fun a m => (by cases m)⟩
/-- a borrowed value stays -/
theorem brw_step {d : D} {v : V} (h : Own G (joi B Z) H d v []) (pm : PMut H P) (s : Stp G B Z H σ env P Z' H' σ' env' Fs') : Own G (joi B Z') H' d v [] :=
  Own.keep (joi_mono (Same.refl B) s.zz s.good.sb s.good.sz) d v [] (fun a u e m => s.ext a u e (by
    rcases m with m | nm
    · cases m
    · exact pm.tup e nm)) h

/-! ### locks -/
def lock1 : Slot → Slot
  | some (.own, d) => some (.lck, d)
  | some (.io, d) => some (.lck, d)
  | s => s
def lock (i : Nat) (env : DEnv) : DEnv := env.modify i lock1
def unl1 : Slot → Slot → Slot
  | some (.own, _), some (.lck, d) => some (.own, d)
  | some (.io, _), some (.lck, d) => some (.io, d)
  | _, s => s
def unlock (e0 e : DEnv) : DEnv := List.zipWith unl1 e0 e
theorem lock_at {i j : Nat} : (lock i env)[j]? = if i = j then env[j]?.map lock1 else env[j]? := by
  unfold lock
  rw [List.getElem?_modify]
  split
  · rfl
  · simp
theorem unlock_at {e0 e : DEnv} {j : Nat} : (unlock e0 e)[j]? = match e0[j]?, e[j]? with
    | some a, some b => some (unl1 a b)
    | _, _ => none := by
  unfold unlock
  rw [List.getElem?_zipWith]
  cases e0[j]? <;> cases e[j]? <;> rfl

/-- the footprints without slot i's -/
def offF (Fs : Nat → List Addr) (i : Nat) : Nat → List Addr := fun j => if j = i then [] else Fs j
def onF (Fs : Nat → List Addr) (i : Nat) (F : List Addr) : Nat → List Addr := fun j => if j = i then F else Fs j
theorem inF_off {i : Nat} {a : Addr} (h : InF (offF Fs i) a) : InF Fs a := by
  obtain ⟨j, m⟩ := h
  unfold offF at m
  split at m
  · cases m
  · exact ⟨j, m⟩
theorem inF_on {i : Nat} {F : List Addr} {a : Addr} (h : InF (onF Fs i F) a) : a ∈ F ∨ InF Fs a := by
  obtain ⟨j, m⟩ := h
  unfold onF at m
  split at m
  · exact .inl m
  · exact .inr ⟨j, m⟩
theorem inF_on_new {i : Nat} {F : List Addr} {a : Addr} (m : a ∈ F) : InF (onF Fs i F) a := ⟨i, by unfold onF; rw [if_pos rfl]; exact m⟩

/-- B with slot i's own nodes laid in -/
def lockB (B H : Hp) (Fs : Nat → List Addr) (i : Nat) : Hp := lay B H (Fs i)
theorem lockB_le (g : Good G B Z H σ env Fs) (i : Nat) : Same (lockB B H Fs i) H := lay_le g.sb
theorem lockB_up (g : Good G B Z H σ env Fs) (i : Nat) : Same B (lockB B H Fs i) := lay_up g.sb

theorem Good.lock (g : Good G B Z H σ env Fs) (i : Nat) : Good G (lockB B H Fs i) Z H σ (lock i env) (offF Fs i) where
  sb := lockB_le g i
  sz := g.sz
  z0 := g.z0
  len := by unfold DL.lock; rw [List.length_modify]; exact g.len
  sl := fun j => by
    have j1 : Same (joi B Z) (joi (lockB B H Fs i) Z) := joi_mono (lockB_up g i) (Same.refl Z) (lockB_le g i) g.sz
    have z1 : Same Z (joi (lockB B H Fs i) Z) := joi_right (lockB_le g i) g.sz
    have h := g.sl j
    have k0 : ∀ a u, H a = some u → (a ∈ ([] : List Addr) ∨ Still u) → H a = some u := fun a u e _ => e
    rw [lock_at]
    by_cases e : i = j
    · subst e
      rw [if_pos rfl]
      have eo : offF Fs i i = [] := by unfold offF; rw [if_pos rfl]
      rw [eo]
      have kf : ∀ b u, b ∈ Fs i → H b = some u → joi (lockB B H Fs i) Z b = some u := fun b u m q => joi_left b u (by unfold lockB; rw [lay_in m]; exact q)
      unfold SlotOk at h ⊢
      match hs : env[i]?, h with
      | some (some (.own, d)), h => obtain ⟨v, e, h⟩ := h; exact ⟨v, e, Own.freeze z1 d v _ kf h, rfl⟩
      | some (some (.io, d)), h => obtain ⟨v, e, h⟩ := h; exact ⟨v, e, Own.freeze z1 d v _ kf h, rfl⟩
      | some (some (.shr, d)), h => obtain ⟨v, e, h, f⟩ := h; exact ⟨v, e, h, rfl⟩
      | some (some (.brw, d)), h => obtain ⟨v, e, h, f⟩ := h; exact ⟨v, e, Own.keep j1 d v [] k0 h, rfl⟩
      | some (some (.lck, d)), h => obtain ⟨v, e, h, f⟩ := h; exact ⟨v, e, Own.keep j1 d v [] k0 h, rfl⟩
      | some none, h => rfl
      | none, h => rfl
    · rw [if_neg e]
      have eo : offF Fs i j = Fs j := by unfold offF; rw [if_neg (fun z => e z.symm)]
      rw [eo]
      unfold SlotOk at h ⊢
      match hs : env[j]?, h with
      | some (some (.own, d)), h => exact h
      | some (some (.io, d)), h => exact h
      | some (some (.shr, d)), h => exact h
      | some (some (.brw, d)), h => obtain ⟨v, e, h, f⟩ := h; exact ⟨v, e, Own.keep j1 d v [] k0 h, f⟩
      | some (some (.lck, d)), h => obtain ⟨v, e, h, f⟩ := h; exact ⟨v, e, Own.keep j1 d v [] k0 h, f⟩
      | some none, h => exact h
      | none, h => exact h
  nd := fun j => by unfold offF; split; exact List.nodup_nil; exact g.nd j
  dj := fun j k a m n => by
    unfold offF at m n
    split at m
    · cases m
    · split at n
      · cases n
      · exact g.dj j k a m n
  fr := fun j a m => by
    unfold offF at m
    split at m
    · cases m
    · rename_i e
      refine ⟨?_, (g.fr j a m).2⟩
      unfold lockB
      rw [lay_out fun n => e (g.dj j i a m n)]
      exact (g.fr j a m).1

/-- .. and back, behind a step of the locked state -/
theorem unl1_own {d : D} {b : Slot} : unl1 (some (.own, d)) b = match b with
    | some (.lck, d') => some (.own, d')
    | s => s := by
  match b with
  | none => rfl
  | some (.own, _) => rfl
  | some (.io, _) => rfl
  | some (.shr, _) => rfl
  | some (.brw, _) => rfl
  | some (.lck, _) => rfl
/-- a slot of a locked state, seen without the lock -/
theorem SlotOk.unlk {B1 : Hp} {x y : Option (Option V)} {s : Option Slot} {s0 : Option Slot} {F F0 : List Addr} (h : SlotOk G B1 Z' H' x s F) (h0 : SlotOk G B Z H y s0 F0) (zz : Same Z Z') (sb' : Same B H') (sz' : Same Z' H')
    (kt : ∀ a u, H a = some u → Still u → H' a = some u) (hb : ∀ d, s = some (some (.brw, d)) → s0 = some (some (.brw, d)) ∧ x = y) (hl : ∀ d, s = some (some (.lck, d)) → s0 = some (some (.lck, d)) ∧ x = y) : SlotOk G B Z' H' x s F := by
  have kk : ∀ (a : Addr) (u : HO), H a = some u → (a ∈ ([] : List Addr) ∨ Still u) → H' a = some u := fun a u e m => by
    rcases m with m | nm
    · cases m
    · exact kt a u e nm
  unfold SlotOk at h ⊢
  match s, h, hb, hl with
  | some (some (.own, d)), h, _, _ => exact h
  | some (some (.io, d)), h, _, _ => exact h
  | some (some (.shr, d)), h, _, _ => exact h
  | some (some (.brw, d)), h, hb, _ =>
    obtain ⟨v, ev, _, f⟩ := h
    obtain ⟨q, exy⟩ := hb d rfl
    rw [q] at h0
    obtain ⟨u, eu, hu, _⟩ := h0
    rw [← exy, ev] at eu
    have euv : v = u := Option.some.inj (Option.some.inj eu)
    subst euv
    exact ⟨v, ev, Own.keep (joi_mono (Same.refl B) zz sb' sz') d v [] kk hu, f⟩
  | some (some (.lck, d)), h, _, hl =>
    obtain ⟨v, ev, _, f⟩ := h
    obtain ⟨q, exy⟩ := hl d rfl
    rw [q] at h0
    obtain ⟨u, eu, hu, _⟩ := h0
    rw [← exy, ev] at eu
    have euv : v = u := Option.some.inj (Option.some.inj eu)
    subst euv
    exact ⟨v, ev, Own.keep (joi_mono (Same.refl B) zz sb' sz') d v [] kk hu, f⟩
  | some none, h, _, _ => exact h
  | none, h, _, _ => exact h

/-- slot i's own nodes, given back -/
def backF (env : DEnv) (Fs F2 : Nat → List Addr) (i : Nat) : Nat → List Addr := fun j => if j = i then (match env[i]? with
  | some (some (.own, _)) => Fs i
  | some (some (.io, _)) => Fs i
  | _ => F2 i) else F2 j
theorem backF_ne {F2 : Nat → List Addr} {i j : Nat} (h : j ≠ i) : backF env Fs F2 i j = F2 j := by
  unfold backF
  rw [if_neg h]
theorem backF_same {F2 : Nat → List Addr} {i : Nat} : backF env Fs F2 i i = (match env[i]? with
  | some (some (.own, _)) => Fs i
  | some (some (.io, _)) => Fs i
  | _ => F2 i) := by
  unfold backF
  rw [if_pos rfl]
theorem backF_mem {F2 : Nat → List Addr} {i j : Nat} {a : Addr} (h : a ∈ backF env Fs F2 i j) : (j = i ∧ a ∈ Fs i) ∨ a ∈ F2 j := by
  by_cases e : j = i
  · subst e
    rw [backF_same] at h
    split at h
    · exact .inl ⟨rfl, h⟩
    · exact .inl ⟨rfl, h⟩
    · exact .inr h
  · rw [backF_ne e] at h
    exact .inr h
theorem lock_none {i : Nat} (h : ∀ d, env[i]? ≠ some (some (.own, d)) ∧ env[i]? ≠ some (some (.io, d))) : lock i env = env := by
  apply List.ext_getElem?
  intro j
  rw [lock_at]
  split
  · rename_i e
    subst e
    cases q : env[i]? with
    | none => rfl
    | some s =>
      match s with
      | none => rfl
      | some (.own, d) => exact absurd q (h d).1
      | some (.io, d) => exact absurd q (h d).2
      | some (.shr, d) => rfl
      | some (.brw, d) => rfl
      | some (.lck, d) => rfl
  · rfl
theorem Stp.unlock {i : Nat} {Z2 H2 : Hp} {σ2 : L2.St} {e2 : DEnv} {F2 : Nat → List Addr} (g : Good G B Z H σ env Fs) (pm : PMut H P') (hp : ∀ a, P' a → P a ∧ a ∉ Fs i) (hi : ∀ a, a ∈ Fs i → P a) (s : Stp G (lockB B H Fs i) Z H σ (DL.lock i env) P' Z2 H2 σ2 e2 F2) :
    Stp G B Z H σ env P Z2 H2 σ2 (DL.unlock env e2) (backF env Fs F2 i) := by
  have gl := s.good
  have keepi : ∀ a o, a ∈ Fs i → H a = some o → H2 a = some o := fun a o m e => gl.sb a o (by unfold lockB; rw [lay_in m]; exact e)
  have keept : ∀ a u, H a = some u → Still u → H2 a = some u := fun a u e st => s.ext a _ e (pm.tup e st)
  have frz2 : ∀ a, a ∈ Fs i → Z2 a = none := fun a m => by
    cases q : Z2 a with
    | none => rfl
    | some u =>
      rcases s.newz a (by rw [q]; simp) with z | z | z
      · exact absurd (g.fr i a m).2 z
      · obtain ⟨o, e, _⟩ := g.dom ⟨i, m⟩
        rw [e] at z; cases z
      · exact absurd m (hp a z).2
  have ndi : ∀ a, a ∈ Fs i → ∀ j, a ∉ F2 j := fun a m j n => by
    rcases s.new a ⟨j, n⟩ with z | z
    · obtain ⟨o, e, _⟩ := g.dom ⟨i, m⟩
      rw [e] at z; cases z
    · exact absurd m (hp a z).2
  have sb2 : Same B H2 := (lockB_up g i).trans gl.sb
  have llk : (DL.lock i env).length = env.length := by unfold DL.lock; rw [List.length_modify]
  have ln2 : e2.length = env.length := s.ln.trans llk
  have lke : ∀ (j : Nat), j ≠ i → (DL.lock i env)[j]? = env[j]? := fun j h => by rw [lock_at, if_neg (fun z => h z.symm)]
  -- the slots, seen without the lock
  have seen : ∀ (j : Nat), (∀ d, e2[j]? = some (some (.lck, d)) → env[j]? = some (some (.lck, d))) → SlotOk G B Z2 H2 σ2[j]? e2[j]? (F2 j) := fun j hj => by
    refine (gl.sl j).unlk (g.sl j) s.zz sb2 gl.sz keept (fun d e => ?_) fun d e => ⟨hj d e, (s.lb j d e).2⟩
    obtain ⟨q, es⟩ := s.bw j d e
    refine ⟨?_, es⟩
    rw [lock_at] at q
    split at q
    · cases h : env[j]? with
      | none => rw [h] at q; cases q
      | some sl =>
        rw [h] at q
        match sl, q with
        | some (.brw, d'), q => exact q
    · exact q
  have un : ∀ (j : Nat), (DL.unlock env e2)[j]? = match env[j]?, e2[j]? with
    | some a, some b => some (unl1 a b)
    | _, _ => none := fun j => unlock_at
  -- where nothing is unlocked
  have same_at : ∀ (j : Nat), (j ≠ i ∨ ∀ d, env[i]? ≠ some (some (.own, d)) ∧ env[i]? ≠ some (some (.io, d))) → (DL.unlock env e2)[j]? = e2[j]? ∧ ∀ d, e2[j]? = some (some (.lck, d)) → env[j]? = some (some (.lck, d)) := fun j hj => by
    have el : (DL.lock i env)[j]? = env[j]? := by
      rcases hj with h | h
      · exact lke j h
      · rw [lock_none h]
    have hl : ∀ d, e2[j]? = some (some (.lck, d)) → env[j]? = some (some (.lck, d)) := fun d e => by
      have q := (s.lb j d e).1
      rw [el] at q
      exact q
    refine ⟨?_, hl⟩
    rw [un]
    cases h1 : env[j]? with
    | none =>
      have : e2[j]? = none := List.getElem?_eq_none_iff.mpr (by rw [ln2]; exact List.getElem?_eq_none_iff.mp h1)
      rw [this]
    | some a =>
      cases h2 : e2[j]? with
      | none => rfl
      | some b =>
        show some (unl1 a b) = some b
        match b, h2 with
        | none, _ => match a with
          | none => rfl
          | some (.own, _) => rfl
          | some (.io, _) => rfl
          | some (.shr, _) => rfl
          | some (.brw, _) => rfl
          | some (.lck, _) => rfl
        | some (.lck, d), h2 =>
          have q := hl d h2
          rw [h1] at q
          cases q
          rfl
        | some (.own, _), _ => match a with
          | none => rfl
          | some (.own, _) => rfl
          | some (.io, _) => rfl
          | some (.shr, _) => rfl
          | some (.brw, _) => rfl
          | some (.lck, _) => rfl
        | some (.io, _), _ => match a with
          | none => rfl
          | some (.own, _) => rfl
          | some (.io, _) => rfl
          | some (.shr, _) => rfl
          | some (.brw, _) => rfl
          | some (.lck, _) => rfl
        | some (.shr, _), _ => match a with
          | none => rfl
          | some (.own, _) => rfl
          | some (.io, _) => rfl
          | some (.shr, _) => rfl
          | some (.brw, _) => rfl
          | some (.lck, _) => rfl
        | some (.brw, _), _ => match a with
          | none => rfl
          | some (.own, _) => rfl
          | some (.io, _) => rfl
          | some (.shr, _) => rfl
          | some (.brw, _) => rfl
          | some (.lck, _) => rfl
  -- the unlocked slot
  have at_i : ∀ (m : Md) (d : D), env[i]? = some (some (m, d)) → m.mut = true → e2[i]? = some (some (.lck, d)) ∧ σ2[i]? = σ[i]? ∧ (DL.unlock env e2)[i]? = some (some (m, d)) ∧ backF env Fs F2 i i = Fs i := fun m d e hm => by
    have q := s.lk i d (by
      rw [lock_at, if_pos rfl, e]
      cases m <;> first | rfl | cases hm)
    refine ⟨q.1, q.2, ?_, ?_⟩
    · rw [un, e, q.1]
      cases m <;> first | rfl | cases hm
    · rw [backF_same, e]
      cases m <;> first | rfl | cases hm
  have dec : (∃ m d, env[i]? = some (some (m, d)) ∧ m.mut = true) ∨ ∀ d, env[i]? ≠ some (some (.own, d)) ∧ env[i]? ≠ some (some (.io, d)) := by
    by_cases h : ∃ m d, env[i]? = some (some (m, d)) ∧ m.mut = true
    · exact .inl h
    · exact .inr fun d => ⟨fun e => h ⟨.own, d, e, rfl⟩, fun e => h ⟨.io, d, e, rfl⟩⟩
  have back_else : (∀ d, env[i]? ≠ some (some (.own, d)) ∧ env[i]? ≠ some (some (.io, d))) → backF env Fs F2 i i = F2 i := fun h => by
    rw [backF_same]
    split
    · rename_i d q; exact absurd q (h d).1
    · rename_i d q; exact absurd q (h d).2
    · rfl
  refine ⟨s.zz, fun a o e n => s.ext a o e fun m => n (hp a m).1, ⟨sb2, gl.sz, ?_, fun j => ?_, fun j => ?_, fun j k a m n => ?_, fun j a m => ?_, gl.z0⟩, fun a m => ?_, fun a m => ?_, fun j d e => ?_, fun j d e => ?_, fun j d e => ?_, fun j d e => ?_, ?_⟩
  · unfold DL.unlock
    rw [List.length_zipWith, ln2, ← ln2, Nat.min_self]
    exact gl.len
  · by_cases hj : j = i
    · subst hj
      rcases dec with ⟨m, d, e, hm⟩ | h
      · obtain ⟨q1, q2, q3, q4⟩ := at_i m d e hm
        rw [q3, q4, q2]
        have h0 := g.sl j
        rw [e] at h0
        have kk : ∀ (a : Addr) (u : HO), H a = some u → (a ∈ Fs j ∨ Still u) → H2 a = some u := fun a u e m => by
          rcases m with m | nm
          · exact keepi a u m e
          · exact keept a u e nm
        cases m with
        | own => obtain ⟨v, ev, hv⟩ := h0; exact ⟨v, ev, Own.keep s.zz d v _ kk hv⟩
        | io => obtain ⟨v, ev, hv⟩ := h0; exact ⟨v, ev, Own.keep s.zz d v _ kk hv⟩
        | shr => cases hm
        | brw => cases hm
        | lck => cases hm
      · obtain ⟨q1, q2⟩ := same_at j (.inr h)
        rw [q1, back_else h]
        exact seen j q2
    · obtain ⟨q1, q2⟩ := same_at j (.inl hj)
      rw [q1, backF_ne hj]
      exact seen j q2
  · by_cases hj : j = i
    · subst hj
      rcases dec with ⟨m, d, e, hm⟩ | h
      · rw [(at_i m d e hm).2.2.2]; exact g.nd j
      · rw [back_else h]; exact gl.nd j
    · rw [backF_ne hj]; exact gl.nd j
  · rcases backF_mem m with ⟨ej, m2⟩ | m2
    · rcases backF_mem n with ⟨ek, n2⟩ | n2
      · rw [ej, ek]
      · exact absurd n2 (ndi a m2 k)
    · rcases backF_mem n with ⟨ek, n2⟩ | n2
      · exact absurd m2 (ndi a n2 j)
      · exact gl.dj j k a m2 n2
  · rcases backF_mem m with ⟨rfl, m⟩ | m
    · exact ⟨(g.fr j a m).1, frz2 a m⟩
    · have q := gl.fr j a m
      refine ⟨?_, q.2⟩
      cases h : B a with
      | none => rfl
      | some u =>
        have := lockB_up g i a u h
        rw [this] at q
        cases q.1
  · obtain ⟨j, m⟩ := m
    rcases backF_mem m with ⟨rfl, m⟩ | m
    · exact .inr (hi a m)
    · rcases s.new a ⟨j, m⟩ with z | z
      · exact .inl z
      · exact .inr (hp a z).1
  · rcases s.newz a m with z | z | z
    · exact .inl z
    · exact .inr (.inl z)
    · exact .inr (.inr (hp a z).1)
  · by_cases hj : j = i
    · subst hj
      obtain ⟨q1, q2, q3, q4⟩ := at_i .io d e rfl
      exact ⟨⟨d, q3⟩, q2⟩
    · obtain ⟨⟨d', q⟩, es⟩ := s.io j d (by rw [lke j hj]; exact e)
      exact ⟨⟨d', by rw [(same_at j (.inl hj)).1]; exact q⟩, es⟩
  · have nm : ∀ d', env[j]? ≠ some (some (.own, d')) ∧ env[j]? ≠ some (some (.io, d')) := fun d' => by rw [e]; exact ⟨fun z => (by cases z), fun z => (by cases z)⟩
    have q := s.lk j d (by
      by_cases hj : j = i
      · subst hj; rw [lock_none nm]; exact e
      · rw [lke j hj]; exact e)
    refine ⟨?_, q.2⟩
    by_cases hj : j = i
    · subst hj; rw [(same_at j (.inr nm)).1]; exact q.1
    · rw [(same_at j (.inl hj)).1]; exact q.1
  · by_cases hj : j = i
    · subst hj
      rcases dec with ⟨m, d', e', hm⟩ | h
      · rw [(at_i m d' e' hm).2.2.1] at e
        cases e
        cases hm
      · rw [(same_at j (.inr h)).1] at e
        have q := s.bw j d e
        rw [lock_none h] at q
        exact q
    · rw [(same_at j (.inl hj)).1] at e
      have q := s.bw j d e
      rw [lke j hj] at q
      exact q
  · by_cases hj : j = i
    · subst hj
      rcases dec with ⟨m, d', e', hm⟩ | h
      · rw [(at_i m d' e' hm).2.2.1] at e
        cases e
        cases hm
      · rw [(same_at j (.inr h)).1] at e
        have q := s.lb j d e
        rw [lock_none h] at q
        exact q
    · rw [(same_at j (.inl hj)).1] at e
      have q := s.lb j d e
      rw [lke j hj] at q
      exact q
  · unfold DL.unlock
    rw [List.length_zipWith, ln2, Nat.min_self]
end
end DL

namespace DL
open PySem PySem.Spec PyProof.Rows L2

abbrev Wsh := Str → Hp → Prop

/-- behind an evaluation: the state, and what it hands on (the value, and what io arguments have become) -/
structure Post (G : Gc) (B Z H : Hp) (σ : L2.St) (env : DEnv) (P : Addr → Prop) (Z' H' : Hp) (env' : DEnv) (Fs' : Nat → List Addr) (ds : List D) (vs : List V) (F : List Addr) : Prop where
  st : Stp G B Z H σ env P Z' H' σ env' Fs'
  own : OwnL G Z' H' ds vs F
  nd : F.Nodup
  dj : ∀ a, a ∈ F → ¬ InF Fs' a
  fr : ∀ a, a ∈ F → B a = none ∧ Z' a = none
  new : ∀ a, a ∈ F → H a = none ∨ P a

def FinO (G : Gc) (W : Wsh) (B Z H : Hp) (σ : L2.St) (env : DEnv) (P : Addr → Prop) (ios : List V) (o : Out (D × List D × DEnv)) (Q : VK) : Prop := match o with
  | .ok (d, outs, env') => ∀ v Z' H' Fs' F, Post G B Z H σ env P Z' H' env' Fs' (d :: outs) (v :: ios) F → Q v H'
  | .exc c => ∀ H', Same B H' → W c H'
  | .bad => False
def FinV (G : Gc) (W : Wsh) (B Z H : Hp) (σ : L2.St) (env : DEnv) (P : Addr → Prop) (o : Out (D × DEnv)) (Q : VK) : Prop := match o with
  | .ok (d, env') => ∀ v Z' H' Fs' F, Post G B Z H σ env P Z' H' env' Fs' [d] [v] F → Q v H'
  | .exc c => ∀ H', Same B H' → W c H'
  | .bad => False
/-- an expression that hands on a value of its own -/
def TV (G : Gc) (W : Wsh) (f : DEnv → Out (D × DEnv)) : TE := fun σ H Q => ∃ B Z Fs env, Good G B Z H σ env Fs ∧ FinV G W B Z H σ env (InF Fs) (f env) Q
/-- an expression that changes nothing that stands, and hands on pure data -/
def TPur (G : Gc) (h : DEnv → Option D) : TE := fun σ H Q => ∃ B Z Fs env, Good G B Z H σ env Fs ∧ ∃ d, h env = some d ∧ ∀ v H', Same H H' → d.pure = true → (∀ Z', Own G Z' H' d v []) → Q v H'
/-- a place in slot i: read -/
def TPlc (G : Gc) (i : Nat) (g : DEnv → Option D) : TE := fun σ H Q => ∃ B Z Fs env, Good G B Z H σ env Fs ∧ ∃ d, g env = some d ∧ ∀ v H', Same H H' → Own G (joi (lockB B H' Fs i) Z) H' d v [] → Q v H'
/-- slot j's own value, handed over for a while -/
def TIo (j : Nat) : TE := tVar j

theorem _root_.L2.PE.imp {X : Cx} {e : Expr} {t t' : TE} (h : PE X e t) (i : ∀ σ H Q, t' σ H Q → t σ H Q) : PE X e t' := ⟨fun pins s σ H Q I hq => h.run pins s σ H Q I (i σ H Q hq)⟩

/-- a whole number -/
def TInt (G : Gc) (h : DEnv → Option D) : TE := fun σ H Q => ∃ B Z Fs env, Good G B Z H σ env Fs ∧ ∃ i, h env = some (.int i) ∧ ∀ H', Same H H' → Q (.int i) H'
def onlyInt : D → Option D
  | .int i => some (.int i)
  | _ => none
theorem onlyInt_some {d e : D} (h : onlyInt d = some e) : ∃ i, d = .int i ∧ e = .int i := by
  cases d <;> first | (cases h; exact ⟨_, rfl, rfl⟩) | cases h
/-- .. of a kind -/
def TPlcT (G : Gc) (i : Nat) (g : DEnv → Option D) (T : D → Bool) : TE := fun σ H Q => ∃ B Z Fs env, Good G B Z H σ env Fs ∧ ∃ d, g env = some d ∧ T d = true ∧ ∀ v H', Same H H' → Own G (joi (lockB B H' Fs i) Z) H' d v [] → Q v H'
def TPurT (G : Gc) (h : DEnv → Option D) (T : D → Bool) : TE := fun σ H Q => ∃ B Z Fs env, Good G B Z H σ env Fs ∧ ∃ d, h env = some d ∧ T d = true ∧ ∀ v H', Same H H' → d.pure = true → (∀ Z', Own G Z' H' d v []) → Q v H'
inductive SArg where
  | pur (h : DEnv → Option D)
  | plc (i : Nat) (g : DEnv → Option D)
  | int (h : DEnv → Option D)
  | plt (i : Nat) (g : DEnv → Option D) (T : D → Bool)
  | put (h : DEnv → Option D) (T : D → Bool)
def onlyT (T : D → Bool) (d : D) : Option D := if T d = true then some d else none
theorem onlyT_some {T : D → Bool} {d e : D} (h : onlyT T d = some e) : d = e ∧ T d = true := by
  unfold onlyT at h
  split at h
  · rename_i ht; exact ⟨Option.some.inj h, ht⟩
  · cases h
def SArg.val : SArg → DEnv → Option D
  | .pur h => h
  | .plc _ g => g
  | .int h => fun env => match h env with
    | some d => onlyInt d
    | none => none
  | .plt _ g T => fun env => match g env with
    | some d => onlyT T d
    | none => none
  | .put h T => fun env => match h env with
    | some d => onlyT T d
    | none => none
def SArg.te (G : Gc) : SArg → TE
  | .pur h => TPur G h
  | .plc i g => TPlc G i g
  | .int h => TInt G h
  | .plt i g T => TPlcT G i g T
  | .put h T => TPurT G h T
theorem TV.mono {G : Gc} {W : Wsh} {f : DEnv → Out (D × DEnv)} {σ : L2.St} {H : Hp} {Q Q' : VK} (h : ∀ v H, Q v H → Q' v H) (t : TV G W f σ H Q) : TV G W f σ H Q' := by
  obtain ⟨B, Z, Fs, env, g, q⟩ := t
  refine ⟨B, Z, Fs, env, g, ?_⟩
  unfold FinV at q ⊢
  match f env, q with
  | .ok (d, e), q => exact fun v Z' H' Fs' F p => h _ _ (q v Z' H' Fs' F p)
  | .exc c, q => exact q
theorem SArg.mono {G : Gc} {a : SArg} {σ : L2.St} {H : Hp} {Q Q' : VK} (h : ∀ v H, Q v H → Q' v H) (t : a.te G σ H Q) : a.te G σ H Q' := by
  cases a with
  | pur f => obtain ⟨B, Z, Fs, env, g, d, hd, q⟩ := t; exact ⟨B, Z, Fs, env, g, d, hd, fun v H' hs hp ho => h _ _ (q v H' hs hp ho)⟩
  | plc i f => obtain ⟨B, Z, Fs, env, g, d, hd, q⟩ := t; exact ⟨B, Z, Fs, env, g, d, hd, fun v H' hs ho => h _ _ (q v H' hs ho)⟩
  | int f => obtain ⟨B, Z, Fs, env, g, d, hd, q⟩ := t; exact ⟨B, Z, Fs, env, g, d, hd, fun H' hs => h _ _ (q H' hs)⟩
  | plt i f T => obtain ⟨B, Z, Fs, env, g, d, hd, ht, q⟩ := t; exact ⟨B, Z, Fs, env, g, d, hd, ht, fun v H' hs ho => h _ _ (q v H' hs ho)⟩
  | put f T => obtain ⟨B, Z, Fs, env, g, d, hd, ht, q⟩ := t; exact ⟨B, Z, Fs, env, g, d, hd, ht, fun v H' hs hp ho => h _ _ (q v H' hs hp ho)⟩
/-- arguments that change nothing -/
def evS : List SArg → DEnv → Option (List D)
  | [], _ => some []
  | a :: r, env => match a.val env with
    | some d => match evS r env with
      | some ds => some (d :: ds)
      | none => none
    | none => none
/-- what must be there -/
def must {α β : Type} (x : Option α) (f : α → Out β) : Out β := match x with
  | some a => f a
  | none => .bad
@[simp] theorem must_some {α β : Type} (a : α) (f : α → Out β) : must (some a) f = f a := rfl
@[simp] theorem must_none {α β : Type} (f : α → Out β) : must none f = .bad := rfl
inductive Chn where
  | fin (hs : List SArg)
  | own (f : DEnv → Out (D × DEnv)) (c : Chn)
  | pur (h : DEnv → Option D) (c : Chn)
  | plc (i : Nat) (g : DEnv → Option D) (c : Chn)
  | io (j : Nat) (c : Chn)
def Chn.tes (G : Gc) (W : Wsh) : Chn → List TE
  | .fin hs => hs.map (SArg.te G)
  | .own f c => TV G W f :: c.tes G W
  | .pur h c => TPur G h :: c.tes G W
  | .plc i g c => TPlc G i g :: c.tes G W
  | .io j c => TIo j :: c.tes G W
/-- which arguments are changed -/
def Chn.iofs : Chn → List Bool
  | .fin hs => hs.map fun _ => false
  | .own _ c => false :: c.iofs
  | .pur _ c => false :: c.iofs
  | .plc _ _ c => false :: c.iofs
  | .io _ c => true :: c.iofs
/-- their values, the last one first -/
def ioV : List Bool → List V → List V
  | true :: fl, v :: vs => ioV fl vs ++ [v]
  | false :: fl, _ :: vs => ioV fl vs
  | _, _ => []
theorem ioV_snoc : ∀ (fl : List Bool) (vs : List V) (b : Bool) (v : V), fl.length = vs.length → ioV (fl ++ [b]) (vs ++ [v]) = if b = true then v :: ioV fl vs else ioV fl vs
  | [], [], true, v, _ => rfl
  | [], [], false, v, _ => rfl
  | true :: fl, w :: vs, b, v, h => by
    show ioV (fl ++ [b]) (vs ++ [v]) ++ [w] = _
    rw [ioV_snoc fl vs b v (by simpa using h)]
    cases b <;> rfl
  | false :: fl, w :: vs, b, v, h => by
    show ioV (fl ++ [b]) (vs ++ [v]) = _
    rw [ioV_snoc fl vs b v (by simpa using h)]
    cases b <;> rfl
theorem ioV_none : ∀ (fl : List Bool) (vs : List V), fl.any id = false → ioV fl vs = []
  | [], _, _ => by unfold ioV; rfl
  | true :: fl, _, h => by simp at h
  | false :: fl, [], _ => rfl
  | false :: fl, v :: vs, h => by
    show ioV fl vs = []
    exact ioV_none fl vs (by simpa using h)
theorem ioV_false : ∀ (fl : List Bool) (vs us : List V) (n : Nat), fl.length = vs.length → ioV (fl ++ List.replicate n false) (vs ++ us) = ioV fl vs
  | [], [], us, n, _ => by
    show ioV (List.replicate n false) us = []
    exact ioV_none _ _ (by simp)
  | true :: fl, w :: vs, us, n, h => by
    show ioV (fl ++ List.replicate n false) (vs ++ us) ++ [w] = ioV fl vs ++ [w]
    rw [ioV_false fl vs us n (by simpa using h)]
  | false :: fl, w :: vs, us, n, h => by
    show ioV (fl ++ List.replicate n false) (vs ++ us) = ioV fl vs
    rw [ioV_false fl vs us n (by simpa using h)]
/-- how an argument comes: owned, or only read -/
def SArg.kinds : List SArg → List Bool
  | [] => []
  | .pur _ :: r => true :: SArg.kinds r
  | .int _ :: r => true :: SArg.kinds r
  | .plc _ _ :: r => false :: SArg.kinds r
  | .plt _ _ _ :: r => false :: SArg.kinds r
  | .put _ _ :: r => true :: SArg.kinds r
def Chn.kinds : Chn → List Bool
  | .fin hs => SArg.kinds hs
  | .own _ c => true :: c.kinds
  | .pur _ c => true :: c.kinds
  | .plc _ _ c => false :: c.kinds
  | .io _ c => true :: c.kinds
abbrev Kn := List D → DEnv → Out (D × List D × DEnv)
def evC : Chn → Kn → DEnv → Out (D × List D × DEnv)
  | .fin hs, k, env => must (evS hs env) fun ds => k ds env
  | .own f c, k, env => f env >>= fun p => evC c (fun ds e => k (p.1 :: ds) e) p.2
  | .pur h c, k, env => must (h env) fun d => evC c (fun ds e => k (d :: ds) e) env
  | .plc i g c, k, env => must (g env) fun d => evC c (fun ds e => k (d :: ds) e) (lock i env) >>= fun q => .ok (q.1, q.2.1, unlock env q.2.2)
  | .io j c, k, env => match env[j]? with
    | some (some (m, d)) => if m.mut = true then evC c (fun ds e => k (d :: ds) e) (env.set j none) >>= fun q => match q.2.1 with
        | o :: os => .ok (q.1, os, q.2.2.set j (some (m, o)))
        | [] => .bad
      else .bad
    | _ => .bad
def seqTE : List TE → L2.St → Hp → (List V → Hp → Prop) → Prop
  | [] => tNil
  | t :: ts => tCons t (seqTE ts)

/-- values at hand: owned ones (in Z), and such as are read in Y -/
def OwnT (G : Gc) (Y Z H : Hp) : List (Bool × D) → List V → List Addr → Prop
  | [], vs, F => vs = [] ∧ F = []
  | (o, d) :: r, vs, F => ∃ v rest F1 F2, vs = v :: rest ∧ F = F1 ++ F2 ∧ (match o with
      | true => Own G Z H d v F1
      | false => Own G Y H d v [] ∧ F1 = []) ∧ OwnT G Y Z H r rest F2

section
variable {G : Gc} {W : Wsh} {B Z H Z' H' Y Y' : Hp} {σ : L2.St} {env env' : DEnv} {Fs Fs' : Nat → List Addr} {P P' P1 : Addr → Prop}
theorem OwnT.snoc : ∀ {its : List (Bool × D)} {vs : List V} {F F1 : List Addr} {o : Bool} {d : D} {v : V}, OwnT G Y Z H its vs F → (match o with
      | true => Own G Z H d v F1
      | false => Own G Y H d v [] ∧ F1 = []) → OwnT G Y Z H (its ++ [(o, d)]) (vs ++ [v]) (F ++ F1)
  | [], vs, F, F1, o, d, v, h, h1 => by
    obtain ⟨rfl, rfl⟩ := h
    exact ⟨v, [], F1, [], rfl, by simp, h1, rfl, rfl⟩
  | (o', d') :: r, vs, F, F1, o, d, v, h, h1 => by
    obtain ⟨v', rest, F2, F3, rfl, rfl, h2, h3⟩ := h
    exact ⟨v', rest ++ [v], F2, F3 ++ F1, rfl, by rw [List.append_assoc], h2, OwnT.snoc h3 h1⟩
theorem OwnT.keep (hy : Same Y Y') (hz : Same Z Z') : ∀ {its : List (Bool × D)} {vs : List V} {F : List Addr}, (∀ b u, H b = some u → (b ∈ F ∨ Still u) → H' b = some u) → OwnT G Y Z H its vs F → OwnT G Y' Z' H' its vs F
  | [], _, _, _, h => h
  | (o, d) :: r, vs, F, k, h => by
    obtain ⟨v', rest, F2, F3, rfl, rfl, h2, h3⟩ := h
    refine ⟨v', rest, F2, F3, rfl, rfl, ?_, OwnT.keep hy hz (fun b u e m => k b u e (m.imp (fun z => List.mem_append_right _ z) id)) h3⟩
    cases o with
    | true => exact Own.keep hz d v' F2 (fun b u e m => k b u e (m.imp (fun z => List.mem_append_left _ z) id)) h2
    | false => exact ⟨Own.keep hy d v' [] (fun b u e m => k b u e (m.imp (fun z => by cases z) id)) h2.1, h2.2⟩
theorem OwnT.dom : ∀ {its : List (Bool × D)} {vs : List V} {F : List Addr}, OwnT G Y Z H its vs F → ∀ a ∈ F, ∃ o, H a = some o ∧ Mut (some o)
  | [], _, _, h => fun a m => by rw [h.2] at m; cases m
  | (o, d) :: r, vs, F, h => by
    obtain ⟨v', rest, F2, F3, rfl, rfl, h2, h3⟩ := h
    intro a m
    rcases List.mem_append.mp m with m | m
    · cases o with
      | true => exact Own.dom d v' F2 h2 a m
      | false => rw [h2.2] at m; cases m
    · exact OwnT.dom h3 a m
/-- all are read in the whole heap -/
theorem OwnT.reps (hy : Same Y H) (hz : Same Z H) : ∀ {its : List (Bool × D)} {vs : List V} {F : List Addr}, OwnT G Y Z H its vs F → OwnL G H H (its.map (·.2)) vs []
  | [], _, _, h => ⟨h.1, rfl⟩
  | (o, d) :: r, vs, F, h => by
    obtain ⟨v', rest, F2, F3, rfl, rfl, h2, h3⟩ := h
    refine OwnL.cons_nil ?_ (OwnT.reps hy hz h3)
    cases o with
    | true => exact Own.rep hz d v' F2 h2
    | false => exact Own.rep hy d v' [] h2.1
theorem OwnT.vlen : ∀ {its : List (Bool × D)} {vs : List V} {F : List Addr}, OwnT G Y Z H its vs F → vs.length = its.length
  | [], _, _, h => by rw [h.1]; rfl
  | (o, d) :: r, vs, F, h => by
    obtain ⟨v', rest, F2, F3, rfl, rfl, h2, h3⟩ := h
    rw [List.length_cons, List.length_cons, OwnT.vlen h3]

/-- the values at hand, apart from all else -/
structure Hand (G : Gc) (B Z H Y : Hp) (Fs : Nat → List Addr) (its : List (Bool × D)) (vs : List V) (T : List Addr) : Prop where
  own : OwnT G Y Z H its vs T
  nd : T.Nodup
  dj : ∀ a, a ∈ T → ¬ InF Fs a
  fr : ∀ a, a ∈ T → B a = none ∧ Z a = none
def PT_ (Fs : Nat → List Addr) (T : List Addr) : Addr → Prop := fun a => InF Fs a ∨ a ∈ T
theorem Hand.pm {its : List (Bool × D)} {vs : List V} {T : List Addr} (h : Hand G B Z H Y Fs its vs T) (g : Good G B Z H σ env Fs) : PMut H (PT_ Fs T) := fun a m => m.elim (fun z => g.dom z) fun z => h.own.dom a z
/-- what is wanted at the end, seen from further on -/
theorem FinO.later {Z1 H1 : Hp} {env1 : DEnv} {Fs1 : Nat → List Addr} {ios : List V} {o : Out (D × List D × DEnv)} {Q : VK} (s : Stp G B Z H σ env P Z1 H1 σ env1 Fs1) (hp : ∀ a, P1 a → H a = none ∨ P a) (h : FinO G W B Z H σ env P ios o Q) : FinO G W B Z1 H1 σ env1 P1 ios o Q := by
  unfold FinO at h ⊢
  match o, h with
  | .ok (d, outs, env'), h =>
    intro v Z' H' Fs' F p
    refine h v Z' H' Fs' F ⟨s.trans hp p.st, p.own, p.nd, p.dj, p.fr, fun a m => ?_⟩
    rcases p.new a m with z | z
    · cases q : H a with
      | none => exact .inl rfl
      | some u =>
        refine .inr ?_
        by_cases n : P a
        · exact n
        · have := s.ext a u q n
          rw [z] at this; cases this
    · exact hp a z
  | .exc c, h => exact h
/-- a lock behind -/
theorem FinO.unlock {i : Nat} {ios : List V} {o : Out (D × List D × DEnv)} {Q : VK} (g : Good G B Z H σ env Fs) (pm : PMut H P') (hp : ∀ a, P' a → P a ∧ a ∉ Fs i) (hi : ∀ a, a ∈ Fs i → P a)
    (h : FinO G W B Z H σ env P ios (o >>= fun q => .ok (q.1, q.2.1, DL.unlock env q.2.2)) Q) : FinO G W (lockB B H Fs i) Z H σ (DL.lock i env) P' ios o Q := by
  unfold FinO at h ⊢
  match o, h with
  | .ok (d, outs, env'), h =>
    intro v Z' H' Fs' F p
    refine h v Z' H' (backF env Fs Fs' i) F ⟨p.st.unlock g pm hp hi, p.own, p.nd, fun a m n => ?_, fun a m => ?_, fun a m => (p.new a m).imp id fun z => (hp a z).1⟩
    · obtain ⟨j, n⟩ := n
      rcases backF_mem n with ⟨_, n⟩ | n
      · have q := (p.fr a m).1
        unfold lockB at q
        rw [lay_in n] at q
        obtain ⟨u, e, _⟩ := g.dom ⟨i, n⟩
        rw [e] at q; cases q
      · exact p.dj a m ⟨j, n⟩
    · refine ⟨?_, (p.fr a m).2⟩
      cases q : B a with
      | none => rfl
      | some u =>
        have := lockB_up g i a u q
        rw [(p.fr a m).1] at this
        cases this
  | .exc c, h => exact fun H' hs => h H' ((lockB_up g i).trans hs)

/-- slot j's value taken out -/
theorem Good.take (g : Good G B Z H σ env Fs) (j : Nat) : Good G B Z H σ (env.set j none) (offF Fs j) where
  sb := g.sb
  sz := g.sz
  z0 := g.z0
  len := by rw [List.length_set]; exact g.len
  sl := fun i => by
    by_cases e : j = i
    · subst e
      have eo : offF Fs j j = [] := by unfold offF; rw [if_pos rfl]
      rw [eo, List.getElem?_set_self']
      cases env[j]? <;> rfl
    · have eo : offF Fs j i = Fs i := by unfold offF; rw [if_neg (fun z => e z.symm)]
      rw [eo, List.getElem?_set_ne e]
      exact g.sl i
  nd := fun i => by unfold offF; split; exact List.nodup_nil; exact g.nd i
  dj := fun i k a m n => by
    unfold offF at m n
    split at m
    · cases m
    · split at n
      · cases n
      · exact g.dj i k a m n
  fr := fun i a m => by
    unfold offF at m
    split at m
    · cases m
    · exact g.fr i a m
/-- slot j given a value of its own that stands where its name points -/
theorem Good.give {m : Md} {d : D} {v : V} {F : List Addr} {j : Nat} (g : Good G B Z H σ env Fs) (hm : m.mut = true) (hv : σ[j]? = some (some v)) (hl : j < env.length) (t : Tm G B Z H (InF Fs) d v F) : Good G B Z H σ (env.set j (some (m, d))) (onF Fs j F) where
  sb := g.sb
  sz := g.sz
  z0 := g.z0
  len := by rw [List.length_set]; exact g.len
  sl := fun i => by
    by_cases e : j = i
    · subst e
      have eo : onF Fs j F j = F := by unfold onF; rw [if_pos rfl]
      rw [eo, List.getElem?_set_self hl]
      cases m with
      | own => exact ⟨v, hv, t.own⟩
      | io => exact ⟨v, hv, t.own⟩
      | shr => cases hm
      | brw => cases hm
      | lck => cases hm
    · have eo : onF Fs j F i = Fs i := by unfold onF; rw [if_neg (fun z => e z.symm)]
      rw [eo, List.getElem?_set_ne e]
      exact g.sl i
  nd := fun i => by unfold onF; split; exact t.nd; exact g.nd i
  dj := fun i k a m n => by
    unfold onF at m n
    split at m
    · split at n
      · rename_i e1 e2; rw [e1, e2]
      · exact absurd ⟨k, n⟩ (t.dj a m)
    · split at n
      · exact absurd ⟨i, m⟩ (t.dj a n)
      · exact g.dj i k a m n
  fr := fun i a m => by
    unfold onF at m
    split at m
    · exact t.fr a m
    · exact g.fr i a m
end

theorem cut_mono {H H' : Hp} {T : List Addr} (h : Same H H') : Same (cut H T) (cut H' T) := fun a u e => by
  unfold cut at e ⊢
  split at e
  · cases e
  · rename_i n
    rw [if_neg n]
    exact h _ _ e
/-- arguments that change nothing, read from the left -/
theorem evS_ok {G : Gc} {T_ : List Addr} {B Z : Hp} {σ : L2.St} {env : DEnv} {Fs : Nat → List Addr} (hT : ∀ a, a ∈ T_ → ¬ InF Fs a ∧ B a = none ∧ Z a = none) :
    ∀ (hs : List SArg) (ds : List D) (H : Hp) (R : List V → Hp → Prop), Good G B Z H σ env Fs → evS hs env = some ds → (∀ vs H', Same H H' → OwnT G (cut H' T_) Z H' ((SArg.kinds hs).zip ds) vs [] → ds.length = hs.length → R vs H') → seqTE (hs.map (SArg.te G)) σ H R
  | [], ds, H, R, g, e, h => by
    have e : some [] = some ds := e
    cases e
    exact h [] H (Same.refl H) ⟨rfl, rfl⟩ rfl
  | a :: r, ds, H, R, g, e, h => by
    have e : (match a.val env with
      | some d => match evS r env with
        | some ds => some (d :: ds)
        | none => none
      | none => none) = some ds := e
    cases ha : a.val env with
    | none => rw [ha] at e; cases e
    | some d =>
      rw [ha] at e
      cases hr : evS r env with
      | none => rw [hr] at e; cases e
      | some ds' =>
        rw [hr] at e
        cases e
        have go : ∀ (v : V) (o : Bool) (H1 : Hp), Same H H1 → (SArg.kinds (a :: r)) = o :: SArg.kinds r → (match o with
            | true => Own G Z H1 d v []
            | false => Own G (cut H1 T_) H1 d v [] ∧ ([] : List Addr) = []) → seqTE (r.map (SArg.te G)) σ H1 (fun xs H2 => R (v :: xs) H2) := fun v o H1 hs1 ek hv =>
          evS_ok hT r ds' H1 _ (g.grow hs1) hr fun vs H2 hs2 hvs hl => h (v :: vs) H2 (hs1.trans hs2) (by
            rw [ek]
            refine ⟨v, vs, [], [], rfl, rfl, ?_, hvs⟩
            cases o with
            | true => exact Own.keep (Same.refl Z) d v [] (fun b u e _ => hs2 b u e) hv
            | false => exact ⟨Own.keep (cut_mono hs2) d v [] (fun b u e _ => hs2 b u e) hv.1, rfl⟩) (by rw [List.length_cons, List.length_cons, hl])
        cases a with
        | pur f =>
          refine ⟨B, Z, Fs, env, g, d, ha, fun v H1 hs1 hp hv => ?_⟩
          exact go v true H1 hs1 rfl (hv Z)
        | int f =>
          have ha : (match f env with
            | some d => onlyInt d
            | none => none) = some d := ha
          cases hf : f env with
          | none => rw [hf] at ha; cases ha
          | some d0 =>
            rw [hf] at ha
            obtain ⟨n, rfl, rfl⟩ := onlyInt_some ha
            exact ⟨B, Z, Fs, env, g, n, hf, fun H1 hs1 => go (.int n) true H1 hs1 rfl ⟨rfl, rfl⟩⟩
        | put f T =>
          have ha : (match f env with
            | some d => onlyT T d
            | none => none) = some d := ha
          cases hf : f env with
          | none => rw [hf] at ha; cases ha
          | some d0 =>
            rw [hf] at ha
            obtain ⟨rfl, ht⟩ := onlyT_some ha
            refine ⟨B, Z, Fs, env, g, d0, hf, ht, fun v H1 hs1 hp hv => ?_⟩
            exact go v true H1 hs1 rfl (hv Z)
        | plt i f T =>
          have ha : (match f env with
            | some d => onlyT T d
            | none => none) = some d := ha
          cases hf : f env with
          | none => rw [hf] at ha; cases ha
          | some d0 =>
            rw [hf] at ha
            obtain ⟨rfl, ht⟩ := onlyT_some ha
            refine ⟨B, Z, Fs, env, g, d0, hf, ht, fun v H1 hs1 hv => ?_⟩
            refine go v false H1 hs1 rfl ⟨Own.keep (fun a u e => ?_) d0 v [] (fun _ _ e _ => e) hv, rfl⟩
            have hH : H1 a = some u := joi_le (lockB_le (g.grow hs1) i) (g.grow hs1).sz a u e
            have hn : a ∉ T_ := fun m => by
              obtain ⟨n, b, z⟩ := hT a m
              have : joi (lockB B H1 Fs i) Z a = none := joi_none (by unfold lockB; rw [lay_out (fun q => n ⟨i, q⟩)]; exact b) z
              rw [this] at e; cases e
            rw [cut_out hn]
            exact hH
        | plc i f =>
          refine ⟨B, Z, Fs, env, g, d, ha, fun v H1 hs1 hv => ?_⟩
          refine go v false H1 hs1 rfl ⟨Own.keep (fun a u e => ?_) d v [] (fun _ _ e _ => e) hv, rfl⟩
          have hH : H1 a = some u := joi_le (lockB_le (g.grow hs1) i) (g.grow hs1).sz a u e
          have hn : a ∉ T_ := fun m => by
            obtain ⟨n, b, z⟩ := hT a m
            have : joi (lockB B H1 Fs i) Z a = none := joi_none (by unfold lockB; rw [lay_out (fun q => n ⟨i, q⟩)]; exact b) z
            rw [this] at e; cases e
          rw [cut_out hn]
          exact hH

/-- an operation on values at hand, as a function on data: fl tells the arguments that it changes and hands back, bs which are owned -/
def KOk (G : Gc) (W : Wsh) (fl : List Bool) (bs : List Bool) (r : List V → Hp → VK → Prop) (k : Kn) : Prop :=
  ∀ (B Z H : Hp) (σ : L2.St) (env : DEnv) (Fs : Nat → List Addr) (its : List (Bool × D)) (vs : List V) (T : List Addr) (ios : List V) (Q : VK), Good G B Z H σ env Fs → Hand G B Z H (cut H T) Fs its vs T → its.map (·.1) = bs → ios = ioV fl vs →
    FinO G W B Z H σ env (PT_ Fs T) ios (k (its.map (·.2)) env) Q → r vs H Q

theorem map_fst_zip {α β : Type} : ∀ (l : List α) (m : List β), l.length ≤ m.length → (l.zip m).map (·.1) = l
  | [], _, _ => rfl
  | a :: l, [], h => by simp at h
  | a :: l, b :: m, h => by
    show a :: (l.zip m).map (·.1) = a :: l
    rw [map_fst_zip l m (by simpa using h)]
theorem map_snd_zip {α β : Type} : ∀ (l : List α) (m : List β), m.length ≤ l.length → (l.zip m).map (·.2) = m
  | [], [], _ => rfl
  | [], b :: m, h => by simp at h
  | a :: l, [], _ => rfl
  | a :: l, b :: m, h => by
    show b :: (l.zip m).map (·.2) = b :: m
    rw [map_snd_zip l m (by simpa using h)]
theorem SArg.kinds_length : ∀ hs : List SArg, (SArg.kinds hs).length = hs.length
  | [] => rfl
  | .pur _ :: r => by show (SArg.kinds r).length + 1 = r.length + 1; rw [SArg.kinds_length r]
  | .int _ :: r => by show (SArg.kinds r).length + 1 = r.length + 1; rw [SArg.kinds_length r]
  | .plc _ _ :: r => by show (SArg.kinds r).length + 1 = r.length + 1; rw [SArg.kinds_length r]
  | .plt _ _ _ :: r => by show (SArg.kinds r).length + 1 = r.length + 1; rw [SArg.kinds_length r]
  | .put _ _ :: r => by show (SArg.kinds r).length + 1 = r.length + 1; rw [SArg.kinds_length r]
theorem OwnT.app {G : Gc} {Y Z H : Hp} : ∀ {its js : List (Bool × D)} {vs us : List V} {F F1 : List Addr}, OwnT G Y Z H its vs F → OwnT G Y Z H js us F1 → OwnT G Y Z H (its ++ js) (vs ++ us) (F ++ F1)
  | [], js, vs, us, F, F1, h, h1 => by
    obtain ⟨rfl, rfl⟩ := h
    exact h1
  | (o', d') :: r, js, vs, us, F, F1, h, h1 => by
    obtain ⟨v', rest, F2, F3, rfl, rfl, h2, h3⟩ := h
    exact ⟨v', rest ++ us, F2, F3 ++ F1, rfl, by rw [List.append_assoc], h2, OwnT.app h3 h1⟩

/-- THE CHAIN: arguments from the left, then the operation -/
theorem chn_ok {G : Gc} {W : Wsh} {fl bs : List Bool} {r : List V → Hp → VK → Prop} {k : Kn} (hk : KOk G W fl bs r k) {Q : VK} :
    ∀ (c : Chn) (B Z H : Hp) (σ : L2.St) (env : DEnv) (Fs : Nat → List Addr) (its : List (Bool × D)) (vs : List V) (T : List Addr) (ios : List V) (f0 : List Bool), Good G B Z H σ env Fs → Hand G B Z H (joi B Z) Fs its vs T → its.map (·.1) ++ c.kinds = bs → (f0 ++ c.iofs = fl ∧ f0.length = vs.length ∧ ios = ioV f0 vs) →
      FinO G W B Z H σ env (PT_ Fs T) ios (evC c (fun ds e => k (its.map (·.2) ++ ds) e) env) Q → seqTE (c.tes G W) σ H (fun us H1 => r (vs ++ us) H1 Q)
  | .fin hs, B, Z, H, σ, env, Fs, its, vs, T, ios, f0, g, hT, hb, hn, hF => by
    have e0 : evC (.fin hs) (fun ds e => k (its.map (·.2) ++ ds) e) env = (must (evS hs env) fun ds => k (its.map (·.2) ++ ds) env) := rfl
    rw [e0] at hF
    cases hr : evS hs env with
    | none => rw [hr] at hF; exact hF.elim
    | some ds =>
      rw [hr] at hF
      refine evS_ok (T_ := T) (fun a m => ⟨hT.dj a m, hT.fr a m⟩) hs ds H _ g hr fun us H1 hs1 hu hl => ?_
      have hlk : (SArg.kinds hs).length = ds.length := by rw [SArg.kinds_length, hl]
      have e1 : its.map (·.2) ++ ds = (its ++ (SArg.kinds hs).zip ds).map (·.2) := by rw [List.map_append, map_snd_zip _ _ (Nat.le_of_eq hlk.symm)]
      have e2 : (its ++ (SArg.kinds hs).zip ds).map (·.1) = bs := by
        rw [List.map_append, map_fst_zip _ _ (Nat.le_of_eq hlk)]
        exact hb
      have hF' : FinO G W B Z H σ env (PT_ Fs T) ios (k ((its ++ (SArg.kinds hs).zip ds).map (·.2)) env) Q := by
        rw [← e1]
        exact hF
      have hF2 : FinO G W B Z H1 σ env (PT_ Fs T) ios (k ((its ++ (SArg.kinds hs).zip ds).map (·.2)) env) Q := FinO.later (Stp.grow (P := PT_ Fs T) g (fun a m => .inl m) hs1) (fun a m => .inr m) hF'
      have hY : Same (joi B Z) (cut H1 T) := fun a u e => by
        have h1 : a ∉ T := fun m => by rw [joi_none (hT.fr a m).1 (hT.fr a m).2] at e; cases e
        rw [cut_out h1]
        exact hs1 a u (joi_le g.sb g.sz a u e)
      have hio : ios = ioV fl (vs ++ us) := by
        obtain ⟨n1, n2, n3⟩ := hn
        rw [n3, ← n1]
        show _ = ioV (f0 ++ hs.map fun _ => false) (vs ++ us)
        rw [show (hs.map fun _ => false) = List.replicate hs.length false from by rw [List.map_const'] , ioV_false f0 vs us _ n2]
      refine hk B Z H1 σ env Fs _ (vs ++ us) T ios Q (g.grow hs1) ⟨?_, hT.nd, hT.dj, hT.fr⟩ e2 hio hF2
      have q := OwnT.app (OwnT.keep hY (Same.refl Z) (fun b u e _ => hs1 b u e) hT.own) hu
      rw [List.append_nil] at q
      exact q
  | .own f c, B, Z, H, σ, env, Fs, its, vs, T, ios, f0, g, hT, hb, hn, hF => by
    refine ⟨B, Z, Fs, env, g, ?_⟩
    have e0 : evC (.own f c) (fun ds e => k (its.map (·.2) ++ ds) e) env = (f env >>= fun p => evC c (fun ds e => k (its.map (·.2) ++ p.1 :: ds) e) p.2) := rfl
    rw [e0] at hF
    cases hr : f env with
    | bad => rw [hr] at hF; exact hF.elim
    | exc c => rw [hr] at hF; exact hF
    | ok p =>
      obtain ⟨d, env1⟩ := p
      rw [hr] at hF
      simp only [Out.bind_ok] at hF
      intro v Z1 H1 Fs1 F1 p1
      have ho : Own G Z1 H1 d v F1 := by
        obtain ⟨v', r', Fa, Fb, e1, e2, h1, h2⟩ := p1.own
        cases e1
        obtain ⟨_, rfl⟩ := h2
        rw [List.append_nil] at e2
        rw [e2]
        exact h1
      have pmF : PMut H (InF Fs) := g.pm
      have hp1 : ∀ a, PT_ Fs1 (T ++ F1) a → H a = none ∨ PT_ Fs T a := fun a m => by
        rcases m with m | m
        · exact (p1.st.new a m).imp id .inl
        · rcases List.mem_append.mp m with m | m
          · exact .inr (.inr m)
          · exact (p1.new a m).imp id .inl
      have kk : ∀ (b : Addr) (u : HO), H b = some u → (b ∈ T ∨ Still u) → H1 b = some u := fun b u e m => p1.st.ext b u e (by
        rcases m with m | nm
        · exact hT.dj b m
        · exact g.tup e nm)
      have hT1 : Hand G B Z1 H1 (joi B Z1) Fs1 (its ++ [(true, d)]) (vs ++ [v]) (T ++ F1) := by
        refine ⟨OwnT.snoc (o := true) (OwnT.keep (joi_mono (Same.refl B) p1.st.zz p1.st.good.sb p1.st.good.sz) p1.st.zz kk hT.own) ho, ?_, fun a m n => ?_, fun a m => ?_⟩
        · refine List.nodup_append.mpr ⟨hT.nd, p1.nd, fun a m b n => ?_⟩
          rintro rfl
          obtain ⟨u, e, _⟩ := hT.own.dom a m
          rcases p1.new a n with z | z
          · rw [e] at z; cases z
          · exact hT.dj a m z
        · rcases List.mem_append.mp m with m | m
          · obtain ⟨u, e, _⟩ := hT.own.dom a m
            rcases p1.st.new a n with z | z
            · rw [e] at z; cases z
            · exact hT.dj a m z
          · exact p1.dj a m n
        · rcases List.mem_append.mp m with m | m
          · refine ⟨(hT.fr a m).1, ?_⟩
            cases q : Z1 a with
            | none => rfl
            | some w =>
              obtain ⟨u, e, _⟩ := hT.own.dom a m
              rcases p1.st.newz a (by rw [q]; simp) with z | z | z
              · exact absurd (hT.fr a m).2 z
              · rw [e] at z; cases z
              · exact absurd z (hT.dj a m)
          · exact p1.fr a m
      have hF1 : FinO G W B Z1 H1 σ env1 (PT_ Fs1 (T ++ F1)) ios (evC c (fun ds e => k ((its ++ [(true, d)]).map (·.2) ++ ds) e) env1) Q := by
        have e3 : (fun (ds : List D) (e : DEnv) => k (its.map (·.2) ++ d :: ds) e) = fun ds e => k ((its ++ [(true, d)]).map (·.2) ++ ds) e := by
          funext ds e
          rw [List.map_append, List.append_assoc]
          rfl
        rw [← e3]
        exact FinO.later (p1.st.more fun a m => .inl m) hp1 hF
      have rec' := chn_ok hk c B Z1 H1 σ env1 Fs1 (its ++ [(true, d)]) (vs ++ [v]) (T ++ F1) ios (f0 ++ [false]) p1.st.good hT1 (by rw [List.map_append, List.append_assoc]; exact hb) ⟨by rw [List.append_assoc]; exact hn.1, by rw [List.length_append, List.length_append, hn.2.1]; rfl, by rw [ioV_snoc f0 vs false v hn.2.1]; exact hn.2.2⟩ hF1
      have e4 : (fun (us : List V) (H2 : Hp) => r ((vs ++ [v]) ++ us) H2 Q) = fun us H2 => r (vs ++ v :: us) H2 Q := by
        funext us H2
        rw [List.append_assoc]
        rfl
      rw [e4] at rec'
      exact rec'
  | .pur h c, B, Z, H, σ, env, Fs, its, vs, T, ios, f0, g, hT, hb, hn, hF => by
    have e0 : evC (.pur h c) (fun ds e => k (its.map (·.2) ++ ds) e) env = (must (h env) fun d => evC c (fun ds e => k (its.map (·.2) ++ d :: ds) e) env) := rfl
    rw [e0] at hF
    cases hr : h env with
    | none => rw [hr] at hF; exact hF.elim
    | some d =>
      rw [hr] at hF
      refine ⟨B, Z, Fs, env, g, d, hr, fun v H1 hs1 hp hv => ?_⟩
      have hT1 : Hand G B Z H1 (joi B Z) Fs (its ++ [(true, d)]) (vs ++ [v]) T := by
        have q := OwnT.snoc (o := true) (F1 := []) (OwnT.keep (Same.refl _) (Same.refl Z) (fun b u e _ => hs1 b u e) hT.own) (hv Z)
        rw [List.append_nil] at q
        exact ⟨q, hT.nd, hT.dj, hT.fr⟩
      have e3 : (fun (ds : List D) (e : DEnv) => k (its.map (·.2) ++ d :: ds) e) = fun ds e => k ((its ++ [(true, d)]).map (·.2) ++ ds) e := by
        funext ds e
        rw [List.map_append, List.append_assoc]
        rfl
      have hF : FinO G W B Z H σ env (PT_ Fs T) ios (evC c (fun ds e => k (its.map (·.2) ++ d :: ds) e) env) Q := hF
      rw [e3] at hF
      have hF := FinO.later (Stp.grow (P := PT_ Fs T) g (fun a m => .inl m) hs1) (fun a m => .inr m) hF
      have rec' := chn_ok hk c B Z H1 σ env Fs (its ++ [(true, d)]) (vs ++ [v]) T ios (f0 ++ [false]) (g.grow hs1) hT1 (by rw [List.map_append, List.append_assoc]; exact hb) ⟨by rw [List.append_assoc]; exact hn.1, by rw [List.length_append, List.length_append, hn.2.1]; rfl, by rw [ioV_snoc f0 vs false v hn.2.1]; exact hn.2.2⟩ hF
      have e4 : (fun (us : List V) (H2 : Hp) => r ((vs ++ [v]) ++ us) H2 Q) = fun us H2 => r (vs ++ v :: us) H2 Q := by
        funext us H2
        rw [List.append_assoc]
        rfl
      rw [e4] at rec'
      exact rec'
  | .plc i f c, B, Z, H, σ, env, Fs, its, vs, T, ios, f0, g, hT, hb, hn, hF => by
    have e0 : evC (.plc i f c) (fun ds e => k (its.map (·.2) ++ ds) e) env = (must (f env) fun d => evC c (fun ds e => k (its.map (·.2) ++ d :: ds) e) (lock i env) >>= fun q => .ok (q.1, q.2.1, unlock env q.2.2)) := rfl
    rw [e0] at hF
    cases hr : f env with
    | none => rw [hr] at hF; exact hF.elim
    | some d =>
      rw [hr] at hF
      have hF0 : FinO G W B Z H σ env (PT_ Fs T) ios (evC c (fun ds e => k (its.map (·.2) ++ d :: ds) e) (lock i env) >>= fun q => .ok (q.1, q.2.1, unlock env q.2.2)) Q := hF
      refine ⟨B, Z, Fs, env, g, d, hr, fun v H1 hs1 hv => ?_⟩
      have hF := FinO.later (Stp.grow (P := PT_ Fs T) g (fun a m => .inl m) hs1) (fun a m => .inr m) hF0
      have g1 := g.grow hs1
      have hdT : ∀ a, a ∈ T → a ∉ Fs i := fun a m n => hT.dj a m ⟨i, n⟩
      have hT1 : Hand G (lockB B H1 Fs i) Z H1 (joi (lockB B H1 Fs i) Z) (offF Fs i) (its ++ [(false, d)]) (vs ++ [v]) T := by
        have q := OwnT.snoc (o := false) (F1 := []) (OwnT.keep (joi_mono (lockB_up g1 i) (Same.refl Z) (lockB_le g1 i) g1.sz) (Same.refl Z) (fun b u e _ => hs1 b u e) hT.own) ⟨hv, rfl⟩
        rw [List.append_nil] at q
        refine ⟨q, hT.nd, fun a m n => hT.dj a m (inF_off n), fun a m => ⟨?_, (hT.fr a m).2⟩⟩
        unfold lockB
        rw [lay_out (hdT a m)]
        exact (hT.fr a m).1
      have hpp : ∀ a, PT_ (offF Fs i) T a → PT_ Fs T a ∧ a ∉ Fs i := fun a m => by
        rcases m with m | m
        · refine ⟨.inl (inF_off m), fun n => ?_⟩
          obtain ⟨j, m⟩ := m
          unfold offF at m
          split at m
          · cases m
          · rename_i hne
            exact hne (g.dj j i a m n)
        · exact ⟨.inr m, hdT a m⟩
      have hF1 := FinO.unlock (P' := PT_ (offF Fs i) T) g1 (hT1.pm (g1.lock i)) hpp (fun a m => .inl ⟨i, m⟩) hF
      have e3 : (fun (ds : List D) (e : DEnv) => k (its.map (·.2) ++ d :: ds) e) = fun ds e => k ((its ++ [(false, d)]).map (·.2) ++ ds) e := by
        funext ds e
        rw [List.map_append, List.append_assoc]
        rfl
      rw [e3] at hF1
      have rec' := chn_ok hk c (lockB B H1 Fs i) Z H1 σ (lock i env) (offF Fs i) (its ++ [(false, d)]) (vs ++ [v]) T ios (f0 ++ [false]) (g1.lock i) hT1 (by rw [List.map_append, List.append_assoc]; exact hb) ⟨by rw [List.append_assoc]; exact hn.1, by rw [List.length_append, List.length_append, hn.2.1]; rfl, by rw [ioV_snoc f0 vs false v hn.2.1]; exact hn.2.2⟩ hF1
      have e4 : (fun (us : List V) (H2 : Hp) => r ((vs ++ [v]) ++ us) H2 Q) = fun us H2 => r (vs ++ v :: us) H2 Q := by
        funext us H2
        rw [List.append_assoc]
        rfl
      rw [e4] at rec'
      exact rec'
  | .io j c, B, Z, H, σ, env, Fs, its, vs, T, ios, f0, g, hT, hb, hn, hF => by
    cases hs : env[j]? with
    | none =>
      have e0 : evC (.io j c) (fun ds e => k (its.map (·.2) ++ ds) e) env = .bad := by unfold evC; rw [hs]
      rw [e0] at hF; exact hF.elim
    | some sl =>
      match sl, hs with
      | none, hs =>
        have e0 : evC (.io j c) (fun ds e => k (its.map (·.2) ++ ds) e) env = .bad := by unfold evC; rw [hs]
        rw [e0] at hF; exact hF.elim
      | some (m, d), hs =>
        by_cases hm : m.mut = true
        · have e0 : evC (.io j c) (fun ds e => k (its.map (·.2) ++ ds) e) env = (evC c (fun ds e => k (its.map (·.2) ++ d :: ds) e) (env.set j none) >>= fun (q : D × List D × DEnv) => match q.2.1 with
              | o :: os => Out.ok (q.1, os, q.2.2.set j (some (m, o)))
              | [] => Out.bad) := by
            rw [evC, hs]
            exact if_pos hm
          rw [e0] at hF
          -- slot j's value
          have hsl := g.sl j
          rw [hs] at hsl
          obtain ⟨v, ev, hv⟩ : ∃ v, σ[j]? = some (some v) ∧ Own G Z H d v (Fs j) := by
            obtain ⟨v, ev, hv⟩ := hsl
            cases m with
            | own => exact ⟨v, ev, hv⟩
            | io => exact ⟨v, ev, hv⟩
            | shr => cases hm
            | brw => cases hm
            | lck => cases hm
          refine ⟨v, ev, ?_⟩
          have g1 := g.take j
          have hdT : ∀ a, a ∈ T → a ∉ Fs j := fun a m n => hT.dj a m ⟨j, n⟩
          have off_j : ∀ a, InF (offF Fs j) a → a ∉ Fs j := fun a m n => by
            obtain ⟨i, m⟩ := m
            unfold offF at m
            split at m
            · cases m
            · rename_i hne
              exact hne (g.dj i j a m n)
          have hT1 : Hand G B Z H (joi B Z) (offF Fs j) (its ++ [(true, d)]) (vs ++ [v]) (T ++ Fs j) := by
            refine ⟨OwnT.snoc (o := true) hT.own hv, List.nodup_append.mpr ⟨hT.nd, g.nd j, fun a m b n => ?_⟩, fun a m n => ?_, fun a m => ?_⟩
            · rintro rfl
              exact hdT a m n
            · rcases List.mem_append.mp m with m | m
              · exact hT.dj a m (inF_off n)
              · exact off_j a n m
            · rcases List.mem_append.mp m with m | m
              · exact hT.fr a m
              · exact g.fr j a m
          have hpp : ∀ a, PT_ (offF Fs j) (T ++ Fs j) a → PT_ Fs T a := fun a m => by
            rcases m with m | m
            · exact .inl (inF_off m)
            · rcases List.mem_append.mp m with m | m
              · exact .inr m
              · exact .inl ⟨j, m⟩
          have hjl : j < env.length := (List.getElem?_eq_some_iff.mp hs).1
          have hF1 : FinO G W B Z H σ (env.set j none) (PT_ (offF Fs j) (T ++ Fs j)) (v :: ios) (evC c (fun ds e => k (its.map (·.2) ++ d :: ds) e) (env.set j none)) Q := by
            generalize evC c (fun ds e => k (its.map (·.2) ++ d :: ds) e) (env.set j none) = oo at hF
            unfold FinO at hF ⊢
            match oo, hF with
            | .exc c', hF => exact hF
            | .ok (d', [], env'), hF => exact hF.elim
            | .ok (d', o :: os, env'), hF =>
              intro v' Z' H' Fs' F p
              obtain ⟨w1, r1, Fa, Fb, ea, eb, ha, hb'⟩ := p.own
              obtain ⟨rfl, rfl⟩ := List.cons.inj ea
              obtain ⟨w2, r2, Fc, Fd, ec, ed, hc, hd'⟩ := hb'
              cases ec
              subst ed
              subst eb
              have nd0 := List.nodup_append.mp p.nd
              have nd1 := List.nodup_append.mp nd0.2.1
              have memc : ∀ a, a ∈ Fc → a ∈ Fa ++ (Fc ++ Fd) := fun a m => List.mem_append_right _ (List.mem_append_left _ m)
              have tm : Tm G B Z' H' (InF Fs') o v Fc := ⟨hc, nd1.1, fun a m n => p.dj a (memc a m) n, fun a m => p.fr a (memc a m)⟩
              have ls : env'.length = env.length := by rw [p.st.ln, List.length_set]
              have g2 := p.st.good.give hm ev (by rw [ls]; exact hjl) tm
              have nj : ∀ i, i ≠ j → (env.set j none)[i]? = env[i]? := fun i h => List.getElem?_set_ne (fun z => h z.symm)
              have nj' : ∀ i, i ≠ j → (env'.set j (some (m, o)))[i]? = env'[i]? := fun i h => List.getElem?_set_ne (fun z => h z.symm)
              have at_j : (env'.set j (some (m, o)))[j]? = some (some (m, o)) := List.getElem?_set_self (by rw [ls]; exact hjl)
              refine hF v' Z' H' (onF Fs' j Fc) (Fa ++ Fd) ⟨⟨p.st.zz, fun a u e n => p.st.ext a u e fun z => n (hpp a z), g2, fun a mm => ?_, fun a mm => ?_, fun i d2 e => ?_, fun i d2 e => ?_, fun i d2 e => ?_, fun i d2 e => ?_, by rw [List.length_set]; exact ls⟩, ⟨v', _, Fa, Fd, rfl, rfl, ha, hd'⟩, ?_, fun a mm n => ?_, fun a mm => ?_, fun a mm => ?_⟩
              · rcases inF_on mm with mm | mm
                · exact (p.new a (memc a mm)).imp id (hpp a)
                · exact (p.st.new a mm).imp id (hpp a)
              · exact (p.st.newz a mm).imp id fun z => z.imp id (hpp a)
              · by_cases hi : i = j
                · subst hi
                  rw [hs] at e
                  cases e
                  exact ⟨⟨o, at_j⟩, rfl⟩
                · rw [nj' i hi]
                  exact p.st.io i d2 (by rw [nj i hi]; exact e)
              · by_cases hi : i = j
                · subst hi
                  rw [hs] at e
                  cases e
                  cases hm
                · rw [nj' i hi]
                  exact p.st.lk i d2 (by rw [nj i hi]; exact e)
              · by_cases hi : i = j
                · subst hi
                  rw [at_j] at e
                  cases e
                  cases hm
                · rw [nj' i hi] at e
                  have q := p.st.bw i d2 e
                  rw [nj i hi] at q
                  exact q
              · by_cases hi : i = j
                · subst hi
                  rw [at_j] at e
                  cases e
                  cases hm
                · rw [nj' i hi] at e
                  have q := p.st.lb i d2 e
                  rw [nj i hi] at q
                  exact q
              · exact List.nodup_append.mpr ⟨nd0.1, nd1.2.1, fun a m1 b m2 => nd0.2.2 a m1 b (List.mem_append_right _ m2)⟩
              · rcases inF_on n with n | n
                · rcases List.mem_append.mp mm with mm | mm
                  · exact nd0.2.2 a mm a (List.mem_append_left _ n) rfl
                  · exact nd1.2.2 a n a mm rfl
                · refine p.dj a ?_ n
                  rcases List.mem_append.mp mm with mm | mm
                  · exact List.mem_append_left _ mm
                  · exact List.mem_append_right _ (List.mem_append_right _ mm)
              · refine p.fr a ?_
                rcases List.mem_append.mp mm with mm | mm
                · exact List.mem_append_left _ mm
                · exact List.mem_append_right _ (List.mem_append_right _ mm)
              · refine (p.new a ?_).imp id (hpp a)
                rcases List.mem_append.mp mm with mm | mm
                · exact List.mem_append_left _ mm
                · exact List.mem_append_right _ (List.mem_append_right _ mm)
          have e3 : (fun (ds : List D) (e : DEnv) => k (its.map (·.2) ++ d :: ds) e) = fun ds e => k ((its ++ [(true, d)]).map (·.2) ++ ds) e := by
            funext ds e
            rw [List.map_append, List.append_assoc]
            rfl
          rw [e3] at hF1
          have rec' := chn_ok hk c B Z H σ (env.set j none) (offF Fs j) (its ++ [(true, d)]) (vs ++ [v]) (T ++ Fs j) (v :: ios) (f0 ++ [true]) g1 hT1 (by rw [List.map_append, List.append_assoc]; exact hb) ⟨by rw [List.append_assoc]; exact hn.1, by rw [List.length_append, List.length_append, hn.2.1]; rfl, by rw [ioV_snoc f0 vs true v hn.2.1, hn.2.2]; rfl⟩ hF1
          have e4 : (fun (us : List V) (H2 : Hp) => r ((vs ++ [v]) ++ us) H2 Q) = fun us H2 => r (vs ++ v :: us) H2 Q := by
            funext us H2
            rw [List.append_assoc]
            rfl
          rw [e4] at rec'
          exact rec'
        · have e0 : evC (.io j c) (fun ds e => k (its.map (·.2) ++ ds) e) env = .bad := by
            unfold evC
            rw [hs]
            exact if_neg hm
          rw [e0] at hF; exact hF.elim
end DL

namespace DL
open PySem PySem.Spec PyProof.Rows L2

/-! ### operations on values, as functions on data -/
/-- an operation that only reads its arguments and hands on something new -/
def ROp (G : Gc) (r : List V → Hp → VK → Prop) (g : List D → Option D) : Prop :=
  ∀ (ds : List D) (vs : List V) (H : Hp) (Q : VK) (d : D), OwnL G H H ds vs [] → g ds = some d → (∀ v H' F, Same H H' → (∀ Z, Own G Z H' d v F) → F.Nodup → (∀ a, a ∈ F → H a = none) → Q v H') → r vs H Q
/-- its result is pure -/
def PureG (g : List D → Option D) : Prop := ∀ ds d, g ds = some d → d.pure = true

def l1 (r : V → Hp → VK → Prop) : List V → Hp → VK → Prop := fun vs H Q => match vs with
  | [x] => r x H Q
  | _ => False
def l2 (r : R2) : List V → Hp → VK → Prop := fun vs H Q => match vs with
  | [x, y] => r x y H Q
  | _ => False

def opK (g : List D → Option D) : Kn := fun ds e => must (g ds) fun d => .ok (d, [], e)
def eK (c : Chn) (k : Kn) : DEnv → Out (D × DEnv) := fun env => evC c k env >>= fun q => .ok (q.1, q.2.2)
/-- an operation that owns what it hands on -/
abbrev eOp (c : Chn) (g : List D → Option D) : DEnv → Out (D × DEnv) := eK c (opK g)
/-- an operation on what changes nothing, with a pure result -/
def hOp (hs : List SArg) (g : List D → Option D) : DEnv → Option D := fun env => match evS hs env with
  | some ds => g ds
  | none => none

section
variable {G : Gc} {W : Wsh} {X : Cx}
theorem op_own {r : List V → Hp → VK → Prop} {g : List D → Option D} {fl bs : List Bool} (hr : ROp G r g) (hfl : fl.any id = false) : KOk G W fl bs r (opK g) := by
  intro B Z H σ env Fs its vs T ios Q gd hd hb hn hF
  obtain rfl : ios = [] := hn.trans (ioV_none fl vs hfl)
  unfold opK at hF
  cases hg : g (its.map (·.2)) with
  | none => rw [hg] at hF; exact hF.elim
  | some d =>
    rw [hg] at hF
    refine hr _ vs H Q d (OwnT.reps cut_le gd.sz hd.own) hg fun v H' F hs ho nd hn' => ?_
    refine hF v Z H' Fs F ⟨Stp.grow gd (fun a m => .inl m) hs, ⟨v, [], F, [], rfl, by simp, ho Z, rfl, rfl⟩, nd, fun a m n => ?_, fun a m => ⟨?_, ?_⟩, fun a m => .inl (hn' a m)⟩
    · obtain ⟨o, e, _⟩ := gd.dom n
      rw [hn' a m] at e; cases e
    · cases q : B a with
      | none => rfl
      | some u =>
        have := gd.sb a u q
        rw [hn' a m] at this; cases this
    · cases q : Z a with
      | none => rfl
      | some u =>
        have := gd.sz a u q
        rw [hn' a m] at this; cases this
theorem FinV.toO {B Z H : Hp} {σ : L2.St} {env : DEnv} {Fs : Nat → List Addr} {o : Out (D × List D × DEnv)} {Q : VK} (h : FinV G W B Z H σ env (InF Fs) (o >>= fun q => .ok (q.1, q.2.2)) Q) : FinO G W B Z H σ env (PT_ Fs []) [] o Q := by
  unfold FinV at h
  unfold FinO
  match o, h with
  | .ok (d, outs, env'), h =>
    intro v Z' H' Fs' F p
    have pp : ∀ a, PT_ Fs [] a → InF Fs a := fun a m => m.elim id fun z => by cases z
    have he : outs = [] := by
      obtain ⟨_, _, _, _, e1, _, _, h2⟩ := p.own
      cases e1
      have := OwnL.length h2
      exact List.eq_nil_of_length_eq_zero this.symm
    subst he
    exact h v Z' H' Fs' F ⟨p.st.more pp, p.own, p.nd, p.dj, p.fr, fun a m => (p.new a m).imp id (pp a)⟩
  | .exc c, h => exact h
theorem tv_chn {fl bs : List Bool} {r : List V → Hp → VK → Prop} {k : Kn} {c : Chn} (hk : KOk G W fl bs r k) (hn : c.iofs = fl) (hb : c.kinds = bs) (σ : L2.St) (H : Hp) (Q : VK) (h : TV G W (eK c k) σ H Q) : seqTE (c.tes G W) σ H (fun vs H1 => r vs H1 Q) := by
  obtain ⟨B, Z, Fs, env, g, h⟩ := h
  have := chn_ok hk (Q := Q) c B Z H σ env Fs [] [] [] [] [] g ⟨⟨rfl, rfl⟩, List.nodup_nil, fun a m => (by cases m), fun a m => (by cases m)⟩ (by simpa using hb) ⟨hn, rfl, rfl⟩ (FinV.toO h)
  exact this
theorem tv_op {r : List V → Hp → VK → Prop} {g : List D → Option D} {c : Chn} (hr : ROp G r g) (hn : c.iofs.any id = false) (σ : L2.St) (H : Hp) (Q : VK) (h : TV G W (eOp c g) σ H Q) : seqTE (c.tes G W) σ H (fun vs H1 => r vs H1 Q) :=
  tv_chn (op_own hr hn) rfl rfl σ H Q h
theorem tpur_op {r : List V → Hp → VK → Prop} {g : List D → Option D} {hs : List SArg} (hr : ROp G r g) (hp : PureG g) (σ : L2.St) (H : Hp) (Q : VK) (h : TPur G (hOp hs g) σ H Q) : seqTE (hs.map (SArg.te G)) σ H (fun vs H1 => r vs H1 Q) := by
  obtain ⟨B, Z, Fs, env, gd, d, hd, q⟩ := h
  unfold hOp at hd
  cases he : evS hs env with
  | none => rw [he] at hd; cases hd
  | some ds =>
    rw [he] at hd
    refine evS_ok (T_ := []) (fun a m => by cases m) hs ds H _ gd he fun vs H1 hs1 ho hl => ?_
    have hlk : (SArg.kinds hs).length = ds.length := by rw [SArg.kinds_length, hl]
    have hrep := OwnT.reps (H := H1) cut_le (gd.sz.trans hs1) ho
    rw [map_snd_zip _ _ (Nat.le_of_eq hlk.symm)] at hrep
    refine hr ds vs H1 Q d hrep hd fun v H' F hs2 ho2 nd hn => ?_
    obtain ⟨hF, _⟩ := Own.ofPure (Z' := H') d v F (hp ds d hd) (ho2 H')
    subst hF
    exact q v H' (hs1.trans hs2) (hp ds d hd) ho2

/-! ### leaves -/
def hC (d : D) : DEnv → Option D := fun _ => some d
def hVar (i : Nat) : DEnv → Option D := fun env => match env[i]? with
  | some (some (_, d)) => if d.pure = true then some d else none
  | _ => none
def pVar (i : Nat) : DEnv → Option D := fun env => match env[i]? with
  | some (some (_, d)) => some d
  | _ => none
/-- the value moved out of slot i -/
def eMov (i : Nat) : DEnv → Out (D × DEnv) := fun env => match env[i]? with
  | some (some (m, d)) => if m = .own then .ok (d, env.set i none) else .bad
  | _ => .bad
/-- slot i frozen, and its value shared -/
def eShr (i : Nat) : DEnv → Out (D × DEnv) := fun env => match env[i]? with
  | some (some (m, d)) => if m = .own ∨ m = .shr then .ok (d, env.set i (some (.shr, d))) else .bad
  | _ => .bad
/-- a place of pure data, read -/
def hRd (g : DEnv → Option D) : DEnv → Option D := fun env => match g env with
  | some d => if d.pure = true then some d else none
  | none => none
def eP (h : DEnv → Option D) : DEnv → Out (D × DEnv) := fun env => must (h env) fun d => .ok (d, env)

theorem own_int {Z H : Hp} {d : D} {v : V} {F : List Addr} {i : Int} (h : Own G Z H d v F) (e : d = .int i) : v = .int i := by subst e; exact h.1
theorem p_int {i : Int} {k pos} : PE X (.Constant (.int i) k pos) (TPur G (hC (.int i))) :=
  pe_int.imp fun σ H Q ⟨B, Z, Fs, env, gd, d, hd, q⟩ => by cases hd; exact q _ H (Same.refl H) rfl fun Z' => ⟨rfl, rfl⟩
theorem p_str {x : Str} {k pos} : PE X (.Constant (.str x) k pos) (TPur G (hC (.str x))) :=
  pe_str.imp fun σ H Q ⟨B, Z, Fs, env, gd, d, hd, q⟩ => by cases hd; exact q _ H (Same.refl H) rfl fun Z' => ⟨rfl, rfl⟩
theorem p_bl {b : Bool} {k pos} : PE X (.Constant (.bool b) k pos) (TPur G (hC (.bl b))) :=
  pe_bl.imp fun σ H Q ⟨B, Z, Fs, env, gd, d, hd, q⟩ => by cases hd; exact q _ H (Same.refl H) rfl fun Z' => ⟨rfl, rfl⟩
theorem p_non {k pos} : PE X (.Constant .none k pos) (TPur G (hC .non)) :=
  pe_non.imp fun σ H Q ⟨B, Z, Fs, env, gd, d, hd, q⟩ => by cases hd; exact q _ H (Same.refl H) rfl fun Z' => ⟨rfl, rfl⟩
/-- a module's constant -/
theorem p_glob {x : Str} {v : V} {d : D} {u : Value} {pos : Pos} (hg : Gl X x) (hm : X.mg x = some u) (r : RelV v u) (hd : ∀ Z H, Own G Z H d v []) (hp : d.pure = true) (hdb : (x == ("__debug__" : Str)) = false := by decide) : PE X (.Name x pos) (TPur G (hC d)) :=
  (pe_glob hg hm r hdb).imp fun σ H Q ⟨B, Z, Fs, env, gd, d', hd', q⟩ => by cases hd'; exact q v H (Same.refl H) hp fun Z' => hd Z' H
/-- what a slot's name points at, read -/
theorem Good.read {B Z H : Hp} {σ : L2.St} {env : DEnv} {Fs : Nat → List Addr} (g : Good G B Z H σ env Fs) {i : Nat} {m : Md} {d : D} (h : env[i]? = some (some (m, d))) : ∃ v, σ[i]? = some (some v) ∧ Own G (joi (lockB B H Fs i) Z) H d v [] := by
  have hs := g.sl i
  rw [h] at hs
  have j1 : Same (joi B Z) (joi (lockB B H Fs i) Z) := joi_mono (lockB_up g i) (Same.refl Z) (lockB_le g i) g.sz
  have z1 : Same Z (joi (lockB B H Fs i) Z) := joi_right (lockB_le g i) g.sz
  have kf : ∀ b u, b ∈ Fs i → H b = some u → joi (lockB B H Fs i) Z b = some u := fun b u m q => joi_left b u (by unfold lockB; rw [lay_in m]; exact q)
  obtain ⟨v, e, hs⟩ := hs
  refine ⟨v, e, ?_⟩
  cases m with
  | own => exact Own.freeze z1 d v _ kf hs
  | io => exact Own.freeze z1 d v _ kf hs
  | shr => exact Own.keep z1 d v [] (fun _ _ e _ => e) hs.1
  | brw => exact Own.keep j1 d v [] (fun _ _ e _ => e) hs.1
  | lck => exact Own.keep j1 d v [] (fun _ _ e _ => e) hs.1
theorem p_plc {e : Expr} {i : Nat} (h : PE X e (tVar i)) : PE X e (TPlc G i (pVar i)) :=
  h.imp fun σ H Q ⟨B, Z, Fs, env, gd, d, hd, q⟩ => by
    unfold pVar at hd
    cases hs : env[i]? with
    | none => rw [hs] at hd; cases hd
    | some sl =>
      match sl, hs with
      | none, hs => rw [hs] at hd; cases hd
      | some (m, d'), hs =>
        rw [hs] at hd
        cases hd
        obtain ⟨v, ev, ho⟩ := gd.read hs
        exact ⟨v, ev, q v H (Same.refl H) ho⟩
theorem p_rd {e : Expr} {i : Nat} {g : DEnv → Option D} (h : PE X e (TPlc G i g)) : PE X e (TPur G (hRd g)) :=
  h.imp fun σ H Q ⟨B, Z, Fs, env, gd, d, hd, q⟩ => by
    unfold hRd at hd
    cases hg : g env with
    | none => rw [hg] at hd; cases hd
    | some d' =>
      rw [hg] at hd
      by_cases hp : d'.pure = true
      · have hd : (if d'.pure = true then some d' else none) = some d := hd
        rw [if_pos hp] at hd
        cases hd
        exact ⟨B, Z, Fs, env, gd, _, hg, fun v H' hs ho => q v H' hs hp fun Z' => (Own.ofPure (Z' := Z') _ v [] hp ho).2⟩
      · have hd : (if d'.pure = true then some d' else none) = some d := hd
        rw [if_neg hp] at hd
        cases hd
theorem p_var {e : Expr} {i : Nat} (h : PE X e (tVar i)) : PE X e (TPur G (hVar i)) :=
  (p_rd (p_plc h)).imp fun σ H Q ⟨B, Z, Fs, env, gd, d, hd, q⟩ => by
    refine ⟨B, Z, Fs, env, gd, d, ?_, q⟩
    unfold hVar at hd
    unfold hRd pVar
    cases hs : env[i]? with
    | none => rw [hs] at hd; cases hd
    | some sl =>
      match sl, hs with
      | none, hs => rw [hs] at hd; cases hd
      | some (m, d'), hs =>
        rw [hs] at hd
        exact hd
theorem e_p {e : Expr} {h : DEnv → Option D} (hp : PE X e (TPur G h)) : PE X e (TV G W (eP h)) :=
  hp.imp fun σ H Q ⟨B, Z, Fs, env, gd, hF⟩ => by
    unfold eP at hF
    cases he : h env with
    | none => rw [he] at hF; exact hF.elim
    | some d =>
      rw [he] at hF
      refine ⟨B, Z, Fs, env, gd, d, he, fun v H' hs hp ho => ?_⟩
      exact hF v Z H' Fs [] ⟨Stp.grow gd (fun a m => m) hs, ⟨v, [], [], [], rfl, rfl, ho Z, rfl, rfl⟩, List.nodup_nil, fun a m => (by cases m), fun a m => (by cases m), fun a m => (by cases m)⟩
/-- slot i's value out of it -/
theorem Stp.take {B Z H : Hp} {σ : L2.St} {env : DEnv} {Fs : Nat → List Addr} (g : Good G B Z H σ env Fs) {i : Nat} {d : D} (h : env[i]? = some (some (.own, d))) : Stp G B Z H σ env (InF Fs) Z H σ (env.set i none) (offF Fs i) := by
  refine ⟨Same.refl Z, fun _ _ e _ => e, g.take i, fun a m => .inr (inF_off m), fun _ m => .inl m, fun j d' e => ?_, fun j d' e => ?_, fun j d' e => ?_, fun j d' e => ?_, by rw [List.length_set]⟩
  all_goals
    by_cases hj : j = i
    · subst hj
      first
        | (rw [h] at e; cases e)
        | (rw [List.getElem?_set_self'] at e; cases hq : env[j]? <;> rw [hq] at e <;> cases e)
    · have n1 : (env.set i none)[j]? = env[j]? := List.getElem?_set_ne (fun z => hj z.symm)
      first
        | (rw [n1] at e; exact ⟨e, rfl⟩)
        | (rw [n1]; exact ⟨e, rfl⟩)
        | (rw [n1]; exact ⟨⟨d', e⟩, rfl⟩)
theorem e_mov {e : Expr} {i : Nat} (h : PE X e (tVar i)) : PE X e (TV G W (eMov i)) :=
  h.imp fun σ H Q ⟨B, Z, Fs, env, gd, hF⟩ => by
    unfold eMov at hF
    cases hs : env[i]? with
    | none => rw [hs] at hF; exact hF.elim
    | some sl =>
      match sl, hs with
      | none, hs => rw [hs] at hF; exact hF.elim
      | some (m, d), hs =>
        rw [hs] at hF
        have hF : FinV G W B Z H σ env (InF Fs) (if m = .own then .ok (d, env.set i none) else .bad) Q := hF
        by_cases hm : m = .own
        · subst hm
          rw [if_pos rfl] at hF
          have hsl := gd.sl i
          rw [hs] at hsl
          obtain ⟨v, ev, ho⟩ := hsl
          refine ⟨v, ev, hF v Z H (offF Fs i) (Fs i) ⟨Stp.take gd hs, ⟨v, [], Fs i, [], rfl, by simp, ho, rfl, rfl⟩, gd.nd i, fun a m n => ?_, fun a m => gd.fr i a m, fun a m => .inr ⟨i, m⟩⟩⟩
          obtain ⟨j, n⟩ := n
          unfold offF at n
          split at n
          · cases n
          · rename_i hne
            exact hne (gd.dj j i a n m)
        · rw [if_neg hm] at hF
          exact hF.elim
end
end DL

namespace DL
open PySem PySem.Spec PyProof.Rows L2

structure DX (X : Cx) (G : Gc) : Prop where
  K : X.K = G.K
  calm : X.calm = true
  nd : X.N.Nodup
  un : X.A.units + 70 < cLine

/-! ### data as PyData -/
mutual
def D.py : D → Option PyData
  | .non => some .none
  | .bl b => some (.bool b)
  | .int i => some (.int i)
  | .str s => some (.str s)
  | .scr _ => none
  | .tupF _ xs => (D.pyL xs).map .tuple
  | .lst xs => (D.pyL xs).map .list
  | .dk _ _ => none
  | .dt _ _ => none
  | .obj _ _ _ => none
def D.pyL : List D → Option (List PyData)
  | [] => some []
  | d :: r => match d.py, D.pyL r with
    | some p, some q => some (p :: q)
    | _, _ => none
end
mutual
theorem Own.dp {G : Gc} {H : Hp} : ∀ (d : D) (v : V) (p : PyData), Own G H H d v [] → d.py = some p → Dp G.K H v p
  | .non, v, p, h, e => by
    cases (show some PyData.none = some p from e)
    rw [h.1]; exact .non
  | .bl b, v, p, h, e => by
    cases (show some (PyData.bool b) = some p from e)
    rw [h.1]; exact .bl b
  | .int i, v, p, h, e => by
    cases (show some (PyData.int i) = some p from e)
    rw [h.1]; exact .int i
  | .str s, v, p, h, e => by
    cases (show some (PyData.str s) = some p from e)
    rw [h.1]; exact .str s
  | .tupF f xs, v, p, h, e => by
    have e : (D.pyL xs).map PyData.tuple = some p := e
    obtain ⟨a, vs, rfl, h1, h2⟩ := h
    cases hq : D.pyL xs with
    | none => rw [hq] at e; cases e
    | some q =>
      rw [hq] at e
      cases e
      exact .tup h1.seq (OwnL.dp xs vs q h2 hq)
  | .lst xs, v, p, h, e => by
    have e : (D.pyL xs).map PyData.list = some p := e
    obtain ⟨a, vs, F', rfl, n, h2⟩ := h
    cases hq : D.pyL xs with
    | none => rw [hq] at e; cases e
    | some q =>
      rw [hq] at e
      cases e
      rcases n with ⟨hs, _, rfl⟩ | ⟨z, _⟩
      · exact .lst (.inl hs) (OwnL.dp xs vs q h2 hq)
      · cases z
  | .scr _, v, p, h, e => by cases e
  | .dk _ _, v, p, h, e => by cases e
  | .dt _ _, v, p, h, e => by cases e
  | .obj _ _ _, v, p, h, e => by cases e
theorem OwnL.dp {G : Gc} {H : Hp} : ∀ (ds : List D) (vs : List V) (ps : List PyData), OwnL G H H ds vs [] → D.pyL ds = some ps → DpAll G.K H vs ps
  | [], vs, ps, h, e => by
    cases (show some ([] : List PyData) = some ps from e)
    rw [h.1]; exact .nil
  | d :: r, vs, ps, h, e => by
    obtain ⟨v, r', rfl, h1, h2⟩ := OwnL.uncons h
    have e : (match d.py, D.pyL r with
      | some p, some q => some (p :: q)
      | _, _ => none) = some ps := e
    cases hp : d.py with
    | none => rw [hp] at e; cases e
    | some p =>
      cases hq : D.pyL r with
      | none => rw [hp, hq] at e; cases e
      | some q =>
        rw [hp, hq] at e
        cases e
        exact .cons (Own.dp d v p h1 hp) (OwnL.dp r r' q h2 hq)
end

section
variable {G : Gc} {H : Hp}
theorem own1 {a : D} {vs : List V} (h : OwnL G H H [a] vs []) : ∃ x, vs = [x] ∧ Own G H H a x [] := by
  obtain ⟨x, r, rfl, h1, h2⟩ := OwnL.uncons h
  obtain ⟨rfl, _⟩ := h2
  exact ⟨x, rfl, h1⟩
theorem own2 {a b : D} {vs : List V} (h : OwnL G H H [a, b] vs []) : ∃ x y, vs = [x, y] ∧ Own G H H a x [] ∧ Own G H H b y [] := by
  obtain ⟨x, r, rfl, h1, h2⟩ := OwnL.uncons h
  obtain ⟨y, rfl, h3⟩ := own1 h2
  exact ⟨x, y, rfl, h1, h3⟩
theorem own3 {a b c : D} {vs : List V} (h : OwnL G H H [a, b, c] vs []) : ∃ x y z, vs = [x, y, z] ∧ Own G H H a x [] ∧ Own G H H b y [] ∧ Own G H H c z [] := by
  obtain ⟨x, r, rfl, h1, h2⟩ := OwnL.uncons h
  obtain ⟨y, z, rfl, h3, h4⟩ := own2 h2
  exact ⟨x, y, z, rfl, h1, h3, h4⟩
theorem Own.lstR {ds : List D} {v : V} (h : Own G H H (.lst ds) v []) : ∃ a vs, v = .ref a ∧ SqL G.K H a vs ∧ OwnL G H H ds vs [] := by
  obtain ⟨a, vs, F', rfl, n, h2⟩ := h
  rcases n with ⟨hs, _, rfl⟩ | ⟨z, _⟩
  · exact ⟨a, vs, rfl, .inl hs, h2⟩
  · cases z
theorem Own.tupR {ds : List D} {v : V} (h : Own G H H (.tup ds) v []) : ∃ a vs, v = .ref a ∧ H a = some (.tup vs) ∧ OwnL G H H ds vs [] := h
theorem OwnL.pure_any {Z Z' : Hp} {ds : List D} {vs : List V} {F : List Addr} (hp : D.pureL ds = true) (h : OwnL G Z H ds vs F) : OwnL G Z' H ds vs [] := (OwnL.ofPure ds vs F hp h).2
/-- a new tuple of pure items -/
theorem new_tup {H : Hp} {ds : List D} {vs : List V} {p : Addr} (hp : D.pureL ds = true) (hn : H p = none) (h : OwnL G H H ds vs []) (Z : Hp) : Own G Z (upd H p (.tup vs)) (.tup ds) (.ref p) [] :=
  ⟨p, vs, rfl, (upd_same : upd H p (.tup vs) p = some (.tup vs)), OwnL.keep (Same.refl Z) ds vs [] (fun b u e _ => same_upd hn b u e) (OwnL.pure_any hp h)⟩
/-- a new list of pure items -/
theorem new_lst {H : Hp} {ds : List D} {vs : List V} {p : Addr} (hp : D.pureL ds = true) (hn : H p = none) (h : OwnL G H H ds vs []) (Z : Hp) : Own G Z (upd H p (.lst vs)) (.lst ds) (.ref p) [p] :=
  ⟨p, vs, [], rfl, .inr ⟨rfl, upd_same⟩, OwnL.keep (Same.refl Z) ds vs [] (fun b u e _ => same_upd hn b u e) (OwnL.pure_any hp h)⟩
end

theorem D.pureL_append : ∀ (a b : List D), D.pureL (a ++ b) = (D.pureL a && D.pureL b)
  | [], b => by simp [D.pureL]
  | d :: r, b => by
    show (d.pure && D.pureL (r ++ b)) = (d.pure && D.pureL r && D.pureL b)
    rw [D.pureL_append r b, Bool.and_assoc]
theorem D.pureL_drop : ∀ (n : Nat) (a : List D), D.pureL a = true → D.pureL (a.drop n) = true
  | 0, a, h => h
  | n + 1, [], h => rfl
  | n + 1, d :: r, h => D.pureL_drop n r (by
    have h : (d.pure && D.pureL r) = true := h
    simp only [Bool.and_eq_true] at h
    exact h.2)
theorem D.pureL_take : ∀ (n : Nat) (a : List D), D.pureL a = true → D.pureL (a.take n) = true
  | 0, a, h => rfl
  | n + 1, [], h => rfl
  | n + 1, d :: r, h => by
    have h : (d.pure && D.pureL r) = true := h
    simp only [Bool.and_eq_true] at h
    show (d.pure && D.pureL (r.take n)) = true
    rw [h.1, D.pureL_take n r h.2]; rfl
theorem OwnL.drop {G : Gc} {Z H : Hp} : ∀ (n : Nat) {ds : List D} {vs : List V}, OwnL G Z H ds vs [] → OwnL G Z H (ds.drop n) (vs.drop n) []
  | 0, ds, vs, h => h
  | n + 1, [], vs, h => by rw [h.1]; exact ⟨rfl, rfl⟩
  | n + 1, d :: r, vs, h => by
    obtain ⟨v, r', rfl, _, h2⟩ := OwnL.uncons h
    exact OwnL.drop n h2
theorem OwnL.take {G : Gc} {Z H : Hp} : ∀ (n : Nat) {ds : List D} {vs : List V}, OwnL G Z H ds vs [] → OwnL G Z H (ds.take n) (vs.take n) []
  | 0, ds, vs, h => ⟨rfl, rfl⟩
  | n + 1, [], vs, h => by rw [h.1]; exact ⟨rfl, rfl⟩
  | n + 1, d :: r, vs, h => by
    obtain ⟨v, r', rfl, h1, h2⟩ := OwnL.uncons h
    exact OwnL.cons_nil h1 (OwnL.take n h2)

/-! ### the operations -/
def bin (f : D → D → Option D) : List D → Option D
  | [a, b] => f a b
  | _ => none
def una (f : D → Option D) : List D → Option D
  | [a] => f a
  | _ => none
theorem bin_some {f : D → D → Option D} : ∀ {ds : List D} {d : D}, bin f ds = some d → ∃ a b, ds = [a, b] ∧ f a b = some d
  | [], _, h => by cases h
  | [_], _, h => by cases h
  | [a, b], _, h => ⟨a, b, rfl, h⟩
  | _ :: _ :: _ :: _, _, h => by cases h
theorem una_some {f : D → Option D} : ∀ {ds : List D} {d : D}, una f ds = some d → ∃ a, ds = [a] ∧ f a = some d
  | [], _, h => by cases h
  | [a], _, h => ⟨a, rfl, h⟩
  | _ :: _ :: _, _, h => by cases h
def D.toInt : D → Option Int
  | .int i => some i
  | _ => none
def D.toStr : D → Option Str
  | .str i => some i
  | _ => none
def D.toTup : D → Option (List D)
  | .tupF false i => some i
  | _ => none
def D.toLst : D → Option (List D)
  | .lst i => some i
  | _ => none
/-- lists, and the script -/
def D.toRow : D → Option (List D)
  | .lst i => some i
  | .scr ns => some (ns.map D.int)
  | _ => none
theorem ints_rep {G : Gc} {Z H : Hp} : ∀ ns : List Int, OwnL G Z H (ns.map D.int) (ns.map V.int) []
  | [] => ⟨rfl, rfl⟩
  | i :: r => OwnL.cons_nil ⟨rfl, rfl⟩ (ints_rep r)
theorem Own.rowR {G : Gc} {H : Hp} {d : D} {ds : List D} {v : V} (h : Own G H H d v []) (e : d.toRow = some ds) : ∃ a vs, v = .ref a ∧ SqL G.K H a vs ∧ OwnL G H H ds vs [] := by
  cases d with
  | lst xs => cases e; exact h.lstR
  | scr ns =>
    cases e
    obtain ⟨_, a, rfl, hs⟩ := h
    exact ⟨a, _, rfl, hs, ints_rep ns⟩
  | _ => cases e
theorem D.toInt_some {d : D} {i : Int} (h : d.toInt = some i) : d = .int i := by
  cases d <;> first | (cases h; rfl) | cases h
theorem D.toStr_some {d : D} {i : Str} (h : d.toStr = some i) : d = .str i := by
  cases d <;> first | (cases h; rfl) | cases h
theorem D.toTup_some {d : D} {i : List D} (h : d.toTup = some i) : d = .tup i := by
  cases d with
  | tupF f xs => cases f <;> first | (cases h; rfl) | cases h
  | _ => cases h
def D.toTupA : D → Option (List D)
  | .tupF _ i => some i
  | _ => none
theorem D.toTupA_some {d : D} {i : List D} (h : d.toTupA = some i) : ∃ f, d = .tupF f i := by
  cases d with
  | tupF f xs => cases h; exact ⟨f, rfl⟩
  | _ => cases h
theorem D.toLst_some {d : D} {i : List D} (h : d.toLst = some i) : d = .lst i := by
  cases d <;> first | (cases h; rfl) | cases h
def bI (f : Int → Int → Option D) : D → D → Option D := fun a b => match a.toInt, b.toInt with
  | some i, some j => f i j
  | _, _ => none
theorem bI_some {f : Int → Int → Option D} {a b d : D} (h : bI f a b = some d) : ∃ i j, a = .int i ∧ b = .int j ∧ f i j = some d := by
  unfold bI at h
  cases ha : a.toInt with
  | none => rw [ha] at h; cases h
  | some i =>
    cases hb : b.toInt with
    | none => rw [ha, hb] at h; cases h
    | some j =>
      rw [ha, hb] at h
      exact ⟨i, j, D.toInt_some ha, D.toInt_some hb, h⟩
def bS (f : Str → Str → Option D) : D → D → Option D := fun a b => match a.toStr, b.toStr with
  | some i, some j => f i j
  | _, _ => none
theorem bS_some {f : Str → Str → Option D} {a b d : D} (h : bS f a b = some d) : ∃ i j, a = .str i ∧ b = .str j ∧ f i j = some d := by
  unfold bS at h
  cases ha : a.toStr with
  | none => rw [ha] at h; cases h
  | some i =>
    cases hb : b.toStr with
    | none => rw [ha, hb] at h; cases h
    | some j =>
      rw [ha, hb] at h
      exact ⟨i, j, D.toStr_some ha, D.toStr_some hb, h⟩
def bT (f : List D → List D → Option D) : D → D → Option D := fun a b => match a.toTup, b.toTup with
  | some i, some j => f i j
  | _, _ => none
theorem bT_some {f : List D → List D → Option D} {a b d : D} (h : bT f a b = some d) : ∃ i j, a = .tup i ∧ b = .tup j ∧ f i j = some d := by
  unfold bT at h
  cases ha : a.toTup with
  | none => rw [ha] at h; cases h
  | some i =>
    cases hb : b.toTup with
    | none => rw [ha, hb] at h; cases h
    | some j =>
      rw [ha, hb] at h
      exact ⟨i, j, D.toTup_some ha, D.toTup_some hb, h⟩
def bL (f : List D → List D → Option D) : D → D → Option D := fun a b => match a.toLst, b.toLst with
  | some i, some j => f i j
  | _, _ => none
theorem bL_some {f : List D → List D → Option D} {a b d : D} (h : bL f a b = some d) : ∃ i j, a = .lst i ∧ b = .lst j ∧ f i j = some d := by
  unfold bL at h
  cases ha : a.toLst with
  | none => rw [ha] at h; cases h
  | some i =>
    cases hb : b.toLst with
    | none => rw [ha, hb] at h; cases h
    | some j =>
      rw [ha, hb] at h
      exact ⟨i, j, D.toLst_some ha, D.toLst_some hb, h⟩
/-- a value where a condition holds -/
def iff? {α : Type} (p : Prop) [Decidable p] (d : α) : Option α := if p then some d else none
theorem iff?_some {α : Type} {p : Prop} [Decidable p] {d e : α} (h : iff? p d = some e) : p ∧ d = e := by
  unfold iff? at h
  split at h
  · rename_i hp; exact ⟨hp, Option.some.inj h⟩
  · cases h
theorem iff?_pos {α : Type} {p : Prop} [Decidable p] (h : p) (d : α) : iff? p d = some d := if_pos h
/-- * is told for what has together less than 2 ^ 26 bits -/
def MulOk (a b : Int) : Prop := a.natAbs.log2 + b.natAbs.log2 < 60000000
instance (a b : Int) : Decidable (MulOk a b) := by unfold MulOk; exact inferInstance

def fAdd (a b : D) : Option D := match a with
  | .int _ => bI (fun i j => some (.int (i + j))) a b
  | .str _ => bS (fun i j => iff? (i.length + j.length ≤ 16777216) (.str (i ++ j))) a b
  | .tupF _ _ => bT (fun x y => iff? (D.pureL x = true ∧ D.pureL y = true ∧ x.length + y.length ≤ 16777216) (.tup (x ++ y))) a b
  | _ => none
abbrev gAdd := bin fAdd
abbrev gSub := bin (bI fun i j => some (.int (i - j)))
abbrev gMul := bin (bI fun i j => iff? (MulOk i j) (.int (i * j)))
abbrev gDiv := bin (bI fun i j => iff? (0 < j ∧ j.natAbs.log2 < 9000) (.int (i / j)))
abbrev gMod := bin (bI fun i j => iff? (0 < j) (.int (i % j)))
abbrev gPow := bin (bI fun i j => iff? (0 ≤ j ∧ j ≤ 1000 ∧ i.natAbs < 1000000) (.int (i ^ j.toNat)))
abbrev gNeg := una fun a => a.toInt.map fun i => .int (-i)
abbrev gCatL := bin (bL fun x y => iff? (D.pureL x = true ∧ D.pureL y = true ∧ x.length + y.length ≤ 16777216) (.lst (x ++ y)))
def gEqB (a b : D) : Option Bool := match a.py, b.py with
  | some p, some q => iff? (SeqAt.shaped p = true ∧ SeqAt.shaped q = true) (PyData.eqv p q)
  | _, _ => none
abbrev gEq := bin fun a b => (gEqB a b).map .bl
abbrev gNe := bin fun a b => (gEqB a b).map fun k => .bl (!k)
def fLt (a b : D) : Option D := match a with
  | .int _ => bI (fun i j => some (.bl (decide (i < j)))) a b
  | .str _ => bS (fun i j => some (.bl (decide (i.cps.toList < j.cps.toList)))) a b
  | _ => none
abbrev gLt := bin fLt
abbrev gLe := bin (bI fun i j => some (.bl (decide (i ≤ j))))
abbrev gGt := bin (bI fun i j => some (.bl (decide (j < i))))
abbrev gGe := bin (bI fun i j => some (.bl (decide (j ≤ i))))
def D.isNon : D → Bool
  | .non => true
  | _ => false
theorem D.isNon_true {d : D} (h : d.isNon = true) : d = .non := by
  cases d <;> first | rfl | cases h
abbrev gIsN := bin fun a b => iff? (b.isNon = true) (.bl a.isNon)
abbrev gNotN := bin fun a b => iff? (b.isNon = true) (.bl (!a.isNon))

theorem size_line : (16777216 : Nat) = sizeLine := sizeLine_eq.symm

section
variable {G : Gc} {X : Cx}
theorem done0 {H : Hp} {d : D} {v : V} {Q : VK} (q : ∀ v H' F, Same H H' → (∀ Z, Own G Z H' d v F) → F.Nodup → (∀ a, a ∈ F → H a = none) → Q v H') (hp : ∀ Z, Own G Z H d v []) : Q v H :=
  q v H [] (Same.refl H) hp List.nodup_nil fun a m => by cases m
/-- an operation on two ints -/
theorem rop_int {C : Int → Int → Prop} {f : Int → Int → V} {h : Int → Int → Option D} {k : Int → Int → D} (hg : ∀ i j d, h i j = some d → C i j ∧ d = k i j) (ho : ∀ i j Z H, Own G Z H (k i j) (f i j) []) : ROp G (l2 (rI C f)) (bin (bI h)) := by
  intro ds vs H Q d hh e q
  obtain ⟨a, b, rfl, e⟩ := bin_some e
  obtain ⟨i, j, rfl, rfl, e⟩ := bI_some e
  obtain ⟨hc, rfl⟩ := hg i j d e
  obtain ⟨x, y, rfl, h1, h2⟩ := own2 hh
  exact ⟨i, j, h1.1, h2.1, hc, done0 q (fun Z => ho i j Z H)⟩
theorem rop_int0 {f : Int → Int → V} {h : Int → Int → Option D} {k : Int → Int → D} (hg : ∀ i j d, h i j = some d → d = k i j) (ho : ∀ i j Z H, Own G Z H (k i j) (f i j) []) : ROp G (l2 (rI0 f)) (bin (bI h)) := by
  intro ds vs H Q d hh e q
  obtain ⟨a, b, rfl, e⟩ := bin_some e
  obtain ⟨i, j, rfl, rfl, e⟩ := bI_some e
  obtain rfl := hg i j d e
  obtain ⟨x, y, rfl, h1, h2⟩ := own2 hh
  exact ⟨i, j, h1.1, h2.1, done0 q (fun Z => ho i j Z H)⟩
theorem pure_int {h : Int → Int → Option D} (hg : ∀ i j d, h i j = some d → d.pure = true) : PureG (bin (bI h)) := by
  intro ds d e
  obtain ⟨a, b, rfl, e⟩ := bin_some e
  obtain ⟨i, j, rfl, rfl, e⟩ := bI_some e
  exact hg i j d e
def rAddA (K : PySem.W.Frag) : R2 := fun x y H Q => (rI0 fun i j => V.int (i + j)) x y H Q ∨ (∃ i j, x = .str i ∧ y = .str j ∧ i.length + j.length ≤ sizeLine ∧ Q (.str (i ++ j)) H) ∨ rCatA K x y H Q
theorem op_addA : OpR X (binaryOp .Add) (rAddA X.K) := OpR.or op_add (OpR.or op_add_str op_catA)
theorem fAdd_some {a b d : D} (h : fAdd a b = some d) : (∃ i j, a = .int i ∧ b = .int j ∧ d = .int (i + j)) ∨ (∃ i j, a = .str i ∧ b = .str j ∧ i.length + j.length ≤ 16777216 ∧ d = .str (i ++ j)) ∨
    ∃ x y, a = .tup x ∧ b = .tup y ∧ (D.pureL x = true ∧ D.pureL y = true ∧ x.length + y.length ≤ 16777216) ∧ d = .tup (x ++ y) := by
  cases a with
  | int _ =>
    obtain ⟨i, j, e1, e2, e3⟩ := bI_some h
    cases e3
    exact .inl ⟨i, j, e1, e2, rfl⟩
  | str _ =>
    obtain ⟨i, j, e1, e2, e3⟩ := bS_some h
    obtain ⟨hl, rfl⟩ := iff?_some e3
    exact .inr (.inl ⟨i, j, e1, e2, hl, rfl⟩)
  | tupF _ _ =>
    obtain ⟨i, j, e1, e2, e3⟩ := bT_some h
    obtain ⟨hl, rfl⟩ := iff?_some e3
    exact .inr (.inr ⟨i, j, e1, e2, hl, rfl⟩)
  | _ => cases h
theorem rop_add : ROp G (l2 (rAddA G.K)) gAdd := by
  intro ds vs H Q d h e q
  obtain ⟨a, b, rfl, e⟩ := bin_some e
  obtain ⟨x, y, rfl, h1, h2⟩ := own2 h
  rcases fAdd_some e with ⟨i, j, rfl, rfl, rfl⟩ | ⟨i, j, rfl, rfl, hl, rfl⟩ | ⟨a, b, rfl, rfl, hl, rfl⟩
  · exact .inl ⟨i, j, h1.1, h2.1, done0 q (fun Z => ⟨rfl, rfl⟩)⟩
  · exact .inr (.inl ⟨i, j, h1.1, h2.1, by rw [← size_line]; exact hl, done0 q (fun Z => ⟨rfl, rfl⟩)⟩)
  · obtain ⟨p, us, rfl, e1, o1⟩ := h1
    obtain ⟨p2, us2, rfl, e2, o2⟩ := h2
    have l1 := OwnL.length o1
    have l2 := OwnL.length o2
    refine .inr (.inr ⟨p, p2, us, us2, rfl, rfl, SqT.of e1, SqT.of e2, by rw [← size_line, l1, l2]; exact hl.2.2, fun z => ?_, fun _ z => ?_, fun _ _ p3 hn => ?_⟩)
    · subst z
      have : a = [] := List.eq_nil_of_length_eq_zero l1.symm
      subst this
      exact done0 q (fun Z => ⟨p2, us2, rfl, e2, OwnL.pure_any hl.2.1 o2⟩)
    · subst z
      have : b = [] := List.eq_nil_of_length_eq_zero l2.symm
      subst this
      rw [List.append_nil] at q
      exact done0 q (fun Z => ⟨p, us, rfl, e1, OwnL.pure_any hl.1 o1⟩)
    · have hpp : D.pureL (a ++ b) = true := by rw [D.pureL_append, hl.1, hl.2.1]; rfl
      have hap := OwnL.append o1 o2
      rw [List.append_nil] at hap
      exact q _ _ [] (same_upd hn) (fun Z => new_tup hpp hn hap Z) List.nodup_nil fun a m => by cases m
theorem pure_add : PureG gAdd := by
  intro ds d e
  obtain ⟨a, b, rfl, e⟩ := bin_some e
  rcases fAdd_some e with ⟨i, j, rfl, rfl, rfl⟩ | ⟨i, j, rfl, rfl, hl, rfl⟩ | ⟨a, b, rfl, rfl, hl, rfl⟩
  · rfl
  · rfl
  · show D.pureL (a ++ b) = true
    rw [D.pureL_append, hl.1, hl.2.1]; rfl
theorem rop_sub : ROp G (l2 (rI0 fun i j => V.int (i - j))) gSub := rop_int0 (k := fun i j => .int (i - j)) (fun i j d e => (Option.some.inj e).symm) fun i j Z H => ⟨rfl, rfl⟩
theorem pure_sub : PureG gSub := pure_int fun i j d e => by cases e; rfl
theorem MulOk.ok {i j : Int} (h : MulOk i j) : IntMulOk i j := by
  have b : ∀ x : Int, Builtin.Int.intBits x ≤ x.natAbs.log2 + 1 := fun x => by
    unfold Builtin.Int.intBits
    split <;> omega
  have h1 := b i
  have h2 := b j
  unfold MulOk at h
  have e : bitsLine = 134217728 := by decide
  unfold IntMulOk
  intro z
  rw [Bool.and_eq_true] at z
  have z2 := z.2
  unfold Builtin.Int.intTooBig at z2
  have z3 := of_decide_eq_true z2
  rw [e] at z3
  omega
theorem op_mulD : OpR X (binaryOp .Mult) (rI MulOk fun i j => .int (i * j)) := opI fun _ _ _ _ _ _ _ hc q => mul_int q hc.ok
theorem rop_mul : ROp G (l2 (rI MulOk fun i j => V.int (i * j))) gMul := rop_int (k := fun i j => .int (i * j)) (fun i j d e => by
  obtain ⟨h, rfl⟩ := iff?_some e
  exact ⟨h, rfl⟩) fun i j Z H => ⟨rfl, rfl⟩
theorem pure_mul : PureG gMul := pure_int fun i j d e => by
  obtain ⟨h, rfl⟩ := iff?_some e
  rfl
theorem rop_div : ROp G (l2 (rI CDivW fun i j => V.int (i / j))) gDiv := rop_int (k := fun i j => .int (i / j)) (fun i j d e => by
  obtain ⟨h, rfl⟩ := iff?_some e
  exact ⟨h, rfl⟩) fun i j Z H => ⟨rfl, rfl⟩
theorem pure_div : PureG gDiv := pure_int fun i j d e => by
  obtain ⟨h, rfl⟩ := iff?_some e
  rfl
theorem rop_mod : ROp G (l2 (rI (fun _ j => 0 < j) fun i j => V.int (i % j))) gMod := rop_int (k := fun i j => .int (i % j)) (fun i j d e => by
  obtain ⟨h, rfl⟩ := iff?_some e
  exact ⟨h, rfl⟩) fun i j Z H => ⟨rfl, rfl⟩
theorem pure_mod : PureG gMod := pure_int fun i j d e => by
  obtain ⟨h, rfl⟩ := iff?_some e
  rfl
theorem rop_pow : ROp G (l2 (rI CPow fun i j => V.int (i ^ j.toNat))) gPow := rop_int (k := fun i j => .int (i ^ j.toNat)) (fun i j d e => by
  obtain ⟨h, rfl⟩ := iff?_some e
  exact ⟨⟨h.1, by omega, by omega⟩, rfl⟩) fun i j Z H => ⟨rfl, rfl⟩
theorem pure_pow : PureG gPow := pure_int fun i j d e => by
  obtain ⟨h, rfl⟩ := iff?_some e
  rfl
theorem rop_neg : ROp G (l1 (rU fun i => V.int (-i))) gNeg := by
  intro ds vs H Q d h e q
  obtain ⟨a, rfl, e2⟩ := una_some e
  clear e
  cases ha : a.toInt with
  | none => rw [ha] at e2; cases e2
  | some i =>
    rw [ha] at e2
    cases e2
    obtain rfl := D.toInt_some ha
    obtain ⟨x, rfl, h1⟩ := own1 h
    exact ⟨i, h1.1, done0 q (fun Z => ⟨rfl, rfl⟩)⟩
theorem pure_neg : PureG gNeg := by
  intro ds d e
  obtain ⟨a, rfl, e2⟩ := una_some e
  clear e
  cases ha : a.toInt with
  | none => rw [ha] at e2; cases e2
  | some i =>
    rw [ha] at e2
    cases e2
    rfl
theorem gEqB_some {a b : D} {k : Bool} (h : gEqB a b = some k) : ∃ p q, a.py = some p ∧ b.py = some q ∧ SeqAt.shaped p = true ∧ SeqAt.shaped q = true ∧ k = PyData.eqv p q := by
  unfold gEqB at h
  cases hp : a.py with
  | none => rw [hp] at h; cases h
  | some p =>
    cases hq : b.py with
    | none => rw [hp, hq] at h; cases h
    | some q =>
      rw [hp, hq] at h
      obtain ⟨hs, e⟩ := iff?_some h
      exact ⟨p, q, rfl, rfl, hs.1, hs.2, e.symm⟩
theorem map_some' {α β : Type} {f : α → β} {o : Option α} {b : β} (h : o.map f = some b) : ∃ a, o = some a ∧ f a = b := by
  cases o with
  | none => cases h
  | some a => exact ⟨a, rfl, Option.some.inj h⟩
theorem rop_eq : ROp G (l2 (rEqD G.K)) gEq := by
  intro ds vs H Q d h e q
  obtain ⟨a, b, rfl, e⟩ := bin_some e
  obtain ⟨x, y, rfl, h1, h2⟩ := own2 h
  obtain ⟨k, hk, rfl⟩ := map_some' e
  obtain ⟨p, r, ep, er, sp, sr, rfl⟩ := gEqB_some hk
  exact ⟨p, r, Own.dp a x p h1 ep, Own.dp b y r h2 er, sp, sr, done0 q (fun Z => ⟨rfl, rfl⟩)⟩
theorem pure_eq : PureG gEq := by
  intro ds d e
  obtain ⟨a, b, rfl, e⟩ := bin_some e
  obtain ⟨k, hk, rfl⟩ := map_some' e
  rfl
theorem rop_ne : ROp G (l2 (rNeD G.K)) gNe := by
  intro ds vs H Q d h e q
  obtain ⟨a, b, rfl, e⟩ := bin_some e
  obtain ⟨x, y, rfl, h1, h2⟩ := own2 h
  obtain ⟨k, hk, rfl⟩ := map_some' e
  obtain ⟨p, r, ep, er, sp, sr, rfl⟩ := gEqB_some hk
  exact ⟨p, r, Own.dp a x p h1 ep, Own.dp b y r h2 er, sp, sr, done0 q (fun Z => ⟨rfl, rfl⟩)⟩
theorem pure_ne : PureG gNe := by
  intro ds d e
  obtain ⟨a, b, rfl, e⟩ := bin_some e
  obtain ⟨k, hk, rfl⟩ := map_some' e
  rfl
def rLtA : R2 := fun x y H Q => (rI0 fun i j => V.bl (decide (i < j))) x y H Q ∨ (∃ i j, x = .str i ∧ y = .str j ∧ Q (.bl (decide (i.cps.toList < j.cps.toList))) H)
theorem op_ltA : OpR X (compareOp .Lt) rLtA := OpR.or op_lt op_lt_str
theorem fLt_some {a b d : D} (h : fLt a b = some d) : (∃ i j, a = .int i ∧ b = .int j ∧ d = .bl (decide (i < j))) ∨ ∃ i j, a = .str i ∧ b = .str j ∧ d = .bl (decide (i.cps.toList < j.cps.toList)) := by
  cases a with
  | int _ =>
    obtain ⟨i, j, e1, e2, e3⟩ := bI_some h
    cases e3
    exact .inl ⟨i, j, e1, e2, rfl⟩
  | str _ =>
    obtain ⟨i, j, e1, e2, e3⟩ := bS_some h
    cases e3
    exact .inr ⟨i, j, e1, e2, rfl⟩
  | _ => cases h
theorem rop_lt : ROp G (l2 rLtA) gLt := by
  intro ds vs H Q d h e q
  obtain ⟨a, b, rfl, e⟩ := bin_some e
  obtain ⟨x, y, rfl, h1, h2⟩ := own2 h
  rcases fLt_some e with ⟨i, j, rfl, rfl, rfl⟩ | ⟨i, j, rfl, rfl, rfl⟩
  · exact .inl ⟨i, j, h1.1, h2.1, done0 q (fun Z => ⟨rfl, rfl⟩)⟩
  · exact .inr ⟨i, j, h1.1, h2.1, done0 q (fun Z => ⟨rfl, rfl⟩)⟩
theorem pure_lt : PureG gLt := by
  intro ds d e
  obtain ⟨a, b, rfl, e⟩ := bin_some e
  rcases fLt_some e with ⟨i, j, rfl, rfl, rfl⟩ | ⟨i, j, rfl, rfl, rfl⟩ <;> rfl
theorem rop_le : ROp G (l2 (rI0 fun i j => V.bl (decide (i ≤ j)))) gLe := rop_int0 (k := fun i j => .bl (decide (i ≤ j))) (fun i j d e => (Option.some.inj e).symm) fun i j Z H => ⟨rfl, rfl⟩
theorem pure_le : PureG gLe := pure_int fun i j d e => by cases e; rfl
theorem rop_gt : ROp G (l2 (rI0 fun i j => V.bl (decide (j < i)))) gGt := rop_int0 (k := fun i j => .bl (decide (j < i))) (fun i j d e => (Option.some.inj e).symm) fun i j Z H => ⟨rfl, rfl⟩
theorem pure_gt : PureG gGt := pure_int fun i j d e => by cases e; rfl
theorem rop_ge : ROp G (l2 (rI0 fun i j => V.bl (decide (j ≤ i)))) gGe := rop_int0 (k := fun i j => .bl (decide (j ≤ i))) (fun i j d e => (Option.some.inj e).symm) fun i j Z H => ⟨rfl, rfl⟩
theorem pure_ge : PureG gGe := pure_int fun i j d e => by cases e; rfl
theorem Own.isNon {Z H : Hp} {d : D} {v : V} {F : List Addr} (h : Own G Z H d v F) : decide (v = V.non) = d.isNon := by
  cases d with
  | non => rw [h.1]; rfl
  | bl _ => rw [h.1]; rfl
  | int _ => rw [h.1]; rfl
  | str _ => rw [h.1]; rfl
  | scr _ => obtain ⟨_, a, rfl, _⟩ := h; rfl
  | tupF _ _ => obtain ⟨a, _, rfl, _⟩ := h; rfl
  | lst _ => obtain ⟨a, _, _, rfl, _⟩ := h; rfl
  | dk _ _ => obtain ⟨a, _, _, rfl, _⟩ := h; rfl
  | dt _ _ => obtain ⟨a, _, _, rfl, _⟩ := h; rfl
  | obj _ _ _ => obtain ⟨a, _, _, _, _, rfl, _⟩ := h; rfl
theorem rop_isN : ROp G (l2 fun x y H Q => y = .non ∧ Q (.bl (decide (x = .non))) H) gIsN := by
  intro ds vs H Q d h e q
  obtain ⟨a, b, rfl, e⟩ := bin_some e
  obtain ⟨hb, rfl⟩ := iff?_some e
  obtain rfl := D.isNon_true hb
  obtain ⟨x, y, rfl, h1, h2⟩ := own2 h
  refine ⟨h2.1, ?_⟩
  rw [h1.isNon]
  exact done0 q (fun Z => ⟨rfl, rfl⟩)
theorem pure_isN : PureG gIsN := by
  intro ds d e
  obtain ⟨a, b, rfl, e⟩ := bin_some e
  obtain ⟨hb, rfl⟩ := iff?_some e
  rfl
theorem rop_notN : ROp G (l2 fun x y H Q => y = .non ∧ Q (.bl (!decide (x = .non))) H) gNotN := by
  intro ds vs H Q d h e q
  obtain ⟨a, b, rfl, e⟩ := bin_some e
  obtain ⟨hb, rfl⟩ := iff?_some e
  obtain rfl := D.isNon_true hb
  obtain ⟨x, y, rfl, h1, h2⟩ := own2 h
  refine ⟨h2.1, ?_⟩
  rw [h1.isNon]
  exact done0 q (fun Z => ⟨rfl, rfl⟩)
theorem pure_notN : PureG gNotN := by
  intro ds d e
  obtain ⟨a, b, rfl, e⟩ := bin_some e
  obtain ⟨hb, rfl⟩ := iff?_some e
  rfl

/-! ### binary operators, comparisons, signs -/
variable {W : Wsh} {a b : Expr} {ta tb : TE} {pos : Pos} {s1 s2 : SArg} {c : Chn} {r : R2} {g : List D → Option D}
theorem p_bin {op : Operator} (ho : OpR X (binaryOp op) r) (hr : ROp G (l2 r) g) (hp : PureG g) (ha : PE X a (s1.te G)) (hb : PE X b (s2.te G)) : PE X (.BinOp a op b pos) (TPur G (hOp [s1, s2] g)) :=
  (pe_op ho ha hb).imp fun σ H Q h => tpur_op hr hp σ H Q h
theorem e_bin {op : Operator} (ho : OpR X (binaryOp op) r) (hr : ROp G (l2 r) g) (c : Chn) (ha : PE X a ta) (hb : PE X b tb) (hc : c.tes G W = [ta, tb] := by rfl) (hn : c.iofs.any id = false := by rfl) : PE X (.BinOp a op b pos) (TV G W (eOp c g)) :=
  (pe_op ho ha hb).imp fun σ H Q h => by
    have q := tv_op hr hn σ H Q h
    rw [hc] at q
    exact q
theorem p_un {op : UnaryOp} {r : V → Hp → VK → Prop} (ho : UnR X (unaryOp op) r) (hr : ROp G (l1 r) g) (hp : PureG g) (ha : PE X a (s1.te G)) : PE X (.UnaryOp op a pos) (TPur G (hOp [s1] g)) :=
  (pe_un ho ha).imp fun σ H Q h => tpur_op hr hp σ H Q h
theorem p_cmp {op : CmpOp} (ho : OpR X (compareOp op) r) (hr : ROp G (l2 r) g) (hp : PureG g) (ha : PE X a (s1.te G)) (hb : PE X b (s2.te G)) (hm : behindInMarks op b = false := by first | exact nomark _ | rfl) : PE X (.Compare a [op] [b] pos) (TPur G (hOp [s1, s2] g)) :=
  (pe_cmpR ho ha hb hm).imp fun σ H Q h => tpur_op hr hp σ H Q h
theorem e_cmp {op : CmpOp} (ho : OpR X (compareOp op) r) (hr : ROp G (l2 r) g) (c : Chn) (ha : PE X a ta) (hb : PE X b tb) (hm : behindInMarks op b = false := by first | exact nomark _ | rfl) (hc : c.tes G W = [ta, tb] := by rfl) (hn : c.iofs.any id = false := by rfl) : PE X (.Compare a [op] [b] pos) (TV G W (eOp c g)) :=
  (pe_cmpR ho ha hb hm).imp fun σ H Q h => by
    have q := tv_op hr hn σ H Q h
    rw [hc] at q
    exact q
end
end DL

namespace DL
open PySem PySem.Spec PyProof.Rows L2

/-! ### places -/
def dIx (d : D) (i : Int) : Option D := match d with
  | .lst ds => atI ds i
  | .tupF _ ds => atI ds i
  | .scr ns => (atI ns i).map .int
  | _ => none
theorem atI_map {α β : Type} (f : α → β) (l : List α) (i : Int) : atI (l.map f) i = (atI l i).map f := by
  unfold atI
  rw [List.length_map]
  cases ixN l.length i with
  | none => rfl
  | some j => exact List.getElem?_map
def gAt (d k : D) : Option D := match k.toInt with
  | some i => dIx d i
  | none => none
def pIx (g h : DEnv → Option D) : DEnv → Option D := fun env => match g env, h env with
  | some d, some k => gAt d k
  | _, _ => none
theorem atI_own {G : Gc} {Z H : Hp} {ds : List D} {vs : List V} {i : Int} {d : D} (h : OwnL G Z H ds vs []) (e : atI ds i = some d) : ∃ v, atI vs i = some v ∧ Own G Z H d v [] := by
  have l := OwnL.length h
  unfold atI at e ⊢
  rw [l]
  cases hj : ixN ds.length i with
  | none => rw [hj] at e; cases e
  | some j =>
    rw [hj] at e
    exact OwnL.get (i := j) h e
theorem lockB_mono {B H H1 : Hp} {Fs : Nat → List Addr} {i : Nat} (h : Same H H1) : Same (lockB B H Fs i) (lockB B H1 Fs i) := fun a o e => by
  unfold lockB lay at e ⊢
  split
  · rename_i m
    rw [if_pos m] at e
    exact h _ _ e
  · rename_i m
    rw [if_neg m] at e
    exact e
theorem Good.joi_up {G : Gc} {B Z H H1 : Hp} {σ : L2.St} {env : DEnv} {Fs : Nat → List Addr} (g : Good G B Z H σ env Fs) (hs : Same H H1) (i : Nat) : Same (joi (lockB B H Fs i) Z) (joi (lockB B H1 Fs i) Z) :=
  joi_mono (lockB_mono hs) (Same.refl Z) (lockB_le (g.grow hs) i) (g.grow hs).sz
theorem Good.joi_in {G : Gc} {B Z H : Hp} {σ : L2.St} {env : DEnv} {Fs : Nat → List Addr} (g : Good G B Z H σ env Fs) (i : Nat) : Same (joi (lockB B H Fs i) Z) H := joi_le (lockB_le g i) g.sz
/-- a list or tuple that is read in Y -/
theorem Own.seq {G : Gc} {Y H : Hp} {d : D} {v : V} {i : Int} {e : D} (hY : Same Y H) (h : Own G Y H d v []) (hi : dIx d i = some e) :
    ∃ a vs u, v = .ref a ∧ (SqL G.K H a vs ∨ SqT G.K H a vs) ∧ atI vs i = some u ∧ Own G Y H e u [] := by
  cases d with
  | lst ds =>
    obtain ⟨a, vs, F', rfl, n, h2⟩ := h
    rcases n with ⟨hs, _, rfl⟩ | ⟨z, _⟩
    · obtain ⟨u, hu, ho⟩ := atI_own h2 hi
      exact ⟨a, vs, u, rfl, .inl (hY.seq (.inl hs)), hu, ho⟩
    · cases z
  | tupF f ds =>
    obtain ⟨a, vs, rfl, h1, h2⟩ := h
    obtain ⟨u, hu, ho⟩ := atI_own h2 hi
    exact ⟨a, vs, u, rfl, .inr h1.seq, hu, ho⟩
  | scr ns =>
    obtain ⟨_, a, rfl, hs⟩ := h
    have hi : (atI ns i).map D.int = some e := hi
    cases hn : atI ns i with
    | none => rw [hn] at hi; cases hi
    | some n =>
      rw [hn] at hi
      cases hi
      exact ⟨a, ns.map V.int, .int n, rfl, .inl (hY.seq hs), by rw [atI_map, hn]; rfl, rfl, rfl⟩
  | _ => cases hi
def rIxA (K : PySem.W.Frag) : R2 := fun x y H Q => rIxL K x y H Q ∨ rIxT K x y H Q
section
variable {G : Gc} {X : Cx} {W : Wsh}
theorem ix_any : IxR X (rIxA X.K) := IxR.or ix_list ix_tup
theorem l_ix {a b : Expr} {i : Nat} {g h : DEnv → Option D} {pos : Pos} (dx : DX X G) (ha : PE X a (TPlc G i g)) (hb : PE X b (TPur G h)) (hs : PlainIx b := by exact fun _ _ => rfl) : PE X (.Subscript a b pos) (TPlc G i (pIx g h)) :=
  (pe_ix ix_any ha hb hs).imp fun σ H Q ⟨B, Z, Fs, env, gd, d, hd, q⟩ => by
    unfold pIx at hd
    cases hg : g env with
    | none => rw [hg] at hd; cases hd
    | some d0 =>
      cases hh : h env with
      | none => rw [hg, hh] at hd; cases hd
      | some k =>
        rw [hg, hh] at hd
        have hd : gAt d0 k = some d := hd
        unfold gAt at hd
        cases hk : k.toInt with
        | none => rw [hk] at hd; cases hd
        | some n =>
          rw [hk] at hd
          obtain rfl := D.toInt_some hk
          refine ⟨B, Z, Fs, env, gd, d0, hg, fun v H1 hs1 ho => ?_⟩
          refine ⟨B, Z, Fs, env, gd.grow hs1, _, hh, fun w H2 hs2 _ hw => ?_⟩
          have g2 := gd.grow (hs1.trans hs2)
          have ho2 : Own G (joi (lockB B H2 Fs i) Z) H2 d0 v [] := Own.keep ((gd.grow hs1).joi_up hs2 i) d0 v [] (fun b u e _ => hs2 b u e) ho
          obtain ⟨a, vs, u, rfl, hsq, hu, ho3⟩ := Own.seq (g2.joi_in i) ho2 hd
          have hw0 := (hw Z).1
          subst hw0
          have fin := q u H2 (hs1.trans hs2) ho3
          rcases hsq with hsq | hsq
          · exact .inl ⟨a, vs, n, u, rfl, rfl, by rw [dx.K]; exact hsq, hu, fin⟩
          · exact .inr ⟨a, vs, n, u, rfl, rfl, by rw [dx.K]; exact hsq, hu, fin⟩

/-! ### items and slices, as operations -/
def fIx (d k : D) : Option D := match k.toInt with
  | some i => match d with
    | .str s => match atI s.cps.toList i with
      | some c => iff? (s.length ≤ 16777216) (.str ⟨#[c]⟩)
      | none => none
    | d => match dIx d i with
      | some e => iff? (e.pure = true) e
      | none => none
  | none => none
abbrev gIx := bin fIx
def rIx3 (K : PySem.W.Frag) : R2 := fun x y H Q => rIxL K x y H Q ∨ rIxT K x y H Q ∨ rIxS x y H Q
theorem ix_3 : IxR X (rIx3 X.K) := IxR.or ix_list (IxR.or ix_tup ix_str)
theorem fIx_some {d k e : D} (h : fIx d k = some e) : ∃ i, k = .int i ∧ ((∃ s c, d = .str s ∧ atI s.cps.toList i = some c ∧ s.length ≤ 16777216 ∧ e = .str ⟨#[c]⟩) ∨ (dIx d i = some e ∧ e.pure = true)) := by
  unfold fIx at h
  cases hk : k.toInt with
  | none => rw [hk] at h; cases h
  | some i =>
    rw [hk] at h
    refine ⟨i, D.toInt_some hk, ?_⟩
    cases d with
    | str s =>
      have h : (match atI s.cps.toList i with
        | some c => iff? (s.length ≤ 16777216) (D.str ⟨#[c]⟩)
        | none => none) = some e := h
      cases hc : atI s.cps.toList i with
      | none => rw [hc] at h; cases h
      | some c =>
        rw [hc] at h
        obtain ⟨hl, rfl⟩ := iff?_some h
        exact .inl ⟨s, c, rfl, hc, hl, rfl⟩
    | lst ds =>
      have h : (match dIx (.lst ds) i with
        | some e => iff? (e.pure = true) e
        | none => none) = some e := h
      cases hc : dIx (.lst ds) i with
      | none => rw [hc] at h; cases h
      | some c =>
        rw [hc] at h
        obtain ⟨hl, rfl⟩ := iff?_some h
        exact .inr ⟨rfl, hl⟩
    | tupF f ds =>
      have h : (match dIx (.tupF f ds) i with
        | some e => iff? (e.pure = true) e
        | none => none) = some e := h
      cases hc : dIx (.tupF f ds) i with
      | none => rw [hc] at h; cases h
      | some c =>
        rw [hc] at h
        obtain ⟨hl, rfl⟩ := iff?_some h
        exact .inr ⟨rfl, hl⟩
    | scr ns =>
      have h : (match dIx (.scr ns) i with
        | some e => iff? (e.pure = true) e
        | none => none) = some e := h
      cases hc : dIx (.scr ns) i with
      | none => rw [hc] at h; cases h
      | some c =>
        rw [hc] at h
        obtain ⟨hl, rfl⟩ := iff?_some h
        exact .inr ⟨rfl, hl⟩
    | _ => cases h
theorem rop_ix : ROp G (l2 (rIx3 G.K)) gIx := by
  intro ds vs H Q d h e q
  obtain ⟨a, b, rfl, e⟩ := bin_some e
  obtain ⟨x, y, rfl, h1, h2⟩ := own2 h
  obtain ⟨i, rfl, e2⟩ := fIx_some e
  rcases e2 with ⟨s, c, rfl, hc, hl, rfl⟩ | ⟨he, hp⟩
  · exact .inr (.inr ⟨s, i, c, h1.1, h2.1, by rw [← size_line]; exact hl, hc, done0 q (fun Z => ⟨rfl, rfl⟩)⟩)
  · obtain ⟨p, vs, u, rfl, hsq, hu, ho3⟩ := Own.seq (Same.refl H) h1 he
    have fin := done0 q fun Z => (Own.ofPure (Z' := Z) d u [] hp ho3).2
    rcases hsq with hsq | hsq
    · exact .inl ⟨p, vs, i, u, rfl, h2.1, hsq, hu, fin⟩
    · exact .inr (.inl ⟨p, vs, i, u, rfl, h2.1, hsq, hu, fin⟩)
theorem pure_ix : PureG gIx := by
  intro ds d e
  obtain ⟨a, b, rfl, e⟩ := bin_some e
  obtain ⟨i, rfl, e2⟩ := fIx_some e
  rcases e2 with ⟨s, c, rfl, hc, hl, rfl⟩ | ⟨he, hp⟩
  · rfl
  · exact hp
theorem p_ixo {a b : Expr} {s1 s2 : SArg} {pos : Pos} (dx : DX X G) (ha : PE X a (s1.te G)) (hb : PE X b (s2.te G)) (hs : PlainIx b := by exact fun _ _ => rfl) : PE X (.Subscript a b pos) (TPur G (hOp [s1, s2] gIx)) :=
  (pe_ix ix_3 ha hb hs).imp fun σ H Q h => tpur_op (r := l2 (rIx3 X.K)) (by rw [dx.K]; exact rop_ix) pure_ix σ H Q h
theorem e_ixo {a b : Expr} {ta tb : TE} {pos : Pos} (dx : DX X G) (c : Chn) (ha : PE X a ta) (hb : PE X b tb) (hc : c.tes G W = [ta, tb] := by rfl) (hn : c.iofs.any id = false := by rfl) (hs : PlainIx b := by exact fun _ _ => rfl) : PE X (.Subscript a b pos) (TV G W (eOp c gIx)) :=
  (pe_ix ix_3 ha hb hs).imp fun σ H Q h => by
    have q := tv_op (r := l2 (rIx3 X.K)) (by rw [dx.K]; exact rop_ix) hn σ H Q h
    rw [hc] at q
    exact q

/-- the items from lo up to hi -/
def cutD (xs : List D) (lo hi : Option Int) : List D := (xs.drop (HT.sIx xs.length 0 lo)).take (HT.sIx xs.length xs.length hi - HT.sIx xs.length 0 lo)
theorem cutD_pure {xs : List D} {lo hi : Option Int} (h : D.pureL xs = true) : D.pureL (cutD xs lo hi) = true := D.pureL_take _ _ (D.pureL_drop _ _ h)
theorem cutD_own {Z H : Hp} {xs : List D} {vs : List V} {lo hi : Option Int} (h : OwnL G Z H xs vs []) : OwnL G Z H (cutD xs lo hi) (cutV vs lo hi) [] := by
  have l := OwnL.length h
  unfold cutV cutD
  rw [l]
  exact OwnL.take _ (OwnL.drop _ h)
def fSlP (d : D) (lo hi : Option Int) : Option D := match d with
  | .str s => iff? (s.length ≤ 16777216) (.str (cutS s lo hi))
  | .tupF false xs => iff? (D.pureL xs = true) (.tup (cutD xs lo hi))
  | _ => none
def fSlL (d : D) (lo hi : Option Int) : Option D := match d.toRow with
  | some xs => iff? (D.pureL xs = true) (.lst (cutD xs lo hi))
  | none => none
/-- base, and the parts that are written -/
def sl2 (f : D → Option Int → Option Int → Option D) : List D → Option D
  | [d, l, h] => match l.toInt, h.toInt with
    | some l, some h => f d (some l) (some h)
    | _, _ => none
  | _ => none
def slL (f : D → Option Int → Option Int → Option D) : List D → Option D := bin fun d l => match l.toInt with
  | some l => f d (some l) none
  | none => none
def slH (f : D → Option Int → Option Int → Option D) : List D → Option D := bin fun d h => match h.toInt with
  | some h => f d none (some h)
  | none => none
def sl0 (f : D → Option Int → Option Int → Option D) : List D → Option D := una fun d => f d none none
abbrev RS := V → Option Int → Option Int → Hp → VK → Prop
def rs2 (r : RS) : List V → Hp → VK → Prop := fun vs H Q => match vs with
  | [x, l, h] => ∃ i, l = .int i ∧ ∃ j, h = .int j ∧ r x (some i) (some j) H Q
  | _ => False
def rsL (r : RS) : List V → Hp → VK → Prop := l2 fun x l H Q => ∃ i, l = .int i ∧ r x (some i) none H Q
def rsH (r : RS) : List V → Hp → VK → Prop := l2 fun x h H Q => ∃ j, h = .int j ∧ r x none (some j) H Q
def rs0 (r : RS) : List V → Hp → VK → Prop := l1 fun x H Q => r x none none H Q
/-- a slice by its parts -/
def RSl (G : Gc) (r : RS) (f : D → Option Int → Option Int → Option D) : Prop :=
  ∀ (a : D) (x : V) (lo hi : Option Int) (H : Hp) (Q : VK) (d : D), Own G H H a x [] → f a lo hi = some d → (∀ v H' F, Same H H' → (∀ Z, Own G Z H' d v F) → F.Nodup → (∀ a, a ∈ F → H a = none) → Q v H') → r x lo hi H Q
theorem sl2_some {f : D → Option Int → Option Int → Option D} {ds : List D} {d : D} (h : sl2 f ds = some d) : ∃ a i j, ds = [a, .int i, .int j] ∧ f a (some i) (some j) = some d := by
  match ds, h with
  | [a, l, u], h =>
    have h : (match l.toInt, u.toInt with
      | some l, some h => f a (some l) (some h)
      | _, _ => none) = some d := h
    cases hl : l.toInt with
    | none => rw [hl] at h; cases h
    | some i =>
      cases hu : u.toInt with
      | none => rw [hl, hu] at h; cases h
      | some j =>
        rw [hl, hu] at h
        exact ⟨a, i, j, by rw [D.toInt_some hl, D.toInt_some hu], h⟩
theorem slL_some {f : D → Option Int → Option Int → Option D} {ds : List D} {d : D} (h : slL f ds = some d) : ∃ a i, ds = [a, .int i] ∧ f a (some i) none = some d := by
  obtain ⟨a, l, rfl, h2⟩ := bin_some h
  have h2 : (match l.toInt with
    | some l => f a (some l) none
    | none => none) = some d := h2
  cases hl : l.toInt with
  | none => rw [hl] at h2; cases h2
  | some i =>
    rw [hl] at h2
    exact ⟨a, i, by rw [D.toInt_some hl], h2⟩
theorem slH_some {f : D → Option Int → Option Int → Option D} {ds : List D} {d : D} (h : slH f ds = some d) : ∃ a i, ds = [a, .int i] ∧ f a none (some i) = some d := by
  obtain ⟨a, l, rfl, h2⟩ := bin_some h
  have h2 : (match l.toInt with
    | some l => f a none (some l)
    | none => none) = some d := h2
  cases hl : l.toInt with
  | none => rw [hl] at h2; cases h2
  | some i =>
    rw [hl] at h2
    exact ⟨a, i, by rw [D.toInt_some hl], h2⟩
theorem RSl.r2 {r : RS} {f : D → Option Int → Option Int → Option D} (h : RSl G r f) : ROp G (rs2 r) (sl2 f) := by
  intro ds vs H Q d ho e q
  obtain ⟨a, i, j, rfl, e⟩ := sl2_some e
  obtain ⟨x, y, z, rfl, h1, h2, h3⟩ := own3 ho
  exact ⟨i, h2.1, j, h3.1, h a x _ _ H Q d h1 e q⟩
theorem RSl.rL {r : RS} {f : D → Option Int → Option Int → Option D} (h : RSl G r f) : ROp G (rsL r) (slL f) := by
  intro ds vs H Q d ho e q
  obtain ⟨a, i, rfl, e⟩ := slL_some e
  obtain ⟨x, y, rfl, h1, h2⟩ := own2 ho
  exact ⟨i, h2.1, h a x _ _ H Q d h1 e q⟩
theorem RSl.rH {r : RS} {f : D → Option Int → Option Int → Option D} (h : RSl G r f) : ROp G (rsH r) (slH f) := by
  intro ds vs H Q d ho e q
  obtain ⟨a, i, rfl, e⟩ := slH_some e
  obtain ⟨x, y, rfl, h1, h2⟩ := own2 ho
  exact ⟨i, h2.1, h a x _ _ H Q d h1 e q⟩
theorem RSl.r0 {r : RS} {f : D → Option Int → Option Int → Option D} (h : RSl G r f) : ROp G (rs0 r) (sl0 f) := by
  intro ds vs H Q d ho e q
  obtain ⟨a, rfl, e⟩ := una_some e
  obtain ⟨x, rfl, h1⟩ := own1 ho
  exact h a x _ _ H Q d h1 e q
def PureS (f : D → Option Int → Option Int → Option D) : Prop := ∀ a lo hi d, f a lo hi = some d → d.pure = true
theorem PureS.p2 {f : D → Option Int → Option Int → Option D} (h : PureS f) : PureG (sl2 f) := fun ds d e => by
  obtain ⟨a, i, j, rfl, e⟩ := sl2_some e
  exact h _ _ _ _ e
theorem PureS.pL {f : D → Option Int → Option Int → Option D} (h : PureS f) : PureG (slL f) := fun ds d e => by
  obtain ⟨a, i, rfl, e⟩ := slL_some e
  exact h _ _ _ _ e
theorem PureS.pH {f : D → Option Int → Option Int → Option D} (h : PureS f) : PureG (slH f) := fun ds d e => by
  obtain ⟨a, i, rfl, e⟩ := slH_some e
  exact h _ _ _ _ e
theorem PureS.p0 {f : D → Option Int → Option Int → Option D} (h : PureS f) : PureG (sl0 f) := fun ds d e => by
  obtain ⟨a, rfl, e⟩ := una_some e
  exact h _ _ _ _ e
def rSlP (K : PySem.W.Frag) : RS := fun x lo hi H Q => rSlS x lo hi H Q ∨ rSlA K x lo hi H Q
theorem sl_P : SlR X (rSlP X.K) := SlR.or sl_str sl_tupA
theorem fSlP_some {a d : D} {lo hi : Option Int} (h : fSlP a lo hi = some d) : (∃ s, a = .str s ∧ s.length ≤ 16777216 ∧ d = .str (cutS s lo hi)) ∨ ∃ xs, a = .tup xs ∧ D.pureL xs = true ∧ d = .tup (cutD xs lo hi) := by
  cases a with
  | str s => obtain ⟨hl, rfl⟩ := iff?_some h; exact .inl ⟨s, rfl, hl, rfl⟩
  | tupF f s =>
    cases f with
    | false => obtain ⟨hl, rfl⟩ := iff?_some h; exact .inr ⟨s, rfl, hl, rfl⟩
    | true => cases h
  | _ => cases h
theorem slP_ok : RSl G (rSlP G.K) fSlP := by
  intro a x lo hi H Q d h e q
  rcases fSlP_some e with ⟨s, rfl, hl, rfl⟩ | ⟨xs, rfl, hp, rfl⟩
  · exact .inl ⟨s, h.1, by rw [← size_line]; exact hl, done0 q (fun Z => ⟨rfl, rfl⟩)⟩
  · obtain ⟨p, vs, rfl, e1, o1⟩ := h
    have l := OwnL.length o1
    have oc := cutD_own (lo := lo) (hi := hi) o1
    have pc := cutD_pure (lo := lo) (hi := hi) hp
    refine .inr ⟨p, vs, rfl, SqT.of e1, fun z => ?_, fun z p2 hn => ?_⟩
    · have ec : cutD xs lo hi = xs := by
        rw [l] at z
        unfold cutD
        rw [z.1, z.2, Nat.sub_zero, List.drop_zero, List.take_length]
      rw [ec] at q
      exact done0 q (fun Z => ⟨p, vs, rfl, e1, OwnL.pure_any hp o1⟩)
    · exact q _ _ [] (same_upd hn) (fun Z => new_tup pc hn oc Z) List.nodup_nil fun a m => by cases m
theorem slP_pure : PureS fSlP := fun a lo hi d e => by
  rcases fSlP_some e with ⟨s, rfl, hl, rfl⟩ | ⟨xs, rfl, hp, rfl⟩
  · rfl
  · exact cutD_pure hp
theorem slL_ok : RSl G (rSlL G.K) fSlL := by
  intro a x lo hi H Q d h e q
  unfold fSlL at e
  cases ha : a.toRow with
  | none => rw [ha] at e; cases e
  | some xs =>
    rw [ha] at e
    obtain ⟨hp, rfl⟩ := iff?_some e
    obtain ⟨p, vs, rfl, hs, o1⟩ := h.rowR ha
    refine ⟨p, vs, rfl, hs, fun p2 hn => ?_⟩
    exact q _ _ [p2] (same_upd hn) (fun Z => new_lst (cutD_pure hp) hn (cutD_own o1) Z) (List.nodup_cons.mpr ⟨by simp, List.nodup_nil⟩) fun a m => by
      obtain rfl := List.mem_singleton.mp m
      exact hn
section
variable {e : Expr} {lo hi : Expr} {s1 s2 s3 : SArg} {pos p2 : Pos} {r : RS} {f : D → Option Int → Option Int → Option D} {te tl th : TE}
theorem part_run {h : DEnv → Option D} {σ : L2.St} {H : Hp} {R : V → Hp → Prop} (t : TInt G h σ H R) : TPur G h σ H fun y H2 => ∃ i, y = .int i ∧ R (.int i) H2 := by
  obtain ⟨B, Z, Fs, env, g, i, hi, q⟩ := t
  exact ⟨B, Z, Fs, env, g, _, hi, fun v H' hs _ ho => ⟨i, (ho Z).1, q H' hs⟩⟩
variable {hl hu : DEnv → Option D} {c : Chn}
theorem p_sl2 (hr : SlR X r) (ho : RSl G r f) (hp : PureS f) (he : PE X e (s1.te G)) (pl : PE X lo (TPur G hl)) (ph : PE X hi (TPur G hu)) : PE X (.Subscript e (.Slice (some lo) (some hi) none p2) pos) (TPur G (hOp [s1, .int hl, .int hu] (sl2 f))) :=
  (pe_slice hr he (po_some pl) (po_some ph)).imp fun σ H Q h => by
    have q : s1.te G σ H fun x H1 => TInt G hl σ H1 fun y H2 => TInt G hu σ H2 fun z H3 => rs2 r [x, y, z] H3 Q := tpur_op ho.r2 hp.p2 σ H Q h
    refine SArg.mono (fun x H1 q => ?_) q
    obtain ⟨B, Z, Fs, env, g, d, hd, q⟩ := part_run q
    refine ⟨B, Z, Fs, env, g, d, hd, fun v H' hs hp ho => ?_⟩
    obtain ⟨i, e1, q⟩ := q v H' hs hp ho
    refine ⟨i, e1, ?_⟩
    obtain ⟨B, Z, Fs, env, g, d, hd, q⟩ := part_run q
    refine ⟨B, Z, Fs, env, g, d, hd, fun v H' hs hp ho => ?_⟩
    obtain ⟨j, e2, i2, e3, j2, e4, q⟩ := q v H' hs hp ho
    cases e3
    cases e4
    exact ⟨j, e2, q⟩
theorem p_slL (hr : SlR X r) (ho : RSl G r f) (hp : PureS f) (he : PE X e (s1.te G)) (pl : PE X lo (TPur G hl)) : PE X (.Subscript e (.Slice (some lo) none none p2) pos) (TPur G (hOp [s1, .int hl] (slL f))) :=
  (pe_slice hr he (po_some pl) po_none).imp fun σ H Q h => by
    have q : s1.te G σ H fun x H1 => TInt G hl σ H1 fun y H2 => rsL r [x, y] H2 Q := tpur_op ho.rL hp.pL σ H Q h
    refine SArg.mono (fun x H1 q => ?_) q
    obtain ⟨B, Z, Fs, env, g, d, hd, q⟩ := part_run q
    refine ⟨B, Z, Fs, env, g, d, hd, fun v H' hs hp ho => ?_⟩
    obtain ⟨i, e1, i2, e3, q⟩ := q v H' hs hp ho
    cases e3
    exact ⟨i, e1, q⟩
theorem p_slH (hr : SlR X r) (ho : RSl G r f) (hp : PureS f) (he : PE X e (s1.te G)) (ph : PE X hi (TPur G hu)) : PE X (.Subscript e (.Slice none (some hi) none p2) pos) (TPur G (hOp [s1, .int hu] (slH f))) :=
  (pe_slice hr he po_none (po_some ph)).imp fun σ H Q h => by
    have q : s1.te G σ H fun x H1 => TInt G hu σ H1 fun y H2 => rsH r [x, y] H2 Q := tpur_op ho.rH hp.pH σ H Q h
    refine SArg.mono (fun x H1 q => ?_) q
    obtain ⟨B, Z, Fs, env, g, d, hd, q⟩ := part_run q
    refine ⟨B, Z, Fs, env, g, d, hd, fun v H' hs hp ho => ?_⟩
    obtain ⟨i, e1, i2, e3, q⟩ := q v H' hs hp ho
    cases e3
    exact ⟨i, e1, q⟩
/-- .. the base of any kind -/
theorem e_sl2 (hr : SlR X r) (ho : RSl G r f) (c : Chn) (he : PE X e te) (pl : PE X lo (TPur G hl)) (ph : PE X hi (TPur G hu)) (hc : c.tes G W = [te, TInt G hl, TInt G hu] := by rfl) (hm : ∀ σ H Q Q', (∀ v H, Q v H → Q' v H) → te σ H Q → te σ H Q' := by first | exact fun _ _ _ _ => TV.mono | exact fun _ _ _ _ h => SArg.mono (a := .plc _ _) h | exact fun _ _ _ _ h => SArg.mono (a := .pur _) h) (hn : c.iofs.any id = false := by rfl) : PE X (.Subscript e (.Slice (some lo) (some hi) none p2) pos) (TV G W (eOp c (sl2 f))) :=
  (pe_slice hr he (po_some pl) (po_some ph)).imp fun σ H Q h => by
    have q := tv_op ho.r2 hn σ H Q h
    rw [hc] at q
    have q : te σ H fun x H1 => TInt G hl σ H1 fun y H2 => TInt G hu σ H2 fun z H3 => rs2 r [x, y, z] H3 Q := q
    refine hm _ _ _ _ (fun x H1 q => ?_) q
    obtain ⟨B, Z, Fs, env, g, d, hd, q⟩ := part_run q
    refine ⟨B, Z, Fs, env, g, d, hd, fun v H' hs hp ho => ?_⟩
    obtain ⟨i, e1, q⟩ := q v H' hs hp ho
    refine ⟨i, e1, ?_⟩
    obtain ⟨B, Z, Fs, env, g, d, hd, q⟩ := part_run q
    refine ⟨B, Z, Fs, env, g, d, hd, fun v H' hs hp ho => ?_⟩
    obtain ⟨j, e2, i2, e3, j2, e4, q⟩ := q v H' hs hp ho
    cases e3
    cases e4
    exact ⟨j, e2, q⟩
theorem e_slL (hr : SlR X r) (ho : RSl G r f) (c : Chn) (he : PE X e te) (pl : PE X lo (TPur G hl)) (hc : c.tes G W = [te, TInt G hl] := by rfl) (hm : ∀ σ H Q Q', (∀ v H, Q v H → Q' v H) → te σ H Q → te σ H Q' := by first | exact fun _ _ _ _ => TV.mono | exact fun _ _ _ _ h => SArg.mono (a := .plc _ _) h | exact fun _ _ _ _ h => SArg.mono (a := .pur _) h) (hn : c.iofs.any id = false := by rfl) : PE X (.Subscript e (.Slice (some lo) none none p2) pos) (TV G W (eOp c (slL f))) :=
  (pe_slice hr he (po_some pl) po_none).imp fun σ H Q h => by
    have q := tv_op ho.rL hn σ H Q h
    rw [hc] at q
    have q : te σ H fun x H1 => TInt G hl σ H1 fun y H2 => rsL r [x, y] H2 Q := q
    refine hm _ _ _ _ (fun x H1 q => ?_) q
    obtain ⟨B, Z, Fs, env, g, d, hd, q⟩ := part_run q
    refine ⟨B, Z, Fs, env, g, d, hd, fun v H' hs hp ho => ?_⟩
    obtain ⟨i, e1, i2, e3, q⟩ := q v H' hs hp ho
    cases e3
    exact ⟨i, e1, q⟩
theorem e_slH (hr : SlR X r) (ho : RSl G r f) (c : Chn) (he : PE X e te) (ph : PE X hi (TPur G hu)) (hc : c.tes G W = [te, TInt G hu] := by rfl) (hm : ∀ σ H Q Q', (∀ v H, Q v H → Q' v H) → te σ H Q → te σ H Q' := by first | exact fun _ _ _ _ => TV.mono | exact fun _ _ _ _ h => SArg.mono (a := .plc _ _) h | exact fun _ _ _ _ h => SArg.mono (a := .pur _) h) (hn : c.iofs.any id = false := by rfl) : PE X (.Subscript e (.Slice none (some hi) none p2) pos) (TV G W (eOp c (slH f))) :=
  (pe_slice hr he po_none (po_some ph)).imp fun σ H Q h => by
    have q := tv_op ho.rH hn σ H Q h
    rw [hc] at q
    have q : te σ H fun x H1 => TInt G hu σ H1 fun y H2 => rsH r [x, y] H2 Q := q
    refine hm _ _ _ _ (fun x H1 q => ?_) q
    obtain ⟨B, Z, Fs, env, g, d, hd, q⟩ := part_run q
    refine ⟨B, Z, Fs, env, g, d, hd, fun v H' hs hp ho => ?_⟩
    obtain ⟨i, e1, i2, e3, q⟩ := q v H' hs hp ho
    cases e3
    exact ⟨i, e1, q⟩
end

/-! ### displays -/
def fTup (ds : List D) : Option D := iff? (D.pureL ds = true ∧ ds.length ≤ 16777216) (.tup ds)
theorem rop_tup : ROp G (fun vs H Q => vs.length ≤ sizeLine ∧ ∀ p, H p = none → Q (.ref p) (upd H p (.tup vs))) fTup := by
  intro ds vs H Q d h e q
  obtain ⟨⟨hp, hl⟩, rfl⟩ := iff?_some e
  refine ⟨by rw [← size_line, OwnL.length h]; exact hl, fun p hn => ?_⟩
  exact q _ _ [] (same_upd hn) (fun Z => new_tup hp hn h Z) List.nodup_nil fun a m => by cases m
theorem pure_tup : PureG fTup := fun ds d e => by
  obtain ⟨⟨hp, hl⟩, rfl⟩ := iff?_some e
  exact hp
theorem p_tup {es : List Expr} {t : TA} {hs : List SArg} {k : Nat} {pos : Pos} (h : PA X es t) (ht : t = seqTE (hs.map (SArg.te G)) := by rfl) : PE X (.Tuple es k pos) (TPur G (hOp hs fTup)) :=
  (pe_tup h).imp fun σ H Q hq => by
    subst ht
    exact tpur_op rop_tup pure_tup σ H Q hq
/-- a display of owned items -/
def dspK (mk : List D → D) : Kn := fun ds e => if ds.length ≤ 16777216 then .ok (mk ds, [], e) else .bad
theorem OwnT.allOwn {Y Z H : Hp} : ∀ {its : List (Bool × D)} {vs : List V} {T : List Addr}, (∀ p ∈ its, p.1 = true) → OwnT G Y Z H its vs T → OwnL G Z H (its.map (·.2)) vs T
  | [], vs, T, _, h => h
  | (o, d) :: r, vs, T, ha, h => by
    obtain ⟨v', rest, F2, F3, rfl, rfl, h2, h3⟩ := h
    have : o = true := ha (o, d) List.mem_cons_self
    subst this
    exact ⟨v', rest, F2, F3, rfl, rfl, h2, OwnT.allOwn (fun p hp => ha p (List.mem_cons_of_mem _ hp)) h3⟩
theorem all_own {its : List (Bool × D)} {n : Nat} (h : its.map (·.1) = List.replicate n true) : ∀ p ∈ its, p.1 = true := fun p hp => by
  have : p.1 ∈ its.map (·.1) := List.mem_map_of_mem hp
  rw [h] at this
  exact (List.mem_replicate.mp this).2
theorem none_of_free {B Z H : Hp} {σ : L2.St} {env : DEnv} {Fs : Nat → List Addr} (g : Good G B Z H σ env Fs) {p : Addr} (hn : H p = none) : ¬ InF Fs p ∧ B p = none ∧ Z p = none := by
  refine ⟨fun m => ?_, ?_, ?_⟩
  · obtain ⟨o, e, _⟩ := g.dom m
    rw [hn] at e; cases e
  · cases q : B p with
    | none => rfl
    | some u =>
      have := g.sb p u q
      rw [hn] at this; cases this
  · cases q : Z p with
    | none => rfl
    | some u =>
      have := g.sz p u q
      rw [hn] at this; cases this
theorem dsp_tup {n : Nat} {fl : List Bool} (hfl : fl.any id = false) : KOk G W fl (List.replicate n true) (fun vs H Q => vs.length ≤ sizeLine ∧ ∀ p, H p = none → Q (.ref p) (upd H p (.tup vs))) (dspK .tup) := by
  intro B Z H σ env Fs its vs T ios Q gd hd hb hn hF
  obtain rfl : ios = [] := hn.trans (ioV_none fl vs hfl)
  unfold dspK at hF
  have ho := OwnT.allOwn (all_own hb) hd.own
  split at hF
  · rename_i hl
    refine ⟨by rw [← size_line, OwnL.length ho]; exact hl, fun p hp => ?_⟩
    have nf := none_of_free gd hp
    refine hF _ Z _ Fs T ⟨Stp.grow gd (fun a m => .inl m) (same_upd hp), ⟨.ref p, [], T, [], rfl, by simp, ⟨p, vs, rfl, upd_same, ?_⟩, rfl, rfl⟩, hd.nd, hd.dj, hd.fr, fun a m => .inr (.inr m)⟩
    exact OwnL.keep (Same.refl Z) _ vs T (fun b u e _ => same_upd hp b u e) ho
  · exact hF.elim
theorem dsp_lst {n : Nat} {fl : List Bool} (hfl : fl.any id = false) : KOk G W fl (List.replicate n true) (fun vs H Q => vs.length ≤ sizeLine ∧ ∀ p, H p = none → Q (.ref p) (upd H p (.lst vs))) (dspK .lst) := by
  intro B Z H σ env Fs its vs T ios Q gd hd hb hn hF
  obtain rfl : ios = [] := hn.trans (ioV_none fl vs hfl)
  unfold dspK at hF
  have ho := OwnT.allOwn (all_own hb) hd.own
  split at hF
  · rename_i hl
    refine ⟨by rw [← size_line, OwnL.length ho]; exact hl, fun p hp => ?_⟩
    have nf := none_of_free gd hp
    have npT : p ∉ T := fun m => by
      obtain ⟨o, e, _⟩ := hd.own.dom p m
      rw [hp] at e; cases e
    refine hF _ Z _ Fs (p :: T) ⟨Stp.grow gd (fun a m => .inl m) (same_upd hp), ⟨.ref p, [], p :: T, [], rfl, by simp, ⟨p, vs, T, rfl, .inr ⟨rfl, upd_same⟩, ?_⟩, rfl, rfl⟩, List.nodup_cons.mpr ⟨npT, hd.nd⟩, fun a m => ?_, fun a m => ?_, fun a m => ?_⟩
    · exact OwnL.keep (Same.refl Z) _ vs T (fun b u e _ => same_upd hp b u e) ho
    · rcases List.mem_cons.mp m with rfl | m
      · exact nf.1
      · exact hd.dj a m
    · rcases List.mem_cons.mp m with rfl | m
      · exact nf.2
      · exact hd.fr a m
    · rcases List.mem_cons.mp m with rfl | m
      · exact .inl hp
      · exact .inr (.inr m)
  · exact hF.elim
theorem e_tup {es : List Expr} {t : TA} {k : Nat} {pos : Pos} (c : Chn) (h : PA X es t) (ht : t = seqTE (c.tes G W) := by rfl) (hn : c.iofs.any id = false := by rfl) (hk : c.kinds = List.replicate es.length true := by rfl) : PE X (.Tuple es k pos) (TV G W (eK c (dspK .tup))) :=
  (pe_tup h).imp fun σ H Q hq => by
    subst ht
    exact tv_chn (dsp_tup (n := es.length) hn) rfl hk σ H Q hq
theorem e_lst {es : List Expr} {t : TA} {pos : Pos} (c : Chn) (h : PA X es t) (ht : t = seqTE (c.tes G W) := by rfl) (hn : c.iofs.any id = false := by rfl) (hk : c.kinds = List.replicate es.length true := by rfl) : PE X (.List es pos) (TV G W (eK c (dspK .lst))) :=
  (pe_lst h).imp fun σ H Q hq => by
    subst ht
    exact tv_chn (dsp_lst (n := es.length) hn) rfl hk σ H Q hq

/-! ### calls of what is built in -/
theorem p_callB {x : Str} {p pos : Pos} {e : Expr} {es : List Expr} {t : TA} {hs : List SArg} {bid : String} {r : List V → Hp → VK → Prop} {g : List D → Option D} (hc : CallR X (.builtin bid) r) (hg : Gl X x) (hm : X.mg x = none) (hv : bootBuiltins x = some (.builtin bid)) (hr : ROp G r g) (hp : PureG g)
    (ha : PA X (e :: es) t) (ht : t = seqTE (hs.map (SArg.te G)) := by rfl) (hn : x ≠ "__name__" := by decide) (hdb : (x == ("__debug__" : Str)) = false := by decide) (he : starEach (e :: es) X.env = (false, eval e X.env) :: starEach es X.env := by rfl) (hpl : (backTo pos (starEach es X.env)).any (·.1) = false := by rfl) :
    PE X (.Call (.Name x p) (e :: es) [] pos) (TPur G (hOp hs g)) :=
  (pe_callB hc hg hm hv ha hn hdb he hpl).imp fun σ H Q hq => by
    subst ht
    exact tpur_op hr hp σ H Q hq
theorem p_callT {x : Str} {p pos : Pos} {e : Expr} {es : List Expr} {t : TA} {hs : List SArg} {T : String} {r : List V → Hp → VK → Prop} {g : List D → Option D} (hc : CallR X (.type T) r) (hg : Gl X x) (hm : X.mg x = none) (hv : bootBuiltins x = some (.type T)) (hr : ROp G r g) (hp : PureG g)
    (ha : PA X (e :: es) t) (ht : t = seqTE (hs.map (SArg.te G)) := by rfl) (hn : x ≠ "__name__" := by decide) (hdb : (x == ("__debug__" : Str)) = false := by decide) (he : starEach (e :: es) X.env = (false, eval e X.env) :: starEach es X.env := by rfl) (hpl : (backTo pos (starEach es X.env)).any (·.1) = false := by rfl) :
    PE X (.Call (.Name x p) (e :: es) [] pos) (TPur G (hOp hs g)) :=
  (pe_callTy hc hg hm hv ha hn hdb he hpl).imp fun σ H Q hq => by
    subst ht
    exact tpur_op hr hp σ H Q hq
theorem e_callB {x : Str} {p pos : Pos} {e : Expr} {es : List Expr} {t : TA} {bid : String} {r : List V → Hp → VK → Prop} {g : List D → Option D} (hc : CallR X (.builtin bid) r) (hg : Gl X x) (hm : X.mg x = none) (hv : bootBuiltins x = some (.builtin bid)) (hr : ROp G r g) (c : Chn)
    (ha : PA X (e :: es) t) (ht : t = seqTE (c.tes G W) := by rfl) (hio : c.iofs.any id = false := by rfl) (hn : x ≠ "__name__" := by decide) (hdb : (x == ("__debug__" : Str)) = false := by decide) (he : starEach (e :: es) X.env = (false, eval e X.env) :: starEach es X.env := by rfl) (hpl : (backTo pos (starEach es X.env)).any (·.1) = false := by rfl) :
    PE X (.Call (.Name x p) (e :: es) [] pos) (TV G W (eOp c g)) :=
  (pe_callB hc hg hm hv ha hn hdb he hpl).imp fun σ H Q hq => by
    subst ht
    exact tv_op hr hio σ H Q hq
theorem e_callT {x : Str} {p pos : Pos} {e : Expr} {es : List Expr} {t : TA} {T : String} {r : List V → Hp → VK → Prop} {g : List D → Option D} (hc : CallR X (.type T) r) (hg : Gl X x) (hm : X.mg x = none) (hv : bootBuiltins x = some (.type T)) (hr : ROp G r g) (c : Chn)
    (ha : PA X (e :: es) t) (ht : t = seqTE (c.tes G W) := by rfl) (hio : c.iofs.any id = false := by rfl) (hn : x ≠ "__name__" := by decide) (hdb : (x == ("__debug__" : Str)) = false := by decide) (he : starEach (e :: es) X.env = (false, eval e X.env) :: starEach es X.env := by rfl) (hpl : (backTo pos (starEach es X.env)).any (·.1) = false := by rfl) :
    PE X (.Call (.Name x p) (e :: es) [] pos) (TV G W (eOp c g)) :=
  (pe_callTy hc hg hm hv ha hn hdb he hpl).imp fun σ H Q hq => by
    subst ht
    exact tv_op hr hio σ H Q hq
end
end DL

namespace DL
open PySem PySem.Spec PyProof.Rows L2

/-! ### tests -/
def FinB (G : Gc) (W : Wsh) (B Z H : Hp) (σ : L2.St) (env : DEnv) (P : Addr → Prop) (o : Out (Bool × DEnv)) (Q : Bool → Hp → Prop) : Prop := match o with
  | .ok (b, env') => ∀ Z' H' Fs', Stp G B Z H σ env P Z' H' σ env' Fs' → Q b H'
  | .exc c => ∀ H', Same B H' → W c H'
  | .bad => False
def TB (G : Gc) (W : Wsh) (f : DEnv → Out (Bool × DEnv)) : TT := fun σ H Q => ∃ B Z Fs env, Good G B Z H σ env Fs ∧ FinB G W B Z H σ env (InF Fs) (f env) Q
def TBp (G : Gc) (h : DEnv → Option Bool) : TT := fun σ H Q => ∃ B Z Fs env, Good G B Z H σ env Fs ∧ ∃ b, h env = some b ∧ ∀ H', Same H H' → Q b H'
theorem _root_.L2.PT.imp {X : Cx} {e : Expr} {t t' : TT} (h : PT X e t) (i : ∀ σ H Q, t' σ H Q → t σ H Q) : PT X e t' := ⟨fun pins s σ H Q I hq => h.run pins s σ H Q I (i σ H Q hq)⟩
theorem _root_.L2.PW.imp {X : Cx} {e : Expr} {t t' : TT} (h : PW X e t) (i : ∀ σ H Q, t' σ H Q → t σ H Q) : PW X e t' := ⟨fun wh pins s σ H Q I hq => h.run wh pins s σ H Q I (i σ H Q hq)⟩
def D.toBl : D → Option Bool
  | .bl b => some b
  | _ => none
theorem D.toBl_some {d : D} {i : Bool} (h : d.toBl = some i) : d = .bl i := by
  cases d <;> first | (cases h; rfl) | cases h
def hB (h : DEnv → Option D) : DEnv → Option Bool := fun env => match h env with
  | some d => d.toBl
  | none => none
def eB (f : DEnv → Out (D × DEnv)) : DEnv → Out (Bool × DEnv) := fun env => f env >>= fun p => must p.1.toBl fun b => .ok (b, p.2)
def eBp (h : DEnv → Option Bool) : DEnv → Out (Bool × DEnv) := fun env => must (h env) fun b => .ok (b, env)
def hNot (h : DEnv → Option Bool) : DEnv → Option Bool := fun env => match h env with
  | some b => some (!b)
  | none => none
def eNot (f : DEnv → Out (Bool × DEnv)) : DEnv → Out (Bool × DEnv) := fun env => f env >>= fun p => .ok (!p.1, p.2)
def hAnd (h k : DEnv → Option Bool) : DEnv → Option Bool := fun env => match h env with
  | some b => if b = true then k env else some false
  | none => none
def hOr (h k : DEnv → Option Bool) : DEnv → Option Bool := fun env => match h env with
  | some b => if b = true then some true else k env
  | none => none
def eAnd (f g : DEnv → Out (Bool × DEnv)) : DEnv → Out (Bool × DEnv) := fun env => f env >>= fun p => if p.1 = true then g p.2 else .ok (false, p.2)
def eOr (f g : DEnv → Out (Bool × DEnv)) : DEnv → Out (Bool × DEnv) := fun env => f env >>= fun p => if p.1 = true then .ok (true, p.2) else g p.2
theorem hB_some {h : DEnv → Option D} {env : DEnv} {b : Bool} (e : hB h env = some b) : h env = some (.bl b) := by
  unfold hB at e
  cases hh : h env with
  | none => rw [hh] at e; cases e
  | some d =>
    rw [hh] at e
    rw [D.toBl_some e]

section
variable {G : Gc} {X : Cx} {W : Wsh} {a b e : Expr} {pos : Pos} {rest : List Expr}
theorem FinB.later {B Z H Z1 H1 : Hp} {σ : L2.St} {env env1 : DEnv} {Fs1 : Nat → List Addr} {P P1 : Addr → Prop} {o : Out (Bool × DEnv)} {Q : Bool → Hp → Prop} (s : Stp G B Z H σ env P Z1 H1 σ env1 Fs1) (hp : ∀ a, P1 a → H a = none ∨ P a) (h : FinB G W B Z H σ env P o Q) : FinB G W B Z1 H1 σ env1 P1 o Q := by
  unfold FinB at h ⊢
  match o, h with
  | .ok (d, env'), h => exact fun Z' H' Fs' p => h Z' H' Fs' (s.trans hp p)
  | .exc c, h => exact h
theorem Good.loc {B Z H : Hp} {σ : L2.St} {env : DEnv} {Fs : Nat → List Addr} (g : Good G B Z H σ env Fs) : ∀ a, InF Fs a → H a = none ∨ InF Fs a := fun a m => .inr m
theorem t_cmp {op : CmpOp} {r : R2} {g : List D → Option D} {s1 s2 : SArg} (ho : OpR X (compareOp op) r) (hr : ROp G (l2 r) g) (hp : PureG g) (ha : PE X a (s1.te G)) (hb : PE X b (s2.te G)) (hm : behindInMarks op b = false := by first | exact nomark _ | rfl) : PT X (.Compare a [op] [b] pos) (TBp G (hB (hOp [s1, s2] g))) :=
  (pt_cmpR ho ha hb hm).imp fun σ H Q ⟨B, Z, Fs, env, gd, k, hk, q⟩ => by
    have q1 : TPur G (hOp [s1, s2] g) σ H (fun x H' => ∃ k, x = .bl k ∧ Q k H') := ⟨B, Z, Fs, env, gd, .bl k, hB_some hk, fun v H' hs _ ho => ⟨k, (ho Z).1, q H' hs⟩⟩
    exact tpur_op hr hp σ H _ q1
theorem eB_fin {B Z H : Hp} {σ : L2.St} {env : DEnv} {P : Addr → Prop} {o : Out (D × DEnv)} {Q : Bool → Hp → Prop} (h : FinB G W B Z H σ env P (o >>= fun p => must p.1.toBl fun b => .ok (b, p.2)) Q) : FinV G W B Z H σ env P o (fun x H' => ∃ k, x = .bl k ∧ Q k H') := by
  unfold FinB at h
  unfold FinV
  match o, h with
  | .ok (d, env'), h =>
    intro v Z' H' Fs' F p
    have h : (match must d.toBl fun b => Out.ok (b, env') with
      | .ok (b, env') => ∀ Z' H' Fs', Stp G B Z H σ env P Z' H' σ env' Fs' → Q b H'
      | .exc c => ∀ H', Same B H' → W c H'
      | .bad => False) := h
    cases hd : d.toBl with
    | none => rw [hd] at h; exact h.elim
    | some k =>
      rw [hd] at h
      obtain rfl := D.toBl_some hd
      obtain ⟨v', r', Fa, Fb, e1, e2, h1, h2⟩ := p.own
      cases e1
      exact ⟨k, h1.1, h Z' H' Fs' p.st⟩
  | .exc c, h => exact h
theorem t_cmpE {op : CmpOp} {r : R2} {g : List D → Option D} {ta tb : TE} (ho : OpR X (compareOp op) r) (hr : ROp G (l2 r) g) (c : Chn) (ha : PE X a ta) (hb : PE X b tb) (hm : behindInMarks op b = false := by first | exact nomark _ | rfl) (hc : c.tes G W = [ta, tb] := by rfl) (hn : c.iofs.any id = false := by rfl) : PT X (.Compare a [op] [b] pos) (TB G W (eB (eOp c g))) :=
  (pt_cmpR ho ha hb hm).imp fun σ H Q ⟨B, Z, Fs, env, gd, q⟩ => by
    have q1 : TV G W (eOp c g) σ H (fun x H' => ∃ k, x = .bl k ∧ Q k H') := ⟨B, Z, Fs, env, gd, eB_fin q⟩
    have q2 := tv_op hr hn σ H _ q1
    rw [hc] at q2
    exact q2
theorem t_val {h : DEnv → Option D} (he : PE X e (TPur G h)) (hw : ∀ whole, isTrue e X.env whole = (do let v ← whole; standAt e.pos; holding [v] (truthy v)) := by intro _; rfl) : PT X e (TBp G (hB h)) :=
  (pt_val he hw).imp fun σ H Q ⟨B, Z, Fs, env, gd, k, hk, q⟩ => ⟨B, Z, Fs, env, gd, .bl k, hB_some hk, fun v H' hs _ ho => ⟨k, (ho Z).1, q H' hs⟩⟩
theorem t_valE {f : DEnv → Out (D × DEnv)} (he : PE X e (TV G W f)) (hw : ∀ whole, isTrue e X.env whole = (do let v ← whole; standAt e.pos; holding [v] (truthy v)) := by intro _; rfl) : PT X e (TB G W (eB f)) :=
  (pt_val he hw).imp fun σ H Q ⟨B, Z, Fs, env, gd, q⟩ => ⟨B, Z, Fs, env, gd, eB_fin q⟩
theorem t_not {h : DEnv → Option Bool} (ha : PT X a (TBp G h)) : PT X (.UnaryOp .Not a pos) (TBp G (hNot h)) :=
  (pt_not ha).imp fun σ H Q ⟨B, Z, Fs, env, gd, k, hk, q⟩ => by
    unfold hNot at hk
    cases hh : h env with
    | none => rw [hh] at hk; cases hk
    | some c =>
      rw [hh] at hk
      cases hk
      exact ⟨B, Z, Fs, env, gd, c, hh, q⟩
theorem t_notE {f : DEnv → Out (Bool × DEnv)} (ha : PT X a (TB G W f)) : PT X (.UnaryOp .Not a pos) (TB G W (eNot f)) :=
  (pt_not ha).imp fun σ H Q ⟨B, Z, Fs, env, gd, q⟩ => by
    refine ⟨B, Z, Fs, env, gd, ?_⟩
    unfold eNot FinB at q
    unfold FinB
    match f env, q with
    | .ok (d, env'), q => exact q
    | .exc c, q => exact q
/-- a test that changes nothing, as one that may -/
theorem t_p {h : DEnv → Option Bool} (ha : PT X a (TBp G h)) : PT X a (TB G W (eBp h)) :=
  ha.imp fun σ H Q ⟨B, Z, Fs, env, gd, q⟩ => by
    unfold eBp FinB at q
    cases hh : h env with
    | none => rw [hh] at q; exact q.elim
    | some c =>
      rw [hh] at q
      exact ⟨B, Z, Fs, env, gd, c, hh, fun H' hs => q Z H' Fs (Stp.grow gd (fun _ m => m) hs)⟩
theorem w_and1 {t : TT} (ha : PT X a t) : PW X (.BoolOp .And [a] pos) t := pw_and1 ha
theorem w_or1 {t : TT} (ha : PT X a t) : PW X (.BoolOp .Or [a] pos) t := pw_or1 ha
theorem w_and {h k : DEnv → Option Bool} (ha : PT X a (TBp G h)) (hb : PW X (.BoolOp .And (b :: rest) pos) (TBp G k)) : PW X (.BoolOp .And (a :: b :: rest) pos) (TBp G (hAnd h k)) :=
  (pw_and ha hb).imp fun σ H Q ⟨B, Z, Fs, env, gd, c, hc, q⟩ => by
    unfold hAnd at hc
    cases hh : h env with
    | none => rw [hh] at hc; cases hc
    | some b0 =>
      rw [hh] at hc
      refine ⟨B, Z, Fs, env, gd, b0, hh, fun H1 hs1 => ?_⟩
      cases b0 with
      | true => exact ⟨B, Z, Fs, env, gd.grow hs1, c, hc, fun H' hs => q H' (hs1.trans hs)⟩
      | false => cases hc; exact q H1 hs1
theorem w_or {h k : DEnv → Option Bool} (ha : PT X a (TBp G h)) (hb : PW X (.BoolOp .Or (b :: rest) pos) (TBp G k)) : PW X (.BoolOp .Or (a :: b :: rest) pos) (TBp G (hOr h k)) :=
  (pw_or ha hb).imp fun σ H Q ⟨B, Z, Fs, env, gd, c, hc, q⟩ => by
    unfold hOr at hc
    cases hh : h env with
    | none => rw [hh] at hc; cases hc
    | some b0 =>
      rw [hh] at hc
      refine ⟨B, Z, Fs, env, gd, b0, hh, fun H1 hs1 => ?_⟩
      cases b0 with
      | false => exact ⟨B, Z, Fs, env, gd.grow hs1, c, hc, fun H' hs => q H' (hs1.trans hs)⟩
      | true => cases hc; exact q H1 hs1
theorem w_andE {f g : DEnv → Out (Bool × DEnv)} (ha : PT X a (TB G W f)) (hb : PW X (.BoolOp .And (b :: rest) pos) (TB G W g)) : PW X (.BoolOp .And (a :: b :: rest) pos) (TB G W (eAnd f g)) :=
  (pw_and ha hb).imp fun σ H Q ⟨B, Z, Fs, env, gd, q⟩ => by
    refine ⟨B, Z, Fs, env, gd, ?_⟩
    unfold eAnd at q
    cases hf : f env with
    | bad => rw [hf] at q; exact q.elim
    | exc c => rw [hf] at q; exact q
    | ok p =>
      obtain ⟨b0, env1⟩ := p
      rw [hf] at q
      have q : FinB G W B Z H σ env (InF Fs) (if b0 = true then g env1 else .ok (false, env1)) Q := q
      intro Z1 H1 Fs1 s1
      cases b0 with
      | true => exact ⟨B, Z1, Fs1, env1, s1.good, FinB.later s1 s1.new q⟩
      | false => exact q Z1 H1 Fs1 s1
theorem w_orE {f g : DEnv → Out (Bool × DEnv)} (ha : PT X a (TB G W f)) (hb : PW X (.BoolOp .Or (b :: rest) pos) (TB G W g)) : PW X (.BoolOp .Or (a :: b :: rest) pos) (TB G W (eOr f g)) :=
  (pw_or ha hb).imp fun σ H Q ⟨B, Z, Fs, env, gd, q⟩ => by
    refine ⟨B, Z, Fs, env, gd, ?_⟩
    unfold eOr at q
    cases hf : f env with
    | bad => rw [hf] at q; exact q.elim
    | exc c => rw [hf] at q; exact q
    | ok p =>
      obtain ⟨b0, env1⟩ := p
      rw [hf] at q
      have q : FinB G W B Z H σ env (InF Fs) (if b0 = true then .ok (true, env1) else g env1) Q := q
      intro Z1 H1 Fs1 s1
      cases b0 with
      | false => exact ⟨B, Z1, Fs1, env1, s1.good, FinB.later s1 s1.new q⟩
      | true => exact q Z1 H1 Fs1 s1

/-! ### and, or, not, if as values -/
def hAndV (h k : DEnv → Option D) : DEnv → Option D := fun env => match hB h env with
  | some b => if b = true then k env else some (.bl false)
  | none => none
def hOrV (h k : DEnv → Option D) : DEnv → Option D := fun env => match hB h env with
  | some b => if b = true then some (.bl true) else k env
  | none => none
def hNotV (h : DEnv → Option D) : DEnv → Option D := fun env => match hB h env with
  | some b => some (.bl (!b))
  | none => none
def eAndV (f g : DEnv → Out (D × DEnv)) : DEnv → Out (D × DEnv) := fun env => eB f env >>= fun p => if p.1 = true then g p.2 else .ok (.bl false, p.2)
def eOrV (f g : DEnv → Out (D × DEnv)) : DEnv → Out (D × DEnv) := fun env => eB f env >>= fun p => if p.1 = true then .ok (.bl true, p.2) else g p.2
def eNotV (f : DEnv → Out (D × DEnv)) : DEnv → Out (D × DEnv) := fun env => eB f env >>= fun p => .ok (.bl (!p.1), p.2)
theorem p_one {op} {t : TE} (h : PE X a t) : PE X (.BoolOp op [a] pos) t := pe_one h
theorem p_and {h k : DEnv → Option D} (ha : PE X a (TPur G h)) (hb : PE X (.BoolOp .And (b :: rest) pos) (TPur G k)) : PE X (.BoolOp .And (a :: b :: rest) pos) (TPur G (hAndV h k)) :=
  (pe_and ha hb).imp fun σ H Q ⟨B, Z, Fs, env, gd, d, hd, q⟩ => by
    unfold hAndV at hd
    cases hh : hB h env with
    | none => rw [hh] at hd; cases hd
    | some b0 =>
      rw [hh] at hd
      refine ⟨B, Z, Fs, env, gd, .bl b0, hB_some hh, fun v H1 hs1 _ ho => ⟨b0, (ho Z).1, ?_⟩⟩
      cases b0 with
      | true => exact ⟨B, Z, Fs, env, gd.grow hs1, d, hd, fun v H' hs => q v H' (hs1.trans hs)⟩
      | false => cases hd; exact q _ H1 hs1 rfl fun Z' => ⟨rfl, rfl⟩
theorem p_or {h k : DEnv → Option D} (ha : PE X a (TPur G h)) (hb : PE X (.BoolOp .Or (b :: rest) pos) (TPur G k)) : PE X (.BoolOp .Or (a :: b :: rest) pos) (TPur G (hOrV h k)) :=
  (pe_or ha hb).imp fun σ H Q ⟨B, Z, Fs, env, gd, d, hd, q⟩ => by
    unfold hOrV at hd
    cases hh : hB h env with
    | none => rw [hh] at hd; cases hd
    | some b0 =>
      rw [hh] at hd
      refine ⟨B, Z, Fs, env, gd, .bl b0, hB_some hh, fun v H1 hs1 _ ho => ⟨b0, (ho Z).1, ?_⟩⟩
      cases b0 with
      | false => exact ⟨B, Z, Fs, env, gd.grow hs1, d, hd, fun v H' hs => q v H' (hs1.trans hs)⟩
      | true => cases hd; exact q _ H1 hs1 rfl fun Z' => ⟨rfl, rfl⟩
theorem p_not {h : DEnv → Option D} (ha : PE X a (TPur G h)) : PE X (.UnaryOp .Not a pos) (TPur G (hNotV h)) :=
  (pe_not ha).imp fun σ H Q ⟨B, Z, Fs, env, gd, d, hd, q⟩ => by
    unfold hNotV at hd
    cases hh : hB h env with
    | none => rw [hh] at hd; cases hd
    | some b0 =>
      rw [hh] at hd
      cases hd
      exact ⟨B, Z, Fs, env, gd, .bl b0, hB_some hh, fun v H1 hs1 _ ho => ⟨b0, (ho Z).1, q _ H1 hs1 rfl fun Z' => ⟨rfl, rfl⟩⟩⟩
theorem FinV.later {B Z H Z1 H1 : Hp} {σ : L2.St} {env env1 : DEnv} {Fs1 : Nat → List Addr} {P P1 : Addr → Prop} {o : Out (D × DEnv)} {Q : VK} (s : Stp G B Z H σ env P Z1 H1 σ env1 Fs1) (hp : ∀ a, P1 a → H a = none ∨ P a) (h : FinV G W B Z H σ env P o Q) : FinV G W B Z1 H1 σ env1 P1 o Q := by
  unfold FinV at h ⊢
  match o, h with
  | .ok (d, env'), h =>
    intro v Z' H' Fs' F p
    refine h v Z' H' Fs' F ⟨s.trans hp p.st, p.own, p.nd, p.dj, p.fr, fun a m => ?_⟩
    rcases p.new a m with z | z
    · cases q : H a with
      | none => exact .inl rfl
      | some u =>
        refine .inr ?_
        by_cases n : P a
        · exact n
        · have := s.ext a u q n
          rw [z] at this; cases this
    · exact hp a z
  | .exc c, h => exact h
/-- a value that is a truth -/
theorem eB_run {B Z H : Hp} {σ : L2.St} {env : DEnv} {Fs : Nat → List Addr} {α : Type} {f : DEnv → Out (D × DEnv)} {k : Bool × DEnv → Out (D × DEnv)} {Q : VK} {R : VK} (gd : Good G B Z H σ env Fs) (h : FinV G W B Z H σ env (InF Fs) (eB f env >>= k) Q)
    (hk : ∀ b Z' H' env' Fs', Stp G B Z H σ env (InF Fs) Z' H' σ env' Fs' → FinV G W B Z' H' σ env' (InF Fs') (k (b, env')) Q → R (.bl b) H') : FinV G W B Z H σ env (InF Fs) (f env) R := by
  unfold eB at h
  cases hf : f env with
  | bad => rw [hf] at h; exact h.elim
  | exc c => rw [hf] at h; exact h
  | ok p =>
    obtain ⟨d, env1⟩ := p
    rw [hf] at h
    have h : FinV G W B Z H σ env (InF Fs) ((must d.toBl fun b => Out.ok (b, env1)) >>= k) Q := h
    cases hd : d.toBl with
    | none => rw [hd] at h; exact h.elim
    | some b =>
      rw [hd] at h
      obtain rfl := D.toBl_some hd
      intro v Z' H' Fs' F p
      obtain ⟨v', r', Fa, Fb, e1, e2, h1, h2⟩ := p.own
      cases e1
      rw [h1.1]
      exact hk b Z' H' env1 Fs' p.st (FinV.later p.st p.st.new h)
theorem FinV.pureV {B Z H : Hp} {σ : L2.St} {env : DEnv} {Fs : Nat → List Addr} {d : D} {v : V} {Q : VK} (gd : Good G B Z H σ env Fs) (ho : Own G Z H d v []) (h : FinV G W B Z H σ env (InF Fs) (.ok (d, env)) Q) : Q v H :=
  h v Z H Fs [] ⟨Stp.refl gd fun _ m => m, ⟨v, [], [], [], rfl, rfl, ho, rfl, rfl⟩, List.nodup_nil, fun a m => (by cases m), fun a m => (by cases m), fun a m => (by cases m)⟩
theorem e_and {f g : DEnv → Out (D × DEnv)} (ha : PE X a (TV G W f)) (hb : PE X (.BoolOp .And (b :: rest) pos) (TV G W g)) : PE X (.BoolOp .And (a :: b :: rest) pos) (TV G W (eAndV f g)) :=
  (pe_and ha hb).imp fun σ H Q ⟨B, Z, Fs, env, gd, q⟩ => by
    refine ⟨B, Z, Fs, env, gd, eB_run (α := Unit) gd q fun b Z' H' env' Fs' s q => ⟨b, rfl, ?_⟩⟩
    cases b with
    | true => exact ⟨B, Z', Fs', env', s.good, q⟩
    | false => exact FinV.pureV (d := .bl false) s.good ⟨rfl, rfl⟩ q
theorem e_or {f g : DEnv → Out (D × DEnv)} (ha : PE X a (TV G W f)) (hb : PE X (.BoolOp .Or (b :: rest) pos) (TV G W g)) : PE X (.BoolOp .Or (a :: b :: rest) pos) (TV G W (eOrV f g)) :=
  (pe_or ha hb).imp fun σ H Q ⟨B, Z, Fs, env, gd, q⟩ => by
    refine ⟨B, Z, Fs, env, gd, eB_run (α := Unit) gd q fun b Z' H' env' Fs' s q => ⟨b, rfl, ?_⟩⟩
    cases b with
    | false => exact ⟨B, Z', Fs', env', s.good, q⟩
    | true => exact FinV.pureV (d := .bl true) s.good ⟨rfl, rfl⟩ q
theorem e_not {f : DEnv → Out (D × DEnv)} (ha : PE X a (TV G W f)) : PE X (.UnaryOp .Not a pos) (TV G W (eNotV f)) :=
  (pe_not ha).imp fun σ H Q ⟨B, Z, Fs, env, gd, q⟩ => by
    refine ⟨B, Z, Fs, env, gd, eB_run (α := Unit) gd q fun b Z' H' env' Fs' s q => ⟨b, rfl, ?_⟩⟩
    exact FinV.pureV (d := .bl (!b)) s.good ⟨rfl, rfl⟩ q
def hIf (c : DEnv → Option Bool) (h k : DEnv → Option D) : DEnv → Option D := fun env => match c env with
  | some b => if b = true then h env else k env
  | none => none
theorem p_ifx {c : Expr} {hc : DEnv → Option Bool} {h k : DEnv → Option D} (hcc : PT X c (TBp G hc)) (ha : PE X a (TPur G h)) (hb : PE X b (TPur G k)) : PE X (.IfExp c a b pos) (TPur G (hIf hc h k)) :=
  (pe_ifExp hcc ha hb).imp fun σ H Q ⟨B, Z, Fs, env, gd, d, hd, q⟩ => by
    unfold hIf at hd
    cases hh : hc env with
    | none => rw [hh] at hd; cases hd
    | some b0 =>
      rw [hh] at hd
      refine ⟨B, Z, Fs, env, gd, b0, hh, fun H1 hs1 => ?_⟩
      cases b0 with
      | true => exact ⟨B, Z, Fs, env, gd.grow hs1, d, hd, fun v H' hs => q v H' (hs1.trans hs)⟩
      | false => exact ⟨B, Z, Fs, env, gd.grow hs1, d, hd, fun v H' hs => q v H' (hs1.trans hs)⟩
end

/-! ### statements -/
inductive Flw where
  | nx (e : DEnv)
  | rt (d : D) (e : DEnv)
  | bk (e : DEnv)
  | ct (e : DEnv)
abbrev Stm := DEnv → Out Flw
/-- what a return hands on -/
structure Ret (G : Gc) (B Z H : Hp) (σ : L2.St) (env : DEnv) (P : Addr → Prop) (Z' H' : Hp) (σ' : L2.St) (env' : DEnv) (Fs' : Nat → List Addr) (d : D) (v : V) (F : List Addr) : Prop where
  st : Stp G B Z H σ env P Z' H' σ' env' Fs'
  own : Own G Z' H' d v F
  nd : F.Nodup
  dj : ∀ a, a ∈ F → ¬ InF Fs' a
  fr : ∀ a, a ∈ F → B a = none ∧ Z' a = none
  new : ∀ a, a ∈ F → H a = none ∨ P a
def FinS (G : Gc) (W : Wsh) (B Z H : Hp) (σ : L2.St) (env : DEnv) (P : Addr → Prop) (o : Out Flw) (En : Ends) : Prop := match o with
  | .ok (.nx e) => ∀ σ' Z' H' Fs', Stp G B Z H σ env P Z' H' σ' e Fs' → En.nx σ' H'
  | .ok (.bk e) => ∀ σ' Z' H' Fs', Stp G B Z H σ env P Z' H' σ' e Fs' → En.bk σ' H'
  | .ok (.ct e) => ∀ σ' Z' H' Fs', Stp G B Z H σ env P Z' H' σ' e Fs' → En.ct σ' H'
  | .ok (.rt d e) => ∀ σ' v Z' H' Fs' F, Ret G B Z H σ env P Z' H' σ' e Fs' d v F → En.rt v H'
  | .exc c => ∀ H', Same B H' → W c H'
  | .bad => False
def TSt (G : Gc) (W : Wsh) (f : Stm) : TS := fun En σ H => ∃ B Z Fs env, Good G B Z H σ env Fs ∧ FinS G W B Z H σ env (InF Fs) (f env) En
theorem _root_.L2.PS.imp {X : Cx} {e : Stmt} {t t' : TS} (h : PS X e t) (i : ∀ En σ H, t' En σ H → t En σ H) : PS X e t' := ⟨fun pins s σ H D I hq => h.run pins s σ H D I (i D σ H hq)⟩
theorem _root_.L2.PSs.imp {X : Cx} {e : List Stmt} {t t' : TS} (h : PSs X e t) (i : ∀ En σ H, t' En σ H → t En σ H) : PSs X e t' := ⟨fun pins s σ H D I hq => h.run pins s σ H D I (i D σ H hq)⟩
def sNop : Stm := fun env => .ok (.nx env)
def sSeq (f g : Stm) : Stm := fun env => f env >>= fun fl => match fl with
  | .nx e => g e
  | fl => .ok fl
def sIf (c : DEnv → Option Bool) (f g : Stm) : Stm := fun env => must (c env) fun b => if b = true then f env else g env
def sIfE (c : DEnv → Out (Bool × DEnv)) (f g : Stm) : Stm := fun env => c env >>= fun p => if p.1 = true then f p.2 else g p.2
def sRet (f : DEnv → Out (D × DEnv)) : Stm := fun env => f env >>= fun p => .ok (.rt p.1 p.2)
def sRetN : Stm := fun env => .ok (.rt .non env)
def sExpr (f : DEnv → Out (D × DEnv)) : Stm := fun env => f env >>= fun p => .ok (.nx p.2)
def sBrk : Stm := fun env => .ok (.bk env)
def sCont : Stm := fun env => .ok (.ct env)
def sNever : Stm := fun _ => .bad
/-- slot i may be stored to -/
def free? (i : Nat) (env : DEnv) : Bool := match env[i]? with
  | some (some (.io, _)) => false
  | some (some (.lck, _)) => false
  | some _ => true
  | none => false
def putS (i : Nat) (d : D) (env : DEnv) : Option DEnv := if free? i env = true then some (env.set i (some (.own, d))) else none
def sSet (i : Nat) (f : DEnv → Out (D × DEnv)) : Stm := fun env => f env >>= fun p => must (putS i p.1 p.2) fun e => .ok (.nx e)
/-- names of which nothing is known any more -/
def dropS : List Nat → DEnv → Option DEnv
  | [], env => some env
  | i :: r, env => if free? i env = true then dropS r (env.set i none) else none
def sDrop (is : List Nat) : Stm := fun env => must (dropS is env) fun e => .ok (.nx e)

section
variable {G : Gc} {X : Cx} {W : Wsh} {a b e : Expr} {pos : Pos}
theorem FinS.later {B Z H Z1 H1 : Hp} {σ σ1 : L2.St} {env env1 : DEnv} {Fs1 : Nat → List Addr} {P P1 : Addr → Prop} {o : Out Flw} {En : Ends} (s : Stp G B Z H σ env P Z1 H1 σ1 env1 Fs1) (hp : ∀ a, P1 a → H a = none ∨ P a) (h : FinS G W B Z H σ env P o En) : FinS G W B Z1 H1 σ1 env1 P1 o En := by
  unfold FinS at h ⊢
  match o, h with
  | .ok (.nx e), h => exact fun σ' Z' H' Fs' p => h σ' Z' H' Fs' (s.trans hp p)
  | .ok (.bk e), h => exact fun σ' Z' H' Fs' p => h σ' Z' H' Fs' (s.trans hp p)
  | .ok (.ct e), h => exact fun σ' Z' H' Fs' p => h σ' Z' H' Fs' (s.trans hp p)
  | .ok (.rt d e), h =>
    intro σ' v Z' H' Fs' F p
    refine h σ' v Z' H' Fs' F ⟨s.trans hp p.st, p.own, p.nd, p.dj, p.fr, fun a m => ?_⟩
    rcases p.new a m with z | z
    · cases q : H a with
      | none => exact .inl rfl
      | some u =>
        refine .inr ?_
        by_cases n : P a
        · exact n
        · have := s.ext a u q n
          rw [z] at this; cases this
    · exact hp a z
  | .exc c, h => exact h
theorem s_nil : PSs X [] (TSt G W sNop) := pss_nil.imp fun En σ H ⟨B, Z, Fs, env, gd, q⟩ => q σ Z H Fs (Stp.refl gd fun _ m => m)
theorem s_cons {st : Stmt} {rest : List Stmt} {f g : Stm} (h1 : PS X st (TSt G W f)) (h2 : PSs X rest (TSt G W g)) : PSs X (st :: rest) (TSt G W (sSeq f g)) :=
  (pss_cons h1 h2).imp fun En σ H ⟨B, Z, Fs, env, gd, q⟩ => by
    refine ⟨B, Z, Fs, env, gd, ?_⟩
    unfold sSeq at q
    cases hf : f env with
    | bad => rw [hf] at q; exact q.elim
    | exc c => rw [hf] at q; exact q
    | ok fl =>
      rw [hf] at q
      cases fl with
      | nx e => exact fun σ' Z' H' Fs' s => ⟨B, Z', Fs', e, s.good, FinS.later s s.new q⟩
      | bk e => exact q
      | ct e => exact q
      | rt d e => exact q
theorem s_one {st : Stmt} {f : Stm} (h1 : PS X st (TSt G W f)) : PSs X [st] (TSt G W f) := pss_one h1
theorem s_pass : PS X (.Pass pos) (TSt G W sNop) := ps_pass.imp fun En σ H ⟨B, Z, Fs, env, gd, q⟩ => q σ Z H Fs (Stp.refl gd fun _ m => m)
theorem s_doc {x : Str} {j : _} {p : Pos} : PS X (.Expr (.Constant (.str x) j p) pos) (TSt G W sNop) := ps_doc.imp fun En σ H ⟨B, Z, Fs, env, gd, q⟩ => q σ Z H Fs (Stp.refl gd fun _ m => m)
theorem s_brk : PS X (.Break pos) (TSt G W sBrk) := ps_break.imp fun En σ H ⟨B, Z, Fs, env, gd, q⟩ => q σ Z H Fs (Stp.refl gd fun _ m => m)
theorem s_cont : PS X (.Continue pos) (TSt G W sCont) := ps_continue.imp fun En σ H ⟨B, Z, Fs, env, gd, q⟩ => q σ Z H Fs (Stp.refl gd fun _ m => m)
theorem s_never {st : Stmt} : PS X st (TSt G W sNever) := ps_never.imp fun En σ H ⟨B, Z, Fs, env, gd, q⟩ => q.elim
theorem s_if {c : Expr} {hc : DEnv → Option Bool} {sa sb : List Stmt} {f g : Stm} (hcc : PT X c (TBp G hc)) (ha : PSs X sa (TSt G W f)) (hb : PSs X sb (TSt G W g)) : PS X (.If c sa sb pos) (TSt G W (sIf hc f g)) :=
  (ps_if hcc ha hb).imp fun En σ H ⟨B, Z, Fs, env, gd, q⟩ => by
    unfold sIf at q
    cases hh : hc env with
    | none => rw [hh] at q; exact q.elim
    | some b0 =>
      rw [hh] at q
      refine ⟨B, Z, Fs, env, gd, b0, hh, fun H1 hs1 => ?_⟩
      have s1 : Stp G B Z H σ env (InF Fs) Z H1 σ env Fs := Stp.grow gd (fun _ m => m) hs1
      cases b0 with
      | true => exact ⟨B, Z, Fs, env, gd.grow hs1, FinS.later s1 s1.new q⟩
      | false => exact ⟨B, Z, Fs, env, gd.grow hs1, FinS.later s1 s1.new q⟩
theorem s_ifE {c : Expr} {hc : DEnv → Out (Bool × DEnv)} {sa sb : List Stmt} {f g : Stm} (hcc : PT X c (TB G W hc)) (ha : PSs X sa (TSt G W f)) (hb : PSs X sb (TSt G W g)) : PS X (.If c sa sb pos) (TSt G W (sIfE hc f g)) :=
  (ps_if hcc ha hb).imp fun En σ H ⟨B, Z, Fs, env, gd, q⟩ => by
    refine ⟨B, Z, Fs, env, gd, ?_⟩
    unfold sIfE at q
    cases hh : hc env with
    | bad => rw [hh] at q; exact q.elim
    | exc c => rw [hh] at q; exact q
    | ok p =>
      obtain ⟨b0, env1⟩ := p
      rw [hh] at q
      have q : FinS G W B Z H σ env (InF Fs) (if b0 = true then f env1 else g env1) En := q
      intro Z1 H1 Fs1 s1
      cases b0 with
      | true => exact ⟨B, Z1, Fs1, env1, s1.good, FinS.later s1 s1.new q⟩
      | false => exact ⟨B, Z1, Fs1, env1, s1.good, FinS.later s1 s1.new q⟩
theorem Post.one {B Z H Z' H' : Hp} {σ : L2.St} {env env' : DEnv} {P : Addr → Prop} {Fs' : Nat → List Addr} {d : D} {v : V} {F : List Addr} (p : Post G B Z H σ env P Z' H' env' Fs' [d] [v] F) : Own G Z' H' d v F := by
  obtain ⟨v', r', Fa, Fb, e1, e2, h1, h2⟩ := p.own
  cases e1
  obtain ⟨_, rfl⟩ := h2
  rw [List.append_nil] at e2
  rw [e2]
  exact h1
theorem s_ret {f : DEnv → Out (D × DEnv)} (he : PE X e (TV G W f)) : PS X (.Return (some e) pos) (TSt G W (sRet f)) :=
  (ps_ret he).imp fun En σ H ⟨B, Z, Fs, env, gd, q⟩ => by
    refine ⟨B, Z, Fs, env, gd, ?_⟩
    unfold sRet at q
    unfold FinV
    match f env, q with
    | .exc c, q => exact q
    | .ok (d, e'), q => exact fun v Z' H' Fs' F p => q σ v Z' H' Fs' F ⟨p.st, p.one, p.nd, p.dj, p.fr, p.new⟩
theorem s_retN : PS X (.Return none pos) (TSt G W sRetN) :=
  ps_retN.imp fun En σ H ⟨B, Z, Fs, env, gd, q⟩ => q σ .non Z H Fs [] ⟨Stp.refl gd fun _ m => m, ⟨rfl, rfl⟩, List.nodup_nil, fun a m => (by cases m), fun a m => (by cases m), fun a m => (by cases m)⟩
theorem s_expr {f : DEnv → Out (D × DEnv)} (he : PE X e (TV G W f)) (hs : swapsWith e none pos.line X.env = pure false := by rfl) : PS X (.Expr e pos) (TSt G W (sExpr f)) :=
  (ps_expr he hs).imp fun En σ H ⟨B, Z, Fs, env, gd, q⟩ => by
    refine ⟨B, Z, Fs, env, gd, ?_⟩
    unfold sExpr at q
    unfold FinV
    match f env, q with
    | .exc c, q => exact q
    | .ok (d, e'), q => exact fun v Z' H' Fs' F p => q σ Z' H' Fs' p.st

/-- a value stored to slot i -/
theorem Stp.put {B Z H : Hp} {σ : L2.St} {env : DEnv} {Fs : Nat → List Addr} {P : Addr → Prop} {i : Nat} {d : D} {v : V} {F : List Addr} {env' : DEnv} (g : Good G B Z H σ env Fs) (hp : ∀ a, InF Fs a → P a) (hf : ∀ a, a ∈ F → P a) (t : Tm G B Z H (InF Fs) d v F) (hi : putS i d env = some env') :
    Stp G B Z H σ env P Z H (σ.set i (some v)) env' (onF Fs i F) := by
  unfold putS at hi
  split at hi
  · rename_i hfree
    cases hi
    have hl : i < env.length := by
      unfold free? at hfree
      cases q : env[i]? with
      | none => rw [q] at hfree; cases hfree
      | some s => exact (List.getElem?_eq_some_iff.mp q).1
    have nio : ∀ d', env[i]? ≠ some (some (.io, d')) := fun d' q => by unfold free? at hfree; rw [q] at hfree; cases hfree
    have nlk : ∀ d', env[i]? ≠ some (some (.lck, d')) := fun d' q => by unfold free? at hfree; rw [q] at hfree; cases hfree
    have hlσ : i < σ.length := by rw [← g.len]; exact hl
    have ne : ∀ (j : Nat), j ≠ i → (env.set i (some (.own, d)))[j]? = env[j]? := fun j h => List.getElem?_set_ne (fun z => h z.symm)
    have nσ : ∀ (j : Nat), j ≠ i → (σ.set i (some v))[j]? = σ[j]? := fun j h => List.getElem?_set_ne (fun z => h z.symm)
    have at_i : (env.set i (some (.own, d)))[i]? = some (some (.own, d)) := List.getElem?_set_self hl
    refine ⟨Same.refl Z, fun _ _ e _ => e, ⟨g.sb, g.sz, by rw [List.length_set, List.length_set]; exact g.len, fun j => ?_, fun j => ?_, fun j k a m n => ?_, fun j a m => ?_, g.z0⟩, fun a m => ?_, fun a m => .inl m, fun j d' e => ?_, fun j d' e => ?_, fun j d' e => ?_, fun j d' e => ?_, by rw [List.length_set]⟩
    · by_cases hj : j = i
      · subst hj
        have eo : onF Fs j F j = F := by unfold onF; rw [if_pos rfl]
        rw [eo, at_i, List.getElem?_set_self hlσ]
        exact ⟨v, rfl, t.own⟩
      · have eo : onF Fs i F j = Fs j := by unfold onF; rw [if_neg hj]
        rw [eo, ne j hj, nσ j hj]
        exact g.sl j
    · unfold onF; split; exact t.nd; exact g.nd j
    · unfold onF at m n
      split at m
      · split at n
        · rename_i e1 e2; rw [e1, e2]
        · exact absurd ⟨k, n⟩ (t.dj a m)
      · split at n
        · exact absurd ⟨j, m⟩ (t.dj a n)
        · exact g.dj j k a m n
    · unfold onF at m
      split at m
      · exact t.fr a m
      · exact g.fr j a m
    · rcases inF_on m with m | m
      · exact .inr (hf a m)
      · exact .inr (hp a m)
    · by_cases hj : j = i
      · subst hj; exact absurd e (nio d')
      · exact ⟨⟨d', by rw [ne j hj]; exact e⟩, nσ j hj⟩
    · by_cases hj : j = i
      · subst hj; exact absurd e (nlk d')
      · exact ⟨by rw [ne j hj]; exact e, nσ j hj⟩
    · by_cases hj : j = i
      · subst hj; rw [at_i] at e; cases e
      · rw [ne j hj] at e; exact ⟨e, nσ j hj⟩
    · by_cases hj : j = i
      · subst hj; rw [at_i] at e; cases e
      · rw [ne j hj] at e; exact ⟨e, nσ j hj⟩
  · cases hi
theorem s_set {i : Nat} {x : Str} {f : DEnv → Out (D × DEnv)} {p' : Pos} (dx : DX X G) (hi : X.N[i]? = some x) (hx : Loc X.env.scope x) (he : PE X e (TV G W f)) (hs : swapsWith e (some (.Name x p')) pos.line X.env = pure false := by rfl) (hf : X.fn x = true ∨ X.env.scope.names.lookup x = some .local := by first | exact .inl rfl | exact .inr rfl) :
    PS X (.Assign [.Name x p'] e pos) (TSt G W (sSet i f)) :=
  (ps_set dx.nd hi hx he hs hf).imp fun En σ H ⟨B, Z, Fs, env, gd, q⟩ => by
    refine ⟨B, Z, Fs, env, gd, ?_⟩
    unfold sSet at q
    unfold FinV
    match f env, q with
    | .exc c, q => exact q
    | .ok (d, e'), q =>
      intro v Z' H' Fs' F p
      have q : FinS G W B Z H σ env (InF Fs) (must (putS i d e') fun e => .ok (.nx e)) En := q
      cases hput : putS i d e' with
      | none => rw [hput] at q; exact q.elim
      | some e2 =>
        rw [hput] at q
        have s2 : Stp G B Z' H' σ e' (fun a => InF Fs' a ∨ a ∈ F) Z' H' (σ.set i (some v)) e2 (onF Fs' i F) := Stp.put p.st.good (fun a m => .inl m) (fun a m => .inr m) ⟨p.one, p.nd, p.dj, p.fr⟩ hput
        exact q _ _ _ _ (p.st.trans (fun a m => m.elim (p.st.new a) (p.new a)) s2)
/-- names forgotten -/
theorem Stp.drop1 {B Z H : Hp} {σ : L2.St} {env : DEnv} {Fs : Nat → List Addr} {P : Addr → Prop} {i : Nat} (g : Good G B Z H σ env Fs) (hp : ∀ a, InF Fs a → P a) (hfree : free? i env = true) : Stp G B Z H σ env P Z H σ (env.set i none) (offF Fs i) := by
  have nio : ∀ d', env[i]? ≠ some (some (.io, d')) := fun d' q => by unfold free? at hfree; rw [q] at hfree; cases hfree
  have nlk : ∀ d', env[i]? ≠ some (some (.lck, d')) := fun d' q => by unfold free? at hfree; rw [q] at hfree; cases hfree
  have ne : ∀ (j : Nat), j ≠ i → (env.set i none)[j]? = env[j]? := fun j h => List.getElem?_set_ne (fun z => h z.symm)
  have at_i : ∀ s : Md × D, (env.set i none)[i]? ≠ some (some s) := fun s q => by
    rw [List.getElem?_set_self'] at q
    cases hq : env[i]? <;> rw [hq] at q <;> cases q
  refine ⟨Same.refl Z, fun _ _ e _ => e, g.take i, fun a m => .inr (hp a (inF_off m)), fun _ m => .inl m, fun j d' e => ?_, fun j d' e => ?_, fun j d' e => ?_, fun j d' e => ?_, by rw [List.length_set]⟩
  · by_cases hj : j = i
    · subst hj; exact absurd e (nio d')
    · exact ⟨⟨d', by rw [ne j hj]; exact e⟩, rfl⟩
  · by_cases hj : j = i
    · subst hj; exact absurd e (nlk d')
    · exact ⟨by rw [ne j hj]; exact e, rfl⟩
  · by_cases hj : j = i
    · subst hj; exact absurd e (at_i _)
    · rw [ne j hj] at e; exact ⟨e, rfl⟩
  · by_cases hj : j = i
    · subst hj; exact absurd e (at_i _)
    · rw [ne j hj] at e; exact ⟨e, rfl⟩
theorem Stp.drops {B Z H : Hp} {σ : L2.St} : ∀ {is : List Nat} {env env' : DEnv} {Fs : Nat → List Addr} {P : Addr → Prop}, Good G B Z H σ env Fs → (∀ a, InF Fs a → P a) → dropS is env = some env' → ∃ Fs', Stp G B Z H σ env P Z H σ env' Fs' ∧ ∀ a, InF Fs' a → InF Fs a
  | [], env, env', Fs, P, g, hp, h => by
    cases h
    exact ⟨Fs, Stp.refl g hp, fun _ m => m⟩
  | i :: r, env, env', Fs, P, g, hp, h => by
    unfold dropS at h
    split at h
    · rename_i hf
      have s1 := Stp.drop1 (P := P) g hp hf
      obtain ⟨Fs', s2, h2⟩ := Stp.drops (P := P) s1.good (fun a m => hp a (inF_off m)) h
      exact ⟨Fs', s1.trans (fun a m => .inr m) s2, fun a m => inF_off (h2 a m)⟩
    · cases h
/-- names forgotten behind a statement -/
theorem s_then {st : List Stmt} {f g : Stm} (h : PSs X st (TSt G W f)) (hg : ∀ (B Z H : Hp) (σ : L2.St) (env : DEnv) (Fs : Nat → List Addr) (P : Addr → Prop) (En : Ends), Good G B Z H σ env Fs → (∀ a, InF Fs a → P a) → FinS G W B Z H σ env P (g env) En → En.nx σ H) : PSs X st (TSt G W (sSeq f g)) :=
  h.imp fun En σ H ⟨B, Z, Fs, env, gd, q⟩ => by
    refine ⟨B, Z, Fs, env, gd, ?_⟩
    unfold sSeq at q
    cases hf : f env with
    | bad => rw [hf] at q; exact q.elim
    | exc c => rw [hf] at q; exact q
    | ok fl =>
      rw [hf] at q
      cases fl with
      | nx e => exact fun σ' Z' H' Fs' s => hg B Z' H' σ' e Fs' (InF Fs') En s.good (fun _ m => m) (FinS.later s s.new q)
      | bk e => exact q
      | ct e => exact q
      | rt d e => exact q
theorem s_drop {st : List Stmt} {f : Stm} (is : List Nat) (h : PSs X st (TSt G W f)) : PSs X st (TSt G W (sSeq f (sDrop is))) :=
  s_then h fun B Z H σ env Fs P En g hp q => by
    unfold sDrop at q
    cases hd : dropS is env with
    | none => rw [hd] at q; exact q.elim
    | some e2 =>
      rw [hd] at q
      obtain ⟨Fs', s, _⟩ := Stp.drops (P := P) g hp hd
      exact q σ Z H Fs' s
end
end DL

namespace DL
open PySem PySem.Spec PyProof.Rows L2

/-! ### defs as functions on data -/
/-- how an argument is handed in: read; changed and handed back; handed over -/
inductive Pm where
  | b | io | mv
  deriving DecidableEq
def Pm.own : Pm → Bool
  | .b => false
  | _ => true
def Pm.isIo : Pm → Bool
  | .io => true
  | _ => false
def Pm.md : Pm → Md
  | .b => .brw
  | .io => .io
  | .mv => .own
/-- a def: its value, and what its io arguments have become, the last one first -/
abbrev Fn := List D → Out (D × List D)
def slotsOf : List Pm → List D → DEnv
  | m :: ms, d :: ds => some (m.md, d) :: slotsOf ms ds
  | _, _ => []
def startD (n : Nat) (ms : List Pm) (ds : List D) : DEnv := slotsOf ms ds ++ List.replicate (n - ms.length) none
def outsFrom : List Pm → Nat → DEnv → Option (List D)
  | [], _, _ => some []
  | .io :: ms, j, env => match env[j]?, outsFrom ms (j + 1) env with
    | some (some (.io, d)), some r => some (r ++ [d])
    | _, _ => none
  | _ :: ms, j, env => outsFrom ms (j + 1) env
/-- a def by its body -/
def runFn (n : Nat) (ms : List Pm) (body : Stm) : Fn := fun ds => if ds.length = ms.length then body (startD n ms ds) >>= fun fl => match fl with
    | .nx e => must (outsFrom ms 0 e) fun o => .ok (.non, o)
    | .rt d e => must (outsFrom ms 0 e) fun o => .ok (d, o)
    | _ => .bad
  else .bad

/-- the promise of a def that is F on data -/
def spD (G : Gc) (ms : List Pm) (F : Fn) : Sp := fun vs H Q E => ∃ (its : List (Bool × D)) (T : List Addr) (Z : Hp), its.map (·.1) = ms.map Pm.own ∧ OwnT G (cut H T) Z H its vs T ∧ T.Nodup ∧ Same Z H ∧ (∀ a, a ∈ T → Z a = none) ∧ (∀ a, Z a = none) ∧
  match F (its.map (·.2)) with
  | .ok (r, outs) => ∀ v H' Z' A, (∀ a, Z' a = none) → Same Z Z' → Same Z' H' → (∀ a o, H a = some o → a ∉ T → H' a = some o) → OwnL G Z' H' (r :: outs) (v :: ioV (ms.map Pm.isIo) vs) A → A.Nodup → (∀ a, a ∈ A → Z' a = none ∧ (H a = none ∨ a ∈ T)) → (∀ a, Z' a ≠ none → Z a ≠ none ∨ H a = none ∨ a ∈ T) → Q v H'
  | .exc c => T = [] ∧ ∃ C, G.cl c = some C ∧ ∀ H', Same H H' → E (.ref C) none H'
  | .bad => False

section
variable {G : Gc} {B Z H Z' H' : Hp} {σ : L2.St} {env : DEnv} {Fs : Nat → List Addr}
theorem slotsOf_get : ∀ (ms : List Pm) (its : List (Bool × D)) (i : Nat), its.map (·.1) = ms.map Pm.own → (slotsOf ms (its.map (·.2)))[i]? = match ms[i]?, its[i]? with
    | some m, some p => some (some (m.md, p.2))
    | _, _ => none
  | [], [], i, _ => by simp [slotsOf]
  | [], _ :: _, _, h => by simp at h
  | _ :: _, [], _, h => by simp at h
  | m :: ms, p :: its, 0, h => rfl
  | m :: ms, p :: its, i + 1, h => by
    have h1 : its.map (·.1) = ms.map Pm.own := by simpa using (List.cons.inj h).2
    have := slotsOf_get ms its i h1
    simpa [slotsOf] using this
theorem slotsOf_length : ∀ (ms : List Pm) (ds : List D), ds.length = ms.length → (slotsOf ms ds).length = ms.length
  | [], [], _ => rfl
  | [], _ :: _, h => by simp at h
  | _ :: _, [], h => by simp at h
  | m :: ms, d :: ds, h => by
    show (slotsOf ms ds).length + 1 = ms.length + 1
    rw [slotsOf_length ms ds (by simpa using h)]
/-- values at hand, one by one: Ts i are the i-th one's nodes -/
theorem OwnT.each {Y : Hp} : ∀ {its : List (Bool × D)} {vs : List V} {T : List Addr}, OwnT G Y Z H its vs T → T.Nodup → ∃ Ts : Nat → List Addr, (∀ (i : Nat) (p : Bool × D), its[i]? = some p → ∃ v, vs[i]? = some v ∧ (match p.1 with
      | true => Own G Z H p.2 v (Ts i)
      | false => Own G Y H p.2 v [] ∧ Ts i = [])) ∧ (∀ (i : Nat), its[i]? = none → Ts i = []) ∧ (∀ i, (Ts i).Nodup) ∧ (∀ i j a, a ∈ Ts i → a ∈ Ts j → i = j) ∧ (∀ i a, a ∈ Ts i → a ∈ T) ∧ ∀ a, a ∈ T → ∃ i, a ∈ Ts i
  | [], vs, T, h, nd => ⟨fun _ => [], fun i p e => by simp at e, fun _ _ => rfl, fun _ => List.nodup_nil, fun _ _ _ m => (by cases m), fun _ _ m => (by cases m), fun a m => by rw [h.2] at m; cases m⟩
  | (o, d) :: r, vs, T, h, nd => by
    obtain ⟨v', rest, F2, F3, rfl, rfl, h2, h3⟩ := h
    obtain ⟨nd1, nd2, nd3⟩ := List.nodup_append.mp nd
    obtain ⟨Ts, a1, a2, a3, a4, a5, a6⟩ := OwnT.each h3 nd2
    refine ⟨fun i => match i with
      | 0 => F2
      | i + 1 => Ts i, fun i p e => ?_, fun i e => ?_, fun i => ?_, fun i j a m n => ?_, fun i a m => ?_, fun a m => ?_⟩
    · cases i with
      | zero =>
        cases e
        exact ⟨v', rfl, h2⟩
      | succ i => exact a1 i p e
    · cases i with
      | zero => cases e
      | succ i => exact a2 i e
    · cases i with
      | zero => exact nd1
      | succ i => exact a3 i
    · cases i with
      | zero =>
        cases j with
        | zero => rfl
        | succ j => exact absurd rfl (nd3 a m a (a5 j a n))
      | succ i =>
        cases j with
        | zero => exact absurd rfl (nd3 a n a (a5 i a m))
        | succ j => rw [a4 i j a m n]
    · cases i with
      | zero => exact List.mem_append_left _ m
      | succ i => exact List.mem_append_right _ (a5 i a m)
    · rcases List.mem_append.mp m with m | m
      · exact ⟨0, m⟩
      · obtain ⟨i, m⟩ := a6 a m
        exact ⟨i + 1, m⟩

/-- the state at a def's start -/
theorem start_good {ms : List Pm} {N : List Str} {its : List (Bool × D)} {vs : List V} {T : List Addr} (hm : its.map (·.1) = ms.map Pm.own) (ho : OwnT G (cut H T) Z H its vs T) (nd : T.Nodup) (hz : Same Z H) (hn : ∀ a, a ∈ T → Z a = none) (z0 : ∀ a, Z a = none) (hl : ms.length ≤ N.length) :
    ∃ Fs, Good G (cut H T) Z H (L2.start N vs) (startD N.length ms (its.map (·.2))) Fs ∧ (∀ a, InF Fs a ↔ a ∈ T) := by
  obtain ⟨Ts, a1, a2, a3, a4, a5, a6⟩ := OwnT.each ho nd
  have li : its.length = ms.length := by simpa using congrArg List.length hm
  have lv : vs.length = ms.length := (OwnT.vlen ho).trans li
  have ls : (slotsOf ms (its.map (·.2))).length = ms.length := slotsOf_length ms _ (by rw [List.length_map]; exact li)
  refine ⟨Ts, ⟨cut_le, hz, ?_, fun i => ?_, a3, a4, fun i a m => ⟨cut_in (a5 i a m), hn a (a5 i a m)⟩, z0⟩, fun a => ⟨fun ⟨i, m⟩ => a5 i a m, a6 a⟩⟩
  · unfold startD L2.start
    rw [List.length_append, List.length_append, ls, List.length_map, lv, List.length_replicate, List.length_replicate]
  · unfold startD L2.start
    by_cases hi : i < ms.length
    · have eσ : (List.map some vs ++ List.replicate (N.length - vs.length) none)[i]? = (vs[i]?).map some := by
        rw [List.getElem?_append_left (by rw [List.length_map, lv]; exact hi), List.getElem?_map]
      have ee : (slotsOf ms (its.map (·.2)) ++ List.replicate (N.length - ms.length) none)[i]? = some (some (ms[i].md, (its[i]'(by rw [li]; exact hi)).2)) := by
        rw [List.getElem?_append_left (by rw [ls]; exact hi), slotsOf_get ms its i hm, List.getElem?_eq_getElem hi, List.getElem?_eq_getElem (by rw [li]; exact hi)]
      rw [eσ, ee]
      obtain ⟨v, ev, hv⟩ := a1 i _ (List.getElem?_eq_getElem (by rw [li]; exact hi))
      rw [ev]
      have hk : its[i].1 = ms[i].own := by
        have e1 : (its.map (·.1))[i]? = (ms.map Pm.own)[i]? := by rw [hm]
        rw [List.getElem?_map, List.getElem?_map, List.getElem?_eq_getElem (by rw [li]; exact hi), List.getElem?_eq_getElem hi] at e1
        exact Option.some.inj e1
      show SlotOk G (cut H T) Z H (some (some v)) (some (some (ms[i].md, its[i].2))) (Ts i)
      rw [hk] at hv
      have jz : Same (cut H T) (joi (cut H T) Z) := joi_left
      refine ⟨v, rfl, ?_⟩
      generalize hms : ms[i] = m at hv
      cases m with
      | b => exact ⟨Own.keep jz _ v [] (fun _ _ e _ => e) hv.1, hv.2⟩
      | io => exact hv
      | mv => exact hv
    · have hi' : ms.length ≤ i := Nat.le_of_not_lt hi
      have ee : (slotsOf ms (its.map (·.2)) ++ List.replicate (N.length - ms.length) none)[i]? = none ∨ (slotsOf ms (its.map (·.2)) ++ List.replicate (N.length - ms.length) none)[i]? = some none := by
        rw [List.getElem?_append_right (by rw [ls]; exact hi'), List.getElem?_replicate]
        split
        · exact .inr rfl
        · exact .inl rfl
      rw [a2 i (List.getElem?_eq_none_iff.mpr (by rw [li]; exact hi'))]
      rcases ee with ee | ee
      · rw [ee]; rfl
      · rw [ee]; rfl

/-- what has become of the io arguments -/
theorem outs_ok {σ' : L2.St} {env' : DEnv} {Fs' : Nat → List Addr} {B' : Hp} (g : Good G B' Z' H' σ' env' Fs') : ∀ (ms : List Pm) (j : Nat) (outs : List D) (vs : List V), outsFrom ms j env' = some outs → (∀ i v, vs[i]? = some v → ms[i]? = some .io → σ'[j + i]? = some (some v)) → vs.length = ms.length →
    ∃ A, OwnL G Z' H' outs (ioV (ms.map Pm.isIo) vs) A ∧ A.Nodup ∧ (∀ a, a ∈ A → ∃ i, j ≤ i ∧ a ∈ Fs' i)
  | [], j, outs, [], h, _, _ => by
    cases (show some ([] : List D) = some outs from h)
    exact ⟨[], ⟨rfl, rfl⟩, List.nodup_nil, fun a m => by cases m⟩
  | [], _, _, _ :: _, _, _, h => by simp at h
  | _ :: _, _, _, [], _, _, h => by simp at h
  | .b :: ms, j, outs, v :: vs, h, hv, hl => by
    obtain ⟨A, h1, h2, h3⟩ := outs_ok g ms (j + 1) outs vs h (fun i w e1 e2 => by
      have := hv (i + 1) w e1 e2
      rw [show j + 1 + i = j + (i + 1) by omega]
      exact this) (by simpa using hl)
    exact ⟨A, h1, h2, fun a m => let ⟨i, hi, m⟩ := h3 a m; ⟨i, by omega, m⟩⟩
  | .mv :: ms, j, outs, v :: vs, h, hv, hl => by
    obtain ⟨A, h1, h2, h3⟩ := outs_ok g ms (j + 1) outs vs h (fun i w e1 e2 => by
      have := hv (i + 1) w e1 e2
      rw [show j + 1 + i = j + (i + 1) by omega]
      exact this) (by simpa using hl)
    exact ⟨A, h1, h2, fun a m => let ⟨i, hi, m⟩ := h3 a m; ⟨i, by omega, m⟩⟩
  | .io :: ms, j, outs, v :: vs, h, hv, hl => by
    have h : (match env'[j]?, outsFrom ms (j + 1) env' with
      | some (some (.io, d)), some r => some (r ++ [d])
      | _, _ => none) = some outs := h
    cases he : env'[j]? with
    | none => rw [he] at h; cases h
    | some sl =>
      match sl, he with
      | some (.io, d), he =>
        rw [he] at h
        cases ho : outsFrom ms (j + 1) env' with
        | none => rw [ho] at h; cases h
        | some r =>
          rw [ho] at h
          cases h
          obtain ⟨A, h1, h2, h3⟩ := outs_ok g ms (j + 1) r vs ho (fun i w e1 e2 => by
            have := hv (i + 1) w e1 e2
            rw [show j + 1 + i = j + (i + 1) by omega]
            exact this) (by simpa using hl)
          have hs := g.sl j
          rw [he] at hs
          obtain ⟨w, ew, hw⟩ := hs
          have e0 : σ'[j]? = some (some v) := hv 0 v rfl rfl
          rw [e0] at ew
          have : v = w := Option.some.inj (Option.some.inj ew)
          subst this
          refine ⟨A ++ Fs' j, OwnL.append h1 ⟨v, [], Fs' j, [], rfl, by simp, hw, rfl, rfl⟩, List.nodup_append.mpr ⟨h2, g.nd j, fun a m b n => ?_⟩, fun a m => ?_⟩
          · rintro rfl
            obtain ⟨i, hi, m⟩ := h3 a m
            have := g.dj i j a m n
            omega
          · rcases List.mem_append.mp m with m | m
            · obtain ⟨i, hi, m⟩ := h3 a m
              exact ⟨i, by omega, m⟩
            · exact ⟨j, Nat.le_refl _, m⟩
      | none, he => rw [he] at h; cases h
      | some (.own, d), he => rw [he] at h; cases h
      | some (.shr, d), he => rw [he] at h; cases h
      | some (.brw, d), he => rw [he] at h; cases h
      | some (.lck, d), he => rw [he] at h; cases h
theorem startD_io {ms : List Pm} {its : List (Bool × D)} {n i : Nat} (hm : its.map (·.1) = ms.map Pm.own) (h : ms[i]? = some .io) : ∃ d, (startD n ms (its.map (·.2)))[i]? = some (some (Md.io, d)) := by
  have hi : i < ms.length := (List.getElem?_eq_some_iff.mp h).1
  have li : its.length = ms.length := by simpa using congrArg List.length hm
  have ls : (slotsOf ms (its.map (·.2))).length = ms.length := slotsOf_length ms _ (by rw [List.length_map]; exact li)
  unfold startD
  rw [List.getElem?_append_left (by rw [ls]; exact hi), slotsOf_get ms its i hm, h, List.getElem?_eq_getElem (by rw [li]; exact hi)]
  exact ⟨_, rfl⟩
end

/-- what a body's context tells: W is wished of the refusals that leave it -/
structure DXW (X : Cx) (G : Gc) (W : Wsh) : Prop where
  dx : DX X G
  wc : ∀ c H, W c H → ∃ C, G.cl c = some C
  tk : Takes X (fun cls d _ H' => d = none ∧ ∃ c C, cls = .ref C ∧ G.cl c = some C ∧ W c H')
/-- the wish of one refusal, for a call -/
def wishX (G : Gc) (W : Wsh) : XK := fun cls d H' => d = none ∧ ∃ c C, cls = .ref C ∧ G.cl c = some C ∧ W c H'
theorem DXW.passes {X : Cx} {G : Gc} {W : Wsh} (h : DXW X G W) : Passes (L2.CX X.prog X.w) X (wishX G W) := passes_call h.tk fun _ _ _ _ z => z

section
variable {P : Program} {w : World} {K : PySem.W.Frag} {mg : Str → Option Value} {base : Heap}
/-- THE RULE for a def: its body on data -/
theorem def_ok {x qual : Str} {st : Stmt} {f : Addr} {fd : FuncData} {N ps : List Str} {k : Nat} {cl : Str → Option Addr} {ms : List Pm} {body : Stm} (F : L2.Fun K x qual st f fd) (S : FnScope N ps (defScope st)) (hms : ms.length = ps.length)
    (hbody : ∀ (cdv : Value) (A : Around) (outer : List Env) (s : Shared) (H : Hp) (E : XK) (W : Wsh), Room k (A.deeper (envOfC qual (defScope st) s.heap.objs.size f cdv)) →
      DXW (cxOf (L2.CX P w) P w K mg base N qual (defScope st) f cdv A outer s H E) ⟨K, cl⟩ W →
      PassesOwn (model P w) (cxOf (L2.CX P w) P w K mg base N qual (defScope st) f cdv A outer s H E).A (cxOf (L2.CX P w) P w K mg base N qual (defScope st) f cdv A outer s H E).env (cxOf (L2.CX P w) P w K mg base N qual (defScope st) f cdv A outer s H E).xe →
      PSs (cxOf (L2.CX P w) P w K mg base N qual (defScope st) f cdv A outer s H E) (defBody st) (TSt ⟨K, cl⟩ W body)) :
    FnOk P w K mg base (L2.CX P w) (k + 1) f fd ps (spD ⟨K, cl⟩ ms (runFn N.length ms body)) := by
  have hN : ms.length ≤ N.length := by
    have := congrArg List.length S.pre
    rw [List.length_take] at this
    omega
  refine F.okX S (fun vs H Q E h => ?_) (fun cdv A outer s H vs Q E hr h => ?_)
  · obtain ⟨its, T, Z, hm, ho, _⟩ := h
    have li : its.length = ms.length := by simpa using congrArg List.length hm
    rw [OwnT.vlen ho, li, hms]
  · obtain ⟨its, T, Z, hm, ho, nd, hz, hn, z0, hF⟩ := h
    have li : its.length = ms.length := by simpa using congrArg List.length hm
    have lv : vs.length = ms.length := (OwnT.vlen ho).trans li
    obtain ⟨Fs, g, hT⟩ := start_good (G := ⟨K, cl⟩) hm ho nd hz hn z0 hN
    have W : Wsh := fun c H' => ∃ C, cl c = some C ∧ E (.ref C) none H'
    have hd : DXW (cxOf (L2.CX P w) P w K mg base N qual (defScope st) f cdv A outer s H E) ⟨K, cl⟩ (fun c H' => ∃ C, cl c = some C ∧ E (.ref C) none H') := by
      refine ⟨⟨rfl, rfl, S.nd, Nat.lt_of_le_of_lt (show (A.deeper (envOfC qual (defScope st) s.heap.objs.size f cdv)).units + 70 ≤ (A.deeper (envOfC qual (defScope st) s.heap.objs.size f cdv)).units + 16 * k + 200 by omega) hr.un⟩, fun c H' ⟨C, h, _⟩ => ⟨C, h⟩, ?_⟩
      refine (takes_of (E := E) rfl rfl rfl rfl).imp fun cls d σ H' ⟨e, c, C, e2, e3, C', e4, e5⟩ => ?_
      subst e e2
      rw [show cl c = some C from e3] at e4
      cases e4
      exact e5
    have hp : PassesOwn (model P w) (cxOf (L2.CX P w) P w K mg base N qual (defScope st) f cdv A outer s H E).A (cxOf (L2.CX P w) P w K mg base N qual (defScope st) f cdv A outer s H E).env (cxOf (L2.CX P w) P w K mg base N qual (defScope st) f cdv A outer s H E).xe :=
      passes_of (X := cxOf (L2.CX P w) P w K mg base N qual (defScope st) f cdv A outer s H E) rfl
    refine ⟨_, hbody cdv A outer s H E _ hr hd hp, cut H T, Z, Fs, startD N.length ms (its.map (·.2)), g, ?_⟩
    have ioσ : ∀ {σ' : L2.St} {env' : DEnv} {Z' H' : Hp} {Fs' : Nat → List Addr}, Stp ⟨K, cl⟩ (cut H T) Z H (L2.start N vs) (startD N.length ms (its.map (·.2))) (InF Fs) Z' H' σ' env' Fs' → ∀ i v, vs[i]? = some v → ms[i]? = some .io → σ'[0 + i]? = some (some v) := fun {σ' env' Z' H' Fs'} s1 i v e1 e2 => by
      obtain ⟨d, ed⟩ := startD_io (n := N.length) hm e2
      rw [Nat.zero_add, (s1.io i d ed).2]
      unfold L2.start
      have hi : i < vs.length := (List.getElem?_eq_some_iff.mp e1).1
      rw [List.getElem?_append_left (by rw [List.length_map]; exact hi), List.getElem?_map, e1]
      rfl
    have ext' : ∀ {σ' : L2.St} {env' : DEnv} {Z' H' : Hp} {Fs' : Nat → List Addr}, Stp ⟨K, cl⟩ (cut H T) Z H (L2.start N vs) (startD N.length ms (its.map (·.2))) (InF Fs) Z' H' σ' env' Fs' → ∀ a o, H a = some o → a ∉ T → H' a = some o := fun {σ' env' Z' H' Fs'} s1 a o e n => s1.ext a o e fun m => n ((hT a).mp m)
    have run : runFn N.length ms body (its.map (·.2)) = (body (startD N.length ms (its.map (·.2))) >>= fun fl => match fl with
        | .nx e => must (outsFrom ms 0 e) fun o => .ok (.non, o)
        | .rt d e => must (outsFrom ms 0 e) fun o => .ok (d, o)
        | _ => .bad) := by
      unfold runFn
      rw [if_pos (by rw [List.length_map]; exact li)]
    rw [run] at hF
    unfold FinS
    generalize body (startD N.length ms (its.map (·.2))) = ob at hF ⊢
    match ob, hF with
    | .bad, hF => exact False.elim hF
    | .exc c, hF =>
      have hF : T = [] ∧ ∃ C, cl c = some C ∧ ∀ H', Same H H' → E (.ref C) none H' := hF
      obtain ⟨rfl, C, hc, hE⟩ := hF
      intro H' hs
      refine ⟨C, hc, hE H' fun a o e => hs a o ?_⟩
      unfold cut
      rw [if_neg (by simp)]
      exact e
    | .ok (.bk e), hF => exact False.elim hF
    | .ok (.ct e), hF => exact False.elim hF
    | .ok (.nx e), hF =>
      intro σ' Z' H' Fs' s1
      have hF : (match must (outsFrom ms 0 e) fun o => Out.ok (D.non, o) with
        | .ok (r, outs) => ∀ v H' Z' A, (∀ a, Z' a = none) → Same Z Z' → Same Z' H' → (∀ a o, H a = some o → a ∉ T → H' a = some o) → OwnL ⟨K, cl⟩ Z' H' (r :: outs) (v :: ioV (ms.map Pm.isIo) vs) A → A.Nodup → (∀ a, a ∈ A → Z' a = none ∧ (H a = none ∨ a ∈ T)) → (∀ a, Z' a ≠ none → Z a ≠ none ∨ H a = none ∨ a ∈ T) → Q v H'
        | .exc c => T = [] ∧ ∃ C, cl c = some C ∧ ∀ H', Same H H' → E (.ref C) none H'
        | .bad => False) := hF
      cases ho' : outsFrom ms 0 e with
      | none => rw [ho'] at hF; exact hF.elim
      | some outs =>
        rw [ho'] at hF
        obtain ⟨A, h1, h2, h3⟩ := outs_ok s1.good ms 0 outs vs ho' (ioσ s1) lv
        refine hF .non H' Z' A s1.good.z0 s1.zz s1.good.sz (ext' s1) ⟨.non, _, [], A, rfl, rfl, ⟨rfl, rfl⟩, h1⟩ h2 (fun a m => ?_) (fun a m => ?_)
        · obtain ⟨i, _, m⟩ := h3 a m
          exact ⟨(s1.good.fr i a m).2, (s1.new a ⟨i, m⟩).imp id (hT a).mp⟩
        · exact (s1.newz a m).imp id fun z => z.imp id (hT a).mp
    | .ok (.rt d e), hF =>
      intro σ' v Z' H' Fs' F' r1
      have s1 := r1.st
      have hF : (match must (outsFrom ms 0 e) fun o => Out.ok (d, o) with
        | .ok (r, outs) => ∀ v H' Z' A, (∀ a, Z' a = none) → Same Z Z' → Same Z' H' → (∀ a o, H a = some o → a ∉ T → H' a = some o) → OwnL ⟨K, cl⟩ Z' H' (r :: outs) (v :: ioV (ms.map Pm.isIo) vs) A → A.Nodup → (∀ a, a ∈ A → Z' a = none ∧ (H a = none ∨ a ∈ T)) → (∀ a, Z' a ≠ none → Z a ≠ none ∨ H a = none ∨ a ∈ T) → Q v H'
        | .exc c => T = [] ∧ ∃ C, cl c = some C ∧ ∀ H', Same H H' → E (.ref C) none H'
        | .bad => False) := hF
      cases ho' : outsFrom ms 0 e with
      | none => rw [ho'] at hF; exact hF.elim
      | some outs =>
        rw [ho'] at hF
        obtain ⟨A, h1, h2, h3⟩ := outs_ok s1.good ms 0 outs vs ho' (ioσ s1) lv
        refine hF v H' Z' (F' ++ A) s1.good.z0 s1.zz s1.good.sz (ext' s1) ⟨v, _, F', A, rfl, rfl, r1.own, h1⟩ (List.nodup_append.mpr ⟨r1.nd, h2, fun a m b n => ?_⟩) (fun a m => ?_) (fun a m => ?_)
        · rintro rfl
          obtain ⟨i, _, n⟩ := h3 a n
          exact r1.dj a m ⟨i, n⟩
        · rcases List.mem_append.mp m with m | m
          · exact ⟨(r1.fr a m).2, (r1.new a m).imp id (hT a).mp⟩
          · obtain ⟨i, _, m⟩ := h3 a m
            exact ⟨(s1.good.fr i a m).2, (s1.new a ⟨i, m⟩).imp id (hT a).mp⟩
        · exact (s1.newz a m).imp id fun z => z.imp id (hT a).mp
end

/-! ### calls -/
/-- the values at hand as a def takes them: what it only reads is not owned any more -/
theorem OwnT.asked {G : Gc} {Z H : Hp} : ∀ {its : List (Bool × D)} {vs : List V} {T : List Addr} {Y : Hp} {ms : List Pm}, OwnT G Y Z H its vs T → its.length = ms.length → T.Nodup → (∀ (i : Nat) (p : Bool × D) (m : Pm), its[i]? = some p → ms[i]? = some m → m.own = true → p.1 = true) →
    ∃ (its' : List (Bool × D)) (T' : List Addr), its'.map (·.1) = ms.map Pm.own ∧ its'.map (·.2) = its.map (·.2) ∧ T'.Nodup ∧ (∀ a, a ∈ T' → a ∈ T) ∧ (ms.all (fun (m : Pm) => !m.own) = true → T' = []) ∧
      ∀ Y' : Hp, Same Y Y' → Same Z Y' → (∀ b u, b ∈ T → b ∉ T' → H b = some u → Y' b = some u) → OwnT G Y' Z H its' vs T'
  | [], vs, T, Y, [], h, _, _, _ => ⟨[], [], rfl, rfl, List.nodup_nil, fun a m => (by cases m), fun _ => rfl, fun Y' _ _ _ => ⟨h.1, rfl⟩⟩
  | [], _, _, _, _ :: _, _, hl, _, _ => by simp at hl
  | _ :: _, _, _, _, [], _, hl, _, _ => by simp at hl
  | (o, d) :: r, vs, T, Y, m :: ms, h, hl, nd, hk => by
    obtain ⟨v', rest, F2, F3, rfl, rfl, h2, h3⟩ := h
    obtain ⟨nd1, nd2, nd3⟩ := List.nodup_append.mp nd
    obtain ⟨its', T', e1, e2, n1, s1, z1, c1⟩ := OwnT.asked h3 (by simpa using hl) nd2 fun i p m' q1 q2 => hk (i + 1) p m' q1 q2
    by_cases hm : m.own = true
    · have ho : o = true := hk 0 (o, d) m rfl rfl hm
      subst ho
      refine ⟨(true, d) :: its', F2 ++ T', by rw [List.map_cons, List.map_cons, e1, hm], by rw [List.map_cons, List.map_cons, e2], List.nodup_append.mpr ⟨nd1, n1, fun a p b q => nd3 a p b (s1 b q)⟩, fun a q => ?_, fun z => ?_, fun Y' y1 y2 y3 => ?_⟩
      · rcases List.mem_append.mp q with q | q
        · exact List.mem_append_left _ q
        · exact List.mem_append_right _ (s1 a q)
      · simp [hm] at z
      · refine ⟨v', rest, F2, T', rfl, rfl, h2, c1 Y' y1 y2 fun b u p q e => y3 b u (List.mem_append_right _ p) (fun z => ?_) e⟩
        rcases List.mem_append.mp z with z | z
        · exact nd3 b z b p rfl
        · exact q z
    · have hm' : m.own = false := by simpa using hm
      refine ⟨(false, d) :: its', T', by rw [List.map_cons, List.map_cons, e1, hm'], by rw [List.map_cons, List.map_cons, e2], n1, fun a q => List.mem_append_right _ (s1 a q), fun z => ?_, fun Y' y1 y2 y3 => ?_⟩
      · simp only [List.all_cons, Bool.and_eq_true] at z
        exact z1 z.2
      · refine ⟨v', rest, [], T', rfl, rfl, ⟨?_, rfl⟩, c1 Y' y1 y2 fun b u p q e => y3 b u (List.mem_append_right _ p) q e⟩
        cases o with
        | true => exact Own.freeze y2 d v' F2 (fun b u p e => y3 b u (List.mem_append_left _ p) (fun q => nd3 b p b (s1 b q) rfl) e) h2
        | false => exact Own.keep y1 d v' [] (fun _ _ e _ => e) h2.1
def callK (ms : List Pm) (F : Fn) : Kn := fun ds e => match F ds with
  | .ok (r, o) => .ok (r, o, e)
  | .exc c => if ms.all (fun (m : Pm) => !m.own) = true then .exc c else .bad
  | .bad => .bad
/-- arguments as a def asks for them -/
def fitB : List Pm → List Bool → Bool
  | [], [] => true
  | m :: ms, b :: bs => (!m.own || b) && fitB ms bs
  | _, _ => false
theorem fitB_len : ∀ {ms : List Pm} {bs : List Bool}, fitB ms bs = true → bs.length = ms.length
  | [], [], _ => rfl
  | [], _ :: _, h => by cases h
  | _ :: _, [], h => by cases h
  | m :: ms, b :: bs, h => by
    have h : ((!m.own || b) && fitB ms bs) = true := h
    simp only [Bool.and_eq_true] at h
    rw [List.length_cons, List.length_cons, fitB_len h.2]
theorem fitB_at : ∀ {ms : List Pm} {bs : List Bool}, fitB ms bs = true → ∀ (i : Nat) (m : Pm) (b : Bool), ms[i]? = some m → bs[i]? = some b → m.own = true → b = true
  | [], [], _, i, m, b, e, _, _ => by simp at e
  | [], _ :: _, h, _, _, _, _, _, _ => by cases h
  | _ :: _, [], h, _, _, _, _, _, _ => by cases h
  | m :: ms, b :: bs, h, i, m', b', e1, e2, ho => by
    have h : ((!m.own || b) && fitB ms bs) = true := h
    simp only [Bool.and_eq_true] at h
    cases i with
    | zero =>
      cases e1
      cases e2
      have := h.1
      rw [ho] at this
      simpa using this
    | succ i => exact fitB_at h.2 i m' b' e1 e2 ho
section
variable {G : Gc} {W : Wsh}
theorem call_kok {ms : List Pm} {F : Fn} {bs : List Bool} (hf : fitB ms bs = true) (hwc : ∀ c H, W c H → ∃ C, G.cl c = some C) : KOk G W (ms.map Pm.isIo) bs (fun vs H Q => spD G ms F vs H Q (wishX G W)) (callK ms F) := by
  intro B Z H σ env Fs its vs T ios Q gd hd hb hn hF
  have li : its.length = ms.length := by rw [← fitB_len hf, ← hb, List.length_map]
  obtain ⟨its', T', e1, e2, n1, s1, z1, c1⟩ := OwnT.asked (ms := ms) hd.own li hd.nd fun i p m q1 q2 ho => by
    refine fitB_at hf i m p.1 q2 ?_ ho
    rw [← hb, List.getElem?_map, q1]
    rfl
  have hT' : ∀ a, a ∈ T' → Z a = none := fun a m => (hd.fr a (s1 a m)).2
  refine ⟨its', T', Z, e1, c1 (cut H T') (fun a u e => ?_) (fun a u e => ?_) (fun b u _ n e => by rw [cut_out n]; exact e), n1, gd.sz, hT', gd.z0, ?_⟩
  · unfold cut at e ⊢
    split at e
    · cases e
    · rename_i n
      rw [if_neg fun m => n (s1 a m)]
      exact e
  · rw [cut_out fun m => by rw [hT' a m] at e; cases e]
    exact gd.sz a u e
  · rw [e2]
    unfold callK at hF
    generalize F (its.map (·.2)) = fo at hF ⊢
    match fo, hF with
    | .bad, hF => exact False.elim hF
    | .exc c, hF =>
      have hF : FinO G W B Z H σ env (PT_ Fs T) ios (if ms.all (fun (m : Pm) => !m.own) = true then .exc c else .bad) Q := hF
      by_cases ha : ms.all (fun (m : Pm) => !m.own) = true
      · rw [if_pos ha] at hF
        obtain ⟨C, hC⟩ := hwc c H (hF H gd.sb)
        exact ⟨z1 ha, C, hC, fun H' hs => ⟨rfl, c, C, rfl, hC, hF H' (gd.sb.trans hs)⟩⟩
      · rw [if_neg ha] at hF
        exact hF.elim
    | .ok (r, o), hF =>
      intro v H' Z' A z0' z2 z3 ext ho nd hfr hnz
      subst hn
      have st : Stp G B Z H σ env (PT_ Fs T) Z' H' σ env Fs := by
        have b' : Same B H' := fun a u e => ext a u (gd.sb a u e) fun m => by rw [(hd.fr a (s1 a m)).1] at e; cases e
        have ninf : ∀ a, InF Fs a → a ∉ T' := fun a m n => hd.dj a (s1 a n) m
        refine ⟨z2, fun a u e n => ext a u e fun m => n (.inr (s1 a m)), ⟨b', z3, gd.len, fun i => ?_, gd.nd, gd.dj, fun i a m => ⟨(gd.fr i a m).1, ?_⟩, z0'⟩, fun a m => .inr (.inl m), fun a m => (hnz a m).imp id fun z => z.imp id fun z => .inr (s1 a z), fun j d e => ⟨⟨d, e⟩, rfl⟩, fun j d e => ⟨e, rfl⟩, fun j d e => ⟨e, rfl⟩, fun j d e => ⟨e, rfl⟩, rfl⟩
        · refine (gd.sl i).keep gd.sb gd.sz b' z3 z2 fun a u e m => ?_
          rcases m with m | nm
          · exact ext a u e (ninf a ⟨i, m⟩)
          · refine ext a _ e fun m => ?_
            obtain ⟨u, e3, mu⟩ := hd.own.dom a (s1 a m)
            rw [e] at e3; cases e3
            exact nm mu
        · cases q : Z' a with
          | none => rfl
          | some u =>
            rcases hnz a (by rw [q]; simp) with z | z | z
            · exact absurd (gd.fr i a m).2 z
            · obtain ⟨u', e, _⟩ := gd.dom ⟨i, m⟩
              rw [e] at z; cases z
            · exact absurd z (ninf a ⟨i, m⟩)
      refine hF v Z' H' Fs A ⟨st, ho, nd, fun a m n => ?_, fun a m => ⟨?_, (hfr a m).1⟩, fun a m => (hfr a m).2.imp id fun z => .inr (s1 a z)⟩
      · rcases (hfr a m).2 with z | z
        · obtain ⟨u', e, _⟩ := gd.dom n
          rw [e] at z; cases z
        · exact hd.dj a (s1 a z) n
      · rcases (hfr a m).2 with z | z
        · exact (none_of_free gd z).2.1
        · exact (hd.fr a (s1 a z)).1
/-- a call of a def -/
theorem e_call {X : Cx} {ms : List Pm} {F : Fn} {k : Nat} {f : Addr} {fd : FuncData} {ps : List Str} {x : Str} {p pos : Pos} {e : Expr} {es : List Expr} {t : TA} (dw : DXW X G W) (FO : FnOk X.prog X.w X.K X.mg X.base (L2.CX X.prog X.w) k f fd ps (spD G ms F)) (hr : Room k X.A) (hg : Gl X x) (hm : X.mg x = some (.ref f)) (hk : PySem.W.keepIn X.K (.ref f) = true) (hb : Binds X.K fd ps []) (c : Chn)
    (ha : PA X (e :: es) t) (ht : t = seqTE (c.tes G W) := by rfl) (hi : c.iofs = ms.map Pm.isIo := by rfl) (hf : fitB ms c.kinds = true := by rfl) (hdb : (x == ("__debug__" : Str)) = false := by decide) (he : starEach (e :: es) X.env = (false, eval e X.env) :: starEach es X.env := by rfl) (hpl : (backTo pos (starEach es X.env)).any (·.1) = false := by rfl) :
    PE X (.Call (.Name x p) (e :: es) [] pos) (TV G W (eK c (callK ms F))) :=
  (pe_call FO hr hg hm hk hb .nil dw.passes ha hdb he hpl).imp fun σ H Q h => by
    subst ht
    have q := tv_chn (c := c) (call_kok (F := F) hf dw.wc) hi rfl σ H Q h
    show seqTE (c.tes G W) σ H fun vs H1 => spD G ms F (vs ++ []) H1 Q (wishX G W)
    simpa using q
end
end DL

namespace DL
open PySem PySem.Spec PyProof.Rows L2

/-! ### what is walked: operands held while a loop runs -/
/-- the outer state's steps by those of an inner one, in which some slots are locked -/
structure Unl (G : Gc) (B Z H : Hp) (σ : L2.St) (env : DEnv) (P : Addr → Prop) (B1 Z1 H1 : Hp) (env1 : DEnv) (Fs1 : Nat → List Addr) (u : DEnv → DEnv) : Prop where
  good : Good G B1 Z1 H1 σ env1 Fs1
  bb : Same B B1
  hh : ∀ a, H1 a = none ∨ InF Fs1 a → H a = none ∨ P a
  out : ∀ (Z2 H2 : Hp) (σ2 : L2.St) (e2 : DEnv) (F2 : Nat → List Addr), Stp G B1 Z1 H1 σ env1 (InF Fs1) Z2 H2 σ2 e2 F2 → ∃ F3, Stp G B Z H σ env P Z2 H2 σ2 (u e2) F3 ∧ ∀ a, ¬ InF F2 a → B1 a = none → ¬ InF F3 a ∧ B a = none
section
variable {G : Gc} {B Z H B1 Z1 H1 : Hp} {σ : L2.St} {env env1 : DEnv} {P : Addr → Prop} {Fs Fs1 : Nat → List Addr} {u : DEnv → DEnv}
theorem Unl.refl (g : Good G B Z H σ env Fs) : Unl G B Z H σ env (InF Fs) B Z H env Fs id :=
  ⟨g, Same.refl B, fun _ m => m, fun _ _ _ _ F2 s => ⟨F2, s, fun _ n b => ⟨n, b⟩⟩⟩
theorem Unl.step {Z2 H2 : Hp} {env2 : DEnv} {Fs2 : Nat → List Addr} (w : Unl G B Z H σ env P B1 Z1 H1 env1 Fs1 u) (s : Stp G B1 Z1 H1 σ env1 (InF Fs1) Z2 H2 σ env2 Fs2) : Unl G B Z H σ env P B1 Z2 H2 env2 Fs2 u := by
  refine ⟨s.good, w.bb, fun a m => w.hh a ?_, fun Z3 H3 σ3 e3 F3 s3 => w.out _ _ _ _ _ (s.trans s.new s3)⟩
  rcases m with m | m
  · cases q : H1 a with
    | none => exact .inl rfl
    | some o =>
      refine .inr ?_
      by_cases n : InF Fs1 a
      · exact n
      · have := s.ext a o q n
        rw [m] at this; cases this
  · exact s.new a m
theorem Unl.lock (w : Unl G B Z H σ env P B1 Z1 H1 env1 Fs1 u) (i : Nat) : Unl G B Z H σ env P (lockB B1 H1 Fs1 i) Z1 H1 (lock i env1) (offF Fs1 i) (fun e => u (unlock env1 e)) := by
  have g := w.good
  refine ⟨g.lock i, w.bb.trans (lockB_up g i), fun a m => w.hh a (m.imp id inF_off), fun Z2 H2 σ2 e2 F2 s => ?_⟩
  have off_i : ∀ a, InF (offF Fs1 i) a → InF Fs1 a ∧ a ∉ Fs1 i := fun a m => by
    refine ⟨inF_off m, fun n => ?_⟩
    obtain ⟨j, m⟩ := m
    unfold offF at m
    split at m
    · cases m
    · rename_i hne
      exact hne (g.dj j i a m n)
  have s1 := s.unlock g (g.lock i).pm off_i (fun a m => ⟨i, m⟩)
  obtain ⟨F3, s3, h3⟩ := w.out _ _ _ _ _ s1
  refine ⟨F3, s3, fun a n b => ?_⟩
  have b1 : B1 a = none := by
    cases q : B1 a with
    | none => rfl
    | some o =>
      have := lockB_up g i a o q
      rw [b] at this; cases this
  refine h3 a (fun m => ?_) b1
  obtain ⟨j, m⟩ := m
  rcases backF_mem m with ⟨_, m⟩ | m
  · unfold lockB at b
    rw [lay_in m] at b
    obtain ⟨o, e, _⟩ := g.dom ⟨i, m⟩
    rw [e] at b; cases b
  · exact n ⟨j, m⟩
/-- a step where more is read only -/
theorem Stp.unB {B' Z2 H2 : Hp} {σ2 : L2.St} {e2 : DEnv} {F2 : Nat → List Addr} (g : Good G B Z H σ env Fs) (hB : Same B B') (pm : PMut H P) (s : Stp G B' Z H σ env P Z2 H2 σ2 e2 F2) : Stp G B Z H σ env P Z2 H2 σ2 e2 F2 := by
  have gl := s.good
  refine ⟨s.zz, s.ext, ⟨hB.trans gl.sb, gl.sz, gl.len, fun j => (gl.sl j).unlk (g.sl j) s.zz (hB.trans gl.sb) gl.sz (fun a u e st => s.ext a _ e (pm.tup e st)) (fun d e => ⟨(s.bw j d e).1 ▸ rfl, (s.bw j d e).2⟩) (fun d e => ⟨(s.lb j d e).1 ▸ rfl, (s.lb j d e).2⟩), gl.nd, gl.dj, fun i a m => ⟨?_, (gl.fr i a m).2⟩, gl.z0⟩, s.new, s.newz, s.io, s.lk, s.bw, s.lb, s.ln⟩
  cases q : B a with
  | none => rfl
  | some u =>
    have := hB a u q
    rw [(gl.fr i a m).1] at this; cases this
/-- a value at hand, held while the rest runs -/
theorem Unl.hold {F : List Addr} {d : D} {v : V} (w : Unl G B Z H σ env P B1 Z1 H1 env1 Fs1 u) (ho : Own G Z1 H1 d v F) (hd : ∀ a, a ∈ F → ¬ InF Fs1 a) : Unl G B Z H σ env P (lay B1 H1 F) Z1 H1 env1 Fs1 u ∧ Own G (joi (lay B1 H1 F) Z1) H1 d v [] := by
  have g := w.good
  have up : Same B1 (lay B1 H1 F) := lay_up g.sb
  have le : Same (lay B1 H1 F) H1 := lay_le g.sb
  refine ⟨⟨⟨le, g.sz, g.len, fun j => ?_, g.nd, g.dj, fun i a m => ⟨?_, (g.fr i a m).2⟩, g.z0⟩, w.bb.trans up, w.hh, fun Z2 H2 σ2 e2 F2 s => ?_⟩, Own.freeze (joi_right le g.sz) d v F (fun b u m e => joi_left b u (by rw [lay_in m]; exact e)) ho⟩
  · have h := g.sl j
    have j1 : Same (joi B1 Z1) (joi (lay B1 H1 F) Z1) := joi_mono up (Same.refl Z1) le g.sz
    unfold SlotOk at h ⊢
    match hs : env1[j]?, h with
    | some (some (.own, d)), h => exact h
    | some (some (.io, d)), h => exact h
    | some (some (.shr, d)), h => exact h
    | some (some (.brw, d)), h => obtain ⟨v, e, h, f⟩ := h; exact ⟨v, e, Own.keep j1 d v [] (fun _ _ e _ => e) h, f⟩
    | some (some (.lck, d)), h => obtain ⟨v, e, h, f⟩ := h; exact ⟨v, e, Own.keep j1 d v [] (fun _ _ e _ => e) h, f⟩
    | some none, h => exact h
    | none, h => exact h
  · rw [lay_out fun n => hd a n ⟨i, m⟩]
    exact (g.fr i a m).1
  · obtain ⟨F3, s3, h3⟩ := w.out _ _ _ _ _ (s.unB g up g.pm)
    refine ⟨F3, s3, fun a n b => h3 a n ?_⟩
    cases q : B1 a with
    | none => rfl
    | some o =>
      have := up a o q
      rw [b] at this; cases this
end

inductive Opn where
  | pur (h : DEnv → Option D)
  | plc (i : Nat) (g : DEnv → Option D)
  | own (f : DEnv → Out (D × DEnv))
def Opn.te (G : Gc) (W : Wsh) : Opn → TE
  | .pur h => TPur G h
  | .plc i g => TPlc G i g
  | .own f => TV G W f
def evO : List Opn → DEnv → Out (List D × List DEnv × DEnv)
  | [], env => .ok ([], [], env)
  | .pur h :: r, env => must (h env) fun d => evO r env >>= fun q => .ok (d :: q.1, q.2.1, q.2.2)
  | .plc i g :: r, env => must (g env) fun d => evO r (lock i env) >>= fun q => .ok (d :: q.1, q.2.1 ++ [env], q.2.2)
  | .own f :: r, env => f env >>= fun p => evO r p.2 >>= fun q => .ok (p.1 :: q.1, q.2.1, q.2.2)
def unlk (st : List DEnv) (e : DEnv) : DEnv := st.foldl (fun e e0 => unlock e0 e) e
/-- all tuples stay -/
def TK (H1 H : Hp) : Prop := ∀ a u, H1 a = some u → Still u → H a = some u
theorem TK.of {H H' : Hp} (h : Same H H') : TK H H' := fun a u e _ => h a _ e
theorem TK.trans {H H1 H2 : Hp} (h : TK H H1) (k : TK H1 H2) : TK H H2 := fun a u e st => k a u (h a u e st) st
theorem Stp.tk {G : Gc} {B Z H Z' H' : Hp} {σ σ' : L2.St} {env env' : DEnv} {P : Addr → Prop} {Fs' : Nat → List Addr} (s : Stp G B Z H σ env P Z' H' σ' env' Fs') (pm : PMut H P) : TK H H' := fun a u e st => s.ext a _ e (pm.tup e st)
theorem Own.keepT {G : Gc} {Y Y' H H' : Hp} {d : D} {v : V} (hy : Same Y Y') (t : TK H H') (h : Own G Y H d v []) : Own G Y' H' d v [] :=
  Own.keep hy d v [] (fun b u e m => by
    rcases m with m | nm
    · cases m
    · exact t b u e nm) h
theorem OwnL.keepT {G : Gc} {Y Y' H H' : Hp} {d : List D} {v : List V} (hy : Same Y Y') (t : TK H H') (h : OwnL G Y H d v []) : OwnL G Y' H' d v [] :=
  OwnL.keep hy d v [] (fun b u e m => by
    rcases m with m | nm
    · cases m
    · exact t b u e nm) h
theorem OwnL.snoc {G : Gc} {Y H : Hp} {ds : List D} {vs : List V} {d : D} {v : V} (h : OwnL G Y H ds vs []) (h1 : Own G Y H d v []) : OwnL G Y H (ds ++ [d]) (vs ++ [v]) [] := by
  have := OwnL.append h (OwnL.cons_nil h1 (show OwnL G Y H [] [] [] from ⟨rfl, rfl⟩))
  simpa using this

section
variable {G : Gc} {W : Wsh} {B Z H : Hp} {σ : L2.St} {env : DEnv} {P : Addr → Prop}
theorem evO_ok : ∀ (ops : List Opn) (B1 Z1 H1 : Hp) (env1 : DEnv) (Fs1 : Nat → List Addr) (u : DEnv → DEnv) (its : List D) (vs : List V) (k : List V → Hp → Prop), Unl G B Z H σ env P B1 Z1 H1 env1 Fs1 u → OwnL G (joi B1 Z1) H1 its vs [] →
    (match evO ops env1 with
      | .ok (ds, st, e) => ∀ us B2 Z2 H2 Fs2, Unl G B Z H σ env P B2 Z2 H2 e Fs2 (fun x => u (unlk st x)) → OwnL G (joi B2 Z2) H2 (its ++ ds) (vs ++ us) [] → k us H2
      | .exc c => ∀ H', Same B H' → W c H'
      | .bad => False) → seqTE (ops.map (Opn.te G W)) σ H1 k
  | [], B1, Z1, H1, env1, Fs1, u, its, vs, k, w, ho, h => by
    have h : ∀ us B2 Z2 H2 Fs2, Unl G B Z H σ env P B2 Z2 H2 env1 Fs2 (fun x => u (unlk [] x)) → OwnL G (joi B2 Z2) H2 (its ++ []) (vs ++ us) [] → k us H2 := h
    exact h [] B1 Z1 H1 Fs1 w (by rw [List.append_nil, List.append_nil]; exact ho)
  | .pur f :: r, B1, Z1, H1, env1, Fs1, u, its, vs, k, w, ho, h => by
    have e0 : evO (.pur f :: r) env1 = must (f env1) fun d => evO r env1 >>= fun q => .ok (d :: q.1, q.2.1, q.2.2) := rfl
    rw [e0] at h
    cases hf : f env1 with
    | none => rw [hf] at h; exact h.elim
    | some d =>
      rw [hf, must_some] at h
      refine ⟨B1, Z1, Fs1, env1, w.good, d, hf, fun v H2 hs hp hv => ?_⟩
      refine evO_ok r B1 Z1 H2 env1 Fs1 u (its ++ [d]) (vs ++ [v]) _ (w.step (Stp.grow w.good (fun _ m => m) hs)) (OwnL.snoc (OwnL.keepT (Same.refl _) (TK.of hs) ho) (hv _)) ?_
      cases hr : evO r env1 with
      | bad => rw [hr] at h; exact h.elim
      | exc c => rw [hr] at h; exact h
      | ok q =>
        rw [hr] at h
        exact fun us B2 Z2 H3 Fs2 w2 o2 => h (v :: us) B2 Z2 H3 Fs2 w2 (by simpa using o2)
  | .plc i f :: r, B1, Z1, H1, env1, Fs1, u, its, vs, k, w, ho, h => by
    have e0 : evO (.plc i f :: r) env1 = must (f env1) fun d => evO r (lock i env1) >>= fun q => .ok (d :: q.1, q.2.1 ++ [env1], q.2.2) := rfl
    rw [e0] at h
    cases hf : f env1 with
    | none => rw [hf] at h; exact h.elim
    | some d =>
      rw [hf, must_some] at h
      refine ⟨B1, Z1, Fs1, env1, w.good, d, hf, fun v H2 hs hv => ?_⟩
      have w1 := w.step (Stp.grow w.good (fun _ m => m) hs)
      have g1 := w1.good
      refine evO_ok r _ Z1 H2 _ _ _ (its ++ [d]) (vs ++ [v]) _ (w1.lock i) (OwnL.snoc (OwnL.keepT (joi_mono (lockB_up g1 i) (Same.refl Z1) (lockB_le g1 i) g1.sz) (TK.of hs) ho) hv) ?_
      cases hr : evO r (lock i env1) with
      | bad => rw [hr] at h; exact h.elim
      | exc c => rw [hr] at h; exact h
      | ok q =>
        rw [hr] at h
        refine fun us B2 Z2 H3 Fs2 w2 o2 => h (v :: us) B2 Z2 H3 Fs2 ?_ (by simpa using o2)
        have e : (fun x => u (unlk (q.2.1 ++ [env1]) x)) = fun x => u (unlock env1 (unlk q.2.1 x)) := by
          funext x
          unfold unlk
          rw [List.foldl_append]
          rfl
        rw [e]
        exact w2
  | .own f :: r, B1, Z1, H1, env1, Fs1, u, its, vs, k, w, ho, h => by
    have e0 : evO (.own f :: r) env1 = (f env1 >>= fun p => evO r p.2 >>= fun q => .ok (p.1 :: q.1, q.2.1, q.2.2)) := rfl
    rw [e0] at h
    refine ⟨B1, Z1, Fs1, env1, w.good, ?_⟩
    unfold FinV
    cases hf : f env1 with
    | bad => rw [hf] at h; exact h.elim
    | exc c => rw [hf] at h; exact fun H' hs => h H' (w.bb.trans hs)
    | ok p =>
      obtain ⟨d, e1⟩ := p
      rw [hf] at h
      intro v Z2 H2 Fs2 F p
      have s2 := p.st
      obtain ⟨w2, o2⟩ := (w.step s2).hold p.one p.dj
      refine evO_ok r _ _ H2 e1 Fs2 u (its ++ [d]) (vs ++ [v]) _ w2 (OwnL.snoc (OwnL.keepT (joi_mono (lay_up s2.good.sb) s2.zz w2.good.sb w2.good.sz) (s2.tk w.good.pm) ho) o2) ?_
      have h : (match evO r e1 >>= fun q => Out.ok (d :: q.1, q.2.1, q.2.2) with
        | .ok (ds, st, e) => ∀ us B2 Z2 H2 Fs2, Unl G B Z H σ env P B2 Z2 H2 e Fs2 (fun x => u (unlk st x)) → OwnL G (joi B2 Z2) H2 (its ++ ds) (vs ++ us) [] → k us H2
        | .exc c => ∀ H', Same B H' → W c H'
        | .bad => False) := h
      cases hr : evO r e1 with
      | bad => rw [hr] at h; exact h.elim
      | exc c => rw [hr] at h; exact h
      | ok q =>
        rw [hr] at h
        exact fun us B3 Z3 H3 Fs3 w3 o3 => h (v :: us) B3 Z3 H3 Fs3 w3 (by simpa using o3)
end

/-- the iterator J hands on xs, one by one, while Y and the tuples stay -/
def IterOk (G : Gc) (Y H1 : Hp) (J : It) (xs : List D) : Prop := ∀ (i : Nat) (H : Hp), Same Y H → TK H1 H → (∀ x, xs[i]? = some x → J.go i H ∧ ∀ v H', J.yld i H v H' → Same H H' ∧ Own G Y H' x v []) ∧ (i = xs.length → J.stop i H)
def TSrc (G : Gc) (W : Wsh) (ops : List Opn) (mk : List D → Option (List D)) : TI := fun σ H R => ∃ B Z Fs env, Good G B Z H σ env Fs ∧ match evO ops env with
  | .ok (ds, st, env1) => ∃ xs, mk ds = some xs ∧ ∀ B1 Z1 H1 Fs1 J, Unl G B Z H σ env (InF Fs) B1 Z1 H1 env1 Fs1 (unlk st) → IterOk G (joi B1 Z1) H1 J xs → R J H1
  | .exc c => ∀ H', Same B H' → W c H'
  | .bad => False
theorem _root_.L2.PI.imp {X : Cx} {tg e : Expr} {t t' : TI} (h : PI X tg e t) (i : ∀ σ H R, t' σ H R → t σ H R) : PI X tg e t' := ⟨fun pins s σ H R I hr => h.run pins s σ H R I (i σ H R hr)⟩
abbrev RI := List V → Hp → (It → Hp → Prop) → Prop
def fits (G : Gc) (r : RI) (mk : List D → Option (List D)) : Prop := ∀ (ds : List D) (vs : List V) (Y H : Hp) (xs : List D) (R : It → Hp → Prop), OwnL G Y H ds vs [] → Same Y H → mk ds = some xs → (∀ J H', Same H H' → IterOk G Y H' J xs → R J H') → r vs H R
theorem src_ok {G : Gc} {W : Wsh} {X : Cx} {tg e : Expr} {r : RI} {ops : List Opn} {mk : List D → Option (List D)} (hf : fits G r mk) (h : PI X tg e (fun σ H R => seqTE (ops.map (Opn.te G W)) σ H fun vs H1 => r vs H1 R)) : PI X tg e (TSrc G W ops mk) :=
  h.imp fun σ H R ⟨B, Z, Fs, env, g, q⟩ => by
    refine evO_ok (W := W) ops B Z H env Fs id [] [] _ (Unl.refl g) ⟨rfl, rfl⟩ ?_
    cases hr : evO ops env with
    | bad => rw [hr] at q; exact q.elim
    | exc c => rw [hr] at q; exact q
    | ok p =>
      obtain ⟨ds, st, e⟩ := p
      rw [hr] at q
      obtain ⟨xs, hx, q⟩ := q
      intro us B2 Z2 H2 Fs2 w o
      refine hf ds us (joi B2 Z2) H2 xs R (by simpa using o) (joi_le w.good.sb w.good.sz) hx fun J H' hs hj => ?_
      exact q B2 Z2 H' Fs2 J (w.step (Stp.grow w.good (fun _ m => m) hs)) hj

/-! ### lists, tuples, ranges, zip -/
def mkSeq : List D → Option (List D)
  | [.lst ds] => some ds
  | [.tupF _ ds] => some ds
  | _ => none
theorem mkSeq_some {ds xs : List D} (h : mkSeq ds = some xs) : ds = [.lst xs] ∨ ∃ f, ds = [.tupF f xs] := by
  unfold mkSeq at h
  split at h
  · cases h; exact .inl rfl
  · cases h; exact .inr ⟨_, rfl⟩
  · cases h
def rSeqI (K : PySem.W.Frag) : RI := fun vs H R => ∃ a, vs = [.ref a] ∧ ((∃ xs, SqL K H a xs ∧ R (Itl K a) H) ∨ (∃ xs, SqT K H a xs ∧ R (Itt K a) H))
theorem OwnL.at {G : Gc} {Y H : Hp} {ds : List D} {vs : List V} {i : Nat} {x : D} (h : OwnL G Y H ds vs []) (e : ds[i]? = some x) : ∃ v, vs[i]? = some v ∧ Own G Y H x v [] := OwnL.get h e
section
variable {G : Gc}
theorem seq_fits : fits G (rSeqI G.K) mkSeq := by
  intro ds vs Y H xs R ho hy hx q
  rcases mkSeq_some hx with rfl | ⟨f, rfl⟩
  · obtain ⟨v, r, rfl, h1, h2⟩ := OwnL.uncons ho
    obtain ⟨rfl, _⟩ := h2
    obtain ⟨a, ws, F', rfl, n, h3⟩ := h1
    rcases n with ⟨hs, _, rfl⟩ | ⟨z, _⟩
    · refine ⟨a, rfl, .inl ⟨ws, hy.seq (.inl hs), q _ H (Same.refl H) fun i H' y t => ⟨fun x e => ?_, fun hl => ?_⟩⟩⟩
      · obtain ⟨v, ev, hv⟩ := OwnL.at h3 e
        refine ⟨⟨ws, v, y.seq (.inl hs), ev⟩, fun w H2 yy => ?_⟩
        obtain ⟨rfl, yy⟩ := yy
        have := yy ws (y.seq (.inl hs))
        rw [ev] at this
        cases this
        exact ⟨Same.refl _, Own.keepT (Same.refl Y) t hv⟩
      · exact ⟨ws, y.seq (.inl hs), by rw [OwnL.length h3]; exact Nat.le_of_eq hl.symm⟩
    · cases z
  · obtain ⟨v, r, rfl, h1, h2⟩ := OwnL.uncons ho
    obtain ⟨rfl, _⟩ := h2
    obtain ⟨a, ws, rfl, e1, h3⟩ := h1
    refine ⟨a, rfl, .inr ⟨ws, e1.seq, q _ H (Same.refl H) fun i H' y t => ⟨fun x e => ?_, fun hl => ?_⟩⟩⟩
    · obtain ⟨v, ev, hv⟩ := OwnL.at h3 e
      refine ⟨⟨ws, v, (e1.keep t).seq, ev⟩, fun w H2 yy => ?_⟩
      obtain ⟨rfl, yy⟩ := yy
      have := yy ws ((e1.keep t).seq)
      rw [ev] at this
      cases this
      exact ⟨Same.refl _, Own.keepT (Same.refl Y) t hv⟩
    · exact ⟨ws, (e1.keep t).seq, by rw [OwnL.length h3]; exact Nat.le_of_eq hl.symm⟩
/-- a list or a tuple -/
theorem pi_any {X : Cx} {tg l : Expr} {tl : TE} (hl : PE X l tl) : PI X tg l (fun σ H R => tl σ H fun x H1 => rSeqI X.K [x] H1 R) := by
  refine ⟨fun ps st sg hp RR inv hh => ?_⟩
  refine thn (hl.run ps st sg hp _ inv hh) fun va sx ⟨y, hp1, J1, rr, qq⟩ => ?_
  obtain ⟨a, e, qq⟩ := qq
  cases e
  cases rr
  have fr : ∀ b, b ∈ [sx.heap.objs.size] → FpOk X ps hp1 b := fun b hb => by
    obtain rfl : b = sx.heap.objs.size := by simpa using hb
    exact J1.fpOk (Nat.le_refl _) (J1.hok.fresh (Nat.le_refl _))
  rcases qq with ⟨xs, hq, qq⟩ | ⟨xs, hq, qq⟩
  · obtain ⟨its, rv, pp, _⟩ := J1.list hq
    exact wpAny_pyIter_list pp.isList ⟨_, [_], _, _, hp1, rfl, J1.kept (t' := sx.toks) fun b o e => Heap.get?_push_of_some _ e, turn_list a _, ⟨_, Heap.get?_push_size _ rfl, rfl, rfl⟩, fr, qq⟩
  · obtain ⟨its, rv, pp, _⟩ := J1.tuple hq
    exact wpAny_pyIter_tuple (show sx.heap.IsTuple a its.toArray from pp) ⟨_, [_], _, _, hp1, rfl, J1.kept (t' := sx.toks) fun b o e => Heap.get?_push_of_some _ e, turn_tuple a _, ⟨_, Heap.get?_push_size _ rfl, rfl, rfl⟩, fr, qq⟩
theorem i_seq {W : Wsh} {X : Cx} {tg l : Expr} (op : Opn) (dx : DX X G) (hl : PE X l (op.te G W)) : PI X tg l (TSrc G W [op] mkSeq) :=
  src_ok (r := rSeqI X.K) (by rw [dx.K]; exact seq_fits) (pi_any hl)

/-- the whole numbers from lo on, n of them -/
def rngD (lo : Int) (n : Nat) : List D := (List.range n).map fun (i : Nat) => D.int (lo + (i : Int))
theorem rngD_length {lo : Int} {n : Nat} : (rngD lo n).length = n := by unfold rngD; simp
theorem rngD_at {lo : Int} {n i : Nat} {x : D} (h : (rngD lo n)[i]? = some x) : i < n ∧ x = .int (lo + (i : Int)) := by
  unfold rngD at h
  rw [List.getElem?_map] at h
  by_cases hi : i < n
  · rw [List.getElem?_range hi] at h
    exact ⟨hi, (Option.some.inj h).symm⟩
  · rw [List.getElem?_eq_none (by simpa using hi)] at h
    cases h
theorem range_iter {Y H : Hp} {lo : Int} {n : Nat} : IterOk G Y H (Itr lo n) (rngD lo n) := fun i H' y t => by
  refine ⟨fun x e => ?_, fun hl => ?_⟩
  · obtain ⟨hi, rfl⟩ := rngD_at e
    refine ⟨hi, fun v H2 yy => ?_⟩
    obtain ⟨rfl, rfl⟩ := yy
    exact ⟨Same.refl _, rfl, rfl⟩
  · rw [rngD_length] at hl
    exact Nat.le_of_eq hl.symm
def inRng (j : Int) : Bool := decide (j.natAbs < 4611686018427387904)
theorem inRng_ok {j : Int} (h : inRng j = true) : -(2 ^ 62) ≤ j ∧ j < 2 ^ 62 := by
  unfold inRng at h
  simp only [decide_eq_true_eq] at h
  omega
def mkRange1 : List D → Option (List D)
  | [d] => match d.toInt with
    | some j => if inRng j = true then some (rngD 0 j.toNat) else none
    | none => none
  | _ => none
def mkRange2 : List D → Option (List D)
  | [d, e] => match d.toInt, e.toInt with
    | some i, some j => if inRng i = true ∧ inRng j = true then some (rngD i (j - i).toNat) else none
    | _, _ => none
  | _ => none
def rRange1 : RI := fun vs H R => ∃ j : Int, vs = [.int j] ∧ -(2 ^ 62) ≤ j ∧ j < 2 ^ 62 ∧ R (Itr 0 j.toNat) H
def rRange2 : RI := fun vs H R => ∃ i j : Int, vs = [.int i, .int j] ∧ (-(2 ^ 62) ≤ i ∧ i < 2 ^ 62 ∧ -(2 ^ 62) ≤ j ∧ j < 2 ^ 62) ∧ R (Itr i (j - i).toNat) H
theorem range1_fits : fits G rRange1 mkRange1 := by
  intro ds vs Y H xs R ho hy hx q
  unfold mkRange1 at hx
  split at hx
  · rename_i d
    split at hx
    · rename_i j hj
      obtain rfl := D.toInt_some hj
      split at hx
      · rename_i hr
        cases hx
        obtain ⟨v, r, rfl, h1, h2⟩ := OwnL.uncons ho
        obtain ⟨rfl, _⟩ := h2
        exact ⟨j, by rw [h1.1], (inRng_ok hr).1, (inRng_ok hr).2, q _ H (Same.refl H) range_iter⟩
      · cases hx
    · cases hx
  · cases hx
theorem range2_fits : fits G rRange2 mkRange2 := by
  intro ds vs Y H xs R ho hy hx q
  unfold mkRange2 at hx
  split at hx
  · rename_i d e
    split at hx
    · rename_i i j hi hj
      obtain rfl := D.toInt_some hi
      obtain rfl := D.toInt_some hj
      split at hx
      · rename_i hr
        cases hx
        obtain ⟨v, r, rfl, h1, h2⟩ := OwnL.uncons ho
        obtain ⟨v2, r2, rfl, h3, h4⟩ := OwnL.uncons h2
        obtain ⟨rfl, _⟩ := h4
        exact ⟨i, j, by rw [h1.1, h3.1], ⟨(inRng_ok hr.1).1, (inRng_ok hr.1).2, (inRng_ok hr.2).1, (inRng_ok hr.2).2⟩, q _ H (Same.refl H) range_iter⟩
      · cases hx
    · cases hx
  · cases hx
theorem i_range1 {W : Wsh} {X : Cx} {tg a : Expr} {ta : TA} {p pos : Pos} (ops : List Opn) (hg : Gl X "range") (hm : X.mg "range" = none) (ha : PA X [a] ta) (ht : ta = seqTE (ops.map (Opn.te G W)) := by rfl) (hs : starEach [a] X.env = [(false, eval a X.env)] := by rfl) : PI X tg (.Call (.Name "range" p) [a] [] pos) (TSrc G W ops mkRange1) :=
  src_ok range1_fits (by subst ht; exact pi_range1 hg hm ha hs)
theorem i_range2 {W : Wsh} {X : Cx} {tg a b : Expr} {ta : TA} {p pos : Pos} (ops : List Opn) (hg : Gl X "range") (hm : X.mg "range" = none) (ha : PA X [a, b] ta) (ht : ta = seqTE (ops.map (Opn.te G W)) := by rfl) (hs : starEach [a, b] X.env = [(false, eval a X.env), (false, eval b X.env)] := by rfl) (hs2 : starEach [b] X.env = [(false, eval b X.env)] := by rfl) : PI X tg (.Call (.Name "range" p) [a, b] [] pos) (TSrc G W ops mkRange2) :=
  src_ok range2_fits (by subst ht; exact pi_range2 hg hm ha hs hs2)
end

section
variable {G : Gc}
def zipD : List D → List D → List D
  | x :: xs, y :: ys => .tup [x, y] :: zipD xs ys
  | _, _ => []
theorem zipD_length : ∀ (xs ys : List D), (zipD xs ys).length = min xs.length ys.length
  | [], ys => by simp [zipD]
  | x :: xs, [] => by simp [zipD]
  | x :: xs, y :: ys => by
    show (zipD xs ys).length + 1 = _
    rw [zipD_length xs ys, List.length_cons, List.length_cons]
    omega
theorem zipD_at : ∀ (xs ys : List D) (i : Nat) (z : D), (zipD xs ys)[i]? = some z → ∃ x y, xs[i]? = some x ∧ ys[i]? = some y ∧ z = .tup [x, y]
  | [], ys, i, z, h => by simp [zipD] at h
  | x :: xs, [], i, z, h => by simp [zipD] at h
  | x :: xs, y :: ys, 0, z, h => ⟨x, y, rfl, rfl, (Option.some.inj h).symm⟩
  | x :: xs, y :: ys, i + 1, z, h => zipD_at xs ys i z h
def D.toSeq : D → Option (List D)
  | .lst xs => some xs
  | .tupF _ xs => some xs
  | _ => none
def mkZip : List D → Option (List D)
  | [a, b] => match a.toSeq, b.toSeq with
    | some xs, some ys => some (zipD xs ys)
    | _, _ => none
  | _ => none
theorem mkZip_some {ds zs : List D} (h : mkZip ds = some zs) : ∃ a b xs ys, zs = zipD xs ys ∧ ds = [a, b] ∧ a.toSeq = some xs ∧ b.toSeq = some ys := by
  match ds, h with
  | [a, b], h =>
    have h : (match a.toSeq, b.toSeq with
      | some xs, some ys => some (zipD xs ys)
      | _, _ => none) = some zs := h
    cases ha : a.toSeq with
    | none => rw [ha] at h; cases h
    | some xs =>
      cases hb : b.toSeq with
      | none => rw [ha, hb] at h; cases h
      | some ys =>
        rw [ha, hb] at h
        cases h
        exact ⟨a, b, xs, ys, rfl, rfl, ha, hb⟩
theorem Own.sq {Y H : Hp} {d : D} {v : V} {ds : List D} (h : Own G Y H d v []) (e : d.toSeq = some ds) : ∃ k a vs, v = .ref a ∧ (∀ H', Same Y H' → TK H H' → Sq G.K k H' a vs) ∧ OwnL G Y H ds vs [] := by
  cases d with
  | lst xs =>
    cases e
    obtain ⟨a, ws, F', rfl, n, o⟩ := h
    rcases n with ⟨hs, _, rfl⟩ | ⟨z, _⟩
    · exact ⟨true, a, ws, rfl, fun H' y _ => y.seq (.inl hs), o⟩
    · cases z
  | tupF f xs =>
    cases e
    obtain ⟨a, ws, rfl, n, o⟩ := h
    exact ⟨false, a, ws, rfl, fun H' _ t => (n.keep t).seq, o⟩
  | _ => cases e
/-- a pair just laid -/
theorem pair_new {Y H H' : Hp} {x y : D} {u v : V} {T : Addr} (hT : H T = none) (e : H' = upd H T (.tup [u, v])) (h1 : Own G Y H x u []) (h2 : Own G Y H y v []) : Same H H' ∧ Own G Y H' (.tup [x, y]) (.ref T) [] := by
  subst e
  have s := same_upd (o := .tup [u, v]) hT
  exact ⟨s, T, [u, v], rfl, (upd_same : upd H T (.tup [u, v]) T = some (.tup [u, v])), OwnL.cons_nil (Own.keepT (Same.refl Y) (TK.of s) h1) (OwnL.cons_nil (Own.keepT (Same.refl Y) (TK.of s) h2) ⟨rfl, rfl⟩)⟩
theorem zip_fits : fits G (rZipX G.K) mkZip := by
  intro ds vs Y H zs R ho hy hx q
  obtain ⟨da, db, xs, ys, rfl, rfl, ea, eb⟩ := mkZip_some hx
  obtain ⟨v, r, rfl, h1, h2⟩ := OwnL.uncons ho
  obtain ⟨v2, r2, rfl, h3, h4⟩ := OwnL.uncons h2
  obtain ⟨rfl, _⟩ := h4
  obtain ⟨k1, a, ws, rfl, s1, o1⟩ := Own.sq h1 ea
  obtain ⟨k2, b, us, rfl, s2, o2⟩ := Own.sq h3 eb
  refine ⟨a, b, ws, us, k1, k2, rfl, s1 H hy (TK.of (Same.refl H)), s2 H hy (TK.of (Same.refl H)), q _ H (Same.refl H) fun i H' y t => ⟨fun z e => ?_, fun hl => ?_⟩⟩
  · obtain ⟨dx, dy, e1, e2, rfl⟩ := zipD_at _ _ _ _ e
    obtain ⟨vx, ex, hvx⟩ := OwnL.at o1 e1
    obtain ⟨vy, ey, hvy⟩ := OwnL.at o2 e2
    refine ⟨⟨ws, us, vx, vy, s1 H' y t, s2 H' y t, ex, ey⟩, fun w H2 yy => ?_⟩
    obtain ⟨T, x', y', rfl, hT, eH, f1, f2⟩ := yy
    have q1 := f1 ws (s1 H' y t)
    have q2 := f2 us (s2 H' y t)
    rw [ex] at q1
    rw [ey] at q2
    cases q1
    cases q2
    exact pair_new hT eH (Own.keepT (Same.refl Y) t hvx) (Own.keepT (Same.refl Y) t hvy)
  · rw [zipD_length] at hl
    refine ⟨ws, us, s1 H' y t, s2 H' y t, ?_⟩
    rw [OwnL.length o1, OwnL.length o2]
    exact hl
theorem i_zip {W : Wsh} {X : Cx} {elts : List Expr} {kk : Nat} {tpos : Pos} {e e2 : Expr} {ta : TA} {p pos : Pos} (ops : List Opn) (dx : DX X G) (hg : Gl X "zip") (hm : X.mg "zip" = none) (ha : PA X [e, e2] ta) (ht : ta = seqTE (ops.map (Opn.te G W)) := by rfl)
    (hs : starEach [e, e2] X.env = (false, eval e X.env) :: starEach [e2] X.env := by rfl) (hpl : (backTo pos (starEach [e2] X.env)).any (·.1) = false := by rfl) : PI X (.Tuple elts kk tpos) (.Call (.Name "zip" p) [e, e2] [] pos) (TSrc G W ops mkZip) :=
  src_ok (r := rZipX X.K) (by rw [dx.K]; exact zip_fits) (by subst ht; exact pi_zipX hg hm ha hs hpl)
end

/-! ### targets -/
structure Bnd (G : Gc) (B Z H : Hp) (σ : L2.St) (env : DEnv) (Fs : Nat → List Addr) (ts : List Nat) (σ1 : L2.St) (env1 : DEnv) (Fs1 : Nat → List Addr) : Prop where
  good : Good G B Z H σ1 env1 Fs1
  sub : ∀ a, InF Fs1 a → InF Fs a
  at_ : ∀ j, j ∉ ts → env1[j]? = env[j]? ∧ σ1[j]? = σ[j]?
  free : ∀ j, j ∈ ts → free? j env = true
  ln : env1.length = env.length
def BindOk (G : Gc) (ts : List Nat) (g : TG) (bind : D → DEnv → Option DEnv) : Prop := ∀ (B Z H : Hp) (σ : L2.St) (env : DEnv) (Fs : Nat → List Addr) (x : D) (v : V) (e : DEnv) (Q : L2.St → Hp → Prop), Good G B Z H σ env Fs → Own G (joi B Z) H x v [] → bind x env = some e → (∀ σ1 Fs1, Bnd G B Z H σ env Fs ts σ1 e Fs1 → Q σ1 H) → g v σ H Q
def bName (i : Nat) : D → DEnv → Option DEnv := fun x env => if free? i env = true then some (env.set i (some (if x.pure = true then .own else .brw, x))) else none
theorem free_not {i : Nat} {env : DEnv} (h : free? i env = true) : i < env.length ∧ (∀ d, env[i]? ≠ some (some (.io, d))) ∧ ∀ d, env[i]? ≠ some (some (.lck, d)) := by
  unfold free? at h
  refine ⟨?_, fun d q => (by rw [q] at h; cases h), fun d q => (by rw [q] at h; cases h)⟩
  cases q : env[i]? with
  | none => rw [q] at h; cases h
  | some s => exact (List.getElem?_eq_some_iff.mp q).1
section
variable {G : Gc}
theorem bind_name {i : Nat} : BindOk G [i] (gName i) (bName i) := by
  intro B Z H σ env Fs x v e Q g ho hb q
  unfold bName at hb
  split at hb
  · rename_i hf
    cases hb
    obtain ⟨hl, _, _⟩ := free_not hf
    have hlσ : i < σ.length := by rw [← g.len]; exact hl
    refine q _ (offF Fs i) ⟨⟨g.sb, g.sz, by rw [List.length_set, List.length_set]; exact g.len, fun j => ?_, fun j => ?_, fun j k a m n => ?_, fun j a m => ?_, g.z0⟩, fun a m => inF_off m, fun j hj => ?_, fun j hj => by rw [List.mem_singleton.mp hj]; exact hf, by rw [List.length_set]⟩
    · by_cases hj : j = i
      · subst hj
        have eo : offF Fs j j = [] := by unfold offF; rw [if_pos rfl]
        rw [eo, List.getElem?_set_self hl, List.getElem?_set_self hlσ]
        by_cases hp : x.pure = true
        · rw [if_pos hp]
          exact ⟨v, rfl, (Own.ofPure x v [] hp ho).2⟩
        · rw [if_neg hp]
          exact ⟨v, rfl, ho, rfl⟩
      · have eo : offF Fs i j = Fs j := by unfold offF; rw [if_neg hj]
        rw [eo, List.getElem?_set_ne (fun z => hj z.symm), List.getElem?_set_ne (fun z => hj z.symm)]
        exact g.sl j
    · unfold offF; split; exact List.nodup_nil; exact g.nd j
    · unfold offF at m n
      split at m
      · cases m
      · split at n
        · cases n
        · exact g.dj j k a m n
    · unfold offF at m
      split at m
      · cases m
      · exact g.fr j a m
    · have hj : j ≠ i := by simpa using hj
      exact ⟨List.getElem?_set_ne (fun z => hj z.symm), List.getElem?_set_ne (fun z => hj z.symm)⟩
  · cases hb
/-- several targets -/
def BindsOk (G : Gc) (ts : List Nat) (g : TGs) (bind : List D → DEnv → Option DEnv) : Prop := ∀ (B Z H : Hp) (σ : L2.St) (env : DEnv) (Fs : Nat → List Addr) (xs : List D) (vs : List V) (e : DEnv) (Q : L2.St → Hp → Prop), Good G B Z H σ env Fs → OwnL G (joi B Z) H xs vs [] → bind xs env = some e → (∀ σ1 Fs1, Bnd G B Z H σ env Fs ts σ1 e Fs1 → Q σ1 H) → g vs σ H Q
def bNil : List D → DEnv → Option DEnv
  | [], env => some env
  | _, _ => none
def bCons (f : D → DEnv → Option DEnv) (h : List D → DEnv → Option DEnv) : List D → DEnv → Option DEnv
  | x :: xs, env => match f x env with
    | some e => h xs e
    | none => none
  | [], _ => none
def bTup (f : List D → DEnv → Option DEnv) : D → DEnv → Option DEnv := fun x env => match x.toTupA with
  | some xs => f xs env
  | none => none
theorem binds_nil : BindsOk G [] gNil bNil := by
  intro B Z H σ env Fs xs vs e Q g ho hb q
  unfold bNil at hb
  split at hb
  · cases hb
    obtain ⟨rfl, _⟩ := ho
    exact ⟨rfl, q σ Fs ⟨g, fun _ m => m, fun _ _ => ⟨rfl, rfl⟩, fun j hj => (by cases hj), rfl⟩⟩
  · cases hb
theorem free_back {env env1 : DEnv} {ts : List Nat} {j : Nat} (h1 : ∀ j, j ∉ ts → env1[j]? = env[j]?) (h2 : ∀ j, j ∈ ts → free? j env = true) (h : free? j env1 = true) : free? j env = true := by
  by_cases m : j ∈ ts
  · exact h2 j m
  · unfold free? at h ⊢
    rw [h1 j m] at h
    exact h
theorem binds_cons {ts ts2 : List Nat} {g : TG} {gs : TGs} {f : D → DEnv → Option DEnv} {h : List D → DEnv → Option DEnv} (h1 : BindOk G ts g f) (h2 : BindsOk G ts2 gs h) : BindsOk G (ts ++ ts2) (gCons g gs) (bCons f h) := by
  intro B Z H σ env Fs xs vs e Q gd ho hb q
  cases xs with
  | nil => cases hb
  | cons x xs' =>
    have hb : (match f x env with
      | some e => h xs' e
      | none => none) = some e := hb
    obtain ⟨v, r, rfl, o1, o2⟩ := OwnL.uncons ho
    cases hf : f x env with
    | none => rw [hf] at hb; cases hb
    | some e1 =>
      rw [hf] at hb
      refine ⟨v, r, rfl, h1 B Z H σ env Fs x v e1 _ gd o1 hf fun σ1 Fs1 b1 => ?_⟩
      refine h2 B Z H σ1 e1 Fs1 xs' r e Q b1.good o2 hb fun σ2 Fs2 b2 => ?_
      refine q σ2 Fs2 ⟨b2.good, fun a m => b1.sub a (b2.sub a m), fun j hj => ?_, fun j hj => ?_, b2.ln.trans b1.ln⟩
      · have hj : j ∉ ts ∧ j ∉ ts2 := by simpa using hj
        exact ⟨(b2.at_ j hj.2).1.trans (b1.at_ j hj.1).1, (b2.at_ j hj.2).2.trans (b1.at_ j hj.1).2⟩
      · rcases List.mem_append.mp hj with hj | hj
        · exact b1.free j hj
        · exact free_back (fun j n => (b1.at_ j n).1) b1.free (b2.free j hj)
theorem bind_tup {ts : List Nat} {gs : TGs} {f : List D → DEnv → Option DEnv} {n : Nat} {K : PySem.W.Frag} (hK : K = G.K) (h : BindsOk G ts gs f) (hn : ∀ xs env e, f xs env = some e → xs.length = n) : BindOk G ts (gTup K n gs) (bTup f) := by
  intro B Z H σ env Fs x v e Q gd ho hb q
  unfold bTup at hb
  cases hx : x.toTupA with
  | none => rw [hx] at hb; cases hb
  | some xs =>
    rw [hx] at hb
    obtain ⟨g, rfl⟩ := D.toTupA_some hx
    obtain ⟨a, vs, rfl, e1, o1⟩ := ho
    exact ⟨a, vs, rfl, e1.seq, by rw [OwnL.length o1]; exact hn _ _ _ hb, h B Z H σ env Fs xs vs e Q gd o1 hb q⟩
theorem bNil_len : ∀ xs env e, bNil xs env = some e → xs.length = 0
  | [], _, _, _ => rfl
  | _ :: _, _, _, h => by cases h
theorem bCons_len {f : D → DEnv → Option DEnv} {h : List D → DEnv → Option DEnv} {n : Nat} (hn : ∀ xs env e, h xs env = some e → xs.length = n) : ∀ xs env e, bCons f h xs env = some e → xs.length = n + 1
  | [], _, _, z => by cases z
  | x :: xs, env, e, z => by
    unfold bCons at z
    cases hf : f x env with
    | none => simp only [hf] at z; cases z
    | some e1 =>
      simp only [hf] at z
      rw [List.length_cons, hn xs e1 e z]
theorem dropS_at : ∀ {is : List Nat} {env env' : DEnv}, dropS is env = some env' → env'.length = env.length ∧ (∀ j, j ∉ is → env'[j]? = env[j]?) ∧ (∀ (j : Nat) (s : Md × D), j ∈ is → env'[j]? ≠ some (some s)) ∧ ∀ j, j ∈ is → free? j env = true
  | [], env, env', h => by
    cases h
    exact ⟨rfl, fun _ _ => rfl, fun j s m => (by cases m), fun j m => (by cases m)⟩
  | i :: r, env, env', h => by
    unfold dropS at h
    split at h
    · rename_i hf
      obtain ⟨h1, h2, h3, h4⟩ := dropS_at h
      have nn : ∀ j, j ≠ i → (env.set i none)[j]? = env[j]? := fun j hj => List.getElem?_set_ne (fun z => hj z.symm)
      refine ⟨h1.trans (by rw [List.length_set]), fun j hj => ?_, fun j s hj => ?_, fun j hj => ?_⟩
      · have hj : j ≠ i ∧ j ∉ r := by simpa using hj
        rw [h2 j hj.2, nn j hj.1]
      · by_cases hjr : j ∈ r
        · exact h3 j s hjr
        · rcases List.mem_cons.mp hj with rfl | hj
          · rw [h2 j hjr, List.getElem?_set_self']
            cases env[j]? <;> (intro z; cases z)
          · exact absurd hj hjr
      · by_cases hji : j = i
        · rw [hji]; exact hf
        · rcases List.mem_cons.mp hj with rfl | hj
          · exact hf
          · have := h4 j hj
            unfold free? at this ⊢
            rw [nn j hji] at this
            exact this
    · cases h
/-- a turn as a step: bound, run, forgotten -/
theorem Bnd.stp {B Z H Z2 H2 : Hp} {σ σ1 σ2 : L2.St} {env env1 e2 e3 : DEnv} {Fs Fs1 F2 : Nat → List Addr} {ts clr : List Nat} {P : Addr → Prop} (b : Bnd G B Z H σ env Fs ts σ1 env1 Fs1) (hP : ∀ a, InF Fs a → P a) (s : Stp G B Z H σ1 env1 (InF Fs1) Z2 H2 σ2 e2 F2) (hd : dropS clr e2 = some e3) (hc : ∀ j, j ∈ ts → j ∈ clr) :
    ∃ F3, Stp G B Z H σ env P Z2 H2 σ2 e3 F3 ∧ ∀ a, InF F3 a → InF F2 a := by
  obtain ⟨F3, s3, h3⟩ := Stp.drops (P := InF F2) s.good (fun _ m => m) hd
  obtain ⟨d1, d2, d3, d4⟩ := dropS_at hd
  have sub : ∀ a, InF Fs1 a → P a := fun a m => hP a (b.sub a m)
  have frt : ∀ j, j ∈ ts → (∀ d, env[j]? ≠ some (some (.io, d))) ∧ ∀ d, env[j]? ≠ some (some (.lck, d)) := fun j m => (free_not (b.free j m)).2
  have s13 := s.trans s.new s3
  refine ⟨F3, ⟨s13.zz, fun a o e n => s13.ext a o e fun m => n (sub a m), s13.good, fun a m => (s13.new a m).imp id (sub a), fun a m => (s13.newz a m).imp id fun z => z.imp id (sub a), fun j d e => ?_, fun j d e => ?_, fun j d e => ?_, fun j d e => ?_, s13.ln.trans b.ln⟩, h3⟩
  · by_cases m : j ∈ ts
    · exact absurd e ((frt j m).1 d)
    · have q := s13.io j d (by rw [(b.at_ j m).1]; exact e)
      exact ⟨q.1, q.2.trans (b.at_ j m).2⟩
  · by_cases m : j ∈ ts
    · exact absurd e ((frt j m).2 d)
    · have q := s13.lk j d (by rw [(b.at_ j m).1]; exact e)
      exact ⟨q.1, q.2.trans (b.at_ j m).2⟩
  · by_cases m : j ∈ ts
    · exact absurd e (d3 j _ (hc j m))
    · have q := s13.bw j d e
      exact ⟨by rw [← (b.at_ j m).1]; exact q.1, q.2.trans (b.at_ j m).2⟩
  · by_cases m : j ∈ ts
    · exact absurd e (d3 j _ (hc j m))
    · have q := s13.lb j d e
      exact ⟨by rw [← (b.at_ j m).1]; exact q.1, q.2.trans (b.at_ j m).2⟩
end

/-! ### for -/
def forD (bind : D → DEnv → Option DEnv) (clr : List Nat) (body : Stm) : List D → Stm
  | [], env => .ok (.nx env)
  | x :: xs, env => must (bind x env) fun e => body e >>= fun fl => match fl with
    | .nx e => must (dropS clr e) fun e => forD bind clr body xs e
    | .ct e => must (dropS clr e) fun e => forD bind clr body xs e
    | .bk e => must (dropS clr e) fun e => .ok (.nx e)
    | .rt d e => must (dropS clr e) fun e => .ok (.rt d e)
def unS (st : List DEnv) : Flw → Out Flw
  | .nx e => .ok (.nx (unlk st e))
  | .rt d e => .ok (.rt d (unlk st e))
  | _ => .bad
def sFor (ops : List Opn) (mk : List D → Option (List D)) (bind : D → DEnv → Option DEnv) (clr : List Nat) (body : Stm) : Stm := fun env => evO ops env >>= fun q => must (mk q.1) fun xs => forD bind clr body xs q.2.2 >>= unS q.2.1
section
variable {G : Gc} {X : Cx} {W : Wsh}
theorem FinS.unl {B Z H B1 Z1 H1 : Hp} {σ : L2.St} {env env1 : DEnv} {P : Addr → Prop} {Fs1 : Nat → List Addr} {st : List DEnv} {o : Out Flw} {En : Ends} (w : Unl G B Z H σ env P B1 Z1 H1 env1 Fs1 (unlk st)) (h : FinS G W B Z H σ env P (o >>= unS st) En) : FinS G W B1 Z1 H1 σ env1 (InF Fs1) o En := by
  unfold FinS at h ⊢
  match o, h with
  | .exc c, h => exact fun H' hs => h H' (w.bb.trans hs)
  | .ok (.nx e), h =>
    intro σ' Z' H' Fs' s
    obtain ⟨F3, s3, _⟩ := w.out _ _ _ _ _ s
    exact h σ' Z' H' F3 s3
  | .ok (.rt d e), h =>
    intro σ' v Z' H' Fs' F p
    obtain ⟨F3, s3, h3⟩ := w.out _ _ _ _ _ p.st
    exact h σ' v Z' H' F3 F ⟨s3, p.own, p.nd, fun a m => (h3 a (p.dj a m) (p.fr a m).1).1, fun a m => ⟨(h3 a (p.dj a m) (p.fr a m).1).2, (p.fr a m).2⟩, fun a m => w.hh a (p.new a m)⟩
theorem drop_get {α : Type} {xs : List α} {i : Nat} (h : i < xs.length) : xs.drop i = xs[i] :: xs.drop (i + 1) := List.drop_eq_getElem_cons h
theorem s_for {iter tg : Expr} {g : TG} {body : List Stmt} {pos : Pos} {ops : List Opn} {mk : List D → Option (List D)} {bind : D → DEnv → Option DEnv} {ts : List Nat} {fb : Stm} (clr : List Nat) (dx : DX X G) (hp : PassesOwn (model X.prog X.w) X.A X.env X.xe) (hi : PI X tg iter (TSrc G W ops mk)) (hg : PG X tg g) (hbk : BindOk G ts g bind) (hb : PSs X body (TSt G W fb))
    (hc : ts.all (fun j => clr.contains j) = true := by rfl) (hs : ∀ x, foldedSetIterable iter X.env x = pure x := by intro _; rfl) : PS X (.For tg iter body [] pos) (TSt G W (sFor ops mk bind clr fb)) :=
  (ps_for hp dx.calm hi hg hb hs).imp fun En σ H ⟨B, Z, Fs, env, gd, q⟩ => by
    have hcl : ∀ j, j ∈ ts → j ∈ clr := fun j m => by
      have := List.all_eq_true.mp hc j m
      simpa using this
    refine ⟨B, Z, Fs, env, gd, ?_⟩
    unfold sFor at q
    cases hr : evO ops env with
    | bad => rw [hr] at q; exact q.elim
    | exc c => rw [hr] at q; exact q
    | ok p =>
      obtain ⟨ds, st, env1⟩ := p
      rw [hr] at q
      have q : FinS G W B Z H σ env (InF Fs) (must (mk ds) fun xs => forD bind clr fb xs env1 >>= unS st) En := q
      show ∃ xs, mk ds = some xs ∧ _
      cases hx : mk ds with
      | none => rw [hx] at q; exact q.elim
      | some xs =>
        rw [hx] at q
        refine ⟨xs, rfl, fun B1 Z1 H1 Fs1 J w hj => ?_⟩
        have q1 := FinS.unl w q
        have hy : Same (joi B1 Z1) H1 := joi_le w.good.sb w.good.sz
        refine ⟨fun i m σ' H' => m = xs.length - i ∧ i ≤ xs.length ∧ ∃ Z2 Fs2 e2, Good G B1 Z2 H' σ' e2 Fs2 ∧ Same Z1 Z2 ∧ TK H1 H' ∧ FinS G W B1 Z2 H' σ' e2 (InF Fs2) (forD bind clr fb (xs.drop i) e2) En, ⟨xs.length, rfl, Nat.zero_le _, Z1, Fs1, env1, w.good, Same.refl _, TK.of (Same.refl _), q1⟩, ?_⟩
        rintro i m σ' H' ⟨rfl, hi, Z2, Fs2, e2, g2, z12, tk2, q2⟩
        have y2 : Same (joi B1 Z1) H' := joi_le g2.sb (z12.trans g2.sz)
        obtain ⟨ji, js⟩ := hj i H' y2 tk2
        by_cases hlt : i < xs.length
        · obtain ⟨go, yl⟩ := ji xs[i] (List.getElem?_eq_getElem hlt)
          rw [drop_get hlt] at q2
          refine .inr ⟨go, fun σ' H' => ∃ Z2 Fs2 e2, Good G B1 Z2 H' σ' e2 Fs2 ∧ Same Z1 Z2 ∧ TK H1 H' ∧ FinS G W B1 Z2 H' σ' e2 (InF Fs2) (forD bind clr fb (xs.drop (i + 1)) e2) En, fun σ3 H3 n3 => ⟨xs.length - (i + 1), by omega, rfl, hlt, n3⟩, fun v H3 y3 => ?_⟩
          obtain ⟨hs3, ov⟩ := yl v H3 y3
          have g3 := g2.grow hs3
          have q3 : FinS G W B1 Z2 H3 σ' e2 (InF Fs2) (must (bind xs[i] e2) fun e => fb e >>= fun fl => match fl with
              | .nx e => must (dropS clr e) fun e => forD bind clr fb (xs.drop (i + 1)) e
              | .ct e => must (dropS clr e) fun e => forD bind clr fb (xs.drop (i + 1)) e
              | .bk e => must (dropS clr e) fun e => .ok (.nx e)
              | .rt d e => must (dropS clr e) fun e => .ok (.rt d e)) En := FinS.later (Stp.grow (P := InF Fs2) g2 (fun _ m => m) hs3) (fun a m => .inr m) q2
          cases hbd : bind xs[i] e2 with
          | none => rw [hbd] at q3; exact q3.elim
          | some e4 =>
            rw [hbd, must_some] at q3
            refine hbk B1 Z2 H3 σ' e2 Fs2 xs[i] v e4 _ g3 (Own.keepT (joi_mono (Same.refl B1) z12 g3.sb g3.sz) (TK.of (Same.refl _)) ov) hbd fun σ4 Fs4 b4 => ?_
            refine ⟨B1, Z2, Fs4, e4, b4.good, ?_⟩
            unfold FinS
            cases hfb : fb e4 with
            | bad => rw [hfb] at q3; exact q3.elim
            | exc c => rw [hfb] at q3; exact q3
            | ok fl =>
              rw [hfb] at q3
              cases fl with
              | nx e5 =>
                intro σ6 Z6 H6 F6 s6
                have q3 : FinS G W B1 Z2 H3 σ' e2 (InF Fs2) (must (dropS clr e5) fun e => forD bind clr fb (xs.drop (i + 1)) e) En := q3
                cases hdr : dropS clr e5 with
                | none => rw [hdr] at q3; exact q3.elim
                | some e7 =>
                  rw [hdr] at q3
                  obtain ⟨F7, s7, _⟩ := b4.stp (P := InF Fs2) (fun _ m => m) s6 hdr hcl
                  exact ⟨Z6, F7, e7, s7.good, z12.trans s7.zz, tk2.trans ((TK.of hs3).trans (s7.tk g3.pm)), FinS.later s7 s7.new q3⟩
              | ct e5 =>
                intro σ6 Z6 H6 F6 s6
                have q3 : FinS G W B1 Z2 H3 σ' e2 (InF Fs2) (must (dropS clr e5) fun e => forD bind clr fb (xs.drop (i + 1)) e) En := q3
                cases hdr : dropS clr e5 with
                | none => rw [hdr] at q3; exact q3.elim
                | some e7 =>
                  rw [hdr] at q3
                  obtain ⟨F7, s7, _⟩ := b4.stp (P := InF Fs2) (fun _ m => m) s6 hdr hcl
                  exact ⟨Z6, F7, e7, s7.good, z12.trans s7.zz, tk2.trans ((TK.of hs3).trans (s7.tk g3.pm)), FinS.later s7 s7.new q3⟩
              | bk e5 =>
                intro σ6 Z6 H6 F6 s6
                have q3 : FinS G W B1 Z2 H3 σ' e2 (InF Fs2) (must (dropS clr e5) fun e => .ok (.nx e)) En := q3
                cases hdr : dropS clr e5 with
                | none => rw [hdr] at q3; exact q3.elim
                | some e7 =>
                  rw [hdr] at q3
                  obtain ⟨F7, s7, _⟩ := b4.stp (P := InF Fs2) (fun _ m => m) s6 hdr hcl
                  exact q3 σ6 Z6 H6 F7 s7
              | rt d e5 =>
                intro σ6 v6 Z6 H6 F6 F p6
                have q3 : FinS G W B1 Z2 H3 σ' e2 (InF Fs2) (must (dropS clr e5) fun e => .ok (.rt d e)) En := q3
                cases hdr : dropS clr e5 with
                | none => rw [hdr] at q3; exact q3.elim
                | some e7 =>
                  rw [hdr] at q3
                  obtain ⟨F7, s7, h7⟩ := b4.stp (P := InF Fs2) (fun _ m => m) p6.st hdr hcl
                  exact q3 σ6 v6 Z6 H6 F7 F ⟨s7, p6.own, p6.nd, fun a m n => p6.dj a m (h7 a n), p6.fr, fun a m => (p6.new a m).imp id (b4.sub a)⟩
        · have e : i = xs.length := by omega
          subst e
          rw [List.drop_length] at q2
          exact .inl ⟨js rfl, q2 σ' Z2 H' Fs2 (Stp.refl g2 fun _ m => m)⟩

/-! ### while -/
def whileN (c : DEnv → Out (Bool × DEnv)) (body : Stm) : Nat → Stm
  | 0, _ => .bad
  | n + 1, env => c env >>= fun p => if p.1 = true then body p.2 >>= fun fl => match fl with
      | .nx e => whileN c body n e
      | .ct e => whileN c body n e
      | .bk e => .ok (.nx e)
      | .rt d e => .ok (.rt d e)
    else .ok (.nx p.2)
open Classical in
/-- what some number of turns comes to -/
noncomputable def sWhile (c : DEnv → Out (Bool × DEnv)) (body : Stm) : Stm := fun env => if h : ∃ n, whileN c body n env ≠ .bad then whileN c body h.choose env else .bad
theorem whileN_mono {c : DEnv → Out (Bool × DEnv)} {body : Stm} : ∀ (n : Nat) (env : DEnv), whileN c body n env ≠ .bad → whileN c body (n + 1) env = whileN c body n env
  | 0, env, h => absurd rfl h
  | n + 1, env, h => by
    have e1 : ∀ k, whileN c body (k + 1) env = (c env >>= fun p => if p.1 = true then body p.2 >>= fun fl => match fl with
      | .nx e => whileN c body k e
      | .ct e => whileN c body k e
      | .bk e => .ok (.nx e)
      | .rt d e => .ok (.rt d e)
    else .ok (.nx p.2)) := fun k => rfl
    rw [e1] at h
    rw [e1 (n + 1), e1 n]
    cases hc : c env with
    | bad => rfl
    | exc x => rfl
    | ok p =>
      rw [hc] at h
      simp only [Out.bind_ok] at h ⊢
      split
      · rename_i hp
        rw [if_pos hp] at h
        cases hb : body p.2 with
        | bad => rfl
        | exc x => rfl
        | ok fl =>
          rw [hb] at h
          cases fl with
          | nx e => exact whileN_mono n e h
          | ct e => exact whileN_mono n e h
          | bk e => rfl
          | rt d e => rfl
      · rfl
theorem whileN_le {c : DEnv → Out (Bool × DEnv)} {body : Stm} {n : Nat} {env : DEnv} (h : whileN c body n env ≠ .bad) : ∀ k, whileN c body (n + k) env = whileN c body n env
  | 0 => rfl
  | k + 1 => by
    have ih := whileN_le h k
    rw [← Nat.add_assoc, whileN_mono _ _ (by rw [ih]; exact h), ih]
theorem sWhile_of {c : DEnv → Out (Bool × DEnv)} {body : Stm} {n : Nat} {env : DEnv} {o : Out Flw} (h : whileN c body n env = o) (ho : o ≠ .bad) : sWhile c body env = o := by
  have hx : ∃ n, whileN c body n env ≠ .bad := ⟨n, by rw [h]; exact ho⟩
  unfold sWhile
  rw [dif_pos hx]
  have h1 := whileN_le (n := n) (env := env) (c := c) (body := body) (by rw [h]; exact ho) hx.choose
  have h2 := whileN_le hx.choose_spec n
  rw [Nat.add_comm] at h2
  rw [← h2, h1, h]
theorem sWhile_ok {c : DEnv → Out (Bool × DEnv)} {body : Stm} {env : DEnv} (h : sWhile c body env ≠ .bad) : ∃ n, whileN c body n env = sWhile c body env := by
  unfold sWhile at h ⊢
  split
  · rename_i hx
    exact ⟨_, rfl⟩
  · rename_i hx
    rw [dif_neg hx] at h
    exact absurd rfl h
theorem s_while {c : Expr} {body : List Stmt} {pos : Pos} {fc : DEnv → Out (Bool × DEnv)} {fb : Stm} (hp : PassesOwn (model X.prog X.w) X.A X.env X.xe) (hcc : PT X c (TB G W fc)) (hb : PSs X body (TSt G W fb)) : PS X (.While c body [] pos) (TSt G W (sWhile fc fb)) :=
  (ps_while hp hcc hb).imp fun En σ H ⟨B, Z, Fs, env, gd, q⟩ => by
    have nb : sWhile fc fb env ≠ .bad := fun e => by rw [e] at q; exact q
    obtain ⟨n, en⟩ := sWhile_ok nb
    rw [← en] at q
    refine ⟨fun m σ' H' => ∃ Z2 Fs2 e2, Good G B Z2 H' σ' e2 Fs2 ∧ FinS G W B Z2 H' σ' e2 (InF Fs2) (whileN fc fb m e2) En, ⟨n, Z, Fs, env, gd, q⟩, ?_⟩
    rintro m σ1 H1 ⟨Z2, Fs2, e2, g2, q2⟩
    cases m with
    | zero => exact q2.elim
    | succ m =>
      refine ⟨B, Z2, Fs2, e2, g2, ?_⟩
      have q2 : FinS G W B Z2 H1 σ1 e2 (InF Fs2) (fc e2 >>= fun p => if p.1 = true then fb p.2 >>= fun fl => match fl with
        | .nx e => whileN fc fb m e
        | .ct e => whileN fc fb m e
        | .bk e => .ok (.nx e)
        | .rt d e => .ok (.rt d e)
      else .ok (.nx p.2)) En := q2
      unfold FinB
      cases hc : fc e2 with
      | bad => rw [hc] at q2; exact q2.elim
      | exc x => rw [hc] at q2; exact q2
      | ok p =>
        obtain ⟨b, e3⟩ := p
        rw [hc] at q2
        simp only [Out.bind_ok] at q2
        intro Z3 H3 Fs3 s3
        cases b with
        | false =>
          rw [if_neg Bool.false_ne_true] at q2 ⊢
          exact q2 σ1 Z3 H3 Fs3 s3
        | true =>
          rw [if_pos rfl] at q2 ⊢
          refine ⟨fun σ' H' => ∃ Z2 Fs2 e2, Good G B Z2 H' σ' e2 Fs2 ∧ FinS G W B Z2 H' σ' e2 (InF Fs2) (whileN fc fb m e2) En, fun σ' H' n' => ⟨m, Nat.lt_succ_self m, n'⟩, ?_⟩
          refine ⟨B, Z3, Fs3, e3, s3.good, ?_⟩
          have q3 := FinS.later s3 s3.new q2
          unfold FinS at q3 ⊢
          cases hb : fb e3 with
          | bad => rw [hb] at q3; exact q3.elim
          | exc x => rw [hb] at q3; exact q3
          | ok fl =>
            rw [hb] at q3
            cases fl with
            | nx e4 => exact fun σ4 Z4 H4 F4 s4 => ⟨Z4, F4, e4, s4.good, FinS.later s4 s4.new q3⟩
            | ct e4 => exact fun σ4 Z4 H4 F4 s4 => ⟨Z4, F4, e4, s4.good, FinS.later s4 s4.new q3⟩
            | bk e4 => exact q3
            | rt d e4 => exact q3
end
end DL

namespace DL
open PySem PySem.Spec PyProof.Rows L2

/-! ### list comprehensions -/
def hid? (i : Nat) (env : DEnv) : Bool := match env[i]? with
  | some none => true
  | some (some (.own, d)) => d.pure
  | _ => false
/-- the block's own slots put aside -/
def hideS : List Nat → DEnv → Option DEnv
  | [], env => some env
  | v :: r, env => match hideS r env with
    | some e => if hid? v e = true then some (e.set v none) else none
    | none => none
/-- .. and back -/
def backS : List Nat → DEnv → DEnv → DEnv
  | [], _, e => e
  | v :: r, env0, e => (backS r env0 e).set v (env0[v]?.getD none)
def lcG (bind : D → DEnv → Option DEnv) (cond : DEnv → Out (Bool × DEnv)) (elt : DEnv → Out (D × DEnv)) (clr : List Nat) : List D → DEnv → Out (List D × DEnv)
  | [], env => .ok ([], env)
  | x :: xs, env => must (bind x env) fun e => cond e >>= fun p => if p.1 = true then elt p.2 >>= fun q => must (dropS clr q.2) fun e2 => lcG bind cond elt clr xs e2 >>= fun r => .ok (q.1 :: r.1, r.2)
      else must (dropS clr p.2) fun e2 => lcG bind cond elt clr xs e2
def noEx {α : Type} (o : Out α) : Option α := match o with
  | .ok a => some a
  | _ => none
theorem noEx_some {α : Type} {o : Out α} {a : α} (h : noEx o = some a) : o = .ok a := by
  cases o with
  | ok b => cases h; rfl
  | exc c => cases h
  | bad => cases h
def lcE (ops : List Opn) (mk : List D → Option (List D)) (bind : D → DEnv → Option DEnv) (cond : DEnv → Out (Bool × DEnv)) (elt : DEnv → Out (D × DEnv)) (vs : List Nat) : DEnv → Out (D × DEnv) := fun env =>
  evO ops env >>= fun q => must (mk q.1) fun xs => must (hideS vs q.2.2) fun e0 => if xs.length < 16777216 then must (noEx (lcG bind cond elt vs xs e0)) fun r => .ok (.lst r.1, unlk q.2.1 (backS vs q.2.2 r.2)) else .bad
def eYes : DEnv → Out (Bool × DEnv) := fun env => .ok (true, env)

section
variable {G : Gc} {B Z H Z2 H2 : Hp} {σ σ2 : L2.St} {env e0 e2 : DEnv} {Fs F2 : Nat → List Addr} {P : Addr → Prop}
theorem set_self {α : Type} {l : List α} {i : Nat} {a : α} : ∀ j, (l.set i a)[j]? = if i = j then (if j < l.length then some a else none) else l[j]? := fun j => by
  by_cases h : i = j
  · subst h
    rw [if_pos rfl, List.getElem?_set_self']
    by_cases hl : i < l.length
    · rw [if_pos hl, List.getElem?_eq_getElem hl]; rfl
    · rw [if_neg hl, List.getElem?_eq_none (by omega)]; rfl
  · rw [if_neg h, List.getElem?_set_ne h]
theorem wipe_at : ∀ (vs : List Nat) (σ : L2.St) (j : Nat), (wipe σ vs)[j]? = if j ∈ vs then (if j < σ.length then some none else none) else σ[j]?
  | [], σ, j => by simp [wipe]
  | v :: vs, σ, j => by
    have ih := wipe_at vs σ j
    show ((wipe σ vs).set v none)[j]? = _
    rw [set_self, wipe_length]
    by_cases h : v = j
    · subst h
      rw [if_pos rfl, if_pos List.mem_cons_self]
    · rw [if_neg h, ih]
      by_cases m : j ∈ vs
      · rw [if_pos m, if_pos (List.mem_cons_of_mem _ m)]
      · rw [if_neg m, if_neg (by simp only [List.mem_cons, not_or]; exact ⟨fun z => h z.symm, m⟩)]
theorem wipe_ext {vs : List Nat} {σ σ1 : L2.St} (hl : σ1.length = σ.length) (h : ∀ j, j ∉ vs → σ1[j]? = σ[j]?) : wipe σ1 vs = wipe σ vs := by
  apply List.ext_getElem?
  intro j
  rw [wipe_at, wipe_at, hl]
  split
  · rfl
  · rename_i m; exact h j m
theorem hideS_at : ∀ {vs : List Nat} {env e0 : DEnv}, hideS vs env = some e0 → e0.length = env.length ∧ (∀ j, j ∉ vs → e0[j]? = env[j]?) ∧ (∀ j, j ∈ vs → e0[j]? = some none ∧ (env[j]? = some none ∨ ∃ d, env[j]? = some (some (Md.own, d)) ∧ d.pure = true))
  | [], env, e0, h => by
    cases h
    exact ⟨rfl, fun _ _ => rfl, fun j m => (by cases m)⟩
  | v :: r, env, e0, h => by
    unfold hideS at h
    cases he : hideS r env with
    | none => rw [he] at h; cases h
    | some e =>
      rw [he] at h
      obtain ⟨h1, h2, h3⟩ := hideS_at he
      by_cases hh : hid? v e = true
      · have h : (if hid? v e = true then some (e.set v none) else none) = some e0 := h
        rw [if_pos hh] at h
        cases h
        have hv : e[v]? = some none ∨ ∃ d, e[v]? = some (some (Md.own, d)) ∧ d.pure = true := by
          unfold hid? at hh
          cases q : e[v]? with
          | none => rw [q] at hh; cases hh
          | some s =>
            rw [q] at hh
            match s, hh with
            | none, _ => exact .inl rfl
            | some (.own, d), hh => exact .inr ⟨d, rfl, hh⟩
        have hvl : v < e.length := by
          rcases hv with z | ⟨d, z, _⟩
          · exact (List.getElem?_eq_some_iff.mp z).1
          · exact (List.getElem?_eq_some_iff.mp z).1
        refine ⟨by rw [List.length_set, h1], fun j hj => ?_, fun j hj => ?_⟩
        · have hj : j ≠ v ∧ j ∉ r := by simpa using hj
          rw [List.getElem?_set_ne (fun z => hj.1 z.symm), h2 j hj.2]
        · by_cases hjv : v = j
          · subst hjv
            refine ⟨List.getElem?_set_self hvl, ?_⟩
            by_cases hr : v ∈ r
            · exact (h3 v hr).2
            · rw [h2 v hr] at hv; exact hv
          · rcases List.mem_cons.mp hj with z | hj
            · exact absurd z.symm hjv
            · exact ⟨by rw [List.getElem?_set_ne hjv]; exact (h3 j hj).1, (h3 j hj).2⟩
      · have h : (if hid? v e = true then some (e.set v none) else none) = some e0 := h
        rw [if_neg hh] at h
        cases h
theorem backS_len : ∀ (vs : List Nat) (env0 e : DEnv), (backS vs env0 e).length = e.length
  | [], _, _ => rfl
  | v :: r, env0, e => by
    show ((backS r env0 e).set v _).length = _
    rw [List.length_set, backS_len]
theorem backS_at : ∀ (vs : List Nat) (env0 e : DEnv) (j : Nat), (backS vs env0 e)[j]? = if j ∈ vs then (if j < e.length then some (env0[j]?.getD none) else none) else e[j]?
  | [], env0, e, j => by simp [backS]
  | v :: r, env0, e, j => by
    have ih := backS_at r env0 e j
    show ((backS r env0 e).set v _)[j]? = _
    rw [set_self, backS_len]
    by_cases h : v = j
    · subst h
      rw [if_pos rfl, if_pos List.mem_cons_self]
    · rw [if_neg h, ih]
      by_cases m : j ∈ r
      · rw [if_pos m, if_pos (List.mem_cons_of_mem _ m)]
      · rw [if_neg m, if_neg (by simp only [List.mem_cons, not_or]; exact ⟨fun z => h z.symm, m⟩)]
theorem Good.hide {vs : List Nat} (g : Good G B Z H σ env Fs) (h : hideS vs env = some e0) : Good G B Z H (wipe σ vs) e0 Fs := by
  obtain ⟨h1, h2, h3⟩ := hideS_at h
  refine ⟨g.sb, g.sz, by rw [h1, wipe_length]; exact g.len, fun j => ?_, g.nd, g.dj, g.fr, g.z0⟩
  rw [wipe_at]
  by_cases m : j ∈ vs
  · rw [(h3 j m).1]
    have q := g.sl j
    rcases (h3 j m).2 with z | ⟨d, z, hp⟩
    · rw [z] at q; exact q
    · rw [z] at q
      obtain ⟨v, _, ho⟩ := q
      exact (Own.ofPure (Z' := Z) d v _ hp ho).1
  · rw [if_neg m, h2 j m]
    exact g.sl j
/-- slots of which nothing is known: the names may point anywhere -/
theorem Stp.wipeEnd {vs : List Nat} {e3 : DEnv} {F3 : Nat → List Addr} (s : Stp G B Z H σ env P Z2 H2 σ2 e3 F3) (hv : ∀ v, v ∈ vs → ∀ t : Md × D, e3[v]? ≠ some (some t)) : Stp G B Z H σ env P Z2 H2 (wipe σ2 vs) e3 F3 := by
  have g := s.good
  have out : ∀ j (t : Md × D), e3[j]? = some (some t) → (wipe σ2 vs)[j]? = σ2[j]? := fun j t e => by
    rw [wipe_at, if_neg fun m => hv j m t e]
  refine ⟨s.zz, s.ext, ⟨g.sb, g.sz, by rw [wipe_length]; exact g.len, fun j => ?_, g.nd, g.dj, g.fr, g.z0⟩, s.new, s.newz, fun j d e => ?_, fun j d e => ?_, fun j d e => ?_, fun j d e => ?_, s.ln⟩
  · have q := g.sl j
    cases he : e3[j]? with
    | none => rw [he] at q; exact q
    | some t =>
      cases t with
      | none => rw [he] at q; exact q
      | some t => rw [out j t he, ← he]; exact q
  · obtain ⟨⟨d', q⟩, z⟩ := s.io j d e
    exact ⟨⟨d', q⟩, (out j _ q).trans z⟩
  · obtain ⟨q, z⟩ := s.lk j d e
    exact ⟨q, (out j _ q).trans z⟩
  · obtain ⟨q, z⟩ := s.bw j d e
    exact ⟨q, (out j _ e).trans z⟩
  · obtain ⟨q, z⟩ := s.lb j d e
    exact ⟨q, (out j _ e).trans z⟩
/-- what a block did, seen from outside -/
theorem Stp.back {vs : List Nat} (g : Good G B Z H σ env Fs) (pm : PMut H P) (h : hideS vs env = some e0) (s : Stp G B Z H (wipe σ vs) e0 P Z2 H2 (wipe σ vs) e2 F2) (hv : ∀ v, v ∈ vs → ∀ t : Md × D, e2[v]? ≠ some (some t)) : Stp G B Z H σ env P Z2 H2 σ (backS vs env e2) F2 := by
  obtain ⟨h1, h2, h3⟩ := hideS_at h
  have gl := s.good
  have le : e2.length = env.length := s.ln.trans h1
  have at_out : ∀ j, j ∉ vs → (backS vs env e2)[j]? = e2[j]? := fun j m => by rw [backS_at, if_neg m]
  have at_in : ∀ j, j ∈ vs → (backS vs env e2)[j]? = env[j]? := fun j m => by
    have hj : j < env.length := by
      rcases (h3 j m).2 with z | ⟨d, z, _⟩
      · exact (List.getElem?_eq_some_iff.mp z).1
      · exact (List.getElem?_eq_some_iff.mp z).1
    rw [backS_at, if_pos m, if_pos (by rw [le]; exact hj), List.getElem?_eq_getElem hj]
    rfl
  have nio : ∀ j, j ∈ vs → ∀ (m : Md) (d : D), m ≠ .own → env[j]? ≠ some (some (m, d)) := fun j hj m d hm e => by
    rcases (h3 j hj).2 with z | ⟨d', z, _⟩
    · rw [z] at e; cases e
    · rw [z] at e; cases e; exact hm rfl
  have wo : ∀ j, j ∉ vs → (wipe σ vs)[j]? = σ[j]? := fun j m => by rw [wipe_at, if_neg m]
  refine ⟨s.zz, s.ext, ⟨gl.sb, gl.sz, by rw [backS_len, le]; exact g.len, fun j => ?_, gl.nd, gl.dj, gl.fr, gl.z0⟩, s.new, s.newz, fun j d e => ?_, fun j d e => ?_, fun j d e => ?_, fun j d e => ?_, by rw [backS_len, le]⟩
  · by_cases m : j ∈ vs
    · rw [at_in j m]
      have f0 : F2 j = [] := by
        have q := gl.sl j
        cases he : e2[j]? with
        | none => rw [he] at q; exact q
        | some t =>
          cases t with
          | none => rw [he] at q; exact q
          | some t => exact absurd he (hv j m t)
      rw [f0]
      have q := g.sl j
      rcases (h3 j m).2 with z | ⟨d, z, hp⟩
      · rw [z]; rfl
      · rw [z] at q ⊢
        obtain ⟨v, ev, ho⟩ := q
        exact ⟨v, ev, Own.keepT (Same.refl _) (s.tk pm) (Own.ofPure (Z' := Z2) d v _ hp ho).2⟩
    · rw [at_out j m, ← wo j m]
      exact gl.sl j
  · by_cases m : j ∈ vs
    · exact absurd e (nio j m _ d (by decide))
    · obtain ⟨⟨d', q⟩, z⟩ := s.io j d (by rw [h2 j m]; exact e)
      exact ⟨⟨d', by rw [at_out j m]; exact q⟩, rfl⟩
  · by_cases m : j ∈ vs
    · exact absurd e (nio j m _ d (by decide))
    · obtain ⟨q, z⟩ := s.lk j d (by rw [h2 j m]; exact e)
      exact ⟨by rw [at_out j m]; exact q, rfl⟩
  · by_cases m : j ∈ vs
    · rw [at_in j m] at e
      exact absurd e (nio j m _ d (by decide))
    · rw [at_out j m] at e
      obtain ⟨q, z⟩ := s.bw j d e
      exact ⟨by rw [← h2 j m]; exact q, rfl⟩
  · by_cases m : j ∈ vs
    · rw [at_in j m] at e
      exact absurd e (nio j m _ d (by decide))
    · rw [at_out j m] at e
      obtain ⟨q, z⟩ := s.lb j d e
      exact ⟨by rw [← h2 j m]; exact q, rfl⟩
/-- a thing of nobody's is written -/
theorem Stp.priv {a : Addr} {ws : List V} {o : HO} (s : Stp G B Z H σ env P Z2 H2 σ2 e2 F2) (g : Same B H) (hn : H a = none) (hf : ¬ InF F2 a) (ha : H2 a = some (.lst ws)) : Stp G B Z H σ env P Z2 (upd H2 a o) σ2 e2 F2 := by
  have gl := s.good
  have bn : B a = none := by
    cases q : B a with
    | none => rfl
    | some u =>
      have := g a u q
      rw [hn] at this; cases this
  have sb : Same B (upd H2 a o) := fun b u e => by
    rw [upd_ne (fun z => by rw [z, bn] at e; cases e)]
    exact gl.sb b u e
  have sz : Same Z2 (upd H2 a o) := fun b u e => by rw [gl.z0] at e; cases e
  refine ⟨s.zz, fun b u e n => ?_, ⟨sb, sz, gl.len, fun j => (gl.sl j).keep gl.sb gl.sz sb sz (Same.refl _) fun b u e m => ?_, gl.nd, gl.dj, gl.fr, gl.z0⟩, s.new, s.newz, s.io, s.lk, s.bw, s.lb, s.ln⟩
  · rw [upd_ne (fun z => by rw [z, hn] at e; cases e)]
    exact s.ext b u e n
  · rw [upd_ne (fun z => ?_)]
    · exact e
    · rw [z] at m e
      rcases m with m | nm
      · exact hf ⟨j, m⟩
      · rw [ha] at e; cases e; exact nm trivial
theorem OwnL.priv {a : Addr} {ws : List V} {o : HO} {ds : List D} {vs : List V} {F : List Addr} (h : OwnL G Z H ds vs F) (hf : a ∉ F) (ha : H a = some (.lst ws)) : OwnL G Z (upd H a o) ds vs F :=
  OwnL.keep (Same.refl Z) ds vs F (fun b u e m => by
    rw [upd_ne (fun z => ?_)]
    · exact e
    · rw [z] at m e
      rcases m with m | nm
      · exact hf m
      · rw [ha] at e; cases e; exact nm trivial) h
theorem Own.priv {a : Addr} {ws : List V} {o : HO} {d : D} {v : V} {F : List Addr} (h : Own G Z H d v F) (hf : a ∉ F) (ha : H a = some (.lst ws)) : Own G Z (upd H a o) d v F :=
  Own.keep (Same.refl Z) d v F (fun b u e m => by
    rw [upd_ne (fun z => ?_)]
    · exact e
    · rw [z] at m e
      rcases m with m | nm
      · exact hf m
      · rw [ha] at e; cases e; exact nm trivial) h
end

abbrev Wno : Wsh := fun _ _ => False
/-- in the midst of a comprehension: D the new list -/
structure Mid (G : Gc) (B Z H : Hp) (σw : L2.St) (e0 : DEnv) (Fs : Nat → List Addr) (vs : List Nat) (a : Addr) (Z2 H2 : Hp) (e2 : DEnv) (F2 : Nat → List Addr) (acc : List V) (ds : List D) (FA : List Addr) : Prop where
  st : Stp G B Z H σw e0 (InF Fs) Z2 H2 σw e2 F2
  nn : ∀ v, v ∈ vs → ∀ t : Md × D, e2[v]? ≠ some (some t)
  at_ : H2 a = some (.lst acc)
  own : OwnL G Z2 H2 ds acc FA
  nd : FA.Nodup
  dj : ∀ b, b ∈ FA → ¬ InF F2 b ∧ B b = none ∧ (H b = none ∨ InF Fs b)
  na : a ∉ FA
  ni : ¬ InF F2 a
section
variable {G : Gc} {B Z H Z2 H2 : Hp} {σw : L2.St} {e0 e2 : DEnv} {Fs F2 : Nat → List Addr} {vs : List Nat} {a : Addr} {acc : List V} {ds : List D} {FA : List Addr}
/-- a turn on: what is at hand stays -/
theorem Mid.on {Z3 H3 : Hp} {e3 : DEnv} {F3 : Nat → List Addr} (m : Mid G B Z H σw e0 Fs vs a Z2 H2 e2 F2 acc ds FA) (s : Stp G B Z2 H2 σw e2 (InF F2) Z3 H3 σw e3 F3) (hn : ∀ v, v ∈ vs → ∀ t : Md × D, e3[v]? ≠ some (some t)) : Mid G B Z H σw e0 Fs vs a Z3 H3 e3 F3 acc ds FA := by
  have pm := m.st.good.pm
  have stay : ∀ b, ¬ InF F2 b → (∃ o, H2 b = some o) → ¬ InF F3 b := fun b n ⟨o, e⟩ z => by
    rcases s.new b z with q | q
    · rw [e] at q; cases q
    · exact n q
  refine ⟨m.st.trans m.st.new s, hn, s.ext a _ m.at_ m.ni, OwnL.keep s.zz _ _ _ (fun b u e z => s.ext b u e ?_) m.own, m.nd, fun b z => ⟨stay b (m.dj b z).1 ?_, (m.dj b z).2⟩, m.na, stay a m.ni ⟨_, m.at_⟩⟩
  · rcases z with z | nm
    · exact (m.dj b z).1
    · exact pm.tup e nm
  · obtain ⟨o, e, _⟩ := OwnL.dom _ _ _ m.own b z
    exact ⟨o, e⟩
/-- an item more -/
theorem Mid.app {d : D} {v : V} {F : List Addr} (m : Mid G B Z H σw e0 Fs vs a Z2 H2 e2 F2 acc ds FA) (g : Same B H) (hn : H a = none) (ho : Own G Z2 H2 d v F) (nd : F.Nodup) (dj : ∀ b, b ∈ F → ¬ InF F2 b ∧ B b = none ∧ (H b = none ∨ InF Fs b)) (nA : ∀ b, b ∈ F → b ∉ FA ∧ b ≠ a) :
    Mid G B Z H σw e0 Fs vs a Z2 (upd H2 a (.lst (acc ++ [v]))) e2 F2 (acc ++ [v]) (ds ++ [d]) (FA ++ F) := by
  refine ⟨m.st.priv g hn m.ni m.at_, m.nn, upd_same, OwnL.append (m.own.priv m.na m.at_) ⟨v, [], F, [], rfl, by simp, ho.priv (fun z => (nA a z).2 rfl) m.at_, rfl, rfl⟩, List.nodup_append.mpr ⟨m.nd, nd, fun b z c y e => ?_⟩, fun b z => ?_, fun z => ?_, m.ni⟩
  · subst e; exact (nA b y).1 z
  · rcases List.mem_append.mp z with z | z
    · exact m.dj b z
    · exact dj b z
  · rcases List.mem_append.mp z with z | z
    · exact m.na z
    · exact (nA a z).2 rfl
variable {W : Wsh} {X : Cx}
theorem lc_run {σ : L2.St} {Q : VK} {ops : List Opn} {mk : List D → Option (List D)} {bind : D → DEnv → Option DEnv} {cond : DEnv → Out (Bool × DEnv)} {elt : DEnv → Out (D × DEnv)} {ts : List Nat} {g : TG} (hbk : BindOk G ts g bind) (hcl : ∀ j, j ∈ ts → j ∈ vs)
    (h : TV G W (lcE ops mk bind cond elt vs) σ H Q) : tLc (TSrc G W ops mk) g (TB G Wno cond) (TV G Wno elt) vs σ H Q := by
  obtain ⟨B, Z, Fs, env, gd, q⟩ := h
  refine ⟨B, Z, Fs, env, gd, ?_⟩
  unfold lcE at q
  cases hr : evO ops env with
  | bad => rw [hr] at q; exact q.elim
  | exc c => rw [hr] at q; exact q
  | ok p =>
    obtain ⟨ds0, st, env1⟩ := p
    rw [hr] at q
    simp only [Out.bind_ok] at q
    show ∃ xs, mk ds0 = some xs ∧ _
    cases hx : mk ds0 with
    | none => rw [hx] at q; exact q.elim
    | some xs =>
      rw [hx, must_some] at q
      cases hh : hideS vs env1 with
      | none => rw [hh] at q; exact q.elim
      | some e0 =>
        rw [hh, must_some] at q
        by_cases hlen : xs.length < 16777216
        · rw [if_pos hlen] at q
          cases hl : noEx (lcG bind cond elt vs xs e0) with
          | none => rw [hl] at q; exact q.elim
          | some r =>
            rw [hl, must_some] at q
            obtain ⟨rs, eN⟩ := r
            have hl := noEx_some hl
            refine ⟨xs, rfl, fun B1 Z1 H1 Fs1 J w hj a han => ?_⟩
            have g1 := w.good
            have gh := g1.hide hh
            have hsl : Same B1 H1 := g1.sb
            have b1a : B1 a = none := by
              cases z : B1 a with
              | none => rfl
              | some u =>
                have := hsl a u z
                rw [han] at this; cases this
            have ha0 := (hideS_at hh).2.2
            have m0 : Mid G B1 Z1 H1 (wipe σ vs) e0 Fs1 vs a Z1 (upd H1 a (.lst [])) e0 Fs1 [] [] [] := by
              refine ⟨Stp.grow gh (fun _ m => m) (same_upd han), fun v m t e => ?_, upd_same, ⟨rfl, rfl⟩, List.nodup_nil, fun b z => (by cases z), (by simp), fun z => ?_⟩
              · rw [(ha0 v m).1] at e; cases e
              · obtain ⟨o, e, _⟩ := g1.dom z
                rw [han] at e; cases e
            refine ⟨fun i m H' => m = xs.length - i ∧ i ≤ xs.length ∧ ∃ Z2 Fs2 e2 acc ds FA rest, Mid G B1 Z1 H1 (wipe σ vs) e0 Fs1 vs a Z2 H' e2 Fs2 acc ds FA ∧ ds.length ≤ i ∧ lcG bind cond elt vs (xs.drop i) e2 = .ok (rest, eN) ∧ rs = ds ++ rest, ⟨xs.length, rfl, Nat.zero_le _, Z1, Fs1, e0, [], [], [], rs, m0, Nat.le_refl _, hl, rfl⟩, ?_⟩
            rintro i m H' ⟨rfl, hi, Z2, Fs2, e2, acc, ds, FA, rest, mid, hdl, hrun, hrs⟩
            have g2 := mid.st.good
            have y2 : Same (joi B1 Z1) H' := joi_le g2.sb (mid.st.zz.trans g2.sz)
            have t2 : TK H1 H' := mid.st.tk gh.pm
            obtain ⟨ji, js⟩ := hj i H' y2 t2
            by_cases hlt : i < xs.length
            · obtain ⟨go, yl⟩ := ji xs[i] (List.getElem?_eq_getElem hlt)
              rw [drop_get hlt] at hrun
              refine .inr ⟨go, fun H' => ∃ Z2 Fs2 e2 acc ds FA rest, Mid G B1 Z1 H1 (wipe σ vs) e0 Fs1 vs a Z2 H' e2 Fs2 acc ds FA ∧ ds.length ≤ i + 1 ∧ lcG bind cond elt vs (xs.drop (i + 1)) e2 = .ok (rest, eN) ∧ rs = ds ++ rest, fun H3 n3 => ⟨xs.length - (i + 1), by omega, rfl, hlt, n3⟩, fun v H3 y3 => ?_⟩
              obtain ⟨hs3, ov⟩ := yl v H3 y3
              have mid3 := mid.on (Stp.grow g2 (fun _ m => m) hs3) mid.nn
              have g3 := mid3.st.good
              have hrun : (must (bind xs[i] e2) fun e => cond e >>= fun p => if p.1 = true then elt p.2 >>= fun q => must (dropS vs q.2) fun e2 => lcG bind cond elt vs (xs.drop (i + 1)) e2 >>= fun r => .ok (q.1 :: r.1, r.2)
                else must (dropS vs p.2) fun e2 => lcG bind cond elt vs (xs.drop (i + 1)) e2) = .ok (rest, eN) := hrun
              cases hbd : bind xs[i] e2 with
              | none => rw [hbd] at hrun; cases hrun
              | some e4 =>
                rw [hbd, must_some] at hrun
                refine hbk B1 Z2 H3 _ e2 Fs2 xs[i] v e4 _ g3 (Own.keepT (joi_mono (Same.refl B1) mid.st.zz g3.sb g3.sz) (TK.of (Same.refl _)) ov) hbd fun σ4 Fs4 b4 => ?_
                have ww : wipe σ4 vs = wipe σ vs := by
                  have l4 : σ4.length = (wipe σ vs).length := by rw [← b4.good.len, b4.ln, g3.len]
                  rw [wipe_ext l4 fun j hj => (b4.at_ j fun z => hj (hcl j z)).2]
                  exact wipe_ext (wipe_length _ _) fun j hj => by rw [wipe_at, if_neg hj]
                refine ⟨ww, B1, Z2, Fs4, e4, b4.good, ?_⟩
                unfold FinB
                cases hcd : cond e4 with
                | bad => rw [hcd] at hrun; cases hrun
                | exc c => rw [hcd] at hrun; cases hrun
                | ok p =>
                  obtain ⟨b, e5⟩ := p
                  rw [hcd] at hrun
                  simp only [Out.bind_ok] at hrun
                  intro Z5 H5 Fs5 s5
                  cases b with
                  | false =>
                    rw [if_neg Bool.false_ne_true] at hrun ⊢
                    cases hdr : dropS vs e5 with
                    | none => rw [hdr] at hrun; cases hrun
                    | some e7 =>
                      rw [hdr, must_some] at hrun
                      obtain ⟨F7, s7, _⟩ := b4.stp (P := InF Fs2) (fun _ m => m) s5 hdr hcl
                      have n7 := (dropS_at hdr).2.2.1
                      have s7' := s7.wipeEnd (vs := vs) fun v m t => n7 v t m
                      rw [ww] at s7'
                      exact ⟨Z5, F7, e7, acc, ds, FA, rest, mid3.on s7' fun v m t => n7 v t m, Nat.le_succ_of_le hdl, hrun, hrs⟩
                  | true =>
                    rw [if_pos rfl] at hrun ⊢
                    refine ⟨B1, Z5, Fs5, e5, s5.good, ?_⟩
                    unfold FinV
                    cases hel : elt e5 with
                    | bad => rw [hel] at hrun; cases hrun
                    | exc c => rw [hel] at hrun; cases hrun
                    | ok p =>
                      obtain ⟨d, e6⟩ := p
                      rw [hel] at hrun
                      simp only [Out.bind_ok] at hrun
                      cases hdr : dropS vs e6 with
                      | none => rw [hdr] at hrun; cases hrun
                      | some e7 =>
                        rw [hdr, must_some] at hrun
                        intro v6 Z6 H6 Fs6 F6 p6
                        have s6 := s5.trans s5.new p6.st
                        obtain ⟨F7, s7, h7⟩ := b4.stp (P := InF Fs2) (fun _ m => m) s6 hdr hcl
                        have n7 := (dropS_at hdr).2.2.1
                        have s7' := s7.wipeEnd (vs := vs) fun v m t => n7 v t m
                        rw [ww] at s7'
                        have mid7 := mid3.on s7' fun v m t => n7 v t m
                        have l6 : acc.length = ds.length := OwnL.length mid7.own
                        cases hrl : lcG bind cond elt vs (xs.drop (i + 1)) e7 with
                        | bad => rw [hrl] at hrun; cases hrun
                        | exc c => rw [hrl] at hrun; cases hrun
                        | ok r2 =>
                          obtain ⟨rest2, eM⟩ := r2
                          rw [hrl] at hrun
                          cases hrun
                          -- where the item's nodes come from
                          have newF : ∀ b, b ∈ F6 → H3 b = none ∨ InF Fs2 b := fun b z => by
                            rcases p6.new b z with z | z
                            · cases q5 : H3 b with
                              | none => exact .inl rfl
                              | some o =>
                                refine .inr ?_
                                by_cases n : InF Fs4 b
                                · exact b4.sub b n
                                · have := s5.ext b o q5 n
                                  rw [z] at this; cases this
                            · exact (s5.new b z).imp id (b4.sub b)
                          refine ⟨acc, mid7.at_, by rw [l6, ← size_line]; omega, Z6, F7, e7, acc ++ [v6], ds ++ [d], FA ++ F6, rest2, mid7.app hsl han p6.one p6.nd (fun b z => ⟨fun y => p6.dj b z (h7 b y), (p6.fr b z).1, ?_⟩) (fun b z => ?_), by rw [List.length_append, List.length_singleton]; omega, hrl, by rw [hrs, List.append_assoc]; rfl⟩
                          · rcases newF b z with y | y
                            · cases q1 : H1 b with
                              | none => exact .inl rfl
                              | some o =>
                                refine .inr ?_
                                by_cases n : InF Fs1 b
                                · exact n
                                · have := mid3.st.ext b o q1 n
                                  rw [y] at this; cases this
                            · exact mid.st.new b y
                          · refine ⟨fun y => ?_, fun y => ?_⟩
                            · obtain ⟨o, e, _⟩ := OwnL.dom _ _ _ mid3.own b y
                              rcases newF b z with x | x
                              · rw [e] at x; cases x
                              · exact (mid.dj b y).1 x
                            · subst y
                              rcases newF b z with x | x
                              · rw [mid3.at_] at x; cases x
                              · exact mid.ni x
            · have e : i = xs.length := by omega
              subst e
              rw [List.drop_length] at hrun
              cases hrun
              refine .inl ⟨js rfl, ?_⟩
              have s9 := mid.st.back g1 g1.pm hh mid.nn
              obtain ⟨F3, s3, h3⟩ := w.out _ _ _ _ _ s9
              rw [List.append_nil] at hrs
              subst hrs
              refine q (.ref a) Z2 H' F3 (a :: FA) ⟨s3, ⟨.ref a, [], a :: FA, [], rfl, by simp, ⟨a, acc, FA, rfl, .inr ⟨rfl, mid.at_⟩, mid.own⟩, rfl, rfl⟩, List.nodup_cons.mpr ⟨mid.na, mid.nd⟩, fun b m => ?_, fun b m => ?_, fun b m => ?_⟩
              · rcases List.mem_cons.mp m with rfl | m
                · exact (h3 _ mid.ni b1a).1
                · exact (h3 _ (mid.dj b m).1 (mid.dj b m).2.1).1
              · rcases List.mem_cons.mp m with rfl | m
                · exact ⟨(h3 _ mid.ni b1a).2, g2.z0 _⟩
                · exact ⟨(h3 _ (mid.dj b m).1 (mid.dj b m).2.1).2, g2.z0 _⟩
              · rcases List.mem_cons.mp m with rfl | m
                · exact w.hh _ (.inl han)
                · exact w.hh _ (mid.dj b m).2.2
        · rw [if_neg hlen] at q
          exact q.elim
end
section
variable {G : Gc} {W : Wsh} {X : Cx} {ops : List Opn} {mk : List D → Option (List D)} {bind : D → DEnv → Option DEnv} {cond : DEnv → Out (Bool × DEnv)} {eltf : DEnv → Out (D × DEnv)} {ts : List Nat} {g : TG} {elt tg iter : Expr} {ifs : List Expr} {scope : Scope} {own : List (Str × Nat)} {pos : Pos}
theorem _root_.L2.PTs.imp {X : Cx} {e : List Expr} {t t' : TT} (h : PTs X e t) (i : ∀ σ H Q, t' σ H Q → t σ H Q) : PTs X e t' := ⟨fun pins s σ H Q I hq => h.run pins s σ H Q I (i σ H Q hq)⟩
theorem ts_nil : PTs X [] (TB G W eYes) := pts_nil.imp fun σ H Q ⟨B, Z, Fs, env, gd, q⟩ => q Z H Fs (Stp.refl gd fun _ m => m)
theorem ts_one {c : Expr} {f : DEnv → Out (Bool × DEnv)} (h : PT X c (TB G W f)) : PTs X [c] (TB G W f) := pts_one h
theorem e_lc (dx : DX X G) (hi : PI X tg iter (TSrc G W ops mk)) (ok : BlkOk X.N X.env.scope scope own) (hbk : BindOk G ts g bind)
    (hg : ∀ (s : Shared) (H : Hp) (C : Addr) (cl : List (Str × Addr)) (fp : List Addr), PG (X.blk s H scope (compEnvC scope cl C X.env) fp) tg g) (ht : ∀ (s : Shared) (H : Hp) (C : Addr) (cl : List (Str × Addr)) (fp : List Addr), PTs (X.blk s H scope (compEnvC scope cl C X.env) fp) ifs (TB G Wno cond))
    (he : ∀ (s : Shared) (H : Hp) (C : Addr) (cl : List (Str × Addr)) (fp : List Addr), PE (X.blk s H scope (compEnvC scope cl C X.env) fp) elt (TV G Wno eltf)) (hc : ts.all (fun j => (own.map (·.2)).contains j) = true := by rfl) (hs : ∀ x, foldedSetIterable iter X.env x = pure x := by intro _; rfl) :
    PE X (.ListComp elt [⟨tg, iter, ifs, 0⟩] scope pos) (TV G W (lcE ops mk bind cond eltf (own.map (·.2)))) :=
  (pe_lc dx.calm dx.nd hi ok hg ht he hs).imp fun σ H Q h => lc_run hbk (fun j m => by simpa using List.all_eq_true.mp hc j m) h
theorem s_setLc {i : Nat} {y : Str} {py spos : Pos} (dx : DX X G) (hy : X.N[i]? = some y) (hyl : X.env.scope.names.lookup y = some .local) (hsw : swapsWith (.ListComp elt [⟨tg, iter, ifs, 0⟩] scope pos) (some (.Name y py)) spos.line X.env = pure true)
    (hi : PI X tg iter (TSrc G W ops mk)) (ok : BlkOk X.N X.env.scope scope own) (hbk : BindOk G ts g bind)
    (hg : ∀ (s : Shared) (H : Hp) (C : Addr) (cl : List (Str × Addr)) (fp : List Addr), PG (X.blk s H scope (compEnvC scope cl C X.env) fp) tg g) (ht : ∀ (s : Shared) (H : Hp) (C : Addr) (cl : List (Str × Addr)) (fp : List Addr), PTs (X.blk s H scope (compEnvC scope cl C X.env) fp) ifs (TB G Wno cond))
    (he : ∀ (s : Shared) (H : Hp) (C : Addr) (cl : List (Str × Addr)) (fp : List Addr), PE (X.blk s H scope (compEnvC scope cl C X.env) fp) elt (TV G Wno eltf)) (hc : ts.all (fun j => (own.map (·.2)).contains j) = true := by rfl) (hs : ∀ x, foldedSetIterable iter X.env x = pure x := by intro _; rfl) :
    PS X (.Assign [.Name y py] (.ListComp elt [⟨tg, iter, ifs, 0⟩] scope pos) spos) (TSt G W (sSet i (lcE ops mk bind cond eltf (own.map (·.2))))) :=
  (ps_setLc dx.calm dx.nd hy hyl hsw hi ok hg ht he hs).imp fun En σ H ⟨B, Z, Fs, env, gd, q⟩ => by
    have q1 : TV G W (lcE ops mk bind cond eltf (own.map (·.2))) σ H (fun x H1 => gName i x σ H1 En.nx) := by
      refine ⟨B, Z, Fs, env, gd, ?_⟩
      unfold sSet at q
      unfold FinV
      cases hl : lcE ops mk bind cond eltf (own.map (·.2)) env with
      | bad => rw [hl] at q; exact q.elim
      | exc c => rw [hl] at q; exact q
      | ok p0 =>
        obtain ⟨d, e'⟩ := p0
        rw [hl] at q
        intro v Z' H' Fs' F p
        have q : FinS G W B Z H σ env (InF Fs) (must (putS i d e') fun e => .ok (.nx e)) En := q
        cases hput : putS i d e' with
        | none => rw [hput] at q; exact q.elim
        | some e2 =>
          rw [hput] at q
          have s2 : Stp G B Z' H' σ e' (fun a => InF Fs' a ∨ a ∈ F) Z' H' (σ.set i (some v)) e2 (onF Fs' i F) := Stp.put p.st.good (fun a m => .inl m) (fun a m => .inr m) ⟨p.one, p.nd, p.dj, p.fr⟩ hput
          exact q _ _ _ _ (p.st.trans (fun a m => m.elim (p.st.new a) (p.new a)) s2)
    exact lc_run hbk (fun j m => by simpa using List.all_eq_true.mp hc j m) q1
theorem DX.blk {s : Shared} {H : Hp} {cenv : Env} {fp : List Addr} (d : DX X G) : DX (X.blk s H scope cenv fp) G := ⟨d.K, d.calm, d.nd, d.un⟩
end
end DL

namespace DL
open PySem PySem.Spec PyProof.Rows L2

/-! ### what is built in -/
def D.ints : List D → Option (List Int)
  | [] => some []
  | d :: r => match d.toInt, D.ints r with
    | some i, some is => some (i :: is)
    | _, _ => none
def D.bls : List D → Option (List Bool)
  | [] => some []
  | d :: r => match d.toBl, D.bls r with
    | some i, some is => some (i :: is)
    | _, _ => none
section
variable {G : Gc} {Z H : Hp}
theorem ints_own : ∀ {ds : List D} {ns : List Int} {vs : List V} {F : List Addr}, D.ints ds = some ns → OwnL G Z H ds vs F → vs = ns.map V.int ∧ ds = ns.map D.int
  | [], ns, vs, F, e, h => by
    cases (show some ([] : List Int) = some ns from e)
    exact ⟨h.1, rfl⟩
  | d :: r, ns, vs, F, e, h => by
    obtain ⟨v, rest, F1, F2, rfl, rfl, h1, h2⟩ := h
    have e : (match d.toInt, D.ints r with
      | some i, some is => some (i :: is)
      | _, _ => none) = some ns := e
    cases hd : d.toInt with
    | none => rw [hd] at e; cases e
    | some i =>
      cases hr : D.ints r with
      | none => rw [hd, hr] at e; cases e
      | some is =>
        rw [hd, hr] at e
        cases e
        obtain rfl := D.toInt_some hd
        obtain ⟨e1, e2⟩ := ints_own hr h2
        rw [h1.1, e1]
        exact ⟨rfl, by rw [List.map_cons, ← e2]⟩
theorem bls_own : ∀ {ds : List D} {ns : List Bool} {vs : List V} {F : List Addr}, D.bls ds = some ns → OwnL G Z H ds vs F → vs = ns.map V.bl
  | [], ns, vs, F, e, h => by
    cases (show some ([] : List Bool) = some ns from e)
    exact h.1
  | d :: r, ns, vs, F, e, h => by
    obtain ⟨v, rest, F1, F2, rfl, rfl, h1, h2⟩ := h
    have e : (match d.toBl, D.bls r with
      | some i, some is => some (i :: is)
      | _, _ => none) = some ns := e
    cases hd : d.toBl with
    | none => rw [hd] at e; cases e
    | some i =>
      cases hr : D.bls r with
      | none => rw [hd, hr] at e; cases e
      | some is =>
        rw [hd, hr] at e
        cases e
        obtain rfl := D.toBl_some hd
        rw [h1.1, bls_own hr h2]
        rfl
end
@[simp] theorem ints_map (ns : List Int) : D.ints (ns.map D.int) = some ns := by
  induction ns with
  | nil => rfl
  | cons i r ih => simp [D.ints, D.toInt, ih]
@[simp] theorem bls_map (ns : List Bool) : D.bls (ns.map D.bl) = some ns := by
  induction ns with
  | nil => rfl
  | cons i r ih => simp [D.bls, D.toBl, ih]
def maxI : List Int → Int
  | [] => 0
  | [x] => x
  | x :: r => max x (maxI r)
def minI : List Int → Int
  | [] => 0
  | [x] => x
  | x :: r => min x (minI r)
theorem maxI_mem : ∀ {l : List Int}, l ≠ [] → maxI l ∈ l
  | [], h => absurd rfl h
  | [x], _ => List.mem_cons_self
  | x :: y :: r, _ => by
    have ih := maxI_mem (l := y :: r) (by simp)
    show max x (maxI (y :: r)) ∈ _
    rcases Int.le_total x (maxI (y :: r)) with h | h
    · rw [Int.max_eq_right h]; exact List.mem_cons_of_mem _ ih
    · rw [Int.max_eq_left h]; exact List.mem_cons_self
theorem le_maxI : ∀ {l : List Int} {y : Int}, y ∈ l → y ≤ maxI l
  | [x], y, h => by
    rw [List.mem_singleton.mp h]; exact Int.le_refl _
  | x :: z :: r, y, h => by
    show y ≤ max x (maxI (z :: r))
    rcases List.mem_cons.mp h with rfl | h
    · omega
    · have := le_maxI h
      omega
theorem minI_mem : ∀ {l : List Int}, l ≠ [] → minI l ∈ l
  | [], h => absurd rfl h
  | [x], _ => List.mem_cons_self
  | x :: y :: r, _ => by
    have ih := minI_mem (l := y :: r) (by simp)
    show min x (minI (y :: r)) ∈ _
    rcases Int.le_total x (minI (y :: r)) with h | h
    · rw [Int.min_eq_left h]; exact List.mem_cons_self
    · rw [Int.min_eq_right h]; exact List.mem_cons_of_mem _ ih
theorem minI_le : ∀ {l : List Int} {y : Int}, y ∈ l → minI l ≤ y
  | [x], y, h => by
    rw [List.mem_singleton.mp h]; exact Int.le_refl _
  | x :: z :: r, y, h => by
    show min x (minI (z :: r)) ≤ y
    rcases List.mem_cons.mp h with rfl | h
    · omega
    · have := minI_le h
      omega

/-- len -/
def fLen (d : D) : Option D := match d with
  | .lst xs => some (.int xs.length)
  | .tupF _ xs => some (.int xs.length)
  | .scr ns => some (.int ns.length)
  | .str s => iff? (s.length ≤ 16777216) (.int s.length)
  | _ => none
def fSum (d : D) : Option D := match d.toLst with
  | some xs => (D.ints xs).map fun ns => .int ns.sum
  | none => none
def fMax (d : D) : Option D := match d.toLst with
  | some xs => match D.ints xs with
    | some ns => iff? (ns ≠ []) (.int (maxI ns))
    | none => none
  | none => none
def fMin (d : D) : Option D := match d.toLst with
  | some xs => match D.ints xs with
    | some ns => iff? (ns ≠ []) (.int (minI ns))
    | none => none
  | none => none
def fAll (d : D) : Option D := match d.toLst with
  | some xs => (D.bls xs).map fun ns => .bl (ns.all id)
  | none => none
def fAny (d : D) : Option D := match d.toLst with
  | some xs => (D.bls xs).map fun ns => .bl (ns.any id)
  | none => none
def fAbs (d : D) : Option D := d.toInt.map fun i => .int (if i < 0 then -i else i)
def fInt (d : D) : Option D := match d with
  | .int i => some (.int i)
  | .bl k => some (.int (if k then 1 else 0))
  | _ => none
def fStr (d : D) : Option D := match d with
  | .int i => iff? (i.natAbs.log2 < 1920) (.str (toString i))
  | _ => none
def fListOf (d : D) : Option D := match d with
  | .lst xs => iff? (D.pureL xs = true) (.lst xs)
  | .tupF _ xs => iff? (D.pureL xs = true) (.lst xs)
  | .scr ns => some (.lst (ns.map .int))
  | _ => none
def fTupOf (d : D) : Option D := match d with
  | .lst xs => iff? (D.pureL xs = true) (.tup xs)
  | .tupF f xs => iff? (D.pureL xs = true) (.tupF f xs)
  | _ => none
def fRev (d : D) : Option D := match d.toLst with
  | some xs => iff? (D.pureL xs = true) (.lst xs.reverse)
  | none => none
abbrev gLen := una fLen
abbrev gSum := una fSum
abbrev gMax := una fMax
abbrev gMin := una fMin
abbrev gAll := una fAll
abbrev gAny := una fAny
abbrev gAbs := una fAbs
abbrev gInt := una fInt
abbrev gStr := una fStr
abbrev gListOf := una fListOf
abbrev gTupOf := una fTupOf
abbrev gRev := una fRev
abbrev gMax2 := bin (bI fun i j => some (.int (if j > i then j else i)))
abbrev gMin2 := bin (bI fun i j => some (.int (if j < i then j else i)))

theorem D.pureL_reverse (xs : List D) : D.pureL xs = true → D.pureL xs.reverse = true := by
  intro h
  induction xs with
  | nil => rfl
  | cons d r ih =>
    have h : (d.pure && D.pureL r) = true := h
    simp only [Bool.and_eq_true] at h
    rw [List.reverse_cons, D.pureL_append, ih h.2]
    show (true && (d.pure && true)) = true
    rw [h.1]; rfl
theorem pureL_ints (ns : List Int) : D.pureL (ns.map .int) = true := by
  induction ns with
  | nil => rfl
  | cons i r ih => exact ih
section
variable {G : Gc}
theorem OwnL.reverse {Z H : Hp} : ∀ {ds : List D} {vs : List V}, OwnL G Z H ds vs [] → OwnL G Z H ds.reverse vs.reverse []
  | [], vs, h => by rw [h.1]; exact ⟨rfl, rfl⟩
  | d :: r, vs, h => by
    obtain ⟨v, r', rfl, h1, h2⟩ := OwnL.uncons h
    rw [List.reverse_cons, List.reverse_cons]
    exact OwnL.snoc (OwnL.reverse h2) h1
theorem lst_ints {H : Hp} {xs : List D} {ns : List Int} {v : V} (h : Own G H H (.lst xs) v []) (e : D.ints xs = some ns) : ∃ a, v = .ref a ∧ SqL G.K H a (ns.map V.int) := by
  obtain ⟨a, vs, rfl, hs, o⟩ := h.lstR
  obtain ⟨e1, _⟩ := ints_own e o
  subst e1
  exact ⟨a, rfl, hs⟩
theorem lst_bls {H : Hp} {xs : List D} {ns : List Bool} {v : V} (h : Own G H H (.lst xs) v []) (e : D.bls xs = some ns) : ∃ a, v = .ref a ∧ SqL G.K H a (ns.map V.bl) := by
  obtain ⟨a, vs, rfl, hs, o⟩ := h.lstR
  have e1 := bls_own e o
  subst e1
  exact ⟨a, rfl, hs⟩
theorem toLst_ints {f : List Int → Option D} {d e : D} (h : (match d.toLst with
  | some xs => match D.ints xs with
    | some ns => f ns
    | none => none
  | none => none) = some e) : ∃ xs ns, d = .lst xs ∧ D.ints xs = some ns ∧ f ns = some e := by
  cases hd : d.toLst with
  | none => rw [hd] at h; cases h
  | some xs =>
    cases hn : D.ints xs with
    | none => simp only [hd, hn] at h; cases h
    | some ns =>
      simp only [hd, hn] at h
      exact ⟨xs, ns, D.toLst_some hd, hn, h⟩
theorem rop_len : ROp G (fun xs H Q => ∃ x n, xs = [x] ∧ LenV G.K x H n ∧ Q (.int (n : Nat)) H) gLen := by
  intro ds vs H Q d h e q
  obtain ⟨a, rfl, e⟩ := una_some e
  obtain ⟨x, rfl, h1⟩ := own1 h
  cases a with
  | lst xs =>
    cases e
    obtain ⟨p, ws, rfl, hs, o⟩ := h1.lstR
    exact ⟨_, xs.length, rfl, .inl ⟨ws, hs, (OwnL.length o).symm⟩, done0 q fun Z => ⟨rfl, rfl⟩⟩
  | tupF f xs =>
    cases e
    obtain ⟨p, ws, rfl, hs, o⟩ := h1
    exact ⟨_, xs.length, rfl, .inr ⟨ws, hs.seq, (OwnL.length o).symm⟩, done0 q fun Z => ⟨rfl, rfl⟩⟩
  | scr ns =>
    cases e
    obtain ⟨_, p, rfl, hs⟩ := h1
    exact ⟨_, ns.length, rfl, .inl ⟨_, hs, by rw [List.length_map]⟩, done0 q fun Z => ⟨rfl, rfl⟩⟩
  | str s =>
    obtain ⟨hl, rfl⟩ := iff?_some e
    rw [h1.1]
    exact ⟨_, s.length, rfl, ⟨by rw [← size_line]; exact hl, rfl⟩, done0 q fun Z => ⟨rfl, rfl⟩⟩
  | _ => cases e
theorem pure_len : PureG gLen := by
  intro ds d e
  obtain ⟨a, rfl, e⟩ := una_some e
  cases a with
  | lst xs => cases e; rfl
  | tupF f xs => cases e; rfl
  | scr xs => cases e; rfl
  | str s => obtain ⟨_, rfl⟩ := iff?_some e; rfl
  | _ => cases e
theorem fSum_some {a d : D} (e : fSum a = some d) : ∃ xs ns, a = .lst xs ∧ D.ints xs = some ns ∧ d = .int ns.sum := by
  unfold fSum at e
  cases hd : a.toLst with
  | none => rw [hd] at e; cases e
  | some xs =>
    rw [hd] at e
    obtain ⟨ns, hn, rfl⟩ := map_some' e
    exact ⟨xs, ns, D.toLst_some hd, hn, rfl⟩
theorem rop_sum : ROp G (rSum G.K) gSum := by
  intro ds vs H Q d h e q
  obtain ⟨a, rfl, e⟩ := una_some e
  obtain ⟨x, rfl, h1⟩ := own1 h
  obtain ⟨xs, ns, rfl, hn, rfl⟩ := fSum_some e
  obtain ⟨p, rfl, hs⟩ := lst_ints h1 hn
  exact ⟨p, ns, rfl, hs, done0 q fun Z => ⟨rfl, rfl⟩⟩
theorem pure_sum : PureG gSum := by
  intro ds d e
  obtain ⟨a, rfl, e⟩ := una_some e
  obtain ⟨xs, ns, rfl, hn, rfl⟩ := fSum_some e
  rfl
theorem rop_max : ROp G (rMax G.K) gMax := by
  intro ds vs H Q d h e q
  obtain ⟨a, rfl, e⟩ := una_some e
  obtain ⟨x, rfl, h1⟩ := own1 h
  obtain ⟨xs, ns, rfl, hn, e⟩ := toLst_ints e
  obtain ⟨ne, rfl⟩ := iff?_some e
  obtain ⟨p, rfl, hs⟩ := lst_ints h1 hn
  refine ⟨p, ns, rfl, hs, List.length_pos_iff.mpr ne, fun m m1 m2 => ?_⟩
  have : m = maxI ns := Int.le_antisymm (le_maxI m1) (m2 _ (maxI_mem ne))
  subst this
  exact done0 q fun Z => ⟨rfl, rfl⟩
theorem pure_max : PureG gMax := by
  intro ds d e
  obtain ⟨a, rfl, e⟩ := una_some e
  obtain ⟨xs, ns, rfl, hn, e⟩ := toLst_ints e
  obtain ⟨ne, rfl⟩ := iff?_some e
  rfl
theorem rop_min : ROp G (rMin G.K) gMin := by
  intro ds vs H Q d h e q
  obtain ⟨a, rfl, e⟩ := una_some e
  obtain ⟨x, rfl, h1⟩ := own1 h
  obtain ⟨xs, ns, rfl, hn, e⟩ := toLst_ints e
  obtain ⟨ne, rfl⟩ := iff?_some e
  obtain ⟨p, rfl, hs⟩ := lst_ints h1 hn
  refine ⟨p, ns, rfl, hs, List.length_pos_iff.mpr ne, fun m m1 m2 => ?_⟩
  have : m = minI ns := Int.le_antisymm (m2 _ (minI_mem ne)) (minI_le m1)
  subst this
  exact done0 q fun Z => ⟨rfl, rfl⟩
theorem pure_min : PureG gMin := by
  intro ds d e
  obtain ⟨a, rfl, e⟩ := una_some e
  obtain ⟨xs, ns, rfl, hn, e⟩ := toLst_ints e
  obtain ⟨ne, rfl⟩ := iff?_some e
  rfl
theorem fAll_some {a d : D} (e : fAll a = some d) : ∃ xs ns, a = .lst xs ∧ D.bls xs = some ns ∧ d = .bl (ns.all id) := by
  unfold fAll at e
  cases hd : a.toLst with
  | none => rw [hd] at e; cases e
  | some xs =>
    rw [hd] at e
    obtain ⟨ns, hn, rfl⟩ := map_some' e
    exact ⟨xs, ns, D.toLst_some hd, hn, rfl⟩
theorem rop_all : ROp G (rAll G.K) gAll := by
  intro ds vs H Q d h e q
  obtain ⟨a, rfl, e⟩ := una_some e
  obtain ⟨x, rfl, h1⟩ := own1 h
  obtain ⟨xs, ns, rfl, hn, rfl⟩ := fAll_some e
  obtain ⟨p, rfl, hs⟩ := lst_bls h1 hn
  exact ⟨p, ns, rfl, hs, done0 q fun Z => ⟨rfl, rfl⟩⟩
theorem pure_all : PureG gAll := by
  intro ds d e
  obtain ⟨a, rfl, e⟩ := una_some e
  obtain ⟨xs, ns, rfl, hn, rfl⟩ := fAll_some e
  rfl
theorem fAny_some {a d : D} (e : fAny a = some d) : ∃ xs ns, a = .lst xs ∧ D.bls xs = some ns ∧ d = .bl (ns.any id) := by
  unfold fAny at e
  cases hd : a.toLst with
  | none => rw [hd] at e; cases e
  | some xs =>
    rw [hd] at e
    obtain ⟨ns, hn, rfl⟩ := map_some' e
    exact ⟨xs, ns, D.toLst_some hd, hn, rfl⟩
theorem rop_any : ROp G (rAny G.K) gAny := by
  intro ds vs H Q d h e q
  obtain ⟨a, rfl, e⟩ := una_some e
  obtain ⟨x, rfl, h1⟩ := own1 h
  obtain ⟨xs, ns, rfl, hn, rfl⟩ := fAny_some e
  obtain ⟨p, rfl, hs⟩ := lst_bls h1 hn
  exact ⟨p, ns, rfl, hs, done0 q fun Z => ⟨rfl, rfl⟩⟩
theorem pure_any : PureG gAny := by
  intro ds d e
  obtain ⟨a, rfl, e⟩ := una_some e
  obtain ⟨xs, ns, rfl, hn, rfl⟩ := fAny_some e
  rfl
theorem rop_abs : ROp G (fun xs H Q => ∃ i, xs = [.int i] ∧ Q (.int (if i < 0 then -i else i)) H) gAbs := by
  intro ds vs H Q d h e q
  obtain ⟨a, rfl, e⟩ := una_some e
  obtain ⟨x, rfl, h1⟩ := own1 h
  obtain ⟨i, hi, rfl⟩ := map_some' e
  obtain rfl := D.toInt_some hi
  exact ⟨i, by rw [h1.1], done0 q fun Z => ⟨rfl, rfl⟩⟩
theorem pure_abs : PureG gAbs := by
  intro ds d e
  obtain ⟨a, rfl, e⟩ := una_some e
  obtain ⟨i, hi, rfl⟩ := map_some' e
  rfl
theorem rop_int1 : ROp G (fun xs H Q => (∃ i, xs = [.int i] ∧ Q (.int i) H) ∨ ∃ k, xs = [.bl k] ∧ Q (.int (if k then 1 else 0)) H) gInt := by
  intro ds vs H Q d h e q
  obtain ⟨a, rfl, e⟩ := una_some e
  obtain ⟨x, rfl, h1⟩ := own1 h
  cases a with
  | int i => cases e; exact .inl ⟨i, by rw [h1.1], done0 q fun Z => ⟨rfl, rfl⟩⟩
  | bl i => cases e; exact .inr ⟨i, by rw [h1.1], done0 q fun Z => ⟨rfl, rfl⟩⟩
  | _ => cases e
theorem pure_int1 : PureG gInt := by
  intro ds d e
  obtain ⟨a, rfl, e⟩ := una_some e
  cases a with
  | int i => cases e; rfl
  | bl i => cases e; rfl
  | _ => cases e
theorem rop_str1 : ROp G (fun xs H Q => ∃ i : Int, xs = [.int i] ∧ i.natAbs.log2 < 1920 ∧ Q (.str (toString i)) H) gStr := by
  intro ds vs H Q d h e q
  obtain ⟨a, rfl, e⟩ := una_some e
  obtain ⟨x, rfl, h1⟩ := own1 h
  cases a with
  | int i =>
    obtain ⟨hl, rfl⟩ := iff?_some e
    exact ⟨i, by rw [h1.1], hl, done0 q fun Z => ⟨rfl, rfl⟩⟩
  | _ => cases e
theorem pure_str1 : PureG gStr := by
  intro ds d e
  obtain ⟨a, rfl, e⟩ := una_some e
  cases a with
  | int i => obtain ⟨hl, rfl⟩ := iff?_some e; rfl
  | _ => cases e
theorem rop_max2 : ROp G (fun xs H Q => ∃ i j, xs = [.int i, .int j] ∧ Q (.int (if j > i then j else i)) H) gMax2 := by
  intro ds vs H Q d h e q
  obtain ⟨a, b, rfl, e⟩ := bin_some e
  obtain ⟨x, y, rfl, h1, h2⟩ := own2 h
  obtain ⟨i, j, rfl, rfl, e⟩ := bI_some e
  cases e
  exact ⟨i, j, by rw [h1.1, h2.1], done0 q fun Z => ⟨rfl, rfl⟩⟩
theorem pure_max2 : PureG gMax2 := pure_int fun i j d e => by cases e; rfl
theorem rop_min2 : ROp G (fun xs H Q => ∃ i j, xs = [.int i, .int j] ∧ Q (.int (if j < i then j else i)) H) gMin2 := by
  intro ds vs H Q d h e q
  obtain ⟨a, b, rfl, e⟩ := bin_some e
  obtain ⟨x, y, rfl, h1, h2⟩ := own2 h
  obtain ⟨i, j, rfl, rfl, e⟩ := bI_some e
  cases e
  exact ⟨i, j, by rw [h1.1, h2.1], done0 q fun Z => ⟨rfl, rfl⟩⟩
theorem pure_min2 : PureG gMin2 := pure_int fun i j d e => by cases e; rfl
theorem one_nodup {a : Addr} : [a].Nodup := List.nodup_cons.mpr ⟨by simp, List.nodup_nil⟩
theorem fListOf_some {a d : D} (e : fListOf a = some d) : ∃ xs, D.pureL xs = true ∧ d = .lst xs ∧ (a = .lst xs ∨ (∃ f, a = .tupF f xs) ∨ ∃ ns, a = .scr ns ∧ xs = ns.map .int) := by
  cases a with
  | lst xs => obtain ⟨h, rfl⟩ := iff?_some e; exact ⟨xs, h, rfl, .inl rfl⟩
  | tupF f xs => obtain ⟨h, rfl⟩ := iff?_some e; exact ⟨xs, h, rfl, .inr (.inl ⟨f, rfl⟩)⟩
  | scr ns => cases e; exact ⟨_, pureL_ints ns, rfl, .inr (.inr ⟨ns, rfl, rfl⟩)⟩
  | _ => cases e
theorem rop_listOf : ROp G (fun xs H Q => ∃ p ys, xs = [.ref p] ∧ (SqL G.K H p ys ∨ SqT G.K H p ys) ∧ ∀ l, H l = none → Q (.ref l) (upd H l (.lst ys))) gListOf := by
  intro ds vs H Q d h e q
  obtain ⟨a, rfl, e⟩ := una_some e
  obtain ⟨x, rfl, h1⟩ := own1 h
  obtain ⟨xs, hp, ed, ee⟩ := fListOf_some e
  subst ed
  have fin : ∀ (l : Addr) (ys : List V), H l = none → OwnL G H H xs ys [] → Q (.ref l) (upd H l (.lst ys)) := fun l ys hn o =>
    q _ _ [l] (same_upd hn) (fun Z => new_lst hp hn o Z) one_nodup fun b m => by rw [List.mem_singleton.mp m]; exact hn
  rcases ee with rfl | ⟨f, rfl⟩ | ⟨ns, rfl, rfl⟩
  · obtain ⟨p, ys, rfl, hs, o⟩ := h1.lstR
    exact ⟨p, ys, rfl, .inl hs, fun l hn => fin l ys hn o⟩
  · obtain ⟨p, ys, rfl, hs, o⟩ := h1
    exact ⟨p, ys, rfl, .inr hs.seq, fun l hn => fin l ys hn o⟩
  · obtain ⟨_, p, rfl, hs⟩ := h1
    exact ⟨p, _, rfl, .inl hs, fun l hn => fin l _ hn (ints_rep ns)⟩
theorem fTupOf_some {a d : D} (e : fTupOf a = some d) : ∃ xs, D.pureL xs = true ∧ ((a = .lst xs ∧ d = .tup xs) ∨ ∃ f, a = .tupF f xs ∧ d = .tupF f xs) := by
  cases a with
  | lst xs => obtain ⟨h, rfl⟩ := iff?_some e; exact ⟨xs, h, .inl ⟨rfl, rfl⟩⟩
  | tupF f xs => obtain ⟨h, rfl⟩ := iff?_some e; exact ⟨xs, h, .inr ⟨f, rfl, rfl⟩⟩
  | _ => cases e
theorem rop_tupOf : ROp G (fun xs H Q => ∃ p ys, xs = [.ref p] ∧ ((SqL G.K H p ys ∧ ∀ l, H l = none → Q (.ref l) (upd H l (.tup ys))) ∨ (SqT G.K H p ys ∧ Q (.ref p) H))) gTupOf := by
  intro ds vs H Q d h e q
  obtain ⟨a, rfl, e⟩ := una_some e
  obtain ⟨x, rfl, h1⟩ := own1 h
  obtain ⟨xs, hp, ee⟩ := fTupOf_some e
  rcases ee with ⟨rfl, rfl⟩ | ⟨f, rfl, rfl⟩
  · obtain ⟨p, ys, rfl, hs, o⟩ := h1.lstR
    exact ⟨p, ys, rfl, .inl ⟨hs, fun l hn => q _ _ [] (same_upd hn) (fun Z => new_tup hp hn o Z) List.nodup_nil fun b m => by cases m⟩⟩
  · obtain ⟨p, ys, rfl, hs, o⟩ := h1
    exact ⟨p, ys, rfl, .inr ⟨hs.seq, done0 q fun Z => ⟨p, ys, rfl, hs, OwnL.pure_any hp o⟩⟩⟩
theorem pure_tupOf : PureG gTupOf := by
  intro ds d e
  obtain ⟨a, rfl, e⟩ := una_some e
  obtain ⟨xs, hp, ⟨_, rfl⟩ | ⟨f, _, rfl⟩⟩ := fTupOf_some e
  · exact hp
  · exact hp
def rRevL (K : PySem.W.Frag) : List V → Hp → VK → Prop := l1 fun v H Q => ∃ (a : Addr) (xs : List V), v = .ref a ∧ SqL K H a xs ∧ ∀ q, H q = none → Q (.ref q) (upd H q (.lst xs.reverse))
theorem rop_rev : ROp G (rRevL G.K) gRev := by
  intro ds vs H Q d h e q
  obtain ⟨a, rfl, e⟩ := una_some e
  obtain ⟨x, rfl, h1⟩ := own1 h
  have e : fRev a = some d := e
  unfold fRev at e
  cases hd : a.toLst with
  | none => rw [hd] at e; cases e
  | some xs =>
    rw [hd] at e
    obtain ⟨hp, rfl⟩ := iff?_some e
    obtain rfl := D.toLst_some hd
    obtain ⟨p, ys, rfl, hs, o⟩ := h1.lstR
    exact ⟨p, ys, rfl, hs, fun l hn => q _ _ [l] (same_upd hn) (fun Z => new_lst (D.pureL_reverse _ hp) hn o.reverse Z) one_nodup fun b m => by rw [List.mem_singleton.mp m]; exact hn⟩

/-! ### isinstance -/
def D.ty : D → Option String
  | .non => some "NoneType"
  | .bl _ => some "bool"
  | .int _ => some "int"
  | .str _ => some "str"
  | .tupF _ _ => some "tuple"
  | .lst _ => some "list"
  | .dk _ _ => some "dict"
  | .dt _ _ => some "dict"
  | _ => none
theorem Own.ty {H : Hp} {d : D} {v : V} {T : String} (h : Own G H H d v []) (e : d.ty = some T) : TyX G.K H v (.type T) := by
  cases d with
  | non => cases e; rw [h.1]; exact .base .non
  | bl b => cases e; rw [h.1]; exact .base (.bl b)
  | int b => cases e; rw [h.1]; exact .base (.int b)
  | str b => cases e; rw [h.1]; exact .base (.str b)
  | tupF f xs =>
    cases e
    obtain ⟨a, vs, rfl, h1, _⟩ := h
    cases f with
    | false => exact .base (.tup h1)
    | true =>
      obtain ⟨o, _, h1⟩ := h1
      exact .fTuple h1
  | lst xs =>
    cases e
    obtain ⟨a, vs, F', rfl, n, _⟩ := h
    rcases n with ⟨h1 | ⟨o, h1⟩, _⟩ | ⟨z, _⟩
    · exact .base (.lst h1)
    · exact .base (.frz h1)
    · cases z
  | dk ks vs =>
    cases e
    obtain ⟨a, vs, F', rfl, _, n, _⟩ := h
    rcases n with ⟨h1, _⟩ | ⟨z, _⟩
    · exact .base (.dK h1)
    · cases z
  | dt ks vs =>
    cases e
    obtain ⟨a, vs, F', rfl, _, n, _⟩ := h
    rcases n with ⟨h1, _⟩ | ⟨z, _⟩
    · exact .base (.dT h1)
    · cases z
  | _ => cases e
def tyLe (a b : String) : Bool := a == b || (a == "bool" && b == "int")
theorem D.ty_in {d : D} {T : String} (h : d.ty = some T) : T ∈ ["NoneType", "bool", "int", "str", "tuple", "list", "dict"] := by
  cases d <;> cases h <;> decide
theorem kit_all {K : PySem.W.Frag} {a b : String} (ha : a ∈ ["NoneType", "bool", "int", "str", "tuple", "list", "dict"]) (hb : b ∈ ["bool", "int", "str", "tuple", "list", "dict"]) : PySem.W.kitOne K (.type a) (.type b) = some (tyLe a b) := by
  refine kit_ty ?_
  have key : ∀ a ∈ ["NoneType", "bool", "int", "str", "tuple", "list", "dict"], ∀ b ∈ ["bool", "int", "str", "tuple", "list", "dict"], kitB a b = some (tyLe a b) := by decide +kernel
  exact key a ha b hb
/-- is a value of the built-in type T -/
def gIsi (T : String) : List D → Option D := una fun d => d.ty.map fun t => .bl (tyLe t T)
variable {X : Cx} {W : Wsh} {e : Expr} {p p2 pos : Pos}
theorem p_isi {x : Str} {T : String} {s1 : SArg} (dx : DX X G) (hT : T ∈ ["bool", "int", "str", "tuple", "list", "dict"]) (hg : Gl X "isinstance") (hm : X.mg "isinstance" = none) (hg2 : Gl X x) (hm2 : X.mg x = none) (hv2 : bootBuiltins x = some (.type T)) (he : PE X e (s1.te G)) (hn2 : x ≠ "__name__" := by decide) (hd2 : (x == ("__debug__" : Str)) = false := by decide)
    (hv : bootBuiltins "isinstance" = some (.builtin "isinstance") := by rfl) (hs2 : starEach [.Name x p2] X.env = (false, eval (.Name x p2) X.env) :: starEach [] X.env := by rfl)
    (hs : starEach [e, .Name x p2] X.env = (false, eval e X.env) :: starEach [.Name x p2] X.env := by rfl) (hpl : (backTo pos (starEach [.Name x p2] X.env)).any (·.1) = false := by rfl) :
    PE X (.Call (.Name "isinstance" p) [e, .Name x p2] [] pos) (TPur G (hOp [s1] (gIsi T))) :=
  (pe_callB call_isi hg hm hv (pa_cons he (pa_cons (pe_bltn (v := .ty T) hg2 hm2 hv2 rfl hn2 hd2) pa_nil hs2) hs) (he := hs) (hpl := hpl)).imp fun σ H Q h => by
    have q := tpur_op (hs := [s1]) (r := l1 fun x H Q => rIsi X.K [x, .ty T] H Q) (g := gIsi T) (by
      intro ds vs H Q d h e q
      obtain ⟨a, rfl, e⟩ := una_some e
      obtain ⟨x, rfl, h1⟩ := own1 h
      obtain ⟨t, ht, rfl⟩ := map_some' e
      · refine ⟨x, .ty T, .type t, .type T, tyLe t T, rfl, .ty T, ?_, kit_all (D.ty_in ht) hT, done0 q fun Z => ⟨rfl, rfl⟩⟩
        rw [dx.K]
        exact h1.ty ht) (by
      intro ds d e
      obtain ⟨a, rfl, e⟩ := una_some e
      obtain ⟨t, ht, rfl⟩ := map_some' e
      rfl) σ H Q h
    exact q
theorem e_rev {te : TE} {pos2 : Pos} (dx : DX X G) (c : Chn) (hg : Gl X "list") (hm : X.mg "list" = none) (hg2 : Gl X "reversed") (hm2 : X.mg "reversed" = none) (he : PE X e te) (hc : c.tes G W = [te] := by rfl) (hn : c.iofs.any id = false := by rfl)
    (hs : starEach [e] X.env = (false, eval e X.env) :: starEach [] X.env := by rfl)
    (hs2 : starEach [.Call (.Name "reversed" p2) [e] [] pos2] X.env = (false, eval (.Call (.Name "reversed" p2) [e] [] pos2) X.env) :: starEach [] X.env := by rfl) :
    PE X (.Call (.Name "list" p) [.Call (.Name "reversed" p2) [e] [] pos2] [] pos) (TV G W (eOp c gRev)) :=
  (pe_lrev dx.calm hg hm hg2 hm2 he hs hs2).imp fun σ H Q h => by
    have q := tv_op (r := rRevL X.K) (by rw [dx.K]; exact rop_rev) hn σ H Q h
    rw [hc] at q
    exact q
end
end DL

namespace DL
open PySem PySem.Spec PyProof.Rows L2

/-! ### lists that are changed -/
section
variable {G : Gc} {W : Wsh} {B Z H : Hp} {σ : L2.St} {env : DEnv} {Fs : Nat → List Addr}
theorem Own.alive {ds : List D} {v : V} {F : List Addr} (z0 : ∀ a, Z a = none) (h : Own G Z H (.lst ds) v F) : ∃ a vs F', v = .ref a ∧ F = a :: F' ∧ H a = some (.lst vs) ∧ OwnL G Z H ds vs F' := by
  obtain ⟨a, vs, F', rfl, n, o⟩ := h
  rcases n with ⟨h1 | ⟨u, h1⟩, _⟩ | ⟨e, h1⟩
  · rw [z0] at h1; cases h1
  · rw [z0] at h1; cases h1
  · exact ⟨a, vs, F', rfl, e, h1, o⟩
theorem OwnL.one {d : D} {v : V} {F : List Addr} (h : Own G Z H d v F) : OwnL G Z H [d] [v] F := ⟨v, [], F, [], rfl, by simp, h, rfl, rfl⟩
theorem own_non : Own G Z H .non .non [] := ⟨rfl, rfl⟩
theorem mut_fin {T : List Addr} {Y : Hp} {its : List (Bool × D)} {vs : List V} (gd : Good G B Z H σ env Fs) (hd : Hand G B Z H Y Fs its vs T) {a : Addr} {ws ws2 : List V} {ds2 : List D} {F2 FR : List Addr} {d : D} {r : V} (ha : a ∈ T) (hH : H a = some (.lst ws)) (o2 : OwnL G Z H ds2 ws2 F2) (oR : Own G Z H d r FR) (nd : (FR ++ a :: F2).Nodup) (sub : ∀ b, b ∈ FR ++ a :: F2 → b ∈ T) {Q : VK}
    (hF : FinO G W B Z H σ env (PT_ Fs T) [.ref a] (.ok (d, [.lst ds2], env)) Q) : Q r (upd H a (.lst ws2)) := by
  have nn := List.nodup_append.mp nd
  have naR : a ∉ FR := fun m => nn.2.2 a m a List.mem_cons_self rfl
  have naF : a ∉ F2 := (List.nodup_cons.mp nn.2.1).1
  have sb : Same B (upd H a (.lst ws2)) := fun b u e => by
    rw [upd_ne (fun z => by rw [z, (hd.fr a ha).1] at e; cases e)]
    exact gd.sb b u e
  have sz : Same Z (upd H a (.lst ws2)) := fun b u e => by rw [gd.z0] at e; cases e
  have nt : ∀ (b : Addr) (u : HO), H b = some u → Still u → b ≠ a := fun b u e st z => by
    rw [z, hH] at e; cases e; exact st trivial
  have st : Stp G B Z H σ env (PT_ Fs T) Z (upd H a (.lst ws2)) σ env Fs := by
    refine ⟨Same.refl Z, fun b u e n => ?_, ⟨sb, sz, gd.len, fun i => (gd.sl i).keep gd.sb gd.sz sb sz (Same.refl Z) fun b u e m => ?_, gd.nd, gd.dj, gd.fr, gd.z0⟩, fun b m => .inr (.inl m), fun _ m => .inl m, fun j d e => ⟨⟨d, e⟩, rfl⟩, fun j d e => ⟨e, rfl⟩, fun j d e => ⟨e, rfl⟩, fun j d e => ⟨e, rfl⟩, rfl⟩
    · rw [upd_ne (fun z => n (.inr (by rw [z]; exact ha)))]
      exact e
    · rw [upd_ne (fun z => ?_)]
      · exact e
      · rcases m with m | nm
        · exact hd.dj a ha ⟨i, by rw [← z]; exact m⟩
        · exact nt b u e nm z
  refine hF r Z _ Fs (FR ++ a :: F2) ⟨st, ⟨r, [.ref a], FR, a :: F2, rfl, rfl, oR.priv naR hH, ⟨.ref a, [], a :: F2, [], rfl, by simp, ⟨a, ws2, F2, rfl, .inr ⟨rfl, upd_same⟩, o2.priv naF hH⟩, rfl, rfl⟩⟩, nd, fun b m => hd.dj b (sub b m), fun b m => hd.fr b (sub b m), fun b m => .inr (.inr (sub b m))⟩
theorem its1 {its : List (Bool × D)} {a : Bool} (h : its.map (·.1) = [a]) : ∃ d, its = [(a, d)] := by
  match its, h with
  | [(b, d)], h => cases h; exact ⟨d, rfl⟩
theorem its2 {its : List (Bool × D)} {a b : Bool} (h : its.map (·.1) = [a, b]) : ∃ d e, its = [(a, d), (b, e)] := by
  match its, h with
  | [(_, d), (_, e)], h => cases h; exact ⟨d, e, rfl⟩
theorem its3 {its : List (Bool × D)} {a b c : Bool} (h : its.map (·.1) = [a, b, c]) : ∃ d e f, its = [(a, d), (b, e), (c, f)] := by
  match its, h with
  | [(_, d), (_, e), (_, f)], h => cases h; exact ⟨d, e, f, rfl⟩
theorem hand1 {Y : Hp} {d : D} {vs : List V} {T : List Addr} (h : OwnT G Y Z H [(true, d)] vs T) : ∃ v, vs = [v] ∧ Own G Z H d v T := by
  obtain ⟨v, r, F1, F2, rfl, rfl, h1, h2, rfl⟩ := h
  exact ⟨v, by rw [h2], by simpa using h1⟩
theorem hand2 {Y : Hp} {d e : D} {vs : List V} {T : List Addr} (h : OwnT G Y Z H [(true, d), (true, e)] vs T) : ∃ v w F1 F2, vs = [v, w] ∧ T = F1 ++ F2 ∧ Own G Z H d v F1 ∧ Own G Z H e w F2 := by
  obtain ⟨v, r, F1, F2, rfl, rfl, h1, h2⟩ := h
  obtain ⟨w, rfl, h3⟩ := hand1 h2
  exact ⟨v, w, F1, F2, rfl, rfl, h1, h3⟩
theorem hand3 {Y : Hp} {d e f : D} {vs : List V} {T : List Addr} (h : OwnT G Y Z H [(true, d), (true, e), (true, f)] vs T) : ∃ v w u F1 F2 F3, vs = [v, w, u] ∧ T = F1 ++ (F2 ++ F3) ∧ Own G Z H d v F1 ∧ Own G Z H e w F2 ∧ Own G Z H f u F3 := by
  obtain ⟨v, r, F1, F2, rfl, rfl, h1, h2⟩ := h
  obtain ⟨w, u, F3, F4, rfl, rfl, h3, h4⟩ := hand2 h2
  exact ⟨v, w, u, F1, F3, F4, rfl, rfl, h1, h3, h4⟩
theorem ioV_first {fl : List Bool} {v : V} {us : List V} (h : fl.any id = false) : ioV (true :: fl) (v :: us) = [v] := by
  show ioV fl us ++ [v] = [v]
  rw [ioV_none fl us h]; rfl
def rvM (r : V → List V → Hp → VK → Prop) : List V → Hp → VK → Prop := fun vs H Q => match vs with
  | x :: xs => r x xs H Q
  | [] => False
def appK : Kn := fun ds e => match ds with
  | [.lst xs, y] => if xs.length < 16777216 then .ok (.non, [.lst (xs ++ [y])], e) else .bad
  | _ => .bad
theorem k_app {fl : List Bool} (hfl : fl.any id = false) : KOk G W (true :: fl) [true, true] (rvM rAppend) appK := by
  intro B Z H σ env Fs its vs T ios Q gd hd hb hn hF
  obtain ⟨d1, y, rfl⟩ := its2 hb
  unfold appK at hF
  split at hF
  · rename_i xs y' e
    cases e
    split at hF
    · rename_i hl
      obtain ⟨v, w, F1, F2, rfl, rfl, h1, h2⟩ := hand2 hd.own
      obtain ⟨a, ws, F', rfl, rfl, hH, o⟩ := h1.alive gd.z0
      rw [ioV_first hfl] at hn
      subst hn
      have nd := hd.nd
      refine ⟨a, ws, w, rfl, rfl, hH, by rw [← size_line, OwnL.length o]; exact hl, ?_⟩
      exact mut_fin gd hd (F2 := F' ++ F2) (FR := []) (by simp) hH (OwnL.append o (OwnL.one h2)) own_non nd (fun b m => m) hF
    · exact hF.elim
  · exact hF.elim
def popK : Kn := fun ds e => match ds with
  | [.lst xs] => match xs.getLast? with
    | some y => .ok (y, [.lst xs.dropLast], e)
    | none => .bad
  | _ => .bad
theorem k_pop : KOk G W [true] [true] (rvM rPop) popK := by
  intro B Z H σ env Fs its vs T ios Q gd hd hb hn hF
  obtain ⟨d1, rfl⟩ := its1 hb
  unfold popK at hF
  split at hF
  · rename_i xs e
    cases e
    cases hx : xs.getLast? with
    | none => simp only [hx] at hF; exact hF.elim
    | some y =>
      simp only [hx] at hF
      obtain ⟨v, rfl, h1⟩ := hand1 hd.own
      obtain ⟨a, ws, F', rfl, rfl, hH, o⟩ := h1.alive gd.z0
      subst hn
      have ex : xs = xs.dropLast ++ [y] := by
        obtain ⟨h0, h1⟩ := List.getLast?_eq_some_iff.mp hx
        rw [h1, List.dropLast_concat]
      rw [ex] at o
      obtain ⟨w1, w2, G1, G2, rfl, rfl, o1, o2⟩ := OwnL.split o
      obtain ⟨w, rest, G3, G4, rfl, rfl, o3, rfl, rfl⟩ := o2
      have nd := hd.nd
      simp only [List.append_nil] at nd hH hd hF o h1
      refine ⟨a, w1 ++ [w], w, rfl, rfl, hH, by simp, ?_⟩
      rw [List.dropLast_concat]
      obtain ⟨n1, n2⟩ := List.nodup_cons.mp nd
      obtain ⟨n3, n4, n5⟩ := List.nodup_append.mp n2
      refine mut_fin gd hd (F2 := G1) (FR := G3) (by simp) hH o1 o3 (List.nodup_append.mpr ⟨n4, List.nodup_cons.mpr ⟨fun m => n1 (List.mem_append_left _ m), n3⟩, fun b m c k e => ?_⟩) (fun b m => ?_) hF
      · subst e
        rcases List.mem_cons.mp k with rfl | k
        · exact n1 (List.mem_append_right _ m)
        · exact n5 b k b m rfl
      · rcases List.mem_append.mp m with m | m
        · simp [m]
        · rcases List.mem_cons.mp m with rfl | m
          · simp
          · simp [m]
  · exact hF.elim
def clearK : Kn := fun ds e => match ds with
  | [.lst xs] => .ok (.non, [.lst []], e)
  | _ => .bad
theorem k_clear : KOk G W [true] [true] (rvM rClear) clearK := by
  intro B Z H σ env Fs its vs T ios Q gd hd hb hn hF
  obtain ⟨d1, rfl⟩ := its1 hb
  unfold clearK at hF
  split at hF
  · rename_i xs e
    cases e
    obtain ⟨v, rfl, h1⟩ := hand1 hd.own
    obtain ⟨a, ws, F', rfl, rfl, hH, o⟩ := h1.alive gd.z0
    subst hn
    refine ⟨a, ws, rfl, rfl, hH, ?_⟩
    exact mut_fin gd hd (F2 := []) (FR := []) (ds2 := []) (ws2 := []) (by simp) hH ⟨rfl, rfl⟩ own_non (by simp) (fun b m => by simp at m; simp [m]) hF
  · exact hF.elim
def insK : Kn := fun ds e => match ds with
  | [.lst xs, .int i, y] => if xs.length < 16777216 ∧ 0 ≤ i ∧ i.natAbs < 9223372036854775808 then .ok (.non, [.lst (xs.take i.toNat ++ [y] ++ xs.drop i.toNat)], e) else .bad
  | _ => .bad
def rInsert : V → List V → Hp → VK → Prop := fun x vs H Q => ∃ (l : Addr) (xs : List V) (i : Int) (y : V), x = .ref l ∧ vs = [.int i, y] ∧ H l = some (.lst xs) ∧ xs.length < sizeLine ∧ 0 ≤ i ∧ i < 2 ^ 63 ∧
    Q .non (upd H l (.lst (xs.take i.toNat ++ [y] ++ xs.drop i.toNat)))
theorem OwnL.cut2 {ds : List D} {vs : List V} {F : List Addr} (n : Nat) (h : OwnL G Z H ds vs F) : ∃ F1 F2, F = F1 ++ F2 ∧ OwnL G Z H (ds.take n) (vs.take n) F1 ∧ OwnL G Z H (ds.drop n) (vs.drop n) F2 := by
  have l := OwnL.length h
  rw [← List.take_append_drop n ds] at h
  obtain ⟨w1, w2, F1, F2, rfl, rfl, h1, h2⟩ := OwnL.split h
  have l1 := OwnL.length h1
  have l2 := OwnL.length h2
  refine ⟨F1, F2, rfl, ?_, ?_⟩
  · have e : (w1 ++ w2).take n = w1 := by
      by_cases hn : n ≤ ds.length
      · rw [List.length_take, Nat.min_eq_left hn] at l1
        rw [List.take_append_of_le_length (by omega), List.take_of_length_le (by omega)]
      · rw [List.length_drop] at l2
        have : w2 = [] := List.eq_nil_of_length_eq_zero (by omega)
        subst this
        rw [List.append_nil, List.take_of_length_le (by rw [l1, List.length_take]; omega)]
    rw [e]; exact h1
  · have e : (w1 ++ w2).drop n = w2 := by
      by_cases hn : n ≤ ds.length
      · rw [List.length_take, Nat.min_eq_left hn] at l1
        rw [List.drop_append_of_le_length (by omega), List.drop_of_length_le (by omega)]
        rfl
      · rw [List.length_drop] at l2
        have : w2 = [] := List.eq_nil_of_length_eq_zero (by omega)
        subst this
        rw [List.append_nil, List.drop_of_length_le (by rw [l1, List.length_take]; omega)]
    rw [e]; exact h2
theorem k_ins {fl : List Bool} (hfl : fl.any id = false) : KOk G W (true :: fl) [true, true, true] (rvM rInsert) insK := by
  intro B Z H σ env Fs its vs T ios Q gd hd hb hn hF
  obtain ⟨d1, d2, y, rfl⟩ := its3 hb
  unfold insK at hF
  split at hF
  · rename_i xs i y' e
    cases e
    split at hF
    · rename_i hl
      obtain ⟨v, w, u, F1, F2, F3, rfl, rfl, h1, h2, h3⟩ := hand3 hd.own
      obtain ⟨a, ws, F', rfl, rfl, hH, o⟩ := h1.alive gd.z0
      obtain ⟨rfl, rfl⟩ := h2
      rw [ioV_first hfl] at hn
      subst hn
      have nd := hd.nd
      refine ⟨a, ws, i, u, rfl, rfl, hH, by rw [← size_line, OwnL.length o]; exact hl.1, hl.2.1, by omega, ?_⟩
      obtain ⟨K1, K2, rfl, o1, o2⟩ := OwnL.cut2 i.toNat o
      have oo : OwnL G Z H (xs.take i.toNat ++ [y] ++ xs.drop i.toNat) (ws.take i.toNat ++ [u] ++ ws.drop i.toNat) ((K1 ++ F3) ++ K2) := OwnL.append (OwnL.append o1 (OwnL.one h3)) o2
      rw [List.nil_append, List.cons_append] at nd
      refine mut_fin gd hd (F2 := (K1 ++ F3) ++ K2) (FR := []) (by simp) hH oo own_non ?_ (fun b m => ?_) hF
      · rw [List.nil_append]
        refine (List.Perm.nodup_iff ?_).mp nd
        refine List.Perm.cons a ?_
        rw [List.append_assoc, List.append_assoc]
        exact List.Perm.append_left K1 List.perm_append_comm
      · simp only [List.nil_append, List.mem_cons, List.mem_append] at m ⊢
        rcases m with m | (m | m) | m
        · exact .inl (.inl m)
        · exact .inl (.inr (.inl m))
        · exact .inr m
        · exact .inl (.inr (.inr m))
    · exact hF.elim
  · exact hF.elim
def setK : Kn := fun ds e => match ds with
  | [x, .lst xs, .int i] => match ixN xs.length i with
    | some k => .ok (.non, [.lst (xs.set k x)], e)
    | none => .bad
  | _ => .bad
def rSetX : List V → Hp → VK → Prop := fun vs H Q => match vs with
  | [x, o, i] => rSetL o i x H (fun H2 => Q .non H2)
  | _ => False
theorem OwnL.setAt : ∀ {ds : List D} {vs : List V} {F : List Addr} {k : Nat} {d : D} {v : V} {F2 : List Addr}, OwnL G Z H ds vs F → Own G Z H d v F2 → k < ds.length → F.Nodup → F2.Nodup → (∀ a, a ∈ F2 → a ∉ F) → ∃ F3, OwnL G Z H (ds.set k d) (vs.set k v) F3 ∧ F3.Nodup ∧ ∀ a, a ∈ F3 → a ∈ F ∨ a ∈ F2
  | [], _, _, k, _, _, _, _, _, hk, _, _, _ => absurd hk (Nat.not_lt_zero k)
  | d0 :: r, vs, F, 0, d, v, F2, h, h2, _, nd, nd2, dj => by
    obtain ⟨v0, rest, G1, G2, rfl, rfl, o1, o2⟩ := h
    obtain ⟨n1, n2, n3⟩ := List.nodup_append.mp nd
    exact ⟨F2 ++ G2, ⟨v, rest, F2, G2, rfl, rfl, h2, o2⟩, List.nodup_append.mpr ⟨nd2, n2, fun a m b k e => dj a m (by rw [e]; exact List.mem_append_right _ k)⟩, fun a m => (List.mem_append.mp m).elim .inr fun m => .inl (List.mem_append_right _ m)⟩
  | d0 :: r, vs, F, k + 1, d, v, F2, h, h2, hk, nd, nd2, dj => by
    obtain ⟨v0, rest, G1, G2, rfl, rfl, o1, o2⟩ := h
    obtain ⟨n1, n2, n3⟩ := List.nodup_append.mp nd
    obtain ⟨F3, o3, n4, s3⟩ := OwnL.setAt (k := k) o2 h2 (by simpa using hk) n2 nd2 (fun a m n => dj a m (List.mem_append_right _ n))
    refine ⟨G1 ++ F3, ⟨v0, rest.set k v, G1, F3, rfl, rfl, o1, o3⟩, List.nodup_append.mpr ⟨n1, n4, fun a m b q e => ?_⟩, fun a m => ?_⟩
    · subst e
      rcases s3 a q with z | z
      · exact n3 a m a z rfl
      · exact dj a z (List.mem_append_left _ m)
    · rcases List.mem_append.mp m with m | m
      · exact .inl (List.mem_append_left _ m)
      · exact (s3 a m).imp (List.mem_append_right _) id
theorem k_set : KOk G W [false, true, false] [true, true, true] rSetX setK := by
  intro B Z H σ env Fs its vs T ios Q gd hd hb hn hF
  obtain ⟨x, d1, d2, rfl⟩ := its3 hb
  unfold setK at hF
  split at hF
  · rename_i x' xs i e
    cases e
    split at hF
    · rename_i k hk
      obtain ⟨u, v, w, F1, F2, F3, rfl, rfl, h3, h1, h2⟩ := hand3 hd.own
      obtain ⟨a, ws, F', rfl, rfl, hH, o⟩ := h1.alive gd.z0
      obtain ⟨rfl, rfl⟩ := h2
      have hn : ios = [.ref a] := hn
      subst hn
      have nd := hd.nd
      rw [List.append_nil] at nd
      obtain ⟨n1, n2, n3⟩ := List.nodup_append.mp nd
      obtain ⟨n4, n5⟩ := List.nodup_cons.mp n2
      have l := OwnL.length o
      have kl : k < xs.length := by
        have := (ixN_seq hk).2.1
        omega
      obtain ⟨F3, o3, n6, s3⟩ := OwnL.setAt (k := k) o h3 kl n5 n1 (fun b m q => n3 b m b (List.mem_cons_of_mem _ q) rfl)
      refine ⟨a, ws, i, k, rfl, rfl, hH, by rw [l]; exact hk, ?_⟩
      refine mut_fin gd hd (F2 := F3) (FR := []) (by simp) hH o3 own_non ?_ (fun b m => ?_) hF
      · rw [List.nil_append]
        refine List.nodup_cons.mpr ⟨fun m => ?_, n6⟩
        rcases s3 a m with z | z
        · exact n4 z
        · exact n3 a z a List.mem_cons_self rfl
      · simp only [List.nil_append, List.mem_cons, List.mem_append] at m ⊢
        rcases m with m | m
        · exact .inr (.inl (.inl m))
        · rcases s3 b m with z | z
          · exact .inr (.inl (.inr z))
          · exact .inl z
    · exact hF.elim
  · exact hF.elim

/-! ### the expressions -/
variable {X : Cx}
/-- slot j holds a list -/
def isL {α : Type} (j : Nat) (f : DEnv → Out α) : DEnv → Out α := fun env => match env[j]? with
  | some (some (_, .lst _)) => f env
  | _ => .bad
theorem isL_run {α : Type} {j : Nat} {f : DEnv → Out α} {env : DEnv} (h : isL j f env ≠ .bad) : (∃ m ds, env[j]? = some (some (m, D.lst ds))) ∧ isL j f env = f env := by
  unfold isL at h ⊢
  split
  · rename_i m ds e
    exact ⟨⟨m, ds, e⟩, rfl⟩
  · rename_i hx
    split at h
    · rename_i m ds e; exact absurd e (hx m ds)
    · exact absurd rfl h
theorem io_tyV {j : Nat} {m : Md} {ds : List D} (gd : Good G B Z H σ env Fs) (h : env[j]? = some (some (m, .lst ds))) : ∃ v, σ[j]? = some (some v) ∧ tyV G.K "list" v H := by
  obtain ⟨v, ev, ho⟩ := gd.read h
  have ho := Own.rep (gd.joi_in j) _ _ _ ho
  obtain ⟨a, ws, rfl, hs, o⟩ := ho.lstR
  exact ⟨_, ev, .inl ⟨rfl, ws, hs⟩⟩
theorem tv_io {σ : L2.St} {H : Hp} {Q : VK} {j : Nat} {c : Chn} {k : Kn} {r : V → List V → Hp → VK → Prop} {bs : List Bool} (hk : KOk G W (true :: c.iofs) bs (rvM r) k) (hb : (Chn.io j c).kinds = bs) (h : TV G W (isL j (eK (.io j c) k)) σ H Q) :
    ∃ v, σ[j]? = some (some v) ∧ tyV G.K "list" v H ∧ seqTE (c.tes G W) σ H fun us H1 => r v us H1 Q := by
  obtain ⟨B, Z, Fs, env, gd, q⟩ := h
  have nb : isL j (eK (.io j c) k) env ≠ .bad := fun e => by rw [e] at q; exact q
  obtain ⟨⟨m, ds, hs⟩, e⟩ := isL_run nb
  rw [e] at q
  obtain ⟨v, ev, ty⟩ := io_tyV gd hs
  obtain ⟨w, ew, q⟩ := tv_chn (c := .io j c) hk rfl hb σ H Q ⟨B, Z, Fs, env, gd, q⟩
  rw [ev] at ew
  obtain rfl : v = w := Option.some.inj (Option.some.inj ew)
  exact ⟨v, ev, ty, q⟩
theorem e_mt {o e : Expr} {es : List Expr} {t : TA} {name : Str} {apos cpos : Pos} {id : String} {r : V → List V → Hp → VK → Prop} {j : Nat} {k : Kn} {bs : List Bool} (dx : DX X G) (slot : PySem.Slot "list" name id) (hty : typeOf (.builtin id) = pure (.type "method_descriptor")) (hm : MtR X id r) (ho : PE X o (tVar j)) (c : Chn) (hk : KOk G W (true :: c.iofs) bs (rvM r) k) (ha : PA X (e :: es) t)
    (ht : t = seqTE (c.tes G W) := by rfl) (hb : (Chn.io j c).kinds = bs := by rfl) (hbase : attributeBase o name X.env (eval o X.env) = eval o X.env := by rfl)
    (hfew : ((backTo cpos (starEach (e :: es) X.env)).all (fun x => !x.1) && (backToKw cpos (keywordEach [] X.env)).all (fun x => x.1.isSome)
      && decide ((e :: es).length + ([] : List Keyword).length + (if ([] : List Keyword).isEmpty then 0 else 1) < 30)) = true := by rfl)
    (hline : (apos.endLine == cpos.line) = true := by rfl) (hs : starEach (e :: es) X.env = (false, eval e X.env) :: starEach es X.env := by rfl) (hplain : (backTo cpos (starEach es X.env)).any (·.1) = false := by rfl) :
    PE X (.Call (.Attribute o name apos) (e :: es) [] cpos) (TV G W (isL j (eK (.io j c) k))) :=
  (pe_bm F.plainAttrs_list slot hty hm ho ha hbase hfew hline hs hplain).imp fun σ H Q h => by
    subst ht
    obtain ⟨v, ev, ty, q⟩ := tv_io hk hb h
    exact ⟨v, ev, by rw [dx.K]; exact ty, q⟩
theorem e_mt0 {o : Expr} {name : Str} {apos cpos : Pos} {id : String} {r : V → List V → Hp → VK → Prop} {j : Nat} {k : Kn} (dx : DX X G) (slot : PySem.Slot "list" name id) (hty : typeOf (.builtin id) = pure (.type "method_descriptor")) (hm : MtR X id r) (ho : PE X o (tVar j)) (hk : KOk G W [true] [true] (rvM r) k)
    (hbase : attributeBase o name X.env (eval o X.env) = eval o X.env := by rfl) (hline : (apos.endLine == cpos.line) = true := by rfl) :
    PE X (.Call (.Attribute o name apos) [] [] cpos) (TV G W (isL j (eK (.io j (.fin [])) k))) :=
  (pe_bm0 F.plainAttrs_list slot hty hm ho hbase hline).imp fun σ H Q h => by
    obtain ⟨v, ev, ty, q⟩ := tv_io (c := .fin []) hk rfl h
    exact ⟨v, ev, by rw [dx.K]; exact ty, q⟩
theorem e_append {o e : Expr} {t : TA} {apos cpos : Pos} {j : Nat} (dx : DX X G) (ho : PE X o (tVar j)) (c : Chn) (ha : PA X [e] t) (hn : c.iofs.any id = false := by rfl) (ht : t = seqTE (c.tes G W) := by rfl) (hb : c.kinds = [true] := by rfl) (hbase : attributeBase o "append" X.env (eval o X.env) = eval o X.env := by rfl)
    (hfew : ((backTo cpos (starEach [e] X.env)).all (fun x => !x.1) && (backToKw cpos (keywordEach [] X.env)).all (fun x => x.1.isSome)
      && decide ([e].length + ([] : List Keyword).length + (if ([] : List Keyword).isEmpty then 0 else 1) < 30)) = true := by rfl)
    (hline : (apos.endLine == cpos.line) = true := by rfl) (hs : starEach [e] X.env = (false, eval e X.env) :: starEach [] X.env := by rfl) (hplain : (backTo cpos (starEach [] X.env)).any (·.1) = false := by rfl) :
    PE X (.Call (.Attribute o "append" apos) [e] [] cpos) (TV G W (isL j (eK (.io j c) appK))) :=
  e_mt dx F.slot_list_append F.type_list_append mt_append ho c (k_app hn) ha ht (by show true :: c.kinds = _; rw [hb]) hbase hfew hline hs hplain
theorem e_pop {o : Expr} {apos cpos : Pos} {j : Nat} (dx : DX X G) (ho : PE X o (tVar j)) (hbase : attributeBase o "pop" X.env (eval o X.env) = eval o X.env := by rfl) (hline : (apos.endLine == cpos.line) = true := by rfl) : PE X (.Call (.Attribute o "pop" apos) [] [] cpos) (TV G W (isL j (eK (.io j (.fin [])) popK))) :=
  e_mt0 dx F.slot_list_pop F.type_list_pop mt_pop ho k_pop hbase hline
theorem e_clear {o : Expr} {apos cpos : Pos} {j : Nat} (dx : DX X G) (ho : PE X o (tVar j)) (hbase : attributeBase o "clear" X.env (eval o X.env) = eval o X.env := by rfl) (hline : (apos.endLine == cpos.line) = true := by rfl) : PE X (.Call (.Attribute o "clear" apos) [] [] cpos) (TV G W (isL j (eK (.io j (.fin [])) clearK))) :=
  e_mt0 dx F.slot_list_clear F.type_list_clear mt_clear ho k_clear hbase hline
theorem e_insert {o e e2 : Expr} {t : TA} {apos cpos : Pos} {j : Nat} (dx : DX X G) (ho : PE X o (tVar j)) (c : Chn) (ha : PA X [e, e2] t) (hn : c.iofs.any id = false := by rfl) (ht : t = seqTE (c.tes G W) := by rfl) (hb : c.kinds = [true, true] := by rfl) (hbase : attributeBase o "insert" X.env (eval o X.env) = eval o X.env := by rfl)
    (hfew : ((backTo cpos (starEach [e, e2] X.env)).all (fun x => !x.1) && (backToKw cpos (keywordEach [] X.env)).all (fun x => x.1.isSome)
      && decide ([e, e2].length + ([] : List Keyword).length + (if ([] : List Keyword).isEmpty then 0 else 1) < 30)) = true := by rfl)
    (hline : (apos.endLine == cpos.line) = true := by rfl) (hs : starEach [e, e2] X.env = (false, eval e X.env) :: starEach [e2] X.env := by rfl) (hplain : (backTo cpos (starEach [e2] X.env)).any (·.1) = false := by rfl) :
    PE X (.Call (.Attribute o "insert" apos) [e, e2] [] cpos) (TV G W (isL j (eK (.io j c) insK))) :=
  e_mt dx F.slot_list_insert F.type_list_insert mt_insert ho c (k_ins hn) ha ht (by show true :: c.kinds = _; rw [hb]) hbase hfew hline hs hplain

/-- x[i] = e -/
theorem s_setix {o i e : Expr} {to ti te : TE} {tpos pos : Pos} (c : Chn) (he : PE X e te) (ho : PE X o to) (hi : PE X i ti) (hc : c.tes G W = [te, to, ti] := by rfl) (hn : c.iofs = [false, true, false] := by rfl) (hb : c.kinds = [true, true, true] := by rfl)
    (ha : ∀ v, assign (.Subscript o i tpos) X.env v = (do
      let ov ← holding [v] (eval o X.env)
      let iv ← holding [v, ov] (eval i X.env)
      standAt tpos
      holding [v, ov, iv] (setItem ov iv v)
      release [v, ov, iv] []) := by intro _; rfl)
    (hs : swapsWithSole [.Subscript o i tpos] e pos.line X.env = pure false := by rfl) (hw : swappedStores [.Subscript o i tpos] e X.env = pure none := by rfl) (h1 : (assignEach [.Subscript o i tpos] X.env).map (·.2) = [assign (.Subscript o i tpos) X.env] := by rfl) :
    PS X (.Assign [.Subscript o i tpos] e pos) (TSt G W (sExpr (eK c setK))) :=
  (ps_asg he (pg_sub ho hi set_list ha) hs hw h1).imp fun En σ H ⟨B, Z, Fs, env, gd, q⟩ => by
    have q1 : TV G W (eK c setK) σ H (fun _ H1 => En.nx σ H1) := by
      refine ⟨B, Z, Fs, env, gd, ?_⟩
      unfold sExpr at q
      unfold FinV
      cases hf : eK c setK env with
      | bad => rw [hf] at q; exact q.elim
      | exc c => rw [hf] at q; exact q
      | ok p =>
        rw [hf] at q
        exact fun v Z' H' Fs' F p => q σ Z' H' Fs' p.st
    have q2 := tv_chn (c := c) k_set hn hb σ H _ q1
    rw [hc] at q2
    exact q2

/-- name op= e, whole numbers -/
def sAug (i : Nat) (g : List D → Option D) (f : DEnv → Out (D × DEnv)) : Stm := fun env => must (hVar i env) fun dx => f env >>= fun p => must (g [dx, p.1]) fun d => must (putS i d p.2) fun e => .ok (.nx e)
theorem s_aug {i : Nat} {x : Str} {e : Expr} {op : Operator} {h : Int → Int → Int} {f : DEnv → Out (D × DEnv)} {p' pos : Pos} (dx : DX X G) (hi : X.N[i]? = some x) (hx : Loc X.env.scope x) (ho : PIp X op (ipI h)) (he : PE X e (TV G W f)) (hf : X.fn x = true ∨ X.env.scope.names.lookup x = some .local := by first | exact .inl rfl | exact .inr rfl) :
    PS X (.AugAssign (.Name x p') op e pos) (TSt G W (sAug i (bin (bI fun a b => some (.int (h a b)))) f)) :=
  (ps_aug dx.nd hi hx he ho hf).imp fun En σ H ⟨B, Z, Fs, env, gd, q⟩ => by
    unfold sAug at q
    cases hv : hVar i env with
    | none => rw [hv] at q; exact q.elim
    | some d1 =>
      rw [hv, must_some] at q
      have hs : ∃ m, env[i]? = some (some (m, d1)) := by
        unfold hVar at hv
        split at hv
        · rename_i m d e
          split at hv
          · cases hv; exact ⟨m, e⟩
          · cases hv
        · cases hv
      obtain ⟨m, hs⟩ := hs
      obtain ⟨v, ev, ho1⟩ := gd.read hs
      refine ⟨v, ev, B, Z, Fs, env, gd, ?_⟩
      unfold FinV
      cases hf : f env with
      | bad => rw [hf] at q; exact q.elim
      | exc c => rw [hf] at q; exact q
      | ok p =>
        obtain ⟨d2, e2⟩ := p
        rw [hf] at q
        intro v2 Z2 H2 Fs2 F2 p2
        have q : FinS G W B Z H σ env (InF Fs) (must (bin (bI fun a b => some (.int (h a b))) [d1, d2]) fun d => must (putS i d e2) fun e => .ok (.nx e)) En := q
        cases hg : bin (bI fun a b => some (.int (h a b))) [d1, d2] with
        | none => rw [hg] at q; exact q.elim
        | some d3 =>
          rw [hg, must_some] at q
          obtain ⟨a, b, eab, hg⟩ := bin_some hg
          cases eab
          obtain ⟨n1, n2, rfl, rfl, e3⟩ := bI_some hg
          cases e3
          cases hput : putS i (.int (h n1 n2)) e2 with
          | none => rw [hput] at q; exact q.elim
          | some e4 =>
            rw [hput] at q
            have o2 := p2.one
            refine ⟨n1, n2, ho1.1, o2.1, ?_⟩
            have s2 : Stp G B Z2 H2 σ e2 (InF Fs2) Z2 H2 (σ.set i (some (.int (h n1 n2)))) e4 (onF Fs2 i []) := Stp.put p2.st.good (fun a m => m) (fun a m => by cases m) ⟨(show Own G Z2 H2 (.int (h n1 n2)) (.int (h n1 n2)) [] from ⟨rfl, rfl⟩), List.nodup_nil, fun a m => (by cases m), fun a m => (by cases m)⟩ hput
            exact q _ _ _ _ (p2.st.trans p2.st.new s2)

/-! ### rows times a number -/
def repK : Kn := fun ds e => match ds with
  | [.lst xs, .int k] => if k.natAbs < 9223372036854775808 ∧ xs.length * k.toNat ≤ 16777216 ∧ D.pureL xs = true then .ok (.lst (List.replicate k.toNat xs).flatten, [], e) else .bad
  | _ => .bad
theorem D.pureL_rep {xs : List D} (h : D.pureL xs = true) : ∀ k : Nat, D.pureL (List.replicate k xs).flatten = true
  | 0 => rfl
  | k + 1 => by
    rw [List.replicate_succ, List.flatten_cons, D.pureL_append, h, D.pureL_rep h k]; rfl
theorem OwnL.rep_pure {ds : List D} {vs : List V} (h : OwnL G Z H ds vs []) : ∀ k : Nat, OwnL G Z H (List.replicate k ds).flatten (List.replicate k vs).flatten []
  | 0 => ⟨rfl, rfl⟩
  | k + 1 => by
    rw [List.replicate_succ, List.flatten_cons, List.replicate_succ, List.flatten_cons]
    have := OwnL.append h (OwnL.rep_pure h k)
    simpa using this
theorem k_rep {fl : List Bool} (hfl : fl.any id = false) : KOk G W fl [true, true] (l2 rRep) repK := by
  intro B Z H σ env Fs its vs T ios Q gd hd hb hn hF
  obtain rfl : ios = [] := hn.trans (ioV_none fl vs hfl)
  obtain ⟨d1, y, rfl⟩ := its2 hb
  unfold repK at hF
  split at hF
  · rename_i xs k e
    cases e
    split at hF
    · rename_i hl
      obtain ⟨v, w, F1, F2, rfl, rfl, h1, h2⟩ := hand2 hd.own
      obtain ⟨a, ws, F', rfl, rfl, hH, o⟩ := h1.alive gd.z0
      obtain ⟨rfl, rfl⟩ := h2
      refine ⟨a, k, ws, rfl, rfl, hH, by omega, by omega, by rw [← size_line, OwnL.length o]; exact hl.2.1, fun p hp => ?_⟩
      have nf := none_of_free gd hp
      have op : OwnL G Z H (List.replicate k.toNat xs).flatten (List.replicate k.toNat ws).flatten [] := OwnL.rep_pure (OwnL.pure_any hl.2.2 o) k.toNat
      refine hF _ Z _ Fs [p] ⟨Stp.grow gd (fun a m => .inl m) (same_upd hp), ⟨.ref p, [], [p], [], rfl, rfl, ⟨p, _, [], rfl, .inr ⟨rfl, upd_same⟩, OwnL.keepT (Same.refl _) (TK.of (same_upd hp)) op⟩, rfl, rfl⟩, one_nodup, fun b m => ?_, fun b m => ?_, fun b m => ?_⟩
      · rw [List.mem_singleton.mp m]; exact nf.1
      · rw [List.mem_singleton.mp m]; exact nf.2
      · rw [List.mem_singleton.mp m]; exact .inl hp
    · exact hF.elim
  · exact hF.elim
theorem e_rep {a b : Expr} {ta tb : TE} {pos : Pos} (c : Chn) (ha : PE X a ta) (hb : PE X b tb) (hc : c.tes G W = [ta, tb] := by rfl) (hn : c.iofs.any id = false := by rfl) (hk : c.kinds = [true, true] := by rfl) : PE X (.BinOp a .Mult b pos) (TV G W (eK c repK)) :=
  (pe_op op_rep ha hb).imp fun σ H Q h => by
    have q := tv_chn (k_rep (G := G) (W := W) hn) rfl hk σ H Q h
    rw [hc] at q
    exact q
def fRepT (a b : D) : Option D := match a, b with
  | .tupF false xs, .int k => iff? (-1000 ≤ k ∧ k ≤ 1000 ∧ xs.length ≤ 1000 ∧ D.pureL xs = true) (.tup (List.replicate k.toNat xs).flatten)
  | _, _ => none
abbrev gRepT := bin fRepT
theorem fRepT_some {a b d : D} (h : fRepT a b = some d) : ∃ xs k, a = .tup xs ∧ b = .int k ∧ (-1000 ≤ k ∧ k ≤ 1000 ∧ xs.length ≤ 1000 ∧ D.pureL xs = true) ∧ d = .tup (List.replicate k.toNat xs).flatten := by
  unfold fRepT at h
  split at h
  · obtain ⟨hc, rfl⟩ := iff?_some h
    exact ⟨_, _, rfl, rfl, hc, rfl⟩
  · cases h
theorem flat_nil {α : Type} : ∀ k : Nat, (List.replicate k ([] : List α)).flatten = []
  | 0 => rfl
  | k + 1 => by rw [List.replicate_succ, List.flatten_cons, flat_nil k]; rfl
theorem rop_repT : ROp G (l2 (rRepAny G.K)) gRepT := by
  intro ds vs H Q d h e q
  obtain ⟨a, b, rfl, e⟩ := bin_some e
  obtain ⟨x, y, rfl, h1, h2⟩ := own2 h
  obtain ⟨xs, k, rfl, rfl, ⟨k0, k1, hl, hp⟩, rfl⟩ := fRepT_some e
  obtain ⟨p, ws, rfl, hH, o⟩ := h1
  have l := OwnL.length o
  refine ⟨p, k, ws, rfl, h2.1, SqT.of hH, k0, k1, by rw [l]; exact hl, fun hz => ?_, fun hne hk p2 hn => ?_, fun hne hk p2 hn => ?_⟩
  · have e : (List.replicate k.toNat xs).flatten = xs := by
      rcases hz with z | z
      · subst z
        have : xs = [] := List.eq_nil_of_length_eq_zero l.symm
        subst this
        exact flat_nil _
      · subst z
        show xs ++ [] = xs
        rw [List.append_nil]
    rw [e] at q
    exact done0 q fun Z => ⟨p, ws, rfl, hH, OwnL.pure_any hp o⟩
  · have e : k.toNat = 0 := by omega
    rw [e] at q
    exact q _ _ [] (same_upd hn) (fun Z => new_tup (ds := []) rfl hn ⟨rfl, rfl⟩ Z) List.nodup_nil fun b m => by cases m
  · exact q _ _ [] (same_upd hn) (fun Z => new_tup (D.pureL_rep hp _) hn (OwnL.rep_pure o _) Z) List.nodup_nil fun b m => by cases m
theorem pure_repT : PureG gRepT := by
  intro ds d e
  obtain ⟨a, b, rfl, e⟩ := bin_some e
  obtain ⟨xs, k, rfl, rfl, ⟨k0, k1, hl, hp⟩, rfl⟩ := fRepT_some e
  exact D.pureL_rep hp _

/-! ### in -/
def D.fv : D → Option V
  | .non => some .non
  | .bl b => some (.bl b)
  | .int i => some (.int i)
  | .str s => some (.str s)
  | _ => none
def D.fvs : List D → Option (List V)
  | [] => some []
  | d :: r => match d.fv, D.fvs r with
    | some v, some vs => some (v :: vs)
    | _, _ => none
theorem fv_own {Z H : Hp} {d : D} {v w : V} {F : List Addr} (e : d.fv = some w) (h : Own G Z H d v F) : v = w ∧ flatV w = true := by
  cases d with
  | non => cases e; exact ⟨h.1, rfl⟩
  | bl b => cases e; exact ⟨h.1, rfl⟩
  | int b => cases e; exact ⟨h.1, rfl⟩
  | str b => cases e; exact ⟨h.1, rfl⟩
  | _ => cases e
theorem fvs_own {Z H : Hp} : ∀ {ds : List D} {vs ws : List V} {F : List Addr}, D.fvs ds = some ws → OwnL G Z H ds vs F → vs = ws ∧ ws.all flatV = true
  | [], vs, ws, F, e, h => by
    cases (show some ([] : List V) = some ws from e)
    exact ⟨h.1, rfl⟩
  | d :: r, vs, ws, F, e, h => by
    obtain ⟨v, rest, F1, F2, rfl, rfl, h1, h2⟩ := h
    have e : (match d.fv, D.fvs r with
      | some v, some vs => some (v :: vs)
      | _, _ => none) = some ws := e
    cases hd : d.fv with
    | none => rw [hd] at e; cases e
    | some w =>
      cases hr : D.fvs r with
      | none => rw [hd, hr] at e; cases e
      | some us =>
        rw [hd, hr] at e
        cases e
        obtain ⟨rfl, f1⟩ := fv_own hd h1
        obtain ⟨rfl, f2⟩ := fvs_own hr h2
        exact ⟨rfl, by rw [List.all_cons, f1, f2]; rfl⟩
def inB (x y : D) : Option Bool := match y with
  | .tupF _ ys => match x.fv, D.fvs ys with
    | some v, some vs => some (inV v vs)
    | _, _ => none
  | y => match x.py, y.py with
    | some d, some (.list ds) => iff? (SeqAt.shaped d = true ∧ SeqAt.shaped (.list ds) = true) (ds.any fun z => PyData.eqv z d)
    | _, _ => none
theorem inB_some {x y : D} {b : Bool} (h : inB x y = some b) : (∃ f ys v vs, y = .tupF f ys ∧ x.fv = some v ∧ D.fvs ys = some vs ∧ b = inV v vs) ∨ ∃ d ds, x.py = some d ∧ y.py = some (.list ds) ∧ SeqAt.shaped d = true ∧ SeqAt.shaped (.list ds) = true ∧ b = ds.any fun z => PyData.eqv z d := by
  unfold inB at h
  split at h
  · rename_i f ys
    split at h
    · rename_i v vs h1 h2
      cases h
      exact .inl ⟨f, ys, v, vs, rfl, h1, h2, rfl⟩
    · cases h
  · split at h
    · rename_i d ds h1 h2
      obtain ⟨hc, rfl⟩ := iff?_some h
      exact .inr ⟨d, ds, h1, h2, hc.1, hc.2, rfl⟩
    · cases h
abbrev gIn := bin fun a b => (inB a b).map .bl
abbrev gNotIn := bin fun a b => (inB a b).map fun k => .bl (!k)
def rInA (K : PySem.W.Frag) : R2 := fun x y H Q => rInD K x y H Q ∨ rIn K false x y H Q
def rNotInA (K : PySem.W.Frag) : R2 := fun x y H Q => rNotInD K x y H Q ∨ rIn K true x y H Q
theorem rop_in : ROp G (l2 (rInA G.K)) gIn := by
  intro ds vs H Q d h e q
  obtain ⟨a, b, rfl, e⟩ := bin_some e
  obtain ⟨x, y, rfl, h1, h2⟩ := own2 h
  obtain ⟨k, hk, rfl⟩ := map_some' e
  rcases inB_some hk with ⟨f, ys, v, vs, rfl, e1, e2, rfl⟩ | ⟨p, ps, e1, e2, s1, s2, rfl⟩
  · obtain ⟨w, ws, rfl, hH, o⟩ := h2
    obtain ⟨rfl, f1⟩ := fv_own e1 h1
    obtain ⟨rfl, f2⟩ := fvs_own e2 o
    exact .inr ⟨w, ws, rfl, .inr hH.seq, f1, f2, done0 q fun Z => ⟨rfl, rfl⟩⟩
  · exact .inl ⟨p, ps, Own.dp _ _ _ h1 e1, Own.dp _ _ _ h2 e2, s1, s2, done0 q fun Z => ⟨rfl, rfl⟩⟩
theorem rop_notIn : ROp G (l2 (rNotInA G.K)) gNotIn := by
  intro ds vs H Q d h e q
  obtain ⟨a, b, rfl, e⟩ := bin_some e
  obtain ⟨x, y, rfl, h1, h2⟩ := own2 h
  obtain ⟨k, hk, rfl⟩ := map_some' e
  rcases inB_some hk with ⟨f, ys, v, vs, rfl, e1, e2, rfl⟩ | ⟨p, ps, e1, e2, s1, s2, rfl⟩
  · obtain ⟨w, ws, rfl, hH, o⟩ := h2
    obtain ⟨rfl, f1⟩ := fv_own e1 h1
    obtain ⟨rfl, f2⟩ := fvs_own e2 o
    exact .inr ⟨w, ws, rfl, .inr hH.seq, f1, f2, done0 q fun Z => ⟨rfl, rfl⟩⟩
  · exact .inl ⟨p, ps, Own.dp _ _ _ h1 e1, Own.dp _ _ _ h2 e2, s1, s2, done0 q fun Z => ⟨rfl, rfl⟩⟩
theorem pure_in : PureG gIn := by
  intro ds d e
  obtain ⟨a, b, rfl, e⟩ := bin_some e
  obtain ⟨k, hk, rfl⟩ := map_some' e
  rfl
theorem pure_notIn : PureG gNotIn := by
  intro ds d e
  obtain ⟨a, b, rfl, e⟩ := bin_some e
  obtain ⟨k, hk, rfl⟩ := map_some' e
  rfl
theorem op_inA (dx : DX X G) : OpR X (compareOp .In) (rInA X.K) := OpR.or (op_inD (by have := dx.un; omega)) op_in_seq
theorem op_notInA (dx : DX X G) : OpR X (compareOp .NotIn) (rNotInA X.K) := OpR.or (op_notInD (by have := dx.un; omega)) op_notIn_seq
end
end DL

namespace DL
open PySem PySem.Spec PyProof.Rows L2
theorem DXW.blk {X : Cx} {G : Gc} {W : Wsh} {s : Shared} {H : Hp} {scope : Scope} {cenv : Env} {fp : List Addr} (d : DXW X G W) : DXW (X.blk s H scope cenv fp) G Wno :=
  ⟨d.dx.blk, fun _ _ h => h.elim, takes0.imp fun c d σ H h => by
    obtain ⟨_, _, _, _, _, h⟩ := h
    exact h.elim⟩
theorem bt_len : bootBuiltins "len" = some (.builtin "len") := by decide +kernel
theorem bt_sum : bootBuiltins "sum" = some (.builtin "sum") := by decide +kernel
theorem bt_max : bootBuiltins "max" = some (.builtin "max") := by decide +kernel
theorem bt_min : bootBuiltins "min" = some (.builtin "min") := by decide +kernel
theorem bt_abs : bootBuiltins "abs" = some (.builtin "abs") := by decide +kernel
theorem bt_all : bootBuiltins "all" = some (.builtin "all") := by decide +kernel
theorem bt_any : bootBuiltins "any" = some (.builtin "any") := by decide +kernel
theorem bt_sorted : bootBuiltins "sorted" = some (.builtin "sorted") := by decide +kernel
theorem bt_isinstance : bootBuiltins "isinstance" = some (.builtin "isinstance") := by decide +kernel
theorem bt_zip : bootBuiltins "zip" = some (.type "zip") := by decide +kernel
theorem bt_range : bootBuiltins "range" = some (.type "range") := by decide +kernel
theorem bt_enumerate : bootBuiltins "enumerate" = some (.type "enumerate") := by decide +kernel
theorem bt_reversed : bootBuiltins "reversed" = some (.type "reversed") := by decide +kernel
theorem bt_list : bootBuiltins "list" = some (.type "list") := by decide +kernel
theorem bt_tuple : bootBuiltins "tuple" = some (.type "tuple") := by decide +kernel
theorem bt_int : bootBuiltins "int" = some (.type "int") := by decide +kernel
theorem bt_str : bootBuiltins "str" = some (.type "str") := by decide +kernel
theorem bt_bool : bootBuiltins "bool" = some (.type "bool") := by decide +kernel
theorem bt_set : bootBuiltins "set" = some (.type "set") := by decide +kernel
theorem bt_dict : bootBuiltins "dict" = some (.type "dict") := by decide +kernel
section
variable {G : Gc} {W : Wsh} {X : Cx} {e : Expr} {es : List Expr} {p pos : Pos} {t : TA} {hs : List SArg}
theorem p_len (dx : DX X G) (hg : Gl X "len") (hm : X.mg "len" = none) (ha : PA X (e :: es) t) (ht : t = seqTE (hs.map (SArg.te G)) := by rfl) (he : starEach (e :: es) X.env = (false, eval e X.env) :: starEach es X.env := by rfl) (hpl : (backTo pos (starEach es X.env)).any (·.1) = false := by rfl) :
    PE X (.Call (.Name "len" p) (e :: es) [] pos) (TPur G (hOp hs gLen)) :=
  p_callB call_len hg hm bt_len (by rw [dx.K]; exact rop_len) pure_len ha ht (by decide) (by decide) he hpl
theorem e_len (dx : DX X G) (hg : Gl X "len") (hm : X.mg "len" = none) (c : Chn) (ha : PA X (e :: es) t) (ht : t = seqTE (c.tes G W) := by rfl) (hio : c.iofs.any id = false := by rfl) (he : starEach (e :: es) X.env = (false, eval e X.env) :: starEach es X.env := by rfl) (hpl : (backTo pos (starEach es X.env)).any (·.1) = false := by rfl) :
    PE X (.Call (.Name "len" p) (e :: es) [] pos) (TV G W (eOp c gLen)) :=
  e_callB call_len hg hm bt_len (by rw [dx.K]; exact rop_len) c ha ht hio (by decide) (by decide) he hpl
theorem p_sum (dx : DX X G) (hg : Gl X "sum") (hm : X.mg "sum" = none) (ha : PA X (e :: es) t) (ht : t = seqTE (hs.map (SArg.te G)) := by rfl) (he : starEach (e :: es) X.env = (false, eval e X.env) :: starEach es X.env := by rfl) (hpl : (backTo pos (starEach es X.env)).any (·.1) = false := by rfl) :
    PE X (.Call (.Name "sum" p) (e :: es) [] pos) (TPur G (hOp hs gSum)) :=
  p_callB (cr_sum dx.calm) hg hm bt_sum (by rw [dx.K]; exact rop_sum) pure_sum ha ht (by decide) (by decide) he hpl
theorem e_sum (dx : DX X G) (hg : Gl X "sum") (hm : X.mg "sum" = none) (c : Chn) (ha : PA X (e :: es) t) (ht : t = seqTE (c.tes G W) := by rfl) (hio : c.iofs.any id = false := by rfl) (he : starEach (e :: es) X.env = (false, eval e X.env) :: starEach es X.env := by rfl) (hpl : (backTo pos (starEach es X.env)).any (·.1) = false := by rfl) :
    PE X (.Call (.Name "sum" p) (e :: es) [] pos) (TV G W (eOp c gSum)) :=
  e_callB (cr_sum dx.calm) hg hm bt_sum (by rw [dx.K]; exact rop_sum) c ha ht hio (by decide) (by decide) he hpl
theorem p_max (dx : DX X G) (hg : Gl X "max") (hm : X.mg "max" = none) (ha : PA X (e :: es) t) (ht : t = seqTE (hs.map (SArg.te G)) := by rfl) (he : starEach (e :: es) X.env = (false, eval e X.env) :: starEach es X.env := by rfl) (hpl : (backTo pos (starEach es X.env)).any (·.1) = false := by rfl) :
    PE X (.Call (.Name "max" p) (e :: es) [] pos) (TPur G (hOp hs gMax)) :=
  p_callB (cr_max dx.calm) hg hm bt_max (by rw [dx.K]; exact rop_max) pure_max ha ht (by decide) (by decide) he hpl
theorem e_max (dx : DX X G) (hg : Gl X "max") (hm : X.mg "max" = none) (c : Chn) (ha : PA X (e :: es) t) (ht : t = seqTE (c.tes G W) := by rfl) (hio : c.iofs.any id = false := by rfl) (he : starEach (e :: es) X.env = (false, eval e X.env) :: starEach es X.env := by rfl) (hpl : (backTo pos (starEach es X.env)).any (·.1) = false := by rfl) :
    PE X (.Call (.Name "max" p) (e :: es) [] pos) (TV G W (eOp c gMax)) :=
  e_callB (cr_max dx.calm) hg hm bt_max (by rw [dx.K]; exact rop_max) c ha ht hio (by decide) (by decide) he hpl
theorem p_min (dx : DX X G) (hg : Gl X "min") (hm : X.mg "min" = none) (ha : PA X (e :: es) t) (ht : t = seqTE (hs.map (SArg.te G)) := by rfl) (he : starEach (e :: es) X.env = (false, eval e X.env) :: starEach es X.env := by rfl) (hpl : (backTo pos (starEach es X.env)).any (·.1) = false := by rfl) :
    PE X (.Call (.Name "min" p) (e :: es) [] pos) (TPur G (hOp hs gMin)) :=
  p_callB (cr_min dx.calm) hg hm bt_min (by rw [dx.K]; exact rop_min) pure_min ha ht (by decide) (by decide) he hpl
theorem e_min (dx : DX X G) (hg : Gl X "min") (hm : X.mg "min" = none) (c : Chn) (ha : PA X (e :: es) t) (ht : t = seqTE (c.tes G W) := by rfl) (hio : c.iofs.any id = false := by rfl) (he : starEach (e :: es) X.env = (false, eval e X.env) :: starEach es X.env := by rfl) (hpl : (backTo pos (starEach es X.env)).any (·.1) = false := by rfl) :
    PE X (.Call (.Name "min" p) (e :: es) [] pos) (TV G W (eOp c gMin)) :=
  e_callB (cr_min dx.calm) hg hm bt_min (by rw [dx.K]; exact rop_min) c ha ht hio (by decide) (by decide) he hpl
theorem p_max2 (dx : DX X G) (hg : Gl X "max") (hm : X.mg "max" = none) (ha : PA X (e :: es) t) (ht : t = seqTE (hs.map (SArg.te G)) := by rfl) (he : starEach (e :: es) X.env = (false, eval e X.env) :: starEach es X.env := by rfl) (hpl : (backTo pos (starEach es X.env)).any (·.1) = false := by rfl) :
    PE X (.Call (.Name "max" p) (e :: es) [] pos) (TPur G (hOp hs gMax2)) :=
  p_callB (call_max2 dx.calm) hg hm bt_max rop_max2 pure_max2 ha ht (by decide) (by decide) he hpl
theorem e_max2 (dx : DX X G) (hg : Gl X "max") (hm : X.mg "max" = none) (c : Chn) (ha : PA X (e :: es) t) (ht : t = seqTE (c.tes G W) := by rfl) (hio : c.iofs.any id = false := by rfl) (he : starEach (e :: es) X.env = (false, eval e X.env) :: starEach es X.env := by rfl) (hpl : (backTo pos (starEach es X.env)).any (·.1) = false := by rfl) :
    PE X (.Call (.Name "max" p) (e :: es) [] pos) (TV G W (eOp c gMax2)) :=
  e_callB (call_max2 dx.calm) hg hm bt_max rop_max2 c ha ht hio (by decide) (by decide) he hpl
theorem p_min2 (dx : DX X G) (hg : Gl X "min") (hm : X.mg "min" = none) (ha : PA X (e :: es) t) (ht : t = seqTE (hs.map (SArg.te G)) := by rfl) (he : starEach (e :: es) X.env = (false, eval e X.env) :: starEach es X.env := by rfl) (hpl : (backTo pos (starEach es X.env)).any (·.1) = false := by rfl) :
    PE X (.Call (.Name "min" p) (e :: es) [] pos) (TPur G (hOp hs gMin2)) :=
  p_callB (call_min2 dx.calm) hg hm bt_min rop_min2 pure_min2 ha ht (by decide) (by decide) he hpl
theorem e_min2 (dx : DX X G) (hg : Gl X "min") (hm : X.mg "min" = none) (c : Chn) (ha : PA X (e :: es) t) (ht : t = seqTE (c.tes G W) := by rfl) (hio : c.iofs.any id = false := by rfl) (he : starEach (e :: es) X.env = (false, eval e X.env) :: starEach es X.env := by rfl) (hpl : (backTo pos (starEach es X.env)).any (·.1) = false := by rfl) :
    PE X (.Call (.Name "min" p) (e :: es) [] pos) (TV G W (eOp c gMin2)) :=
  e_callB (call_min2 dx.calm) hg hm bt_min rop_min2 c ha ht hio (by decide) (by decide) he hpl
theorem p_all (dx : DX X G) (hg : Gl X "all") (hm : X.mg "all" = none) (ha : PA X (e :: es) t) (ht : t = seqTE (hs.map (SArg.te G)) := by rfl) (he : starEach (e :: es) X.env = (false, eval e X.env) :: starEach es X.env := by rfl) (hpl : (backTo pos (starEach es X.env)).any (·.1) = false := by rfl) :
    PE X (.Call (.Name "all" p) (e :: es) [] pos) (TPur G (hOp hs gAll)) :=
  p_callB (cr_all dx.calm) hg hm bt_all (by rw [dx.K]; exact rop_all) pure_all ha ht (by decide) (by decide) he hpl
theorem e_all (dx : DX X G) (hg : Gl X "all") (hm : X.mg "all" = none) (c : Chn) (ha : PA X (e :: es) t) (ht : t = seqTE (c.tes G W) := by rfl) (hio : c.iofs.any id = false := by rfl) (he : starEach (e :: es) X.env = (false, eval e X.env) :: starEach es X.env := by rfl) (hpl : (backTo pos (starEach es X.env)).any (·.1) = false := by rfl) :
    PE X (.Call (.Name "all" p) (e :: es) [] pos) (TV G W (eOp c gAll)) :=
  e_callB (cr_all dx.calm) hg hm bt_all (by rw [dx.K]; exact rop_all) c ha ht hio (by decide) (by decide) he hpl
theorem p_any (dx : DX X G) (hg : Gl X "any") (hm : X.mg "any" = none) (ha : PA X (e :: es) t) (ht : t = seqTE (hs.map (SArg.te G)) := by rfl) (he : starEach (e :: es) X.env = (false, eval e X.env) :: starEach es X.env := by rfl) (hpl : (backTo pos (starEach es X.env)).any (·.1) = false := by rfl) :
    PE X (.Call (.Name "any" p) (e :: es) [] pos) (TPur G (hOp hs gAny)) :=
  p_callB (cr_any dx.calm) hg hm bt_any (by rw [dx.K]; exact rop_any) pure_any ha ht (by decide) (by decide) he hpl
theorem e_any (dx : DX X G) (hg : Gl X "any") (hm : X.mg "any" = none) (c : Chn) (ha : PA X (e :: es) t) (ht : t = seqTE (c.tes G W) := by rfl) (hio : c.iofs.any id = false := by rfl) (he : starEach (e :: es) X.env = (false, eval e X.env) :: starEach es X.env := by rfl) (hpl : (backTo pos (starEach es X.env)).any (·.1) = false := by rfl) :
    PE X (.Call (.Name "any" p) (e :: es) [] pos) (TV G W (eOp c gAny)) :=
  e_callB (cr_any dx.calm) hg hm bt_any (by rw [dx.K]; exact rop_any) c ha ht hio (by decide) (by decide) he hpl
theorem p_abs (dx : DX X G) (hg : Gl X "abs") (hm : X.mg "abs" = none) (ha : PA X (e :: es) t) (ht : t = seqTE (hs.map (SArg.te G)) := by rfl) (he : starEach (e :: es) X.env = (false, eval e X.env) :: starEach es X.env := by rfl) (hpl : (backTo pos (starEach es X.env)).any (·.1) = false := by rfl) :
    PE X (.Call (.Name "abs" p) (e :: es) [] pos) (TPur G (hOp hs gAbs)) :=
  p_callB call_abs hg hm bt_abs rop_abs pure_abs ha ht (by decide) (by decide) he hpl
theorem e_abs (dx : DX X G) (hg : Gl X "abs") (hm : X.mg "abs" = none) (c : Chn) (ha : PA X (e :: es) t) (ht : t = seqTE (c.tes G W) := by rfl) (hio : c.iofs.any id = false := by rfl) (he : starEach (e :: es) X.env = (false, eval e X.env) :: starEach es X.env := by rfl) (hpl : (backTo pos (starEach es X.env)).any (·.1) = false := by rfl) :
    PE X (.Call (.Name "abs" p) (e :: es) [] pos) (TV G W (eOp c gAbs)) :=
  e_callB call_abs hg hm bt_abs rop_abs c ha ht hio (by decide) (by decide) he hpl
theorem p_int1 (dx : DX X G) (hg : Gl X "int") (hm : X.mg "int" = none) (ha : PA X (e :: es) t) (ht : t = seqTE (hs.map (SArg.te G)) := by rfl) (he : starEach (e :: es) X.env = (false, eval e X.env) :: starEach es X.env := by rfl) (hpl : (backTo pos (starEach es X.env)).any (·.1) = false := by rfl) :
    PE X (.Call (.Name "int" p) (e :: es) [] pos) (TPur G (hOp hs gInt)) :=
  p_callT call_int1 hg hm bt_int rop_int1 pure_int1 ha ht (by decide) (by decide) he hpl
theorem e_int1 (dx : DX X G) (hg : Gl X "int") (hm : X.mg "int" = none) (c : Chn) (ha : PA X (e :: es) t) (ht : t = seqTE (c.tes G W) := by rfl) (hio : c.iofs.any id = false := by rfl) (he : starEach (e :: es) X.env = (false, eval e X.env) :: starEach es X.env := by rfl) (hpl : (backTo pos (starEach es X.env)).any (·.1) = false := by rfl) :
    PE X (.Call (.Name "int" p) (e :: es) [] pos) (TV G W (eOp c gInt)) :=
  e_callT call_int1 hg hm bt_int rop_int1 c ha ht hio (by decide) (by decide) he hpl
theorem p_str1 (dx : DX X G) (hg : Gl X "str") (hm : X.mg "str" = none) (ha : PA X (e :: es) t) (ht : t = seqTE (hs.map (SArg.te G)) := by rfl) (he : starEach (e :: es) X.env = (false, eval e X.env) :: starEach es X.env := by rfl) (hpl : (backTo pos (starEach es X.env)).any (·.1) = false := by rfl) :
    PE X (.Call (.Name "str" p) (e :: es) [] pos) (TPur G (hOp hs gStr)) :=
  p_callT call_str_int hg hm bt_str rop_str1 pure_str1 ha ht (by decide) (by decide) he hpl
theorem e_str1 (dx : DX X G) (hg : Gl X "str") (hm : X.mg "str" = none) (c : Chn) (ha : PA X (e :: es) t) (ht : t = seqTE (c.tes G W) := by rfl) (hio : c.iofs.any id = false := by rfl) (he : starEach (e :: es) X.env = (false, eval e X.env) :: starEach es X.env := by rfl) (hpl : (backTo pos (starEach es X.env)).any (·.1) = false := by rfl) :
    PE X (.Call (.Name "str" p) (e :: es) [] pos) (TV G W (eOp c gStr)) :=
  e_callT call_str_int hg hm bt_str rop_str1 c ha ht hio (by decide) (by decide) he hpl
theorem e_listOf (dx : DX X G) (hg : Gl X "list") (hm : X.mg "list" = none) (c : Chn) (ha : PA X (e :: es) t) (ht : t = seqTE (c.tes G W) := by rfl) (hio : c.iofs.any id = false := by rfl) (he : starEach (e :: es) X.env = (false, eval e X.env) :: starEach es X.env := by rfl) (hpl : (backTo pos (starEach es X.env)).any (·.1) = false := by rfl) :
    PE X (.Call (.Name "list" p) (e :: es) [] pos) (TV G W (eOp c gListOf)) :=
  e_callT call_list_of hg hm bt_list (by rw [dx.K]; exact rop_listOf) c ha ht hio (by decide) (by decide) he hpl
theorem p_tupOf (dx : DX X G) (hg : Gl X "tuple") (hm : X.mg "tuple" = none) (ha : PA X (e :: es) t) (ht : t = seqTE (hs.map (SArg.te G)) := by rfl) (he : starEach (e :: es) X.env = (false, eval e X.env) :: starEach es X.env := by rfl) (hpl : (backTo pos (starEach es X.env)).any (·.1) = false := by rfl) :
    PE X (.Call (.Name "tuple" p) (e :: es) [] pos) (TPur G (hOp hs gTupOf)) :=
  p_callT call_tuple_of hg hm bt_tuple (by rw [dx.K]; exact rop_tupOf) pure_tupOf ha ht (by decide) (by decide) he hpl
theorem e_tupOf (dx : DX X G) (hg : Gl X "tuple") (hm : X.mg "tuple" = none) (c : Chn) (ha : PA X (e :: es) t) (ht : t = seqTE (c.tes G W) := by rfl) (hio : c.iofs.any id = false := by rfl) (he : starEach (e :: es) X.env = (false, eval e X.env) :: starEach es X.env := by rfl) (hpl : (backTo pos (starEach es X.env)).any (·.1) = false := by rfl) :
    PE X (.Call (.Name "tuple" p) (e :: es) [] pos) (TV G W (eOp c gTupOf)) :=
  e_callT call_tuple_of hg hm bt_tuple (by rw [dx.K]; exact rop_tupOf) c ha ht hio (by decide) (by decide) he hpl
end
end DL

namespace DL
open PySem PySem.Spec PyProof.Rows L2
/-! ### forms by what stands on both sides -/
section
variable {G : Gc} {W : Wsh} {X : Cx} {a b e : Expr} {pos : Pos} {h k : DEnv → Option D} {g : List D → Option D} {r : R2} {op : Operator} {i j : Nat} {u v : DEnv → Option D} {cop : CmpOp}
theorem p_binPP (ho : OpR X (binaryOp op) r) (hr : ROp G (l2 r) g) (hp : PureG g) (ha : PE X a (TPur G h)) (hb : PE X b (TPur G k)) : PE X (.BinOp a op b pos) (TPur G (hOp [.pur h, .pur k] g)) := p_bin (s1 := .pur h) (s2 := .pur k) ho hr hp ha hb
theorem p_unP {op : UnaryOp} {r : V → Hp → VK → Prop} (ho : UnR X (unaryOp op) r) (hr : ROp G (l1 r) g) (hp : PureG g) (ha : PE X a (TPur G h)) : PE X (.UnaryOp op a pos) (TPur G (hOp [.pur h] g)) := p_un (s1 := .pur h) ho hr hp ha
theorem p_cmpPP (ho : OpR X (compareOp cop) r) (hr : ROp G (l2 r) g) (hp : PureG g) (ha : PE X a (TPur G h)) (hb : PE X b (TPur G k)) (hm : behindInMarks cop b = false := by first | exact nomark _ | rfl) : PE X (.Compare a [cop] [b] pos) (TPur G (hOp [.pur h, .pur k] g)) := p_cmp (s1 := .pur h) (s2 := .pur k) ho hr hp ha hb hm
theorem p_cmpPL (ho : OpR X (compareOp cop) r) (hr : ROp G (l2 r) g) (hp : PureG g) (ha : PE X a (TPur G h)) (hb : PE X b (TPlc G j v)) (hm : behindInMarks cop b = false := by first | exact nomark _ | rfl) : PE X (.Compare a [cop] [b] pos) (TPur G (hOp [.pur h, .plc j v] g)) := p_cmp (s1 := .pur h) (s2 := .plc j v) ho hr hp ha hb hm
theorem p_cmpLP (ho : OpR X (compareOp cop) r) (hr : ROp G (l2 r) g) (hp : PureG g) (ha : PE X a (TPlc G i u)) (hb : PE X b (TPur G k)) (hm : behindInMarks cop b = false := by first | exact nomark _ | rfl) : PE X (.Compare a [cop] [b] pos) (TPur G (hOp [.plc i u, .pur k] g)) := p_cmp (s1 := .plc i u) (s2 := .pur k) ho hr hp ha hb hm
theorem p_cmpLL (ho : OpR X (compareOp cop) r) (hr : ROp G (l2 r) g) (hp : PureG g) (ha : PE X a (TPlc G i u)) (hb : PE X b (TPlc G j v)) (hm : behindInMarks cop b = false := by first | exact nomark _ | rfl) : PE X (.Compare a [cop] [b] pos) (TPur G (hOp [.plc i u, .plc j v] g)) := p_cmp (s1 := .plc i u) (s2 := .plc j v) ho hr hp ha hb hm
theorem t_cmpPP (ho : OpR X (compareOp cop) r) (hr : ROp G (l2 r) g) (hp : PureG g) (ha : PE X a (TPur G h)) (hb : PE X b (TPur G k)) (hm : behindInMarks cop b = false := by first | exact nomark _ | rfl) : PT X (.Compare a [cop] [b] pos) (TBp G (hB (hOp [.pur h, .pur k] g))) := t_cmp (s1 := .pur h) (s2 := .pur k) ho hr hp ha hb hm
theorem t_cmpPL (ho : OpR X (compareOp cop) r) (hr : ROp G (l2 r) g) (hp : PureG g) (ha : PE X a (TPur G h)) (hb : PE X b (TPlc G j v)) (hm : behindInMarks cop b = false := by first | exact nomark _ | rfl) : PT X (.Compare a [cop] [b] pos) (TBp G (hB (hOp [.pur h, .plc j v] g))) := t_cmp (s1 := .pur h) (s2 := .plc j v) ho hr hp ha hb hm
theorem t_cmpLP (ho : OpR X (compareOp cop) r) (hr : ROp G (l2 r) g) (hp : PureG g) (ha : PE X a (TPlc G i u)) (hb : PE X b (TPur G k)) (hm : behindInMarks cop b = false := by first | exact nomark _ | rfl) : PT X (.Compare a [cop] [b] pos) (TBp G (hB (hOp [.plc i u, .pur k] g))) := t_cmp (s1 := .plc i u) (s2 := .pur k) ho hr hp ha hb hm
theorem t_cmpLL (ho : OpR X (compareOp cop) r) (hr : ROp G (l2 r) g) (hp : PureG g) (ha : PE X a (TPlc G i u)) (hb : PE X b (TPlc G j v)) (hm : behindInMarks cop b = false := by first | exact nomark _ | rfl) : PT X (.Compare a [cop] [b] pos) (TBp G (hB (hOp [.plc i u, .plc j v] g))) := t_cmp (s1 := .plc i u) (s2 := .plc j v) ho hr hp ha hb hm
theorem p_ixPP (dx : DX X G) (ha : PE X a (TPur G h)) (hb : PE X b (TPur G k)) (hs : PlainIx b := by exact fun _ _ => rfl) : PE X (.Subscript a b pos) (TPur G (hOp [.pur h, .pur k] gIx)) := p_ixo (s1 := .pur h) (s2 := .pur k) dx ha hb hs
theorem hu_eq (dx : DX X G) : X.A.units + 65 < cLine := by have := dx.un; omega
theorem hu_eq1 (dx : DX X G) : X.A.units + 64 < cLine := by have := dx.un; omega
end
/-- the law's own promise -/
theorem cut_nil {H : Hp} : cut H [] = H := by
  funext a
  unfold cut
  rw [if_neg (by simp)]
theorem law_sp {K : PySem.W.Frag} {cl : Str → Option Addr} {F : Fn} {H : Hp} {a : Addr} {ns : List Int} (hS : SqL K H a (ns.map V.int)) (hF : F [.scr ns] = .ok (.bl true, [])) : spD ⟨K, cl⟩ [.b] F [.ref a] H (fun v _ => v = .bl true) fun _ _ _ => False := by
  refine ⟨[(false, .scr ns)], [], fun _ => none, rfl, ⟨.ref a, [], [], [], rfl, rfl, ⟨⟨rfl, a, rfl, by rw [cut_nil]; exact hS⟩, rfl⟩, rfl, rfl⟩, List.nodup_nil, (fun b u e => by cases e), (fun b m => by cases m), fun _ => rfl, ?_⟩
  show match F [.scr ns] with
    | .ok (r, outs) => _
    | .exc c => _
    | .bad => False
  rw [hF]
  intro v H' Z' A _ _ _ _ ho _ _ _
  obtain ⟨v', r, F1, F2, e1, e2, h1, h2⟩ := ho
  cases e1
  exact h1.1
end DL

/-! methods that only tell; tuples of the plain kind; sorted -/
namespace DL
open PySem PySem.Spec PyProof.Rows L2
/-- the built-in type whose methods the data have -/
def tyD (T : String) (d : D) : Bool := match d with
  | .str _ => T == "str"
  | .tupF true _ => T == "tuple"
  | .lst _ => T == "list"
  | .scr _ => T == "list"
  | .dk _ _ => T == "dict"
  | .dt _ _ => T == "dict"
  | _ => false
section
variable {G : Gc} {W : Wsh} {X : Cx}
theorem tyD_ok {H : Hp} {d : D} {v : V} {T : String} (h : Own G H H d v []) (t : tyD T d = true) : tyW G.K T v H := by
  cases d with
  | str s => rw [h.1]; exact .inl (beq_iff_eq.mp t)
  | tupF f xs =>
    cases f with
    | false => cases t
    | true =>
      obtain ⟨a, vs, rfl, ⟨o, hd, e⟩, _⟩ := h
      exact .inr ⟨beq_iff_eq.mp t, a, vs, rfl, o, hd, e⟩
  | lst xs =>
    obtain ⟨a, vs, rfl, hs, _⟩ := h.lstR
    exact .inl (.inl ⟨beq_iff_eq.mp t, vs, hs⟩)
  | scr ns =>
    obtain ⟨_, a, rfl, hs⟩ := h
    exact .inl (.inl ⟨beq_iff_eq.mp t, _, hs⟩)
  | dk ks vs =>
    obtain ⟨a, ws, F', rfl, _, n, _⟩ := h
    rcases n with ⟨e, _⟩ | ⟨z, _⟩
    · exact .inl (.inr (.inr (.inl ⟨beq_iff_eq.mp t, .inl ⟨_, e⟩⟩)))
    · cases z
  | dt ks vs =>
    obtain ⟨a, ws, F', rfl, _, n, _⟩ := h
    rcases n with ⟨e, _⟩ | ⟨z, _⟩
    · exact .inl (.inr (.inr (.inl ⟨beq_iff_eq.mp t, .inr ⟨_, e⟩⟩)))
    · cases z
  | _ => cases t
theorem put_ty {h : DEnv → Option D} {T : String} {σ : L2.St} {H : Hp} {Q : VK} (q : (SArg.put h (tyD T)).te G σ H Q) : TPur G h σ H fun v H1 => tyW G.K T v H1 ∧ Q v H1 := by
  obtain ⟨B, Z, Fs, env, g, d, hd, ht, q⟩ := q
  exact ⟨B, Z, Fs, env, g, d, hd, fun v H' hs hp ho => ⟨tyD_ok (ho H') ht, q v H' hs hp ho⟩⟩
theorem plt_ty {i : Nat} {h : DEnv → Option D} {T : String} {σ : L2.St} {H : Hp} {Q : VK} (q : (SArg.plt i h (tyD T)).te G σ H Q) : TPlc G i h σ H fun v H1 => tyW G.K T v H1 ∧ Q v H1 := by
  obtain ⟨B, Z, Fs, env, g, d, hd, ht, q⟩ := q
  exact ⟨B, Z, Fs, env, g, d, hd, fun v H' hs ho => ⟨tyD_ok (Own.rep (joi_le (lay_le (g.sb.trans hs)) (g.sz.trans hs)) _ _ _ ho) ht, q v H' hs ho⟩⟩
variable {o e : Expr} {es : List Expr} {t : TA} {name : Str} {apos cpos : Pos} {T id' : String} {r : V → List V → Hp → VK → Prop} {h : DEnv → Option D} {i : Nat} {hs : List SArg} {g : List D → Option D}
theorem p_mtP (dx : DX X G) (pa : PlainAttrs T) (slot : PySem.Slot T name id') (hty : typeOf (.builtin id') = pure (.type "method_descriptor")) (hm : MtR X id' r) (hr : ROp G (rvM r) g) (hp : PureG g) (ho : PE X o (TPur G h)) (ha : PA X (e :: es) t)
    (ht : t = seqTE (hs.map (SArg.te G)) := by rfl) (hbase : attributeBase o name X.env (eval o X.env) = eval o X.env := by rfl)
    (hfew : ((backTo cpos (starEach (e :: es) X.env)).all (fun x => !x.1) && (backToKw cpos (keywordEach [] X.env)).all (fun x => x.1.isSome)
      && decide ((e :: es).length + ([] : List Keyword).length + (if ([] : List Keyword).isEmpty then 0 else 1) < 30)) = true := by rfl)
    (hline : (apos.endLine == cpos.line) = true := by rfl) (hst : starEach (e :: es) X.env = (false, eval e X.env) :: starEach es X.env := by rfl) (hplain : (backTo cpos (starEach es X.env)).any (·.1) = false := by rfl) :
    PE X (.Call (.Attribute o name apos) (e :: es) [] cpos) (TPur G (hOp (.put h (tyD T) :: hs) g)) :=
  (pe_bw pa slot hty hm ho ha hbase hfew hline hst hplain).imp fun σ H Q q => by
    have q := put_ty (tpur_op (hs := .put h (tyD T) :: hs) hr hp σ H Q q)
    rw [← dx.K] at q
    rw [ht]
    exact q
theorem p_mtL (dx : DX X G) (pa : PlainAttrs T) (slot : PySem.Slot T name id') (hty : typeOf (.builtin id') = pure (.type "method_descriptor")) (hm : MtR X id' r) (hr : ROp G (rvM r) g) (hp : PureG g) (ho : PE X o (TPlc G i h)) (ha : PA X (e :: es) t)
    (ht : t = seqTE (hs.map (SArg.te G)) := by rfl) (hbase : attributeBase o name X.env (eval o X.env) = eval o X.env := by rfl)
    (hfew : ((backTo cpos (starEach (e :: es) X.env)).all (fun x => !x.1) && (backToKw cpos (keywordEach [] X.env)).all (fun x => x.1.isSome)
      && decide ((e :: es).length + ([] : List Keyword).length + (if ([] : List Keyword).isEmpty then 0 else 1) < 30)) = true := by rfl)
    (hline : (apos.endLine == cpos.line) = true := by rfl) (hst : starEach (e :: es) X.env = (false, eval e X.env) :: starEach es X.env := by rfl) (hplain : (backTo cpos (starEach es X.env)).any (·.1) = false := by rfl) :
    PE X (.Call (.Attribute o name apos) (e :: es) [] cpos) (TPur G (hOp (.plt i h (tyD T) :: hs) g)) :=
  (pe_bw pa slot hty hm ho ha hbase hfew hline hst hplain).imp fun σ H Q q => by
    have q := plt_ty (tpur_op (hs := .plt i h (tyD T) :: hs) hr hp σ H Q q)
    rw [← dx.K] at q
    rw [ht]
    exact q

/-! ### index -/
def D.strs : List D → Option (List Str)
  | [] => some []
  | .str s :: r => (D.strs r).map (s :: ·)
  | _ => none
theorem map_some2 {α β : Type} {x : Option α} {f : α → β} {b : β} (h : x.map f = some b) : ∃ a, x = some a ∧ f a = b := by
  cases x with
  | none => cases h
  | some a => exact ⟨a, rfl, Option.some.inj h⟩
theorem strs_own {Z H : Hp} : ∀ {ds : List D} {vs : List V} {zs : List Str} {F : List Addr}, D.strs ds = some zs → OwnL G Z H ds vs F → vs = zs.map V.str
  | [], _, _, _, e, h => by
    cases e
    rw [h.1]; rfl
  | d :: ds, vs, zs, F, e, h => by
    obtain ⟨v, r, F1, F2, rfl, _, h1, h2⟩ := h
    cases d with
    | str s =>
      obtain ⟨zs', e', rfl⟩ := map_some2 (show (D.strs ds).map (s :: ·) = some zs from e)
      rw [strs_own e' h2, h1.1]
      rfl
    | _ => cases e
theorem bind_some2 {α β : Type} {x : Option α} {f : α → Option β} {b : β} (h : x.bind f = some b) : ∃ a, x = some a ∧ f a = some b := by
  cases x with
  | none => cases h
  | some a => exact ⟨a, rfl, h⟩
def fTIx (a b : D) : Option D := match a, b with
  | .tupF true xs, .str z => (D.strs xs).bind fun ys => (ys.findIdx? (· == z)).map fun (j : Nat) => D.int (j : Int)
  | _, _ => none
abbrev gTIx := bin fTIx
def fSIx (a b : D) : Option D := match a, b with
  | .str x, .str y => match Builtin.Str.occurrences x y 0 x.length 1 with
    | i :: _ => some (.int (i : Nat))
    | [] => none
  | _, _ => none
abbrev gSIx := bin fSIx
def fLIx (a b : D) : Option D := match a with
  | .lst xs => (D.pyL xs).bind fun ps => b.py.bind fun p => if SeqAt.shaped (.list ps) = true ∧ SeqAt.shaped p = true then (ps.findIdx? fun z => PyData.eqv z p).map fun (j : Nat) => D.int (j : Int) else none
  | _ => none
abbrev gLIx := bin fLIx
theorem rop_tIx {Y : Cx} (hY : Y.K = G.K) : ROp G (rvM (fun x xs H Q => ∃ p, ∃ ys : List Str, ∃ z j, x = .ref p ∧ xs = [.str z] ∧ SqT Y.K H p (ys.map V.str) ∧ ys[j]? = some z ∧ (∀ m, m < j → ys[m]? ≠ some z) ∧ Q (.int (j : Nat)) H)) gTIx := by
  intro ds vs H Q d h e q
  obtain ⟨a, b, rfl, e⟩ := bin_some e
  obtain ⟨x, y, rfl, h1, h2⟩ := own2 h
  replace e : fTIx a b = some d := e
  unfold fTIx at e
  split at e
  · rename_i xs z _
    obtain ⟨ys, hy, e⟩ := bind_some2 e
    obtain ⟨j, hj, rfl⟩ := map_some2 e
    obtain ⟨hl, hz, hno⟩ := List.findIdx?_eq_some_iff_getElem.mp hj
    obtain ⟨p, ws, rfl, hs, o⟩ := h1
    have := strs_own hy o
    subst this
    refine ⟨p, ys, z, j, rfl, by rw [h2.1], by rw [hY]; exact hs.seq, by rw [List.getElem?_eq_getElem hl]; exact congrArg some (beq_iff_eq.mp hz), fun m hm e => ?_, done0 q fun Z => ⟨rfl, rfl⟩⟩
    obtain ⟨h3, h4⟩ := List.getElem?_eq_some_iff.mp e
    exact hno m hm (beq_iff_eq.mpr h4)
  · cases e
theorem pure_tIx : PureG gTIx := by
  intro ds d e
  obtain ⟨a, b, rfl, e⟩ := bin_some e
  replace e : fTIx a b = some d := e
  unfold fTIx at e
  split at e
  · obtain ⟨ys, hy, e⟩ := bind_some2 e
    obtain ⟨j, hj, rfl⟩ := map_some2 e
    rfl
  · cases e
theorem rop_sIx : ROp G (rvM (fun x xs H Q => ∃ a b i rest, x = .str a ∧ xs = [.str b] ∧ Builtin.Str.occurrences a b 0 a.length 1 = i :: rest ∧ Q (.int (i : Nat)) H)) gSIx := by
  intro ds vs H Q d h e q
  obtain ⟨a, b, rfl, e⟩ := bin_some e
  obtain ⟨x, y, rfl, h1, h2⟩ := own2 h
  replace e : fSIx a b = some d := e
  unfold fSIx at e
  split at e
  · rename_i u z _
    split at e
    · rename_i i l hi
      cases e
      exact ⟨u, z, i, l, by rw [h1.1], by rw [h2.1], hi, done0 q fun Z => ⟨rfl, rfl⟩⟩
    · cases e
  · cases e
theorem pure_sIx : PureG gSIx := by
  intro ds d e
  obtain ⟨a, b, rfl, e⟩ := bin_some e
  replace e : fSIx a b = some d := e
  unfold fSIx at e
  split at e
  · split at e
    · cases e; rfl
    · cases e
  · cases e
theorem rop_lIx {Y : Cx} (hY : Y.K = G.K) : ROp G (rvM (rIndexD Y.K)) gLIx := by
  intro ds vs H Q d h e q
  obtain ⟨a, b, rfl, e⟩ := bin_some e
  obtain ⟨x, y, rfl, h1, h2⟩ := own2 h
  replace e : fLIx a b = some d := e
  unfold fLIx at e
  split at e
  · rename_i xs _
    obtain ⟨ps, hps, e⟩ := bind_some2 e
    obtain ⟨p, hp, e⟩ := bind_some2 e
    split at e
    · rename_i hsh
      obtain ⟨j, hj, rfl⟩ := map_some2 e
      obtain ⟨hl, hz, hno⟩ := List.findIdx?_eq_some_iff_getElem.mp hj
      have hd : Dp G.K H x (.list ps) := Own.dp (.lst xs) x (.list ps) h1 (by show (D.pyL xs).map PyData.list = _; rw [hps]; rfl)
      obtain ⟨l, ws, rfl, hs, o⟩ := h1.lstR
      rw [← hY] at hd
      refine ⟨l, y, p, ps, j, ps[j], rfl, rfl, hd, by rw [hY]; exact Own.dp b y p h2 hp, hsh.1, hsh.2, List.getElem?_eq_getElem hl, hz, fun m z' hm e => ?_, done0 q fun Z => ⟨rfl, rfl⟩⟩
      obtain ⟨h3, h4⟩ := List.getElem?_eq_some_iff.mp e
      have h5 := hno m hm
      rw [h4] at h5
      exact Bool.eq_false_iff.mpr h5
    · cases e
  · cases e
theorem pure_lIx : PureG gLIx := by
  intro ds d e
  obtain ⟨a, b, rfl, e⟩ := bin_some e
  replace e : fLIx a b = some d := e
  unfold fLIx at e
  split at e
  · obtain ⟨ps, hps, e⟩ := bind_some2 e
    obtain ⟨p, hp, e⟩ := bind_some2 e
    split at e
    · obtain ⟨j, hj, rfl⟩ := map_some2 e
      rfl
    · cases e
  · cases e
theorem p_tIx (dx : DX X G) (ho : PE X o (TPur G h)) (ha : PA X (e :: es) t)
    (ht : t = seqTE (hs.map (SArg.te G)) := by rfl) (hbase : attributeBase o "index" X.env (eval o X.env) = eval o X.env := by rfl)
    (hfew : ((backTo cpos (starEach (e :: es) X.env)).all (fun x => !x.1) && (backToKw cpos (keywordEach [] X.env)).all (fun x => x.1.isSome)
      && decide ((e :: es).length + ([] : List Keyword).length + (if ([] : List Keyword).isEmpty then 0 else 1) < 30)) = true := by rfl)
    (hline : (apos.endLine == cpos.line) = true := by rfl) (hst : starEach (e :: es) X.env = (false, eval e X.env) :: starEach es X.env := by rfl) (hplain : (backTo cpos (starEach es X.env)).any (·.1) = false := by rfl) :
    PE X (.Call (.Attribute o "index" apos) (e :: es) [] cpos) (TPur G (hOp (.put h (tyD "tuple") :: hs) gTIx)) :=
  p_mtP dx F.plainAttrs_tuple F.slot_tuple_index F.type_tuple_index mt_tup_index (rop_tIx dx.K) pure_tIx ho ha ht hbase hfew hline hst hplain
theorem p_sIx (dx : DX X G) (ho : PE X o (TPur G h)) (ha : PA X (e :: es) t)
    (ht : t = seqTE (hs.map (SArg.te G)) := by rfl) (hbase : attributeBase o "index" X.env (eval o X.env) = eval o X.env := by rfl)
    (hfew : ((backTo cpos (starEach (e :: es) X.env)).all (fun x => !x.1) && (backToKw cpos (keywordEach [] X.env)).all (fun x => x.1.isSome)
      && decide ((e :: es).length + ([] : List Keyword).length + (if ([] : List Keyword).isEmpty then 0 else 1) < 30)) = true := by rfl)
    (hline : (apos.endLine == cpos.line) = true := by rfl) (hst : starEach (e :: es) X.env = (false, eval e X.env) :: starEach es X.env := by rfl) (hplain : (backTo cpos (starEach es X.env)).any (·.1) = false := by rfl) :
    PE X (.Call (.Attribute o "index" apos) (e :: es) [] cpos) (TPur G (hOp (.put h (tyD "str") :: hs) gSIx)) :=
  p_mtP dx F.plainAttrs_str F.slot_str_index F.type_str_index mt_sindex rop_sIx pure_sIx ho ha ht hbase hfew hline hst hplain
theorem p_lIx (dx : DX X G) (ho : PE X o (TPlc G i h)) (ha : PA X (e :: es) t)
    (ht : t = seqTE (hs.map (SArg.te G)) := by rfl) (hbase : attributeBase o "index" X.env (eval o X.env) = eval o X.env := by rfl)
    (hfew : ((backTo cpos (starEach (e :: es) X.env)).all (fun x => !x.1) && (backToKw cpos (keywordEach [] X.env)).all (fun x => x.1.isSome)
      && decide ((e :: es).length + ([] : List Keyword).length + (if ([] : List Keyword).isEmpty then 0 else 1) < 30)) = true := by rfl)
    (hline : (apos.endLine == cpos.line) = true := by rfl) (hst : starEach (e :: es) X.env = (false, eval e X.env) :: starEach es X.env := by rfl) (hplain : (backTo cpos (starEach es X.env)).any (·.1) = false := by rfl) :
    PE X (.Call (.Attribute o "index" apos) (e :: es) [] cpos) (TPur G (hOp (.plt i h (tyD "list") :: hs) gLIx)) :=
  p_mtL dx F.plainAttrs_list F.slot_list_index F.type_list_index (mt_indexD (by have := dx.un; omega)) (rop_lIx dx.K) pure_lIx ho ha ht hbase hfew hline hst hplain

/-! ### tuple(list), known to be plain -/
def fTupX (d : D) : Option D := match d with
  | .lst xs => iff? (D.pureL xs = true) (.tupF true xs)
  | _ => none
abbrev gTupX := una fTupX
theorem fTupX_some {a d : D} (e : fTupX a = some d) : ∃ xs, D.pureL xs = true ∧ a = .lst xs ∧ d = .tupF true xs := by
  cases a with
  | lst xs => obtain ⟨h, rfl⟩ := iff?_some e; exact ⟨xs, h, rfl, rfl⟩
  | _ => cases e
theorem rop_tupX : ROp G (rTupX G.K) gTupX := by
  intro ds vs H Q d h e q
  obtain ⟨a, rfl, e⟩ := una_some e
  obtain ⟨x, rfl, h1⟩ := own1 h
  obtain ⟨xs, hp, rfl, rfl⟩ := fTupX_some e
  obtain ⟨p, ys, rfl, hs, o⟩ := h1.lstR
  refine ⟨p, ys, rfl, hs, fun l ob hn hd => q _ _ [] (same_upd hn) (fun Z => ?_) List.nodup_nil fun b m => by cases m⟩
  exact ⟨l, ys, rfl, ⟨ob, hd, upd_same⟩, OwnL.keep (Same.refl Z) xs ys [] (fun b u e _ => same_upd hn b u e) (OwnL.pure_any hp o)⟩
theorem pure_tupX : PureG gTupX := by
  intro ds d e
  obtain ⟨a, rfl, e⟩ := una_some e
  obtain ⟨xs, hp, rfl, rfl⟩ := fTupX_some e
  exact hp

/-! ### sorted -/
def encD (d : D) : PyData := (d.py).getD .none
def isTup1 : PyData → Bool
  | .tuple (_ :: _) => true
  | _ => false
def isOther : PyData → Bool
  | .none => false
  | .tuple _ => false
  | _ => true
def sortB (ps : List PyData) : Bool := (ps.all fun d => ps.all fun e => PySem.W.alike d e) && (ps.all isTup1 || ps.all isOther) && ps.all fun d => decide (d.depth ≤ 60)
def sortL (xs : List D) : List D := xs.mergeSort (PySem.W.dataLe false encD)
def fSorted (d : D) : Option D := match d with
  | .lst xs => iff? (D.pureL xs = true ∧ (xs.all fun x => x.py.isSome) = true ∧ sortB (xs.map encD) = true) (.lst (sortL xs))
  | _ => none
abbrev gSorted := una fSorted
theorem OwnL.each {Y H : Hp} : ∀ {ds : List D} {vs : List V}, OwnL G Y H ds vs [] → ∀ p ∈ vs.zip ds, Own G Y H p.2 p.1 []
  | [], vs, h => by rw [h.1]; intro p m; cases m
  | d :: ds, vs, h => by
    obtain ⟨v, r, rfl, h1, h2⟩ := OwnL.uncons h
    intro p m
    rcases List.mem_cons.mp m with rfl | m
    · exact h1
    · exact OwnL.each h2 p m
theorem OwnL.of_each {Y H : Hp} : ∀ {ps : List (V × D)}, (∀ p ∈ ps, Own G Y H p.2 p.1 []) → OwnL G Y H (ps.map (·.2)) (ps.map (·.1)) []
  | [], _ => ⟨rfl, rfl⟩
  | p :: ps, h => OwnL.cons_nil (h p List.mem_cons_self) (OwnL.of_each fun q m => h q (List.mem_cons_of_mem _ m))
theorem sortB_ok {ps : List PyData} (h : sortB ps = true) : PySem.W.AllAlike ps ∧ PySem.W.Sortable ps ∧ ∀ d ∈ ps, d.depth ≤ 60 := by
  unfold sortB at h
  simp only [Bool.and_eq_true, Bool.or_eq_true, List.all_eq_true, decide_eq_true_eq] at h
  obtain ⟨⟨h1, h2⟩, h3⟩ := h
  refine ⟨fun d hd e he => h1 d hd e he, ?_, h3⟩
  rcases h2 with h2 | h2
  · refine .inl fun d hd => ?_
    have := h2 d hd
    match d, this with
    | .tuple (x :: r), _ => exact ⟨x, r, rfl⟩
  · refine .inr fun d hd => ?_
    have := h2 d hd
    refine ⟨fun e => ?_, fun xs e => ?_⟩ <;> subst e <;> cases this
theorem pureL_perm {xs ys : List D} (hp : xs.Perm ys) (h : D.pureL xs = true) : D.pureL ys = true := by
  have key : ∀ l : List D, (D.pureL l = true ↔ ∀ d ∈ l, d.pure = true) := fun l => by
    induction l with
    | nil => exact ⟨fun _ d m => (nomatch m), fun _ => rfl⟩
    | cons d r ih =>
      show (d.pure && D.pureL r) = true ↔ _
      rw [Bool.and_eq_true, ih]
      exact ⟨fun ⟨a, b⟩ d m => (List.mem_cons.mp m).elim (fun e => e ▸ a) (b d), fun z => ⟨z d List.mem_cons_self, fun e m => z e (List.mem_cons_of_mem _ m)⟩⟩
  exact (key ys).mpr fun d m => (key xs).mp h d (hp.mem_iff.mpr m)
theorem sortL_perm (xs : List D) : (sortL xs).Perm xs := List.mergeSort_perm _ _
theorem rop_sorted : ROp G (rSortD G.K) gSorted := by
  intro ds vs H Q d h e q
  obtain ⟨a, rfl, e⟩ := una_some e
  obtain ⟨x, rfl, h1⟩ := own1 h
  replace e : fSorted a = some d := e
  unfold fSorted at e
  split at e
  · rename_i xs _
    obtain ⟨⟨hp, hy, hb⟩, rfl⟩ := iff?_some e
    obtain ⟨p, ys, hv, hs, o⟩ := h1.lstR
    subst hv
    have hl : ys.length = xs.length := OwnL.length o
    have e1 : (ys.zip xs).map (·.1) = ys := List.map_fst_zip (Nat.le_of_eq hl)
    have e2 : (ys.zip xs).map (·.2) = xs := List.map_snd_zip (Nat.le_of_eq hl.symm)
    have e3 : ((ys.zip xs).map fun b => encD b.2) = xs.map encD := by
      rw [show (fun b : V × D => encD b.2) = encD ∘ (·.2) from rfl, ← List.map_map, e2]
    obtain ⟨k1, k2, k3⟩ := sortB_ok hb
    have ho := OwnL.each o
    refine ⟨D, encD, p, List.zip ys xs, rfl, by rw [e1]; exact hs, fun b m => ?_, by rw [e3]; exact k1, by rw [e3]; exact k2, fun b m => k3 _ (by rw [← e3]; exact List.mem_map.mpr ⟨b, m, rfl⟩), fun l hn => ?_⟩
    · have hb2 : b.2 ∈ xs := by rw [← e2]; exact List.mem_map.mpr ⟨b, m, rfl⟩
      have := List.all_eq_true.mp hy _ hb2
      refine Own.dp _ _ _ (ho b m) ?_
      unfold encD
      cases hh : b.2.py with
      | none => rw [hh] at this; cases this
      | some z => rfl
    · have e4 : ((ys.zip xs).mergeSort (PySem.W.dataLe false fun b => encD b.2)).map (·.2) = sortL xs := by
        have e5 := List.map_mergeSort (r := PySem.W.dataLe false fun b : V × D => encD b.2) (s := PySem.W.dataLe false encD) (f := fun b : V × D => b.2) (l := List.zip ys xs) (fun a _ b _ => rfl)
        rw [e5, e2]
        rfl
      have o2 : OwnL G H H (sortL xs) (((ys.zip xs).mergeSort (PySem.W.dataLe false fun b => encD b.2)).map (·.1)) [] := by
        rw [← e4]
        exact OwnL.of_each fun b m => ho b (List.mem_mergeSort.mp m)
      exact q _ _ [l] (same_upd hn) (fun Z => new_lst (pureL_perm (sortL_perm xs).symm hp) hn o2 Z) one_nodup fun b m => by rw [List.mem_singleton.mp m]; exact hn
  · cases e
variable {p pos : Pos}
theorem p_tupX (dx : DX X G) (hg : Gl X "tuple") (hm : X.mg "tuple" = none) (ha : PA X (e :: es) t) (ht : t = seqTE (hs.map (SArg.te G)) := by rfl) (he : starEach (e :: es) X.env = (false, eval e X.env) :: starEach es X.env := by rfl) (hpl : (backTo pos (starEach es X.env)).any (·.1) = false := by rfl) :
    PE X (.Call (.Name "tuple" p) (e :: es) [] pos) (TPur G (hOp hs gTupX)) :=
  p_callT call_tupX hg hm bt_tuple (r := rTupX X.K) (by rw [dx.K]; exact rop_tupX) pure_tupX ha ht (by decide) (by decide) he hpl
theorem e_tupX (dx : DX X G) (hg : Gl X "tuple") (hm : X.mg "tuple" = none) (c : Chn) (ha : PA X (e :: es) t) (ht : t = seqTE (c.tes G W) := by rfl) (hio : c.iofs.any id = false := by rfl) (he : starEach (e :: es) X.env = (false, eval e X.env) :: starEach es X.env := by rfl) (hpl : (backTo pos (starEach es X.env)).any (·.1) = false := by rfl) :
    PE X (.Call (.Name "tuple" p) (e :: es) [] pos) (TV G W (eOp c gTupX)) :=
  e_callT call_tupX hg hm bt_tuple (r := rTupX X.K) (by rw [dx.K]; exact rop_tupX) c ha ht hio (by decide) (by decide) he hpl
theorem e_sorted (dx : DX X G) (hg : Gl X "sorted") (hm : X.mg "sorted" = none) (c : Chn) (ha : PA X (e :: es) t) (ht : t = seqTE (c.tes G W) := by rfl) (hio : c.iofs.any id = false := by rfl) (he : starEach (e :: es) X.env = (false, eval e X.env) :: starEach es X.env := by rfl) (hpl : (backTo pos (starEach es X.env)).any (·.1) = false := by rfl) :
    PE X (.Call (.Name "sorted" p) (e :: es) [] pos) (TV G W (eOp c gSorted)) :=
  e_callB (cr_sortD (by have := dx.un; omega)) hg hm bt_sorted (r := rSortD X.K) (by rw [dx.K]; exact rop_sorted) c ha ht hio (by decide) (by decide) he hpl
end
end DL

/-! a, b = e; range with a step; enumerate; the signs of a text -/
namespace DL
open PySem PySem.Spec PyProof.Rows L2
section
variable {G : Gc} {W : Wsh} {X : Cx}
/-- values bound to names, one each, owned -/
def putsS : List Nat → List D → DEnv → Option DEnv
  | [], [], e => some e
  | i :: is, d :: ds, e => match putS i d e with
    | some e' => putsS is ds e'
    | none => none
  | _, _, _ => none
def gNames : List Nat → TGs
  | [] => gNil
  | i :: is => gCons (gName i) (gNames is)
theorem puts_len : ∀ {is : List Nat} {ds : List D} {e e' : DEnv}, putsS is ds e = some e' → ds.length = is.length
  | [], [], _, _, _ => rfl
  | [], _ :: _, _, _, h => by cases h
  | _ :: _, [], _, _, h => by cases h
  | i :: is, d :: ds, e, e', h => by
    unfold putsS at h
    split at h
    · rw [List.length_cons, List.length_cons, puts_len h]
    · cases h
theorem puts_ok {B Z H : Hp} : ∀ {is : List Nat} {ds : List D} {vs : List V} {F : List Addr} {σ : L2.St} {env e2 : DEnv} {Fs : Nat → List Addr} {Q : L2.St → Hp → Prop}, Good G B Z H σ env Fs → OwnL G Z H ds vs F → F.Nodup → (∀ a, a ∈ F → ¬ InF Fs a) → (∀ a, a ∈ F → B a = none ∧ Z a = none) → putsS is ds env = some e2 →
    (∀ σ2 Fs2, Stp G B Z H σ env (fun a => InF Fs a ∨ a ∈ F) Z H σ2 e2 Fs2 → Q σ2 H) → gNames is vs σ H Q
  | [], [], vs, F, σ, env, e2, Fs, Q, g, ho, nd, dj, fr, h, q => by
    cases h
    exact ⟨ho.1, q σ Fs (Stp.refl g fun a m => .inl m)⟩
  | [], _ :: _, _, _, _, _, _, _, _, _, _, _, _, _, h, _ => by cases h
  | _ :: _, [], _, _, _, _, _, _, _, _, _, _, _, _, h, _ => by cases h
  | i :: is, d :: ds, vs, F, σ, env, e2, Fs, Q, g, ho, nd, dj, fr, h, q => by
    obtain ⟨v, r, F1, F2, rfl, rfl, h1, h2⟩ := ho
    unfold putsS at h
    cases hp : putS i d env with
    | none => rw [hp] at h; cases h
    | some e1 =>
      rw [hp] at h
      obtain ⟨n1, n2, n3⟩ := List.nodup_append.mp nd
      have s1 : Stp G B Z H σ env (fun a => InF Fs a ∨ a ∈ F1 ++ F2) Z H (σ.set i (some v)) e1 (onF Fs i F1) := Stp.put g (fun a m => .inl m) (fun a m => .inr (List.mem_append_left _ m)) ⟨h1, n1, fun a m => dj a (List.mem_append_left _ m), fun a m => fr a (List.mem_append_left _ m)⟩ hp
      refine ⟨v, r, rfl, puts_ok (is := is) (ds := ds) s1.good h2 n2 (fun a m z => ?_) (fun a m => fr a (List.mem_append_right _ m)) h fun σ2 Fs2 s2 => q σ2 Fs2 ?_⟩
      · rcases inF_on z with z | z
        · exact n3 a z a m rfl
        · exact dj a (List.mem_append_right _ m) z
      · refine s1.trans (fun a m => .inr ?_) s2
        rcases m with m | m
        · rcases inF_on m with m | m
          · exact .inr (List.mem_append_left _ m)
          · exact .inl m
        · exact .inr (List.mem_append_right _ m)
def sUnp (is : List Nat) (f : DEnv → Out (D × DEnv)) : Stm := fun env => f env >>= fun p => match p.1.toTupA with
  | some ds => must (putsS is ds p.2) fun e => .ok (.nx e)
  | none => .bad
theorem s_unp {tg e : Expr} {pos : Pos} {n : Nat} {f : DEnv → Out (D × DEnv)} (is : List Nat) (dx : DX X G) (hn : n = is.length) (hg : PG X tg (gTup X.K n (gNames is))) (he : PE X e (TV G W f)) (hs : swapsWithSole [tg] e pos.line X.env = pure false := by rfl) (hw : swappedStores [tg] e X.env = pure none := by rfl)
    (h1 : (assignEach [tg] X.env).map (·.2) = [assign tg X.env] := by rfl) : PS X (.Assign [tg] e pos) (TSt G W (sUnp is f)) :=
  (ps_asg he hg hs hw h1).imp fun En σ H ⟨B, Z, Fs, env, gd, q⟩ => by
    refine ⟨B, Z, Fs, env, gd, ?_⟩
    unfold sUnp at q
    unfold FinV
    match f env, q with
    | .exc c, q => exact q
    | .ok (d, e'), q =>
      intro v Z' H' Fs' F p
      have q2 : FinS G W B Z H σ env (InF Fs) (match d.toTupA with
        | some ds => must (putsS is ds e') fun e => .ok (.nx e)
        | none => .bad) En := q
      clear q
      cases hd : d.toTupA with
      | none => rw [hd] at q2; exact q2.elim
      | some ds =>
        rw [hd] at q2
        cases hput : putsS is ds e' with
        | none => simp only [hput] at q2; exact q2.elim
        | some e2 =>
          simp only [hput] at q2
          replace q2 : FinS G W B Z H σ env (InF Fs) (.ok (.nx e2)) En := q2
          obtain ⟨fl, rfl⟩ := D.toTupA_some hd
          obtain ⟨a, vs, rfl, ht, o⟩ := p.one
          refine ⟨a, vs, rfl, by rw [dx.K]; exact ht.seq, by rw [OwnL.length o, puts_len hput, hn], ?_⟩
          refine puts_ok p.st.good o p.nd p.dj p.fr hput fun σ2 Fs2 s2 => ?_
          exact q2 _ _ _ _ (p.st.trans (fun a m => m.elim (p.st.new a) (p.new a)) s2)

/-! ### is, of True and False -/
def bB (f : Bool → Bool → D) (a b : D) : Option D := match a, b with
  | .bl x, .bl y => some (f x y)
  | _, _ => none
theorem bB_some {f : Bool → Bool → D} {a b d : D} (h : bB f a b = some d) : ∃ x y, a = .bl x ∧ b = .bl y ∧ d = f x y := by
  unfold bB at h
  split at h
  · cases h; exact ⟨_, _, rfl, rfl, rfl⟩
  · cases h
abbrev gIsB := bin (bB fun x y => .bl (decide (x = y)))
abbrev gNotB := bin (bB fun x y => .bl (!decide (x = y)))
theorem rop_isB : ROp G (l2 fun x y H Q => ∃ a b, x = .bl a ∧ y = .bl b ∧ Q (.bl (decide (a = b))) H) gIsB := by
  intro ds vs H Q d h e q
  obtain ⟨a, b, rfl, e⟩ := bin_some e
  obtain ⟨i, j, rfl, rfl, rfl⟩ := bB_some e
  obtain ⟨x, y, rfl, h1, h2⟩ := own2 h
  exact ⟨i, j, h1.1, h2.1, done0 q fun Z => ⟨rfl, rfl⟩⟩
theorem pure_isB : PureG gIsB := by
  intro ds d e
  obtain ⟨a, b, rfl, e⟩ := bin_some e
  obtain ⟨i, j, rfl, rfl, rfl⟩ := bB_some e
  rfl
theorem rop_notB : ROp G (l2 fun x y H Q => ∃ a b, x = .bl a ∧ y = .bl b ∧ Q (.bl (!decide (a = b))) H) gNotB := by
  intro ds vs H Q d h e q
  obtain ⟨a, b, rfl, e⟩ := bin_some e
  obtain ⟨i, j, rfl, rfl, rfl⟩ := bB_some e
  obtain ⟨x, y, rfl, h1, h2⟩ := own2 h
  exact ⟨i, j, h1.1, h2.1, done0 q fun Z => ⟨rfl, rfl⟩⟩
theorem pure_notB : PureG gNotB := by
  intro ds d e
  obtain ⟨a, b, rfl, e⟩ := bin_some e
  obtain ⟨i, j, rfl, rfl, rfl⟩ := bB_some e
  rfl

/-! ### range with a step -/
def rngC (lo c : Int) (n : Nat) : List D := (List.range n).map fun (i : Nat) => D.int (lo + (i : Int) * c)
theorem rngC_at {lo c : Int} {n i : Nat} {x : D} (h : (rngC lo c n)[i]? = some x) : i < n ∧ x = .int (lo + (i : Int) * c) := by
  unfold rngC at h
  rw [List.getElem?_map] at h
  by_cases hi : i < n
  · rw [List.getElem?_range hi] at h
    exact ⟨hi, (Option.some.inj h).symm⟩
  · rw [List.getElem?_eq_none (by simpa using hi)] at h
    cases h
def mkRange3 : List D → Option (List D)
  | [.int i, .int j, .int k] => if k ≠ 0 ∧ k.natAbs < 1073741824 ∧ Builtin.Range.small i j k = true then some (rngC i k (Builtin.Range.rangeSize i j k).toNat) else none
  | _ => none
theorem range3_fits : fits G (fun vs H R => ∃ (i j k : Int) (n : Nat), vs = [.int i, .int j, .int k] ∧ RgC i j k n ∧ R (Itc i k n) H) mkRange3 := by
  intro ds vs Y H xs R ho hy hx q
  unfold mkRange3 at hx
  split at hx
  · rename_i i j k
    split at hx
    · rename_i hr
      cases hx
      obtain ⟨x, y, z, rfl, h1, h2, h3⟩ : ∃ x y z, vs = [x, y, z] ∧ x = V.int i ∧ y = V.int j ∧ z = V.int k := by
        obtain ⟨x, r, rfl, h1, h2⟩ := OwnL.uncons ho
        obtain ⟨y, r, rfl, h3, h4⟩ := OwnL.uncons h2
        obtain ⟨z, r, rfl, h5, h6⟩ := OwnL.uncons h4
        obtain ⟨rfl, _⟩ := h6
        exact ⟨x, y, z, rfl, h1.1, h3.1, h5.1⟩
      subst h1 h2 h3
      refine ⟨i, j, k, _, rfl, ⟨hr.1, hr.2.1, hr.2.2, rangeSize_toNat i j k⟩, q _ H (Same.refl H) fun m H' y t => ⟨fun x e => ?_, fun hl => ?_⟩⟩
      · obtain ⟨hi, rfl⟩ := rngC_at e
        refine ⟨hi, fun v H2 yy => ?_⟩
        obtain ⟨rfl, rfl⟩ := yy
        exact ⟨Same.refl _, rfl, rfl⟩
      · have hl : m = (rngC i k (Builtin.Range.rangeSize i j k).toNat).length := hl
        unfold rngC at hl
        rw [List.length_map, List.length_range] at hl
        exact Nat.le_of_eq hl.symm
    · cases hx
  · cases hx
theorem i_range3 {tg a b c : Expr} {ta : TA} {p pos : Pos} (ops : List Opn) (hg : Gl X "range") (hm : X.mg "range" = none) (ha : PA X [a, b, c] ta) (ht : ta = seqTE (ops.map (Opn.te G W)) := by rfl)
    (hs : starEach [a, b, c] X.env = (false, eval a X.env) :: starEach [b, c] X.env := by rfl) (hpl : (backTo pos (starEach [b, c] X.env)).any (·.1) = false := by rfl) : PI X tg (.Call (.Name "range" p) [a, b, c] [] pos) (TSrc G W ops mkRange3) :=
  src_ok range3_fits (by subst ht; exact pi_range3 hg hm ha hs hpl)

/-! ### enumerate -/
def enumD : Nat → List D → List D
  | _, [] => []
  | i, x :: xs => .tup [.int (i : Int), x] :: enumD (i + 1) xs
theorem enumD_at : ∀ (k : Nat) (xs : List D) (i : Nat) (z : D), (enumD k xs)[i]? = some z → ∃ x, xs[i]? = some x ∧ z = .tup [.int ((k + i : Nat) : Int), x]
  | k, [], i, z, h => by cases i <;> cases h
  | k, x :: xs, 0, z, h => ⟨x, rfl, (Option.some.inj h).symm⟩
  | k, x :: xs, i + 1, z, h => by
    obtain ⟨y, h1, h2⟩ := enumD_at (k + 1) xs i z h
    exact ⟨y, h1, by rw [h2, show k + 1 + i = k + (i + 1) from by omega]⟩
theorem enumD_length : ∀ (k : Nat) (xs : List D), (enumD k xs).length = xs.length
  | _, [] => rfl
  | k, x :: xs => by show (enumD (k + 1) xs).length + 1 = _; rw [enumD_length]; rfl
def mkEnum : List D → Option (List D)
  | [.lst xs] => some (enumD 0 xs)
  | _ => none
theorem enum_fits : fits G (fun vs H R => ∃ a xs, vs = [.ref a] ∧ SqL G.K H a xs ∧ R (Ite G.K a) H) mkEnum := by
  intro ds vs Y H zs R ho hy hx q
  unfold mkEnum at hx
  split at hx
  · rename_i xs
    cases hx
    obtain ⟨v, r, rfl, h1, h2⟩ := OwnL.uncons ho
    obtain ⟨rfl, _⟩ := h2
    obtain ⟨a, ws, F', rfl, n, o⟩ := h1
    have hq : ∀ H' : Hp, Same Y H' → SqL G.K H' a ws := fun H' y => by
      rcases n with ⟨h1 | ⟨ob, h1⟩, _⟩ | ⟨z, _⟩
      · exact SqL.of (y _ _ h1)
      · exact .inl (.inr ⟨ob, y _ _ h1⟩)
      · cases z
    have hF : F' = [] := by
      rcases n with ⟨_, _, e⟩ | ⟨z, _⟩
      · exact e
      · cases z
    subst hF
    refine ⟨a, ws, rfl, hq H hy, q _ H (Same.refl H) fun i H' y t => ⟨fun z e => ?_, fun hl => ?_⟩⟩
    · obtain ⟨dx, e1, rfl⟩ := enumD_at _ _ _ _ e
      obtain ⟨vx, ex, hvx⟩ := OwnL.at o e1
      refine ⟨⟨ws, vx, hq H' y, ex⟩, fun w H2 yy => ?_⟩
      obtain ⟨T, x', rfl, hT, eH, f1⟩ := yy
      have q1 := f1 ws (hq H' y)
      rw [ex] at q1
      cases q1
      rw [Nat.zero_add]
      exact pair_new hT eH ⟨rfl, rfl⟩ (Own.keepT (Same.refl Y) t hvx)
    · rw [enumD_length] at hl
      exact ⟨ws, hq H' y, by rw [OwnL.length o]; exact Nat.le_of_eq hl.symm⟩
  · cases hx
theorem i_enum {elts : List Expr} {kk : Nat} {tpos : Pos} {e : Expr} {ta : TA} {p pos : Pos} (ops : List Opn) (dx : DX X G) (hg : Gl X "enumerate") (hm : X.mg "enumerate" = none) (ha : PA X [e] ta) (ht : ta = seqTE (ops.map (Opn.te G W)) := by rfl) (hs : starEach [e] X.env = [(false, eval e X.env)] := by rfl) :
    PI X (.Tuple elts kk tpos) (.Call (.Name "enumerate" p) [e] [] pos) (TSrc G W ops mkEnum) :=
  src_ok (r := fun vs H R => ∃ a xs, vs = [.ref a] ∧ SqL X.K H a xs ∧ R (Ite X.K a) H) (by rw [dx.K]; exact enum_fits) (by subst ht; exact pi_enum hg hm ha hs)

/-! ### the signs of a text -/
def sigsD (x : Str) : List D := x.cps.toList.map fun c => .str ⟨#[c]⟩
def mkSigs : List D → Option (List D)
  | [.str x] => some (sigsD x)
  | _ => none
def rSigs : RI := fun vs H R => match vs with
  | [v] => ∃ x, v = .str x ∧ R (Its x) H
  | _ => False
theorem sigs_fits : fits G rSigs mkSigs := by
  intro ds vs Y H zs R ho hy hx q
  unfold mkSigs at hx
  split at hx
  · rename_i x
    cases hx
    obtain ⟨v, r, rfl, h1, h2⟩ := OwnL.uncons ho
    obtain ⟨rfl, _⟩ := h2
    refine ⟨x, by rw [h1.1], q _ H (Same.refl H) fun i H' y t => ⟨fun z e => ?_, fun hl => ?_⟩⟩
    · unfold sigsD at e
      rw [List.getElem?_map] at e
      obtain ⟨c, hc, rfl⟩ := map_some2 e
      have hc' : x.cps[i]? = some c := by rw [← Array.getElem?_toList]; exact hc
      refine ⟨(Array.getElem?_eq_some_iff.mp hc').1, fun v H2 yy => ?_⟩
      obtain ⟨rfl, c', h3, rfl⟩ := yy
      rw [hc'] at h3
      cases h3
      exact ⟨Same.refl _, rfl, rfl⟩
    · have hl : i = (sigsD x).length := hl
      unfold sigsD at hl
      rw [List.length_map, Array.length_toList] at hl
      exact Nat.le_of_eq hl.symm
  · cases hx
theorem i_sigs {tg e : Expr} (op : Opn) (he : PE X e (op.te G W)) : PI X tg e (TSrc G W [op] mkSigs) :=
  src_ok (r := rSigs) sigs_fits (pi_str he)
end
end DL

/-! a tuple of what others hold: x = (.., y, ..), y living on */ -/
namespace DL
open PySem PySem.Spec PyProof.Rows L2
section
variable {G : Gc} {W : Wsh} {X : Cx}
/-- read only while the rest runs -/
def bArg (env : DEnv) : SArg → Bool
  | .pur _ => true
  | .plc i _ => match env[i]? with
    | some (some (.brw, _)) => true
    | some (some (.lck, _)) => true
    | _ => false
  | _ => false
theorem evB_ok {B Z : Hp} {σ : L2.St} {env : DEnv} {Fs : Nat → List Addr} : ∀ (hs : List SArg) (ds : List D) (H : Hp) (k : List V → Hp → Prop), Good G B Z H σ env Fs → evS hs env = some ds → hs.all (bArg env) = true → (∀ vs H1, Same H H1 → OwnL G (joi B Z) H1 ds vs [] → k vs H1) → seqTE (hs.map (SArg.te G)) σ H k
  | [], ds, H, k, g, e, _, q => by
    cases e
    exact q [] H (Same.refl H) ⟨rfl, rfl⟩
  | a :: r, ds, H, k, g, e, hb, q => by
    rw [List.all_cons, Bool.and_eq_true] at hb
    have e : (match a.val env with
      | some d => match evS r env with
        | some ds => some (d :: ds)
        | none => none
      | none => none) = some ds := e
    cases ha : a.val env with
    | none => rw [ha] at e; cases e
    | some d =>
      cases hr : evS r env with
      | none => rw [ha, hr] at e; cases e
      | some ds2 =>
        rw [ha, hr] at e
        cases e
        have fin : ∀ (v : V) (H1 : Hp), Same H H1 → Own G (joi B Z) H1 d v [] → seqTE (r.map (SArg.te G)) σ H1 fun vs H2 => k (v :: vs) H2 := fun v H1 s1 o =>
          evB_ok r ds2 H1 _ (g.grow s1) hr hb.2 fun vs H2 s2 ol => q (v :: vs) H2 (s1.trans s2) (OwnL.cons_nil (Own.keepT (Same.refl _) (TK.of s2) o) ol)
        cases a with
        | pur h => exact ⟨B, Z, Fs, env, g, d, ha, fun v H1 s1 _ o => fin v H1 s1 (o _)⟩
        | plc i p =>
          refine ⟨B, Z, Fs, env, g, d, ha, fun v H1 s1 o => fin v H1 s1 ?_⟩
          have hF : Fs i = [] := by
            have s := g.sl i
            have hb1 : (match env[i]? with
              | some (some (.brw, _)) => true
              | some (some (.lck, _)) => true
              | _ => false) = true := hb.1
            unfold SlotOk at s
            split at hb1
            · rename_i e; rw [e] at s; exact s.choose_spec.2.2
            · rename_i e; rw [e] at s; exact s.choose_spec.2.2
            · cases hb1
          have : lockB B H1 Fs i = B := by
            unfold lockB
            rw [hF, lay_nil]
          rw [this] at o
          exact o
        | int h => exact absurd (show false = true from hb.1) Bool.false_ne_true
        | plt i h T => exact absurd (show false = true from hb.1) Bool.false_ne_true
        | put h T => exact absurd (show false = true from hb.1) Bool.false_ne_true
def dropF (ds : List Nat) : Flw → Out Flw
  | .nx e => must (dropS ds e) fun e => .ok (.nx e)
  | .rt d e => must (dropS ds e) fun e => .ok (.rt d e)
  | _ => .bad
/-- j = a tuple, slot i being read only in all that follows -/
def sAl (i j : Nat) (hs : List SArg) (ds : List Nat) (rest : Stm) : Stm := fun env => must (evS hs (lock i env)) fun xs => if hs.all (bArg (lock i env)) = true ∧ xs.length ≤ 16777216 then must (bName j (.tup xs) (lock i env)) fun e2 => (rest e2 >>= dropF ds) >>= unS [env] else .bad
theorem s_alias {x : Str} {p1 p2 pos : Pos} {kk : Nat} {es : List Expr} {t : TA} {rest : List Stmt} {f : Stm} (i j : Nat) (hs : List SArg) (ds : List Nat) (dx : DX X G) (hi : X.N[j]? = some x) (hx : Loc X.env.scope x) (ha : PA X es t) (hr : PSs X rest (TSt G W f)) (ht : t = seqTE (hs.map (SArg.te G)) := by rfl) (hd : ds.contains j = true := by rfl)
    (hsw : swapsWith (.Tuple es kk p2) (some (.Name x p1)) pos.line X.env = pure false := by rfl) (hf : X.fn x = true ∨ X.env.scope.names.lookup x = some .local := by first | exact .inl rfl | exact .inr rfl) :
    PSs X (.Assign [.Name x p1] (.Tuple es kk p2) pos :: rest) (TSt G W (sAl i j hs ds f)) :=
  (pss_cons (ps_set dx.nd hi hx (pe_tup ha) hsw hf) hr).imp fun En σ H ⟨B, Z, Fs, env, gd, q⟩ => by
    subst ht
    have hcl : ∀ k, k ∈ [j] → k ∈ ds := fun k m => by
      rw [List.mem_singleton.mp m]
      simpa using hd
    unfold sAl at q
    cases hev : evS hs (lock i env) with
    | none => rw [hev] at q; exact q.elim
    | some xs =>
      rw [hev, must_some] at q
      split at q
      · rename_i hc
        cases hb : bName j (.tup xs) (lock i env) with
        | none => rw [hb] at q; exact q.elim
        | some e2 =>
          rw [hb, must_some] at q
          have w := (Unl.refl gd).lock i
          have q1 := FinS.unl (st := [env]) w q
          refine evB_ok hs xs H _ w.good hev hc.1 fun vs H1 s1 ol => ⟨by rw [OwnL.length ol, ← size_line]; exact hc.2, fun p hp => ?_⟩
          have s2 : Same H1 (upd H1 p (.tup vs)) := same_upd hp
          have g3 := w.good.grow (s1.trans s2)
          refine bind_name _ _ _ _ _ _ (.tup xs) (.ref p) e2 _ g3 ⟨p, vs, rfl, (upd_same : upd H1 p (.tup vs) p = some (.tup vs)), OwnL.keepT (Same.refl _) (TK.of s2) ol⟩ hb fun σ4 Fs4 b4 => ?_
          refine ⟨_, Z, Fs4, e2, b4.good, ?_⟩
          have q3 := FinS.later (Stp.grow (P := InF _) w.good (fun _ m => m) (s1.trans s2)) (fun a m => .inr m) q1
          unfold FinS
          cases hfb : f e2 with
          | bad => rw [hfb] at q3; exact q3.elim
          | exc c => rw [hfb] at q3; exact q3
          | ok fl =>
            rw [hfb] at q3
            cases fl with
            | bk e5 => exact q3.elim
            | ct e5 => exact q3.elim
            | nx e5 =>
              intro σ6 Z6 H6 F6 s6
              have q3 : FinS G W _ Z _ σ (lock i env) (InF _) (must (dropS ds e5) fun e => .ok (.nx e)) En := q3
              cases hdr : dropS ds e5 with
              | none => rw [hdr] at q3; exact q3.elim
              | some e7 =>
                rw [hdr] at q3
                obtain ⟨F7, s7, _⟩ := b4.stp (P := InF _) (fun _ m => m) s6 hdr hcl
                exact q3 _ _ _ _ s7
            | rt d e5 =>
              intro σ6 v6 Z6 H6 F6 F p6
              have q3 : FinS G W _ Z _ σ (lock i env) (InF _) (must (dropS ds e5) fun e => .ok (.rt d e)) En := q3
              cases hdr : dropS ds e5 with
              | none => rw [hdr] at q3; exact q3.elim
              | some e7 =>
                rw [hdr] at q3
                obtain ⟨F7, s7, h7⟩ := b4.stp (P := InF _) (fun _ m => m) p6.st hdr hcl
                exact q3 _ _ _ _ F7 F ⟨s7, p6.own, p6.nd, fun a m n => p6.dj a m (h7 a n), p6.fr, fun a m => (p6.new a m).imp id (b4.sub a)⟩
      · exact q.elim
end
end DL

/-! texts: a sign in a text; what stands at the top */ -/
namespace DL
open PySem PySem.Spec PyProof.Rows L2
section
variable {G : Gc} {W : Wsh} {X : Cx}
theorem p_gstr {x : Str} {s : Str} {t : Tok} {pos : Pos} (hg : Gl X x) (hm : X.mg x = some (.str s t)) (hd : (x == ("__debug__" : Str)) = false := by decide) : PE X (.Name x pos) (TPur G (hC (.str s))) :=
  (pe_glob (v := .str s) hg hm ⟨t, rfl⟩ hd).imp fun σ H Q ⟨B, Z, Fs, env, gd, d, e, q⟩ => by
    cases e
    exact q (.str s) H (Same.refl H) rfl fun Z => ⟨rfl, rfl⟩
def fInS (f : Bool → Bool) (a b : D) : Option D := match a, b with
  | .str x, .str z => match x.cps.toList with
    | [c] => some (.bl (f (decide (c ∈ z.cps.toList))))
    | _ => none
  | _, _ => none
theorem fInS_some {f : Bool → Bool} {a b d : D} (h : fInS f a b = some d) : ∃ (c : Nat) (z : Str), a = .str ⟨#[c]⟩ ∧ b = .str z ∧ d = .bl (f (decide (c ∈ z.cps.toList))) := by
  unfold fInS at h
  split at h
  · rename_i x z
    split at h
    · rename_i c e
      cases h
      refine ⟨c, z, ?_, rfl, rfl⟩
      congr 1
      cases x with
      | mk l =>
        congr 1
        exact Array.toList_inj.mp e
    · cases h
  · cases h
abbrev gInS := bin (fInS id)
abbrev gNotInS := bin (fInS not)
theorem rop_inS : ROp G (l2 fun x y H Q => ∃ (c : Nat) (z : Str), x = .str ⟨#[c]⟩ ∧ y = .str z ∧ Q (.bl (decide (c ∈ z.cps.toList))) H) gInS := by
  intro ds vs H Q d h e q
  obtain ⟨a, b, rfl, e⟩ := bin_some e
  obtain ⟨c, z, rfl, rfl, rfl⟩ := fInS_some e
  obtain ⟨x, y, rfl, h1, h2⟩ := own2 h
  exact ⟨c, z, h1.1, h2.1, done0 q fun Z => ⟨rfl, rfl⟩⟩
theorem pure_inS : PureG gInS := by
  intro ds d e
  obtain ⟨a, b, rfl, e⟩ := bin_some e
  obtain ⟨c, z, rfl, rfl, rfl⟩ := fInS_some e
  rfl
theorem rop_notInS : ROp G (l2 fun x y H Q => ∃ (c : Nat) (z : Str), x = .str ⟨#[c]⟩ ∧ y = .str z ∧ Q (.bl (!decide (c ∈ z.cps.toList))) H) gNotInS := by
  intro ds vs H Q d h e q
  obtain ⟨a, b, rfl, e⟩ := bin_some e
  obtain ⟨c, z, rfl, rfl, rfl⟩ := fInS_some e
  obtain ⟨x, y, rfl, h1, h2⟩ := own2 h
  exact ⟨c, z, h1.1, h2.1, done0 q fun Z => ⟨rfl, rfl⟩⟩
theorem pure_notInS : PureG gNotInS := by
  intro ds d e
  obtain ⟨a, b, rfl, e⟩ := bin_some e
  obtain ⟨c, z, rfl, rfl, rfl⟩ := fInS_some e
  rfl
end
end DL

/-! dicts -/
namespace DL
open PySem PySem.Spec PyProof.Rows L2
/-! ### keys -/
def keyD : D → Option Key
  | .int i => some (.inl i)
  | .str s => some (.inr s)
  | _ => none
def keysL : List D → Option (List Key)
  | [] => some []
  | d :: r => match keyD d, keysL r with
    | some k, some ks => some (k :: ks)
    | _, _ => none
def keysD : D → Option (List Key)
  | .tupF false xs => keysL xs
  | _ => none
def toKD : Key → D
  | .inl i => .int i
  | .inr s => .str s
def toKsD (k : List Key) : D := .tup (k.map toKD)
section
variable {G : Gc} {W : Wsh} {X : Cx}
theorem keyD_own {Z H : Hp} {d : D} {v : V} {F : List Addr} {k : Key} (e : keyD d = some k) (h : Own G Z H d v F) : v = kV k := by
  cases d with
  | int i => cases e; exact h.1
  | str i => cases e; exact h.1
  | _ => cases e
theorem keysL_own {Z H : Hp} : ∀ {ds : List D} {vs : List V} {F : List Addr} {ks : List Key}, keysL ds = some ks → OwnL G Z H ds vs F → vs = ks.map kV
  | [], _, _, _, e, h => by cases e; exact h.1
  | d :: ds, vs, F, ks, e, h => by
    obtain ⟨v, r, F1, F2, rfl, rfl, h1, h2⟩ := h
    have e : (match keyD d, keysL ds with
      | some k, some ks => some (k :: ks)
      | _, _ => none) = some ks := e
    cases hk : keyD d with
    | none => rw [hk] at e; cases e
    | some k =>
      cases hs : keysL ds with
      | none => rw [hk, hs] at e; cases e
      | some ks2 =>
        rw [hk, hs] at e
        cases e
        rw [keyD_own hk h1, keysL_own hs h2]
        rfl
theorem keysD_own {Z H : Hp} {d : D} {v : V} {F : List Addr} {k : List Key} (e : keysD d = some k) (h : Own G Z H d v F) : ∃ a, v = .ref a ∧ H a = some (.tup (k.map kV)) := by
  unfold keysD at e
  split at e
  · rename_i xs
    obtain ⟨a, vs, rfl, h1, h2⟩ := h
    have := keysL_own e h2
    subst this
    exact ⟨a, rfl, h1⟩
  · cases e
theorem toKD_own {Z H : Hp} (k : Key) : Own G Z H (toKD k) (kV k) [] := by
  cases k <;> exact ⟨rfl, rfl⟩
theorem toKDs_own {Z H : Hp} : ∀ ks : List Key, OwnL G Z H (ks.map toKD) (ks.map kV) []
  | [] => ⟨rfl, rfl⟩
  | k :: ks => OwnL.cons_nil (toKD_own k) (toKDs_own ks)
theorem toKD_pure (k : Key) : (toKD k).pure = true := by cases k <;> rfl
theorem pureL_mem {l : List D} (h : ∀ d ∈ l, d.pure = true) : D.pureL l = true := by
  induction l with
  | nil => rfl
  | cons d r ih =>
    show (d.pure && D.pureL r) = true
    rw [h d List.mem_cons_self, ih fun e m => h e (List.mem_cons_of_mem _ m)]
    rfl
theorem toKDs_pure (ks : List Key) : D.pureL (ks.map toKD) = true := pureL_mem fun d m => by
  obtain ⟨k, _, rfl⟩ := List.mem_map.mp m
  exact toKD_pure k
/-! ### what stands there -/
section
variable {κ : Type} [DecidableEq κ]
def lookP (ks : List κ) (ds : List D) (k : κ) : Option D := ((ks.zip ds).find? fun p => decide (p.1 = k)).map (·.2)
def putG {α : Type} (kvs : List (κ × α)) (k : κ) (v : α) : List (κ × α) :=
  if (kvs.any fun kv => decide (kv.1 = k)) = true then kvs.map (fun kv => if kv.1 = k then (kv.1, v) else kv) else kvs ++ [(k, v)]
theorem look_own {Y H : Hp} {k : κ} : ∀ {ks : List κ} {ds : List D} {vs : List V}, OwnL G Y H ds vs [] → ks.length = vs.length → (∀ d, lookP ks ds k = some d → ∃ v, valV (ks.zip vs) k = some v ∧ Own G Y H d v []) ∧ (lookP ks ds k = none → valV (ks.zip vs) k = none)
  | [], ds, vs, h, l => by
    have : vs = [] := List.eq_nil_of_length_eq_zero l.symm
    subst this
    exact ⟨fun d e => (nomatch (show (none : Option D) = some d from e)), fun _ => rfl⟩
  | k0 :: ks, ds, vs, h, l => by
    cases ds with
    | nil => rw [h.1] at l; cases l
    | cons d0 ds =>
      obtain ⟨v0, r, rfl, h1, h2⟩ := OwnL.uncons h
      have ih := look_own (k := k) h2 (by simpa using l)
      by_cases hk : k0 = k
      · refine ⟨fun d e => ?_, fun e => ?_⟩
        · have : lookP (k0 :: ks) (d0 :: ds) k = some d0 := by simp [lookP, hk]
          rw [this] at e
          cases e
          exact ⟨v0, by simp [valV, hk], h1⟩
        · have : lookP (k0 :: ks) (d0 :: ds) k = some d0 := by simp [lookP, hk]
          rw [this] at e
          cases e
      · have e1 : lookP (k0 :: ks) (d0 :: ds) k = lookP ks ds k := by simp [lookP, hk]
        have e2 : valV ((k0 :: ks).zip (v0 :: r)) k = valV (ks.zip r) k := by simp [valV, hk]
        rw [e1, e2]
        exact ih
theorem putG_map {α β : Type} (f : α → β) (L : List (κ × α)) (k : κ) (a : α) : (putG L k a).map (fun p => (p.1, f p.2)) = putG (L.map fun p => (p.1, f p.2)) k (f a) := by
  unfold putG
  have e : ((L.map fun p => (p.1, f p.2)).any fun kv => decide (kv.1 = k)) = L.any fun kv => decide (kv.1 = k) := by rw [List.any_map]; rfl
  rw [e]
  split
  · rw [List.map_map, List.map_map]
    refine List.map_congr_left fun p _ => ?_
    simp only [Function.comp]
    split <;> rfl
  · rw [List.map_append]; rfl
theorem putG_mem {α : Type} {L : List (κ × α)} {k : κ} {a : α} {p : κ × α} (h : p ∈ putG L k a) : p ∈ L ∨ p.2 = a := by
  unfold putG at h
  split at h
  · obtain ⟨q, hq, rfl⟩ := List.mem_map.mp h
    split
    · exact .inr rfl
    · exact .inl hq
  · rcases List.mem_append.mp h with h | h
    · exact .inl h
    · rw [List.mem_singleton.mp h]; exact .inr rfl
/-- keys and values behind d[k] = x -/
def putKs (ks : List κ) (ds : List D) (k : κ) (x : D) : List κ := (putG (ks.zip ds) k x).map (·.1)
def putVs (ks : List κ) (ds : List D) (k : κ) (x : D) : List D := (putG (ks.zip ds) k x).map (·.2)
theorem zip3 : ∀ (ks : List κ) (vs : List V) (ds : List D), vs.length = ds.length → ((ks.zip (vs.zip ds)).map fun p => (p.1, p.2.1)) = ks.zip vs ∧ ((ks.zip (vs.zip ds)).map fun p => (p.1, p.2.2)) = ks.zip ds
  | [], _, _, _ => ⟨rfl, rfl⟩
  | k :: ks, [], [], _ => ⟨rfl, rfl⟩
  | k :: ks, v :: vs, d :: ds, h => by
    obtain ⟨h1, h2⟩ := zip3 ks vs ds (by simpa using h)
    rw [List.zip_cons_cons, List.zip_cons_cons, List.map_cons, List.map_cons, h1, h2]
    exact ⟨rfl, rfl⟩
  | k :: ks, [], d :: ds, h => by cases h
  | k :: ks, v :: vs, [], h => by cases h
theorem put_own {Y H : Hp} {ks : List κ} {ds : List D} {vs : List V} {k : κ} {x : D} {v : V} (h : OwnL G Y H ds vs []) (hx : Own G Y H x v []) (l : ks.length = vs.length) : ∃ ws, OwnL G Y H (putVs ks ds k x) ws [] ∧ (putKs ks ds k x).length = ws.length ∧ putK (ks.zip vs) k v = (putKs ks ds k x).zip ws := by
  have ld := OwnL.length h
  generalize hL : ks.zip (vs.zip ds) = L
  have e1 : (L.map fun p => (p.1, p.2.1)) = ks.zip vs := by
    rw [← hL]; exact (zip3 ks vs ds ld).1
  have e2 : (L.map fun p => (p.1, p.2.2)) = ks.zip ds := by
    rw [← hL]; exact (zip3 ks vs ds ld).2
  have q1 := putG_map (fun p : V × D => p.1) L k (v, x)
  have q2 := putG_map (fun p : V × D => p.2) L k (v, x)
  rw [e1] at q1
  rw [e2] at q2
  have ho : ∀ p ∈ putG L k (v, x), Own G Y H p.2.2 p.2.1 [] := fun p hp => by
    rcases putG_mem hp with hp | hp
    · rw [← hL] at hp
      have := (List.of_mem_zip hp).2
      exact OwnL.each h p.2 this
    · rw [hp]; exact hx
  have ho2 := OwnL.of_each (ps := (putG L k (v, x)).map (·.2)) fun p hp => by
    obtain ⟨q, hq, rfl⟩ := List.mem_map.mp hp
    exact ho q hq
  rw [List.map_map, List.map_map] at ho2
  have k1 : putVs ks ds k x = (putG L k (v, x)).map ((·.2) ∘ (·.2)) := by
    unfold putVs
    rw [← q2, List.map_map]; rfl
  have k2 : putKs ks ds k x = (putG L k (v, x)).map (·.1) := by
    unfold putKs
    rw [← q2, List.map_map]; rfl
  refine ⟨_, by rw [k1]; exact ho2, by rw [k2]; simp, ?_⟩
  show putG (ks.zip vs) k v = _
  rw [k2, ← q1]
  generalize putG L k (v, x) = M
  induction M with
  | nil => rfl
  | cons p M ih => simp only [List.map_cons, List.zip_cons_cons, ih]; rfl
end
theorem dk_read {H : Hp} {ks : List Key} {ds : List D} {x : V} (h : Own G H H (.dk ks ds) x []) : ∃ a ws, x = .ref a ∧ ks.length = ws.length ∧ H a = some (.dK (ks.zip ws)) ∧ OwnL G H H ds ws [] := by
  obtain ⟨a, ws, F', rfl, l, n, o⟩ := h
  rcases n with ⟨h1, _, rfl⟩ | ⟨z, _⟩
  · exact ⟨a, ws, rfl, l, h1, o⟩
  · cases z
theorem dt_read {H : Hp} {ks : List (List Key)} {ds : List D} {x : V} (h : Own G H H (.dt ks ds) x []) : ∃ a ws, x = .ref a ∧ ks.length = ws.length ∧ H a = some (.dT (ks.zip ws)) ∧ OwnL G H H ds ws [] := by
  obtain ⟨a, ws, F', rfl, l, n, o⟩ := h
  rcases n with ⟨h1, _, rfl⟩ | ⟨z, _⟩
  · exact ⟨a, ws, rfl, l, h1, o⟩
  · cases z
/-! ### d[k], k in d -/
def fLook (dd k : D) : Option (Option D) := match dd with
  | .dk ks vs => (keyD k).map fun k => lookP ks vs k
  | .dt ks vs => (keysD k).map fun k => lookP ks vs k
  | _ => none
theorem look_get {H : Hp} {dd k : D} {x y : V} {r : Option D} (e : fLook dd k = some r) (h1 : Own G H H dd x []) (h2 : Own G H H k y []) : ∃ a o, x = .ref a ∧ DGet H a y o ∧ (∀ d, r = some d → ∃ v, o = some v ∧ Own G H H d v []) ∧ (r = none → o = none) := by
  unfold fLook at e
  split at e
  · rename_i ks vs
    obtain ⟨k2, hk, rfl⟩ := map_some2 e
    obtain ⟨a, ws, rfl, l, hH, o⟩ := dk_read h1
    have := keyD_own hk h2
    subst this
    obtain ⟨q1, q2⟩ := look_own (k := k2) o l
    exact ⟨a, _, rfl, .inl ⟨_, k2, .inl hH, rfl, rfl⟩, fun d e => q1 d e, q2⟩
  · rename_i ks vs
    obtain ⟨k2, hk, rfl⟩ := map_some2 e
    obtain ⟨a, ws, rfl, l, hH, o⟩ := dt_read h1
    obtain ⟨b, rfl, hb⟩ := keysD_own hk h2
    obtain ⟨q1, q2⟩ := look_own (k := k2) o l
    exact ⟨a, _, rfl, .inr ⟨_, k2, b, .inl hH, rfl, hb, rfl⟩, fun d e => q1 d e, q2⟩
  · cases e
def fDGet (dd k : D) : Option D := match fLook dd k with
  | some (some d) => iff? (d.pure = true) d
  | _ => none
abbrev gDGet := bin fDGet
def fDIn (f : Bool → Bool) (k dd : D) : Option D := (fLook dd k).map fun r => .bl (f r.isSome)
abbrev gDIn := bin (fDIn id)
abbrev gDNotIn := bin (fDIn not)
def rDGet : R2 := fun x y H Q => ∃ a v, x = .ref a ∧ DGet H a y (some v) ∧ Q v H
def rDIn : R2 := fun y x H Q => ∃ a o, x = .ref a ∧ DGet H a y o ∧ Q (.bl o.isSome) H
def rDNotIn : R2 := fun y x H Q => ∃ a o, x = .ref a ∧ DGet H a y o ∧ Q (.bl (!o.isSome)) H
theorem fDGet_some {dd k d : D} (h : fDGet dd k = some d) : fLook dd k = some (some d) ∧ d.pure = true := by
  unfold fDGet at h
  split at h
  · rename_i d2 e
    obtain ⟨hp, rfl⟩ := iff?_some h
    exact ⟨e, hp⟩
  · cases h
theorem rop_dget : ROp G (l2 rDGet) gDGet := by
  intro ds vs H Q d h e q
  obtain ⟨a, b, rfl, e⟩ := bin_some e
  obtain ⟨x, y, rfl, h1, h2⟩ := own2 h
  obtain ⟨e, hp⟩ := fDGet_some e
  obtain ⟨p, o, rfl, hg, k1, _⟩ := look_get e h1 h2
  obtain ⟨v, rfl, hv⟩ := k1 d rfl
  exact ⟨p, v, rfl, hg, done0 q fun Z => (Own.ofPure (Z' := Z) d v [] hp hv).2⟩
theorem pure_dget : PureG gDGet := by
  intro ds d e
  obtain ⟨a, b, rfl, e⟩ := bin_some e
  exact (fDGet_some e).2
theorem rop_din : ROp G (l2 rDIn) gDIn := by
  intro ds vs H Q d h e q
  obtain ⟨a, b, rfl, e⟩ := bin_some e
  obtain ⟨y, x, rfl, h1, h2⟩ := own2 h
  obtain ⟨r, hr, rfl⟩ := map_some2 (show (fLook b a).map (fun r => D.bl (id r.isSome)) = some d from e)
  obtain ⟨p, o, rfl, hg, k1, k2⟩ := look_get hr h2 h1
  have hb : o.isSome = r.isSome := by
    cases r with
    | none => rw [k2 rfl]; rfl
    | some d => obtain ⟨v, rfl, _⟩ := k1 d rfl; rfl
  refine ⟨p, o, rfl, hg, ?_⟩
  rw [hb]
  exact done0 q fun Z => ⟨rfl, rfl⟩
theorem pure_din : PureG gDIn := by
  intro ds d e
  obtain ⟨a, b, rfl, e⟩ := bin_some e
  obtain ⟨r, hr, rfl⟩ := map_some2 (show (fLook b a).map (fun r => D.bl (id r.isSome)) = some d from e)
  rfl
theorem rop_dnotin : ROp G (l2 rDNotIn) gDNotIn := by
  intro ds vs H Q d h e q
  obtain ⟨a, b, rfl, e⟩ := bin_some e
  obtain ⟨y, x, rfl, h1, h2⟩ := own2 h
  obtain ⟨r, hr, rfl⟩ := map_some2 (show (fLook b a).map (fun r => D.bl (not r.isSome)) = some d from e)
  obtain ⟨p, o, rfl, hg, k1, k2⟩ := look_get hr h2 h1
  have hb : o.isSome = r.isSome := by
    cases r with
    | none => rw [k2 rfl]; rfl
    | some d => obtain ⟨v, rfl, _⟩ := k1 d rfl; rfl
  refine ⟨p, o, rfl, hg, ?_⟩
  rw [hb]
  exact done0 q fun Z => ⟨rfl, rfl⟩
theorem pure_dnotin : PureG gDNotIn := by
  intro ds d e
  obtain ⟨a, b, rfl, e⟩ := bin_some e
  obtain ⟨r, hr, rfl⟩ := map_some2 (show (fLook b a).map (fun r => D.bl (not r.isSome)) = some d from e)
  rfl
variable {o i : Expr} {pos : Pos} {s1 s2 : SArg}
theorem p_dget (dx : DX X G) (ho : PE X o (s1.te G)) (hi : PE X i (s2.te G)) (hs : NoSl i := by exact fun _ _ => rfl) : PE X (.Subscript o i pos) (TPur G (hOp [s1, s2] gDGet)) :=
  (pe_dget (by have := dx.un; omega) ho hi hs).imp fun σ H Q h => tpur_op (r := l2 rDGet) rop_dget pure_dget σ H Q h
theorem p_din (dx : DX X G) (hi : PE X i (s1.te G)) (ho : PE X o (s2.te G)) (hm : behindInMarks .In o = false := by first | exact nomark _ | rfl) : PE X (.Compare i [.In] [o] pos) (TPur G (hOp [s1, s2] gDIn)) :=
  (pe_cmp (pc_din (by have := dx.un; omega) hi ho) hm).imp fun σ H Q h => tpur_op (r := l2 rDIn) rop_din pure_din σ H Q h
theorem p_dnotin (dx : DX X G) (hi : PE X i (s1.te G)) (ho : PE X o (s2.te G)) (hm : behindInMarks .NotIn o = false := by first | exact nomark _ | rfl) : PE X (.Compare i [.NotIn] [o] pos) (TPur G (hOp [s1, s2] gDNotIn)) :=
  (pe_cmp (pc_dnotin (by have := dx.un; omega) hi ho) hm).imp fun σ H Q h => tpur_op (r := l2 rDNotIn) rop_dnotin pure_dnotin σ H Q h
theorem t_din (dx : DX X G) (hi : PE X i (s1.te G)) (ho : PE X o (s2.te G)) (hm : behindInMarks .In o = false := by first | exact nomark _ | rfl) : PT X (.Compare i [.In] [o] pos) (TBp G (hB (hOp [s1, s2] gDIn))) :=
  (pt_cmp (pc_din (by have := dx.un; omega) hi ho) hm).imp fun σ H Q ⟨B, Z, Fs, env, gd, k, hk, q⟩ => by
    have q1 : TPur G (hOp [s1, s2] gDIn) σ H (fun x H' => ∃ k, x = .bl k ∧ Q k H') := ⟨B, Z, Fs, env, gd, .bl k, hB_some hk, fun v H' hs _ ho => ⟨k, (ho Z).1, q H' hs⟩⟩
    exact tpur_op (r := l2 rDIn) rop_din pure_din σ H _ q1
theorem t_dnotin (dx : DX X G) (hi : PE X i (s1.te G)) (ho : PE X o (s2.te G)) (hm : behindInMarks .NotIn o = false := by first | exact nomark _ | rfl) : PT X (.Compare i [.NotIn] [o] pos) (TBp G (hB (hOp [s1, s2] gDNotIn))) :=
  (pt_cmp (pc_dnotin (by have := dx.un; omega) hi ho) hm).imp fun σ H Q ⟨B, Z, Fs, env, gd, k, hk, q⟩ => by
    have q1 : TPur G (hOp [s1, s2] gDNotIn) σ H (fun x H' => ∃ k, x = .bl k ∧ Q k H') := ⟨B, Z, Fs, env, gd, .bl k, hB_some hk, fun v H' hs _ ho => ⟨k, (ho Z).1, q H' hs⟩⟩
    exact tpur_op (r := l2 rDNotIn) rop_dnotin pure_dnotin σ H _ q1

/-! ### new dicts -/
def gNewK : List D → Option D
  | [] => some (.dk [] [])
  | _ => none
def gNewT : List D → Option D
  | [] => some (.dt [] [])
  | _ => none
theorem rop_newK : ROp G (fun xs H Q => xs = [] ∧ ∀ p, H p = none → Q (.ref p) (upd H p (.dK []))) gNewK := by
  intro ds vs H Q d h e q
  unfold gNewK at e
  split at e
  · cases e
    exact ⟨h.1, fun p hn => q _ _ [p] (same_upd hn) (fun Z => ⟨p, [], [], rfl, rfl, .inr ⟨rfl, upd_same⟩, rfl, rfl⟩) one_nodup fun b m => by rw [List.mem_singleton.mp m]; exact hn⟩
  · cases e
theorem rop_newT : ROp G (fun xs H Q => xs = [] ∧ ∀ p, H p = none → Q (.ref p) (upd H p (.dT []))) gNewT := by
  intro ds vs H Q d h e q
  unfold gNewT at e
  split at e
  · cases e
    exact ⟨h.1, fun p hn => q _ _ [p] (same_upd hn) (fun Z => ⟨p, [], [], rfl, rfl, .inr ⟨rfl, upd_same⟩, rfl, rfl⟩) one_nodup fun b m => by rw [List.mem_singleton.mp m]; exact hn⟩
  · cases e
theorem e_newK : PE X (.Dict [] [] pos) (TV G W (eOp (.fin []) gNewK)) := pe_dnewK.imp fun σ H Q h => (tv_op (r := fun xs H Q => xs = [] ∧ ∀ p, H p = none → Q (.ref p) (upd H p (.dK []))) rop_newK rfl σ H Q h).2
theorem e_newT : PE X (.Dict [] [] pos) (TV G W (eOp (.fin []) gNewT)) := pe_dnewT.imp fun σ H Q h => (tv_op (r := fun xs H Q => xs = [] ∧ ∀ p, H p = none → Q (.ref p) (upd H p (.dT []))) rop_newT rfl σ H Q h).2
/-- {k: v}, both written -/
def gOne (k : Key) (d : D) : List D → Option D
  | [] => some (.dk [k] [d])
  | _ => none
theorem e_one {k v : Expr} {kk : Key} {d : D} {w : V} (hk : PE X k (tC (kV kk))) (hv : PE X v (tC w)) (hd : ∀ Z H, Own G Z H d w []) : PE X (.Dict [some k] [v] pos) (TV G W (eOp (.fin []) (gOne kk d))) :=
  (pe_disp (pps_cons hk hv pps_nil) rfl rfl (by simp) (by simp)).imp fun σ H Q h => by
    have hr : ROp G (fun xs H Q => xs = [] ∧ ∀ p, H p = none → Q (.ref p) (upd H p (.dK [(kk, w)]))) (gOne kk d) := by
      intro ds vs H Q e h e2 q
      unfold gOne at e2
      split at e2
      · cases e2
        exact ⟨h.1, fun p hn => q _ _ [p] (same_upd hn) (fun Z => ⟨p, [w], [], rfl, rfl, .inr ⟨rfl, upd_same⟩, OwnL.cons_nil (hd _ _) ⟨rfl, rfl⟩⟩) one_nodup fun b m => by rw [List.mem_singleton.mp m]; exact hn⟩
      · cases e2
    have q := (tv_op hr rfl σ H Q h).2
    intro p hn
    refine ⟨upd_same, [(kk, w)], rfl, by simp, ?_⟩
    have e : upd (upd H p (.dK [])) p (.dK (mergeK [] [(kk, w)])) = upd H p (.dK [(kk, w)]) := by
      funext b
      by_cases hb : b = p
      · subst hb; rw [upd_same, upd_same]; rfl
      · rw [upd_ne hb, upd_ne hb, upd_ne hb]
    rw [e]
    exact q p hn

/-! ### len, list, sorted -/
def fLenD (d : D) : Option D := match d with
  | .dk ks _ => some (.int ks.length)
  | .dt ks _ => some (.int ks.length)
  | _ => none
abbrev gLenD := una fLenD
def rLenD : List V → Hp → VK → Prop := fun xs H Q => (∃ a kvs, xs = [V.ref a] ∧ H a = some (.dK kvs) ∧ Q (.int kvs.length) H) ∨ rLenT xs H Q
theorem rop_lenD : ROp G rLenD gLenD := by
  intro ds vs H Q d h e q
  obtain ⟨a, rfl, e⟩ := una_some e
  obtain ⟨x, rfl, h1⟩ := own1 h
  cases a with
  | dk ks ws =>
    cases e
    obtain ⟨a, us, rfl, l, hH, o⟩ := dk_read h1
    refine .inl ⟨a, _, rfl, hH, ?_⟩
    have : (ks.zip us).length = ks.length := by simp [l]
    rw [this]
    exact done0 q fun Z => ⟨rfl, rfl⟩
  | dt ks ws =>
    cases e
    obtain ⟨a, us, rfl, l, hH, o⟩ := dt_read h1
    refine .inr ⟨a, _, rfl, hH, ?_⟩
    have : (ks.zip us).length = ks.length := by simp [l]
    rw [this]
    exact done0 q fun Z => ⟨rfl, rfl⟩
  | _ => cases e
theorem pure_lenD : PureG gLenD := by
  intro ds d e
  obtain ⟨a, rfl, e⟩ := una_some e
  cases a <;> cases e <;> rfl
theorem call_lenDD : CallR X (.builtin "len") rLenD := CallR.or call_lenD call_len_dT
def fListD (d : D) : Option D := match d with
  | .dk ks _ => some (.lst (ks.map toKD))
  | _ => none
abbrev gListD := una fListD
theorem rop_listD : ROp G rListD gListD := by
  intro ds vs H Q d h e q
  obtain ⟨a, rfl, e⟩ := una_some e
  obtain ⟨x, rfl, h1⟩ := own1 h
  cases a with
  | dk ks ws =>
    cases e
    obtain ⟨a, us, rfl, l, hH, o⟩ := dk_read h1
    refine ⟨a, _, rfl, hH, fun p hn => ?_⟩
    have : ((ks.zip us).map fun kv => kV kv.1) = ks.map kV := by
      rw [show (fun kv : Key × V => kV kv.1) = kV ∘ (·.1) from rfl, ← List.map_map, List.map_fst_zip (Nat.le_of_eq l)]
    rw [this]
    exact q _ _ [p] (same_upd hn) (fun Z => new_lst (toKDs_pure ks) hn (toKDs_own ks) Z) one_nodup fun b m => by rw [List.mem_singleton.mp m]; exact hn
  | _ => cases e
def fSortD (d : D) : Option D := match d with
  | .dt ks _ => iff? (sortB (ks.map keyPy) = true) (.lst ((ks.mergeSort (PySem.W.dataLe false keyPy)).map toKsD))
  | _ => none
abbrev gSortD := una fSortD
theorem rop_sortD : ROp G (rSortT G.K) gSortD := by
  intro ds vs H Q d h e q
  obtain ⟨a, rfl, e⟩ := una_some e
  obtain ⟨x, rfl, h1⟩ := own1 h
  cases a with
  | dt ks ws =>
    obtain ⟨hs, rfl⟩ := iff?_some (show iff? _ _ = some d from e)
    obtain ⟨a, us, rfl, l, hH, o⟩ := dt_read h1
    obtain ⟨k1, k2, k3⟩ := sortB_ok hs
    have e1 : ((ks.zip us).map fun p => keyPy p.1) = ks.map keyPy := by
      rw [show (fun p : List Key × V => keyPy p.1) = keyPy ∘ (·.1) from rfl, ← List.map_map, List.map_fst_zip (Nat.le_of_eq l)]
    have e2 : (ks.zip us).map (·.1) = ks := List.map_fst_zip (Nat.le_of_eq l)
    refine ⟨a, _, rfl, .inl hH, by rw [e1]; exact k1, by rw [e1]; exact k2, fun p hp => k3 _ (List.mem_map.mpr ⟨p.1, (List.of_mem_zip hp).1, rfl⟩), fun p bs hn hb he => ?_⟩
    rw [e2] at he
    have o2 : OwnL G H H ((bs.map (·.2)).map toKsD) (bs.map fun x => V.ref x.1) [] := by
      clear he
      induction bs with
      | nil => exact ⟨rfl, rfl⟩
      | cons b bs ih =>
        exact OwnL.cons_nil ⟨b.1, _, rfl, hb b List.mem_cons_self, toKDs_own b.2⟩ (ih fun x m => hb x (List.mem_cons_of_mem _ m))
    rw [he] at o2
    exact q _ _ [p] (same_upd hn) (fun Z => new_lst (pureL_mem fun d m => by
      obtain ⟨k, _, rfl⟩ := List.mem_map.mp m
      exact toKDs_pure k) hn o2 Z) one_nodup fun b m => by rw [List.mem_singleton.mp m]; exact hn
  | _ => cases e
variable {e : Expr} {es : List Expr} {t : TA} {hs : List SArg} {p : Pos}
theorem p_lenD (dx : DX X G) (hg : Gl X "len") (hm : X.mg "len" = none) (ha : PA X (e :: es) t) (ht : t = seqTE (hs.map (SArg.te G)) := by rfl) (he : starEach (e :: es) X.env = (false, eval e X.env) :: starEach es X.env := by rfl) (hpl : (backTo pos (starEach es X.env)).any (·.1) = false := by rfl) :
    PE X (.Call (.Name "len" p) (e :: es) [] pos) (TPur G (hOp hs gLenD)) :=
  p_callB call_lenDD hg hm bt_len rop_lenD pure_lenD ha ht (by decide) (by decide) he hpl
theorem e_listD (dx : DX X G) (hg : Gl X "list") (hm : X.mg "list" = none) (c : Chn) (ha : PA X (e :: es) t) (ht : t = seqTE (c.tes G W) := by rfl) (hio : c.iofs.any id = false := by rfl) (he : starEach (e :: es) X.env = (false, eval e X.env) :: starEach es X.env := by rfl) (hpl : (backTo pos (starEach es X.env)).any (·.1) = false := by rfl) :
    PE X (.Call (.Name "list" p) (e :: es) [] pos) (TV G W (eOp c gListD)) :=
  e_callT (call_list_dK dx.calm) hg hm bt_list rop_listD c ha ht hio (by decide) (by decide) he hpl
theorem e_sortD (dx : DX X G) (hg : Gl X "sorted") (hm : X.mg "sorted" = none) (c : Chn) (ha : PA X (e :: es) t) (ht : t = seqTE (c.tes G W) := by rfl) (hio : c.iofs.any id = false := by rfl) (he : starEach (e :: es) X.env = (false, eval e X.env) :: starEach es X.env := by rfl) (hpl : (backTo pos (starEach es X.env)).any (·.1) = false := by rfl) :
    PE X (.Call (.Name "sorted" p) (e :: es) [] pos) (TV G W (eOp c gSortD)) :=
  e_callB (cr_sortT dx.calm (by have := dx.un; omega)) hg hm bt_sorted (r := rSortT X.K) (by rw [dx.K]; exact rop_sortD) c ha ht hio (by decide) (by decide) he hpl
end
/-! ### d[k] = x -/
section
variable {G : Gc} {W : Wsh} {B Z H : Hp} {σ : L2.St} {env : DEnv} {Fs : Nat → List Addr} {X : Cx}
/-- an owned node written -/
theorem mut_fin2 {T : List Addr} {Y : Hp} {its : List (Bool × D)} {vs : List V} (gd : Good G B Z H σ env Fs) (hd : Hand G B Z H Y Fs its vs T) {a : Addr} {u u2 : HO} {d2 : D} (ha : a ∈ T) (hH : H a = some u) (hM : Mut (some u)) (o2 : Own G Z (upd H a u2) d2 (.ref a) [a]) {Q : VK}
    (hF : FinO G W B Z H σ env (PT_ Fs T) [.ref a] (.ok (.non, [d2], env)) Q) : Q .non (upd H a u2) := by
  have sb : Same B (upd H a u2) := fun b u e => by
    rw [upd_ne (fun z => by rw [z, (hd.fr a ha).1] at e; cases e)]
    exact gd.sb b u e
  have sz : Same Z (upd H a u2) := fun b u e => by rw [gd.z0] at e; cases e
  have nt : ∀ (b : Addr) (w : HO), H b = some w → Still w → b ≠ a := fun b w e st z => by
    rw [z, hH] at e; cases e; exact st hM
  have st : Stp G B Z H σ env (PT_ Fs T) Z (upd H a u2) σ env Fs := by
    refine ⟨Same.refl Z, fun b u e n => ?_, ⟨sb, sz, gd.len, fun i => (gd.sl i).keep gd.sb gd.sz sb sz (Same.refl Z) fun b u e m => ?_, gd.nd, gd.dj, gd.fr, gd.z0⟩, fun b m => .inr (.inl m), fun _ m => .inl m, fun j d e => ⟨⟨d, e⟩, rfl⟩, fun j d e => ⟨e, rfl⟩, fun j d e => ⟨e, rfl⟩, fun j d e => ⟨e, rfl⟩, rfl⟩
    · rw [upd_ne (fun z => n (.inr (by rw [z]; exact ha)))]
      exact e
    · rw [upd_ne (fun z => ?_)]
      · exact e
      · rcases m with m | nm
        · exact hd.dj a ha ⟨i, by rw [← z]; exact m⟩
        · exact nt b u e nm z
  refine hF .non Z _ Fs [a] ⟨st, ⟨.non, [.ref a], [], [a], rfl, rfl, ⟨rfl, rfl⟩, ⟨.ref a, [], [a], [], rfl, by simp, o2, rfl, rfl⟩⟩, one_nodup, fun b m => by rw [List.mem_singleton.mp m]; exact hd.dj a ha, fun b m => by rw [List.mem_singleton.mp m]; exact hd.fr a ha, fun b m => by rw [List.mem_singleton.mp m]; exact .inr (.inr ha)⟩
def setDK : Kn := fun ds e => match ds with
  | [x, .dk ks vs, k] => match keyD k with
    | some k => if x.pure = true ∧ D.pureL vs = true ∧ ks.length < 16777216 then .ok (.non, [.dk (putKs ks vs k x) (putVs ks vs k x)], e) else .bad
    | none => .bad
  | [x, .dt ks vs, k] => match keysD k with
    | some k => if x.pure = true ∧ D.pureL vs = true ∧ ks.length < 16777216 then .ok (.non, [.dt (putKs ks vs k x) (putVs ks vs k x)], e) else .bad
    | none => .bad
  | _ => .bad
def rSetD : List V → Hp → VK → Prop := fun vs H Q => match vs with
  | [v, x, y] => ∃ a H4, x = .ref a ∧ DPut H a y v H4 ∧ Q .non H4
  | _ => False
theorem k_setD : KOk G W [false, true, false] [true, true, true] rSetD setDK := by
  intro B Z H σ env Fs its vs T ios Q gd hd hb hn hF
  obtain ⟨x, d1, d2, rfl⟩ := its3 hb
  unfold setDK at hF
  split at hF
  · rename_i x' ks ws k e
    cases e
    split at hF
    · rename_i kk hk
      split at hF
      · rename_i hc
        obtain ⟨u, v, w, F1, F2, F3, rfl, rfl, h3, h1, h2⟩ := hand3 hd.own
        obtain ⟨a, us, F', rfl, l, n, o⟩ := h1
        rcases n with ⟨z, _⟩ | ⟨rfl, hH⟩
        · rw [gd.z0] at z; cases z
        · have hn : ios = [.ref a] := hn
          subst hn
          have hky := keyD_own hk h2
          subst hky
          obtain ⟨q1, q2⟩ := OwnL.ofPure (Z' := H) ws us F' hc.2.1 o
          have hx := (Own.ofPure (Z' := H) x u F1 hc.1 h3).2
          obtain ⟨us2, o2, l2, e2⟩ := put_own (k := kk) q2 hx l
          have hp2 : D.pureL (putVs ks ws kk x) = true := pureL_mem fun d m => by
            obtain ⟨p, hp, rfl⟩ := List.mem_map.mp m
            rcases putG_mem hp with hp | hp
            · exact List.all_eq_true.mp (by
                have := hc.2.1
                revert this
                generalize ws = l
                intro h
                induction l with
                | nil => rfl
                | cons a l ih =>
                  have h : (a.pure && D.pureL l) = true := h
                  rw [Bool.and_eq_true] at h
                  rw [List.all_cons, h.1, ih h.2]; rfl : (ws.all fun d => d.pure) = true) _ (List.of_mem_zip hp).2
            · rw [hp]; exact hc.1
          refine ⟨a, _, rfl, .inl ⟨_, kk, hH, rfl, by rw [← size_line]; simpa [l] using hc.2.2, rfl⟩, ?_⟩
          rw [e2]
          refine mut_fin2 gd hd (by simp) hH trivial ?_ hF
          refine ⟨a, us2, [], rfl, l2, .inr ⟨rfl, upd_same⟩, ?_⟩
          refine OwnL.keep (fun b u e => by rw [gd.z0] at e; cases e) _ _ [] (fun b u e m => ?_) (OwnL.pure_any (Z' := Z) hp2 o2)
          rw [upd_ne (fun z => ?_)]
          · exact e
          · rcases m with m | m
            · cases m
            · rw [z, hH] at e; cases e; exact m trivial
      · exact hF.elim
    · exact hF.elim
  · rename_i x' ks ws k e
    cases e
    split at hF
    · rename_i kk hk
      split at hF
      · rename_i hc
        obtain ⟨u, v, w, F1, F2, F3, rfl, rfl, h3, h1, h2⟩ := hand3 hd.own
        obtain ⟨a, us, F', rfl, l, n, o⟩ := h1
        rcases n with ⟨z, _⟩ | ⟨rfl, hH⟩
        · rw [gd.z0] at z; cases z
        · have hn : ios = [.ref a] := hn
          subst hn
          obtain ⟨b, rfl, hb2⟩ := keysD_own hk h2
          obtain ⟨q1, q2⟩ := OwnL.ofPure (Z' := H) ws us F' hc.2.1 o
          have hx := (Own.ofPure (Z' := H) x u F1 hc.1 h3).2
          obtain ⟨us2, o2, l2, e2⟩ := put_own (k := kk) q2 hx l
          have hp2 : D.pureL (putVs ks ws kk x) = true := pureL_mem fun d m => by
            obtain ⟨p, hp, rfl⟩ := List.mem_map.mp m
            rcases putG_mem hp with hp | hp
            · exact List.all_eq_true.mp (by
                have := hc.2.1
                revert this
                generalize ws = l
                intro h
                induction l with
                | nil => rfl
                | cons a l ih =>
                  have h : (a.pure && D.pureL l) = true := h
                  rw [Bool.and_eq_true] at h
                  rw [List.all_cons, h.1, ih h.2]; rfl : (ws.all fun d => d.pure) = true) _ (List.of_mem_zip hp).2
            · rw [hp]; exact hc.1
          refine ⟨a, _, rfl, .inr ⟨_, kk, b, hH, rfl, hb2, by rw [← size_line]; simpa [l] using hc.2.2, rfl⟩, ?_⟩
          rw [e2]
          refine mut_fin2 gd hd (by simp) hH trivial ?_ hF
          refine ⟨a, us2, [], rfl, l2, .inr ⟨rfl, upd_same⟩, ?_⟩
          refine OwnL.keep (fun b u e => by rw [gd.z0] at e; cases e) _ _ [] (fun b u e m => ?_) (OwnL.pure_any (Z' := Z) hp2 o2)
          rw [upd_ne (fun z => ?_)]
          · exact e
          · rcases m with m | m
            · cases m
            · rw [z, hH] at e; cases e; exact m trivial
      · exact hF.elim
    · exact hF.elim
  · exact hF.elim
theorem s_setD {o i value : Expr} {to ti te : TE} {pos' pos : Pos} (dx : DX X G) (c : Chn) (hv : PE X value te) (ho : PE X o to) (hi : PE X i ti) (hc : c.tes G W = [te, to, ti] := by rfl) (hn : c.iofs = [false, true, false] := by rfl) (hb : c.kinds = [true, true, true] := by rfl)
    (hs : swapsWith value (some (.Subscript o i pos')) pos.line X.env = pure false := by rfl) : PS X (.Assign [.Subscript o i pos'] value pos) (TSt G W (sExpr (eK c setDK))) :=
  (ps_dput (by have := dx.un; omega) ho hi hv hs).imp fun En σ H ⟨B, Z, Fs, env, gd, q⟩ => by
    have q1 : TV G W (eK c setDK) σ H (fun _ H1 => En.nx σ H1) := by
      refine ⟨B, Z, Fs, env, gd, ?_⟩
      unfold sExpr at q
      unfold FinV
      cases hf : eK c setDK env with
      | bad => rw [hf] at q; exact q.elim
      | exc c => rw [hf] at q; exact q
      | ok p =>
        rw [hf] at q
        exact fun v Z' H' Fs' F p => q σ Z' H' Fs' p.st
    have q2 := tv_chn (c := c) k_setD hn hb σ H _ q1
    rw [hc] at q2
    exact q2

/-! ### for k, v in d.items(), d a new dict -/
theorem pe_frz {e : Expr} {te : TE} (h : PE X e te) : PE X e (fun σ H Q => te σ H fun x H1 => ∃ a u, x = .ref a ∧ H1 a = some u ∧ Mut (some u) ∧ ∀ od, Q x (upd H1 a (.frz od u))) := by
  refine ⟨fun pins s σ H Q I hw => ?_⟩
  refine thn (h.run pins s σ H _ I hw) fun v s1 ⟨x, H1, I1, r, a, u, ex, hu, hm, q⟩ => ?_
  obtain ⟨od, I2⟩ := I1.lock hu hm
  exact ⟨x, _, I2, r, q od⟩
theorem Unl.holdR {P : Addr → Prop} {B1 Z1 H1 : Hp} {env1 : DEnv} {Fs1 : Nat → List Addr} {u : DEnv → DEnv} {F : List Addr} (w : Unl G B Z H σ env P B1 Z1 H1 env1 Fs1 u) (hd : ∀ a, a ∈ F → ¬ InF Fs1 a) : Unl G B Z H σ env P (lay B1 H1 F) Z1 H1 env1 Fs1 u := by
  have g := w.good
  have up : Same B1 (lay B1 H1 F) := lay_up g.sb
  have le : Same (lay B1 H1 F) H1 := lay_le g.sb
  refine ⟨⟨le, g.sz, g.len, fun j => ?_, g.nd, g.dj, fun i a m => ⟨?_, (g.fr i a m).2⟩, g.z0⟩, w.bb.trans up, w.hh, fun Z2 H2 σ2 e2 F2 s => ?_⟩
  · have h := g.sl j
    have j1 : Same (joi B1 Z1) (joi (lay B1 H1 F) Z1) := joi_mono up (Same.refl Z1) le g.sz
    unfold SlotOk at h ⊢
    match hs : env1[j]?, h with
    | some (some (.own, d)), h => exact h
    | some (some (.io, d)), h => exact h
    | some (some (.shr, d)), h => exact h
    | some (some (.brw, d)), h => obtain ⟨v, e, h, f⟩ := h; exact ⟨v, e, Own.keep j1 d v [] (fun _ _ e _ => e) h, f⟩
    | some (some (.lck, d)), h => obtain ⟨v, e, h, f⟩ := h; exact ⟨v, e, Own.keep j1 d v [] (fun _ _ e _ => e) h, f⟩
    | some none, h => exact h
    | none, h => exact h
  · rw [lay_out fun n => hd a n ⟨i, m⟩]
    exact (g.fr i a m).1
  · obtain ⟨F3, s3, h3⟩ := w.out _ _ _ _ _ (s.unB g up g.pm)
    refine ⟨F3, s3, fun a n b => h3 a n ?_⟩
    cases q : B1 a with
    | none => rfl
    | some o =>
      have := up a o q
      rw [b] at this; cases this
def itemsD (ks : List Key) (vs : List D) : List D := (ks.zip vs).map fun p => .tup [toKD p.1, p.2]
def mkItems : List D → Option (List D)
  | [.dk ks vs] => if ks.length = vs.length ∧ D.pureL vs = true then some (itemsD ks vs) else none
  | _ => none
theorem i_items {elts : List Expr} {kk : Nat} {tpos apos cpos : Pos} {e : Expr} {f : DEnv → Out (D × DEnv)} (he : PE X e (TV G W f)) (hbase : attributeBase e "items" X.env (eval e X.env) = eval e X.env := by rfl) (hline : (apos.endLine == cpos.line) = true := by rfl) :
    PI X (.Tuple elts kk tpos) (.Call (.Attribute e "items" apos) [] [] cpos) (TSrc G W [.own f] mkItems) :=
  (pi_items (pe_frz he) hbase hline).imp fun σ H R ⟨B, Z, Fs, env, g, q⟩ => by
    refine ⟨B, Z, Fs, env, g, ?_⟩
    have e0 : evO [.own f] env = (f env >>= fun p => .ok ([p.1], [], p.2)) := rfl
    rw [e0] at q
    unfold FinV
    cases hf : f env with
    | bad => rw [hf] at q; exact q.elim
    | exc c => rw [hf] at q; exact q
    | ok p =>
      obtain ⟨d, e1⟩ := p
      rw [hf] at q
      have q : ∃ xs, mkItems [d] = some xs ∧ ∀ B1 Z1 H1 Fs1 J, Unl G B Z H σ env (InF Fs) B1 Z1 H1 e1 Fs1 (unlk []) → IterOk G (joi B1 Z1) H1 J xs → R J H1 := q
      obtain ⟨xs, hx, q⟩ := q
      intro v Z' H' Fs' F p
      unfold mkItems at hx
      split at hx
      · rename_i ks vs e
        cases e
        split at hx
        · rename_i hc
          cases hx
          have hown := p.one
          obtain ⟨a, us, F', rfl, l, n, o⟩ := hown
          rcases n with ⟨z, _⟩ | ⟨rfl, hH⟩
          · rw [p.st.good.z0] at z; cases z
          · obtain ⟨rfl, o2⟩ := OwnL.ofPure (Z' := H') vs us F' hc.2 o
            refine ⟨a, _, rfl, hH, trivial, fun od => ⟨a, od, ks.zip us, rfl, upd_same, ?_⟩⟩
            have gd := p.st.good
            have hna : ¬ InF Fs' a := p.dj a List.mem_cons_self
            have hfr := p.fr a List.mem_cons_self
            generalize hH2 : upd H' a (.frz od (.dK (ks.zip us))) = H2
            have hat : H2 a = some (.frz od (.dK (ks.zip us))) := by rw [← hH2]; exact upd_same
            have hne : ∀ b, b ≠ a → H2 b = H' b := fun b hb => by rw [← hH2]; exact upd_ne hb
            have nt : ∀ (b : Addr) (w : HO), H' b = some w → Still w → b ≠ a := fun b w e st z => by
              rw [z, hH] at e; cases e; exact st trivial
            have sb : Same B H2 := fun b u e => by
              rw [hne b (fun z => by rw [z, hfr.1] at e; cases e)]
              exact gd.sb b u e
            have sz : Same Z' H2 := fun b u e => by rw [gd.z0] at e; cases e
            have st2 : Stp G B Z' H' σ e1 (fun b => InF Fs' b ∨ b ∈ [a]) Z' H2 σ e1 Fs' := by
              refine ⟨Same.refl Z', fun b u e n => ?_, ⟨sb, sz, gd.len, fun i => (gd.sl i).keep gd.sb gd.sz sb sz (Same.refl Z') fun b u e m => ?_, gd.nd, gd.dj, gd.fr, gd.z0⟩, fun b m => .inr (.inl m), fun _ m => .inl m, fun j d e => ⟨⟨d, e⟩, rfl⟩, fun j d e => ⟨e, rfl⟩, fun j d e => ⟨e, rfl⟩, fun j d e => ⟨e, rfl⟩, rfl⟩
              · rw [hne b (fun z => n (.inr (by rw [z]; exact List.mem_cons_self)))]
                exact e
              · rw [hne b (fun z => ?_)]
                · exact e
                · rcases m with m | nm
                  · exact hna ⟨i, by rw [← z]; exact m⟩
                  · exact nt b u e nm z
            have st3 := p.st.trans (P1 := fun b => InF Fs' b ∨ b ∈ [a]) (fun b m => m.elim (p.st.new b) (p.new b)) st2
            have w := ((Unl.refl g).step st3).holdR (F := [a]) (fun b m => by rw [List.mem_singleton.mp m]; exact hna)
            refine q _ _ _ _ _ w fun i H3 y t => ?_
            have hB : joi (lay B H2 [a]) Z' a = some (.frz od (.dK (ks.zip us))) := by
              refine joi_left a _ ?_
              rw [lay_in List.mem_cons_self]
              exact hat
            have h3 := y a _ hB
            have o3 : OwnL G (joi (lay B H2 [a]) Z') H3 vs us [] := by
              refine OwnL.keepT (Same.refl _) (TK.trans ?_ t) (OwnL.pure_any (Z' := joi (lay B H2 [a]) Z') hc.2 o2)
              intro b u e st
              rw [hne b (nt b u e st)]
              exact e
            refine ⟨fun x e => ?_, fun hl => ⟨h3, ?_⟩⟩
            · unfold itemsD at e
              rw [List.getElem?_map] at e
              obtain ⟨⟨k, dv⟩, he, rfl⟩ := map_some2 e
              have hk : ks[i]? = some k ∧ vs[i]? = some dv := List.getElem?_zip_eq_some.mp he
              obtain ⟨vv, ev, hv⟩ := OwnL.at o3 hk.2
              have hz : (ks.zip us)[i]? = some (k, vv) := List.getElem?_zip_eq_some.mpr ⟨hk.1, ev⟩
              have hlt : i < (ks.zip us).length := (List.getElem?_eq_some_iff.mp hz).1
              refine ⟨⟨h3, hlt⟩, fun w H4 yy => ?_⟩
              obtain ⟨T, k2, v2, hz2, rfl, hT, eH⟩ := yy
              rw [hz] at hz2
              cases hz2
              exact pair_new hT eH (toKD_own k) hv
            · have : (itemsD ks vs).length = ks.length := by unfold itemsD; simp [hc.1]
              rw [hl, this]
              simp [l]
        · cases hx
      · cases hx
end
end DL

/-! max and min with a default */ -/
namespace DL
open PySem PySem.Spec PyProof.Rows L2
def maxDI (d : Int) : List Int → Int
  | [] => d
  | n :: r => r.foldl max n
def minDI (d : Int) : List Int → Int
  | [] => d
  | n :: r => r.foldl min n
theorem dpAll_ints {K : PySem.W.Frag} {H : Hp} : ∀ ns : List Int, DpAll K H (ns.map V.int) (ns.map .int)
  | [] => .nil
  | n :: ns => .cons (.int n) (dpAll_ints ns)
theorem alike_ints2 (ns : List Int) : PySem.W.AlikeAll (ns.map PyData.int) := by
  refine ⟨fun x hx y hy => ?_, fun x hx => ?_⟩
  · obtain ⟨a, _, rfl⟩ := List.mem_map.mp hx
    obtain ⟨b, _, rfl⟩ := List.mem_map.mp hy
    rfl
  · obtain ⟨a, _, rfl⟩ := List.mem_map.mp hx
    exact nofun
section
variable {G : Gc} {W : Wsh} {X : Cx}
def rMaxD (K : PySem.W.Frag) (f : Int → List Int → Int) : List V → List V → Hp → VK → Prop := fun xs zs H Q => ∃ (a : Addr) (ns : List Int) (d : Int), xs = [.ref a] ∧ zs = [.int d] ∧ SqL K H a (ns.map V.int) ∧ Q (.int (f d ns)) H
theorem cr_maxD (hc : X.calm = true) (hu : X.A.units + 64 < cLine) : CallRK X (.builtin "max") [Str.ofString "default"] (rMaxD X.K maxDI) := by
  intro pins s σ H xs zs us ws Q I r1 r2 h
  obtain ⟨a, ns, d, rfl, rfl, hs, q⟩ := h
  obtain ⟨u, rfl, rx⟩ := vals1 r1
  obtain ⟨w, rfl, t, rfl⟩ := vals1 r2
  cases rx
  obtain ⟨its, rv, pl, _⟩ := I.list hs
  obtain ⟨as, hr⟩ := Dp.readsAll I (ns.map .int) _ its (dpAll_ints ns) rv
  refine PySem.W.max_list_default (xs := ns.map .int) (I.ok.hd hc) pl.isList hr (alike_ints2 ns) (by have := PySem.W.depth_ints ns; omega) (fun h0 h2 tk hk => ?_) fun y ys i v h2 tk bs e hv hrd hk => ?_
  · have : ns = [] := by simpa using h0
    subst this
    exact ⟨.int d, H, I.kept hk, ⟨t, rfl⟩, q⟩
  · cases ns with
    | nil => cases e
    | cons n ns =>
      cases e
      rw [PySem.W.maxD_ints] at hrd
      cases hrd with
      | int t => exact ⟨.int _, H, I.kept hk, ⟨_, rfl⟩, q⟩
theorem cr_minD (hc : X.calm = true) (hu : X.A.units + 64 < cLine) : CallRK X (.builtin "min") [Str.ofString "default"] (rMaxD X.K minDI) := by
  intro pins s σ H xs zs us ws Q I r1 r2 h
  obtain ⟨a, ns, d, rfl, rfl, hs, q⟩ := h
  obtain ⟨u, rfl, rx⟩ := vals1 r1
  obtain ⟨w, rfl, t, rfl⟩ := vals1 r2
  cases rx
  obtain ⟨its, rv, pl, _⟩ := I.list hs
  obtain ⟨as, hr⟩ := Dp.readsAll I (ns.map .int) _ its (dpAll_ints ns) rv
  refine PySem.W.min_list_default (xs := ns.map .int) (I.ok.hd hc) pl.isList hr (alike_ints2 ns) (by have := PySem.W.depth_ints ns; omega) (fun h0 h2 tk hk => ?_) fun y ys i v h2 tk bs e hv hrd hk => ?_
  · have : ns = [] := by simpa using h0
    subst this
    exact ⟨.int d, H, I.kept hk, ⟨t, rfl⟩, q⟩
  · cases ns with
    | nil => cases e
    | cons n ns =>
      cases e
      rw [PySem.W.minD_ints] at hrd
      cases hrd with
      | int t => exact ⟨.int _, H, I.kept hk, ⟨_, rfl⟩, q⟩
def fMaxD (f : Int → List Int → Int) (a d : D) : Option D := match a, d with
  | .lst xs, .int d => (D.ints xs).map fun ns => .int (f d ns)
  | _, _ => none
abbrev gMaxD := bin (fMaxD maxDI)
abbrev gMinD := bin (fMaxD minDI)
def rMaxD2 (K : PySem.W.Frag) (f : Int → List Int → Int) : List V → Hp → VK → Prop := fun vs H Q => match vs with
  | [x, d] => rMaxD K f [x] [d] H Q
  | _ => False
theorem rop_maxD {f : Int → List Int → Int} : ROp G (rMaxD2 G.K f) (bin (fMaxD f)) := by
  intro ds vs H Q d h e q
  obtain ⟨a, b, rfl, e⟩ := bin_some e
  obtain ⟨x, y, rfl, h1, h2⟩ := own2 h
  replace e : fMaxD f a b = some d := e
  unfold fMaxD at e
  split at e
  · obtain ⟨ns, hn, rfl⟩ := map_some2 e
    obtain ⟨p, rfl, hs⟩ := lst_ints h1 hn
    exact ⟨p, ns, _, rfl, by rw [h2.1], hs, done0 q fun Z => ⟨rfl, rfl⟩⟩
  · cases e
variable {e dd : Expr} {te td : TE} {p pos kpos : Pos}
theorem e_maxD (dx : DX X G) (hg : Gl X "max") (hm : X.mg "max" = none) (c : Chn) (he : PE X e te) (hd : PE X dd td) (hc : c.tes G W = [te, td] := by rfl) (hn : c.iofs.any id = false := by rfl) (hs : starEach [e] X.env = (false, eval e X.env) :: starEach [] X.env := by rfl)
    (he2 : backTo pos (starEach [e] X.env) = (false, eval e X.env) :: backTo pos (starEach [] X.env) := by rfl) (hpl : (backTo pos (starEach [e] X.env)).any (·.1) = false := by rfl)
    (hall : (backToKw pos (keywordEach [⟨some "default", dd, kpos⟩] X.env)).all (·.1.isSome) = true := by rfl) (hnone : (backToKw pos (keywordEach [⟨some "default", dd, kpos⟩] X.env)).any (·.1.isNone) = false := by rfl) (hks : (backToKw pos (keywordEach [⟨some "default", dd, kpos⟩] X.env)).filterMap (·.1) = [Str.ofString "default"] := by rfl) :
    PE X (.Call (.Name "max" p) [e] [⟨some "default", dd, kpos⟩] pos) (TV G W (eOp c gMaxD)) :=
  (pe_callBK (cr_maxD dx.calm (by have := dx.un; omega)) hg hm bt_max (pa_cons he pa_nil hs) (pk_cons hd pk_nil) (by decide) (by decide) he2 hpl hall hnone hks).imp fun σ H Q h => by
    have q := tv_op (r := rMaxD2 X.K maxDI) (by rw [dx.K]; exact rop_maxD) hn σ H Q h
    rw [hc] at q
    exact q
theorem e_minD (dx : DX X G) (hg : Gl X "min") (hm : X.mg "min" = none) (c : Chn) (he : PE X e te) (hd : PE X dd td) (hc : c.tes G W = [te, td] := by rfl) (hn : c.iofs.any id = false := by rfl) (hs : starEach [e] X.env = (false, eval e X.env) :: starEach [] X.env := by rfl)
    (he2 : backTo pos (starEach [e] X.env) = (false, eval e X.env) :: backTo pos (starEach [] X.env) := by rfl) (hpl : (backTo pos (starEach [e] X.env)).any (·.1) = false := by rfl)
    (hall : (backToKw pos (keywordEach [⟨some "default", dd, kpos⟩] X.env)).all (·.1.isSome) = true := by rfl) (hnone : (backToKw pos (keywordEach [⟨some "default", dd, kpos⟩] X.env)).any (·.1.isNone) = false := by rfl) (hks : (backToKw pos (keywordEach [⟨some "default", dd, kpos⟩] X.env)).filterMap (·.1) = [Str.ofString "default"] := by rfl) :
    PE X (.Call (.Name "min" p) [e] [⟨some "default", dd, kpos⟩] pos) (TV G W (eOp c gMinD)) :=
  (pe_callBK (cr_minD dx.calm (by have := dx.un; omega)) hg hm bt_min (pa_cons he pa_nil hs) (pk_cons hd pk_nil) (by decide) (by decide) he2 hpl hall hnone hks).imp fun σ H Q h => by
    have q := tv_op (r := rMaxD2 X.K minDI) (by rw [dx.K]; exact rop_maxD) hn σ H Q h
    rw [hc] at q
    exact q
end
end DL

/-! a list in a tuple, emptied -/
namespace DL
open PySem PySem.Spec PyProof.Rows L2
section
variable {G : Gc} {W : Wsh} {B Z H : Hp} {σ : L2.St} {env : DEnv} {Fs : Nat → List Addr} {X : Cx}
theorem mut_fin3 {T : List Addr} {Y : Hp} {its : List (Bool × D)} {vs : List V} (gd : Good G B Z H σ env Fs) (hd : Hand G B Z H Y Fs its vs T) {a : Addr} {u u2 : HO} {d2 : D} {v : V} (ha : a ∈ T) (hH : H a = some u) (hM : Mut (some u)) (o2 : Own G Z (upd H a u2) d2 v [a]) {Q : VK}
    (hF : FinO G W B Z H σ env (PT_ Fs T) [v] (.ok (.non, [d2], env)) Q) : Q .non (upd H a u2) := by
  have sb : Same B (upd H a u2) := fun b u e => by
    rw [upd_ne (fun z => by rw [z, (hd.fr a ha).1] at e; cases e)]
    exact gd.sb b u e
  have sz : Same Z (upd H a u2) := fun b u e => by rw [gd.z0] at e; cases e
  have nt : ∀ (b : Addr) (w : HO), H b = some w → Still w → b ≠ a := fun b w e st z => by
    rw [z, hH] at e; cases e; exact st hM
  have st : Stp G B Z H σ env (PT_ Fs T) Z (upd H a u2) σ env Fs := by
    refine ⟨Same.refl Z, fun b u e n => ?_, ⟨sb, sz, gd.len, fun i => (gd.sl i).keep gd.sb gd.sz sb sz (Same.refl Z) fun b u e m => ?_, gd.nd, gd.dj, gd.fr, gd.z0⟩, fun b m => .inr (.inl m), fun _ m => .inl m, fun j d e => ⟨⟨d, e⟩, rfl⟩, fun j d e => ⟨e, rfl⟩, fun j d e => ⟨e, rfl⟩, fun j d e => ⟨e, rfl⟩, rfl⟩
    · rw [upd_ne (fun z => n (.inr (by rw [z]; exact ha)))]
      exact e
    · rw [upd_ne (fun z => ?_)]
      · exact e
      · rcases m with m | nm
        · exact hd.dj a ha ⟨i, by rw [← z]; exact m⟩
        · exact nt b u e nm z
  refine hF .non Z _ Fs [a] ⟨st, ⟨.non, [v], [], [a], rfl, rfl, ⟨rfl, rfl⟩, ⟨v, [], [a], [], rfl, by simp, o2, rfl, rfl⟩⟩, one_nodup, fun b m => by rw [List.mem_singleton.mp m]; exact hd.dj a ha, fun b m => by rw [List.mem_singleton.mp m]; exact hd.fr a ha, fun b m => by rw [List.mem_singleton.mp m]; exact .inr (.inr ha)⟩
def clr1K : Kn := fun ds e => match ds with
  | [.tupF f [d0, .lst xs]] => if d0.pure = true then .ok (.non, [.tupF f [d0, .lst []]], e) else .bad
  | _ => .bad
def rClr1 (K : PySem.W.Frag) : List V → Hp → VK → Prop := fun vs H Q => ∃ a v0 l xs, vs = [.ref a] ∧ SqT K H a [v0, .ref l] ∧ H l = some (.lst xs) ∧ Q .non (upd H l (.lst []))
theorem k_clr1 : KOk G W [true] [true] (rClr1 G.K) clr1K := by
  intro B Z H σ env Fs its vs T ios Q gd hd hb hn hF
  obtain ⟨d1, rfl⟩ := its1 hb
  unfold clr1K at hF
  split at hF
  · rename_i f d0 xs e
    cases e
    split at hF
    · rename_i hp
      obtain ⟨v, rfl, a, ws, rfl, ht, o⟩ := hand1 hd.own
      obtain ⟨v0, r, F1, F2, rfl, rfl, o0, o1⟩ := o
      obtain ⟨v1, r1, F3, F4, rfl, rfl, ol, rfl, rfl⟩ := o1
      obtain ⟨rfl, _⟩ := Own.ofPure (Z' := Z) d0 v0 F1 hp o0
      obtain ⟨l, us, F', rfl, rfl, hH, _⟩ := ol.alive gd.z0
      subst hn
      refine ⟨a, v0, l, us, rfl, ht.seq, hH, ?_⟩
      have nl : ∀ (b : Addr) (w : HO), H b = some w → Still w → b ≠ l := fun b w e st z => by
        rw [z, hH] at e; cases e; exact st trivial
      have kp : ∀ (b : Addr) (w : HO), H b = some w → Still w → upd H l (.lst []) b = some w := fun b w e st => by
        rw [upd_ne (nl b w e st)]; exact e
      refine mut_fin3 gd hd (by simp) hH trivial ?_ hF
      refine ⟨a, [v0, .ref l], rfl, ht.keep kp, v0, [.ref l], [], [l], rfl, rfl, ?_, .ref l, [], [l], [], rfl, rfl, ⟨l, [], [], rfl, .inr ⟨rfl, upd_same⟩, rfl, rfl⟩, rfl, rfl⟩
      exact Own.keep (Same.refl Z) d0 v0 [] (fun b w e m => kp b w e (m.elim (fun m => (by cases m)) id)) o0
    · exact hF.elim
  · exact hF.elim
theorem e_clr1 {o i : Expr} {apos cpos spos : Pos} {j : Nat} (dx : DX X G) (ho : PE X o (tVar j)) (hi : PE X i (tC (.int 1))) (hs : PlainIx i := by exact fun _ _ => rfl)
    (hbase : attributeBase (.Subscript o i spos) "clear" X.env (eval (.Subscript o i spos) X.env) = eval (.Subscript o i spos) X.env := by rfl) (hline : (apos.endLine == cpos.line) = true := by rfl) : PE X (.Call (.Attribute (.Subscript o i spos) "clear" apos) [] [] cpos) (TV G W (eK (.io j (.fin [])) clr1K)) :=
  (pe_bm0 F.plainAttrs_list F.slot_list_clear F.type_list_clear mt_clear (pe_ix ix_tup ho hi hs) hbase hline).imp fun σ H Q h => by
    obtain ⟨v, ev, q⟩ := tv_chn (c := .io j (.fin [])) k_clr1 rfl rfl σ H Q h
    obtain ⟨a, v0, l, xs, e, h1, h2, q⟩ := q
    cases e
    exact ⟨_, ev, a, [v0, .ref l], 1, .ref l, rfl, rfl, by rw [dx.K]; exact h1, rfl, .inl ⟨rfl, xs, SqL.of h2⟩, l, xs, rfl, rfl, h2, q⟩
end
end DL

/-! tuples known to be plain: displays, +, count -/
namespace DL
open PySem PySem.Spec PyProof.Rows L2
section
variable {G : Gc} {W : Wsh} {X : Cx}
/-! ### displays -/
def tTupX (t : TA) : TE := fun σ H Q => t σ H fun xs H1 => xs.length ≤ sizeLine ∧ ∀ p (o : Obj), H1 p = none → o.dict = none → Q (.ref p) (upd H1 p (.frz o (.tup xs)))
theorem pe_tupX {x1} {es : List Expr} {t : TA} {pos : Pos} (h : PA X es t) : PE X (.Tuple es x1 pos) (tTupX t) := by
  refine ⟨fun pins s σ H Q I hq => ?_⟩
  refine wpAny_Tuple_spliced (thn (h.run pos pins s σ H _ I hq) fun us s1 ⟨xs, H1, I1, r, z, q⟩ => ⟨by rw [← r.length]; exact z, ?_⟩)
  have hf : H1 s1.heap.objs.size = none := I1.hok.fresh (Nat.le_refl _)
  refine ⟨.ref s1.heap.objs.size, upd H1 s1.heap.objs.size (.frz { cls := .type "tuple", data := .seq us.toArray } (.tup xs)), I1.laid (t' := s1.toks) (fun b u e => Heap.get?_push_of_some _ e) (Nat.le_refl _) ?_, rfl, q _ _ hf rfl⟩
  exact ⟨Heap.get?_push_size _ rfl, z, us, r, ⟨_, Heap.get?_push_size _ rfl, rfl, _, rfl⟩⟩
def fTupP (ds : List D) : Option D := iff? (D.pureL ds = true ∧ ds.length ≤ 16777216) (.tupF true ds)
theorem rop_tupP : ROp G (fun vs H Q => vs.length ≤ sizeLine ∧ ∀ p (o : Obj), H p = none → o.dict = none → Q (.ref p) (upd H p (.frz o (.tup vs)))) fTupP := by
  intro ds vs H Q d h e q
  obtain ⟨⟨hp, hl⟩, rfl⟩ := iff?_some e
  refine ⟨by rw [← size_line, OwnL.length h]; exact hl, fun p o hn hd => ?_⟩
  exact q _ _ [] (same_upd hn) (fun Z => ⟨p, vs, rfl, ⟨o, hd, upd_same⟩, OwnL.keep (Same.refl Z) ds vs [] (fun b u e _ => same_upd hn b u e) (OwnL.pure_any hp h)⟩) List.nodup_nil fun a m => by cases m
theorem pure_tupP : PureG fTupP := fun ds d e => by
  obtain ⟨⟨hp, hl⟩, rfl⟩ := iff?_some e
  exact hp
theorem p_tupP {es : List Expr} {t : TA} {hs : List SArg} {k : Nat} {pos : Pos} (h : PA X es t) (ht : t = seqTE (hs.map (SArg.te G)) := by rfl) : PE X (.Tuple es k pos) (TPur G (hOp hs fTupP)) :=
  (pe_tupX h).imp fun σ H Q hq => by
    subst ht
    exact tpur_op rop_tupP pure_tupP σ H Q hq
/-! ### + -/
def rCatX (K : PySem.W.Frag) : R2 := fun x y H Q => ∃ a b xs ys, x = .ref a ∧ y = .ref b ∧ SqT K H a xs ∧ SqT K H b ys ∧ xs.length + ys.length ≤ sizeLine ∧
  (xs = [] → Q (.ref b) H) ∧ (xs ≠ [] → ys = [] → Q (.ref a) H) ∧ (xs ≠ [] → ys ≠ [] → ∀ p (o : Obj), H p = none → o.dict = none → Q (.ref p) (upd H p (.frz o (.tup (xs ++ ys)))))
theorem op_catX : OpR X (binaryOp .Add) (rCatX X.K) := by
  intro pins s σ H x y v u Q I rx ry h
  obtain ⟨a, b, xs, ys, rfl, rfl, ha, hb, hz, q0, q1, q2⟩ := h
  by_cases hx : xs = []
  · exact op_catA pins s σ H _ _ v u Q I rx ry ⟨a, b, xs, ys, rfl, rfl, ha, hb, hz, q0, q1, fun z => absurd hx z⟩
  · by_cases hy : ys = []
    · exact op_catA pins s σ H _ _ v u Q I rx ry ⟨a, b, xs, ys, rfl, rfl, ha, hb, hz, q0, q1, fun _ z => absurd hy z⟩
    · cases rx
      cases ry
      obtain ⟨its, r1, p1, _⟩ := I.tuple ha
      obtain ⟨its2, r2, p2, _⟩ := I.tuple hb
      refine HT.cat_tup p1 p2 (fun z => hx (r1.nil_iff.mp z)) (fun z => absurd (r2.nil_iff.mp z) hy) (fun z => ?_) (by rw [← r1.length, ← r2.length]; exact hz)
      refine ⟨.ref s.heap.objs.size, _, I.laid (t' := s.toks) (o := .frz { cls := .type "tuple", data := .seq (its ++ its2).toArray } (.tup (xs ++ ys))) (fun b ob q => Heap.get?_push_of_some _ q) (Nat.le_refl _) ?_, rfl, q2 hx hy _ _ (I.hok.fresh (Nat.le_refl _)) rfl⟩
      exact ⟨Heap.get?_push_size _ rfl, by rw [List.length_append]; exact hz, _, r1.append r2, IsTup.new _ _⟩
def fAddX (a b : D) : Option D := match a, b with
  | .tupF true x, .tupF true y => iff? (D.pureL x = true ∧ D.pureL y = true ∧ x.length + y.length ≤ 16777216) (.tupF true (x ++ y))
  | _, _ => none
abbrev gAddX := bin fAddX
theorem fAddX_some {a b d : D} (h : fAddX a b = some d) : ∃ x y, a = .tupF true x ∧ b = .tupF true y ∧ (D.pureL x = true ∧ D.pureL y = true ∧ x.length + y.length ≤ 16777216) ∧ d = .tupF true (x ++ y) := by
  unfold fAddX at h
  split at h
  · obtain ⟨h1, rfl⟩ := iff?_some h
    exact ⟨_, _, rfl, rfl, h1, rfl⟩
  · cases h
theorem rop_addX : ROp G (l2 (rCatX G.K)) gAddX := by
  intro ds vs H Q d h e q
  obtain ⟨a, b, rfl, e⟩ := bin_some e
  obtain ⟨x, y, rfl, h1, h2⟩ := own2 h
  obtain ⟨a, b, rfl, rfl, hl, rfl⟩ := fAddX_some e
  obtain ⟨p, us, rfl, e1, o1⟩ := h1
  obtain ⟨p2, us2, rfl, e2, o2⟩ := h2
  have l1 := OwnL.length o1
  have l2 := OwnL.length o2
  refine ⟨p, p2, us, us2, rfl, rfl, e1.seq, e2.seq, by rw [← size_line, l1, l2]; exact hl.2.2, fun z => ?_, fun _ z => ?_, fun _ _ p3 o hn hd => ?_⟩
  · subst z
    have : a = [] := List.eq_nil_of_length_eq_zero l1.symm
    subst this
    exact done0 q (fun Z => ⟨p2, us2, rfl, e2, OwnL.pure_any hl.2.1 o2⟩)
  · subst z
    have : b = [] := List.eq_nil_of_length_eq_zero l2.symm
    subst this
    rw [List.append_nil] at q
    exact done0 q (fun Z => ⟨p, us, rfl, e1, OwnL.pure_any hl.1 o1⟩)
  · have hpp : D.pureL (a ++ b) = true := by rw [D.pureL_append, hl.1, hl.2.1]; rfl
    have hap := OwnL.append o1 o2
    rw [List.append_nil] at hap
    exact q _ _ [] (same_upd hn) (fun Z => ⟨p3, us ++ us2, rfl, ⟨o, hd, upd_same⟩, OwnL.keep (Same.refl Z) (a ++ b) (us ++ us2) [] (fun b u e _ => same_upd hn b u e) (OwnL.pure_any hpp hap)⟩) List.nodup_nil fun a m => by cases m
theorem pure_addX : PureG gAddX := by
  intro ds d e
  obtain ⟨a, b, rfl, e⟩ := bin_some e
  obtain ⟨a, b, rfl, rfl, hl, rfl⟩ := fAddX_some e
  show D.pureL (a ++ b) = true
  rw [D.pureL_append, hl.1, hl.2.1]; rfl
/-! ### count -/
def rTCnt (K : PySem.W.Frag) : V → List V → Hp → VK → Prop := fun x xs H Q => ∃ (p : Addr) (ys : List Str) (z : Str), x = .ref p ∧ xs = [.str z] ∧ SqT K H p (ys.map V.str) ∧ Q (.int (ys.count z : Nat)) H
theorem eqU_strs {z : Str} : ∀ {ys : List Str} {us : List Value}, Vals (ys.map V.str) us → us.countP (eqU (.str z)) = ys.count z
  | [], _, .nil => rfl
  | y :: ys, _, .cons r t => by
    have ih := eqU_strs (z := z) t
    obtain ⟨k, rfl⟩ := r
    rw [List.countP_cons, List.count_cons, ih]
    rfl
theorem mt_tup_count : MtR X "tuple.count" (rTCnt X.K) := by
  intro pins s σ H x xs v us Q I rx rs h
  obtain ⟨p, ys, z, rfl, rfl, hq, q⟩ := h
  cases rx
  obtain ⟨u, rfl, t, rfl⟩ := vals1 rs
  obtain ⟨its, r, pl, hz⟩ := I.tuple hq
  obtain ⟨⟨cls, dd, dt, sl⟩, ho, hc, n, hd⟩ := pl
  simp only at hc hd
  subst hc
  subst hd
  refine call_meets PySem.F.slot_tuple_count ⟨_, ho, rfl⟩ PySem.F.entry_tuple_count (PySem.F.args_tuple_count_2 _ _) (SeqAt.tuple_countAt p its.toArray n dd sl (.str z t) (eqU (.str z)))
    ⟨ho, fun w hw => mem_eqAt (x := .str z) ⟨t, rfl⟩ rfl r (flat_strs ys) w (by simpa using hw), ⟨.int (ys.count z : Nat), H, I.tok _, ⟨s.toks, ?_⟩, q⟩⟩
  show Value.int ((its.toArray.toList.countP (eqU (.str z)) : Nat) : Int) s.toks = Value.int ((ys.count z : Nat) : Int) s.toks
  rw [show its.toArray.toList = its from rfl, eqU_strs r]
def fTCnt (a b : D) : Option D := match a, b with
  | .tupF true xs, .str z => (D.strs xs).map fun ys => .int (ys.count z : Nat)
  | _, _ => none
abbrev gTCnt := bin fTCnt
theorem rop_tCnt {Y : Cx} (hY : Y.K = G.K) : ROp G (rvM (rTCnt Y.K)) gTCnt := by
  intro ds vs H Q d h e q
  obtain ⟨a, b, rfl, e⟩ := bin_some e
  obtain ⟨x, y, rfl, h1, h2⟩ := own2 h
  replace e : fTCnt a b = some d := e
  unfold fTCnt at e
  split at e
  · rename_i xs z _
    obtain ⟨ys, hy, rfl⟩ := map_some2 e
    obtain ⟨p, ws, rfl, hs, o⟩ := h1
    have := strs_own hy o
    subst this
    exact ⟨p, ys, z, rfl, by rw [h2.1], by rw [hY]; exact hs.seq, done0 q fun Z => ⟨rfl, rfl⟩⟩
  · cases e
theorem pure_tCnt : PureG gTCnt := by
  intro ds d e
  obtain ⟨a, b, rfl, e⟩ := bin_some e
  replace e : fTCnt a b = some d := e
  unfold fTCnt at e
  split at e
  · obtain ⟨ys, hy, rfl⟩ := map_some2 e
    rfl
  · cases e
variable {o e : Expr} {es : List Expr} {t : TA} {apos cpos : Pos} {h : DEnv → Option D} {hs : List SArg}
theorem p_tCnt (dx : DX X G) (ho : PE X o (TPur G h)) (ha : PA X (e :: es) t)
    (ht : t = seqTE (hs.map (SArg.te G)) := by rfl) (hbase : attributeBase o "count" X.env (eval o X.env) = eval o X.env := by rfl)
    (hfew : ((backTo cpos (starEach (e :: es) X.env)).all (fun x => !x.1) && (backToKw cpos (keywordEach [] X.env)).all (fun x => x.1.isSome)
      && decide ((e :: es).length + ([] : List Keyword).length + (if ([] : List Keyword).isEmpty then 0 else 1) < 30)) = true := by rfl)
    (hline : (apos.endLine == cpos.line) = true := by rfl) (hst : starEach (e :: es) X.env = (false, eval e X.env) :: starEach es X.env := by rfl) (hplain : (backTo cpos (starEach es X.env)).any (·.1) = false := by rfl) :
    PE X (.Call (.Attribute o "count" apos) (e :: es) [] cpos) (TPur G (hOp (.put h (tyD "tuple") :: hs) gTCnt)) :=
  p_mtP dx F.plainAttrs_tuple F.slot_tuple_count F.type_tuple_count mt_tup_count (rop_tCnt dx.K) pure_tCnt ho ha ht hbase hfew hline hst hplain
end
end DL

/-! x, y = a, b -/
namespace DL
open PySem PySem.Spec PyProof.Rows L2
section
variable {G : Gc} {W : Wsh} {X : Cx}
def sPar (i j : Nat) (hs : List SArg) : Stm := fun env => must (evS hs env) fun ds => if hs.all (bArg env) = true ∧ D.pureL ds = true then must (putsS [i, j] ds env) fun e => .ok (.nx e) else .bad
theorem s_par {x y : Str} {a b : Expr} {ta : TA} {px py pt pos : Pos} {kt k2 : Nat} {pt2 : Pos} (i j : Nat) (hs : List SArg) (dx : DX X G) (hi : X.N[i]? = some x) (hj : X.N[j]? = some y) (ha : PA X [a, b] ta) (hx : X.env.scope.names.lookup x = some .local) (hy : X.env.scope.names.lookup y = some .local)
    (hij : i ≠ j := by decide) (ht : ta = seqTE (hs.map (SArg.te G)) := by rfl)
    (hw : swappedStores [.Tuple [.Name x px, .Name y py] kt pt] (.Tuple [a, b] k2 pt2) X.env = pure (some [x, y]) := by rfl)
    (hsw : swapsWithSole [.Tuple [.Name x px, .Name y py] kt pt] (.Tuple [a, b] k2 pt2) pos.line X.env = pure false := by rfl) :
    PS X (.Assign [.Tuple [.Name x px, .Name y py] kt pt] (.Tuple [a, b] k2 pt2) pos) (TSt G W (sPar i j hs)) :=
  (ps_par dx.calm dx.nd hi hj hij hx hy ha hw hsw).imp fun En σ H ⟨B, Z, Fs, env, gd, q⟩ => by
    subst ht
    unfold sPar at q
    cases hev : evS hs env with
    | none => rw [hev] at q; exact q.elim
    | some ds =>
      rw [hev, must_some] at q
      split at q
      · rename_i hc
        cases hput : putsS [i, j] ds env with
        | none => rw [hput] at q; exact q.elim
        | some e2 =>
          rw [hput, must_some] at q
          refine evB_ok hs ds H _ gd hev hc.1 fun vs H1 s1 ol => ?_
          have o2 : OwnL G Z H1 ds vs [] := OwnL.pure_any hc.2 ol
          have hg := puts_ok (Q := fun σ2 H2 => En.nx σ2 H2) (gd.grow s1) o2 List.nodup_nil (fun a m => by cases m) (fun a m => by cases m) hput fun σ2 Fs2 s2 => q _ _ _ _ ((Stp.grow gd (P := InF Fs) (fun a m => m) s1).trans (fun a m => m.elim .inr fun m => (by cases m)) s2)
          obtain ⟨v, r, rfl, v2, r2, rfl, e, hq⟩ := hg
          exact ⟨v, v2, by rw [e], hq⟩
      · exact q.elim
end
end DL

/-! zip of three -/
namespace DL
open PySem PySem.Spec PyProof.Rows L2
def ItzX3 (K : PySem.W.Frag) (k1 k2 k3 : Bool) (a b c : Addr) : It :=
  ⟨fun i H => ∃ (xs ys us : List V) (x y u : V), Sq K k1 H a xs ∧ Sq K k2 H b ys ∧ Sq K k3 H c us ∧ xs[i]? = some x ∧ ys[i]? = some y ∧ us[i]? = some u,
    fun i H v H' => ∃ T x y u, v = .ref T ∧ H T = none ∧ H' = upd H T (.tup [x, y, u]) ∧ (∀ xs, Sq K k1 H a xs → xs[i]? = some x) ∧ (∀ ys, Sq K k2 H b ys → ys[i]? = some y) ∧ ∀ us, Sq K k3 H c us → us[i]? = some u,
    fun i H => ∃ xs ys us : List V, Sq K k1 H a xs ∧ Sq K k2 H b ys ∧ Sq K k3 H c us ∧ i = min (min xs.length ys.length) us.length⟩
theorem turn_zipX3 {P : Program} {w : World} {K : PySem.W.Frag} {elts : List Expr} {kk : Nat} {tpos : Pos} {k1 k2 k3 : Bool} {a b c z TI TO i1 i2 i3 : Addr} (S : ZipSep3 z TI TO i1 i2 i3 [i1, a] [i2, b] [i3, c]) (na : a ≠ i1) (nb : b ≠ i2) (nc : c ≠ i3) :
    Turn P w K (.Tuple elts kk tpos) (ItzX3 K k1 k2 k3 a b c) [z, TI, TO, i1, i2, i3] z (fun i h => IsZip h z TI TO .none ∧ IsTupOf3 h TI (.ref i1) (.ref i2) (.ref i3) ∧ (∃ x y u, IsTupOf3 h TO x y u) ∧ SqIt k1 h i1 a i ∧ SqIt k2 h i2 b i ∧ SqIt k3 h i3 c i) where
  mem := by simp
  obj := fun i h st c hc => by
    obtain ⟨hz, hTI, ⟨x, y, u, hTO⟩, t1, t2, t3⟩ := st
    have e' : c = z ∨ c = TI ∨ c = TO ∨ c = i1 ∨ c = i2 ∨ c = i3 := by simpa using hc
    rcases e' with q | q | q | q | q | q
    · subst q; exact ⟨_, hz, fun v q => nomatch q⟩
    · subst q; exact ⟨_, hTI, fun v q => nomatch q⟩
    · subst q; exact ⟨_, hTO, fun v q => nomatch q⟩
    · subst q; exact t1.obj
    · subst q; exact t2.obj
    · subst q; exact t3.obj
  keep := fun i h h' st k => by
    obtain ⟨hz, hTI, ⟨x, y, u, hTO⟩, t1, t2, t3⟩ := st
    exact ⟨k z (by simp) _ hz, k TI (by simp) _ hTI, ⟨x, y, u, k TO (by simp) _ hTO⟩, t1.at fun o q => k i1 (by simp) o q, t2.at fun o q => k i2 (by simp) o q, t3.at fun o q => k i3 (by simp) o q⟩
  item := by
    intro X hP hw hK hcm i ps sh sg H E inv hf st hg
    subst hP hw hK
    obtain ⟨hz, hTI, hTO, t1, t2, t3⟩ := st
    obtain ⟨xs, ys, us, x, y, u, hqx, hqy, hqu, hx, hy, hu⟩ := hg
    obtain ⟨its, rv, p, la⟩ := sq_items inv hqx
    obtain ⟨its2, rv2, p2, lb⟩ := sq_items inv hqy
    obtain ⟨its3, rv3, p3, lc⟩ := sq_items inv hqu
    obtain ⟨v1, hv1, ru1⟩ := rv.get hx
    obtain ⟨v2, hv2, ru2⟩ := rv2.get hy
    obtain ⟨v3, hv3, ru3⟩ := rv3.get hu
    have W := GoesN.zip3 (A := X.A) (elts := elts) (x1 := kk) (pos := tpos) S (draws_sq (prog := X.prog) (w := X.w) (A := X.A.in1) (inv.ok.hd hcm) k1 i1 a na its.toArray) (draws_sq (prog := X.prog) (w := X.w) (A := X.A.in1) (inv.ok.hd hcm) k2 i2 b nb its2.toArray) (draws_sq (prog := X.prog) (w := X.w) (A := X.A.in1) (inv.ok.hd hcm) k3 i3 c nc its3.toArray)
    have hi : i < min (min its.toArray.size its2.toArray.size) its3.toArray.size := by
      have h1 := (List.getElem?_eq_some_iff.mp hv1).1
      have h2 := (List.getElem?_eq_some_iff.mp hv2).1
      have h3 := (List.getElem?_eq_some_iff.mp hv3).1
      rw [List.size_toArray, List.size_toArray, List.size_toArray]
      omega
    have hin : ∀ c, c ∈ [z, TI, TO, i1, i2, i3] → ∃ o, sh.heap.get? c = some o := fun c hcm => by
      have e' : c = z ∨ c = TI ∨ c = TO ∨ c = i1 ∨ c = i2 ∨ c = i3 := by simpa using hcm
      obtain ⟨x0, y0, u0, hTO0⟩ := hTO
      rcases e' with q | q | q | q | q | q
      · subst q; exact ⟨_, hz⟩
      · subst q; exact ⟨_, hTI⟩
      · subst q; exact ⟨_, hTO0⟩
      · subst q; exact ⟨_, t1.obj.choose_spec.1⟩
      · subst q; exact ⟨_, t2.obj.choose_spec.1⟩
      · subst q; exact ⟨_, t3.obj.choose_spec.1⟩
    refine W.goes i sh (fun v s2 => ∃ x H', Inv X ps sg H' s2 ∧ RelV x v ∧ (ItzX3 X.K k1 k2 k3 a b c).yld i H x H' ∧ (IsZip s2.heap z TI TO .none ∧ IsTupOf3 s2.heap TI (.ref i1) (.ref i2) (.ref i3) ∧ (∃ x y u, IsTupOf3 s2.heap TO x y u) ∧ SqIt k1 s2.heap i1 a (i + 1) ∧ SqIt k2 s2.heap i2 b (i + 1) ∧ SqIt k3 s2.heap i3 c (i + 1)) ∧ ∀ c ∈ [z, TI, TO, i1, i2, i3], H' c = none) E hi ⟨hz, hTI, hTO, ⟨t1, p⟩, ⟨t2, p2⟩, t3, p3⟩ fun v h2 tk hY hst hk _ => ?_
    obtain ⟨T, w1, w2, w3, rfl, hT, g1, g2, g3, hIs⟩ := hY
    obtain ⟨hz', hTI', hTO', ⟨t1', _⟩, ⟨t2', _⟩, t3', _⟩ := hst
    have e1 : w1 = v1 := by
      have : its[i]? = some w1 := by simpa using g1
      rw [hv1] at this
      exact (Option.some.inj this).symm
    have e2 : w2 = v2 := by
      have : its2[i]? = some w2 := by simpa using g2
      rw [hv2] at this
      exact (Option.some.inj this).symm
    have e3 : w3 = v3 := by
      have : its3[i]? = some w3 := by simpa using g3
      rw [hv3] at this
      exact (Option.some.inj this).symm
    subst e1 e2 e3
    have new : ObjOk X.prog X.w (upd H T (.tup [x, y, u])) h2 T (.tup [x, y, u]) := ⟨by show 3 ≤ sizeLine; decide, [w1, w2, w3], .cons ru1 (.cons ru2 (.cons ru3 .nil)), hIs⟩
    have inv2 : Inv X ps sg (upd H T (.tup [x, y, u])) { sh with heap := h2, toks := tk } := inv.turnedNew (t' := tk) (ch := [z, TI, TO, i1, i2, i3]) (fun c o hb q => hk c o (fun m => hb (by
      have m' : c = z ∨ c = TO ∨ c = i1 ∨ c = i2 ∨ c = i3 := by simpa using m
      rcases m' with m | m | m | m | m <;> simp [m])) q) hf hT new
    refine ⟨.ref T, _, inv2, rfl, ⟨T, x, y, u, rfl, inv.hok.fresh hT, rfl, fun l hl => by rw [sq_inj inv hl hqx]; exact hx, fun l hl => by rw [sq_inj inv hl hqy]; exact hy, fun l hl => by rw [sq_inj inv hl hqu]; exact hu⟩, ⟨hz', hTI', hTO', t1', t2', t3'⟩, fun c hcm => ?_⟩
    obtain ⟨o, eo⟩ := hin c hcm
    rw [upd_ne (Nat.ne_of_lt (Nat.lt_of_lt_of_le (Heap.lt_size eo) hT))]
    exact (hf c hcm).1
  done := by
    intro X hP hw hK hcm i ps sh sg H E inv hf st hg
    subst hP hw hK
    obtain ⟨hz, hTI, hTO, t1, t2, t3⟩ := st
    obtain ⟨xs, ys, us, hqx, hqy, hqu, hend⟩ := hg
    obtain ⟨its, rv, p, la⟩ := sq_items inv hqx
    obtain ⟨its2, rv2, p2, lb⟩ := sq_items inv hqy
    obtain ⟨its3, rv3, p3, lc⟩ := sq_items inv hqu
    have W := GoesN.zip3 (A := X.A) (elts := elts) (x1 := kk) (pos := tpos) S (draws_sq (prog := X.prog) (w := X.w) (A := X.A.in1) (inv.ok.hd hcm) k1 i1 a na its.toArray) (draws_sq (prog := X.prog) (w := X.w) (A := X.A.in1) (inv.ok.hd hcm) k2 i2 b nb its2.toArray) (draws_sq (prog := X.prog) (w := X.w) (A := X.A.in1) (inv.ok.hd hcm) k3 i3 c nc its3.toArray)
    have en : min (min its.toArray.size its2.toArray.size) its3.toArray.size = i := by
      rw [List.size_toArray, List.size_toArray, List.size_toArray, ← rv.length, ← rv2.length, ← rv3.length, hend]
    refine W.stops sh (fun s2 => Inv X ps sg H s2) E (by rw [en]; exact ⟨hz, hTI, hTO, ⟨t1, p⟩, ⟨t2, p2⟩, t3, p3⟩) fun h2 tk hk _ => ?_
    exact inv.turnedL (t' := tk) (ch := [z, TI, TO, i1, i2, i3]) (fun c o hb q => hk c o (fun m => hb (by
      have m' : c = z ∨ c = TO ∨ c = i1 ∨ c = i2 ∨ c = i3 := by simpa using m
      rcases m' with m | m | m | m | m <;> simp [m])) q) hf
  self := fun A i s Q E st h => wpAny_pyIter_zip st.1 h
def rZipX3 (K : PySem.W.Frag) : List V → Hp → (It → Hp → Prop) → Prop := fun vs H1 R => ∃ a b c xs ys us k1 k2 k3, vs = [.ref a, .ref b, .ref c] ∧ Sq K k1 H1 a xs ∧ Sq K k2 H1 b ys ∧ Sq K k3 H1 c us ∧ R (ItzX3 K k1 k2 k3 a b c) H1
theorem pi_zipX3 {X : Cx} {e e2 e3 : Expr} {ta : TA} {p pos tpos : Pos} {elts : List Expr} {kk : Nat} (hg : Gl X "zip") (hm : X.mg "zip" = none) (ha : PA X [e, e2, e3] ta)
    (hs : starEach [e, e2, e3] X.env = (false, eval e X.env) :: starEach [e2, e3] X.env := by rfl) (hpl : (backTo pos (starEach [e2, e3] X.env)).any (·.1) = false := by rfl) :
    PI X (.Tuple elts kk tpos) (.Call (.Name "zip" p) [e, e2, e3] [] pos) (fun σ H R => ta σ H fun vs H1 => rZipX3 X.K vs H1 R) := by
  refine ⟨fun ps sh sg H R inv h => ?_⟩
  refine Call_ (ld_blt inv hg hm PyProof.Rows.boot_zip (PyProof.Rows.callWith_type1 (thn (ha.run pos ps sh sg H _ inv h) fun us s1 ⟨vs, H1, I1, r1, q1⟩ => ?_) hs hpl))
  obtain ⟨a, b, c, xs, ys, us, k1, k2, k3, ex, hqx, hqy, hqu, q⟩ := q1
  subst ex
  cases r1 with
  | cons r rr =>
    cases rr with
    | cons r' rr =>
      cases rr with
      | cons r'' rr =>
        cases rr
        cases r
        cases r'
        cases r''
        obtain ⟨its, rv, p1, la⟩ := sq_items I1 hqx
        obtain ⟨its2, rv2, p2, lb⟩ := sq_items I1 hqy
        obtain ⟨its3, rv3, p3, lc⟩ := sq_items I1 hqu
        obtain ⟨o1, B1, j1⟩ := begins_sq (k := k1) (h := s1.heap) (a := a) (items := its.toArray)
        obtain ⟨o2, B2, j2⟩ := begins_sq (k := k2) (h := s1.heap) (a := b) (items := its2.toArray)
        obtain ⟨o3, B3, j3⟩ := begins_sq (k := k3) (h := s1.heap) (a := c) (items := its3.toArray)
        have fresh6 : ∀ c, c ∈ [s1.heap.objs.size + 5, s1.heap.objs.size + 3, s1.heap.objs.size + 4, s1.heap.objs.size, s1.heap.objs.size + 1, s1.heap.objs.size + 2] → FpOk X ps H1 c := fun c hcm => by
          have hle : s1.heap.objs.size ≤ c := by
            simp only [List.mem_cons, List.not_mem_nil, or_false] at hcm
            rcases hcm with z | z | z | z | z | z <;> rw [z]
            · exact Nat.le_add_right _ _
            · exact Nat.le_add_right _ _
            · exact Nat.le_add_right _ _
            · exact Nat.le_refl _
            · exact Nat.le_add_right _ _
            · exact Nat.le_add_right _ _
          exact I1.fpOk hle (I1.hok.fresh hle)
        refine zip_begins3 B1 B2 B3 p1 p2 p3 fun h2 hz hTI hTO g1 g2 g3 hsz hk => wpAny_pyIter_zip hz ?_
        have I2 : Inv X ps sg H1 { s1 with heap := h2 } := I1.kept (t' := s1.toks) hk
        refine ⟨s1.heap.objs.size + 5, [s1.heap.objs.size + 5, s1.heap.objs.size + 3, s1.heap.objs.size + 4, s1.heap.objs.size, s1.heap.objs.size + 1, s1.heap.objs.size + 2], _, _, H1, rfl, I2, turn_zipX3 (k1 := k1) (k2 := k2) (k3 := k3) (zip_sep3 (N := s1.heap.objs.size) (fp1 := [a]) (fp2 := [b]) (fp3 := [c]) (fun c m => by rw [List.mem_singleton.mp m]; exact la) (fun c m => by rw [List.mem_singleton.mp m]; exact lb) (fun d m => by rw [List.mem_singleton.mp m]; exact lc)) (Nat.ne_of_lt la) (Nat.ne_of_lt (Nat.lt_succ_of_lt lb)) (Nat.ne_of_lt (Nat.lt_succ_of_lt (Nat.lt_succ_of_lt lc))), ⟨hz, hTI, ⟨_, _, _, hTO⟩, j1 _ _ g1, j2 _ _ g2, j3 _ _ g3⟩, fresh6, q⟩
/-! ### in data -/
section
variable {G : Gc}
def zipD3 : List D → List D → List D → List D
  | x :: xs, y :: ys, z :: zs => .tup [x, y, z] :: zipD3 xs ys zs
  | _, _, _ => []
theorem zipD3_length : ∀ (xs ys zs : List D), (zipD3 xs ys zs).length = min (min xs.length ys.length) zs.length
  | [], ys, zs => by simp [zipD3]
  | x :: xs, [], zs => by simp [zipD3]
  | x :: xs, y :: ys, [] => by simp [zipD3]
  | x :: xs, y :: ys, z :: zs => by
    show (zipD3 xs ys zs).length + 1 = _
    rw [zipD3_length xs ys zs, List.length_cons, List.length_cons, List.length_cons]
    omega
theorem zipD3_at : ∀ (xs ys zs : List D) (i : Nat) (r : D), (zipD3 xs ys zs)[i]? = some r → ∃ x y z, xs[i]? = some x ∧ ys[i]? = some y ∧ zs[i]? = some z ∧ r = .tup [x, y, z]
  | [], ys, zs, i, r, h => by simp [zipD3] at h
  | x :: xs, [], zs, i, r, h => by simp [zipD3] at h
  | x :: xs, y :: ys, [], i, r, h => by simp [zipD3] at h
  | x :: xs, y :: ys, z :: zs, 0, r, h => ⟨x, y, z, rfl, rfl, rfl, (Option.some.inj h).symm⟩
  | x :: xs, y :: ys, z :: zs, i + 1, r, h => zipD3_at xs ys zs i r h
def mkZip3 : List D → Option (List D)
  | [a, b, c] => match a.toSeq, b.toSeq, c.toSeq with
    | some xs, some ys, some zs => some (zipD3 xs ys zs)
    | _, _, _ => none
  | _ => none
theorem mkZip3_some {ds rs : List D} (h : mkZip3 ds = some rs) : ∃ a b c xs ys zs, rs = zipD3 xs ys zs ∧ ds = [a, b, c] ∧ a.toSeq = some xs ∧ b.toSeq = some ys ∧ c.toSeq = some zs := by
  match ds, h with
  | [a, b, c], h =>
    have h : (match a.toSeq, b.toSeq, c.toSeq with
      | some xs, some ys, some zs => some (zipD3 xs ys zs)
      | _, _, _ => none) = some rs := h
    cases ha : a.toSeq with
    | none => rw [ha] at h; cases h
    | some xs =>
      cases hb : b.toSeq with
      | none => rw [ha, hb] at h; cases h
      | some ys =>
        cases hc : c.toSeq with
        | none => rw [ha, hb, hc] at h; cases h
        | some zs =>
          rw [ha, hb, hc] at h
          cases h
          exact ⟨a, b, c, xs, ys, zs, rfl, rfl, ha, hb, hc⟩
theorem trip_new {Y H H' : Hp} {x y z : D} {u v w : V} {T : Addr} (hT : H T = none) (e : H' = upd H T (.tup [u, v, w])) (h1 : Own G Y H x u []) (h2 : Own G Y H y v []) (h3 : Own G Y H z w []) : Same H H' ∧ Own G Y H' (.tup [x, y, z]) (.ref T) [] := by
  subst e
  have s := same_upd (o := .tup [u, v, w]) hT
  exact ⟨s, T, [u, v, w], rfl, (upd_same : upd H T (.tup [u, v, w]) T = some (.tup [u, v, w])), OwnL.cons_nil (Own.keepT (Same.refl Y) (TK.of s) h1) (OwnL.cons_nil (Own.keepT (Same.refl Y) (TK.of s) h2) (OwnL.cons_nil (Own.keepT (Same.refl Y) (TK.of s) h3) ⟨rfl, rfl⟩))⟩
theorem zip3_fits : fits G (rZipX3 G.K) mkZip3 := by
  intro ds vs Y H zs R ho hy hx q
  obtain ⟨da, db, dc, xs, ys, us, rfl, rfl, ea, eb, ec⟩ := mkZip3_some hx
  obtain ⟨v, r, rfl, h1, h2⟩ := OwnL.uncons ho
  obtain ⟨v2, r2, rfl, h3, h4⟩ := OwnL.uncons h2
  obtain ⟨v3, r3, rfl, h5, h6⟩ := OwnL.uncons h4
  obtain ⟨rfl, _⟩ := h6
  obtain ⟨k1, a, ws1, rfl, s1, o1⟩ := Own.sq h1 ea
  obtain ⟨k2, b, ws2, rfl, s2, o2⟩ := Own.sq h3 eb
  obtain ⟨k3, c, ws3, rfl, s3, o3⟩ := Own.sq h5 ec
  refine ⟨a, b, c, ws1, ws2, ws3, k1, k2, k3, rfl, s1 H hy (TK.of (Same.refl H)), s2 H hy (TK.of (Same.refl H)), s3 H hy (TK.of (Same.refl H)), q _ H (Same.refl H) fun i H' y t => ⟨fun z e => ?_, fun hl => ?_⟩⟩
  · obtain ⟨dx, dy, dz, e1, e2, e3, rfl⟩ := zipD3_at _ _ _ _ _ e
    obtain ⟨vx, ex, hvx⟩ := OwnL.at o1 e1
    obtain ⟨vy, ey, hvy⟩ := OwnL.at o2 e2
    obtain ⟨vz, ez, hvz⟩ := OwnL.at o3 e3
    refine ⟨⟨ws1, ws2, ws3, vx, vy, vz, s1 H' y t, s2 H' y t, s3 H' y t, ex, ey, ez⟩, fun w H2 yy => ?_⟩
    obtain ⟨T, x', y', z', rfl, hT, eH, f1, f2, f3⟩ := yy
    have q1 := f1 ws1 (s1 H' y t)
    have q2 := f2 ws2 (s2 H' y t)
    have q3 := f3 ws3 (s3 H' y t)
    rw [ex] at q1
    rw [ey] at q2
    rw [ez] at q3
    cases q1
    cases q2
    cases q3
    exact trip_new hT eH (Own.keepT (Same.refl Y) t hvx) (Own.keepT (Same.refl Y) t hvy) (Own.keepT (Same.refl Y) t hvz)
  · rw [zipD3_length] at hl
    refine ⟨ws1, ws2, ws3, s1 H' y t, s2 H' y t, s3 H' y t, ?_⟩
    rw [OwnL.length o1, OwnL.length o2, OwnL.length o3]
    exact hl
theorem i_zip3 {W : Wsh} {X : Cx} {elts : List Expr} {kk : Nat} {tpos : Pos} {e e2 e3 : Expr} {ta : TA} {p pos : Pos} (ops : List Opn) (dx : DX X G) (hg : Gl X "zip") (hm : X.mg "zip" = none) (ha : PA X [e, e2, e3] ta) (ht : ta = seqTE (ops.map (Opn.te G W)) := by rfl)
    (hs : starEach [e, e2, e3] X.env = (false, eval e X.env) :: starEach [e2, e3] X.env := by rfl) (hpl : (backTo pos (starEach [e2, e3] X.env)).any (·.1) = false := by rfl) : PI X (.Tuple elts kk tpos) (.Call (.Name "zip" p) [e, e2, e3] [] pos) (TSrc G W ops mkZip3) :=
  src_ok (r := rZipX3 X.K) (by rw [dx.K]; exact zip3_fits) (by subst ht; exact pi_zipX3 hg hm ha hs hpl)
end
end DL

/-! max of three, list + list, < of data, slices of either -/
namespace DL
open PySem PySem.Spec PyProof.Rows L2
section
variable {G : Gc} {W : Wsh} {X : Cx}
/-! ### max(a, b, c) -/
def mx2 (i j : Int) : Int := if j > i then j else i
def mn2 (i j : Int) : Int := if j < i then j else i
def rMax3 (f : Int → Int → Int) : List V → Hp → VK → Prop := fun xs H Q => ∃ i j k, xs = [.int i, .int j, .int k] ∧ Q (.int (f (f i j) k)) H
theorem call_max3 (hc : X.calm = true) : CallR X (.builtin "max") (rMax3 mx2) := by
  intro pins s σ H xs us Q I r h
  obtain ⟨i, j, k, rfl, q⟩ := h
  refine call_max3Nu hc pins s σ H _ us Q I r ⟨.int i, .int j, .int k, _, rfl, ?_, q⟩
  have key : ∀ i j : Int, nuMax2 (.int i) (.int j) = some (.int (mx2 i j)) := fun i j => by
    show (some (decide (i < j))).map (fun c => if c = true then V.int j else V.int i) = _
    unfold mx2
    by_cases h : i < j
    · simp [h]
    · simp [h]
  unfold nuMax3
  rw [key i j]
  exact key (mx2 i j) k
def gMax3 : List D → Option D
  | [.int i, .int j, .int k] => some (.int (mx2 (mx2 i j) k))
  | _ => none
theorem rop_max3 : ROp G (rMax3 mx2) gMax3 := by
  intro ds vs H Q d h e q
  match ds, e with
  | [.int i, .int j, .int k], e =>
    cases e
    obtain ⟨x, y, z, rfl, h1, h2, h3⟩ := own3 h
    exact ⟨i, j, k, by rw [h1.1, h2.1, h3.1], done0 q fun Z => ⟨rfl, rfl⟩⟩
theorem pure_max3 : PureG gMax3 := by
  intro ds d e
  match ds, e with
  | [.int i, .int j, .int k], e => cases e; rfl
section
variable {e : Expr} {es : List Expr} {t : TA} {hs : List SArg} {p pos : Pos}
theorem p_max3 (dx : DX X G) (hg : Gl X "max") (hm : X.mg "max" = none) (ha : PA X (e :: es) t) (ht : t = seqTE (hs.map (SArg.te G)) := by rfl) (he : starEach (e :: es) X.env = (false, eval e X.env) :: starEach es X.env := by rfl) (hpl : (backTo pos (starEach es X.env)).any (·.1) = false := by rfl) :
    PE X (.Call (.Name "max" p) (e :: es) [] pos) (TPur G (hOp hs gMax3)) :=
  p_callB (call_max3 dx.calm) hg hm bt_max rop_max3 pure_max3 ha ht (by decide) (by decide) he hpl
end
/-! ### list + list -/
def rCatLL (K : PySem.W.Frag) : R2 := fun x y H Q => ∃ a b xs ys, x = .ref a ∧ y = .ref b ∧ SqL K H a xs ∧ SqL K H b ys ∧ xs.length + ys.length ≤ sizeLine ∧ ∀ p, H p = none → Q (.ref p) (upd H p (.lst (xs ++ ys)))
theorem op_catLL : OpR X (binaryOp .Add) (rCatLL X.K) := by
  intro pins s σ H x y v u Q I rx ry h
  obtain ⟨a, b, xs, ys, rfl, rfl, ha, hb, hz, q⟩ := h
  cases rx
  cases ry
  obtain ⟨its, r1, p1, _⟩ := I.list ha
  obtain ⟨its2, r2, p2, _⟩ := I.list hb
  obtain ⟨⟨cls, dd, data, sl⟩, ho, hc, n, hd⟩ := id p1.isList
  obtain ⟨⟨cls2, dd2, data2, sl2⟩, ho2, hc2, n2, hd2⟩ := id p2.isList
  simp only at hc hd hc2 hd2
  subst hc hd hc2 hd2
  have e : its.toArray ++ its2.toArray = (its ++ its2).toArray := by simp
  refine concat_meets ⟨_, ho, rfl⟩ ⟨_, ho2, rfl⟩ noFill_list_add seq_list_add PySem.F.slot_list_add PySem.F.entry_list_add (PySem.F.args_list_add_2 _ _) (list_addW a b its.toArray its2.toArray n n2 dd dd2 sl sl2 (by
    rw [List.size_toArray, List.size_toArray, ← r1.length, ← r2.length]; exact hz)) ⟨ho, ho2, ?_⟩
  rw [e]
  refine ⟨.ref s.heap.objs.size, _, I.laid (t' := s.toks) (o := .lst (xs ++ ys)) (fun b ob q => Heap.get?_push_of_some _ q) (Nat.le_refl _) ?_, rfl, q _ (I.hok.fresh (Nat.le_refl _))⟩
  exact ⟨by rw [List.length_append]; exact hz, _, 0, r1.append r2, Heap.get?_push_size _ rfl⟩
def fCatLL (a b : D) : Option D := match a, b with
  | .lst x, .lst y => iff? (D.pureL x = true ∧ D.pureL y = true ∧ x.length + y.length ≤ 16777216) (.lst (x ++ y))
  | _, _ => none
abbrev gCatLL := bin fCatLL
theorem fCatLL_some {a b d : D} (h : fCatLL a b = some d) : ∃ x y, a = .lst x ∧ b = .lst y ∧ (D.pureL x = true ∧ D.pureL y = true ∧ x.length + y.length ≤ 16777216) ∧ d = .lst (x ++ y) := by
  unfold fCatLL at h
  split at h
  · obtain ⟨h1, rfl⟩ := iff?_some h
    exact ⟨_, _, rfl, rfl, h1, rfl⟩
  · cases h
theorem rop_catLL : ROp G (l2 (rCatLL G.K)) gCatLL := by
  intro ds vs H Q d h e q
  obtain ⟨a, b, rfl, e⟩ := bin_some e
  obtain ⟨x, y, rfl, h1, h2⟩ := own2 h
  obtain ⟨a, b, rfl, rfl, hl, rfl⟩ := fCatLL_some e
  obtain ⟨p, us, rfl, e1, o1⟩ := h1.lstR
  obtain ⟨p2, us2, rfl, e2, o2⟩ := h2.lstR
  have l1 := OwnL.length o1
  have l2 := OwnL.length o2
  refine ⟨p, p2, us, us2, rfl, rfl, e1, e2, by rw [← size_line, l1, l2]; exact hl.2.2, fun p3 hn => ?_⟩
  have hpp : D.pureL (a ++ b) = true := by rw [D.pureL_append, hl.1, hl.2.1]; rfl
  have hap := OwnL.append (OwnL.pure_any (Z' := H) hl.1 o1) (OwnL.pure_any (Z' := H) hl.2.1 o2)
  rw [List.append_nil] at hap
  exact q _ _ [p3] (same_upd hn) (fun Z => new_lst hpp hn hap Z) (List.nodup_cons.mpr ⟨by simp, List.nodup_nil⟩) fun a m => by
    rw [List.mem_singleton.mp m]; exact hn
/-! ### < of data -/
def rLtD (K : PySem.W.Frag) : R2 := fun x y H Q => ∃ d e, Dp K H x d ∧ Dp K H y e ∧ PySem.W.alike d e = true ∧ d ≠ .none ∧ d.depth ≤ 60 ∧ Q (.bl (PySem.W.dataLt d e)) H
theorem op_ltD (hu : X.A.units + 64 < cLine) : OpR X (compareOp .Lt) (rLtD X.K) := by
  intro pins s σ H x y v u Q I rx ry h
  obtain ⟨d, e, hd, he, ha, hn, hdp, q⟩ := h
  obtain ⟨as, r1⟩ := Dp.reads I d x v hd rx
  obtain ⟨bs, r2⟩ := Dp.reads I e y u he ry
  exact PySem.W.lt_data r1 r2 ha hn (by omega) ⟨.bl _, H, I, rfl, q⟩
def fLtD (a b : D) : Option D := match a.py, b.py with
  | some p, some q => iff? (PySem.W.alike p q = true ∧ PySem.W.alike p .none = false ∧ p.depth ≤ 60) (.bl (PySem.W.dataLt p q))
  | _, _ => none
abbrev gLtD := bin fLtD
theorem fLtD_some {a b d : D} (h : fLtD a b = some d) : ∃ p q, a.py = some p ∧ b.py = some q ∧ (PySem.W.alike p q = true ∧ PySem.W.alike p .none = false ∧ p.depth ≤ 60) ∧ d = .bl (PySem.W.dataLt p q) := by
  unfold fLtD at h
  split at h
  · rename_i p q h1 h2
    obtain ⟨h3, rfl⟩ := iff?_some h
    exact ⟨p, q, h1, h2, h3, rfl⟩
  · cases h
theorem rop_ltD : ROp G (l2 (rLtD G.K)) gLtD := by
  intro ds vs H Q d h e q
  obtain ⟨a, b, rfl, e⟩ := bin_some e
  obtain ⟨x, y, rfl, h1, h2⟩ := own2 h
  obtain ⟨p, r, ep, er, hl, rfl⟩ := fLtD_some e
  exact ⟨p, r, Own.dp a x p h1 ep, Own.dp b y r h2 er, hl.1, fun z => (by rw [z] at hl; exact Bool.noConfusion hl.2.1), hl.2.2, done0 q (fun Z => ⟨rfl, rfl⟩)⟩
theorem pure_ltD : PureG gLtD := by
  intro ds d e
  obtain ⟨a, b, rfl, e⟩ := bin_some e
  obtain ⟨p, r, ep, er, hl, rfl⟩ := fLtD_some e
  rfl
/-! ### slices of a list or a tuple -/
def fSlJ (d : D) (lo hi : Option Int) : Option D := match d with
  | .lst _ => fSlL d lo hi
  | .scr _ => fSlL d lo hi
  | _ => fSlP d lo hi
def rSlJ (K : PySem.W.Frag) : RS := fun x lo hi H Q => rSlL K x lo hi H Q ∨ rSlP K x lo hi H Q
theorem sl_J : SlR X (rSlJ X.K) := SlR.or sl_list sl_P
theorem slJ_ok : RSl G (rSlJ G.K) fSlJ := by
  intro a x lo hi H Q d h e q
  unfold fSlJ at e
  split at e
  · exact .inl (slL_ok _ x lo hi H Q d h e q)
  · exact .inl (slL_ok _ x lo hi H Q d h e q)
  · exact .inr (slP_ok _ x lo hi H Q d h e q)
/-! ### a <= b < c, of whole numbers -/
def hChI (p q : Int → Int → Bool) (a b c : DEnv → Option D) : DEnv → Option D := fun env => match a env, b env, c env with
  | some (.int i), some (.int j), some (.int k) => some (.bl (p i j && q j k))
  | _, _, _ => none
theorem hChI_some {p q : Int → Int → Bool} {a b c : DEnv → Option D} {env : DEnv} {d : D} (h : hChI p q a b c env = some d) : ∃ i j k, a env = some (.int i) ∧ b env = some (.int j) ∧ c env = some (.int k) ∧ d = .bl (p i j && q j k) := by
  unfold hChI at h
  split at h
  · rename_i i j k h1 h2 h3
    cases h
    exact ⟨i, j, k, h1, h2, h3, rfl⟩
  · cases h
theorem chI_run {p q : Int → Int → Bool} {h1 h2 h3 : DEnv → Option D} {σ : L2.St} {H : Hp} {Q : VK} (h : TPur G (hChI p q h1 h2 h3) σ H Q) : tChain (rI0 fun i j => V.bl (p i j)) (rI0 fun i j => V.bl (q i j)) (TPur G h1) (TPur G h2) (TPur G h3) σ H Q := by
  obtain ⟨B, Z, Fs, env, gd, d, hd, q0⟩ := h
  obtain ⟨i, j, k, e1, e2, e3, rfl⟩ := hChI_some hd
  refine ⟨B, Z, Fs, env, gd, _, e1, fun v H1 s1 _ o1 => ⟨B, Z, Fs, env, gd.grow s1, _, e2, fun v2 H2 s2 _ o2 => ⟨i, j, (o1 Z).1, (o2 Z).1, p i j, rfl, ?_⟩⟩⟩
  cases hp : p i j with
  | false =>
    rw [if_neg (by decide)]
    exact q0 _ H2 (s1.trans s2) rfl fun Z' => ⟨by rw [hp, Bool.false_and], rfl⟩
  | true =>
    rw [if_pos rfl]
    exact ⟨B, Z, Fs, env, (gd.grow s1).grow s2, _, e3, fun v3 H3 s3 _ o3 => ⟨j, k, (o2 Z).1, (o3 Z).1, q0 _ H3 ((s1.trans s2).trans s3) rfl fun Z' => ⟨by rw [hp, Bool.true_and], rfl⟩⟩⟩
variable {op op' : CmpOp} {p q : Int → Int → Bool} {a b c : Expr} {h1 h2 h3 : DEnv → Option D} {pos : Pos}
theorem p_chI (ho : OpR X (compareOp op) (rI0 fun i j => V.bl (p i j))) (ho' : OpR X (compareOp op') (rI0 fun i j => V.bl (q i j))) (ha : PE X a (TPur G h1)) (hb : PE X b (TPur G h2)) (hc : PE X c (TPur G h3)) (hm : lastMarks [op, op'] [b, c] = false := by with_unfolding_all rfl) : PE X (.Compare a [op, op'] [b, c] pos) (TPur G (hChI p q h1 h2 h3)) :=
  (pe_chain ho ho' ha hb hc hm).imp fun σ H Q h => chI_run h
theorem t_chI (ho : OpR X (compareOp op) (rI0 fun i j => V.bl (p i j))) (ho' : OpR X (compareOp op') (rI0 fun i j => V.bl (q i j))) (ha : PE X a (TPur G h1)) (hb : PE X b (TPur G h2)) (hc : PE X c (TPur G h3)) (hm : lastMarks [op, op'] [b, c] = false := by with_unfolding_all rfl) : PT X (.Compare a [op, op'] [b, c] pos) (TBp G (hB (hChI p q h1 h2 h3))) :=
  (pt_chain ho ho' ha hb hc hm).imp fun σ H Q ⟨B, Z, Fs, env, gd, k, hk, q⟩ => chI_run ⟨B, Z, Fs, env, gd, .bl k, hB_some hk, fun v H' hs _ ho => ⟨k, (ho Z).1, q H' hs⟩⟩
abbrev leI (i j : Int) : Bool := decide (i ≤ j)
abbrev ltI (i j : Int) : Bool := decide (i < j)
/-! ### (a, place), read where it stands -/
def pTup (h g : DEnv → Option D) : DEnv → Option D := fun env => match h env, g env with
  | some d, some x => if d.pure = true then some (.tup [d, x]) else none
  | _, _ => none
theorem pTup_some {h g : DEnv → Option D} {env : DEnv} {d : D} (e : pTup h g env = some d) : ∃ d0 x, h env = some d0 ∧ g env = some x ∧ d0.pure = true ∧ d = .tup [d0, x] := by
  unfold pTup at e
  split at e
  · rename_i d0 x h1 h2
    split at e
    · rename_i hp
      cases e
      exact ⟨d0, x, h1, h2, hp, rfl⟩
    · cases e
  · cases e
theorem p_tpl {e1 e2 : Expr} {t : TA} {k : Nat} {tpos : Pos} {j : Nat} {h g : DEnv → Option D} (hp : PA X [e1, e2] t) (ht : t = seqTE [TPur G h, TPlc G j g] := by rfl) : PE X (.Tuple [e1, e2] k tpos) (TPlc G j (pTup h g)) :=
  (pe_tup hp).imp fun σ H Q ⟨B, Z, Fs, env, gd, d, hd, q⟩ => by
    subst ht
    obtain ⟨d0, x, e1, e2, hpu, rfl⟩ := pTup_some hd
    refine ⟨B, Z, Fs, env, gd, d0, e1, fun v H1 s1 _ o1 => ⟨B, Z, Fs, env, gd.grow s1, x, e2, fun w H2 s2 o2 => ⟨by show 2 ≤ sizeLine; decide, fun p hn => ?_⟩⟩⟩
    have s3 : Same H2 (upd H2 p (.tup [v, w])) := same_upd hn
    refine q _ _ ((s1.trans s2).trans s3) ⟨p, [v, w], rfl, (upd_same : upd H2 p (.tup [v, w]) p = some (.tup [v, w])), ?_⟩
    exact OwnL.cons_nil (Own.keepT (Same.refl _) (TK.of (s2.trans s3)) (o1 _)) (OwnL.cons_nil (Own.keepT ((gd.grow (s1.trans s2)).joi_up s3 j) (TK.of s3) o2) ⟨rfl, rfl⟩)
end
end DL

/-! <=, >, >= of data; a text some times -/
namespace DL
open PySem PySem.Spec PyProof.Rows L2
section
variable {G : Gc} {W : Wsh} {X : Cx}
def rCmD (K : PySem.W.Frag) (f : PyData → PyData → Bool) : R2 := fun x y H Q => ∃ d e, Dp K H x d ∧ Dp K H y e ∧ PySem.W.alike d e = true ∧ d ≠ .none ∧ d.depth ≤ 60 ∧ Q (.bl (f d e)) H
abbrev geF (p q : PyData) : Bool := !PySem.W.dataLt p q
abbrev gtF (p q : PyData) : Bool := PySem.W.dataLt q p
abbrev leF (p q : PyData) : Bool := !PySem.W.dataLt q p
theorem op_geD (hu : X.A.units + 64 < cLine) : OpR X (compareOp .GtE) (rCmD X.K geF) := by
  intro pins s σ H x y v u Q I rx ry h
  obtain ⟨d, e, hd, he, ha, hn, hdp, q⟩ := h
  obtain ⟨as, r1⟩ := Dp.reads I d x v hd rx
  obtain ⟨bs, r2⟩ := Dp.reads I e y u he ry
  exact PySem.W.ge_data r1 r2 ha hn (by omega) ⟨.bl _, H, I, rfl, q⟩
theorem op_gtD (hu : X.A.units + 64 < cLine) : OpR X (compareOp .Gt) (rCmD X.K gtF) := by
  intro pins s σ H x y v u Q I rx ry h
  obtain ⟨d, e, hd, he, ha, hn, hdp, q⟩ := h
  obtain ⟨as, r1⟩ := Dp.reads I d x v hd rx
  obtain ⟨bs, r2⟩ := Dp.reads I e y u he ry
  exact PySem.W.gt_data r1 r2 ha hn (by omega) ⟨.bl _, H, I, rfl, q⟩
theorem op_leD (hu : X.A.units + 64 < cLine) : OpR X (compareOp .LtE) (rCmD X.K leF) := by
  intro pins s σ H x y v u Q I rx ry h
  obtain ⟨d, e, hd, he, ha, hn, hdp, q⟩ := h
  obtain ⟨as, r1⟩ := Dp.reads I d x v hd rx
  obtain ⟨bs, r2⟩ := Dp.reads I e y u he ry
  exact PySem.W.le_data r1 r2 ha hn (by omega) ⟨.bl _, H, I, rfl, q⟩
def fCmD (f : PyData → PyData → Bool) (a b : D) : Option D := match a.py, b.py with
  | some p, some q => iff? (PySem.W.alike p q = true ∧ PySem.W.alike p .none = false ∧ p.depth ≤ 60) (.bl (f p q))
  | _, _ => none
abbrev gGeD := bin (fCmD geF)
abbrev gGtD := bin (fCmD gtF)
abbrev gLeD := bin (fCmD leF)
theorem fCmD_some {f : PyData → PyData → Bool} {a b d : D} (h : fCmD f a b = some d) : ∃ p q, a.py = some p ∧ b.py = some q ∧ (PySem.W.alike p q = true ∧ PySem.W.alike p .none = false ∧ p.depth ≤ 60) ∧ d = .bl (f p q) := by
  unfold fCmD at h
  split at h
  · rename_i p q h1 h2
    obtain ⟨h3, rfl⟩ := iff?_some h
    exact ⟨p, q, h1, h2, h3, rfl⟩
  · cases h
theorem rop_cmD {f : PyData → PyData → Bool} : ROp G (l2 (rCmD G.K f)) (bin (fCmD f)) := by
  intro ds vs H Q d h e q
  obtain ⟨a, b, rfl, e⟩ := bin_some e
  obtain ⟨x, y, rfl, h1, h2⟩ := own2 h
  obtain ⟨p, r, ep, er, hl, rfl⟩ := fCmD_some e
  exact ⟨p, r, Own.dp a x p h1 ep, Own.dp b y r h2 er, hl.1, fun z => (by rw [z] at hl; exact Bool.noConfusion hl.2.1), hl.2.2, done0 q (fun Z => ⟨rfl, rfl⟩)⟩
theorem pure_cmD {f : PyData → PyData → Bool} : PureG (bin (fCmD f)) := by
  intro ds d e
  obtain ⟨a, b, rfl, e⟩ := bin_some e
  obtain ⟨p, r, ep, er, hl, rfl⟩ := fCmD_some e
  rfl
/-! ### a text, some times -/
def repS (x : Str) (n : Nat) : Str := ⟨(List.replicate n x.cps).foldl (· ++ ·) #[]⟩
theorem repS_len (x : Str) : ∀ n : Nat, (repS x n).length = n * x.length := fun n => by
  have key : ∀ (n : Nat) (a : Array Nat), ((List.replicate n x.cps).foldl (· ++ ·) a).size = a.size + n * x.cps.size := fun n => by
    induction n with
    | zero => intro a; simp
    | succ n ih =>
      intro a
      rw [List.replicate_succ, List.foldl_cons, ih, Array.size_append, Nat.succ_mul]
      omega
  show ((List.replicate n x.cps).foldl (· ++ ·) #[]).size = _
  rw [key n #[]]
  simp [Str.length]
def rRepS : R2 := fun x y H Q => ∃ s n, x = .str s ∧ y = .int n ∧ 2 ≤ n ∧ n ≤ 1000 ∧ 1 ≤ s.length ∧ s.length ≤ 1000 ∧ Q (.str (repS s n.toNat)) H
theorem op_repS : OpR X (binaryOp .Mult) rRepS := by
  intro pins s σ H x y v u Q I rx ry h
  obtain ⟨z, n, rfl, rfl, n1, n2, l1, l2, q⟩ := h
  obtain ⟨t, rfl⟩ := rx
  obtain ⟨t2, rfl⟩ := ry
  have hn : ¬ n < 1 := by omega
  have hc : (n == 1 || z.length == 0) = false := by
    rw [Bool.or_eq_false_iff]
    exact ⟨beq_eq_false_iff_ne.mpr (by omega), beq_eq_false_iff_ne.mpr (by omega)⟩
  have hmul : z.length * n.toNat ≤ 1000000 := (Nat.mul_le_mul l2 (show n.toNat ≤ 1000 by omega) : z.length * n.toNat ≤ 1000 * 1000)
  have htl : ∀ k, k ≤ 1000000 → Builtin.Str.tooLong k = false := fun k hk => by
    unfold Builtin.Str.tooLong
    simp
    have := sizeLine_eq
    omega
  refine PySem.P.mul_str (by
    rw [Bool.or_eq_false_iff]
    exact ⟨decide_eq_false (by omega), decide_eq_false (by omega)⟩) (fun _ _ => ?_) (fun _ _ => htl _ hmul) ?_
  · have h1 : (1000 : Int) ≤ (2 ^ 63 - 1) / n := by
      rw [Int.le_ediv_iff_mul_le (by omega)]
      omega
    omega
  · rw [if_neg hn, hc, if_neg (by decide)]
    refine ⟨?_, ⟨.str (repS z n.toNat), H, I.tok _, ⟨s.toks, rfl⟩, q⟩⟩
    have h3 := repS_len z n.toNat
    have h4 := sizeLine_eq
    show (repS z n.toNat).length ≤ sizeLine
    rw [h3, Nat.mul_comm]
    omega
def fRepS (a b : D) : Option D := match a, b with
  | .str s, .int n => iff? (2 ≤ n ∧ n ≤ 1000 ∧ 1 ≤ s.length ∧ s.length ≤ 1000) (.str (repS s n.toNat))
  | _, _ => none
abbrev gRepS := bin fRepS
theorem fRepS_some {a b d : D} (h : fRepS a b = some d) : ∃ s n, a = .str s ∧ b = .int n ∧ (2 ≤ n ∧ n ≤ 1000 ∧ 1 ≤ s.length ∧ s.length ≤ 1000) ∧ d = .str (repS s n.toNat) := by
  unfold fRepS at h
  split at h
  · obtain ⟨h1, rfl⟩ := iff?_some h
    exact ⟨_, _, rfl, rfl, h1, rfl⟩
  · cases h
theorem rop_repS : ROp G (l2 rRepS) gRepS := by
  intro ds vs H Q d h e q
  obtain ⟨a, b, rfl, e⟩ := bin_some e
  obtain ⟨x, y, rfl, h1, h2⟩ := own2 h
  obtain ⟨s, n, rfl, rfl, hc, rfl⟩ := fRepS_some e
  exact ⟨s, n, h1.1, h2.1, hc.1, hc.2.1, hc.2.2.1, hc.2.2.2, done0 q (fun Z => ⟨rfl, rfl⟩)⟩
theorem pure_repS : PureG gRepS := by
  intro ds d e
  obtain ⟨a, b, rfl, e⟩ := bin_some e
  obtain ⟨s, n, rfl, rfl, hc, rfl⟩ := fRepS_some e
  rfl
end
end DL

/-! an item taken out of a list that is left behind -/
namespace DL
open PySem PySem.Spec PyProof.Rows L2
section
variable {G : Gc} {W : Wsh} {X : Cx}
theorem atI_split {α β : Type} {xs : List α} {ys : List β} {n : Int} {x : α} (h : atI xs n = some x) (hl : ys.length = xs.length) : ∃ a b c y d, xs = a ++ x :: b ∧ ys = c ++ y :: d ∧ c.length = a.length ∧ atI ys n = some y := by
  unfold atI at h ⊢
  rw [hl]
  cases e : ixN xs.length n with
  | none => rw [e] at h; cases h
  | some j =>
    rw [e] at h
    replace h : xs[j]? = some x := h
    obtain ⟨hj, hx⟩ := List.getElem?_eq_some_iff.mp h
    have hj2 : j < ys.length := by omega
    refine ⟨xs.take j, xs.drop (j + 1), ys.take j, ys[j], ys.drop (j + 1), ?_, ?_, by simp; omega, ?_⟩
    · rw [← hx, ← List.drop_eq_getElem_cons hj, List.take_append_drop]
    · rw [← List.drop_eq_getElem_cons hj2, List.take_append_drop]
    · exact List.getElem?_eq_getElem hj2
def takeK : Kn := fun ds e => match ds with
  | [.lst xs, .int n] => match atI xs n with
    | some x => .ok (x, [], e)
    | none => .bad
  | _ => .bad
theorem k_take : KOk G W [false, false] [true, true] (l2 (rIxL G.K)) takeK := by
  intro B Z H σ env Fs its vs T ios Q gd hd hb hn hF
  obtain ⟨d1, d2, rfl⟩ := its2 hb
  unfold takeK at hF
  split at hF
  · rename_i xs n e
    cases e
    split at hF
    · rename_i x hx
      obtain ⟨v, w, F1, F2, rfl, rfl, h1, h2⟩ := hand2 hd.own
      obtain ⟨a, ws, F', rfl, rfl, hH, o⟩ := h1.alive gd.z0
      obtain ⟨rfl, rfl⟩ := (show w = .int n ∧ F2 = [] from h2)
      subst hn
      obtain ⟨p, q, c, y, d, rfl, rfl, hcl, hy⟩ := atI_split hx (OwnL.length o)
      obtain ⟨w1, w2, G1, G2, e1, rfl, o1, o2⟩ := OwnL.split o
      obtain ⟨y', r, G3, G4, rfl, rfl, o3, o4⟩ := o2
      have hl1 := OwnL.length o1
      obtain ⟨ec, ed⟩ := List.append_inj e1 (by rw [hcl, hl1])
      obtain ⟨rfl, rfl⟩ := List.cons.inj ed
      refine ⟨a, _, n, y, rfl, rfl, SqL.of hH, hy, ?_⟩
      have nd := hd.nd
      simp only [List.append_nil] at nd
      have n2 := (List.nodup_cons.mp nd).2
      have n3 := (List.nodup_append.mp (List.nodup_append.mp n2).2.1).1
      have sub : ∀ b, b ∈ G3 → b ∈ (a :: (G1 ++ (G3 ++ G4)) ++ []) := fun b m => by simp [m]
      refine hF y Z H Fs G3 ⟨Stp.refl gd fun b m => .inl m, ⟨y, [], G3, [], rfl, by simp, o3, rfl, rfl⟩, n3, fun b m => hd.dj b (sub b m), fun b m => hd.fr b (sub b m), fun b m => .inr (.inr (sub b m))⟩
    · exact hF.elim
  · exact hF.elim
theorem e_take {a b : Expr} {pos : Pos} {f : DEnv → Out (D × DEnv)} {h : DEnv → Option D} (dx : DX X G) (ha : PE X a (TV G W f)) (hb : PE X b (TPur G h)) (hs : PlainIx b := by exact fun _ _ => rfl) : PE X (.Subscript a b pos) (TV G W (eK (.own f (.fin [.pur h])) takeK)) :=
  (pe_ix ix_list ha hb hs).imp fun σ H Q q => by
    have q := tv_chn (c := .own f (.fin [.pur h])) k_take rfl rfl σ H Q q
    rw [← dx.K] at q
    exact q
end
end DL

/-! an item taken out of a list that is left behind -/
/-! x[2].append(n) -/
namespace DL
open PySem PySem.Spec PyProof.Rows L2
section
variable {G : Gc} {W : Wsh} {X : Cx}
def app2K (n : Int) : Kn := fun ds e => match ds with
  | [.tupF f [d0, d1, .lst xs]] => if d0.pure = true ∧ d1.pure = true ∧ D.pureL xs = true ∧ xs.length < 16777216 then .ok (.non, [.tupF f [d0, d1, .lst (xs ++ [.int n])]], e) else .bad
  | _ => .bad
def rApp2 (K : PySem.W.Frag) (n : Int) : List V → Hp → VK → Prop := fun vs H Q => ∃ a v0 v1 l xs, vs = [.ref a] ∧ SqT K H a [v0, v1, .ref l] ∧ H l = some (.lst xs) ∧ xs.length < sizeLine ∧ Q .non (upd H l (.lst (xs ++ [.int n])))
theorem k_app2 {n : Int} : KOk G W [true] [true] (rApp2 G.K n) (app2K n) := by
  intro B Z H σ env Fs its vs T ios Q gd hd hb hn hF
  obtain ⟨d1, rfl⟩ := its1 hb
  unfold app2K at hF
  split at hF
  · rename_i f d0 d1 xs e
    cases e
    split at hF
    · rename_i hp
      obtain ⟨hp0, hp1, hpx, hxl⟩ := hp
      obtain ⟨v, rfl, a, ws, rfl, ht, o⟩ := hand1 hd.own
      obtain ⟨v0, r, F1, F2, rfl, rfl, o0, o1⟩ := o
      obtain ⟨v1, r1, F3, F4, rfl, rfl, om, o2⟩ := o1
      obtain ⟨v2, r2, F5, F6, rfl, rfl, ol, rfl, rfl⟩ := o2
      obtain ⟨rfl, _⟩ := Own.ofPure (Z' := Z) d0 v0 F1 hp0 o0
      obtain ⟨rfl, _⟩ := Own.ofPure (Z' := Z) d1 v1 F3 hp1 om
      obtain ⟨l, us, F', rfl, rfl, hH, ox⟩ := ol.alive gd.z0
      obtain ⟨rfl, _⟩ := OwnL.ofPure (Z' := Z) xs us F' hpx ox
      subst hn
      refine ⟨a, v0, v1, l, us, rfl, ht.seq, hH, by rw [← size_line, OwnL.length ox]; exact hxl, ?_⟩
      have nl : ∀ (b : Addr) (w : HO), H b = some w → Still w → b ≠ l := fun b w e st z => by
        rw [z, hH] at e; cases e; exact st trivial
      have kp : ∀ (b : Addr) (w : HO), H b = some w → Still w → upd H l (.lst (us ++ [.int n])) b = some w := fun b w e st => by
        rw [upd_ne (nl b w e st)]; exact e
      have kp2 : ∀ (b : Addr) (w : HO), H b = some w → b ∈ ([] : List Addr) ∨ Still w → upd H l (.lst (us ++ [.int n])) b = some w := fun b w e m => kp b w e (m.elim (fun m => (by cases m)) id)
      refine mut_fin3 gd hd (by simp) hH trivial ?_ hF
      refine ⟨a, [v0, v1, .ref l], rfl, ht.keep kp, v0, [v1, .ref l], [], [l], rfl, rfl, ?_, v1, [.ref l], [], [l], rfl, rfl, ?_, .ref l, [], [l], [], rfl, rfl, ⟨l, us ++ [.int n], [], rfl, .inr ⟨rfl, upd_same⟩, ?_⟩, rfl, rfl⟩
      · exact Own.keep (Same.refl Z) d0 v0 [] kp2 o0
      · exact Own.keep (Same.refl Z) d1 v1 [] kp2 om
      · exact OwnL.append (OwnL.keep (Same.refl Z) xs us [] kp2 ox) (OwnL.one ⟨rfl, rfl⟩)
    · exact hF.elim
  · exact hF.elim
theorem e_app2 {o i e : Expr} {apos cpos spos : Pos} {j : Nat} {n : Int} (dx : DX X G) (ho : PE X o (tVar j)) (hi : PE X i (tC (.int 2))) (he : PE X e (tC (.int n))) (hs : PlainIx i := by exact fun _ _ => rfl)
    (hbase : attributeBase (.Subscript o i spos) "append" X.env (eval (.Subscript o i spos) X.env) = eval (.Subscript o i spos) X.env := by rfl)
    (hfew : ((backTo cpos (starEach [e] X.env)).all (fun x => !x.1) && (backToKw cpos (keywordEach [] X.env)).all (fun x => x.1.isSome)
      && decide ([e].length + ([] : List Keyword).length + (if ([] : List Keyword).isEmpty then 0 else 1) < 30)) = true := by rfl)
    (hline : (apos.endLine == cpos.line) = true := by rfl) (hse : starEach [e] X.env = (false, eval e X.env) :: starEach [] X.env := by rfl) (hplain : (backTo cpos (starEach [] X.env)).any (·.1) = false := by rfl) : PE X (.Call (.Attribute (.Subscript o i spos) "append" apos) [e] [] cpos) (TV G W (eK (.io j (.fin [])) (app2K n))) :=
  (pe_bm F.plainAttrs_list F.slot_list_append F.type_list_append mt_append (pe_ix ix_tup ho hi hs) (pa_cons he pa_nil (hs := hse)) hbase hfew hline hse hplain).imp fun σ H Q h => by
    obtain ⟨v, ev, q⟩ := tv_chn (c := .io j (.fin [])) (k_app2 (n := n)) rfl rfl σ H Q h
    obtain ⟨a, v0, v1, l, xs, e, h1, h2, h3, q⟩ := q
    cases e
    exact ⟨_, ev, a, [v0, v1, .ref l], 2, .ref l, rfl, rfl, by rw [dx.K]; exact h1, rfl, .inl ⟨rfl, xs, SqL.of h2⟩, l, xs, .int n, rfl, rfl, h2, h3, q⟩
def takeT : Kn := fun ds e => match ds with
  | [.tupF _ xs, .int n] => match atI xs n with
    | some x => .ok (x, [], e)
    | none => .bad
  | _ => .bad
theorem k_takeT : KOk G W [false, false] [true, true] (l2 (rIxT G.K)) takeT := by
  intro B Z H σ env Fs its vs T ios Q gd hd hb hn hF
  obtain ⟨d1, d2, rfl⟩ := its2 hb
  unfold takeT at hF
  split at hF
  · rename_i fl xs n e
    cases e
    split at hF
    · rename_i x hx
      obtain ⟨v, w, F1, F2, rfl, rfl, h1, h2⟩ := hand2 hd.own
      obtain ⟨a, ws, rfl, ht, o⟩ := h1
      obtain ⟨rfl, rfl⟩ := (show w = .int n ∧ F2 = [] from h2)
      subst hn
      obtain ⟨p, q, c, y, d, rfl, rfl, hcl, hy⟩ := atI_split hx (OwnL.length o)
      obtain ⟨w1, w2, G1, G2, e1, rfl, o1, o2⟩ := OwnL.split o
      obtain ⟨y', r, G3, G4, rfl, rfl, o3, o4⟩ := o2
      have hl1 := OwnL.length o1
      obtain ⟨ec, ed⟩ := List.append_inj e1 (by rw [hcl, hl1])
      obtain ⟨rfl, rfl⟩ := List.cons.inj ed
      refine ⟨a, _, n, y, rfl, rfl, ht.seq, hy, ?_⟩
      have nd := hd.nd
      simp only [List.append_nil] at nd
      have n3 := (List.nodup_append.mp (List.nodup_append.mp nd).2.1).1
      have sub : ∀ b, b ∈ G3 → b ∈ ((G1 ++ (G3 ++ G4)) ++ []) := fun b m => by simp [m]
      refine hF y Z H Fs G3 ⟨Stp.refl gd fun b m => .inl m, ⟨y, [], G3, [], rfl, by simp, o3, rfl, rfl⟩, n3, fun b m => hd.dj b (sub b m), fun b m => hd.fr b (sub b m), fun b m => .inr (.inr (sub b m))⟩
    · exact hF.elim
  · exact hF.elim
theorem e_takeT {a b : Expr} {pos : Pos} {f : DEnv → Out (D × DEnv)} {h : DEnv → Option D} (dx : DX X G) (ha : PE X a (TV G W f)) (hb : PE X b (TPur G h)) (hs : PlainIx b := by exact fun _ _ => rfl) : PE X (.Subscript a b pos) (TV G W (eK (.own f (.fin [.pur h])) takeT)) :=
  (pe_ix ix_tup ha hb hs).imp fun σ H Q q => by
    have q := tv_chn (c := .own f (.fin [.pur h])) k_takeT rfl rfl σ H Q q
    rw [← dx.K] at q
    exact q
end
end DL

/-! enumerate of a tuple -/
namespace DL
open PySem PySem.Spec PyProof.Rows L2
section
variable {G : Gc} {W : Wsh} {X : Cx}
def mkEnumT : List D → Option (List D)
  | [.tupF _ xs] => some (enumD 0 xs)
  | _ => none
theorem enumT_fits : fits G (fun vs H R => ∃ a xs, vs = [.ref a] ∧ SqT G.K H a xs ∧ R (IteT G.K a) H) mkEnumT := by
  intro ds vs Y H zs R ho hy hx q
  unfold mkEnumT at hx
  split at hx
  · rename_i f xs
    cases hx
    obtain ⟨v, r, rfl, h1, h2⟩ := OwnL.uncons ho
    obtain ⟨rfl, _⟩ := h2
    obtain ⟨a, ws, rfl, e1, o⟩ := h1
    refine ⟨a, ws, rfl, e1.seq, q _ H (Same.refl H) fun i H' y t => ⟨fun z e => ?_, fun hl => ?_⟩⟩
    · obtain ⟨dx, e2, rfl⟩ := enumD_at _ _ _ _ e
      obtain ⟨vx, ex, hvx⟩ := OwnL.at o e2
      refine ⟨⟨ws, vx, (e1.keep t).seq, ex⟩, fun w H2 yy => ?_⟩
      obtain ⟨T, x', rfl, hT, eH, f1⟩ := yy
      have q1 := f1 ws (e1.keep t).seq
      rw [ex] at q1
      cases q1
      rw [Nat.zero_add]
      exact pair_new hT eH ⟨rfl, rfl⟩ (Own.keepT (Same.refl Y) t hvx)
    · rw [enumD_length] at hl
      exact ⟨ws, (e1.keep t).seq, by rw [OwnL.length o]; exact Nat.le_of_eq hl.symm⟩
  · cases hx
theorem i_enumT {elts : List Expr} {kk : Nat} {tpos : Pos} {e : Expr} {ta : TA} {p pos : Pos} (ops : List Opn) (dx : DX X G) (hg : Gl X "enumerate") (hm : X.mg "enumerate" = none) (ha : PA X [e] ta) (ht : ta = seqTE (ops.map (Opn.te G W)) := by rfl) (hs : starEach [e] X.env = [(false, eval e X.env)] := by rfl) :
    PI X (.Tuple elts kk tpos) (.Call (.Name "enumerate" p) [e] [] pos) (TSrc G W ops mkEnumT) :=
  src_ok (r := fun vs H R => ∃ a xs, vs = [.ref a] ∧ SqT X.K H a xs ∧ R (IteT X.K a) H) (by rw [dx.K]; exact enumT_fits) (by subst ht; exact pi_enumT hg hm ha hs)
/-- a def of which nothing is known -/
theorem fn_bad {P : Program} {w : World} {K : PySem.W.Frag} {mg : Str → Option Value} {base : Heap} {CX : CXT} {k : Nat} {f : Addr} {fd : FuncData} {ps : List Str} {ms : List Pm} : FnOk P w K mg base CX k f fd ps (spD G ms fun _ => .bad) :=
  ⟨fun vs H Q E h => by
    obtain ⟨_, _, _, _, _, _, _, _, _, hF⟩ := h
    exact hF.elim, fun A outer s H args us vs Q E _ _ _ _ h => by
    obtain ⟨_, _, _, _, _, _, _, _, _, hF⟩ := h
    exact hF.elim⟩
end
end DL

/-! a list is changed by arguments of which the first one reads the list -/
namespace DL
open PySem PySem.Spec PyProof.Rows L2
def evIP (j : Nat) (h : DEnv → Option D) (c : Chn) (k : Kn) : DEnv → Out (D × List D × DEnv) := fun env => match env[j]? with
  | some (some (m, d)) => if m.mut = true then must (h env) fun x => evC c (fun ds e => k (d :: x :: ds) e) (env.set j none) >>= fun q => match q.2.1 with
      | o :: os => .ok (q.1, os, q.2.2.set j (some (m, o)))
      | [] => .bad
    else .bad
  | _ => .bad
def ioP (j : Nat) (h : DEnv → Option D) (c : Chn) (k : Kn) : DEnv → Out (D × DEnv) := fun env => evIP j h c k env >>= fun q => .ok (q.1, q.2.2)
section
variable {G : Gc} {W : Wsh} {X : Cx}
theorem chn_ioP {bs : List Bool} {r : V → List V → Hp → VK → Prop} {k : Kn} {j : Nat} {h : DEnv → Option D} {c : Chn} (hk : KOk G W (true :: false :: c.iofs) bs (rvM r) k) (hb : true :: true :: c.kinds = bs) {Q : VK} {B Z H : Hp} {σ : L2.St} {env : DEnv} {Fs : Nat → List Addr} (g0 : Good G B Z H σ env Fs)
    (hF0 : FinV G W B Z H σ env (InF Fs) (ioP j h c k env) Q) : ∃ v, σ[j]? = some (some v) ∧ seqTE (TPur G h :: c.tes G W) σ H fun us H1 => r v us H1 Q := by
  have hF0 : FinO G W B Z H σ env (PT_ Fs []) [] (evIP j h c k env) Q := FinV.toO hF0
  cases hs : env[j]? with
  | none =>
    have e0 : evIP j h c k env = .bad := by unfold evIP; rw [hs]
    rw [e0] at hF0; exact hF0.elim
  | some sl =>
    match sl, hs with
    | none, hs =>
      have e0 : evIP j h c k env = .bad := by unfold evIP; rw [hs]
      rw [e0] at hF0; exact hF0.elim
    | some (m, d), hs =>
      by_cases hm : m.mut = true
      · have e0 : evIP j h c k env = (must (h env) fun x => evC c (fun ds e => k (d :: x :: ds) e) (env.set j none) >>= fun (q : D × List D × DEnv) => match q.2.1 with
            | o :: os => Out.ok (q.1, os, q.2.2.set j (some (m, o)))
            | [] => Out.bad) := by
          unfold evIP
          rw [hs]
          exact if_pos hm
        rw [e0] at hF0
        cases hr : h env with
        | none => rw [hr] at hF0; exact hF0.elim
        | some x =>
          rw [hr] at hF0
          have hF0 : FinO G W B Z H σ env (PT_ Fs []) [] (evC c (fun ds e => k (d :: x :: ds) e) (env.set j none) >>= fun (q : D × List D × DEnv) => match q.2.1 with
            | o :: os => Out.ok (q.1, os, q.2.2.set j (some (m, o)))
            | [] => Out.bad) Q := hF0
          obtain ⟨v, ev⟩ : ∃ v, σ[j]? = some (some v) := by
            have hsl := g0.sl j
            rw [hs] at hsl
            cases m with
            | own => obtain ⟨v, ev, _⟩ := hsl; exact ⟨v, ev⟩
            | io => obtain ⟨v, ev, _⟩ := hsl; exact ⟨v, ev⟩
            | shr => cases hm
            | brw => cases hm
            | lck => cases hm
          refine ⟨v, ev, ⟨B, Z, Fs, env, g0, x, hr, fun v2 H1 hs1 hp hv2 => ?_⟩⟩
          have hF := FinO.later (Stp.grow (P := PT_ Fs []) g0 (fun a m => .inl m) hs1) (fun a m => .inr m) hF0
          have g := g0.grow hs1
          clear hF0 e0
          have hv : Own G Z H1 d v (Fs j) := by
            have hsl := g.sl j
            rw [hs] at hsl
            cases m with
            | own => obtain ⟨v', ev', hv⟩ := hsl; rw [ev] at ev'; cases ev'; exact hv
            | io => obtain ⟨v', ev', hv⟩ := hsl; rw [ev] at ev'; cases ev'; exact hv
            | shr => cases hm
            | brw => cases hm
            | lck => cases hm
          have g1 := g.take j
          have off_j : ∀ a, InF (offF Fs j) a → a ∉ Fs j := fun a m n => by
            obtain ⟨i, m⟩ := m
            unfold offF at m
            split at m
            · cases m
            · rename_i hne
              exact hne (g.dj i j a m n)
          have hT1 : Hand G B Z H1 (joi B Z) (offF Fs j) [(true, d), (true, x)] [v, v2] (Fs j) := by
            refine ⟨⟨v, [v2], Fs j, [], rfl, (List.append_nil _).symm, hv, ⟨v2, [], [], [], rfl, rfl, hv2 Z, rfl, rfl⟩⟩, g.nd j, fun a m n => off_j a n m, fun a m => g.fr j a m⟩
          have hpp : ∀ a, PT_ (offF Fs j) (Fs j) a → PT_ Fs [] a := fun a m => by
            rcases m with m | m
            · exact .inl (inF_off m)
            · exact .inl ⟨j, m⟩
          have hjl : j < env.length := (List.getElem?_eq_some_iff.mp hs).1
          have hF1 : FinO G W B Z H1 σ (env.set j none) (PT_ (offF Fs j) (Fs j)) [v] (evC c (fun ds e => k ([(true, d), (true, x)].map (·.2) ++ ds) e) (env.set j none)) Q := by
            have e5 : (fun (ds : List D) (e : DEnv) => k ([(true, d), (true, x)].map (·.2) ++ ds) e) = fun ds e => k (d :: x :: ds) e := rfl
            rw [e5]
            generalize evC c (fun ds e => k (d :: x :: ds) e) (env.set j none) = oo at hF
            unfold FinO at hF ⊢
            match oo, hF with
            | .exc c', hF => exact hF
            | .ok (d', [], env'), hF => exact hF.elim
            | .ok (d', o :: os, env'), hF =>
              intro v' Z' H' Fs' F p
              obtain ⟨w1, r1, Fa, Fb, ea, eb, ha, hb'⟩ := p.own
              obtain ⟨rfl, rfl⟩ := List.cons.inj ea
              obtain ⟨w2, r2, Fc, Fd, ec, ed, hc, hd'⟩ := hb'
              cases ec
              subst ed
              subst eb
              have nd0 := List.nodup_append.mp p.nd
              have nd1 := List.nodup_append.mp nd0.2.1
              have memc : ∀ a, a ∈ Fc → a ∈ Fa ++ (Fc ++ Fd) := fun a m => List.mem_append_right _ (List.mem_append_left _ m)
              have tm : Tm G B Z' H' (InF Fs') o v Fc := ⟨hc, nd1.1, fun a m n => p.dj a (memc a m) n, fun a m => p.fr a (memc a m)⟩
              have ls : env'.length = env.length := by rw [p.st.ln, List.length_set]
              have g2 := p.st.good.give hm ev (by rw [ls]; exact hjl) tm
              have nj : ∀ i, i ≠ j → (env.set j none)[i]? = env[i]? := fun i h => List.getElem?_set_ne (fun z => h z.symm)
              have nj' : ∀ i, i ≠ j → (env'.set j (some (m, o)))[i]? = env'[i]? := fun i h => List.getElem?_set_ne (fun z => h z.symm)
              have at_j : (env'.set j (some (m, o)))[j]? = some (some (m, o)) := List.getElem?_set_self (by rw [ls]; exact hjl)
              refine hF v' Z' H' (onF Fs' j Fc) (Fa ++ Fd) ⟨⟨p.st.zz, fun a u e n => p.st.ext a u e fun z => n (hpp a z), g2, fun a mm => ?_, fun a mm => ?_, fun i d2 e => ?_, fun i d2 e => ?_, fun i d2 e => ?_, fun i d2 e => ?_, by rw [List.length_set]; exact ls⟩, ⟨v', _, Fa, Fd, rfl, rfl, ha, hd'⟩, ?_, fun a mm n => ?_, fun a mm => ?_, fun a mm => ?_⟩
              · rcases inF_on mm with mm | mm
                · exact (p.new a (memc a mm)).imp id (hpp a)
                · exact (p.st.new a mm).imp id (hpp a)
              · exact (p.st.newz a mm).imp id fun z => z.imp id (hpp a)
              · by_cases hi : i = j
                · subst hi
                  rw [hs] at e
                  cases e
                  exact ⟨⟨o, at_j⟩, rfl⟩
                · rw [nj' i hi]
                  exact p.st.io i d2 (by rw [nj i hi]; exact e)
              · by_cases hi : i = j
                · subst hi
                  rw [hs] at e
                  cases e
                  cases hm
                · rw [nj' i hi]
                  exact p.st.lk i d2 (by rw [nj i hi]; exact e)
              · by_cases hi : i = j
                · subst hi
                  rw [at_j] at e
                  cases e
                  cases hm
                · rw [nj' i hi] at e
                  have q := p.st.bw i d2 e
                  rw [nj i hi] at q
                  exact q
              · by_cases hi : i = j
                · subst hi
                  rw [at_j] at e
                  cases e
                  cases hm
                · rw [nj' i hi] at e
                  have q := p.st.lb i d2 e
                  rw [nj i hi] at q
                  exact q
              · exact List.nodup_append.mpr ⟨nd0.1, nd1.2.1, fun a m1 b m2 => nd0.2.2 a m1 b (List.mem_append_right _ m2)⟩
              · rcases inF_on n with n | n
                · rcases List.mem_append.mp mm with mm | mm
                  · exact nd0.2.2 a mm a (List.mem_append_left _ n) rfl
                  · exact nd1.2.2 a n a mm rfl
                · refine p.dj a ?_ n
                  rcases List.mem_append.mp mm with mm | mm
                  · exact List.mem_append_left _ mm
                  · exact List.mem_append_right _ (List.mem_append_right _ mm)
              · refine p.fr a ?_
                rcases List.mem_append.mp mm with mm | mm
                · exact List.mem_append_left _ mm
                · exact List.mem_append_right _ (List.mem_append_right _ mm)
              · refine (p.new a ?_).imp id (hpp a)
                rcases List.mem_append.mp mm with mm | mm
                · exact List.mem_append_left _ mm
                · exact List.mem_append_right _ (List.mem_append_right _ mm)
          have rec' := chn_ok hk c B Z H1 σ (env.set j none) (offF Fs j) [(true, d), (true, x)] [v, v2] (Fs j) [v] [true, false] g1 hT1 hb ⟨rfl, rfl, rfl⟩ hF1
          exact rec'
      · have e0 : evIP j h c k env = .bad := by
          unfold evIP
          rw [hs]
          exact if_neg hm
        rw [e0] at hF0; exact hF0.elim
theorem tv_ioP {σ : L2.St} {H : Hp} {Q : VK} {j : Nat} {h : DEnv → Option D} {c : Chn} {k : Kn} {r : V → List V → Hp → VK → Prop} {bs : List Bool} (hk : KOk G W (true :: false :: c.iofs) bs (rvM r) k) (hb : true :: true :: c.kinds = bs) (q : TV G W (isL j (ioP j h c k)) σ H Q) :
    ∃ v, σ[j]? = some (some v) ∧ tyV G.K "list" v H ∧ seqTE (TPur G h :: c.tes G W) σ H fun us H1 => r v us H1 Q := by
  obtain ⟨B, Z, Fs, env, gd, q⟩ := q
  have nb : isL j (ioP j h c k) env ≠ .bad := fun e => by rw [e] at q; exact q
  obtain ⟨⟨m, ds, hs⟩, e⟩ := isL_run nb
  rw [e] at q
  obtain ⟨v, ev, ty⟩ := io_tyV gd hs
  obtain ⟨w, ew, q⟩ := chn_ioP hk hb gd q
  rw [ev] at ew
  obtain rfl : v = w := Option.some.inj (Option.some.inj ew)
  exact ⟨v, ev, ty, q⟩
theorem e_insertP {o e e2 : Expr} {t : TA} {apos cpos : Pos} {j : Nat} {h : DEnv → Option D} (dx : DX X G) (ho : PE X o (tVar j)) (c : Chn) (ha : PA X [e, e2] t) (hn : c.iofs = [false] := by rfl) (ht : t = seqTE (TPur G h :: c.tes G W) := by rfl) (hb : c.kinds = [true] := by rfl) (hbase : attributeBase o "insert" X.env (eval o X.env) = eval o X.env := by rfl)
    (hfew : ((backTo cpos (starEach [e, e2] X.env)).all (fun x => !x.1) && (backToKw cpos (keywordEach [] X.env)).all (fun x => x.1.isSome)
      && decide ([e, e2].length + ([] : List Keyword).length + (if ([] : List Keyword).isEmpty then 0 else 1) < 30)) = true := by rfl)
    (hline : (apos.endLine == cpos.line) = true := by rfl) (hs : starEach [e, e2] X.env = (false, eval e X.env) :: starEach [e2] X.env := by rfl) (hplain : (backTo cpos (starEach [e2] X.env)).any (·.1) = false := by rfl) :
    PE X (.Call (.Attribute o "insert" apos) [e, e2] [] cpos) (TV G W (isL j (ioP j h c insK))) :=
  (pe_bm F.plainAttrs_list F.slot_list_insert F.type_list_insert mt_insert ho ha hbase hfew hline hs hplain).imp fun σ H Q q => by
    subst ht
    have hk : KOk G W (true :: false :: c.iofs) [true, true, true] (rvM rInsert) insK := by
      rw [hn]
      exact k_ins (fl := [false, false]) rfl
    obtain ⟨v, ev, ty, q⟩ := tv_ioP hk (by rw [hb]) q
    exact ⟨v, ev, by rw [dx.K]; exact ty, q⟩
theorem e_appendP {o e : Expr} {t : TA} {apos cpos : Pos} {j : Nat} {h : DEnv → Option D} (dx : DX X G) (ho : PE X o (tVar j)) (ha : PA X [e] t) (ht : t = seqTE [TPur G h] := by rfl) (hbase : attributeBase o "append" X.env (eval o X.env) = eval o X.env := by rfl)
    (hfew : ((backTo cpos (starEach [e] X.env)).all (fun x => !x.1) && (backToKw cpos (keywordEach [] X.env)).all (fun x => x.1.isSome)
      && decide ([e].length + ([] : List Keyword).length + (if ([] : List Keyword).isEmpty then 0 else 1) < 30)) = true := by rfl)
    (hline : (apos.endLine == cpos.line) = true := by rfl) (hs : starEach [e] X.env = (false, eval e X.env) :: starEach [] X.env := by rfl) (hplain : (backTo cpos (starEach [] X.env)).any (·.1) = false := by rfl) :
    PE X (.Call (.Attribute o "append" apos) [e] [] cpos) (TV G W (isL j (ioP j h (.fin []) appK))) :=
  (pe_bm F.plainAttrs_list F.slot_list_append F.type_list_append mt_append ho ha hbase hfew hline hs hplain).imp fun σ H Q q => by
    subst ht
    have hk : KOk G W (true :: false :: (Chn.fin []).iofs) [true, true] (rvM rAppend) appK := k_app (fl := [false]) rfl
    obtain ⟨v, ev, ty, q⟩ := tv_ioP hk rfl q
    exact ⟨v, ev, by rw [dx.K]; exact ty, q⟩
end
@[simp] theorem z_iop {j : Nat} {h : DEnv → Option D} {c : Chn} {k : Kn} {env : DEnv} : ioP j h c k env = (evIP j h c k env >>= fun q => .ok (q.1, q.2.2)) := rfl
@[simp] theorem z_evip {j : Nat} {h : DEnv → Option D} {c : Chn} {k : Kn} {env : DEnv} : evIP j h c k env = match env[j]? with
  | some (some (m, d)) => if m.mut = true then must (h env) fun x => evC c (fun ds e => k (d :: x :: ds) e) (env.set j none) >>= fun q => match q.2.1 with
      | o :: os => .ok (q.1, os, q.2.2.set j (some (m, o)))
      | [] => .bad
    else .bad
  | _ => .bad := rfl
end DL

/-! where an item stands in a list just made -/
namespace DL
open PySem PySem.Spec PyProof.Rows L2
/-- a value of its own, a list -/
def eLst (f : DEnv → Out (D × DEnv)) : DEnv → Out (D × DEnv) := fun env => f env >>= fun p => match p.1 with
  | .lst _ => .ok p
  | _ => .bad
section
variable {G : Gc} {W : Wsh} {X : Cx}
theorem tv_lst {f : DEnv → Out (D × DEnv)} {σ : L2.St} {H : Hp} {Q : VK} (h : TV G W (eLst f) σ H Q) : TV G W f σ H fun v H1 => tyW G.K "list" v H1 ∧ Q v H1 := by
  obtain ⟨B, Z, Fs, env, g, q⟩ := h
  refine ⟨B, Z, Fs, env, g, ?_⟩
  unfold eLst at q
  cases hr : f env with
  | bad => rw [hr] at q; exact q.elim
  | exc c => rw [hr] at q; exact q
  | ok p =>
    obtain ⟨d, env1⟩ := p
    rw [hr] at q
    simp only [Out.bind_ok] at q
    cases d with
    | lst xs =>
      intro v Z' H' Fs' F p
      refine ⟨?_, q v Z' H' Fs' F p⟩
      obtain ⟨v', r', Fa, Fb, e1, e2, h1, h2⟩ := p.own
      cases e1
      obtain ⟨a, vs, F', rfl, _, hs, _⟩ := h1.alive p.st.good.z0
      exact .inl (.inl ⟨rfl, vs, .inl (.inl hs)⟩)
    | _ => exact q.elim
theorem e_lIxO {o e : Expr} {es : List Expr} {t : TA} {apos cpos : Pos} {f : DEnv → Out (D × DEnv)} {hs : List SArg} (dx : DX X G) (ho : PE X o (TV G W f)) (ha : PA X (e :: es) t)
    (ht : t = seqTE (hs.map (SArg.te G)) := by rfl) (hn : (Chn.own (eLst f) (.fin hs)).iofs.any id = false := by rfl) (hbase : attributeBase o "index" X.env (eval o X.env) = eval o X.env := by rfl)
    (hfew : ((backTo cpos (starEach (e :: es) X.env)).all (fun x => !x.1) && (backToKw cpos (keywordEach [] X.env)).all (fun x => x.1.isSome)
      && decide ((e :: es).length + ([] : List Keyword).length + (if ([] : List Keyword).isEmpty then 0 else 1) < 30)) = true := by rfl)
    (hline : (apos.endLine == cpos.line) = true := by rfl) (hst : starEach (e :: es) X.env = (false, eval e X.env) :: starEach es X.env := by rfl) (hplain : (backTo cpos (starEach es X.env)).any (·.1) = false := by rfl) :
    PE X (.Call (.Attribute o "index" apos) (e :: es) [] cpos) (TV G W (eOp (.own (eLst f) (.fin hs)) gLIx)) :=
  (pe_bw F.plainAttrs_list F.slot_list_index F.type_list_index (mt_indexD (by have := dx.un; omega)) ho ha hbase hfew hline hst hplain).imp fun σ H Q q => by
    have q := tv_lst (tv_op (c := .own (eLst f) (.fin hs)) (rop_lIx dx.K) hn σ H Q q)
    rw [← dx.K] at q
    rw [ht]
    exact q
end
@[simp] theorem z_elst {f : DEnv → Out (D × DEnv)} {env : DEnv} : eLst f env = (f env >>= fun p => match p.1 with
  | .lst _ => .ok p
  | _ => .bad) := rfl
end DL

/-! a list is changed by arguments of which the first one, a call, reads the list -/
namespace DL
open PySem PySem.Spec PyProof.Rows L2
def evIV (j : Nat) (f : DEnv → Out (D × DEnv)) (c : Chn) (k : Kn) : DEnv → Out (D × List D × DEnv) := fun env => match env[j]? with
  | some (some (m, d)) => if m.mut = true then f (lock j env) >>= fun p => evC c (fun ds e => k (d :: p.1 :: ds) e) ((unlock env p.2).set j none) >>= fun q => match q.2.1 with
      | o :: os => .ok (q.1, os, q.2.2.set j (some (m, o)))
      | [] => .bad
    else .bad
  | _ => .bad
def ioVX (j : Nat) (f : DEnv → Out (D × DEnv)) (c : Chn) (k : Kn) : DEnv → Out (D × DEnv) := fun env => evIV j f c k env >>= fun q => .ok (q.1, q.2.2)
section
variable {G : Gc} {W : Wsh} {X : Cx}
theorem chn_ioV {bs : List Bool} {r : V → List V → Hp → VK → Prop} {k : Kn} {j : Nat} {f : DEnv → Out (D × DEnv)} {c : Chn} (hk : KOk G W (true :: false :: c.iofs) bs (rvM r) k) (hb : true :: true :: c.kinds = bs) {Q : VK} {B Z H : Hp} {σ : L2.St} {env : DEnv} {Fs : Nat → List Addr} (g0 : Good G B Z H σ env Fs)
    (hF0 : FinV G W B Z H σ env (InF Fs) (ioVX j f c k env) Q) : ∃ v, σ[j]? = some (some v) ∧ seqTE (TV G W f :: c.tes G W) σ H fun us H1 => r v us H1 Q := by
  have hF0 : FinO G W B Z H σ env (PT_ Fs []) [] (evIV j f c k env) Q := FinV.toO hF0
  cases hs0 : env[j]? with
  | none =>
    have e0 : evIV j f c k env = .bad := by unfold evIV; rw [hs0]
    rw [e0] at hF0; exact hF0.elim
  | some sl =>
    match sl, hs0 with
    | none, hs0 =>
      have e0 : evIV j f c k env = .bad := by unfold evIV; rw [hs0]
      rw [e0] at hF0; exact hF0.elim
    | some (m, d), hs0 =>
      by_cases hm : m.mut = true
      · have e0 : evIV j f c k env = (f (lock j env) >>= fun p => evC c (fun ds e => k (d :: p.1 :: ds) e) ((unlock env p.2).set j none) >>= fun (q : D × List D × DEnv) => match q.2.1 with
            | o :: os => Out.ok (q.1, os, q.2.2.set j (some (m, o)))
            | [] => Out.bad) := by
          unfold evIV
          rw [hs0]
          exact if_pos hm
        rw [e0] at hF0
        obtain ⟨v, ev⟩ : ∃ v, σ[j]? = some (some v) := by
          have hsl := g0.sl j
          rw [hs0] at hsl
          cases m with
          | own => obtain ⟨v, ev, _⟩ := hsl; exact ⟨v, ev⟩
          | io => obtain ⟨v, ev, _⟩ := hsl; exact ⟨v, ev⟩
          | shr => cases hm
          | brw => cases hm
          | lck => cases hm
        refine ⟨v, ev, ⟨lockB B H Fs j, Z, offF Fs j, lock j env, g0.lock j, ?_⟩⟩
        cases hr : f (lock j env) with
        | bad => rw [hr] at hF0; exact hF0.elim
        | exc c' =>
          rw [hr] at hF0
          exact fun H' hs => hF0 H' ((lockB_up g0 j).trans hs)
        | ok xp =>
          obtain ⟨x, env1⟩ := xp
          rw [hr] at hF0
          simp only [Out.bind_ok] at hF0
          intro v2 Z1 H1 Fs1 F1 p1
          have off_0 : ∀ a, InF (offF Fs j) a → InF Fs a ∧ a ∉ Fs j := fun a m => ⟨inF_off m, fun n => by
            obtain ⟨i, m⟩ := m
            unfold offF at m
            split at m
            · cases m
            · rename_i hne
              exact hne (g0.dj i j a m n)⟩
          have st2 := p1.st.unlock g0 (g0.lock j).pm off_0 (fun a m => ⟨j, m⟩)
          have hlk : env1[j]? = some (some (.lck, d)) := (p1.st.lk j d (by
            rw [lock_at, if_pos rfl, hs0]
            cases m <;> first | rfl | cases hm)).1
          have hs : (unlock env env1)[j]? = some (some (m, d)) := by
            rw [unlock_at, hs0, hlk]
            cases m <;> first | rfl | cases hm
          have p2 : Post G B Z H σ env (InF Fs) Z1 H1 (unlock env env1) (backF env Fs Fs1 j) [x] [v2] F1 := by
            refine ⟨st2, p1.own, p1.nd, fun a m n => ?_, fun a m => ?_, fun a m => (p1.new a m).imp id fun z => (off_0 a z).1⟩
            · obtain ⟨i, n⟩ := n
              rcases backF_mem n with ⟨_, n⟩ | n
              · have q := (p1.fr a m).1
                unfold lockB at q
                rw [lay_in n] at q
                obtain ⟨u, e, _⟩ := g0.dom ⟨j, n⟩
                rw [e] at q; cases q
              · exact p1.dj a m ⟨i, n⟩
            · refine ⟨?_, (p1.fr a m).2⟩
              cases q : B a with
              | none => rfl
              | some u =>
                have := lockB_up g0 j a u q
                rw [(p1.fr a m).1] at this
                cases this
          clear p1 st2 hlk
          generalize unlock env env1 = env2 at *
          generalize backF env Fs Fs1 j = Fs2 at *
          have hp1 : ∀ a, PT_ Fs2 F1 a → H a = none ∨ PT_ Fs [] a := fun a m => by
            rcases m with m | m
            · exact (p2.st.new a m).imp id .inl
            · exact (p2.new a m).imp id .inl
          have hF := FinO.later (p2.st.more fun a m => .inl m) hp1 hF0
          have g := p2.st.good
          have ho : Own G Z1 H1 x v2 F1 := by
            obtain ⟨v', r', Fa, Fb, e1, e2, h1, h2⟩ := p2.own
            cases e1
            obtain ⟨_, rfl⟩ := h2
            rw [List.append_nil] at e2
            rw [e2]
            exact h1
          clear hF0 e0
          have hv : Own G Z1 H1 d v (Fs2 j) := by
            have hsl := g.sl j
            rw [hs] at hsl
            cases m with
            | own => obtain ⟨v', ev', hv⟩ := hsl; rw [ev] at ev'; cases ev'; exact hv
            | io => obtain ⟨v', ev', hv⟩ := hsl; rw [ev] at ev'; cases ev'; exact hv
            | shr => cases hm
            | brw => cases hm
            | lck => cases hm
          have g1 := g.take j
          have off_j : ∀ a, InF (offF Fs2 j) a → a ∉ Fs2 j := fun a m n => by
            obtain ⟨i, m⟩ := m
            unfold offF at m
            split at m
            · cases m
            · rename_i hne
              exact hne (g.dj i j a m n)
          have hT1 : Hand G B Z1 H1 (joi B Z1) (offF Fs2 j) [(true, d), (true, x)] [v, v2] (Fs2 j ++ F1) := by
            refine ⟨⟨v, [v2], Fs2 j, F1, rfl, rfl, hv, ⟨v2, [], F1, [], rfl, (List.append_nil _).symm, ho, rfl, rfl⟩⟩, List.nodup_append.mpr ⟨g.nd j, p2.nd, fun a m b n => ?_⟩, fun a m n => ?_, fun a m => ?_⟩
            · rintro rfl
              exact p2.dj a n ⟨j, m⟩
            · rcases List.mem_append.mp m with m | m
              · exact off_j a n m
              · exact p2.dj a m (inF_off n)
            · rcases List.mem_append.mp m with m | m
              · exact g.fr j a m
              · exact p2.fr a m
          have hpp : ∀ a, PT_ (offF Fs2 j) (Fs2 j ++ F1) a → PT_ Fs2 F1 a := fun a m => by
            rcases m with m | m
            · exact .inl (inF_off m)
            · rcases List.mem_append.mp m with m | m
              · exact .inl ⟨j, m⟩
              · exact .inr m
          have hjl : j < env2.length := (List.getElem?_eq_some_iff.mp hs).1
          have hF1 : FinO G W B Z1 H1 σ (env2.set j none) (PT_ (offF Fs2 j) (Fs2 j ++ F1)) [v] (evC c (fun ds e => k ([(true, d), (true, x)].map (·.2) ++ ds) e) (env2.set j none)) Q := by
            have e5 : (fun (ds : List D) (e : DEnv) => k ([(true, d), (true, x)].map (·.2) ++ ds) e) = fun ds e => k (d :: x :: ds) e := rfl
            rw [e5]
            generalize evC c (fun ds e => k (d :: x :: ds) e) (env2.set j none) = oo at hF
            unfold FinO at hF ⊢
            match oo, hF with
            | .exc c', hF => exact hF
            | .ok (d', [], env'), hF => exact hF.elim
            | .ok (d', o :: os, env'), hF =>
              intro v' Z' H' Fs' F p
              obtain ⟨w1, r1, Fa, Fb, ea, eb, ha, hb'⟩ := p.own
              obtain ⟨rfl, rfl⟩ := List.cons.inj ea
              obtain ⟨w2, r2, Fc, Fd, ec, ed, hc, hd'⟩ := hb'
              cases ec
              subst ed
              subst eb
              have nd0 := List.nodup_append.mp p.nd
              have nd1 := List.nodup_append.mp nd0.2.1
              have memc : ∀ a, a ∈ Fc → a ∈ Fa ++ (Fc ++ Fd) := fun a m => List.mem_append_right _ (List.mem_append_left _ m)
              have tm : Tm G B Z' H' (InF Fs') o v Fc := ⟨hc, nd1.1, fun a m n => p.dj a (memc a m) n, fun a m => p.fr a (memc a m)⟩
              have ls : env'.length = env2.length := by rw [p.st.ln, List.length_set]
              have g2 := p.st.good.give hm ev (by rw [ls]; exact hjl) tm
              have nj : ∀ i, i ≠ j → (env2.set j none)[i]? = env2[i]? := fun i h => List.getElem?_set_ne (fun z => h z.symm)
              have nj' : ∀ i, i ≠ j → (env'.set j (some (m, o)))[i]? = env'[i]? := fun i h => List.getElem?_set_ne (fun z => h z.symm)
              have at_j : (env'.set j (some (m, o)))[j]? = some (some (m, o)) := List.getElem?_set_self (by rw [ls]; exact hjl)
              refine hF v' Z' H' (onF Fs' j Fc) (Fa ++ Fd) ⟨⟨p.st.zz, fun a u e n => p.st.ext a u e fun z => n (hpp a z), g2, fun a mm => ?_, fun a mm => ?_, fun i d2 e => ?_, fun i d2 e => ?_, fun i d2 e => ?_, fun i d2 e => ?_, by rw [List.length_set]; exact ls⟩, ⟨v', _, Fa, Fd, rfl, rfl, ha, hd'⟩, ?_, fun a mm n => ?_, fun a mm => ?_, fun a mm => ?_⟩
              · rcases inF_on mm with mm | mm
                · exact (p.new a (memc a mm)).imp id (hpp a)
                · exact (p.st.new a mm).imp id (hpp a)
              · exact (p.st.newz a mm).imp id fun z => z.imp id (hpp a)
              · by_cases hi : i = j
                · subst hi
                  rw [hs] at e
                  cases e
                  exact ⟨⟨o, at_j⟩, rfl⟩
                · rw [nj' i hi]
                  exact p.st.io i d2 (by rw [nj i hi]; exact e)
              · by_cases hi : i = j
                · subst hi
                  rw [hs] at e
                  cases e
                  cases hm
                · rw [nj' i hi]
                  exact p.st.lk i d2 (by rw [nj i hi]; exact e)
              · by_cases hi : i = j
                · subst hi
                  rw [at_j] at e
                  cases e
                  cases hm
                · rw [nj' i hi] at e
                  have q := p.st.bw i d2 e
                  rw [nj i hi] at q
                  exact q
              · by_cases hi : i = j
                · subst hi
                  rw [at_j] at e
                  cases e
                  cases hm
                · rw [nj' i hi] at e
                  have q := p.st.lb i d2 e
                  rw [nj i hi] at q
                  exact q
              · exact List.nodup_append.mpr ⟨nd0.1, nd1.2.1, fun a m1 b m2 => nd0.2.2 a m1 b (List.mem_append_right _ m2)⟩
              · rcases inF_on n with n | n
                · rcases List.mem_append.mp mm with mm | mm
                  · exact nd0.2.2 a mm a (List.mem_append_left _ n) rfl
                  · exact nd1.2.2 a n a mm rfl
                · refine p.dj a ?_ n
                  rcases List.mem_append.mp mm with mm | mm
                  · exact List.mem_append_left _ mm
                  · exact List.mem_append_right _ (List.mem_append_right _ mm)
              · refine p.fr a ?_
                rcases List.mem_append.mp mm with mm | mm
                · exact List.mem_append_left _ mm
                · exact List.mem_append_right _ (List.mem_append_right _ mm)
              · refine (p.new a ?_).imp id (hpp a)
                rcases List.mem_append.mp mm with mm | mm
                · exact List.mem_append_left _ mm
                · exact List.mem_append_right _ (List.mem_append_right _ mm)
          have rec' := chn_ok hk c B Z1 H1 σ (env2.set j none) (offF Fs2 j) [(true, d), (true, x)] [v, v2] (Fs2 j ++ F1) [v] [true, false] g1 hT1 hb ⟨rfl, rfl, rfl⟩ hF1
          exact rec'
      · have e0 : evIV j f c k env = .bad := by
          unfold evIV
          rw [hs0]
          exact if_neg hm
        rw [e0] at hF0; exact hF0.elim
theorem tv_ioV {σ : L2.St} {H : Hp} {Q : VK} {j : Nat} {f : DEnv → Out (D × DEnv)} {c : Chn} {k : Kn} {r : V → List V → Hp → VK → Prop} {bs : List Bool} (hk : KOk G W (true :: false :: c.iofs) bs (rvM r) k) (hb : true :: true :: c.kinds = bs) (q : TV G W (isL j (ioVX j f c k)) σ H Q) :
    ∃ v, σ[j]? = some (some v) ∧ tyV G.K "list" v H ∧ seqTE (TV G W f :: c.tes G W) σ H fun us H1 => r v us H1 Q := by
  obtain ⟨B, Z, Fs, env, gd, q⟩ := q
  have nb : isL j (ioVX j f c k) env ≠ .bad := fun e => by rw [e] at q; exact q
  obtain ⟨⟨m, ds, hs⟩, e⟩ := isL_run nb
  rw [e] at q
  obtain ⟨v, ev, ty⟩ := io_tyV gd hs
  obtain ⟨w, ew, q⟩ := chn_ioV hk hb gd q
  rw [ev] at ew
  obtain rfl : v = w := Option.some.inj (Option.some.inj ew)
  exact ⟨v, ev, ty, q⟩
theorem e_insertV {o e e2 : Expr} {t : TA} {apos cpos : Pos} {j : Nat} {f : DEnv → Out (D × DEnv)} (dx : DX X G) (ho : PE X o (tVar j)) (c : Chn) (ha : PA X [e, e2] t) (hn : c.iofs = [false] := by rfl) (ht : t = seqTE (TV G W f :: c.tes G W) := by rfl) (hb : c.kinds = [true] := by rfl) (hbase : attributeBase o "insert" X.env (eval o X.env) = eval o X.env := by rfl)
    (hfew : ((backTo cpos (starEach [e, e2] X.env)).all (fun x => !x.1) && (backToKw cpos (keywordEach [] X.env)).all (fun x => x.1.isSome)
      && decide ([e, e2].length + ([] : List Keyword).length + (if ([] : List Keyword).isEmpty then 0 else 1) < 30)) = true := by rfl)
    (hline : (apos.endLine == cpos.line) = true := by rfl) (hs : starEach [e, e2] X.env = (false, eval e X.env) :: starEach [e2] X.env := by rfl) (hplain : (backTo cpos (starEach [e2] X.env)).any (·.1) = false := by rfl) :
    PE X (.Call (.Attribute o "insert" apos) [e, e2] [] cpos) (TV G W (isL j (ioVX j f c insK))) :=
  (pe_bm F.plainAttrs_list F.slot_list_insert F.type_list_insert mt_insert ho ha hbase hfew hline hs hplain).imp fun σ H Q q => by
    subst ht
    have hk : KOk G W (true :: false :: c.iofs) [true, true, true] (rvM rInsert) insK := by
      rw [hn]
      exact k_ins (fl := [false, false]) rfl
    obtain ⟨v, ev, ty, q⟩ := tv_ioV hk (by rw [hb]) q
    exact ⟨v, ev, by rw [dx.K]; exact ty, q⟩
end
@[simp] theorem z_iov {j : Nat} {f : DEnv → Out (D × DEnv)} {c : Chn} {k : Kn} {env : DEnv} : ioVX j f c k env = (evIV j f c k env >>= fun q => .ok (q.1, q.2.2)) := rfl
@[simp] theorem z_eviv {j : Nat} {f : DEnv → Out (D × DEnv)} {c : Chn} {k : Kn} {env : DEnv} : evIV j f c k env = match env[j]? with
  | some (some (m, d)) => if m.mut = true then f (lock j env) >>= fun p => evC c (fun ds e => k (d :: p.1 :: ds) e) ((unlock env p.2).set j none) >>= fun q => match q.2.1 with
      | o :: os => .ok (q.1, os, q.2.2.set j (some (m, o)))
      | [] => .bad
    else .bad
  | _ => .bad := rfl
end DL

/-! walking what stands behind some items of a list, the items of any kind; a name for an item of a list, for a while -/
namespace DL
open PySem PySem.Spec PyProof.Rows L2
def mkTail : List D → Option (List D)
  | [.lst xs, .int n] => some (cutD xs (some n) none)
  | _ => none
theorem mkTail_some {ds xs : List D} (h : mkTail ds = some xs) : ∃ ys n, ds = [.lst ys, .int n] ∧ xs = cutD ys (some n) none := by
  unfold mkTail at h
  split at h
  · cases h; exact ⟨_, _, rfl, rfl⟩
  · cases h
section
variable {G : Gc} {W : Wsh} {X : Cx} {B Z H B1 Z1 H1 : Hp} {σ : L2.St} {env env1 : DEnv} {P : Addr → Prop} {Fs1 : Nat → List Addr} {u : DEnv → DEnv}
/-- more is only read -/
theorem Unl.hold0 {F : List Addr} (w : Unl G B Z H σ env P B1 Z1 H1 env1 Fs1 u) (hd : ∀ a, a ∈ F → ¬ InF Fs1 a) : Unl G B Z H σ env P (lay B1 H1 F) Z1 H1 env1 Fs1 u := by
  have g := w.good
  have up : Same B1 (lay B1 H1 F) := lay_up g.sb
  have le : Same (lay B1 H1 F) H1 := lay_le g.sb
  refine ⟨⟨le, g.sz, g.len, fun j => ?_, g.nd, g.dj, fun i a m => ⟨?_, (g.fr i a m).2⟩, g.z0⟩, w.bb.trans up, w.hh, fun Z2 H2 σ2 e2 F2 s => ?_⟩
  · have h := g.sl j
    have j1 : Same (joi B1 Z1) (joi (lay B1 H1 F) Z1) := joi_mono up (Same.refl Z1) le g.sz
    unfold SlotOk at h ⊢
    match hs : env1[j]?, h with
    | some (some (.own, d)), h => exact h
    | some (some (.io, d)), h => exact h
    | some (some (.shr, d)), h => exact h
    | some (some (.brw, d)), h => obtain ⟨v, e, h, f⟩ := h; exact ⟨v, e, Own.keep j1 d v [] (fun _ _ e _ => e) h, f⟩
    | some (some (.lck, d)), h => obtain ⟨v, e, h, f⟩ := h; exact ⟨v, e, Own.keep j1 d v [] (fun _ _ e _ => e) h, f⟩
    | some none, h => exact h
    | none, h => exact h
  · rw [lay_out fun n => hd a n ⟨i, m⟩]
    exact (g.fr i a m).1
  · obtain ⟨F3, s3, h3⟩ := w.out _ _ _ _ _ (s.unB g up g.pm)
    refine ⟨F3, s3, fun a n b => h3 a n ?_⟩
    cases q : B1 a with
    | none => rfl
    | some o =>
      have := up a o q
      rw [b] at this; cases this
theorem i_tail {tg l lo : Expr} {i : Nat} {g hl : DEnv → Option D} {pos p2 : Pos} (dx : DX X G) (hp : PE X l (TPlc G i g)) (pl : PE X lo (TPur G hl)) : PI X tg (.Subscript l (.Slice (some lo) none none p2) pos) (TSrc G W [.plc i g, .pur hl] mkTail) :=
  (pi_any (pe_slice sl_list hp (po_some pl) po_none)).imp fun σ H R ⟨B, Z, Fs, env, g0, q⟩ => by
    have key : seqTE ([Opn.plc i g, Opn.pur hl].map (Opn.te G W)) σ H fun us H2 => ∃ v n, us = [v, .int n] ∧ rSlL X.K v (some n) none H2 fun w H4 => rSeqI X.K [w] H4 R := by
      refine evO_ok (W := W) [.plc i g, .pur hl] B Z H env Fs id [] [] _ (Unl.refl g0) ⟨rfl, rfl⟩ ?_
      cases hr : evO [.plc i g, .pur hl] env with
      | bad => rw [hr] at q; exact q.elim
      | exc c => rw [hr] at q; exact q
      | ok p =>
        obtain ⟨ds, st, env1⟩ := p
        rw [hr] at q
        obtain ⟨xs, hmk, q⟩ := q
        obtain ⟨ys, n, rfl, rfl⟩ := mkTail_some hmk
        intro us B2 Z2 H2 Fs2 w o2
        obtain ⟨v, r1, e1, h1, o3⟩ := OwnL.uncons o2
        obtain ⟨vl, r2, rfl, h2, o4⟩ := OwnL.uncons o3
        obtain ⟨rfl, _⟩ := o4
        obtain ⟨rfl, _⟩ := h2
        rw [List.nil_append] at e1
        subst e1
        have hy : Same (joi B2 Z2) H2 := joi_le w.good.sb w.good.sz
        obtain ⟨a, ws, F', rfl, nn, h3⟩ := h1
        rcases nn with ⟨hs, _, rfl⟩ | ⟨z, _⟩
        · refine ⟨_, n, rfl, a, ws, rfl, .inl (Same.rd hy hs), fun p hn => ?_⟩
          have same := same_upd (o := .lst (cutV ws (some n) none)) hn
          have w4 := w.step (Stp.grow w.good (fun _ m => m) same)
          have hpn : ∀ b, b ∈ [p] → ¬ InF Fs2 b := fun b m n => by
            rw [List.mem_singleton.mp m] at n
            obtain ⟨o, e, _⟩ := w.good.dom n
            rw [hn] at e; cases e
          have w5 := w4.hold0 hpn
          have hl5 : Same (lay B2 (upd H2 p (.lst (cutV ws (some n) none))) [p]) (upd H2 p (.lst (cutV ws (some n) none))) := w5.good.sb
          have hy5 : Same (joi (lay B2 (upd H2 p (.lst (cutV ws (some n) none))) [p]) Z2) (upd H2 p (.lst (cutV ws (some n) none))) := joi_le hl5 w5.good.sz
          have j5 : Same (joi B2 Z2) (joi (lay B2 (upd H2 p (.lst (cutV ws (some n) none))) [p]) Z2) := joi_mono (lay_up w4.good.sb) (Same.refl Z2) hl5 w5.good.sz
          have o5 : OwnL G (joi (lay B2 (upd H2 p (.lst (cutV ws (some n) none))) [p]) Z2) (upd H2 p (.lst (cutV ws (some n) none))) [.lst (cutD ys (some n) none)] [.ref p] [] := by
            refine OwnL.cons_nil ⟨p, cutV ws (some n) none, [], rfl, .inl ⟨.inl (joi_left p _ (by rw [lay_in List.mem_cons_self]; exact upd_same)), rfl, rfl⟩, ?_⟩ ⟨rfl, rfl⟩
            exact OwnL.keepT j5 (TK.of same) (cutD_own h3)
          have hf := seq_fits (G := G) [.lst (cutD ys (some n) none)] [.ref p] _ _ (cutD ys (some n) none) R o5 hy5 rfl fun J H' hs' it => ?_
          · rw [dx.K]; exact hf
          · exact q _ Z2 H' Fs2 J (w5.step (Stp.grow w5.good (fun _ m => m) hs')) it
        · cases z
    refine SArg.mono (a := .plc i g) (fun x H1 k => ?_) (show (SArg.plc i g).te G σ H _ from key)
    obtain ⟨B, Z, Fs, env, gd, d, hd, k⟩ := k
    refine ⟨B, Z, Fs, env, gd, d, hd, fun v H' hs hp ho => ?_⟩
    obtain ⟨v', n, e, k⟩ := k v H' hs hp ho
    cases e
    exact ⟨n, rfl, k⟩
/-! ### a name for an item, while some statements run -/
def letD (bind : D → DEnv → Option DEnv) (clr : List Nat) (body : Stm) (x : D) : Stm := fun env => must (bind x env) fun e => body e >>= fun fl => match fl with
  | .nx e => must (dropS clr e) fun e => .ok (.nx e)
  | .rt d e => must (dropS clr e) fun e => .ok (.rt d e)
  | _ => .bad
def sLet (i : Nat) (g : DEnv → Option D) (j : Nat) (clr : List Nat) (body : Stm) : Stm := fun env => must (g env) fun d => letD (bName j) clr body d (lock i env) >>= unS [env]
theorem s_let {x : Str} {e : Expr} {p' pos : Pos} {i j : Nat} {g : DEnv → Option D} {body : List Stmt} {fb : Stm} (clr : List Nat) (dx : DX X G) (hj : X.N[j]? = some x) (hx : Loc X.env.scope x) (he : PE X e (TPlc G i g)) (hb : PSs X body (TSt G W fb)) (hc : [j].all (fun k => clr.contains k) = true := by rfl)
    (hs : swapsWith e (some (.Name x p')) pos.line X.env = pure false := by rfl) (hf : X.fn x = true ∨ X.env.scope.names.lookup x = some .local := by first | exact .inl rfl | exact .inr rfl) :
    PSs X (.Assign [.Name x p'] e pos :: body) (TSt G W (sLet i g j clr fb)) :=
  (pss_cons (ps_set dx.nd hj hx he hs hf) hb).imp fun En σ H ⟨B, Z, Fs, env, gd, q⟩ => by
    have hcl : ∀ k, k ∈ [j] → k ∈ clr := fun k m => by
      have := List.all_eq_true.mp hc k m
      simpa using this
    have q : FinS G W B Z H σ env (InF Fs) (must (g env) fun d => letD (bName j) clr fb d (lock i env) >>= unS [env]) En := q
    cases hg : g env with
    | none => rw [hg] at q; exact q.elim
    | some d =>
      rw [hg, must_some] at q
      refine ⟨B, Z, Fs, env, gd, d, hg, fun v H1 hs1 ho => ?_⟩
      have g1 := gd.grow hs1
      have q1 : FinS G W B Z H1 σ env (InF Fs) (letD (bName j) clr fb d (lock i env) >>= unS [env]) En := FinS.later (Stp.grow (P := InF Fs) gd (fun _ m => m) hs1) (fun a m => .inr m) q
      have w : Unl G B Z H1 σ env (InF Fs) (lockB B H1 Fs i) Z H1 (lock i env) (offF Fs i) (unlk [env]) := (Unl.refl g1).lock i
      have q2 := FinS.unl w q1
      have q3 : FinS G W (lockB B H1 Fs i) Z H1 σ (lock i env) (InF (offF Fs i)) (must (bName j d (lock i env)) fun e => fb e >>= fun fl => match fl with
        | .nx e => must (dropS clr e) fun e => .ok (.nx e)
        | .rt d e => must (dropS clr e) fun e => .ok (.rt d e)
        | _ => .bad) En := q2
      cases hbd : bName j d (lock i env) with
      | none => rw [hbd] at q3; exact q3.elim
      | some e4 =>
        rw [hbd, must_some] at q3
        refine bind_name (i := j) _ Z H1 σ (lock i env) (offF Fs i) d v e4 (fun σ H => TSt G W fb En σ H) w.good ho hbd fun σ4 Fs4 b4 => ?_
        refine ⟨_, Z, Fs4, e4, b4.good, ?_⟩
        unfold FinS
        cases hfb : fb e4 with
        | bad => rw [hfb] at q3; exact q3.elim
        | exc c => rw [hfb] at q3; exact q3
        | ok fl =>
          rw [hfb] at q3
          cases fl with
          | nx e5 =>
            intro σ6 Z6 H6 F6 s6
            have q3 : FinS G W (lockB B H1 Fs i) Z H1 σ (lock i env) (InF (offF Fs i)) (must (dropS clr e5) fun e => .ok (.nx e)) En := q3
            cases hdr : dropS clr e5 with
            | none => rw [hdr] at q3; exact q3.elim
            | some e7 =>
              rw [hdr] at q3
              obtain ⟨F7, s7, _⟩ := b4.stp (P := InF (offF Fs i)) (fun _ m => m) s6 hdr hcl
              exact q3 σ6 Z6 H6 F7 s7
          | ct e5 => exact q3.elim
          | bk e5 => exact q3.elim
          | rt d5 e5 =>
            intro σ6 v6 Z6 H6 F6 F p6
            have q3 : FinS G W (lockB B H1 Fs i) Z H1 σ (lock i env) (InF (offF Fs i)) (must (dropS clr e5) fun e => .ok (.rt d5 e)) En := q3
            cases hdr : dropS clr e5 with
            | none => rw [hdr] at q3; exact q3.elim
            | some e7 =>
              rw [hdr] at q3
              obtain ⟨F7, s7, h7⟩ := b4.stp (P := InF (offF Fs i)) (fun _ m => m) p6.st hdr hcl
              exact q3 σ6 v6 Z6 H6 F7 F ⟨s7, p6.own, p6.nd, fun a m n => p6.dj a m (h7 a n), p6.fr, fun a m => (p6.new a m).imp id (b4.sub a)⟩
/-! ### one part of a block, and the rest -/
theorem wp_execs_app {M : Model} {Γ : _} {Q E} {b : List Stmt} {ev : Env} : ∀ (a : List Stmt) (p s), Sem.wp M Γ (execs a ev) (fun f p' s' => match f with | .next => Sem.wp M Γ (execs b ev) Q E p' s' | f => Q f p' s') E p s → Sem.wp M Γ (execs (a ++ b) ev) Q E p s
  | [], p, s, h => h
  | st :: rest, p, s, h => by
    rw [List.cons_append, execs_cons, Sem.wp_bind']
    rw [execs_cons, Sem.wp_bind'] at h
    refine Sem.wp_mono M Γ _ (fun f p' s' h' => ?_) (fun _ _ _ h' => h') _ _ h
    cases f with
    | next => exact wp_execs_app rest p' s' h'
    | ret v => exact h'
    | brk => exact h'
    | cont => exact h'
theorem pss_app {a b : List Stmt} {t v : TS} (h1 : PSs X a t) (h2 : PSs X b v) : PSs X (a ++ b) (tSeq t v) := by
  refine ⟨fun pins s σ H D I h => ?_⟩
  have q := thn (h1.run pins s σ H { D with nx := v D } I h) (Q' := fun f s1 => match f with | .next => wpAny (model X.prog X.w) X.A (execs b X.env) (SP X pins D) X.xe s1 | f => SP X pins D f s1) fun f s1 q => by
    cases f with
    | next =>
      obtain ⟨σ', H', I', q⟩ := q
      exact h2.run pins s1 σ' H' D I' q
    | ret v => exact q
    | brk => exact q
    | cont => exact q
  intro Γ p hΓ
  refine wp_execs_app a _ _ (Sem.wp_mono _ Γ _ (fun f p' s' h' => ?_) (fun _ _ _ h' => h') _ _ (q Γ p hΓ))
  cases f with
  | next => exact h' Γ p' hΓ
  | ret v => exact h'
  | brk => exact h'
  | cont => exact h'
theorem s_app {ss : List Stmt} {f g : Stm} (n : Nat) (h1 : PSs X (ss.take n) (TSt G W f)) (h2 : PSs X (ss.drop n) (TSt G W g)) : PSs X ss (TSt G W (sSeq f g)) := by
  have h := pss_app h1 h2
  rw [List.take_append_drop] at h
  refine h.imp fun En σ H ⟨B, Z, Fs, env, gd, q⟩ => ?_
  refine ⟨B, Z, Fs, env, gd, ?_⟩
  unfold sSeq at q
  cases hf : f env with
  | bad => rw [hf] at q; exact q.elim
  | exc c => rw [hf] at q; exact q
  | ok fl =>
    rw [hf] at q
    cases fl with
    | nx e => exact fun σ' Z' H' Fs' s => ⟨B, Z', Fs', e, s.good, FinS.later s s.new q⟩
    | bk e => exact q
    | ct e => exact q
    | rt d e => exact q
end
end DL

/-! an argument that is changed, handed in fresh: nobody asks what has become of it -/
namespace DL
open PySem PySem.Spec PyProof.Rows L2
def Pm.noIo : Pm → Pm
  | .io => .mv
  | m => m
def noOut (F : Fn) : Fn := fun ds => match F ds with
  | .ok (r, _) => .ok (r, [])
  | .exc c => .exc c
  | .bad => .bad
theorem noIo_any : ∀ ms : List Pm, ((ms.map Pm.noIo).map Pm.isIo).any id = false
  | [] => rfl
  | m :: r => by
    rw [List.map_cons, List.map_cons, List.any_cons, noIo_any r]
    cases m <;> rfl
theorem spD_noIo {G : Gc} {ms : List Pm} {F : Fn} {vs : List V} {H : Hp} {Q : VK} {E : XK} (h : spD G (ms.map Pm.noIo) (noOut F) vs H Q E) : spD G ms F vs H Q E := by
  obtain ⟨its, T, Z, h1, h2, h3, h4, h5, h6, h7⟩ := h
  have ho : (ms.map Pm.noIo).map Pm.own = ms.map Pm.own := by
    rw [List.map_map]
    exact List.map_congr_left fun m _ => by cases m <;> rfl
  refine ⟨its, T, Z, h1.trans ho, h2, h3, h4, h5, h6, ?_⟩
  unfold noOut at h7
  cases hF : F (its.map (·.2)) with
  | bad => rw [hF] at h7; exact h7.elim
  | exc c => rw [hF] at h7; exact h7
  | ok p =>
    obtain ⟨r, outs⟩ := p
    rw [hF] at h7
    intro v H' Z' A z0 zz sz ex ow nd fr nz
    obtain ⟨v1, r1, F1, F2, e1, e2, o1, o2⟩ := ow
    cases e1
    subst e2
    have hi : ioV ((ms.map Pm.noIo).map Pm.isIo) vs = [] := ioV_none _ _ (noIo_any ms)
    refine h7 v H' Z' F1 z0 zz sz ex ?_ (List.nodup_append.mp nd).1 (fun a m => fr a (List.mem_append_left _ m)) nz
    rw [hi]
    exact ⟨v, [], F1, [], rfl, (List.append_nil _).symm, o1, rfl, rfl⟩
theorem _root_.L2.FnOk.mv {P : Program} {w : World} {K : PySem.W.Frag} {mg : Str → Option Value} {base : Heap} {CX : CXT} {k : Nat} {f : Addr} {fd : FuncData} {ps : List Str} {G : Gc} {ms : List Pm} {F : Fn} (h : FnOk P w K mg base CX k f fd ps (spD G ms F)) : FnOk P w K mg base CX k f fd ps (spD G (ms.map Pm.noIo) (noOut F)) :=
  h.imp fun _ _ _ _ q => spD_noIo q
end DL

/-! small things: the length of a dict just made -/
namespace DL
open PySem PySem.Spec PyProof.Rows L2
section
variable {G : Gc} {W : Wsh} {X : Cx} {e : Expr} {es : List Expr} {t : TA} {p pos : Pos}
theorem e_lenD (dx : DX X G) (hg : Gl X "len") (hm : X.mg "len" = none) (c : Chn) (ha : PA X (e :: es) t) (ht : t = seqTE (c.tes G W) := by rfl) (hio : c.iofs.any id = false := by rfl) (he : starEach (e :: es) X.env = (false, eval e X.env) :: starEach es X.env := by rfl) (hpl : (backTo pos (starEach es X.env)).any (·.1) = false := by rfl) :
    PE X (.Call (.Name "len" p) (e :: es) [] pos) (TV G W (eOp c gLenD)) :=
  e_callB call_lenDD hg hm bt_len rop_lenD c ha ht hio (by decide) (by decide) he hpl
end
end DL

namespace DL
open PySem PySem.Spec PyProof.Rows L2

/-! ### how the semantics is reckoned -/
section
variable {env : DEnv} {i j : Nat} {d e : D} {m : Md} {h k : DEnv → Option D}
@[simp] theorem z_var : hVar i env = match env[i]? with
  | some (some (_, d)) => if d.pure = true then some d else none
  | _ => none := rfl
@[simp] theorem z_pvar : pVar i env = match env[i]? with
  | some (some (_, d)) => some d
  | _ => none := rfl
@[simp] theorem z_c : hC d env = some d := rfl
@[simp] theorem z_rd {g : DEnv → Option D} : hRd g env = match g env with
  | some d => if d.pure = true then some d else none
  | none => none := rfl
@[simp] theorem z_pix {g : DEnv → Option D} : pIx g h env = match g env, h env with
  | some d, some k => gAt d k
  | _, _ => none := rfl
@[simp] theorem z_at {n : Int} : gAt d (.int n) = dIx d n := rfl
@[simp] theorem z_ixl {xs : List D} {n : Int} : dIx (.lst xs) n = atI xs n := rfl
@[simp] theorem z_ixt {xs : List D} {n : Int} {fl : Bool} : dIx (.tupF fl xs) n = atI xs n := rfl
@[simp] theorem z_hop {hs : List SArg} {g : List D → Option D} : hOp hs g env = match evS hs env with
  | some ds => g ds
  | none => none := rfl
@[simp] theorem z_s0 : evS [] env = some [] := rfl
@[simp] theorem z_s1 {a : SArg} {r : List SArg} : evS (a :: r) env = match a.val env with
  | some d => match evS r env with
    | some ds => some (d :: ds)
    | none => none
  | none => none := rfl
@[simp] theorem z_vpur : (SArg.pur h).val env = h env := rfl
@[simp] theorem z_vplc {g : DEnv → Option D} : (SArg.plc i g).val env = g env := rfl
@[simp] theorem z_vint : (SArg.int h).val env = match h env with
  | some d => onlyInt d
  | none => none := rfl
@[simp] theorem z_oi {n : Int} : onlyInt (.int n) = some (.int n) := rfl
@[simp] theorem z_vplt {g : DEnv → Option D} {T : D → Bool} : (SArg.plt i g T).val env = match g env with
  | some d => onlyT T d
  | none => none := rfl
@[simp] theorem z_vput {T : D → Bool} : (SArg.put h T).val env = match h env with
  | some d => onlyT T d
  | none => none := rfl
@[simp] theorem z_ep : eP h env = must (h env) fun d => .ok (d, env) := rfl
@[simp] theorem z_mov : eMov i env = match env[i]? with
  | some (some (m, d)) => if m = .own then .ok (d, env.set i none) else .bad
  | _ => .bad := rfl
@[simp] theorem z_cfin {hs : List SArg} {k : Kn} : evC (.fin hs) k env = must (evS hs env) fun ds => k ds env := rfl
@[simp] theorem z_cown {f : DEnv → Out (D × DEnv)} {c : Chn} {k : Kn} : evC (.own f c) k env = (f env >>= fun p => evC c (fun ds e => k (p.1 :: ds) e) p.2) := rfl
@[simp] theorem z_cpur {c : Chn} {k : Kn} : evC (.pur h c) k env = must (h env) fun d => evC c (fun ds e => k (d :: ds) e) env := rfl
@[simp] theorem z_cplc {g : DEnv → Option D} {c : Chn} {k : Kn} : evC (.plc i g c) k env = must (g env) fun d => evC c (fun ds e => k (d :: ds) e) (lock i env) >>= fun q => .ok (q.1, q.2.1, unlock env q.2.2) := rfl
@[simp] theorem z_cio {c : Chn} {k : Kn} : evC (.io j c) k env = match env[j]? with
  | some (some (m, d)) => if m.mut = true then evC c (fun ds e => k (d :: ds) e) (env.set j none) >>= fun q => match q.2.1 with
      | o :: os => .ok (q.1, os, q.2.2.set j (some (m, o)))
      | [] => .bad
    else .bad
  | _ => .bad := rfl
@[simp] theorem z_ek {c : Chn} {k : Kn} : eK c k env = (evC c k env >>= fun q => .ok (q.1, q.2.2)) := rfl
@[simp] theorem z_opk {g : List D → Option D} {ds : List D} : opK g ds env = must (g ds) fun d => .ok (d, [], env) := rfl
@[simp] theorem z_callk {ms : List Pm} {F : Fn} {ds : List D} : callK ms F ds env = match F ds with
  | .ok (r, o) => .ok (r, o, env)
  | .exc c => if ms.all (fun (m : Pm) => !m.own) = true then .exc c else .bad
  | .bad => .bad := rfl
@[simp] theorem z_mut1 : Md.mut .own = true := rfl
@[simp] theorem z_mut2 : Md.mut .io = true := rfl
@[simp] theorem z_lock0 {s : Slot} {r : DEnv} : lock 0 (s :: r) = lock1 s :: r := rfl
@[simp] theorem z_lock1 {s : Slot} {r : DEnv} : lock (i + 1) (s :: r) = s :: lock i r := rfl
@[simp] theorem z_l1 : lock1 (some (.own, d)) = some (.lck, d) := rfl
@[simp] theorem z_l2 : lock1 (some (.io, d)) = some (.lck, d) := rfl
@[simp] theorem z_l3 : lock1 (some (.brw, d)) = some (.brw, d) := rfl
@[simp] theorem z_l4 : lock1 (some (.lck, d)) = some (.lck, d) := rfl
@[simp] theorem z_l5 : lock1 none = none := rfl
@[simp] theorem z_un0 : unlock [] [] = [] := rfl
@[simp] theorem z_un1 {s t : Slot} {r u : DEnv} : unlock (s :: r) (t :: u) = unl1 s t :: unlock r u := rfl
@[simp] theorem z_u1 : unl1 (some (.own, d)) (some (.lck, e)) = some (.own, e) := rfl
@[simp] theorem z_u2 : unl1 (some (.io, d)) (some (.lck, e)) = some (.io, e) := rfl
@[simp] theorem z_u3 {s : Slot} : unl1 none s = s := rfl
@[simp] theorem z_u4 {s : Slot} : unl1 (some (.brw, d)) s = s := rfl
@[simp] theorem z_u5 {s : Slot} : unl1 (some (.lck, d)) s = s := rfl
@[simp] theorem z_u6 {s : Slot} : unl1 s none = none := by
  match s with
  | none => rfl
  | some (.own, _) => rfl
  | some (.io, _) => rfl
  | some (.shr, _) => rfl
  | some (.brw, _) => rfl
  | some (.lck, _) => rfl
@[simp] theorem z_u7 {s : Slot} : unl1 s (some (.own, d)) = some (.own, d) := by
  match s with
  | none => rfl
  | some (.own, _) => rfl
  | some (.io, _) => rfl
  | some (.shr, _) => rfl
  | some (.brw, _) => rfl
  | some (.lck, _) => rfl
@[simp] theorem z_u8 {s : Slot} : unl1 s (some (.io, d)) = some (.io, d) := by
  match s with
  | none => rfl
  | some (.own, _) => rfl
  | some (.io, _) => rfl
  | some (.shr, _) => rfl
  | some (.brw, _) => rfl
  | some (.lck, _) => rfl
@[simp] theorem z_u9 {s : Slot} : unl1 s (some (.brw, d)) = some (.brw, d) := by
  match s with
  | none => rfl
  | some (.own, _) => rfl
  | some (.io, _) => rfl
  | some (.shr, _) => rfl
  | some (.brw, _) => rfl
  | some (.lck, _) => rfl
-- statements
variable {f g : Stm} {fe : DEnv → Out (D × DEnv)} {c : DEnv → Option Bool} {ce : DEnv → Out (Bool × DEnv)}
@[simp] theorem z_nop : sNop env = .ok (.nx env) := rfl
@[simp] theorem z_seq : sSeq f g env = (f env >>= fun fl => match fl with
  | .nx e => g e
  | fl => .ok fl) := rfl
@[simp] theorem z_if : sIf c f g env = must (c env) fun b => if b = true then f env else g env := rfl
@[simp] theorem z_ife : sIfE ce f g env = (ce env >>= fun p => if p.1 = true then f p.2 else g p.2) := rfl
@[simp] theorem z_ret : sRet fe env = (fe env >>= fun p => .ok (.rt p.1 p.2)) := rfl
@[simp] theorem z_retn : sRetN env = .ok (.rt .non env) := rfl
@[simp] theorem z_expr : sExpr fe env = (fe env >>= fun p => .ok (.nx p.2)) := rfl
@[simp] theorem z_brk : sBrk env = .ok (.bk env) := rfl
@[simp] theorem z_cont : sCont env = .ok (.ct env) := rfl
@[simp] theorem z_free : free? i env = match env[i]? with
  | some (some (.io, _)) => false
  | some (some (.lck, _)) => false
  | some _ => true
  | none => false := rfl
@[simp] theorem z_put : putS i d env = if free? i env = true then some (env.set i (some (.own, d))) else none := rfl
@[simp] theorem z_set : sSet i fe env = (fe env >>= fun p => must (putS i p.1 p.2) fun e => .ok (.nx e)) := rfl
@[simp] theorem z_dr0 : dropS [] env = some env := rfl
@[simp] theorem z_dr1 {r : List Nat} : dropS (i :: r) env = if free? i env = true then dropS r (env.set i none) else none := rfl
@[simp] theorem z_drop {is : List Nat} : sDrop is env = must (dropS is env) fun e => .ok (.nx e) := rfl
@[simp] theorem z_aug {o : List D → Option D} : sAug i o fe env = must (hVar i env) fun dx => fe env >>= fun p => must (o [dx, p.1]) fun d => must (putS i d p.2) fun e => .ok (.nx e) := rfl
@[simp] theorem z_isl {α : Type} {f : DEnv → Out α} : isL j f env = match env[j]? with
  | some (some (_, .lst _)) => f env
  | _ => .bad := rfl
-- tests
@[simp] theorem z_hb : hB h env = match h env with
  | some d => d.toBl
  | none => none := rfl
@[simp] theorem z_eb : eB fe env = (fe env >>= fun p => must p.1.toBl fun b => .ok (b, p.2)) := rfl
@[simp] theorem z_ebp : eBp c env = must (c env) fun b => .ok (b, env) := rfl
@[simp] theorem z_not : hNot c env = match c env with
  | some b => some (!b)
  | none => none := rfl
@[simp] theorem z_note : eNot ce env = (ce env >>= fun p => .ok (!p.1, p.2)) := rfl
@[simp] theorem z_and {c2 : DEnv → Option Bool} : hAnd c c2 env = match c env with
  | some b => if b = true then c2 env else some false
  | none => none := rfl
@[simp] theorem z_or {c2 : DEnv → Option Bool} : hOr c c2 env = match c env with
  | some b => if b = true then some true else c2 env
  | none => none := rfl
@[simp] theorem z_ande {c2 : DEnv → Out (Bool × DEnv)} : eAnd ce c2 env = (ce env >>= fun p => if p.1 = true then c2 p.2 else .ok (false, p.2)) := rfl
@[simp] theorem z_ore {c2 : DEnv → Out (Bool × DEnv)} : eOr ce c2 env = (ce env >>= fun p => if p.1 = true then .ok (true, p.2) else c2 p.2) := rfl
@[simp] theorem z_andv : hAndV h k env = match hB h env with
  | some b => if b = true then k env else some (.bl false)
  | none => none := rfl
@[simp] theorem z_orv : hOrV h k env = match hB h env with
  | some b => if b = true then some (.bl true) else k env
  | none => none := rfl
@[simp] theorem z_notv : hNotV h env = match hB h env with
  | some b => some (.bl (!b))
  | none => none := rfl
@[simp] theorem z_andve {f2 : DEnv → Out (D × DEnv)} : eAndV fe f2 env = (eB fe env >>= fun p => if p.1 = true then f2 p.2 else .ok (.bl false, p.2)) := rfl
@[simp] theorem z_orve {f2 : DEnv → Out (D × DEnv)} : eOrV fe f2 env = (eB fe env >>= fun p => if p.1 = true then .ok (.bl true, p.2) else f2 p.2) := rfl
@[simp] theorem z_notve : eNotV fe env = (eB fe env >>= fun p => .ok (.bl (!p.1), p.2)) := rfl
-- operations
variable {n n2 : Int} {b b2 : Bool} {xs ys : List D} {s t : Str}
@[simp] theorem z_bin {o : D → D → Option D} : bin o [d, e] = o d e := rfl
@[simp] theorem z_una {o : D → Option D} : una o [d] = o d := rfl
@[simp] theorem z_bi {o : Int → Int → Option D} : bI o (.int n) (.int n2) = o n n2 := rfl
@[simp] theorem z_addi : fAdd (.int n) (.int n2) = some (.int (n + n2)) := rfl
@[simp] theorem z_adds : fAdd (.str s) (.str t) = iff? (s.length + t.length ≤ 16777216) (.str (s ++ t)) := rfl
@[simp] theorem z_addt : fAdd (.tup xs) (.tup ys) = iff? (D.pureL xs = true ∧ D.pureL ys = true ∧ xs.length + ys.length ≤ 16777216) (.tup (xs ++ ys)) := rfl
@[simp] theorem z_lti : fLt (.int n) (.int n2) = some (.bl (decide (n < n2))) := rfl
@[simp] theorem z_lts : fLt (.str s) (.str t) = some (.bl (decide (s.cps.toList < t.cps.toList))) := rfl
@[simp] theorem z_tobl : D.toBl (.bl b) = some b := rfl
@[simp] theorem z_toint : D.toInt (.int n) = some n := rfl
@[simp] theorem z_tolst : D.toLst (.lst xs) = some xs := rfl
@[simp] theorem z_totup : D.toTup (.tup xs) = some xs := rfl
@[simp] theorem z_torow1 : D.toRow (.lst xs) = some xs := rfl
@[simp] theorem z_torow2 {ns : List Int} : D.toRow (.scr ns) = some (ns.map .int) := rfl
@[simp] theorem z_pint : D.pure (.int n) = true := rfl
@[simp] theorem z_pbl : D.pure (.bl b) = true := rfl
@[simp] theorem z_pstr : D.pure (.str s) = true := rfl
@[simp] theorem z_pnon : D.pure .non = true := rfl
@[simp] theorem z_ptup {fl : Bool} : D.pure (.tupF fl xs) = D.pureL xs := rfl
@[simp] theorem z_plst : D.pure (.lst xs) = false := rfl
@[simp] theorem z_pl0 : D.pureL [] = true := rfl
@[simp] theorem z_pl1 : D.pureL (d :: xs) = (d.pure && D.pureL xs) := rfl
@[simp] theorem z_pints (ns : List Int) : D.pureL (ns.map .int) = true := pureL_ints ns
theorem pureL_map {α : Type} {φ : α → D} (hp : ∀ a, (φ a).pure = true) : ∀ l : List α, D.pureL (l.map φ) = true
  | [] => rfl
  | a :: r => by rw [List.map_cons, z_pl1, hp a, pureL_map hp r]; rfl
theorem pureL_of {l : List D} (h : ∀ d ∈ l, d.pure = true) : D.pureL l = true := by
  induction l with
  | nil => rfl
  | cons a r ih => rw [z_pl1, h a List.mem_cons_self, ih fun d hd => h d (List.mem_cons_of_mem _ hd)]; rfl
@[simp] theorem z_lenl : fLen (.lst xs) = some (.int xs.length) := rfl
@[simp] theorem z_lent {fl : Bool} : fLen (.tupF fl xs) = some (.int xs.length) := rfl
@[simp] theorem z_lens {ns : List Int} : fLen (.scr ns) = some (.int ns.length) := rfl
@[simp] theorem z_lenstr : fLen (.str s) = iff? (s.length ≤ 16777216) (.int s.length) := rfl
@[simp] theorem z_sum : fSum (.lst xs) = (D.ints xs).map fun ns => .int ns.sum := rfl
@[simp] theorem z_rev : fRev (.lst xs) = iff? (D.pureL xs = true) (.lst xs.reverse) := rfl
@[simp] theorem z_lo1 : fListOf (.lst xs) = iff? (D.pureL xs = true) (.lst xs) := rfl
@[simp] theorem z_lo2 {fl : Bool} : fListOf (.tupF fl xs) = iff? (D.pureL xs = true) (.lst xs) := rfl
@[simp] theorem z_to1 : fTupOf (.lst xs) = iff? (D.pureL xs = true) (.tup xs) := rfl
@[simp] theorem z_to2 {fl : Bool} : fTupOf (.tupF fl xs) = iff? (D.pureL xs = true) (.tupF fl xs) := rfl
@[simp] theorem z_ftup : fTup xs = iff? (D.pureL xs = true ∧ xs.length ≤ 16777216) (.tup xs) := rfl
@[simp] theorem z_dsp {mk : List D → D} : dspK mk xs env = if xs.length ≤ 16777216 then .ok (mk xs, [], env) else .bad := rfl
@[simp] theorem z_app : appK [.lst xs, d] env = if xs.length < 16777216 then .ok (.non, [.lst (xs ++ [d])], env) else .bad := rfl
@[simp] theorem z_pop : popK [.lst xs] env = match xs.getLast? with
  | some y => .ok (y, [.lst xs.dropLast], env)
  | none => .bad := rfl
@[simp] theorem z_clear : clearK [.lst xs] env = .ok (.non, [.lst []], env) := rfl
@[simp] theorem z_setk : setK [d, .lst xs, .int n] env = match ixN xs.length n with
  | some k => .ok (.non, [.lst (xs.set k d)], env)
  | none => .bad := rfl
@[simp] theorem z_repk : repK [.lst xs, .int n] env = if n.natAbs < 9223372036854775808 ∧ xs.length * n.toNat ≤ 16777216 ∧ D.pureL xs = true then .ok (.lst (List.replicate n.toNat xs).flatten, [], env) else .bad := rfl
@[simp] theorem z_rept : fRepT (.tup xs) (.int n) = iff? (-1000 ≤ n ∧ n ≤ 1000 ∧ xs.length ≤ 1000 ∧ D.pureL xs = true) (.tup (List.replicate n.toNat xs).flatten) := rfl
@[simp] theorem z_isi {T : String} : gIsi T [d] = d.ty.map fun t => .bl (tyLe t T) := rfl
@[simp] theorem z_slh {o : D → Option Int → Option Int → Option D} : slH o [d, .int n] = o d none (some n) := rfl
@[simp] theorem z_sll {o : D → Option Int → Option Int → Option D} : slL o [d, .int n] = o d (some n) none := rfl
@[simp] theorem z_sl2 {o : D → Option Int → Option Int → Option D} : sl2 o [d, .int n, .int n2] = o d (some n) (some n2) := rfl
@[simp] theorem z_iff_pos {α : Type} {p : Prop} [Decidable p] {a : α} (h : p) : iff? p a = some a := if_pos h
theorem z_iff {α : Type} {p : Prop} [Decidable p] {a : α} : iff? p a = if p then some a else none := rfl
@[simp] theorem z_ty1 : D.ty (.int n) = some "int" := rfl
@[simp] theorem z_ty2 : D.ty (.bl b) = some "bool" := rfl
@[simp] theorem z_ty3 : D.ty (.str s) = some "str" := rfl
@[simp] theorem z_ty4 {fl : Bool} : D.ty (.tupF fl xs) = some "tuple" := rfl
@[simp] theorem z_ty5 : D.ty (.lst xs) = some "list" := rfl
@[simp] theorem z_ty6 : D.ty .non = some "NoneType" := rfl
-- loops
variable {bd : D → DEnv → Option DEnv} {ops : List Opn} {mk : List D → Option (List D)} {cl : List Nat} {elt : DEnv → Out (D × DEnv)} {vs : List Nat}
@[simp] theorem z_o0 : evO [] env = .ok ([], [], env) := rfl
@[simp] theorem z_o1 {r : List Opn} : evO (.pur h :: r) env = must (h env) fun d => evO r env >>= fun q => .ok (d :: q.1, q.2.1, q.2.2) := rfl
@[simp] theorem z_o2 {g : DEnv → Option D} {r : List Opn} : evO (.plc i g :: r) env = must (g env) fun d => evO r (lock i env) >>= fun q => .ok (d :: q.1, q.2.1 ++ [env], q.2.2) := rfl
@[simp] theorem z_o3 {r : List Opn} : evO (.own fe :: r) env = (fe env >>= fun p => evO r p.2 >>= fun q => .ok (p.1 :: q.1, q.2.1, q.2.2)) := rfl
@[simp] theorem z_ul0 : unlk [] env = env := rfl
@[simp] theorem z_ul1 {e0 : DEnv} {st : List DEnv} : unlk (e0 :: st) env = unlk st (unlock e0 env) := rfl
@[simp] theorem z_for : sFor ops mk bd cl f env = (evO ops env >>= fun q => must (mk q.1) fun xs => forD bd cl f xs q.2.2 >>= unS q.2.1) := rfl
@[simp] theorem z_uns1 {st : List DEnv} : unS st (.nx env) = .ok (.nx (unlk st env)) := rfl
@[simp] theorem z_uns2 {st : List DEnv} : unS st (.rt d env) = .ok (.rt d (unlk st env)) := rfl
@[simp] theorem z_lc : lcE ops mk bd ce elt vs env = (evO ops env >>= fun q => must (mk q.1) fun xs => must (hideS vs q.2.2) fun e0 => if xs.length < 16777216 then must (noEx (lcG bd ce elt vs xs e0)) fun r => .ok (.lst r.1, unlk q.2.1 (backS vs q.2.2 r.2)) else .bad) := rfl
@[simp] theorem z_yes : eYes env = .ok (true, env) := rfl
@[simp] theorem z_noex {α : Type} {a : α} : noEx (.ok a) = some a := rfl
@[simp] theorem z_hid0 : hideS [] env = some env := rfl
@[simp] theorem z_hid1 {v : Nat} {r : List Nat} : hideS (v :: r) env = match hideS r env with
  | some e => if hid? v e = true then some (e.set v none) else none
  | none => none := rfl
@[simp] theorem z_hid : hid? i env = match env[i]? with
  | some none => true
  | some (some (.own, d)) => d.pure
  | _ => false := rfl
@[simp] theorem z_bk0 {env0 : DEnv} : backS [] env0 env = env := rfl
@[simp] theorem z_bk1 {v : Nat} {r : List Nat} {env0 : DEnv} : backS (v :: r) env0 env = (backS r env0 env).set v (env0[v]?.getD none) := rfl
@[simp] theorem z_bname : bName i d env = if free? i env = true then some (env.set i (some (if d.pure = true then .own else .brw, d))) else none := rfl
@[simp] theorem z_btup {f : List D → DEnv → Option DEnv} {fl : Bool} : bTup f (.tupF fl xs) env = f xs env := rfl
@[simp] theorem z_bnil : bNil [] env = some env := rfl
@[simp] theorem z_bcons {f : D → DEnv → Option DEnv} {h : List D → DEnv → Option DEnv} : bCons f h (d :: xs) env = match f d env with
  | some e => h xs e
  | none => none := rfl
@[simp] theorem z_mkl : mkSeq [.lst xs] = some xs := rfl
@[simp] theorem z_mkt {fl : Bool} : mkSeq [.tupF fl xs] = some xs := rfl
@[simp] theorem z_mkz {a b : D} : mkZip [a, b] = match a.toSeq, b.toSeq with
  | some xs, some ys => some (zipD xs ys)
  | _, _ => none := rfl
@[simp] theorem z_seq1 : D.toSeq (.lst xs) = some xs := rfl
@[simp] theorem z_seq2 {fl : Bool} : D.toSeq (.tupF fl xs) = some xs := rfl
@[simp] theorem z_mkr1 : mkRange1 [.int n] = if inRng n = true then some (rngD 0 n.toNat) else none := rfl
@[simp] theorem z_mkr2 : mkRange2 [.int n, .int n2] = if inRng n = true ∧ inRng n2 = true then some (rngD n (n2 - n).toNat) else none := rfl
@[simp] theorem z_run {N : Nat} {ms : List Pm} {body : Stm} {ds : List D} : runFn N ms body ds = if ds.length = ms.length then body (startD N ms ds) >>= fun fl => match fl with
    | .nx e => must (outsFrom ms 0 e) fun o => .ok (.non, o)
    | .rt d e => must (outsFrom ms 0 e) fun o => .ok (d, o)
    | _ => .bad
  else .bad := rfl
@[simp] theorem z_start {N : Nat} {ms : List Pm} {ds : List D} : startD N ms ds = slotsOf ms ds ++ List.replicate (N - ms.length) none := rfl
@[simp] theorem z_slots1 {m : Pm} {ms : List Pm} {ds : List D} : slotsOf (m :: ms) (d :: ds) = some (m.md, d) :: slotsOf ms ds := rfl
@[simp] theorem z_slots0 {ds : List D} : slotsOf [] ds = [] := by cases ds <;> rfl
@[simp] theorem z_md1 : Pm.md .b = .brw := rfl
@[simp] theorem z_md2 : Pm.md .io = .io := rfl
@[simp] theorem z_md3 : Pm.md .mv = .own := rfl
@[simp] theorem z_out0 : outsFrom [] j env = some [] := rfl
@[simp] theorem z_out1 {ms : List Pm} : outsFrom (.io :: ms) j env = match env[j]?, outsFrom ms (j + 1) env with
    | some (some (.io, d)), some r => some (r ++ [d])
    | _, _ => none := rfl
@[simp] theorem z_out2 {ms : List Pm} : outsFrom (.b :: ms) j env = outsFrom ms (j + 1) env := rfl
@[simp] theorem z_out3 {ms : List Pm} : outsFrom (.mv :: ms) j env = outsFrom ms (j + 1) env := rfl
end

/-! ### loops by their turns -/
section
variable {α β : Type} {bd : D → DEnv → Option DEnv} {cl : List Nat} {body : Stm} {elt : DEnv → Out (D × DEnv)} {ce : DEnv → Out (Bool × DEnv)}
/-- a turn that goes on -/
def Turn1 (bd : D → DEnv → Option DEnv) (cl : List Nat) (body : Stm) (x : D) (e e' : DEnv) : Prop := (must (bd x e) fun e1 => body e1 >>= fun fl => match fl with
    | .nx e2 => must (dropS cl e2) fun e3 => .ok (Flw.nx e3)
    | .ct e2 => must (dropS cl e2) fun e3 => .ok (Flw.nx e3)
    | .bk e2 => .bad
    | .rt d e2 => .bad) = .ok (.nx e')
theorem forD_cons {x : D} {xs : List D} {e e' : DEnv} (h : Turn1 bd cl body x e e') : forD bd cl body (x :: xs) e = forD bd cl body xs e' := by
  unfold Turn1 at h
  rw [forD]
  cases hb : bd x e with
  | none => rw [hb] at h; cases h
  | some e1 =>
    rw [hb, must_some] at h
    rw [must_some]
    cases hf : body e1 with
    | bad => rw [hf] at h; cases h
    | exc c => rw [hf] at h; cases h
    | ok fl =>
      rw [hf] at h
      cases fl with
      | nx e2 =>
        have h : (must (dropS cl e2) fun e3 => Out.ok (Flw.nx e3)) = .ok (.nx e') := h
        show (must (dropS cl e2) fun e => forD bd cl body xs e) = _
        cases hd : dropS cl e2 with
        | none => rw [hd] at h; cases h
        | some e3 => rw [hd] at h; cases h; rfl
      | ct e2 =>
        have h : (must (dropS cl e2) fun e3 => Out.ok (Flw.nx e3)) = .ok (.nx e') := h
        show (must (dropS cl e2) fun e => forD bd cl body xs e) = _
        cases hd : dropS cl e2 with
        | none => rw [hd] at h; cases h
        | some e3 => rw [hd] at h; cases h; rfl
      | bk e2 => cases h
      | rt d e2 => cases h
/-- a loop as a fold -/
theorem forD_fold {st : α → DEnv} {f : α → β → α} {φ : β → D} {I : α → Prop} : ∀ (xs : List β) (a : α), I a → (∀ a x, x ∈ xs → I a → I (f a x) ∧ Turn1 bd cl body (φ x) (st a) (st (f a x))) → forD bd cl body (xs.map φ) (st a) = .ok (.nx (st (xs.foldl f a)))
  | [], a, _, _ => rfl
  | x :: xs, a, hI, h => by
    obtain ⟨h1, h2⟩ := h a x List.mem_cons_self hI
    rw [List.map_cons, forD_cons h2, List.foldl_cons]
    exact forD_fold xs _ h1 fun a y hy => h a y (List.mem_cons_of_mem _ hy)
/-- a comprehension's turns, the state going along -/
theorem lcG_st {st : α → DEnv} {g : α → β → D} {f : α → β → α} {φ : β → D} {I : α → Prop} : ∀ (xs : List β) (a : α), I a → (∀ a x, x ∈ xs → I a → I (f a x) ∧ (must (bd (φ x) (st a)) fun e => elt e >>= fun q => must (dropS cl q.2) fun e2 => Out.ok (q.1, e2)) = .ok (g a x, st (f a x))) →
    ∃ ds, lcG bd eYes elt cl (xs.map φ) (st a) = .ok (ds, st (xs.foldl f a)) ∧ ds = (xs.foldl (fun (p : List D × α) x => (p.1 ++ [g p.2 x], f p.2 x)) ([], a)).1
  | [], a, _, _ => ⟨[], rfl, rfl⟩
  | x :: xs, a, hI, h => by
    obtain ⟨h1, h2⟩ := h a x List.mem_cons_self hI
    obtain ⟨ds, h3, h4⟩ := lcG_st xs _ h1 fun a y hy => h a y (List.mem_cons_of_mem _ hy)
    refine ⟨g a x :: ds, ?_, ?_⟩
    · rw [List.map_cons, lcG]
      cases hb : bd (φ x) (st a) with
      | none => rw [hb] at h2; cases h2
      | some e1 =>
        rw [hb, must_some] at h2
        rw [must_some]
        show (Out.ok (true, e1) >>= _) = _
        simp only [Out.bind_ok, if_true]
        cases he : elt e1 with
        | bad => rw [he] at h2; cases h2
        | exc c => rw [he] at h2; cases h2
        | ok q =>
          obtain ⟨d, e2⟩ := q
          rw [he] at h2
          have h2 : (must (dropS cl e2) fun e3 => Out.ok (d, e3)) = .ok (g a x, st (f a x)) := h2
          simp only [Out.bind_ok]
          cases hd : dropS cl e2 with
          | none => rw [hd] at h2; cases h2
          | some e3 =>
            rw [hd] at h2
            cases h2
            rw [must_some, h3]
            rfl
    · rw [List.foldl_cons, h4]
      have key : ∀ (l : List β) (p : List D) (b : α), (l.foldl (fun (p : List D × α) x => (p.1 ++ [g p.2 x], f p.2 x)) (p, b)).1 = p ++ (l.foldl (fun (p : List D × α) x => (p.1 ++ [g p.2 x], f p.2 x)) ([], b)).1 := fun l => by
        induction l with
        | nil => intro p b; simp
        | cons y l ih =>
          intro p b
          rw [List.foldl_cons, List.foldl_cons, ih, ih ([] ++ [g b y])]
          simp
      rw [key xs ([] ++ [g a x])]
      rfl
/-- .. the state staying -/
theorem lcG_map {e0 : DEnv} {g : β → D} {φ : β → D} : ∀ (xs : List β), (∀ x, x ∈ xs → (must (bd (φ x) e0) fun e => elt e >>= fun q => must (dropS cl q.2) fun e2 => Out.ok (q.1, e2)) = .ok (g x, e0)) → lcG bd eYes elt cl (xs.map φ) e0 = .ok (xs.map g, e0)
  | [], _ => rfl
  | x :: xs, h => by
    have h2 := h x List.mem_cons_self
    have h3 := lcG_map xs fun y hy => h y (List.mem_cons_of_mem _ hy)
    rw [List.map_cons, lcG]
    cases hb : bd (φ x) e0 with
    | none => rw [hb] at h2; cases h2
    | some e1 =>
      rw [hb, must_some] at h2
      rw [must_some]
      show (Out.ok (true, e1) >>= _) = _
      simp only [Out.bind_ok, if_true]
      cases he : elt e1 with
      | bad => rw [he] at h2; cases h2
      | exc c => rw [he] at h2; cases h2
      | ok q =>
        obtain ⟨d, e2⟩ := q
        rw [he] at h2
        have h2 : (must (dropS cl e2) fun e3 => Out.ok (d, e3)) = .ok (g x, e0) := h2
        simp only [Out.bind_ok]
        cases hd : dropS cl e2 with
        | none => rw [hd] at h2; cases h2
        | some e3 =>
          rw [hd] at h2
          cases h2
          rw [must_some, h3]
          rfl
/-- a loop as a fold, the turns counted -/
theorem forD_foldI {st : α → DEnv} {f : α → β → α} {φ : β → D} {I : Nat → α → Prop} : ∀ (xs : List β) (i : Nat) (a : α), I i a → (∀ j a x, xs[j]? = some x → I (i + j) a → I (i + j + 1) (f a x) ∧ Turn1 bd cl body (φ x) (st a) (st (f a x))) → forD bd cl body (xs.map φ) (st a) = .ok (.nx (st (xs.foldl f a))) ∧ I (i + xs.length) (xs.foldl f a)
  | [], i, a, hI, _ => ⟨rfl, hI⟩
  | x :: xs, i, a, hI, h => by
    obtain ⟨h1, h2⟩ := h 0 a x rfl hI
    rw [List.map_cons, forD_cons h2, List.foldl_cons, List.length_cons]
    have e : ∀ j, i + 1 + j = i + (j + 1) := fun j => by omega
    have r := forD_foldI xs (i + 1) (f a x) h1 fun j b y hy hb => by
      have q := h (j + 1) b y hy (by rw [← e]; exact hb)
      rw [e]
      exact q
    rw [e] at r
    exact r
/-- a loop whose state is not told in full -/
theorem forD_ex {st : α → DEnv} {φ : β → D} {I : α → Prop} : ∀ (xs : List β) (a : α), I a → (∀ a x, x ∈ xs → I a → ∃ b, I b ∧ Turn1 bd cl body (φ x) (st a) (st b)) → ∃ b, I b ∧ forD bd cl body (xs.map φ) (st a) = .ok (.nx (st b))
  | [], a, hI, _ => ⟨a, hI, rfl⟩
  | x :: xs, a, hI, h => by
    obtain ⟨b, h1, h2⟩ := h a x List.mem_cons_self hI
    rw [List.map_cons, forD_cons h2]
    exact forD_ex xs b h1 fun c y hy => h c y (List.mem_cons_of_mem _ hy)
theorem lcG_cons {x : D} {xs : List D} {e e' : DEnv} {d : D} (h : (must (bd x e) fun e => elt e >>= fun q => must (dropS cl q.2) fun e2 => Out.ok (q.1, e2)) = .ok (d, e')) : lcG bd eYes elt cl (x :: xs) e = (lcG bd eYes elt cl xs e' >>= fun r => .ok (d :: r.1, r.2)) := by
  rw [lcG]
  cases hb : bd x e with
  | none => rw [hb] at h; cases h
  | some e1 =>
    rw [hb, must_some] at h
    rw [must_some]
    show (Out.ok (true, e1) >>= _) = _
    simp only [Out.bind_ok, if_true]
    cases he : elt e1 with
    | bad => rw [he] at h; cases h
    | exc c => rw [he] at h; cases h
    | ok q =>
      obtain ⟨d2, e2⟩ := q
      rw [he] at h
      have h : (must (dropS cl e2) fun e3 => Out.ok (d2, e3)) = .ok (d, e') := h
      simp only [Out.bind_ok]
      cases hd : dropS cl e2 with
      | none => rw [hd] at h; cases h
      | some e3 =>
        rw [hd] at h
        cases h
        rfl
/-- a comprehension whose items are not told in full -/
theorem lcG_ex {γ : Type} {st : α → DEnv} {φ : β → D} {ω : γ → D} {R : γ → Prop} {I : α → Prop} : ∀ (xs : List β) (a : α), I a → (∀ a x, x ∈ xs → I a → ∃ r b, R r ∧ I b ∧ (must (bd (φ x) (st a)) fun e => elt e >>= fun q => must (dropS cl q.2) fun e2 => Out.ok (q.1, e2)) = .ok (ω r, st b)) →
    ∃ (rs : List γ) (b : α), rs.length = xs.length ∧ (∀ r ∈ rs, R r) ∧ I b ∧ lcG bd eYes elt cl (xs.map φ) (st a) = .ok (rs.map ω, st b)
  | [], a, hI, _ => ⟨[], a, rfl, fun r h => (by cases h), hI, rfl⟩
  | x :: xs, a, hI, h => by
    obtain ⟨r, b, h1, h2, h3⟩ := h a x List.mem_cons_self hI
    obtain ⟨rs, c, g1, g2, g3, g4⟩ := lcG_ex xs b h2 fun d y hy => h d y (List.mem_cons_of_mem _ hy)
    refine ⟨r :: rs, c, by rw [List.length_cons, List.length_cons, g1], fun q hq => ?_, g3, ?_⟩
    · rcases List.mem_cons.mp hq with rfl | hq
      · exact h1
      · exact g2 q hq
    · rw [List.map_cons, lcG_cons h3, g4]
      rfl
end
end DL

namespace DL
open PySem PySem.Spec PyProof.Rows L2
/-! ### == and in, of data with a Lean type -/
structure EqOk {α : Type} [DecidableEq α] (φ : α → D) (n : Nat) : Prop where
  py : ∀ a, ∃ p, (φ a).py = some p ∧ p.canLay0 = true ∧ p.depth ≤ n
  eqv : ∀ a b p q, (φ a).py = some p → (φ b).py = some q → PyData.eqv p q = decide (a = b)
section
variable {α β : Type} [DecidableEq α] [DecidableEq β] {φ : α → D} {ψ : β → D} {n m : Nat}
theorem beq_dec {γ : Type} [BEq γ] [LawfulBEq γ] [DecidableEq γ] (a b : γ) : (a == b) = decide (a = b) := by
  rw [Bool.eq_iff_iff, beq_iff_eq, decide_eq_true_eq]
theorem EqOk.int : EqOk D.int 0 := ⟨fun a => ⟨_, rfl, rfl, Nat.le_refl _⟩, fun a b p q hp hq => by
  cases hp; cases hq
  simp only [PyData.eqv]
  exact beq_dec a b⟩
theorem EqOk.bl : EqOk D.bl 0 := ⟨fun a => ⟨_, rfl, rfl, Nat.le_refl _⟩, fun a b p q hp hq => by
  cases hp; cases hq
  simp only [PyData.eqv]
  exact beq_dec a b⟩
theorem EqOk.items (h : EqOk φ n) : ∀ xs : List α, ∃ ps, D.pyL (xs.map φ) = some ps ∧ PyData.canLayAll0 ps = true ∧ PyData.depthAll ps ≤ n
  | [] => ⟨[], rfl, rfl, Nat.zero_le _⟩
  | x :: r => by
    obtain ⟨p, h1, h2, h3⟩ := h.py x
    obtain ⟨ps, g1, g2, g3⟩ := EqOk.items h r
    refine ⟨p :: ps, ?_, ?_, ?_⟩
    · rw [List.map_cons, D.pyL, h1, g1]
    · rw [PyData.canLayAll0, h2, g2]; rfl
    · rw [PyData.depthAll]; exact Nat.max_le.mpr ⟨h3, g3⟩
theorem EqOk.itemsEq (h : EqOk φ n) : ∀ (xs ys : List α) (ps qs : List PyData), D.pyL (xs.map φ) = some ps → D.pyL (ys.map φ) = some qs → PyData.eqvAll ps qs = decide (xs = ys)
  | [], [], ps, qs, h1, h2 => by
    cases (show some ([] : List PyData) = some ps from h1)
    cases (show some ([] : List PyData) = some qs from h2)
    simp [PyData.eqvAll]
  | [], y :: ys, ps, qs, h1, h2 => by
    cases (show some ([] : List PyData) = some ps from h1)
    obtain ⟨q, e1, _⟩ := h.py y
    obtain ⟨qs', g1, _⟩ := h.items ys
    rw [List.map_cons, D.pyL, e1, g1] at h2
    cases h2
    simp [PyData.eqvAll]
  | x :: xs, [], ps, qs, h1, h2 => by
    cases (show some ([] : List PyData) = some qs from h2)
    obtain ⟨q, e1, _⟩ := h.py x
    obtain ⟨qs', g1, _⟩ := h.items xs
    rw [List.map_cons, D.pyL, e1, g1] at h1
    cases h1
    simp [PyData.eqvAll]
  | x :: xs, y :: ys, ps, qs, h1, h2 => by
    obtain ⟨p, e1, _⟩ := h.py x
    obtain ⟨ps', g1, _⟩ := h.items xs
    rw [List.map_cons, D.pyL, e1, g1] at h1
    cases h1
    obtain ⟨q, e2, _⟩ := h.py y
    obtain ⟨qs', g2, _⟩ := h.items ys
    rw [List.map_cons, D.pyL, e2, g2] at h2
    cases h2
    rw [PyData.eqvAll, h.eqv x y p q e1 e2, EqOk.itemsEq h xs ys _ _ g1 g2, ← Bool.decide_and]
    exact decide_eq_decide.mpr (by rw [List.cons.injEq])
theorem EqOk.lst (h : EqOk φ n) : EqOk (fun xs : List α => D.lst (xs.map φ)) (n + 1) := ⟨fun xs => by
    obtain ⟨ps, h1, h2, h3⟩ := h.items xs
    refine ⟨.list ps, ?_, ?_, ?_⟩
    · show (D.pyL (xs.map φ)).map PyData.list = _
      rw [h1]; rfl
    · rw [PyData.canLay0]; exact h2
    · rw [PyData.depth]; omega, fun xs ys p q hp hq => by
    obtain ⟨ps, h1, _⟩ := h.items xs
    obtain ⟨qs, h2, _⟩ := h.items ys
    have hp : (D.pyL (xs.map φ)).map PyData.list = some p := hp
    have hq : (D.pyL (ys.map φ)).map PyData.list = some q := hq
    rw [h1] at hp
    rw [h2] at hq
    cases hp
    cases hq
    simp only [PyData.eqv]
    exact h.itemsEq xs ys ps qs h1 h2⟩
theorem EqOk.tup (h : EqOk φ n) : EqOk (fun xs : List α => D.tup (xs.map φ)) (n + 1) := ⟨fun xs => by
    obtain ⟨ps, h1, h2, h3⟩ := h.items xs
    refine ⟨.tuple ps, ?_, ?_, ?_⟩
    · show (D.pyL (xs.map φ)).map PyData.tuple = _
      rw [h1]; rfl
    · rw [PyData.canLay0]; exact h2
    · rw [PyData.depth]; omega, fun xs ys p q hp hq => by
    obtain ⟨ps, h1, _⟩ := h.items xs
    obtain ⟨qs, h2, _⟩ := h.items ys
    have hp : (D.pyL (xs.map φ)).map PyData.tuple = some p := hp
    have hq : (D.pyL (ys.map φ)).map PyData.tuple = some q := hq
    rw [h1] at hp
    rw [h2] at hq
    cases hp
    cases hq
    simp only [PyData.eqv]
    exact h.itemsEq xs ys ps qs h1 h2⟩
theorem EqOk.pair (h : EqOk φ n) (k : EqOk ψ n) : EqOk (fun p : α × β => D.tup [φ p.1, ψ p.2]) (n + 1) := ⟨fun x => by
    obtain ⟨p, h1, h2, h3⟩ := h.py x.1
    obtain ⟨q, k1, k2, k3⟩ := k.py x.2
    refine ⟨.tuple [p, q], ?_, ?_, ?_⟩
    · show (D.pyL [φ x.1, ψ x.2]).map PyData.tuple = _
      simp only [D.pyL, h1, k1]; rfl
    · simp only [PyData.canLay0, PyData.canLayAll0, h2, k2, Bool.and_true]
    · simp only [PyData.depth, PyData.depthAll]; omega, fun x y p q hp hq => by
    obtain ⟨p1, h1, _⟩ := h.py x.1
    obtain ⟨q1, k1, _⟩ := k.py x.2
    obtain ⟨p2, h2, _⟩ := h.py y.1
    obtain ⟨q2, k2, _⟩ := k.py y.2
    have hp : (D.pyL [φ x.1, ψ x.2]).map PyData.tuple = some p := hp
    have hq : (D.pyL [φ y.1, ψ y.2]).map PyData.tuple = some q := hq
    simp only [D.pyL, h1, k1] at hp
    simp only [D.pyL, h2, k2] at hq
    cases hp
    cases hq
    simp only [PyData.eqv, PyData.eqvAll, h.eqv _ _ _ _ h1 h2, k.eqv _ _ _ _ k1 k2, Bool.and_true, ← Bool.decide_and]
    exact decide_eq_decide.mpr ⟨fun e => Prod.ext e.1 e.2, fun e => by rw [e]; exact ⟨rfl, rfl⟩⟩⟩
theorem shaped_of {p : PyData} (h1 : p.canLay0 = true) (h2 : p.depth ≤ n) (hn : n ≤ 64) : SeqAt.shaped p = true := by
  unfold SeqAt.shaped
  rw [h1, decide_eq_true (by omega)]; rfl
theorem EqOk.eq (h : EqOk φ n) (a b : α) (hn : n ≤ 64 := by decide) : gEqB (φ a) (φ b) = some (decide (a = b)) := by
  obtain ⟨p, h1, h2, h3⟩ := h.py a
  obtain ⟨q, k1, k2, k3⟩ := h.py b
  unfold gEqB
  rw [h1, k1]
  show iff? (SeqAt.shaped p = true ∧ SeqAt.shaped q = true) (PyData.eqv p q) = _
  rw [iff?_pos ⟨shaped_of h2 h3 hn, shaped_of k2 k3 hn⟩, h.eqv a b p q h1 k1]
theorem EqOk.mem (h : EqOk φ n) (a : α) (xs : List α) (hn : n ≤ 63 := by decide) : inB (φ a) (.lst (xs.map φ)) = some (decide (a ∈ xs)) := by
  obtain ⟨p, h1, h2, h3⟩ := h.py a
  obtain ⟨ps, g1, g2, g3⟩ := h.items xs
  have e : (D.lst (xs.map φ)).py = some (.list ps) := by
    show (D.pyL (xs.map φ)).map PyData.list = _
    rw [g1]; rfl
  unfold inB
  simp only [h1, e]
  rw [iff?_pos ⟨shaped_of h2 h3 (Nat.le_succ_of_le hn), shaped_of (n := n + 1) (by rw [PyData.canLay0]; exact g2) (by rw [PyData.depth]; omega) (by omega)⟩]
  have key : ∀ (xs : List α) (ps : List PyData), D.pyL (xs.map φ) = some ps → (ps.any fun z => PyData.eqv z p) = decide (a ∈ xs) := fun xs => by
    induction xs with
    | nil =>
      intro ps g
      cases (show some ([] : List PyData) = some ps from g)
      simp
    | cons x r ih =>
      intro ps g
      obtain ⟨q, e1, _⟩ := h.py x
      obtain ⟨qs, e2, _⟩ := h.items r
      rw [List.map_cons, D.pyL, e1, e2] at g
      cases g
      rw [List.any_cons, h.eqv x a q p e1 h1, ih qs e2]
      by_cases hx : x = a
      · subst hx; simp
      · have : ¬ a = x := fun z => hx z.symm
        simp [hx, this]
  rw [key xs ps g1]
/-- what is compared with itself -/
theorem eq_same {d : D} {p : PyData} (h1 : d.py = some p) (h2 : p.canLay0 = true) (h3 : p.depth ≤ 64) : gEqB d d = some true := by
  unfold gEqB
  rw [h1]
  show iff? (SeqAt.shaped p = true ∧ SeqAt.shaped p = true) (PyData.eqv p p) = _
  rw [iff?_pos ⟨shaped_of h2 h3 (Nat.le_refl _), shaped_of h2 h3 (Nat.le_refl _)⟩, SeqAt.eqv_refl p h2]
end
@[simp] theorem eq_nil0 : gEqB (.lst []) (.lst []) = some true := (EqOk.int.lst.eq [] []).trans (by simp)
@[simp] theorem eq_int (a b : Int) : gEqB (.int a) (.int b) = some (decide (a = b)) := EqOk.int.eq a b
@[simp] theorem eq_nilI (ns : List Int) : gEqB (.lst (ns.map .int)) (.lst []) = some (decide (ns = [])) := EqOk.int.lst.eq ns []
theorem inRng_of {i : Int} (h : -1000000000 ≤ i ∧ i ≤ 1000000000) : inRng i = true := by
  unfold inRng
  exact decide_eq_true (by omega)
theorem log_lt {n k : Nat} (h : n < 2 ^ k) (hk : 0 < k) : n.log2 < k := by
  by_cases h0 : n = 0
  · rw [h0]; simpa using hk
  · exact (Nat.log2_lt h0).mpr h
@[simp] theorem log_9000 {n : Nat} (h : n < 18446744073709551616) : n.log2 < 9000 := Nat.lt_of_lt_of_le (log_lt (k := 64) (by simpa using h) (by decide)) (by decide)
@[simp] theorem log_1920 {n : Nat} (h : n < 18446744073709551616) : n.log2 < 1920 := Nat.lt_of_lt_of_le (log_lt (k := 64) (by simpa using h) (by decide)) (by decide)
/-- a number of less than k bits -/
def Bd (k : Nat) (n : Int) : Prop := n.natAbs < 2 ^ k
section
variable {j k : Nat} {a b : Int}
theorem Bd.mono (h : Bd j a) (hk : j ≤ k) : Bd k a := Nat.lt_of_lt_of_le h (Nat.pow_le_pow_right (by decide) hk)
theorem Bd.add (h : Bd k a) (h2 : Bd k b) : Bd (k + 1) (a + b) := by
  unfold Bd at *
  have := Int.natAbs_add_le a b
  rw [Nat.pow_succ]
  omega
theorem Bd.neg (h : Bd k a) : Bd k (-a) := by
  unfold Bd at *
  rw [Int.natAbs_neg]; exact h
theorem Bd.sub (h : Bd k a) (h2 : Bd k b) : Bd (k + 1) (a - b) := by
  rw [Int.sub_eq_add_neg]
  exact h.add h2.neg
theorem Bd.mul (h : Bd j a) (h2 : Bd k b) : Bd (j + k) (a * b) := by
  unfold Bd at *
  rw [Int.natAbs_mul, Nat.pow_add]
  exact Nat.mul_lt_mul'' h h2
theorem Bd.log (h : Bd k a) (hk : 0 < k) : a.natAbs.log2 < k := by
  unfold Bd at h
  by_cases h0 : a.natAbs = 0
  · rw [h0]; simpa using hk
  · exact (Nat.log2_lt h0).mpr h
theorem mulOk (h : Bd j a) (h2 : Bd k b) (hj : j < 30000000 := by decide) (hk : k < 30000000 := by decide) : MulOk a b := by
  unfold MulOk
  have h1 := (h.mono (Nat.le_succ j)).log (Nat.succ_pos j)
  have h3 := (h2.mono (Nat.le_succ k)).log (Nat.succ_pos k)
  omega
theorem Bd.of_lt {n : Int} (h0 : -(2 ^ k : Nat) < n) (h1 : n < (2 ^ k : Nat)) : Bd k n := by
  unfold Bd
  omega
end
end DL

namespace DL
open PySem PySem.Spec PyProof.Rows L2
/-! ### more of how the semantics is reckoned -/
section
variable {env : DEnv} {xs ys : List D} {s t : Str} {d : D} {T : String}
@[simp] theorem z_onlyT {f : D → Bool} : onlyT f d = if f d = true then some d else none := rfl
@[simp] theorem z_tyS : tyD T (.str s) = (T == "str") := rfl
@[simp] theorem z_tyT : tyD T (.tupF true xs) = (T == "tuple") := rfl
@[simp] theorem z_tyL : tyD T (.lst xs) = (T == "list") := rfl
@[simp] theorem z_strs : ∀ l : List Str, D.strs (l.map .str) = some l
  | [] => rfl
  | a :: r => by
    show (D.strs (r.map .str)).map (a :: ·) = _
    rw [z_strs r]; rfl
@[simp] theorem z_tix {l : List Str} : fTIx (.tupF true (l.map .str)) (.str s) = (l.findIdx? (· == s)).map fun (j : Nat) => .int (j : Int) := by
  unfold fTIx
  simp
@[simp] theorem z_tupx : fTupX (.lst xs) = iff? (D.pureL xs = true) (.tupF true xs) := rfl
@[simp] theorem z_unp {is : List Nat} {f : DEnv → Out (D × DEnv)} : sUnp is f env = (f env >>= fun p => match p.1.toTupA with
  | some ds => must (putsS is ds p.2) fun e => .ok (.nx e)
  | none => .bad) := rfl
@[simp] theorem z_toTupA {fl : Bool} : D.toTupA (.tupF fl xs) = some xs := rfl
@[simp] theorem z_puts0 : putsS [] [] env = some env := rfl
@[simp] theorem z_puts1 {i : Nat} {is : List Nat} {ds : List D} : putsS (i :: is) (d :: ds) env = match putS i d env with
    | some e' => putsS is ds e'
    | none => none := rfl
@[simp] theorem z_al {i j : Nat} {hs : List SArg} {ds : List Nat} {rest : Stm} : sAl i j hs ds rest env = must (evS hs (lock i env)) fun xs => if hs.all (bArg (lock i env)) = true ∧ xs.length ≤ 16777216 then must (bName j (.tup xs) (lock i env)) fun e2 => (rest e2 >>= dropF ds) >>= unS [env] else .bad := rfl
@[simp] theorem z_barg1 {h : DEnv → Option D} : bArg env (.pur h) = true := rfl
@[simp] theorem z_barg2 {i : Nat} {g : DEnv → Option D} : bArg env (.plc i g) = match env[i]? with
    | some (some (.brw, _)) => true
    | some (some (.lck, _)) => true
    | _ => false := rfl
@[simp] theorem z_dropf1 {ds : List Nat} {e : DEnv} : dropF ds (.nx e) = must (dropS ds e) fun e => .ok (.nx e) := rfl
@[simp] theorem z_dropf2 {ds : List Nat} {e : DEnv} : dropF ds (.rt d e) = must (dropS ds e) fun e => .ok (.rt d e) := rfl
@[simp] theorem z_mkr3 {a b c : Int} : mkRange3 [.int a, .int b, .int c] = if c ≠ 0 ∧ c.natAbs < 1073741824 ∧ Builtin.Range.small a b c = true then some (rngC a c (Builtin.Range.rangeSize a b c).toNat) else none := rfl
@[simp] theorem z_sorted : fSorted (.lst xs) = iff? (D.pureL xs = true ∧ (xs.all fun x => x.py.isSome) = true ∧ sortB (xs.map encD) = true) (.lst (sortL xs)) := rfl
@[simp] theorem z_mksigs : mkSigs [.str s] = some (sigsD s) := rfl
@[simp] theorem z_mkenum : mkEnum [.lst xs] = some (enumD 0 xs) := rfl
@[simp] theorem z_slps {lo hi : Option Int} : fSlP (.str s) lo hi = iff? (s.length ≤ 16777216) (.str (cutS s lo hi)) := rfl
@[simp] theorem z_slpt {lo hi : Option Int} : fSlP (.tup xs) lo hi = iff? (D.pureL xs = true) (.tup (cutD xs lo hi)) := rfl
@[simp] theorem z_ixs {n : Int} : fIx (.str s) (.int n) = match atI s.cps.toList n with
    | some c => iff? (s.length ≤ 16777216) (.str ⟨#[c]⟩)
    | none => none := rfl
@[simp] theorem z_ixlst {n : Int} : fIx (.lst xs) (.int n) = match atI xs n with
    | some e => iff? (e.pure = true) e
    | none => none := rfl
@[simp] theorem z_ixtup {n : Int} {fl : Bool} : fIx (.tupF fl xs) (.int n) = match atI xs n with
    | some e => iff? (e.pure = true) e
    | none => none := rfl
@[simp] theorem z_ixscr {n : Int} {ns : List Int} : fIx (.scr ns) (.int n) = match dIx (.scr ns) n with
    | some e => iff? (e.pure = true) e
    | none => none := rfl
@[simp] theorem z_fsl1 {lo hi : Option Int} : fSlL (.lst xs) lo hi = iff? (D.pureL xs = true) (.lst (cutD xs lo hi)) := rfl
@[simp] theorem z_fsl2 {ns : List Int} {lo hi : Option Int} : fSlL (.scr ns) lo hi = some (.lst (cutD (ns.map .int) lo hi)) := iff?_pos (pureL_ints ns) _
@[simp] theorem z_pstrs (l : List Str) : D.pureL (l.map .str) = true := pureL_map (fun _ => rfl) l
@[simp] theorem z_int1 {n : Int} : fInt (.int n) = some (.int n) := rfl
@[simp] theorem z_int2 {b : Bool} : fInt (.bl b) = some (.int (if b then 1 else 0)) := rfl
@[simp] theorem z_bB {f : Bool → Bool → D} {a b : Bool} : bB f (.bl a) (.bl b) = some (f a b) := rfl
@[simp] theorem z_inS {f : Bool → Bool} {c : Nat} {z : Str} : fInS f (.str ⟨#[c]⟩) (.str z) = some (.bl (f (decide (c ∈ z.cps.toList)))) := rfl
@[simp] theorem z_isnon0 : D.isNon .non = true := rfl
@[simp] theorem z_isnon1 {n : Int} : D.isNon (.int n) = false := rfl
@[simp] theorem z_isnon2 {b : Bool} : D.isNon (.bl b) = false := rfl
@[simp] theorem z_isnon3 : D.isNon (.str s) = false := rfl
@[simp] theorem z_isnon4 {fl : Bool} : D.isNon (.tupF fl xs) = false := rfl
@[simp] theorem z_isnon5 : D.isNon (.lst xs) = false := rfl
end
/-! ### small things -/
theorem pow_eq {b e : Int} {r : Int} (h : 0 ≤ e ∧ e ≤ 1000 ∧ b.natAbs < 1000000) (hr : b ^ e.toNat = r) : gPow [.int b, .int e] = some (.int r) := by
  simp only [z_bin, z_bi]
  rw [iff?_pos h, hr]
theorem eq_str {a b : Str} (ha : PyData.strOk a = true) (hb : PyData.strOk b = true) : gEqB (.str a) (.str b) = some (decide (a = b)) := by
  unfold gEqB
  show iff? (SeqAt.shaped (.str a) = true ∧ SeqAt.shaped (.str b) = true) (PyData.eqv (.str a) (.str b)) = _
  have h1 : SeqAt.shaped (.str a) = true := shaped_of (n := 0) (by rw [PyData.canLay0]; exact ha) (Nat.le_refl _) (by decide)
  have h2 : SeqAt.shaped (.str b) = true := shaped_of (n := 0) (by rw [PyData.canLay0]; exact hb) (Nat.le_refl _) (by decide)
  rw [iff?_pos ⟨h1, h2⟩]
  simp only [PyData.eqv]
  rw [beq_dec]
/-- data that are compared -/
def Lay (n : Nat) (d : D) : Prop := ∃ q, d.py = some q ∧ q.canLay0 = true ∧ q.depth ≤ n
theorem Lay.items {n : Nat} : ∀ {ds : List D}, (∀ d ∈ ds, Lay n d) → ∃ qs, D.pyL ds = some qs ∧ PyData.canLayAll0 qs = true ∧ PyData.depthAll qs ≤ n
  | [], _ => ⟨[], rfl, rfl, Nat.zero_le _⟩
  | d :: ds, h => by
    obtain ⟨q, h1, h2, h3⟩ := h d List.mem_cons_self
    obtain ⟨qs, g1, g2, g3⟩ := Lay.items fun e m => h e (List.mem_cons_of_mem _ m)
    refine ⟨q :: qs, ?_, ?_, ?_⟩
    · rw [D.pyL, h1, g1]
    · rw [PyData.canLayAll0, h2, g2]; rfl
    · rw [PyData.depthAll]; exact Nat.max_le.mpr ⟨h3, g3⟩
theorem Lay.tup {n : Nat} {f : Bool} {ds : List D} (h : ∀ d ∈ ds, Lay n d) : Lay (n + 1) (.tupF f ds) := by
  obtain ⟨qs, h1, h2, h3⟩ := Lay.items h
  refine ⟨.tuple qs, ?_, ?_, ?_⟩
  · show (D.pyL ds).map PyData.tuple = _
    rw [h1]; rfl
  · rw [PyData.canLay0]; exact h2
  · rw [PyData.depth]; omega
theorem Lay.lst {n : Nat} {ds : List D} (h : ∀ d ∈ ds, Lay n d) : Lay (n + 1) (.lst ds) := by
  obtain ⟨qs, h1, h2, h3⟩ := Lay.items h
  refine ⟨.list qs, ?_, ?_, ?_⟩
  · show (D.pyL ds).map PyData.list = _
    rw [h1]; rfl
  · rw [PyData.canLay0]; exact h2
  · rw [PyData.depth]; omega
theorem Lay.int {n : Nat} {i : Int} : Lay n (.int i) := ⟨_, rfl, rfl, Nat.zero_le _⟩
theorem Lay.bl {n : Nat} {i : Bool} : Lay n (.bl i) := ⟨_, rfl, rfl, Nat.zero_le _⟩
theorem Lay.str {n : Nat} {s : Str} (h : PyData.strOk s = true) : Lay n (.str s) := ⟨_, rfl, by rw [PyData.canLay0]; exact h, Nat.zero_le _⟩
theorem Lay.ints {n : Nat} {l : List Int} : ∀ d ∈ l.map D.int, Lay n d := fun d h => by
  obtain ⟨i, _, rfl⟩ := List.mem_map.mp h
  exact Lay.int
theorem Lay.same {n : Nat} {d : D} (h : Lay n d) (hn : n ≤ 64) : gEqB d d = some true := by
  obtain ⟨q, h1, h2, h3⟩ := h
  exact eq_same h1 h2 (by omega)
theorem eq_nilL {n : Nat} {ds : List D} (h : ∀ d ∈ ds, Lay n d) (hn : n < 64) : gEqB (.lst ds) (.lst []) = some (decide (ds = [])) := by
  obtain ⟨qs, h1, h2, h3⟩ := Lay.items h
  unfold gEqB
  have e1 : (D.lst ds).py = some (.list qs) := by
    show (D.pyL ds).map PyData.list = _
    rw [h1]; rfl
  have e2 : (D.lst []).py = some (.list []) := rfl
  rw [e1, e2]
  show iff? (SeqAt.shaped (.list qs) = true ∧ SeqAt.shaped (.list []) = true) (PyData.eqv (.list qs) (.list [])) = _
  have s1 : SeqAt.shaped (.list qs) = true := shaped_of (n := n + 1) (by rw [PyData.canLay0]; exact h2) (by rw [PyData.depth]; omega) (by omega)
  have s2 : SeqAt.shaped (.list []) = true := shaped_of (n := 1) (by rw [PyData.canLay0]; rfl) (by decide) (by decide)
  rw [iff?_pos ⟨s1, s2⟩]
  cases ds with
  | nil =>
    cases (show some ([] : List PyData) = some qs from h1)
    simp [PyData.eqv, PyData.eqvAll]
  | cons d r =>
    cases qs with
    | nil =>
      have : (match d.py, D.pyL r with
        | some p, some q => some (p :: q)
        | _, _ => none) = some [] := h1
      split at this <;> cases this
    | cons q qs => simp [PyData.eqv, PyData.eqvAll]
/-- a text of code points that are told apart -/
abbrev OStr := {s : Str // PyData.strOk s = true}
theorem EqOk.str : EqOk (fun s : OStr => D.str s.1) 0 := ⟨fun a => ⟨.str a.1, rfl, by rw [PyData.canLay0]; exact a.2, Nat.le_refl _⟩, fun a b p q hp hq => by
  cases hp; cases hq
  simp only [PyData.eqv]
  rw [beq_dec]
  exact decide_eq_decide.mpr ⟨fun e => Subtype.ext e, fun e => by rw [e]⟩⟩
theorem cutS_take (l : List Nat) (t : Nat) : cutS (SX.S l) none (some (t : Int)) = SX.S (l.take t) := by
  unfold cutS
  rw [HT.sIx_none, HT.sIx_nat]
  simp [SX.S, Str.length]
theorem cutS_drop (l : List Nat) (t : Nat) : cutS (SX.S l) (some (t : Int)) none = SX.S (l.drop t) := by
  unfold cutS
  rw [HT.sIx_none, HT.sIx_nat]
  simp only [SX.S, Str.length]
  congr 2
  by_cases h : t ≤ l.length
  · rw [show min t l.toArray.size = t from by simp; omega]
    rw [List.take_of_length_le]
    simp
  · have h2 : l.length ≤ t := by omega
    rw [List.drop_of_length_le (i := t) h2, List.drop_of_length_le (by simp; omega)]
    simp
theorem cutD_take' (xs : List D) (t : Nat) : cutD xs none (some (t : Int)) = xs.take t := by
  unfold cutD
  rw [HT.sIx_none, HT.sIx_nat]
  simp
theorem cutD_drop' (xs : List D) (t : Nat) : cutD xs (some (t : Int)) none = xs.drop t := by
  unfold cutD
  rw [HT.sIx_none, HT.sIx_nat]
  by_cases h : t ≤ xs.length
  · rw [Nat.min_eq_left h, List.take_of_length_le]
    simp
  · have h2 : xs.length ≤ t := by omega
    rw [Nat.min_eq_right h2, List.drop_of_length_le h2, List.drop_of_length_le (Nat.le_refl _)]
    simp
theorem cutD_mid (xs : List D) (a b : Nat) : cutD xs (some (a : Int)) (some (b : Int)) = (xs.take b).drop a := by
  unfold cutD
  rw [HT.sIx_nat, HT.sIx_nat, List.drop_take]
  by_cases h : a ≤ xs.length
  · rw [Nat.min_eq_left h]
    by_cases hb : b ≤ xs.length
    · rw [Nat.min_eq_left hb]
    · have hb : xs.length ≤ b := by omega
      rw [Nat.min_eq_right hb, List.take_of_length_le (by simp), List.take_of_length_le (by simp; omega)]
  · have h : xs.length ≤ a := by omega
    rw [Nat.min_eq_right h, List.drop_of_length_le (Nat.le_refl _), List.drop_of_length_le h]
    simp
/-! ### while, turn by turn -/
def WhR (c : DEnv → Out (Bool × DEnv)) (body : Stm) (e : DEnv) (o : Flw) : Prop := ∃ n, whileN c body n e = .ok o
theorem WhR.stop {c : DEnv → Out (Bool × DEnv)} {body : Stm} {e e2 : DEnv} (h : c e = .ok (false, e2)) : WhR c body e (.nx e2) := ⟨1, by
  show (c e >>= _) = _
  rw [h]
  rfl⟩
theorem WhR.step {c : DEnv → Out (Bool × DEnv)} {body : Stm} {e e1 e2 : DEnv} {o : Flw} (h : c e = .ok (true, e1)) (hb : body e1 = .ok (.nx e2) ∨ body e1 = .ok (.ct e2)) (k : WhR c body e2 o) : WhR c body e o := by
  obtain ⟨n, hn⟩ := k
  refine ⟨n + 1, ?_⟩
  rw [whileN, h]
  simp only [Out.bind_ok, if_true]
  rcases hb with hb | hb
  · rw [hb]; exact hn
  · rw [hb]; exact hn
theorem WhR.sw {c : DEnv → Out (Bool × DEnv)} {body : Stm} {e : DEnv} {o : Flw} (k : WhR c body e o) : sWhile c body e = .ok o := by
  obtain ⟨n, hn⟩ := k
  exact sWhile_of hn (by intro z; cases z)
/-! ### loops, the turns counted, the state not told in full -/
section
variable {α β : Type} {bd : D → DEnv → Option DEnv} {cl : List Nat} {body : Stm} {elt : DEnv → Out (D × DEnv)} {ce : DEnv → Out (Bool × DEnv)}
theorem forD_exI {st : α → DEnv} {φ : β → D} {I : Nat → α → Prop} : ∀ (xs : List β) (i : Nat) (a : α), I i a → (∀ j a x, xs[j]? = some x → I (i + j) a → ∃ b, I (i + j + 1) b ∧ Turn1 bd cl body (φ x) (st a) (st b)) → ∃ b, I (i + xs.length) b ∧ forD bd cl body (xs.map φ) (st a) = .ok (.nx (st b))
  | [], i, a, hI, _ => ⟨a, hI, rfl⟩
  | x :: xs, i, a, hI, h => by
    obtain ⟨b, h1, h2⟩ := h 0 a x rfl hI
    rw [List.map_cons, forD_cons h2, List.length_cons]
    have e : ∀ j, i + 1 + j = i + (j + 1) := fun j => by omega
    have r := forD_exI xs (i + 1) b h1 fun j c y hy hb => by
      have q := h (j + 1) c y hy (by rw [← e]; exact hb)
      rw [e]
      exact q
    rw [e] at r
    exact r
/-- a loop that goes through, or returns d at the first turn at which c is not so -/
theorem forD_scan {st : α → DEnv} {f : α → β → α} {c : β → Bool} {d : D} {φ : β → D} : ∀ (xs : List β) (a : α), (∀ a x, x ∈ xs → c x = true → Turn1 bd cl body (φ x) (st a) (st (f a x))) → (∀ a x, x ∈ xs → c x = false → ∃ e1 e2 e3, bd (φ x) (st a) = some e1 ∧ body e1 = .ok (.rt d e2) ∧ dropS cl e2 = some e3) →
    (xs.all c = true → forD bd cl body (xs.map φ) (st a) = .ok (.nx (st (xs.foldl f a)))) ∧ (xs.all c = false → ∃ e, forD bd cl body (xs.map φ) (st a) = .ok (.rt d e))
  | [], a, _, _ => ⟨fun _ => rfl, fun h => (Bool.noConfusion (show true = false from h))⟩
  | x :: xs, a, h1, h2 => by
    have r := forD_scan xs (f a x) (fun b y hy => h1 b y (List.mem_cons_of_mem _ hy)) (fun b y hy => h2 b y (List.mem_cons_of_mem _ hy))
    cases hc : c x with
    | true =>
      rw [List.map_cons, forD_cons (h1 a x List.mem_cons_self hc), List.foldl_cons, List.all_cons, hc, Bool.true_and]
      exact r
    | false =>
      rw [List.all_cons, hc, Bool.false_and]
      refine ⟨fun h => Bool.noConfusion h, fun _ => ?_⟩
      obtain ⟨e1, e2, e3, g1, g2, g3⟩ := h2 a x List.mem_cons_self hc
      refine ⟨e3, ?_⟩
      rw [List.map_cons, forD, g1]
      simp only [must_some, g2, Out.bind_ok, g3]
/-- .. the turns counted -/
theorem forD_scanI {st : α → DEnv} {f : α → β → α} {c : β → Bool} {d : D} {φ : β → D} {I : Nat → α → Prop} : ∀ (xs : List β) (i : Nat) (a : α), I i a → (∀ j a x, xs[j]? = some x → I (i + j) a → c x = true → I (i + j + 1) (f a x) ∧ Turn1 bd cl body (φ x) (st a) (st (f a x))) → (∀ j a x, xs[j]? = some x → I (i + j) a → c x = false → ∃ e1 e2 e3, bd (φ x) (st a) = some e1 ∧ body e1 = .ok (.rt d e2) ∧ dropS cl e2 = some e3) →
    (xs.all c = true → forD bd cl body (xs.map φ) (st a) = .ok (.nx (st (xs.foldl f a)))) ∧ (xs.all c = false → ∃ e, forD bd cl body (xs.map φ) (st a) = .ok (.rt d e))
  | [], i, a, _, _, _ => ⟨fun _ => rfl, fun h => (Bool.noConfusion (show true = false from h))⟩
  | x :: xs, i, a, hI, h1, h2 => by
    have e : ∀ j, i + 1 + j = i + (j + 1) := fun j => by omega
    cases hc : c x with
    | true =>
      have t := h1 0 a x rfl hI hc
      have r := forD_scanI xs (i + 1) (f a x) t.1 (fun j b y hy hb => by rw [e] at hb ⊢; exact h1 (j + 1) b y hy hb) (fun j b y hy hb => by rw [e] at hb; exact h2 (j + 1) b y hy hb)
      rw [List.map_cons, forD_cons t.2, List.foldl_cons, List.all_cons, hc, Bool.true_and]
      exact r
    | false =>
      rw [List.all_cons, hc, Bool.false_and]
      refine ⟨fun h => Bool.noConfusion h, fun _ => ?_⟩
      obtain ⟨e1, e2, e3, g1, g2, g3⟩ := h2 0 a x rfl hI hc
      refine ⟨e3, ?_⟩
      rw [List.map_cons, forD, g1]
      simp only [must_some, g2, Out.bind_ok, g3]
/-- one turn of a comprehension with a test -/
def TurnC (bd : D → DEnv → Option DEnv) (ce : DEnv → Out (Bool × DEnv)) (elt : DEnv → Out (D × DEnv)) (cl : List Nat) (x : D) (e : DEnv) : Out (Option D × DEnv) := must (bd x e) fun e => ce e >>= fun p => if p.1 = true then elt p.2 >>= fun q => must (dropS cl q.2) fun e2 => .ok (some q.1, e2)
      else must (dropS cl p.2) fun e2 => .ok (none, e2)
theorem lcG_filt {e0 : DEnv} {c : β → Bool} {g : β → D} {φ : β → D} : ∀ (xs : List β), (∀ x, x ∈ xs → TurnC bd ce elt cl (φ x) e0 = .ok (if c x = true then some (g x) else none, e0)) → lcG bd ce elt cl (xs.map φ) e0 = .ok ((xs.filter c).map g, e0)
  | [], _ => rfl
  | x :: xs, h => by
    have h2 := h x List.mem_cons_self
    have h3 := lcG_filt xs fun y hy => h y (List.mem_cons_of_mem _ hy)
    rw [List.map_cons, lcG]
    unfold TurnC at h2
    cases hb : bd (φ x) e0 with
    | none => rw [hb] at h2; cases h2
    | some e1 =>
      rw [hb, must_some] at h2
      rw [must_some]
      cases hc : ce e1 with
      | bad => rw [hc] at h2; cases h2
      | exc k => rw [hc] at h2; cases h2
      | ok p =>
        obtain ⟨b, e2⟩ := p
        rw [hc] at h2
        simp only [Out.bind_ok] at h2 ⊢
        cases b with
        | false =>
          simp only [Bool.false_eq_true, if_false] at h2 ⊢
          cases hd : dropS cl e2 with
          | none => rw [hd] at h2; cases h2
          | some e3 =>
            rw [hd] at h2
            rw [must_some] at h2 ⊢
            by_cases hx : c x = true
            · rw [if_pos hx] at h2; cases h2
            · rw [if_neg hx] at h2
              cases h2
              rw [h3, List.filter_cons_of_neg hx]
        | true =>
          simp only [if_true] at h2 ⊢
          cases he : elt e2 with
          | bad => rw [he] at h2; cases h2
          | exc k => rw [he] at h2; cases h2
          | ok q =>
            obtain ⟨d, e3⟩ := q
            rw [he] at h2
            simp only [Out.bind_ok] at h2 ⊢
            cases hd : dropS cl e3 with
            | none => rw [hd] at h2; cases h2
            | some e4 =>
              rw [hd] at h2
              rw [must_some] at h2 ⊢
              by_cases hx : c x = true
              · rw [if_pos hx] at h2
                cases h2
                rw [h3, List.filter_cons_of_pos hx]
                rfl
              · rw [if_neg hx] at h2; cases h2
end
@[simp] theorem z_pcomp {α : Type} (f : α → Int) (l : List α) : D.pureL (l.map (D.int ∘ f)) = true := pureL_map (fun _ => rfl) l
theorem range_at {n j k : Nat} (h : (List.range n)[j]? = some k) : k = j ∧ j < n := by
  by_cases hj : j < n
  · rw [List.getElem?_range hj] at h
    exact ⟨(Option.some.inj h).symm, hj⟩
  · rw [List.getElem?_eq_none (by simpa using hj)] at h
    cases h
theorem zipD_map {α β : Type} {φ : α → D} {ψ : β → D} : ∀ (xs : List α) (ys : List β), zipD (xs.map φ) (ys.map ψ) = (xs.zip ys).map fun p => .tup [φ p.1, ψ p.2]
  | [], ys => by simp [zipD]
  | x :: xs, [] => by simp [zipD]
  | x :: xs, y :: ys => by
    rw [List.map_cons, List.map_cons, List.zip_cons_cons, List.map_cons, ← zipD_map xs ys]
    rfl
theorem at_map {α : Type} {φ : α → D} {l : List α} {k : Nat} (h : k < l.length) : atI (l.map φ) (k : Int) = some (φ l[k]) := atI_nat (by rw [List.getElem?_map, List.getElem?_eq_getElem h]; rfl)
theorem rng_map (n : Nat) : rngD 0 n = (List.range n).map fun k : Nat => D.int (k : Int) := by
  unfold rngD
  simp
theorem at_mapI {l : List Int} {k : Nat} (h : k < l.length) : atI (l.map D.int) (k : Int) = some (.int (l.getD k 0)) := by
  rw [at_map h]; simp [h]
theorem idx_nodup {l : List Str} (hn : l.Nodup) {k : Nat} (h : k < l.length) : l.findIdx? (· == l[k]) = some k := by
  rw [List.findIdx?_eq_some_iff_getElem]
  refine ⟨h, by simp, fun j hj => ?_⟩
  simp only [beq_iff_eq]
  intro e
  exact List.pairwise_iff_getElem.mp hn j k _ h hj e
theorem zip_self {α β : Type} (f : α → β) : ∀ l : List α, (l.map f).zip l = l.map fun x => (f x, x)
  | [] => rfl
  | x :: l => by rw [List.map_cons, List.zip_cons_cons, List.map_cons, zip_self f l]
@[simp] theorem at0 {α : Type} (a : α) (l : List α) : atI (a :: l) 0 = some a := atI_nat (j := 0) rfl
@[simp] theorem at1 {α : Type} (a b : α) (l : List α) : atI (a :: b :: l) 1 = some b := atI_nat (j := 1) rfl
@[simp] theorem at2 {α : Type} (a b c : α) (l : List α) : atI (a :: b :: c :: l) 2 = some c := atI_nat (j := 2) rfl
theorem ixN_lt {n k : Nat} (h : k < n) : ixN n (k : Int) = some k := by
  unfold ixN
  rw [if_pos (by omega), if_pos (by omega)]
  simp
def outv (o : Out Flw) : Option D := match o with
  | .ok (.rt d _) => some d
  | _ => none
theorem outv_ok {o : Out Flw} {d : D} (h : outv o = some d) : ∃ e, o = .ok (.rt d e) := by
  unfold outv at h
  split at h
  · cases h; exact ⟨_, rfl⟩
  · cases h
theorem sort_strs (l : List Str) : ∃ l2 : List Str, fSorted (.lst (l.map .str)) = some (.lst (l2.map .str)) ∧ l2.Perm l := by
  have hp : (sortL (l.map D.str)).Perm (l.map D.str) := sortL_perm _
  have key : ∀ ds : List D, (∀ d ∈ ds, ∃ s, d = .str s) → ∃ l2 : List Str, ds = l2.map .str := fun ds => by
    induction ds with
    | nil => intro _; exact ⟨[], rfl⟩
    | cons d r ih =>
      intro h
      obtain ⟨s, rfl⟩ := h d List.mem_cons_self
      obtain ⟨l2, rfl⟩ := ih fun e m => h e (List.mem_cons_of_mem _ m)
      exact ⟨s :: l2, rfl⟩
  obtain ⟨l2, h2⟩ := key (sortL (l.map D.str)) fun d m => by
    obtain ⟨s, _, rfl⟩ := List.mem_map.mp (hp.mem_iff.mp m)
    exact ⟨s, rfl⟩
  refine ⟨l2, ?_, ?_⟩
  · rw [z_sorted, h2, iff?_pos]
    refine ⟨z_pstrs l, ?_, ?_⟩
    · simp [D.py]
    · unfold sortB
      simp only [List.map_map, List.all_map, Bool.and_eq_true, Bool.or_eq_true, List.all_eq_true, Function.comp]
      refine ⟨⟨fun a _ b _ => rfl, .inr fun a _ => rfl⟩, fun a _ => rfl⟩
  · rw [h2] at hp
    have := hp.map (fun d => match d with | D.str s => s | _ => default)
    simpa [List.map_map, Function.comp_def] using this
theorem foldl_push {α β : Type} (g : α → β) : ∀ (xs : List α) (l : List β), xs.foldl (fun l x => l ++ [g x]) l = l ++ xs.map g
  | [], l => by simp
  | x :: xs, l => by rw [List.foldl_cons, foldl_push g xs]; simp
/-- the script's cells -/
def cv (ns : List Int) (k : Nat) : Int := ns.getD k 0
theorem scr_ix {ns : List Int} {k : Nat} (h : k < ns.length) : fIx (.scr ns) (.int k) = some (.int (cv ns k)) := by
  have e : dIx (.scr ns) k = some (.int (cv ns k)) := by
    show (atI ns (k : Int)).map D.int = _
    rw [atI_nat (j := k) (List.getElem?_eq_getElem h)]
    simp [cv, h]
  rw [z_ixscr, e]
  rfl
end DL

namespace DL
open PySem PySem.Spec PyProof.Rows L2
noncomputable section
/-- tree_arcs(chart) -/
def b_tree_arcs : Stm := (sSeq (sSet 1 (eOp (.fin []) (gOne (.inl 0) .non)))
  (sSeq (sSet 2 (eP (hC (.int 0))))
  (sSeq (sWhile (eBp (hB (hOp [.pur (hVar 2), .pur (hOp [.plc 1 (pVar 1)] gLenD)] gLt))) (sSeq (sSeq (sSet 3 (eOp (.own (eOp (.fin [.plc 1 (pVar 1)]) gListD) (.fin [.pur (hVar 2)])) gIx))
  (sSeq (sFor [.plc 0 (pIx (pVar 0) (hC (.int 1)))] mkSeq (bName 4) [4] (sSeq (sIf (hAnd (hB (hOp [.pur (hRd (pIx (pVar 4) (hC (.int 0)))), .pur (hVar 3)] gEq)) (hB (hOp [.pur (hRd (pIx (pVar 4) (hC (.int 2)))), .plc 1 (pVar 1)] gDNotIn))) (sSeq (sExpr (eK (.pur (hVar 4) (.io 1 (.fin [.pur (hRd (pIx (pVar 4) (hC (.int 2))))]))) setDK))
  sNop) sNop)
  sNop))
  (sSeq (sAug 2 (bin (bI fun a b => some (.int (a + b)))) (eP (hC (.int 1))))
  sNop))) (sDrop [3, 4])))
  (sSeq (sRet (eMov 1))
  sNop))))
def fn_tree_arcs : Fn := runFn 5 [.b] b_tree_arcs

/-- ways_of(chart) -/
def b_ways_of : Stm := (sSeq (sSet 1 (eOp (.fin []) gNewK))
  (sSeq (sFor [.own (eK (.fin [.plc 0 (pVar 0)]) (callK [.b] fn_tree_arcs))] mkItems (bTup (bCons (bName 2) (bCons (bName 3) bNil))) [2, 3] (sSeq (sIf (hB (hOp [.pur (hVar 3), .pur (hC .non)] gIsN)) (sSeq (sExpr (eK (.pur (hOp [] fTupP) (.io 1 (.fin [.pur (hVar 2)]))) setDK))
  sNop) (sSeq (sExpr (eK (.pur (hOp [.pur (hOp [.plc 1 (pVar 1), .pur (hRd (pIx (pVar 3) (hC (.int 0))))] gDGet), .pur (hOp [.pur (hRd (pIx (pVar 3) (hC (.int 1))))] fTupP)] gAddX) (.io 1 (.fin [.pur (hVar 2)]))) setDK))
  sNop))
  sNop))
  (sSeq (sRet (lcE [.pur (hOp [.plc 1 (pVar 1)] gLenD)] mkRange1 (bName 2) eYes (eP (hOp [.plc 1 (pVar 1), .pur (hVar 2)] gDGet)) [2]))
  sNop)))
def fn_ways_of : Fn := runFn 4 [.b] b_ways_of

/-- counts_of(chart) -/
def b_counts_of : Stm := (sSeq (sRet (lcE [.own (eK (.fin [.plc 0 (pVar 0)]) (callK [.b] fn_ways_of))] mkSeq (bName 1) eYes (eOp (.own (lcE [.pur (hRd (pIx (pVar 0) (hC (.int 0))))] mkSeq (bName 2) eYes (eP (hOp [.put (hVar 1) (tyD "tuple"), .pur (hVar 2)] gTCnt)) [2]) (.fin [])) gTupOf) [1]))
  sNop)
def fn_counts_of : Fn := runFn 3 [.b] b_counts_of

/-- rings_of(chart) -/
def b_rings_of : Stm := (sSeq (sSet 1 (eK (.fin [.plc 0 (pVar 0)]) (callK [.b] fn_tree_arcs)))
  (sSeq (sSet 2 (eK (.fin [.plc 0 (pVar 0)]) (callK [.b] fn_counts_of)))
  (sSeq (sSet 3 (eK (.fin []) (dspK .lst)))
  (sSeq (sFor [.plc 0 (pIx (pVar 0) (hC (.int 1)))] mkSeq (bName 4) [4, 5, 6, 7, 8] (sSeq (sIf (hB (hOp [.pur (hOp [.plc 1 (pVar 1), .pur (hRd (pIx (pVar 4) (hC (.int 2))))] gDGet), .pur (hVar 4)] gNe)) (sSeq (sSet 5 (eK (.fin []) (dspK .lst)))
  (sSeq (sFor [.pur (hRd (pIx (pVar 0) (hC (.int 0)))), .pur (hRd (pIx (pVar 2) (hRd (pIx (pVar 4) (hC (.int 0)))))), .pur (hRd (pIx (pVar 2) (hRd (pIx (pVar 4) (hC (.int 2))))))] mkZip3 (bTup (bCons (bName 6) (bCons (bName 7) (bCons (bName 8) bNil)))) [6, 7, 8] (sSeq (sExpr (isL 5 (eK (.io 5 (.fin [.pur (hOp [.pur (hOp [.pur (hVar 7), .pur (hOp [.pur (hOp [.pur (hVar 6), .pur (hRd (pIx (pVar 4) (hC (.int 1))))] gEq)] gInt)] gAdd), .pur (hVar 8)] gSub)])) appK)))
  sNop))
  (sSeq (sExpr (isL 3 (eK (.io 3 (.fin [.pur (hOp [.plc 5 (pVar 5)] gTupOf)])) appK)))
  sNop))) sNop)
  sNop))
  (sSeq (sRet (eMov 3))
  sNop)))))
def fn_rings_of : Fn := runFn 9 [.b] b_rings_of

/-- _law_cell_at(_law_script, _law_k) -/
def b_law_cell_at : Stm := (sSeq (sIf (hB (hOp [.pur (hVar 1), .pur (hOp [.plc 0 (pVar 0)] gLen)] gLt)) (sSeq (sRet (eP (hOp [.plc 0 (pVar 0), .pur (hVar 1)] gIx)))
  sNop) sNop)
  (sSeq (sRet (eP (hC (.int 0))))
  sNop))
def fn_law_cell_at : Fn := runFn 2 [.b, .b] b_law_cell_at

/-- _law_stream(_law_cell, _law_count) -/
def b_law_stream : Stm := (sSeq (sSet 2 (eK (.fin []) (dspK .lst)))
  (sSeq (sSet 3 (eP (hOp [.pur (hOp [.pur (hVar 0), .pur (hC (.int 2147483629))] gMod), .pur (hC (.int 7))] gAdd)))
  (sSeq (sFor [.pur (hVar 1)] mkRange1 (bName 4) [4] (sSeq (sSet 3 (eP (hOp [.pur (hOp [.pur (hOp [.pur (hOp [.pur (hOp [.pur (hVar 3), .pur (hVar 3)] gMul), .pur (hOp [.pur (hC (.int 69069)), .pur (hVar 3)] gMul)] gAdd), .pur (hOp [.pur (hC (.int 5)), .pur (hVar 4)] gMul)] gAdd), .pur (hC (.int 1))] gAdd), .pur (hC (.int 2147483629))] gMod)))
  (sSeq (sExpr (isL 2 (eK (.io 2 (.fin [.pur (hOp [.pur (hVar 3), .pur (hC (.int 16))] gDiv)])) appK)))
  sNop)))
  (sSeq (sRet (eMov 2))
  sNop))))
def fn_law_stream : Fn := runFn 5 [.b, .b] b_law_stream

/-- _law_names(_law_cell, _law_count) -/
def b_law_names : Stm := (sSeq (sSet 2 (eP (hC (.str "abcdefghijklmnopqrstuvwxyz"))))
  (sSeq (sSet 3 (eP (hOp [.pur (hC (.int 1)), .pur (hOp [.pur (hVar 0), .pur (hC (.int 8))] gMod)] gAdd)))
  (sSeq (sSet 4 (eP (hOp [.pur (hOp [.pur (hVar 0), .pur (hC (.int 8))] gDiv), .pur (hVar 3)] gMod)))
  (sSeq (sSet 5 (eK (.fin []) (dspK .lst)))
  (sSeq (sFor [.pur (hVar 1)] mkRange1 (bName 6) [6, 7, 8, 9] (sSeq (sSet 7 (eP (hC (.str ""))))
  (sSeq (sFor [.pur (hVar 3)] mkRange1 (bName 8) [8, 9] (sSeq (sSet 9 (eP (hOp [.pur (hOp [.pur (hVar 0), .pur (hOp [.pur (hVar 8), .pur (hC (.int 64))] gAdd)] gDiv), .pur (hOp [.pur (hVar 8), .pur (hVar 8)] gMul)] gAdd)))
  (sSeq (sIf (hB (hOp [.pur (hVar 8), .pur (hVar 4)] gEq)) (sSeq (sSet 9 (eP (hOp [.pur (hVar 9), .pur (hVar 6)] gAdd)))
  sNop) sNop)
  (sSeq (sSet 7 (eP (hOp [.pur (hVar 7), .pur (hOp [.pur (hVar 2), .pur (hOp [.pur (hVar 9), .pur (hC (.int 26))] gMod)] gIx)] gAdd)))
  sNop))))
  (sSeq (sIf (hB (hOp [.pur (hVar 7), .pur (hC (.str "moves"))] gEq)) (sSeq (sSet 7 (eP (hC (.str "movesa"))))
  sNop) sNop)
  (sSeq (sExpr (isL 5 (eK (.io 5 (.fin [.pur (hVar 7)])) appK)))
  sNop)))))
  (sSeq (sRet (eOp (.fin [.plc 5 (pVar 5)]) gSorted))
  sNop))))))
def fn_law_names : Fn := runFn 10 [.b, .b] b_law_names

/-- _law_come_to(_law_arcs) -/
def b_law_come_to : Stm := (sSeq (sSet 1 (eOp (.fin []) (gOne (.inl 0) (.bl true))))
  (sSeq (sFor [.pur (hOp [.plc 0 (pVar 0)] gLen)] mkRange1 (bName 2) [2, 3, 4, 5] (sSeq (sFor [.plc 0 (pVar 0)] mkSeq (bTup (bCons (bName 3) (bCons (bName 4) (bCons (bName 5) bNil)))) [3, 4, 5] (sSeq (sIf (hB (hOp [.pur (hVar 3), .plc 1 (pVar 1)] gDIn)) (sSeq (sExpr (eK (.pur (hC (.bl true)) (.io 1 (.fin [.pur (hVar 5)]))) setDK))
  sNop) sNop)
  sNop))
  sNop))
  (sSeq (sRet (eMov 1))
  sNop)))
def fn_law_come_to : Fn := runFn 6 [.b] b_law_come_to

/-- _law_guards(_law_xs, _law_count) -/
def b_law_guards : Stm := (sSeq (sSet 2 (eK (.own (eOp (.pur (hC (.int 1)) (.own (eOp (.own (isL 0 (eK (.io 0 (.fin [])) popK)) (.fin [.pur (hC (.int 3))])) gMod) (.fin []))) gAdd) (.own (eOp (.own (isL 0 (eK (.io 0 (.fin [])) popK)) (.fin [.pur (hC (.int 2))])) gMod) (.fin []))) (dspK .lst)))
  (sSeq (sSet 3 (eK (.own (eOp (.own (isL 0 (eK (.io 0 (.fin [])) popK)) (.fin [.pur (hOp [.pur (hRd (pIx (pVar 2) (hC (.int 0)))), .pur (hC (.int 1))] gAdd)])) gMod) (.own (eOp (.own (isL 0 (eK (.io 0 (.fin [])) popK)) (.fin [.pur (hOp [.pur (hRd (pIx (pVar 2) (hC (.int 1)))), .pur (hC (.int 1))] gAdd)])) gMod) (.fin []))) (dspK .tup)))
  (sSeq (sSet 4 (eK (.fin []) (dspK .lst)))
  (sSeq (sFor [.pur (hVar 1)] mkRange1 (bName 5) [5, 6, 7, 8, 9, 10] (sSeq (sSet 6 (eK (.fin []) (dspK .lst)))
  (sSeq (sFor [.plc 2 (pVar 2)] mkSeq (bName 7) [7, 8, 9, 10] (sSeq (sSet 8 (eOp (.own (eOp (.own (isL 0 (eK (.io 0 (.fin [])) popK)) (.fin [.pur (hOp [.pur (hOp [.pur (hC (.int 2)), .pur (hVar 7)] gMul), .pur (hC (.int 1))] gAdd)])) gMod) (.fin [.pur (hVar 7)])) gSub))
  (sSeq (sSet 9 (eOp (.pur (hOp [.pur (hC (.int 0)), .pur (hOp [.pur (hC (.int 0)), .pur (hVar 8)] gSub)] gMax2) (.own (eOp (.own (isL 0 (eK (.io 0 (.fin [])) popK)) (.fin [.pur (hC (.int 2))])) gMod) (.fin []))) gAdd))
  (sSeq (sSet 10 (eOp (.pur (hOp [.pur (hVar 7), .pur (hOp [.pur (hVar 7), .pur (hVar 8)] gSub)] gMin2) (.own (eOp (.own (eOp (.own (isL 0 (eK (.io 0 (.fin [])) popK)) (.fin [.pur (hC (.int 4))])) gMod) (.fin [.pur (hC (.int 3))])) gDiv) (.fin []))) gSub))
  (sSeq (sExpr (isL 6 (eK (.io 6 (.fin [.pur (hOp [.pur (hVar 9), .pur (hVar 10), .pur (hVar 8)] fTup)])) appK)))
  sNop)))))
  (sSeq (sExpr (isL 4 (eK (.io 4 (.own (eMov 6) (.fin []))) appK)))
  sNop))))
  (sSeq (sRet (eK (.own (eMov 2) (.pur (hVar 3) (.own (eMov 4) (.fin [])))) (dspK .tup)))
  sNop)))))
def fn_law_guards : Fn := runFn 11 [.io, .b] b_law_guards

/-- _law_gone(_law_spot, _law_sides) -/
def b_law_gone : Stm := (sSeq (sSet 2 (eK (.fin []) (dspK .lst)))
  (sSeq (sFor [.pur (hVar 0), .plc 1 (pVar 1)] mkZip (bTup (bCons (bName 3) (bCons (bName 4) bNil))) [3, 4] (sSeq (sIf (hOr (hB (hOp [.pur (hVar 3), .pur (hRd (pIx (pVar 4) (hC (.int 0))))] gLt)) (hB (hOp [.pur (hVar 3), .pur (hRd (pIx (pVar 4) (hC (.int 1))))] gGt))) (sSeq (sRet (eP (hC .non)))
  sNop) sNop)
  (sSeq (sExpr (isL 2 (eK (.io 2 (.fin [.pur (hOp [.pur (hVar 3), .pur (hRd (pIx (pVar 4) (hC (.int 2))))] gAdd)])) appK)))
  sNop)))
  (sSeq (sRet (eP (hOp [.plc 2 (pVar 2)] gTupOf)))
  sNop)))
def fn_law_gone : Fn := runFn 5 [.b, .b] b_law_gone

/-- _law_run(_law_names_here, _law_start, _law_guards_here) -/
def b_law_run : Stm := (sSeq (sSet 3 (eK (.fin [.pur (hVar 1)]) (dspK .lst)))
  (sSeq (sSet 4 (eK (.fin []) (dspK .lst)))
  (sSeq (sSet 5 (eP (hC (.int 0))))
  (sSeq (sWhile (eBp (hB (hOp [.pur (hVar 5), .pur (hOp [.plc 3 (pVar 3)] gLen)] gLt))) (sSeq (sSeq (sFor [.plc 0 (pVar 0), .plc 2 (pVar 2)] mkZip (bTup (bCons (bName 6) (bCons (bName 7) bNil))) [6, 7, 8] (sSeq (sSet 8 (eK (.fin [.pur (hRd (pIx (pVar 3) (hVar 5))), .plc 7 (pVar 7)]) (callK [.b, .b] fn_law_gone)))
  (sSeq (sIf (hB (hOp [.pur (hVar 8), .pur (hC .non)] gNotN)) (sSeq (sIf (hB (hOp [.pur (hVar 8), .plc 3 (pVar 3)] gNotIn)) (sSeq (sExpr (isL 3 (eK (.io 3 (.fin [.pur (hVar 8)])) appK)))
  sNop) sNop)
  (sSeq (sExpr (isL 4 (eK (.io 4 (.fin [.pur (hOp [.pur (hVar 5), .pur (hVar 6), .pur (hOp [.plt 3 (pVar 3) (tyD "list"), .pur (hVar 8)] gLIx)] fTup)])) appK)))
  sNop)) sNop)
  sNop)))
  (sSeq (sSet 5 (eP (hOp [.pur (hVar 5), .pur (hC (.int 1))] gAdd)))
  sNop)) (sDrop [6, 7, 8])))
  (sSeq (sRet (eOp (.fin [.plc 4 (pVar 4)]) gSorted))
  sNop)))))
def fn_law_run : Fn := runFn 9 [.b, .b, .b] b_law_run

/-- _law_few(_law_xs, _law_names_here) -/
def b_law_few : Stm := (sSeq (sSet 2 (eOp (.pur (hC (.int 1)) (.own (eOp (.own (isL 0 (eK (.io 0 (.fin [])) popK)) (.fin [.pur (hC (.int 6))])) gMod) (.fin []))) gAdd))
  (sSeq (sSet 3 (eOp (.fin []) gNewT))
  (sSeq (sFor [.pur (hC (.int 1)), .pur (hVar 2)] mkRange2 (bName 4) [4] (sSeq (sExpr (eK (.pur (hC (.bl true)) (.io 3 (.own (eK (.own (eOp (.own (isL 0 (eK (.io 0 (.fin [])) popK)) (.fin [.pur (hVar 4)])) gMod) (.own (eOp (.plc 1 (pVar 1) (.own (eOp (.own (isL 0 (eK (.io 0 (.fin [])) popK)) (.fin [.pur (hOp [.plc 1 (pVar 1)] gLen)])) gMod) (.fin []))) gIx) (.fin [.pur (hVar 4)]))) (dspK .tup)) (.fin [])))) setDK))
  sNop))
  (sSeq (sFor [.own (eOp (.own (isL 0 (eK (.io 0 (.fin [])) popK)) (.fin [.pur (hC (.int 4))])) gMod)] mkRange1 (bName 4) [4] (sSeq (sExpr (eK (.pur (hC (.bl true)) (.io 3 (.own (eK (.own (eOp (.own (isL 0 (eK (.io 0 (.fin [])) popK)) (.fin [.pur (hVar 2)])) gMod) (.own (eOp (.plc 1 (pVar 1) (.own (eOp (.own (isL 0 (eK (.io 0 (.fin [])) popK)) (.fin [.pur (hOp [.plc 1 (pVar 1)] gLen)])) gMod) (.fin []))) gIx) (.own (eOp (.own (isL 0 (eK (.io 0 (.fin [])) popK)) (.fin [.pur (hVar 2)])) gMod) (.fin [])))) (dspK .tup)) (.fin [])))) setDK))
  sNop))
  (sSeq (sRet (eOp (.fin [.plc 3 (pVar 3)]) gSortD))
  sNop)))))
def fn_law_few : Fn := runFn 5 [.io, .b] b_law_few

/-- _law_word(_law_xs, _law_names_here) -/
def b_law_word : Stm := (sSeq (sSet 2 (eOp (.pur (hC (.int 1)) (.own (eOp (.own (isL 0 (eK (.io 0 (.fin [])) popK)) (.fin [.pur (hC (.int 7))])) gMod) (.fin []))) gAdd))
  (sSeq (sSet 3 (lcE [.pur (hVar 2)] mkRange1 (bName 4) eYes (eK (.pur (hVar 4) (.own (eOp (.plc 1 (pVar 1) (.own (eOp (.own (isL 0 (eK (.io 0 (.fin [])) popK)) (.fin [.pur (hOp [.plc 1 (pVar 1)] gLen)])) gMod) (.fin []))) gIx) (.fin [.pur (hOp [.pur (hVar 4), .pur (hC (.int 1))] gAdd)]))) (dspK .tup)) [4]))
  (sSeq (sIfE (eB (eOp (.own (eOp (.own (isL 0 (eK (.io 0 (.fin [])) popK)) (.fin [.pur (hC (.int 3))])) gMod) (.fin [.pur (hC (.int 0))])) gEq)) (sSeq (sExpr (isL 3 (eK (.io 3 (.own (eK (.pur (hVar 2) (.own (eOp (.plc 1 (pVar 1) (.own (eOp (.own (isL 0 (eK (.io 0 (.fin [])) popK)) (.fin [.pur (hOp [.plc 1 (pVar 1)] gLen)])) gMod) (.fin []))) gIx) (.own (eOp (.own (isL 0 (eK (.io 0 (.fin [])) popK)) (.fin [.pur (hVar 2)])) gMod) (.fin [])))) (dspK .tup)) (.fin []))) appK)))
  sNop) sNop)
  (sSeq (sRet (eOp (.fin [.plc 3 (pVar 3)]) gSorted))
  sNop))))
def fn_law_word : Fn := runFn 5 [.io, .b] b_law_word

/-- _law_fewer(_law_arcs, _law_cells) -/
def b_law_fewer : Stm := (sSeq (sFor [.plc 1 (pVar 1)] mkSeq (bName 2) [2, 3, 4] (sSeq (sIfE (eB (eOp (.plc 0 (pVar 0) (.own (eK (.fin []) (dspK .lst)) (.fin []))) gNe)) (sSeq (sSet 3 (eP (hOp [.pur (hVar 2), .pur (hOp [.plc 0 (pVar 0)] gLen)] gMod)))
  (sSeq (sSet 4 (eOp (.own (eOp (.fin [.plc 0 (pVar 0), .int (hVar 3)]) (slH fSlL)) (.own (eOp (.fin [.plc 0 (pVar 0), .int (hOp [.pur (hVar 3), .pur (hC (.int 1))] gAdd)]) (slL fSlL)) (.fin []))) gCatLL))
  (sSeq (sIfE (eB (eOp (.own (eOp (.own (eK (.fin [.plc 4 (pVar 4)]) (callK [.b] fn_law_come_to)) (.fin [])) gLenD) (.own (eOp (.own (eK (.fin [.plc 0 (pVar 0)]) (callK [.b] fn_law_come_to)) (.fin [])) gLenD) (.fin []))) gEq)) (sSeq (sSet 0 (eMov 4))
  sNop) sNop)
  sNop))) sNop)
  sNop))
  (sSeq (sRet (eMov 0))
  sNop))
def fn_law_fewer : Fn := runFn 5 [.mv, .b] b_law_fewer

/-- _law_chart(_law_script) -/
def b_law_chart : Stm := (sSeq (sSet 1 (eK (.own (eK (.fin [.plc 0 (pVar 0), .pur (hC (.int 0))]) (callK [.b, .b] fn_law_cell_at)) (.own (eOp (.pur (hC (.int 1)) (.own (eOp (.own (eK (.fin [.plc 0 (pVar 0), .pur (hC (.int 1))]) (callK [.b, .b] fn_law_cell_at)) (.fin [.pur (hC (.int 3))])) gMod) (.fin []))) gAdd) (.fin []))) (callK [.b, .b] fn_law_names)))
  (sSeq (sSet 2 (eK (.own (eK (.fin [.plc 0 (pVar 0), .pur (hC (.int 2))]) (callK [.b, .b] fn_law_cell_at)) (.fin [.pur (hC (.int 40))])) (callK [.b, .b] fn_law_stream)))
  (sSeq (sSet 3 (eOp (.own (eK (.fin [.plc 0 (pVar 0), .pur (hC (.int 3))]) (callK [.b, .b] fn_law_cell_at)) (.fin [.pur (hC (.int 4))])) gMod))
  (sSeq (sIf (hB (hOp [.pur (hVar 3), .pur (hC (.int 0))] gEq)) (sSeq (sSet 4 (eK (.io 2 (.fin [.plc 1 (pVar 1)])) (callK [.io, .b] fn_law_few)))
  sNop) (sSeq (sIf (hB (hOp [.pur (hVar 3), .pur (hC (.int 1))] gEq)) (sSeq (sSet 4 (eK (.io 2 (.fin [.plc 1 (pVar 1)])) (callK [.io, .b] fn_law_word)))
  sNop) (sSeq (sUnp [5, 6, 7] (eK (.io 2 (.fin [.pur (hOp [.plc 1 (pVar 1)] gLen)])) (callK [.io, .b] fn_law_guards)))
  (sSeq (sSet 4 (eK (.fin [.plc 1 (pVar 1), .pur (hVar 6), .plc 7 (pVar 7)]) (callK [.b, .b, .b] fn_law_run)))
  (sSeq (sIf (hB (hOp [.pur (hVar 3), .pur (hC (.int 3))] gEq)) (sSeq (sSet 4 (eK (.own (eMov 4) (.own (eOp (.fin [.plc 0 (pVar 0), .int (hC (.int 4)), .int (hC (.int 8))]) (sl2 fSlL)) (.fin []))) (callK [.mv, .b] fn_law_fewer)))
  sNop) sNop)
  sNop))))
  sNop))
  (sSeq (sRet (eK (.pur (hOp [.plc 1 (pVar 1)] gTupX) (.own (eMov 4) (.fin []))) (dspK .tup)))
  sNop)))))
def fn_law_chart : Fn := runFn 8 [.b] b_law_chart

/-- _law_is_whole(_law_told) -/
def b_law_is_whole : Stm := (sSeq (sRet (eP (hAndV (hOp [.pur (hVar 0)] (gIsi "int")) (hNotV (hOp [.pur (hVar 0)] (gIsi "bool"))))))
  sNop)
def fn_law_is_whole : Fn := runFn 1 [.b] b_law_is_whole

/-- _law_is_rows(_law_told, _law_width) -/
def b_law_is_rows : Stm := (sSeq (sIf (hNot (hB (hOp [.plc 0 (pVar 0)] (gIsi "list")))) (sSeq (sRet (eP (hC (.bl false))))
  sNop) sNop)
  (sSeq (sFor [.plc 0 (pVar 0)] mkSeq (bName 2) [2] (sSeq (sIf (hOr (hNot (hB (hOp [.pur (hVar 2)] (gIsi "tuple")))) (hB (hOp [.pur (hOp [.pur (hVar 2)] gLen), .pur (hVar 1)] gNe))) (sSeq (sRet (eP (hC (.bl false))))
  sNop) sNop)
  (sSeq (sIfE (eB (eOp (.own (eOp (.own (lcE [.pur (hVar 2)] mkSeq (bName 3) (eNot (eB (eK (.fin [.pur (hVar 3)]) (callK [.b] fn_law_is_whole)))) (eP (hVar 3)) [3]) (.fin [])) gLen) (.fin [.pur (hC (.int 0))])) gGt)) (sSeq (sRet (eP (hC (.bl false))))
  sNop) sNop)
  sNop)))
  (sSeq (sRet (eP (hC (.bl true))))
  sNop)))
def fn_law_is_rows : Fn := runFn 4 [.b, .b] b_law_is_rows

/-- _law_taken(_law_row_here, _law_numbers) -/
def b_law_taken : Stm := (sSeq (sRet (eOp (.own (lcE [.pur (hVar 0), .plc 1 (pVar 1)] mkZip (bTup (bCons (bName 2) (bCons (bName 3) bNil))) eYes (eP (hOp [.pur (hVar 2), .pur (hVar 3)] gMul)) [2, 3]) (.fin [])) gSum))
  sNop)
def fn_law_taken : Fn := runFn 4 [.b, .b] b_law_taken

/-- _law_row(_law_script, _law_names_here) -/
def b_law_row : Stm := (sSeq (sSet 2 (lcE [.pur (hC (.int 5))] mkRange1 (bName 4) eYes (eOp (.own (eOp (.own (eK (.fin [.plc 0 (pVar 0), .pur (hOp [.pur (hC (.int 9)), .pur (hVar 4)] gAdd)]) (callK [.b, .b] fn_law_cell_at)) (.fin [.pur (hOp [.pur (hC (.int 10)), .pur (hC (.int 30))] gPow)])) gMod) (.fin [.pur (hOp [.pur (hC (.int 10)), .pur (hC (.int 29))] gPow)])) gSub) [4]))
  (sSeq (sIfE (eOr (eB (eOp (.own (eOp (.own (eK (.fin [.plc 0 (pVar 0), .pur (hC (.int 3))]) (callK [.b, .b] fn_law_cell_at)) (.fin [.pur (hC (.int 4))])) gMod) (.fin [.pur (hC (.int 2))])) gLt)) (eB (eOp (.own (eOp (.own (eK (.fin [.plc 0 (pVar 0), .pur (hC (.int 8))]) (callK [.b, .b] fn_law_cell_at)) (.fin [.pur (hC (.int 3))])) gMod) (.fin [.pur (hC (.int 0))])) gEq))) (sSeq (sRet (eOp (.fin [.plc 2 (pVar 2), .int (hOp [.pur (hVar 1)] gLen)]) (slH fSlL)))
  sNop) sNop)
  (sSeq (sIfE (eB (eOp (.own (eOp (.own (eK (.fin [.plc 0 (pVar 0), .pur (hC (.int 8))]) (callK [.b, .b] fn_law_cell_at)) (.fin [.pur (hC (.int 3))])) gMod) (.fin [.pur (hC (.int 1))])) gEq)) (sSeq (sExpr (eK (.pur (hC (.int 0)) (.io 2 (.fin [.pur (hC (.int 4))]))) setK))
  sNop) sNop)
  (sSeq (sSet 3 (eK (.own (eK (.own (eK (.own (eK (.fin [.plc 0 (pVar 0), .pur (hC (.int 2))]) (callK [.b, .b] fn_law_cell_at)) (.fin [.pur (hC (.int 40))])) (callK [.b, .b] fn_law_stream)) (.fin [.pur (hOp [.pur (hVar 1)] gLen)])) (callK [.mv, .b] (noOut fn_law_guards))) (.fin [.pur (hC (.int 2))])) takeT))
  (sSeq (sRet (lcE [.plc 3 (pVar 3)] mkSeq (bName 5) eYes (eP (hOp [.pur (hOp [.pur (hRd (pIx (pVar 2) (hC (.int 3)))), .pur (hRd (pIx (pIx (pVar 5) (hC (.int 0))) (hC (.int 2))))] gMul), .pur (hOp [.pur (hRd (pIx (pVar 2) (hC (.int 4)))), .pur (hRd (pIx (pIx (pVar 5) (hC (.int 1))) (hC (.int 2))))] gMul)] gAdd)) [5]))
  sNop)))))
def fn_law_row : Fn := runFn 6 [.b, .b] b_law_row

/-- law(_law_script) -/
def b_law : Stm := (sSeq (sSet 1 (eK (.fin [.plc 0 (pVar 0)]) (callK [.b] fn_law_chart)))
  (sSeq (sSet 2 (eK (.fin [.plc 0 (pVar 0), .pur (hRd (pIx (pVar 1) (hC (.int 0))))]) (callK [.b, .b] fn_law_row)))
  (sSeq (sSet 3 (eK (.own (eK (.pur (hRd (pIx (pVar 1) (hC (.int 0)))) (.own (eOp (.fin [.plc 1 (pIx (pVar 1) (hC (.int 1)))]) gListOf) (.fin []))) (dspK .tup)) (.fin [])) (callK [.b] fn_rings_of)))
  (sSeq (sSet 4 (eK (.own (eK (.pur (hRd (pIx (pVar 1) (hC (.int 0)))) (.own (eOp (.fin [.plc 1 (pIx (pVar 1) (hC (.int 1)))]) gListOf) (.fin []))) (dspK .tup)) (.fin [])) (callK [.b] fn_counts_of)))
  (sSeq (sIfE (eOr (eNot (eB (eK (.fin [.plc 3 (pVar 3), .pur (hOp [.pur (hRd (pIx (pVar 1) (hC (.int 0))))] gLen)]) (callK [.b, .b] fn_law_is_rows)))) (eNot (eB (eK (.fin [.plc 4 (pVar 4), .pur (hOp [.pur (hRd (pIx (pVar 1) (hC (.int 0))))] gLen)]) (callK [.b, .b] fn_law_is_rows))))) (sSeq (sRet (eP (hC (.bl false))))
  sNop) sNop)
  (sSeq (sSet 5 (eOp (.own (eOp (.own (lcE [.plc 3 (pVar 3)] mkSeq (bName 12) (eB (eOp (.own (eK (.fin [.pur (hVar 12), .plc 2 (pVar 2)]) (callK [.b, .b] fn_law_taken)) (.fin [.pur (hC (.int 0))])) gNe)) (eP (hVar 12)) [12]) (.fin [])) gLen) (.fin [.pur (hC (.int 0))])) gEq))
  (sSeq (sSet 6 (lcE [.plc 4 (pVar 4)] mkSeq (bName 11) eYes (eK (.fin [.pur (hVar 11), .plc 2 (pVar 2)]) (callK [.b, .b] fn_law_taken)) [11]))
  (sSeq (sSet 7 (eP (hC (.bl true))))
  (sSeq (sFor [.plc 1 (pIx (pVar 1) (hC (.int 1)))] mkSeq (bTup (bCons (bName 8) (bCons (bName 9) (bCons (bName 10) bNil)))) [8, 9, 10] (sSeq (sIf (hB (hOp [.pur (hOp [.pur (hRd (pIx (pVar 6) (hVar 8))), .pur (hRd (pIx (pVar 2) (hOp [.put (hRd (pIx (pVar 1) (hC (.int 0)))) (tyD "tuple"), .pur (hVar 9)] gTIx)))] gAdd), .pur (hRd (pIx (pVar 6) (hVar 10)))] gNe)) (sSeq (sSet 7 (eP (hC (.bl false))))
  sNop) sNop)
  sNop))
  (sSeq (sRet (eP (hOp [.pur (hVar 5), .pur (hVar 7)] gEq)))
  sNop))))))))))
def fn_law : Fn := runFn 13 [.b] b_law
end
end DL

namespace DL
open PySem PySem.Spec PyProof.Rows L2
/-! ### dicts, reckoned -/
section
variable {env : DEnv} {ks : List Key} {kt : List (List Key)} {vs xs : List D} {d x : D} {k : Key} {n : Int} {s : Str}
@[simp] theorem z_keyi : keyD (.int n) = some (.inl n) := rfl
@[simp] theorem z_keys : keyD (.str s) = some (.inr s) := rfl
@[simp] theorem z_keysd : keysD (.tupF false xs) = keysL xs := rfl
@[simp] theorem z_keysl0 : keysL [] = some [] := rfl
@[simp] theorem z_keysl1 : keysL (d :: xs) = match keyD d, keysL xs with
    | some k, some ks => some (k :: ks)
    | _, _ => none := rfl
@[simp] theorem z_gone : gOne k d [] = some (.dk [k] [d]) := rfl
@[simp] theorem z_newk : gNewK [] = some (.dk [] []) := rfl
@[simp] theorem z_newt : gNewT [] = some (.dt [] []) := rfl
@[simp] theorem z_lendk : fLenD (.dk ks vs) = some (.int ks.length) := rfl
@[simp] theorem z_lendt : fLenD (.dt kt vs) = some (.int kt.length) := rfl
@[simp] theorem z_listd : fListD (.dk ks vs) = some (.lst (ks.map toKD)) := rfl
@[simp] theorem z_sortd : fSortD (.dt kt vs) = iff? (sortB (kt.map keyPy) = true) (.lst ((kt.mergeSort (PySem.W.dataLe false keyPy)).map toKsD)) := rfl
@[simp] theorem z_din {f : Bool → Bool} : fDIn f x d = (fLook d x).map fun r => .bl (f r.isSome) := rfl
@[simp] theorem z_dget : fDGet d x = match fLook d x with
    | some (some e) => iff? (e.pure = true) e
    | _ => none := rfl
@[simp] theorem z_look1 : fLook (.dk ks vs) x = (keyD x).map fun k => lookP ks vs k := rfl
@[simp] theorem z_look2 : fLook (.dt kt vs) x = (keysD x).map fun k => lookP kt vs k := rfl
@[simp] theorem z_setd1 : setDK [x, .dk ks vs, d] env = match keyD d with
    | some k => if x.pure = true ∧ D.pureL vs = true ∧ ks.length < 16777216 then .ok (.non, [.dk (putKs ks vs k x) (putVs ks vs k x)], env) else .bad
    | none => .bad := rfl
@[simp] theorem z_setd2 : setDK [x, .dt kt vs, d] env = match keysD d with
    | some k => if x.pure = true ∧ D.pureL vs = true ∧ kt.length < 16777216 then .ok (.non, [.dt (putKs kt vs k x) (putVs kt vs k x)], env) else .bad
    | none => .bad := rfl
@[simp] theorem z_items : mkItems [.dk ks vs] = if ks.length = vs.length ∧ D.pureL vs = true then some (itemsD ks vs) else none := rfl
@[simp] theorem z_maxd {f : Int → List Int → Int} : fMaxD f (.lst xs) (.int n) = (D.ints xs).map fun ns => .int (f n ns) := rfl
@[simp] theorem z_tupP : fTupP xs = iff? (D.pureL xs = true ∧ xs.length ≤ 16777216) (.tupF true xs) := rfl
@[simp] theorem z_addX : fAddX (.tupF true xs) (.tupF true vs) = iff? (D.pureL xs = true ∧ D.pureL vs = true ∧ xs.length + vs.length ≤ 16777216) (.tupF true (xs ++ vs)) := rfl
@[simp] theorem z_tcnt {l : List Str} : fTCnt (.tupF true (l.map .str)) (.str s) = some (.int (l.count s : Nat)) := by
  unfold fTCnt
  simp
@[simp] theorem z_clr1 {fl : Bool} : clr1K [.tupF fl [d, .lst xs]] env = if d.pure = true then .ok (.non, [.tupF fl [d, .lst []]], env) else .bad := rfl
@[simp] theorem z_mkz3 {a b c : D} : mkZip3 [a, b, c] = match a.toSeq, b.toSeq, c.toSeq with
    | some xs, some ys, some zs => some (zipD3 xs ys zs)
    | _, _, _ => none := rfl
@[simp] theorem z_par {i j : Nat} {hs : List SArg} : sPar i j hs env = must (evS hs env) fun ds => if hs.all (bArg env) = true ∧ D.pureL ds = true then must (putsS [i, j] ds env) fun e => .ok (.nx e) else .bad := rfl
@[simp] theorem z_notn1 : D.toBl (.bl true) = some true := rfl
end
section
variable {κ : Type} [DecidableEq κ] {α : Type}
theorem look_none {L : List α} {f : α → κ} {g : α → D} {k : κ} (h : ∀ a ∈ L, f a ≠ k) : lookP (L.map f) (L.map g) k = none := by
  unfold lookP
  have e : (L.map f).zip (L.map g) = L.map fun a => (f a, g a) := by
    induction L with
    | nil => rfl
    | cons a r ih => simp [ih fun b m => h b (List.mem_cons_of_mem _ m)]
  rw [e, Option.map_eq_none_iff, List.find?_eq_none]
  intro p hp
  obtain ⟨a, ha, rfl⟩ := List.mem_map.mp hp
  simpa using h a ha
theorem zip_maps (L : List α) (f : α → κ) (g : α → D) : (L.map f).zip (L.map g) = L.map fun a => (f a, g a) := by
  induction L with
  | nil => rfl
  | cons a r ih => simp [ih]
theorem look_some {L : List α} {f : α → κ} {g : α → D} {a : α} (ha : a ∈ L) (h : ∀ b ∈ L, f b = f a → g b = g a) : lookP (L.map f) (L.map g) (f a) = some (g a) := by
  unfold lookP
  rw [zip_maps]
  cases hf : (L.map fun a => (f a, g a)).find? fun p => decide (p.1 = f a) with
  | none =>
    rw [List.find?_eq_none] at hf
    exact absurd (by simp) (hf _ (List.mem_map.mpr ⟨a, ha, rfl⟩))
  | some p =>
    have h1 := List.find?_some hf
    have h2 := List.mem_of_find?_eq_some hf
    obtain ⟨b, hb, rfl⟩ := List.mem_map.mp h2
    simp only [decide_eq_true_eq] at h1
    show some (g b) = _
    rw [h b hb h1]
theorem put_new {L : List α} {f : α → κ} {g : α → D} {k : κ} {x : D} (h : ∀ a ∈ L, f a ≠ k) : putKs (L.map f) (L.map g) k x = L.map f ++ [k] ∧ putVs (L.map f) (L.map g) k x = L.map g ++ [x] := by
  have e : putG ((L.map f).zip (L.map g)) k x = (L.map fun a => (f a, g a)) ++ [(k, x)] := by
    unfold putG
    rw [zip_maps, if_neg]
    intro h2
    obtain ⟨p, hp, h3⟩ := List.any_eq_true.mp h2
    obtain ⟨a, ha, rfl⟩ := List.mem_map.mp hp
    exact h a ha (by simpa using h3)
  unfold putKs putVs
  rw [e]
  simp [List.map_map, Function.comp_def]
/-- a set, kept as a dict -/
def ins (L : List α) [DecidableEq α] (a : α) : List α := if a ∈ L then L else L ++ [a]
theorem put_set [DecidableEq α] {L : List α} {f : α → κ} {x : D} {a : α} (hf : ∀ a b, f a = f b → a = b) : putKs (L.map f) (L.map fun _ => x) (f a) x = (ins L a).map f ∧ putVs (L.map f) (L.map fun _ => x) (f a) x = (ins L a).map fun _ => x := by
  unfold ins
  by_cases h : a ∈ L
  · rw [if_pos h]
    have e : putG ((L.map f).zip (L.map fun _ => x)) (f a) x = L.map fun b => (f b, x) := by
      unfold putG
      rw [zip_maps, if_pos]
      · rw [List.map_map]
        refine List.map_congr_left fun b _ => ?_
        simp
      · rw [List.any_eq_true]
        exact ⟨(f a, x), List.mem_map.mpr ⟨a, h, rfl⟩, by simp⟩
    unfold putKs putVs
    rw [e]
    simp [List.map_map, Function.comp_def]
  · rw [if_neg h]
    have q := put_new (L := L) (f := f) (g := fun _ => x) (k := f a) (x := x) fun b hb e => h (hf _ _ e ▸ hb)
    rw [q.1, q.2]
    simp
theorem ins_mem [DecidableEq α] {L : List α} {a b : α} : b ∈ ins L a ↔ b ∈ L ∨ b = a := by
  unfold ins
  by_cases h : a ∈ L
  · rw [if_pos h]
    exact ⟨.inl, fun q => q.elim id fun e => e ▸ h⟩
  · rw [if_neg h, List.mem_append, List.mem_singleton]
theorem ins_len [DecidableEq α] {L : List α} {a : α} : (ins L a).length ≤ L.length + 1 := by
  unfold ins
  split
  · omega
  · simp
theorem ins_nodup [DecidableEq α] {L : List α} {a : α} (h : L.Nodup) : (ins L a).Nodup := by
  unfold ins
  split
  · exact h
  · rename_i h2
    rw [List.nodup_append]
    exact ⟨h, by simp, fun x hx y hy e => h2 (by rw [List.mem_singleton.mp hy] at e; exact e ▸ hx)⟩
end
theorem maxDI_eq {l : List Int} {M : Int} (h : ∀ x ∈ l, x ≤ M) (h2 : M ∈ l ∨ (l = [] ∧ M = 0)) : maxDI 0 l = M := by
  cases l with
  | nil =>
    rcases h2 with h2 | h2
    · cases h2
    · rw [h2.2]; rfl
  | cons n r =>
    show r.foldl max n = M
    have key : ∀ (r : List Int) (n : Int), n ≤ M → (∀ x ∈ r, x ≤ M) → (M = n ∨ M ∈ r) → r.foldl max n = M := fun r => by
      induction r with
      | nil =>
        intro n _ _ h
        rcases h with h | h
        · exact h.symm
        · cases h
      | cons a r ih =>
        intro n hn hr hm
        rw [List.foldl_cons]
        refine ih _ (Int.max_le.mpr ⟨hn, hr a List.mem_cons_self⟩) (fun x hx => hr x (List.mem_cons_of_mem _ hx)) ?_
        have ha := hr a List.mem_cons_self
        rcases hm with h | h
        · left; omega
        · rcases List.mem_cons.mp h with h | h
          · left; omega
          · exact .inr h
    refine key r n (h n List.mem_cons_self) (fun x hx => h x (List.mem_cons_of_mem _ hx)) ?_
    rcases h2 with h2 | h2
    · exact List.mem_cons.mp h2
    · cases h2.1
/-! ### ranges -/
theorem rngD_map (a : Int) (n : Nat) : rngD a n = (List.range n).map fun i : Nat => D.int (a + (i : Int)) := rfl
end DL

namespace DL
open PySem PySem.Spec PyProof.Rows L2
/-! ### names -/
def ltr : List Nat := (List.range 26).map (97 + ·)
theorem alpha_eq : ("abcdefghijklmnopqrstuvwxyz" : Str) = SX.S ltr := by decide +kernel
theorem nil_eq : ("" : Str) = SX.S [] := by decide +kernel
theorem p10_20 : gPow [.int 10, .int 20] = some (.int 100000000000000000000) := pow_eq (by decide) (by decide +kernel)
theorem ltr_at (i : Int) : atI ltr (i % 26) = some (97 + (i % 26).toNat) := by
  have h1 := Int.emod_nonneg i (show (26 : Int) ≠ 0 by decide)
  have h2 := Int.emod_lt_of_pos i (show (0 : Int) < 26 by decide)
  obtain ⟨j, hj⟩ := Int.eq_ofNat_of_zero_le h1
  rw [hj]
  have hj2 : j < 26 := by omega
  rw [atI_nat (j := j) (v := 97 + j)]
  · rfl
  · unfold ltr
    rw [List.getElem?_map, List.getElem?_range hj2]
    rfl
theorem ltr_len : ltr.length = 26 := by decide
theorem ix_letter (j : Nat) (h : j < 26) : fSIx (.str (SX.S ltr)) (.str ⟨#[97 + j]⟩) = some (.int (j : Int)) := by
  have key : ∀ j : Fin 26, (match Builtin.Str.occurrences (SX.S ltr) ⟨#[97 + j.1]⟩ 0 (SX.S ltr).length 1 with
    | i :: _ => i == j.1
    | [] => false) = true := by decide +kernel
  have k := key ⟨j, h⟩
  unfold fSIx
  simp only at k ⊢
  split
  · rename_i i l e
    rw [e] at k
    rw [beq_iff_eq.mp k]
  · rename_i e
    rw [e] at k
    cases k
def isLo (c : Nat) : Prop := 97 ≤ c ∧ c < 123
theorem strOk_of {l : List Nat} (h : ∀ c ∈ l, isLo c) : PyData.strOk (SX.S l) = true := by
  show (SX.S l).cps.all (fun c => decide (c < 0x110000)) = true
  simp only [SX.S, List.all_toArray, List.all_eq_true, decide_eq_true_eq]
  intro c hc
  have := h c hc
  unfold isLo at this
  omega
theorem okMoves : PyData.strOk "moves" = true := by decide +kernel
theorem okMovesa : PyData.strOk "movesa" = true := by decide +kernel
/-- a name, moves no name -/
def fixN (s : Str) : Str := if s = "moves" then "movesa" else s
theorem fixN_ok {s : Str} (h : PyData.strOk s = true) : PyData.strOk (fixN s) = true := by
  unfold fixN
  split
  · exact okMovesa
  · exact h
theorem fixN_inj {a b : Str} (hl : a.length = b.length) (h : fixN a = fixN b) : a = b := by
  have l1 : (("moves" : Str)).length = 5 := by decide +kernel
  have l2 : (("movesa" : Str)).length = 6 := by decide +kernel
  unfold fixN at h
  split at h
  · rename_i e1
    split at h
    · rename_i e2; rw [e1, e2]
    · rw [← h, e1, l1, l2] at hl; cases hl
  · split at h
    · rename_i e2; rw [h, e2, l1, l2] at hl; cases hl
    · exact h
/-! ### sorted texts, in order -/
theorem sortLe_pw {β : Type} (k : β → PyData) (l : List β) : (l.mergeSort (PySem.W.dataLe false k)).Pairwise fun a b => PySem.W.dataLe false k a b = true :=
  List.pairwise_mergeSort (PySem.W.sortLe_total _ _ _).trans (fun a b => by
    rcases (PySem.W.sortLe_total _ _ _).total a b with h | h
    · exact Bool.or_eq_true_iff.mpr (.inl h)
    · exact Bool.or_eq_true_iff.mpr (.inr h)) l
theorem le_strs (a b : Str) : PySem.W.dataLe false encD (.str a) (.str b) = decide (a.cps.toList ≤ b.cps.toList) := by
  show (!PySem.W.dataLt (.str b) (.str a)) = _
  rw [PySem.W.dataLt_str, PySem.W.not_lt_str]
theorem sort_strs2 (l : List Str) : ∃ l2 : List Str, fSorted (.lst (l.map .str)) = some (.lst (l2.map .str)) ∧ l2.Perm l ∧ l2.Pairwise fun a b => a.cps.toList ≤ b.cps.toList := by
  obtain ⟨l2, h1, h2⟩ := sort_strs l
  refine ⟨l2, h1, h2, ?_⟩
  rw [z_sorted] at h1
  unfold iff? at h1
  split at h1
  · have h3 : sortL (l.map D.str) = l2.map .str := by
      have := Option.some.inj h1
      injection this
    have h4 := sortLe_pw encD (l.map D.str)
    have h5 : ((l2.map D.str).Pairwise fun a b => PySem.W.dataLe false encD a b = true) := by
      rw [← h3]; exact h4
    rw [List.pairwise_map] at h5
    exact h5.imp fun {a b} h => by
      rw [le_strs] at h
      exact of_decide_eq_true h
  · cases h1
theorem sz_small {l : List Nat} (h : l.length ≤ 9) : (SX.S l).length ≤ 16777216 := by rw [SX.S_len]; omega
end DL

namespace DL
open PySem PySem.Spec PyProof.Rows L2
theorem cell_ok (ns : List Int) (k : Int) (h : 0 ≤ k) : fn_law_cell_at [.scr ns, .int k] = .ok (.int (cv ns k.toNat), []) := by
  obtain ⟨n, rfl⟩ := Int.eq_ofNat_of_zero_le h
  by_cases hn : n < ns.length
  · have e := scr_ix hn
    simp only [z_ixscr] at e
    simp [fn_law_cell_at, b_law_cell_at, hn, e]
  · have e : cv ns n = 0 := by simp [cv, List.getD_eq_getElem?_getD, List.getElem?_eq_none (Nat.le_of_not_lt hn)]
    simp [fn_law_cell_at, b_law_cell_at, hn, e]
/-! ### drawn rows of numbers -/
def stBody : Stm := (sSeq (sSet 3 (eP (hOp [.pur (hOp [.pur (hOp [.pur (hOp [.pur (hOp [.pur (hVar 3), .pur (hVar 3)] gMul), .pur (hOp [.pur (hC (.int 69069)), .pur (hVar 3)] gMul)] gAdd), .pur (hOp [.pur (hC (.int 5)), .pur (hVar 4)] gMul)] gAdd), .pur (hC (.int 1))] gAdd), .pur (hC (.int 2147483629))] gMod)))
  (sSeq (sExpr (isL 2 (eK (.io 2 (.fin [.pur (hOp [.pur (hVar 3), .pur (hC (.int 16))] gDiv)])) appK)))
  sNop))
theorem st_eq : b_law_stream = (sSeq (sSet 2 (eK (.fin []) (dspK .lst)))
  (sSeq (sSet 3 (eP (hOp [.pur (hOp [.pur (hVar 0), .pur (hC (.int 2147483629))] gMod), .pur (hC (.int 7))] gAdd)))
  (sSeq (sFor [.pur (hVar 1)] mkRange1 (bName 4) [4] stBody)
  (sSeq (sRet (eMov 2))
  sNop)))) := rfl
theorem mod_bd (y : Int) : 0 ≤ y % 2147483629 ∧ y % 2147483629 < 2147483629 := ⟨Int.emod_nonneg _ (by decide), Int.emod_lt_of_pos _ (by decide)⟩
theorem st_turn (cell count : Int) (l : List Int) (x : Int) (k : Nat) (h0 : 0 ≤ x) (h1 : x < 4294967296) (hk : k < 1000) (ll : l.length < 1000) : ∃ y v : Int, (0 ≤ y ∧ y < 2147483629) ∧ (0 ≤ v ∧ v < 2147483629) ∧ Turn1 (bName 4) [4] stBody (.int (k : Int)) [some (.brw, .int cell), some (.brw, .int count), some (.own, .lst (l.map .int)), some (.own, .int x), none] [some (.brw, .int cell), some (.brw, .int count), some (.own, .lst ((l ++ [v]).map .int)), some (.own, .int y), none] := by
  have m1 : MulOk x x := mulOk (j := 40) (k := 40) (by unfold Bd; omega) (by unfold Bd; omega)
  have m2 : MulOk 69069 x := mulOk (j := 40) (k := 40) (by unfold Bd; decide) (by unfold Bd; omega)
  have m3 : MulOk 5 (k : Int) := mulOk (j := 40) (k := 40) (by unfold Bd; decide) (by unfold Bd; omega)
  have ll2 : l.length < 16777216 := by omega
  have hb := mod_bd (x * x + 69069 * x + 5 * k + 1)
  have e : (x * x + 69069 * x + 5 * k + 1) % 2147483629 = (x * x + 69069 * x + 5 * k + 1) % 2147483629 := rfl
  generalize hy : (x * x + 69069 * x + 5 * k + 1) % 2147483629 = y at hb
  refine ⟨y, y / 16, hb, by omega, ?_⟩
  unfold Turn1 stBody
  simp [m1, m2, m3, ll2, hy]
theorem stream_ok (cell : Int) (count : Nat) (hc : count ≤ 100) : ∃ l : List Int, fn_law_stream [.int cell, .int count] = .ok (.lst (l.map .int), []) ∧ l.length = count ∧ ∀ v ∈ l, 0 ≤ v ∧ v < 2147483629 := by
  have hb := mod_bd cell
  have hir : inRng (count : Int) = true := inRng_of (by omega)
  generalize hx : cell % 2147483629 = x0 at hb
  obtain ⟨⟨l, x⟩, ⟨hI1, hI2, hI3⟩, hf⟩ := forD_exI (bd := bName 4) (cl := [4]) (body := stBody) (st := fun p : List Int × Int => [some (.brw, .int cell), some (.brw, .int count), some (.own, .lst (p.1.map .int)), some (.own, .int p.2), none]) (φ := fun k : Nat => D.int (k : Int)) (I := fun j p => p.1.length = j ∧ (∀ v ∈ p.1, 0 ≤ v ∧ v < 2147483629) ∧ 0 ≤ p.2 ∧ p.2 < 4294967296) (List.range count) 0 ([], x0 + 7) ⟨rfl, fun v h => (by cases h), by omega⟩ fun i p k hk hI => by
    obtain ⟨rfl, hkn⟩ := range_at hk
    obtain ⟨q1, q2, q3, q4⟩ := hI
    obtain ⟨y, v, hy, hv, hT⟩ := st_turn cell count p.1 p.2 k q3 q4 (by omega) (by omega)
    refine ⟨(p.1 ++ [v], y), ⟨by simp [q1], fun w hw => ?_, by omega⟩, hT⟩
    rcases List.mem_append.mp hw with h | h
    · exact q2 w h
    · rw [List.mem_singleton.mp h]; exact hv
  rw [List.length_range, Nat.zero_add] at hI1
  simp only [List.map_nil] at hf
  refine ⟨l, ?_, hI1, hI2⟩
  simp [fn_law_stream, st_eq, hir, rng_map, hf, hx]
/-! ### names -/
/-- the code point at place j of the name number k -/
def lt8 (c : Int) (t k j : Nat) : Nat := 97 + ((c / ((j : Int) + 64) + (j : Int) * j + (if j = t then (k : Int) else 0)) % 26).toNat
theorem lt8_lo (c : Int) (t k j : Nat) : isLo (lt8 c t k j) := by
  have h1 := Int.emod_nonneg (c / ((j : Int) + 64) + (j : Int) * j + (if j = t then (k : Int) else 0)) (show (26 : Int) ≠ 0 by decide)
  have h2 := Int.emod_lt_of_pos (c / ((j : Int) + 64) + (j : Int) * j + (if j = t then (k : Int) else 0)) (show (0 : Int) < 26 by decide)
  unfold lt8 isLo
  omega
def nm8 (c : Int) (n t k : Nat) : Str := fixN (SX.S ((List.range n).map (lt8 c t k)))
def nmIn : Stm := (sSeq (sSet 9 (eP (hOp [.pur (hOp [.pur (hVar 0), .pur (hOp [.pur (hVar 8), .pur (hC (.int 64))] gAdd)] gDiv), .pur (hOp [.pur (hVar 8), .pur (hVar 8)] gMul)] gAdd)))
  (sSeq (sIf (hB (hOp [.pur (hVar 8), .pur (hVar 4)] gEq)) (sSeq (sSet 9 (eP (hOp [.pur (hVar 9), .pur (hVar 6)] gAdd)))
  sNop) sNop)
  (sSeq (sSet 7 (eP (hOp [.pur (hVar 7), .pur (hOp [.pur (hVar 2), .pur (hOp [.pur (hVar 9), .pur (hC (.int 26))] gMod)] gIx)] gAdd)))
  sNop)))
def nmOut (m1 m2 : Str) : Stm := (sSeq (sSet 7 (eP (hC (.str ""))))
  (sSeq (sFor [.pur (hVar 3)] mkRange1 (bName 8) [8, 9] nmIn)
  (sSeq (sIf (hB (hOp [.pur (hVar 7), .pur (hC (.str m1))] gEq)) (sSeq (sSet 7 (eP (hC (.str m2))))
  sNop) sNop)
  (sSeq (sExpr (isL 5 (eK (.io 5 (.fin [.pur (hVar 7)])) appK)))
  sNop))))
theorem nm_eq : b_law_names = (sSeq (sSet 2 (eP (hC (.str "abcdefghijklmnopqrstuvwxyz"))))
  (sSeq (sSet 3 (eP (hOp [.pur (hC (.int 1)), .pur (hOp [.pur (hVar 0), .pur (hC (.int 8))] gMod)] gAdd)))
  (sSeq (sSet 4 (eP (hOp [.pur (hOp [.pur (hVar 0), .pur (hC (.int 8))] gDiv), .pur (hVar 3)] gMod)))
  (sSeq (sSet 5 (eK (.fin []) (dspK .lst)))
  (sSeq (sFor [.pur (hVar 1)] mkRange1 (bName 6) [6, 7, 8, 9] (nmOut "moves" "movesa"))
  (sSeq (sRet (eOp (.fin [.plc 5 (pVar 5)]) gSorted))
  sNop)))))) := rfl
abbrev nm8St (c : Int) (cnt : Int) (A : Str) (n t : Int) (l : List Str) (s6 s7 s8 : Slot) : DEnv := [some (.brw, .int c), some (.brw, .int cnt), some (.own, .str A), some (.own, .int n), some (.own, .int t), some (.own, .lst (l.map .str)), s6, s7, s8, none]
theorem nmIn_turn {c cnt n x : Int} {A s r K : Str} {t k j : Nat} {ch : Nat} {l : List Str} (hj : j < 100)
    (hx : (c / ((j : Int) + 64) + (j : Int) * j + (if j = t then (k : Int) else 0)) % 26 = x) (h1 : atI A.cps.toList x = some ch) (hA : A.length ≤ 16777216) (hK : (⟨#[ch]⟩ : Str) = K) (h6 : s.length + K.length ≤ 16777216) (h7 : s ++ K = r) :
    Turn1 (bName 8) [8, 9] nmIn (.int (j : Int)) (nm8St c cnt A n t l (some (.own, .int k)) (some (.own, .str s)) none) (nm8St c cnt A n t l (some (.own, .int k)) (some (.own, .str r)) none) := by
  have m1 : MulOk (j : Int) (j : Int) := mulOk (j := 40) (k := 40) (by unfold Bd; omega) (by unfold Bd; omega)
  have p1 : (0 : Int) < (j : Int) + 64 := by omega
  have p2 : ((j : Int) + 64).natAbs < 18446744073709551616 := by omega
  have l9 := log_9000 p2
  unfold Turn1 nmIn
  by_cases h : j = t
  · subst h
    rw [if_pos rfl] at hx
    simp [m1, p1, l9, h1, hA, hK, h6, h7, hx]
  · rw [if_neg h, Int.add_zero] at hx
    have h2 : ¬ (j : Int) = (t : Int) := by omega
    simp [m1, p1, l9, h1, hA, hK, h6, h7, hx, h2]
theorem nm8_raw (c : Int) (n t k : Nat) : PyData.strOk (SX.S ((List.range n).map (lt8 c t k))) = true := strOk_of fun x hx => by
  obtain ⟨j, _, rfl⟩ := List.mem_map.mp hx
  exact lt8_lo c t k j
theorem nm8_inj {c : Int} {n t j k : Nat} (ht : t < n) (hj : j < 26) (hk : k < 26) (h : nm8 c n t j = nm8 c n t k) : j = k := by
  have h1 := SX.S_inj (fixN_inj (by rw [SX.S_len, SX.S_len]; simp) h)
  have h2 : lt8 c t j t = lt8 c t k t := by
    have := congrArg (fun l => l[t]?) h1
    simpa [List.getElem?_map, List.getElem?_range ht] using this
  unfold lt8 at h2
  rw [if_pos rfl, if_pos rfl] at h2
  generalize c / ((t : Int) + 64) + (t : Int) * t = y at h2
  omega
theorem names_ok (cell : Int) (count : Nat) (hc : count ≤ 5) : ∃ names : List Str, fn_law_names [.int cell, .int count] = .ok (.lst (names.map .str), []) ∧ names.length = count ∧ names.Nodup ∧ (∀ s ∈ names, PyData.strOk s = true) ∧ names.Pairwise fun a b => a.cps.toList ≤ b.cps.toList := by
  obtain ⟨n, hn, hn1⟩ : ∃ n : Nat, 1 + cell % 8 = (n : Int) ∧ 1 ≤ n ∧ n ≤ 8 := ⟨(1 + cell % 8).toNat, by omega, by omega⟩
  obtain ⟨t, ht⟩ : ∃ t : Nat, cell / 8 % (n : Int) = (t : Int) := ⟨(cell / 8 % (n : Int)).toNat, by
    have := Int.emod_nonneg (cell / 8) (show (n : Int) ≠ 0 by omega)
    omega⟩
  have htl : t < n := by
    have := Int.emod_lt_of_pos (cell / 8) (show (0 : Int) < n by omega)
    omega
  have s2 : (SX.S ltr).length ≤ 16777216 := by rw [SX.S_len, ltr_len]; decide
  have hnr : inRng (n : Int) = true := inRng_of (by omega)
  have hcr : inRng (count : Int) = true := inRng_of (by omega)
  have hf := forD_foldI (bd := bName 6) (cl := [6, 7, 8, 9]) (body := nmOut "moves" "movesa") (st := fun l : List Str => nm8St cell count (SX.S ltr) n t l none none none) (f := fun l k => l ++ [nm8 cell n t k]) (φ := fun k : Nat => D.int (k : Int)) (I := fun j l => l.length = j) (List.range count) 0 [] rfl fun j l k hk hI => by
    obtain ⟨rfl, hkn⟩ := range_at hk
    refine ⟨by simp [hI], ?_⟩
    have ll : l.length < 16777216 := by omega
    have hin := forD_foldI (bd := bName 8) (cl := [8, 9]) (body := nmIn) (st := fun b : List Nat => nm8St cell count (SX.S ltr) n t l (some (.own, .int k)) (some (.own, .str (SX.S b))) none) (f := fun b j => b ++ [lt8 cell t k j]) (φ := fun j : Nat => D.int (j : Int)) (I := fun j b => b.length = j) (List.range n) 0 [] rfl fun i b j hj hb => by
      obtain ⟨rfl, hjn⟩ := range_at hj
      refine ⟨by simp [hb], ?_⟩
      have e := ltr_at (cell / ((j : Int) + 64) + (j : Int) * j + (if j = t then (k : Int) else 0))
      have s4 : (⟨#[lt8 cell t k j]⟩ : Str).length = 1 := rfl
      exact nmIn_turn (by omega) rfl e s2 rfl (by rw [SX.S_len]; show _ + 1 ≤ _; omega) (SX.S_cat b [_])
    obtain ⟨hin, _⟩ := hin
    rw [foldl_push, List.nil_append] at hin
    dsimp only [nm8St] at hin
    have hok := nm8_raw cell n t k
    have hlen : (SX.S ((List.range n).map (lt8 cell t k))).length ≤ 16777216 := by rw [SX.S_len]; simp; omega
    have hnm : nm8 cell n t k = fixN (SX.S ((List.range n).map (lt8 cell t k))) := rfl
    rw [hnm]
    generalize SX.S ((List.range n).map (lt8 cell t k)) = R at hin hok hlen
    have eq := eq_str hok okMoves
    have ne : SX.S [] = ("" : Str) := nil_eq.symm
    rw [ne] at hin
    unfold Turn1 nmOut fixN
    by_cases hR : R = "moves"
    · have eq2 := eq_str okMoves okMoves
      simp [hnr, rng_map, hin, eq2, hR, ll]
    · simp [hnr, rng_map, hin, eq, hR, ll]
  obtain ⟨hf, _⟩ := hf
  rw [foldl_push, List.nil_append] at hf
  dsimp only [nm8St] at hf
  simp only [List.map_nil] at hf
  obtain ⟨l2, hs1, hs2, hs3⟩ := sort_strs2 ((List.range count).map (nm8 cell n t))
  refine ⟨l2, ?_, by rw [hs2.length_eq]; simp, ?_, fun s hs => ?_, hs3⟩
  · clear hs2 hs3
    generalize (List.range count).map (nm8 cell n t) = raw at hf hs1
    have hn0 : 0 < n := by omega
    have hnl2 : n.log2 < 9000 := log_9000 (by omega)
    have hnl : (n : Int).natAbs.log2 < 9000 := log_9000 (by omega)
    simp [fn_law_names, nm_eq, alpha_eq, hn, ht, hcr, rng_map, hf, hs1, hn0, hnl, hnl2]
  · refine hs2.nodup_iff.mpr ?_
    rw [List.nodup_iff_pairwise_ne, List.pairwise_map]
    refine List.Pairwise.imp_of_mem (fun {x y} hx hy hne he => hne ?_) List.nodup_range
    exact nm8_inj htl (by have := List.mem_range.mp hx; omega) (by have := List.mem_range.mp hy; omega) he
  · obtain ⟨k, hk, rfl⟩ := List.mem_map.mp (hs2.mem_iff.mp hs)
    exact fixN_ok (nm8_raw cell n t k)
end DL

namespace DL
open PySem PySem.Spec PyProof.Rows L2
/-! ### charts -/
abbrev Arc := Nat × Str × Nat
def arcK (x : Arc) : List Key := [.inl (x.1 : Int), .inr x.2.1, .inl (x.2.2 : Int)]
abbrev arcD (x : Arc) : D := .tup [.int x.1, .str x.2.1, .int x.2.2]
theorem arcK_D (x : Arc) : toKsD (arcK x) = arcD x := rfl
theorem arcK_inj (a b : Arc) (h : arcK a = arcK b) : a = b := by
  unfold arcK at h
  simp only [List.cons.injEq, Sum.inl.injEq, Sum.inr.injEq, and_true] at h
  obtain ⟨h1, h2, h3⟩ := h
  exact Prod.ext (by omega) (Prod.ext h2 (by show a.2.2 = b.2.2; omega))
abbrev chD (fl : Bool) (names : List Str) (B : List Arc) : D := .tup [.tupF fl (names.map .str), .lst (B.map arcD)]
/-- come to from 0 -/
inductive Rch (B : List Arc) : Nat → Prop
  | zero : Rch B 0
  | arc {x : Arc} : x ∈ B → Rch B x.1 → Rch B x.2.2
theorem Rch.mono {A B : List Arc} (h : ∀ x ∈ A, x ∈ B) {s : Nat} (r : Rch A s) : Rch B s := by
  induction r with
  | zero => exact .zero
  | arc hx _ ih => exact .arc (h _ hx) ih
structure ChOk (many : Nat) (names : List Str) (B : List Arc) : Prop where
  m1 : 1 ≤ many
  m2 : many ≤ 12
  ln : names.length ≤ 5
  nn : names.Nodup
  ok : ∀ s ∈ names, PyData.strOk s = true
  lb : B.length ≤ 1000
  bn : B.Nodup
  arcs : ∀ x ∈ B, x.1 < many ∧ x.2.1 ∈ names ∧ x.2.2 < many
  rch : ∀ s, s < many → Rch B s
  ns : names.Pairwise fun a b => a.cps.toList ≤ b.cps.toList
  bs : B.Pairwise fun x y => x.1 = y.1 → x.2.1.cps.toList ≤ y.2.1.cps.toList
/-! ### the arcs, sorted -/
theorem alike_arc (a b : Arc) : PySem.W.alike (keyPy (arcK a)) (keyPy (arcK b)) = true := rfl
theorem arc_le {x y : Arc} (h : PySem.W.dataLe false keyPy (arcK x) (arcK y) = true) (e : x.1 = y.1) : x.2.1.cps.toList ≤ y.2.1.cps.toList := by
  replace h : (!PySem.W.dataLt (.tuple [.int (y.1 : Int), .str y.2.1, .int (y.2.2 : Int)]) (.tuple [.int (x.1 : Int), .str x.2.1, .int (x.2.2 : Int)])) = true := h
  refine Classical.byContradiction fun hn => ?_
  have hlt : y.2.1.cps.toList < x.2.1.cps.toList := List.not_le.mp hn
  have hne : ¬ y.2.1 = x.2.1 := fun z => by
    rw [z] at hlt
    exact List.lt_irrefl _ hlt
  rw [PySem.W.dataLt_tuple, PySem.W.dataLt_cons (by simp [PySem.W.alike]), PySem.W.dataLt_cons (by simp [PySem.W.alike]), PySem.W.dataLt_str, e] at h
  simp only [PyData.eqv, beq_self_eq_true, if_true, beq_iff_eq, hne, if_false, decide_eq_true hlt, Bool.not_true] at h
  cases h
theorem sort_arcs (A : List Arc) : ∃ B : List Arc, fSortD (.dt (A.map arcK) (A.map fun _ => .bl true)) = some (.lst (B.map arcD)) ∧ B.Perm A ∧ B.Pairwise fun x y => x.1 = y.1 → x.2.1.cps.toList ≤ y.2.1.cps.toList := by
  have hs : sortB ((A.map arcK).map keyPy) = true := by
    unfold sortB
    simp only [List.map_map, List.all_map, Bool.and_eq_true, Bool.or_eq_true, List.all_eq_true, Function.comp]
    exact ⟨⟨fun a _ b _ => alike_arc a b, .inl fun a _ => rfl⟩, fun a _ => rfl⟩
  have hp : ((A.map arcK).mergeSort (PySem.W.dataLe false keyPy)).Perm (A.map arcK) := List.mergeSort_perm _ _
  have hpw := sortLe_pw keyPy (A.map arcK)
  have key : ∀ ds : List (List Key), (∀ d ∈ ds, ∃ s, d = arcK s) → ∃ l2 : List Arc, ds = l2.map arcK := fun ds => by
    induction ds with
    | nil => intro _; exact ⟨[], rfl⟩
    | cons d r ih =>
      intro h
      obtain ⟨s, rfl⟩ := h d List.mem_cons_self
      obtain ⟨l2, rfl⟩ := ih fun e m => h e (List.mem_cons_of_mem _ m)
      exact ⟨s :: l2, rfl⟩
  obtain ⟨B, hB⟩ := key _ fun d m => by
    obtain ⟨s, _, rfl⟩ := List.mem_map.mp (hp.mem_iff.mp m)
    exact ⟨s, rfl⟩
  refine ⟨B, ?_, ?_, ?_⟩
  · rw [z_sortd, hB, iff?_pos hs, List.map_map]
    rfl
  · rw [hB] at hp
    have := hp.map (fun d => match d with
      | [.inl a, .inr m, .inl b] => (a.toNat, m, b.toNat)
      | _ => ((0, default, 0) : Arc))
    simpa [List.map_map, Function.comp_def, arcK] using this
  · rw [hB, List.pairwise_map] at hpw
    exact hpw.imp fun {x y} h e => arc_le h e
end DL

namespace DL
open PySem PySem.Spec PyProof.Rows L2
/-! ### a row from which is taken at the end -/
def rv (r : List Int) : List D := r.reverse.map D.int
theorem rv_of (l : List Int) : l.map D.int = rv l.reverse := by unfold rv; rw [List.reverse_reverse]
@[simp high] theorem pop_rv (v : Int) (r : List Int) (env : DEnv) : popK [.lst (rv (v :: r))] env = .ok (.int v, [.lst (rv r)], env) := by
  rw [z_pop]
  unfold rv
  simp
theorem rv_len (r : List Int) : (rv r).length = r.length := by unfold rv; simp
/-- all from 0 on -/
def NN (r : List Int) : Prop := ∀ v ∈ r, 0 ≤ v ∧ v < 2147483629
theorem NN.tl {v : Int} {r : List Int} (h : NN (v :: r)) : NN r := fun w hw => h w (List.mem_cons_of_mem _ hw)
theorem NN.hd {v : Int} {r : List Int} (h : NN (v :: r)) : 0 ≤ v := (h v List.mem_cons_self).1
theorem rv_pop {r : List Int} (h : 0 < r.length) : ∃ v r', r = v :: r' := by
  match r, h with
  | v :: r', _ => exact ⟨v, r', rfl⟩
/-! ### arcs, sorted -/
theorem enc_arc (x : Arc) : encD (arcD x) = .tuple [.int (x.1 : Int), .str x.2.1, .int (x.2.2 : Int)] := rfl
theorem arc_leL {x y : Arc} (h : PySem.W.dataLe false encD (arcD x) (arcD y) = true) (e : x.1 = y.1) : x.2.1.cps.toList ≤ y.2.1.cps.toList :=
  arc_le (x := x) (y := y) h e
theorem sort_arcsL (A : List Arc) : ∃ B : List Arc, fSorted (.lst (A.map arcD)) = some (.lst (B.map arcD)) ∧ B.Perm A ∧ B.Pairwise fun x y => x.1 = y.1 → x.2.1.cps.toList ≤ y.2.1.cps.toList := by
  have hp : (sortL (A.map arcD)).Perm (A.map arcD) := sortL_perm _
  have hpw := sortLe_pw encD (A.map arcD)
  have key : ∀ ds : List D, (∀ d ∈ ds, ∃ s, d = arcD s) → ∃ l2 : List Arc, ds = l2.map arcD := fun ds => by
    induction ds with
    | nil => intro _; exact ⟨[], rfl⟩
    | cons d r ih =>
      intro h
      obtain ⟨s, rfl⟩ := h d List.mem_cons_self
      obtain ⟨l2, rfl⟩ := ih fun e m => h e (List.mem_cons_of_mem _ m)
      exact ⟨s :: l2, rfl⟩
  obtain ⟨B, hB⟩ := key _ fun d m => by
    obtain ⟨s, _, rfl⟩ := List.mem_map.mp (hp.mem_iff.mp m)
    exact ⟨s, rfl⟩
  refine ⟨B, ?_, ?_, ?_⟩
  · rw [z_sorted, hB, iff?_pos]
    refine ⟨pureL_map (φ := fun x : Arc => arcD x) (fun _ => rfl) A, ?_, ?_⟩
    · simp [D.py, D.pyL]
    · unfold sortB
      simp only [List.map_map, List.all_map, Bool.and_eq_true, Bool.or_eq_true, List.all_eq_true, Function.comp]
      exact ⟨⟨fun a _ b _ => rfl, .inl fun a _ => rfl⟩, fun a _ => rfl⟩
  · rw [hB] at hp
    have := hp.map (fun d => match d with
      | D.tupF _ [.int a, .str m, .int b] => (a.toNat, m, b.toNat)
      | _ => ((0, default, 0) : Arc))
    simpa [List.map_map, Function.comp_def] using this
  · have hpw2 : (B.map arcD).Pairwise fun a b => PySem.W.dataLe false encD a b = true := by rw [← hB]; exact hpw
    rw [List.pairwise_map] at hpw2
    exact hpw2.imp fun {x y} h e => arc_leL h e
/-! ### items of a list, found -/
theorem EqOk.lix {α : Type} [DecidableEq α] {φ : α → D} {n : Nat} (h : EqOk φ n) (a : α) (xs : List α) (hn : n ≤ 63) : fLIx (.lst (xs.map φ)) (φ a) = (xs.findIdx? fun x => decide (x = a)).map fun (j : Nat) => D.int (j : Int) := by
  obtain ⟨ps, e1, c1, d1⟩ := h.items xs
  obtain ⟨p, e2, c2, d2⟩ := h.py a
  have h1 : SeqAt.shaped (.list ps) = true := shaped_of (n := n + 1) (by rw [PyData.canLay0]; exact c1) (by rw [PyData.depth]; omega) (by omega)
  have h2 : SeqAt.shaped p = true := shaped_of c2 d2 (by omega)
  unfold fLIx
  simp only [e1, e2, Option.bind_some]
  rw [if_pos ⟨h1, h2⟩]
  congr 1
  clear h1 c1 d1
  induction xs generalizing ps with
  | nil => cases e1; rfl
  | cons x r ih =>
    obtain ⟨qx, ex, _⟩ := h.py x
    obtain ⟨qr, er, _⟩ := h.items r
    have : D.pyL ((x :: r).map φ) = some (qx :: qr) := by
      show (match (φ x).py, D.pyL (r.map φ) with | some p, some q => some (p :: q) | _, _ => none) = _
      rw [ex, er]
    rw [this] at e1
    cases e1
    rw [List.findIdx?_cons, List.findIdx?_cons, h.eqv x a _ _ ex e2, ih qr er]
/-! ### what is come to -/
def ctIn : Stm := (sSeq (sIf (hB (hOp [.pur (hVar 3), .plc 1 (pVar 1)] gDIn)) (sSeq (sExpr (eK (.pur (hC (.bl true)) (.io 1 (.fin [.pur (hVar 5)]))) setDK))
  sNop) sNop)
  sNop)
def ctOut : Stm := (sSeq (sFor [.plc 0 (pVar 0)] mkSeq (bTup (bCons (bName 3) (bCons (bName 4) (bCons (bName 5) bNil)))) [3, 4, 5] ctIn)
  sNop)
theorem ct_eq : b_law_come_to = (sSeq (sSet 1 (eOp (.fin []) (gOne (.inl 0) (.bl true))))
  (sSeq (sFor [.pur (hOp [.plc 0 (pVar 0)] gLen)] mkRange1 (bName 2) [2, 3, 4, 5] ctOut)
  (sSeq (sRet (eMov 1))
  sNop))) := rfl
def ctStep (S : List Nat) (x : Arc) : List Nat := if x.1 ∈ S then ins S x.2.2 else S
abbrev kN (s : Nat) : Key := .inl (s : Int)
abbrev ctSt (B : List Arc) (S : List Nat) (s : Slot) : DEnv := [some (.brw, .lst (B.map arcD)), some (.own, .dk (S.map kN) (S.map fun _ => .bl true)), s, none, none, none]
theorem kN_inj (a b : Nat) (h : kN a = kN b) : a = b := by
  have h : ((a : Int)) = b := Sum.inl.inj h
  omega
theorem ct_look {S : List Nat} (s : Nat) : (lookP (S.map kN) (S.map fun _ => D.bl true) (.inl (s : Int))).isSome = decide (s ∈ S) := by
  by_cases h : s ∈ S
  · have := look_some (f := kN) (g := fun _ => D.bl true) h fun b hb q => rfl
    rw [show (Sum.inl (s : Int) : Key) = kN s from rfl, this, decide_eq_true h]
    rfl
  · have := look_none (L := S) (f := kN) (g := fun _ => D.bl true) (k := Sum.inl (s : Int)) fun a ha e => h (kN_inj a s e ▸ ha)
    rw [this, decide_eq_false h]
    rfl
theorem ct_turn (B : List Arc) (S : List Nat) (k : Int) (x : Arc) (hl : S.length < 1000) : Turn1 (bTup (bCons (bName 3) (bCons (bName 4) (bCons (bName 5) bNil)))) [3, 4, 5] ctIn (arcD x) (ctSt B S (some (.own, .int k))) (ctSt B (ctStep S x) (some (.own, .int k))) := by
  obtain ⟨a, m, b⟩ := x
  have hk := ct_look (S := S) a
  have hpl : D.pureL (S.map fun _ => D.bl true) = true := pureL_map (fun _ => rfl) S
  have hkl : (S.map kN).length < 16777216 := by rw [List.length_map]; omega
  have hp := put_set (L := S) (f := kN) (x := .bl true) (a := b) kN_inj
  unfold ctStep
  by_cases h : a ∈ S
  · rw [if_pos h]
    rw [decide_eq_true h] at hk
    dsimp only [ctSt]
    rw [← hp.1, ← hp.2]
    clear hp h
    generalize S.map kN = ks at *
    generalize (S.map fun _ => D.bl true) = vs at *
    generalize B.map arcD = BD at *
    unfold Turn1 ctIn
    simp [hk, hpl, hkl]
  · rw [if_neg h]
    rw [decide_eq_false h] at hk
    dsimp only [ctSt]
    clear hp h
    generalize S.map kN = ks at *
    generalize (S.map fun _ => D.bl true) = vs at *
    generalize B.map arcD = BD at *
    unfold Turn1 ctIn
    simp [hk]
def ctPass (B : List Arc) (S : List Nat) : List Nat := B.foldl ctStep S
def ctAll (B : List Arc) : List Nat := (List.range B.length).foldl (fun S _ => ctPass B S) [0]
theorem ctStep_mem {S : List Nat} {x : Arc} {s : Nat} (h : s ∈ S) : s ∈ ctStep S x := by
  unfold ctStep
  split
  · exact ins_mem.mpr (.inl h)
  · exact h
theorem ctPass_mem {S : List Nat} {s : Nat} : ∀ {B : List Arc}, s ∈ S → s ∈ ctPass B S := by
  intro B
  unfold ctPass
  induction B generalizing S with
  | nil => exact id
  | cons x r ih => exact fun h => ih (ctStep_mem h)
/-- what is in the set: 0, and ends of arcs -/
def CtI (B : List Arc) (S : List Nat) : Prop := S.Nodup ∧ (∀ s ∈ S, Rch B s) ∧ ∀ s ∈ S, s = 0 ∨ ∃ x ∈ B, x.2.2 = s
theorem CtI.step {B : List Arc} {S : List Nat} {x : Arc} (h : CtI B S) (hx : x ∈ B) : CtI B (ctStep S x) := by
  unfold ctStep
  split
  · rename_i h1
    refine ⟨ins_nodup h.1, fun s hs => ?_, fun s hs => ?_⟩
    · rcases ins_mem.mp hs with q | rfl
      · exact h.2.1 s q
      · exact .arc hx (h.2.1 _ h1)
    · rcases ins_mem.mp hs with q | rfl
      · exact h.2.2 s q
      · exact .inr ⟨x, hx, rfl⟩
  · exact h
theorem CtI.pass {B : List Arc} : ∀ (L : List Arc) {S : List Nat}, CtI B S → (∀ x ∈ L, x ∈ B) → CtI B (ctPass L S)
  | [], _, h, _ => h
  | x :: L, S, h, hL => CtI.pass L (h.step (hL x List.mem_cons_self)) fun y hy => hL y (List.mem_cons_of_mem _ hy)
theorem CtI.start (B : List Arc) : CtI B [0] := ⟨by simp, fun s hs => by rw [List.mem_singleton.mp hs]; exact .zero, fun s hs => .inl (List.mem_singleton.mp hs)⟩
theorem nodup_subN : ∀ {l1 l2 : List Nat}, l1.Nodup → (∀ x ∈ l1, x ∈ l2) → l1.length ≤ l2.length
  | [], l2, _, _ => Nat.zero_le _
  | a :: r, l2, h, hs => by
    have h1 := List.nodup_cons.mp h
    have ha := hs a List.mem_cons_self
    have q := nodup_subN (l1 := r) (l2 := l2.erase a) h1.2 fun x hx => (List.mem_erase_of_ne (by intro e; subst e; exact h1.1 hx)).mpr (hs x (List.mem_cons_of_mem _ hx))
    rw [List.length_erase_of_mem ha] at q
    have := List.length_pos_of_mem ha
    rw [List.length_cons]
    omega
theorem CtI.len {B : List Arc} {S : List Nat} (h : CtI B S) : S.length ≤ B.length + 1 := by
  have := nodup_subN (l2 := 0 :: B.map (·.2.2)) h.1 fun s hs => by
    rcases h.2.2 s hs with rfl | ⟨x, hx, rfl⟩
    · exact List.mem_cons_self
    · exact List.mem_cons_of_mem _ (List.mem_map.mpr ⟨x, hx, rfl⟩)
  simpa using this
/-- closed under the arcs -/
def Clo (B : List Arc) (S : List Nat) : Prop := ∀ x ∈ B, x.1 ∈ S → x.2.2 ∈ S
theorem ctStep_same {S : List Nat} {x : Arc} (h : x.1 ∈ S → x.2.2 ∈ S) : ctStep S x = S := by
  unfold ctStep
  split
  · rename_i h1
    unfold ins
    rw [if_pos (h h1)]
  · rfl
theorem ctPass_same {S : List Nat} : ∀ {L : List Arc}, (∀ x ∈ L, x.1 ∈ S → x.2.2 ∈ S) → ctPass L S = S
  | [], _ => rfl
  | x :: L, h => by
    show ctPass L (ctStep S x) = S
    rw [ctStep_same (h x List.mem_cons_self)]
    exact ctPass_same fun y hy => h y (List.mem_cons_of_mem _ hy)
theorem ctPass_len {S : List Nat} : ∀ {L : List Arc}, S.length ≤ (ctPass L S).length := by
  intro L
  induction L generalizing S with
  | nil => exact Nat.le_refl _
  | cons x r ih =>
    refine Nat.le_trans ?_ (ih (S := ctStep S x))
    unfold ctStep
    split
    · unfold ins
      split
      · exact Nat.le_refl _
      · simp
    · exact Nat.le_refl _
theorem ctPass_grow {S : List Nat} : ∀ {L : List Arc}, ¬ (∀ x ∈ L, x.1 ∈ S → x.2.2 ∈ S) → S.length + 1 ≤ (ctPass L S).length := by
  intro L
  induction L generalizing S with
  | nil => intro h; exact absurd (fun x hx => by cases hx) h
  | cons x r ih =>
    intro h
    show S.length + 1 ≤ (ctPass r (ctStep S x)).length
    by_cases h1 : x.1 ∈ S → x.2.2 ∈ S
    · rw [ctStep_same h1]
      exact ih fun h2 => h fun y hy => (List.mem_cons.mp hy).elim (fun e => e ▸ h1) (h2 y)
    · have h2 : x.1 ∈ S ∧ x.2.2 ∉ S := by
        by_cases a : x.1 ∈ S
        · exact ⟨a, fun b => h1 fun _ => b⟩
        · exact absurd (fun z => absurd z a) h1
      have h3 : (ctStep S x).length = S.length + 1 := by
        unfold ctStep ins
        rw [if_pos h2.1, if_neg h2.2]; simp
      have := ctPass_len (S := ctStep S x) (L := r)
      omega
theorem ct_iter (B : List Arc) : ∀ n, CtI B ((List.range n).foldl (fun S _ => ctPass B S) [0]) ∧ (Clo B ((List.range n).foldl (fun S _ => ctPass B S) [0]) ∨ n + 1 ≤ ((List.range n).foldl (fun S _ => ctPass B S) [0]).length)
  | 0 => ⟨CtI.start B, .inr (by simp)⟩
  | n + 1 => by
    obtain ⟨h1, h2⟩ := ct_iter B n
    rw [List.range_succ, List.foldl_append]
    simp only [List.foldl_cons, List.foldl_nil]
    generalize (List.range n).foldl (fun S _ => ctPass B S) [0] = S at *
    refine ⟨CtI.pass B h1 fun _ h => h, ?_⟩
    by_cases hc : Clo B S
    · left
      rw [ctPass_same hc]
      exact hc
    · right
      have := ctPass_grow (S := S) (L := B) hc
      rcases h2 with h2 | h2
      · exact absurd h2 hc
      · omega
theorem ctAll_I (B : List Arc) : CtI B (ctAll B) := (ct_iter B B.length).1
theorem ctAll_zero (B : List Arc) : 0 ∈ ctAll B := by
  have key : ∀ n, 0 ∈ (List.range n).foldl (fun S _ => ctPass B S) [0] := fun n => by
    induction n with
    | zero => simp
    | succ n ih =>
      rw [List.range_succ, List.foldl_append]
      exact ctPass_mem ih
  exact key _
theorem ctAll_clo (B : List Arc) : Clo B (ctAll B) := by
  obtain ⟨h1, h2⟩ := ct_iter B B.length
  show Clo B ((List.range B.length).foldl (fun S _ => ctPass B S) [0])
  generalize hS : (List.range B.length).foldl (fun S _ => ctPass B S) [0] = S at *
  rcases h2 with h2 | h2
  · exact h2
  · -- as many as there are ends: each end is in it
    intro x hx _
    refine Classical.byContradiction fun hn => ?_
    have := nodup_subN (l1 := S) (l2 := 0 :: (B.erase x).map (·.2.2)) h1.1 fun s hs => by
      rcases h1.2.2 s hs with rfl | ⟨y, hy, rfl⟩
      · exact List.mem_cons_self
      · refine List.mem_cons_of_mem _ (List.mem_map.mpr ⟨y, ?_, rfl⟩)
        refine (List.mem_erase_of_ne fun e => ?_).mpr hy
        rw [e] at hs
        exact hn hs
    have hl := List.length_erase_of_mem hx
    have := List.length_pos_of_mem hx
    simp only [List.length_cons, List.length_map] at *
    omega
theorem ctAll_mem (B : List Arc) {s : Nat} : s ∈ ctAll B ↔ Rch B s := ⟨fun h => (ctAll_I B).2.1 s h, fun h => by
  induction h with
  | zero => exact ctAll_zero B
  | arc hx _ ih => exact ctAll_clo B _ hx ih⟩
theorem come_ok (B : List Arc) (hl : B.length ≤ 100) : fn_law_come_to [.lst (B.map arcD)] = .ok (.dk ((ctAll B).map kN) ((ctAll B).map fun _ => .bl true), []) := by
  have hf := forD_foldI (bd := bName 2) (cl := [2, 3, 4, 5]) (body := ctOut) (st := fun S : List Nat => ctSt B S none) (f := fun S _ => ctPass B S) (φ := fun k : Nat => D.int (k : Int)) (I := fun j S => CtI B S) (List.range B.length) 0 [0] (CtI.start B) fun j S k hk hI => by
    refine ⟨CtI.pass B hI fun _ h => h, ?_⟩
    have hin := forD_foldI (bd := bTup (bCons (bName 3) (bCons (bName 4) (bCons (bName 5) bNil)))) (cl := [3, 4, 5]) (body := ctIn) (st := fun S : List Nat => ctSt B S (some (.own, .int (k : Int)))) (f := ctStep) (φ := fun x : Arc => arcD x) (I := fun j S => CtI B S) B 0 S hI fun j S x hx hI => by
      refine ⟨hI.step (List.mem_of_getElem? hx), ct_turn B S k x ?_⟩
      have := hI.len
      omega
    obtain ⟨hin, _⟩ := hin
    show Turn1 _ _ _ _ _ (ctSt B (B.foldl ctStep S) none)
    dsimp only [ctSt] at hin ⊢
    generalize (B.foldl ctStep S).map kN = ks2 at *
    generalize ((B.foldl ctStep S).map fun _ => D.bl true) = vs2 at *
    generalize S.map kN = ks at *
    generalize (S.map fun _ => D.bl true) = vs at *
    generalize B.map arcD = BD at *
    unfold Turn1 ctOut
    simp [hin]
  obtain ⟨hf, _⟩ := hf
  have hlen : ((B.map arcD).length : Int) = (B.length : Int) := by rw [List.length_map]
  have hir : inRng (B.length : Int) = true := inRng_of (by omega)
  have hr := rng_map B.length
  unfold ctAll
  generalize (List.range B.length).foldl (fun S _ => ctPass B S) [0] = S at *
  dsimp only [ctSt] at hf
  simp only [List.map_cons, List.map_nil] at hf
  generalize S.map kN = ks at *
  generalize (S.map fun _ => D.bl true) = vs at *
  generalize B.map arcD = BD at *
  generalize (List.range B.length).map (fun k : Nat => D.int (k : Int)) = R at *
  have hf2 : forD (bName 2) [2, 3, 4, 5] ctOut R [some (.brw, .lst BD), some (.own, .dk [Sum.inl 0] [.bl true]), none, none, none, none] = .ok (.nx [some (.brw, .lst BD), some (.own, .dk ks vs), none, none, none, none]) := hf
  simp [fn_law_come_to, ct_eq, hlen, hir, hr, hf2]
end DL

namespace DL
open PySem PySem.Spec PyProof.Rows L2
/-! ### drawn bounds -/
abbrev Side := Int × Int × Int
abbrev sideD (s : Side) : D := .tup [.int s.1, .int s.2.1, .int s.2.2]
abbrev Gd := Side × Side
abbrev gdD (g : Gd) : D := .lst [sideD g.1, sideD g.2]
/-- within its bounds it stays from 0 to t -/
def SdOk (t : Int) (s : Side) : Prop := (∀ x, s.1 ≤ x → x ≤ s.2.1 → 0 ≤ x + s.2.2 ∧ x + s.2.2 ≤ t) ∧ -t ≤ s.2.2 ∧ s.2.2 ≤ t
def gdIn : Stm := (sSeq (sSet 8 (eOp (.own (eOp (.own (isL 0 (eK (.io 0 (.fin [])) popK)) (.fin [.pur (hOp [.pur (hOp [.pur (hC (.int 2)), .pur (hVar 7)] gMul), .pur (hC (.int 1))] gAdd)])) gMod) (.fin [.pur (hVar 7)])) gSub))
  (sSeq (sSet 9 (eOp (.pur (hOp [.pur (hC (.int 0)), .pur (hOp [.pur (hC (.int 0)), .pur (hVar 8)] gSub)] gMax2) (.own (eOp (.own (isL 0 (eK (.io 0 (.fin [])) popK)) (.fin [.pur (hC (.int 2))])) gMod) (.fin []))) gAdd))
  (sSeq (sSet 10 (eOp (.pur (hOp [.pur (hVar 7), .pur (hOp [.pur (hVar 7), .pur (hVar 8)] gSub)] gMin2) (.own (eOp (.own (eOp (.own (isL 0 (eK (.io 0 (.fin [])) popK)) (.fin [.pur (hC (.int 4))])) gMod) (.fin [.pur (hC (.int 3))])) gDiv) (.fin []))) gSub))
  (sSeq (sExpr (isL 6 (eK (.io 6 (.fin [.pur (hOp [.pur (hVar 9), .pur (hVar 10), .pur (hVar 8)] fTup)])) appK)))
  sNop))))
def gdOut : Stm := (sSeq (sSet 6 (eK (.fin []) (dspK .lst)))
  (sSeq (sFor [.plc 2 (pVar 2)] mkSeq (bName 7) [7, 8, 9, 10] gdIn)
  (sSeq (sExpr (isL 4 (eK (.io 4 (.own (eMov 6) (.fin []))) appK)))
  sNop)))
theorem gd_eq : b_law_guards = (sSeq (sSet 2 (eK (.own (eOp (.pur (hC (.int 1)) (.own (eOp (.own (isL 0 (eK (.io 0 (.fin [])) popK)) (.fin [.pur (hC (.int 3))])) gMod) (.fin []))) gAdd) (.own (eOp (.own (isL 0 (eK (.io 0 (.fin [])) popK)) (.fin [.pur (hC (.int 2))])) gMod) (.fin []))) (dspK .lst)))
  (sSeq (sSet 3 (eK (.own (eOp (.own (isL 0 (eK (.io 0 (.fin [])) popK)) (.fin [.pur (hOp [.pur (hRd (pIx (pVar 2) (hC (.int 0)))), .pur (hC (.int 1))] gAdd)])) gMod) (.own (eOp (.own (isL 0 (eK (.io 0 (.fin [])) popK)) (.fin [.pur (hOp [.pur (hRd (pIx (pVar 2) (hC (.int 1)))), .pur (hC (.int 1))] gAdd)])) gMod) (.fin []))) (dspK .tup)))
  (sSeq (sSet 4 (eK (.fin []) (dspK .lst)))
  (sSeq (sFor [.pur (hVar 1)] mkRange1 (bName 5) [5, 6, 7, 8, 9, 10] gdOut)
  (sSeq (sRet (eK (.own (eMov 2) (.pur (hVar 3) (.own (eMov 4) (.fin [])))) (dspK .tup)))
  sNop))))) := rfl
abbrev gSt (m2 : Md) (r : List Int) (n t0 t1 : Int) (SP : D) (GD : List D) (s5 s6 : Slot) : DEnv := [some (.io, .lst (rv r)), some (.brw, .int n), some (m2, .lst [.int t0, .int t1]), some (.own, SP), some (.own, .lst GD), s5, s6, none, none, none, none]
theorem gdIn_turn {a b c : Int} {r : List Int} {n t0 t1 k t : Int} {SP : D} {GD SD : List D} (ht : 0 ≤ t) (ht2 : t ≤ 3) (hsd : SD.length < 1000) : ∃ s : Side, SdOk t s ∧ Turn1 (bName 7) [7, 8, 9, 10] gdIn (.int t) (gSt .lck (a :: b :: c :: r) n t0 t1 SP GD (some (.own, .int k)) (some (.own, .lst SD))) (gSt .lck r n t0 t1 SP GD (some (.own, .int k)) (some (.own, .lst (SD ++ [sideD s])))) := by
  have m1 : MulOk 2 t := mulOk (j := 40) (k := 40) (by unfold Bd; decide) (by unfold Bd; omega)
  have p1 : 0 < 2 * t + 1 := by omega
  have u1 := Int.emod_nonneg a (show 2 * t + 1 ≠ 0 by omega)
  have u2 := Int.emod_lt_of_pos a p1
  have l1 : SD.length < 16777216 := by omega
  generalize he : a % (2 * t + 1) = e at u1 u2
  have v1 := Int.emod_nonneg b (show (2 : Int) ≠ 0 by decide)
  have w1 := Int.emod_nonneg c (show (4 : Int) ≠ 0 by decide)
  generalize hf : b % 2 = f at v1
  generalize hg : c % 4 = g at w1
  generalize hlo : (if e - t < 0 then -(e - t) else 0) + f = lo
  generalize hhi : (if t - (e - t) < t then t - (e - t) else t) - g / 3 = hi
  refine ⟨(lo, hi, e - t), ⟨fun x h1 h2 => ?_, ?_, ?_⟩, ?_⟩
  · simp only at h1 h2 ⊢
    subst hlo hhi
    split at h1 <;> split at h2 <;> omega
  · show -t ≤ e - t; omega
  · show e - t ≤ t; omega
  · unfold Turn1 gdIn
    simp [m1, p1, he, hf, hg, l1, hlo, hhi]
theorem gdOut_turn {a b c a2 b2 c2 : Int} {r : List Int} {n t0 t1 k : Int} {SP : D} {GD : List D} (h0 : 0 ≤ t0 ∧ t0 ≤ 3) (h1 : 0 ≤ t1 ∧ t1 ≤ 3) (hgd : GD.length < 1000) : ∃ g : Gd, (SdOk t0 g.1 ∧ SdOk t1 g.2) ∧ Turn1 (bName 5) [5, 6, 7, 8, 9, 10] gdOut (.int k) (gSt .own (a :: b :: c :: a2 :: b2 :: c2 :: r) n t0 t1 SP GD none none) (gSt .own r n t0 t1 SP (GD ++ [gdD g]) none none) := by
  obtain ⟨s1, q1, f1⟩ := gdIn_turn (a := a) (b := b) (c := c) (r := a2 :: b2 :: c2 :: r) (n := n) (t0 := t0) (t1 := t1) (k := k) (SP := SP) (GD := GD) (SD := []) h0.1 h0.2 (by decide)
  obtain ⟨s2, q2, f2⟩ := gdIn_turn (a := a2) (b := b2) (c := c2) (r := r) (n := n) (t0 := t0) (t1 := t1) (k := k) (SP := SP) (GD := GD) (SD := [sideD s1]) h1.1 h1.2 (by simp)
  refine ⟨(s1, s2), ⟨q1, q2⟩, ?_⟩
  have hf : forD (bName 7) [7, 8, 9, 10] gdIn [.int t0, .int t1] (gSt .lck (a :: b :: c :: a2 :: b2 :: c2 :: r) n t0 t1 SP GD (some (.own, .int k)) (some (.own, .lst []))) = .ok (.nx (gSt .lck r n t0 t1 SP GD (some (.own, .int k)) (some (.own, .lst [sideD s1, sideD s2])))) :=
    (forD_cons f1).trans ((forD_cons f2).trans rfl)
  have l1 : GD.length < 16777216 := by omega
  dsimp only [gSt, gdD] at *
  clear f1 f2
  generalize rv (a :: b :: c :: a2 :: b2 :: c2 :: r) = R at *
  generalize rv r = R2 at *
  generalize sideD s1 = S1 at *
  generalize sideD s2 = S2 at *
  unfold Turn1 gdOut
  simp [hf, l1]
theorem guards_ok (r : List Int) (n : Nat) (hn : n ≤ 3) (hr : 4 + 6 * n ≤ r.length) (hnn : NN r) : ∃ (t0 t1 s0 s1 : Int) (gs : List Gd) (r' : List Int), fn_law_guards [.lst (rv r), .int n] = .ok (.tup [.lst [.int t0, .int t1], .tup [.int s0, .int s1], .lst (gs.map gdD)], [.lst (rv r')]) ∧ (0 ≤ t0 ∧ t0 ≤ 3) ∧ (0 ≤ t1 ∧ t1 ≤ 1) ∧ (0 ≤ s0 ∧ s0 ≤ t0) ∧ (0 ≤ s1 ∧ s1 ≤ t1) ∧ gs.length = n ∧ ∀ g ∈ gs, SdOk t0 g.1 ∧ SdOk t1 g.2 := by
  match r, hr with
  | v0 :: v1 :: v2 :: v3 :: r, hr =>
    have n0 := hnn.hd
    have n1 := hnn.tl.hd
    have n2 := hnn.tl.tl.hd
    have n3 := hnn.tl.tl.tl.hd
    obtain ⟨t0, e0, b0⟩ : ∃ t0, 1 + v0 % 3 = t0 ∧ 0 ≤ t0 ∧ t0 ≤ 3 := ⟨_, rfl, by omega, by omega⟩
    obtain ⟨t1, e1, b1⟩ : ∃ t1, v1 % 2 = t1 ∧ 0 ≤ t1 ∧ t1 ≤ 1 := ⟨_, rfl, by omega, by omega⟩
    have p0 : 0 < t0 + 1 := by omega
    have p1 : 0 < t1 + 1 := by omega
    obtain ⟨s0, e2, b2⟩ : ∃ s0, v2 % (t0 + 1) = s0 ∧ 0 ≤ s0 ∧ s0 ≤ t0 := ⟨_, rfl, Int.emod_nonneg _ (by omega), by have := Int.emod_lt_of_pos v2 p0; omega⟩
    obtain ⟨s1, e3, b3⟩ : ∃ s1, v3 % (t1 + 1) = s1 ∧ 0 ≤ s1 ∧ s1 ≤ t1 := ⟨_, rfl, Int.emod_nonneg _ (by omega), by have := Int.emod_lt_of_pos v3 p1; omega⟩
    have hr' : 6 * n ≤ r.length := by simp at hr; omega
    obtain ⟨⟨gs, r'⟩, ⟨i1, i2, i3⟩, hf⟩ := forD_exI (bd := bName 5) (cl := [5, 6, 7, 8, 9, 10]) (body := gdOut) (st := fun p : List Gd × List Int => gSt .own p.2 n t0 t1 (.tup [.int s0, .int s1]) (p.1.map gdD) none none) (φ := fun k : Nat => D.int (k : Int)) (I := fun j p => p.1.length = j ∧ 6 * n ≤ 6 * j + p.2.length ∧ ∀ g ∈ p.1, SdOk t0 g.1 ∧ SdOk t1 g.2) (List.range n) 0 ([], r) ⟨rfl, by simpa using hr', fun g hg => by cases hg⟩ fun j p k hk hI => by
      obtain ⟨rfl, hkn⟩ := range_at hk
      obtain ⟨q1, q2, q3⟩ := hI
      obtain ⟨gs, r⟩ := p
      simp only at q1 q2 q3
      match r, q2 with
      | a :: b :: c :: a2 :: b2 :: c2 :: r, q2 =>
        obtain ⟨g, hg, hT⟩ := gdOut_turn (a := a) (b := b) (c := c) (a2 := a2) (b2 := b2) (c2 := c2) (r := r) (n := n) (t0 := t0) (t1 := t1) (k := k) (SP := .tup [.int s0, .int s1]) (GD := gs.map gdD) b0 ⟨b1.1, by omega⟩ (by rw [List.length_map]; omega)
        refine ⟨(gs ++ [g], r), ⟨by simp [q1], by simp at q2 ⊢; omega, fun g2 h2 => ?_⟩, ?_⟩
        · rcases List.mem_append.mp h2 with h2 | h2
          · exact q3 g2 h2
          · rw [List.mem_singleton.mp h2]; exact hg
        · simp only [List.map_append, List.map_cons, List.map_nil]
          exact hT
      | [], q2 => simp at q2; omega
      | [_], q2 => simp at q2; omega
      | [_, _], q2 => simp at q2; omega
      | [_, _, _], q2 => simp at q2; omega
      | [_, _, _, _], q2 => simp at q2; omega
      | [_, _, _, _, _], q2 => simp at q2; omega
    rw [List.length_range, Nat.zero_add] at i1
    refine ⟨t0, t1, s0, s1, gs, r', ?_, b0, b1, b2, b3, i1, i3⟩
    have hir : inRng (n : Int) = true := inRng_of (by omega)
    have hrm := rng_map n
    simp only [List.map_nil] at hf
    dsimp only [gSt] at hf
    generalize gs.map gdD = GD at *
    generalize (List.range n).map (fun k : Nat => D.int (k : Int)) = R at *
    generalize hrv : rv r' = R' at *
    simp [fn_law_guards, gd_eq, p0, p1, e0, e1, e2, e3, hir, hrm, hf]
  | [], hr => simp at hr
  | [_], hr => simp at hr; omega
  | [_, _], hr => simp at hr; omega
  | [_, _, _], hr => simp at hr; omega
end DL

namespace DL
open PySem PySem.Spec PyProof.Rows L2
/-! ### the run of counters -/
abbrev Spot := Int × Int
abbrev spD2 (p : Spot) : D := .tup [.int p.1, .int p.2]
def goneN (p : Spot) (g : Gd) : Option Spot := if p.1 < g.1.1 ∨ g.1.2.1 < p.1 then none else if p.2 < g.2.1 ∨ g.2.2.1 < p.2 then none else some (p.1 + g.1.2.2, p.2 + g.2.2.2)
def optS : Option Spot → D
  | none => .non
  | some p => spD2 p
theorem gone_ok (p : Spot) (g : Gd) : fn_law_gone [spD2 p, gdD g] = .ok (optS (goneN p g), []) := by
  obtain ⟨x, y⟩ := p
  obtain ⟨⟨l1, h1, c1⟩, ⟨l2, h2, c2⟩⟩ := g
  unfold goneN
  by_cases q1 : x < l1
  · simp [fn_law_gone, b_law_gone, forD, q1, optS, zipD]
  · by_cases q2 : h1 < x
    · simp [fn_law_gone, b_law_gone, forD, q1, q2, optS, zipD]
    · by_cases q3 : y < l2
      · simp [fn_law_gone, b_law_gone, forD, q1, q2, q3, optS, zipD]
      · by_cases q4 : h2 < y
        · simp [fn_law_gone, b_law_gone, forD, q1, q2, q3, q4, optS, zipD]
        · simp [fn_law_gone, b_law_gone, forD, q1, q2, q3, q4, optS, zipD]
abbrev spE : EqOk spD2 1 := EqOk.pair EqOk.int EqOk.int
def rnIn : Stm := (sSeq (sSet 8 (eK (.fin [.pur (hRd (pIx (pVar 3) (hVar 5))), .plc 7 (pVar 7)]) (callK [.b, .b] fn_law_gone)))
  (sSeq (sIf (hB (hOp [.pur (hVar 8), .pur (hC .non)] gNotN)) (sSeq (sIf (hB (hOp [.pur (hVar 8), .plc 3 (pVar 3)] gNotIn)) (sSeq (sExpr (isL 3 (eK (.io 3 (.fin [.pur (hVar 8)])) appK)))
  sNop) sNop)
  (sSeq (sExpr (isL 4 (eK (.io 4 (.fin [.pur (hOp [.pur (hVar 5), .pur (hVar 6), .pur (hOp [.plt 3 (pVar 3) (tyD "list"), .pur (hVar 8)] gLIx)] fTup)])) appK)))
  sNop)) sNop)
  sNop))
def rnWh : Stm := (sSeq (sSeq (sFor [.plc 0 (pVar 0), .plc 2 (pVar 2)] mkZip (bTup (bCons (bName 6) (bCons (bName 7) bNil))) [6, 7, 8] rnIn)
  (sSeq (sSet 5 (eP (hOp [.pur (hVar 5), .pur (hC (.int 1))] gAdd)))
  sNop)) (sDrop [6, 7, 8]))
abbrev rnC : DEnv → Out (Bool × DEnv) := (eBp (hB (hOp [.pur (hVar 5), .pur (hOp [.plc 3 (pVar 3)] gLen)] gLt)))
theorem rn_eq : b_law_run = (sSeq (sSet 3 (eK (.fin [.pur (hVar 1)]) (dspK .lst)))
  (sSeq (sSet 4 (eK (.fin []) (dspK .lst)))
  (sSeq (sSet 5 (eP (hC (.int 0))))
  (sSeq (sWhile rnC rnWh)
  (sSeq (sRet (eOp (.fin [.plc 4 (pVar 4)]) gSorted))
  sNop))))) := rfl
abbrev rnSt (ND : List D) (SP : D) (GD : List D) (P : List Spot) (A : List Arc) (d : Nat) : DEnv := [some (.brw, .lst ND), some (.brw, SP), some (.brw, .lst GD), some (.own, .lst (P.map spD2)), some (.own, .lst (A.map arcD)), some (.own, .int d), none, none, none]
/-- one look: the spots and arcs behind it -/
def rnStep (d : Nat) (p : Spot) (PA : List Spot × List Arc) (x : Str × Gd) : List Spot × List Arc := match goneN p x.2 with
  | none => PA
  | some q => if q ∈ PA.1 then (PA.1, PA.2 ++ [(d, x.1, (PA.1.findIdx? fun z => decide (z = q)).getD 0)]) else (PA.1 ++ [q], PA.2 ++ [(d, x.1, PA.1.length)])
theorem fi_app {P : List Spot} {q : Spot} (h : q ∉ P) : (P ++ [q]).findIdx? (fun z => decide (z = q)) = some P.length := by
  rw [List.findIdx?_append, List.findIdx?_eq_none_iff.mpr]
  · simp
  · intro z hz
    simp only [decide_eq_false_iff_not]
    intro e
    exact h (e ▸ hz)
theorem fi_mem {P : List Spot} {q : Spot} (h : q ∈ P) : ∃ i, P.findIdx? (fun z => decide (z = q)) = some i ∧ i < P.length := by
  cases hf : P.findIdx? fun z => decide (z = q) with
  | none =>
    rw [List.findIdx?_eq_none_iff] at hf
    exact absurd (hf q h) (by simp)
  | some i => exact ⟨i, rfl, (List.findIdx?_eq_some_iff_getElem.mp hf).1⟩
theorem rn_turn {ND GD : List D} {SP : D} {P : List Spot} {A : List Arc} {d : Nat} {p : Spot} (x : Str × Gd) (hp : P[d]? = some p) (lA : A.length < 1000) (lP : P.length < 1000) : Turn1 (bTup (bCons (bName 6) (bCons (bName 7) bNil))) [6, 7, 8] rnIn (.tup [.str x.1, gdD x.2]) (rnSt ND SP GD P A d) (rnSt ND SP GD (rnStep d p (P, A) x).1 (rnStep d p (P, A) x).2 d) := by
  have hat : atI (P.map spD2) (d : Int) = some (spD2 p) := atI_nat (by rw [List.getElem?_map, hp]; rfl)
  have hg := gone_ok p x.2
  have hmT : ∀ q : Spot, q ∈ P → inB (spD2 q) (.lst (P.map spD2)) = some true := fun q h => by rw [spE.mem q P]; exact congrArg some (by simpa using h)
  have hmF : ∀ q : Spot, q ∉ P → inB (spD2 q) (.lst (P.map spD2)) = some false := fun q h => by rw [spE.mem q P]; exact congrArg some (by simpa using h)
  have hlx : ∀ (q : Spot) (P : List Spot), fLIx (.lst (P.map spD2)) (spD2 q) = (P.findIdx? fun z => decide (z = q)).map fun (j : Nat) => D.int (j : Int) := fun q P => spE.lix q P (by decide)
  have l1 : (P.map spD2).length < 16777216 := by rw [List.length_map]; omega
  have l2 : (A.map arcD).length < 16777216 := by rw [List.length_map]; omega
  obtain ⟨nm, g⟩ := x
  obtain ⟨px, py⟩ := p
  simp only at hg
  unfold rnStep
  simp only
  cases hq : goneN (px, py) g with
  | none =>
    rw [hq] at hg
    simp only [optS] at hg
    dsimp only [rnSt, spD2, gdD] at *
    generalize P.map (fun p : Spot => D.tup [.int p.1, .int p.2]) = PD at *
    generalize A.map arcD = AD at *
    unfold Turn1 rnIn
    simp [hat, hg]
  | some q =>
    rw [hq] at hg
    simp only [optS] at hg
    dsimp only
    by_cases h : q ∈ P
    · have hm := hmT q h
      rw [if_pos h]
      obtain ⟨i, hi, hil⟩ := fi_mem h
      have hx := hlx q P
      rw [hi] at hx
      rw [hi]
      obtain ⟨qx, qy⟩ := q
      clear hmT hmF hlx
      dsimp only [rnSt, spD2, gdD] at *
      simp only [Option.map_some, Option.getD_some, List.map_append, List.map_cons, List.map_nil] at hx ⊢
      generalize P.map (fun p : Spot => D.tup [.int p.1, .int p.2]) = PD at *
      generalize A.map arcD = AD at *
      unfold Turn1 rnIn
      simp [hat, hg, hm, hx, l2, tyD]
    · have hm := hmF q h
      rw [if_neg h]
      have hx := hlx q (P ++ [q])
      rw [fi_app h] at hx
      obtain ⟨qx, qy⟩ := q
      clear hmT hmF hlx
      dsimp only [rnSt, spD2, gdD] at *
      simp only [Option.map_some, List.map_append, List.map_cons, List.map_nil] at hx ⊢
      have hPl : P.length = P.length := rfl
      generalize P.map (fun p : Spot => D.tup [.int p.1, .int p.2]) = PD at *
      generalize A.map arcD = AD at *
      unfold Turn1 rnIn
      simp [hat, hg, hm, hx, l1, l2, tyD]
/-! what holds of spots and arcs -/
structure RnI (t0 t1 : Int) (names : List Str) (P : List Spot) (A : List Arc) (d j : Nat) : Prop where
  nd : P.Nodup
  box : ∀ p ∈ P, (0 ≤ p.1 ∧ p.1 ≤ t0) ∧ 0 ≤ p.2 ∧ p.2 ≤ t1
  pos : 0 < P.length
  arcs : ∀ x ∈ A, (x.1 < d ∨ x.1 = d ∧ x.2.1 ∈ names.take j) ∧ x.2.1 ∈ names ∧ x.2.2 < P.length
  an : A.Nodup
  rch : ∀ s, s < P.length → Rch A s
  la : A.length ≤ 3 * d + j
theorem box_len {t0 t1 : Int} {P : List Spot} (h0 : 0 ≤ t0 ∧ t0 ≤ 3) (h1 : 0 ≤ t1 ∧ t1 ≤ 1) (nd : P.Nodup) (box : ∀ p ∈ P, (0 ≤ p.1 ∧ p.1 ≤ t0) ∧ 0 ≤ p.2 ∧ p.2 ≤ t1) : P.length ≤ 8 := by
  have h2 : (P.map fun p => (2 * p.1 + p.2).toNat).Nodup := by
    rw [List.nodup_iff_pairwise_ne, List.pairwise_map]
    refine List.Pairwise.imp_of_mem (fun {a b} ha hb hne he => hne ?_) nd
    have := box a ha
    have := box b hb
    exact Prod.ext (by omega) (by omega)
  have := nodup_subN (l2 := List.range 8) h2 fun s hs => by
    obtain ⟨p, hp, rfl⟩ := List.mem_map.mp hs
    have := box p hp
    exact List.mem_range.mpr (by omega)
  simpa using this
theorem RnI.step {t0 t1 : Int} {names : List Str} {P : List Spot} {A : List Arc} {d j : Nat} {p : Spot} {x : Str × Gd} (h : RnI t0 t1 names P A d j) (hn : names.Nodup) (hp : P[d]? = some p) (hx : names[j]? = some x.1) (hg : SdOk t0 x.2.1 ∧ SdOk t1 x.2.2) : RnI t0 t1 names (rnStep d p (P, A) x).1 (rnStep d p (P, A) x).2 d (j + 1) ∧ (rnStep d p (P, A) x).1[d]? = some p := by
  have hdl := (List.getElem?_eq_some_iff.mp hp).1
  have hjl := (List.getElem?_eq_some_iff.mp hx).1
  have hxm : x.1 ∈ names := List.mem_of_getElem? hx
  have htk : names.take (j + 1) = names.take j ++ [x.1] := by rw [List.take_succ, hx]; rfl
  have hnt : x.1 ∉ names.take j := fun hm => by
    obtain ⟨i, hi⟩ := List.mem_iff_getElem?.mp hm
    rw [List.getElem?_take] at hi
    split at hi
    · have e := (List.getElem?_inj (by omega) hn).mp (hi.trans hx.symm)
      omega
    · cases hi
  have hnew : ∀ b, (d, x.1, b) ∉ A := fun b hb => by
    rcases (h.arcs _ hb).1 with q | q
    · simp at q
    · exact hnt q.2
  unfold rnStep
  cases hq : goneN p x.2 with
  | none =>
    exact ⟨⟨h.nd, h.box, h.pos, fun y hy => ⟨(h.arcs y hy).1.imp id fun q => ⟨q.1, by rw [htk]; exact List.mem_append_left _ q.2⟩, (h.arcs y hy).2⟩, h.an, h.rch, by have := h.la; show A.length ≤ _; omega⟩, hp⟩
  | some q =>
    have hbx : (0 ≤ q.1 ∧ q.1 ≤ t0) ∧ 0 ≤ q.2 ∧ q.2 ≤ t1 := by
      unfold goneN at hq
      split at hq
      · cases hq
      · split at hq
        · cases hq
        · rename_i a b
          cases hq
          have z1 := hg.1.1 p.1 (by omega) (by omega)
          have z2 := hg.2.1 p.2 (by omega) (by omega)
          exact ⟨z1, z2⟩
    have hla := h.la
    by_cases hm : q ∈ P
    · simp only [if_pos hm]
      obtain ⟨i, hi, hil⟩ := fi_mem hm
      rw [hi]
      simp only [Option.getD_some]
      refine ⟨⟨h.nd, h.box, h.pos, fun y hy => ?_, ?_, fun s hs => (h.rch s hs).mono fun y hy => List.mem_append_left _ hy, by simp; omega⟩, hp⟩
      · rcases List.mem_append.mp hy with hy | hy
        · exact ⟨(h.arcs y hy).1.imp id fun q => ⟨q.1, by rw [htk]; exact List.mem_append_left _ q.2⟩, (h.arcs y hy).2⟩
        · rw [List.mem_singleton.mp hy]
          exact ⟨.inr ⟨rfl, by rw [htk]; exact List.mem_append_right _ List.mem_cons_self⟩, hxm, hil⟩
      · rw [List.nodup_append]
        exact ⟨h.an, by simp, fun a ha b hb e => hnew _ (by rw [List.mem_singleton.mp hb] at e; exact e ▸ ha)⟩
    · simp only [if_neg hm]
      have hm2 : ∀ y ∈ A, y ∈ A ++ [(d, x.1, P.length)] := fun y hy => List.mem_append_left _ hy
      refine ⟨⟨?_, fun y hy => ?_, by simp, fun y hy => ?_, ?_, fun s hs => ?_, by simp; omega⟩, ?_⟩
      · rw [List.nodup_append]
        exact ⟨h.nd, by simp, fun a ha b hb e => hm (by rw [List.mem_singleton.mp hb] at e; exact e ▸ ha)⟩
      · rcases List.mem_append.mp hy with hy | hy
        · exact h.box y hy
        · rw [List.mem_singleton.mp hy]; exact hbx
      · rw [List.length_append]
        rcases List.mem_append.mp hy with hy | hy
        · exact ⟨(h.arcs y hy).1.imp id fun q => ⟨q.1, by rw [htk]; exact List.mem_append_left _ q.2⟩, (h.arcs y hy).2.1, by have := (h.arcs y hy).2.2; omega⟩
        · rw [List.mem_singleton.mp hy]
          exact ⟨.inr ⟨rfl, by rw [htk]; exact List.mem_append_right _ List.mem_cons_self⟩, hxm, by simp⟩
      · rw [List.nodup_append]
        exact ⟨h.an, by simp, fun a ha b hb e => hnew _ (by rw [List.mem_singleton.mp hb] at e; exact e ▸ ha)⟩
      · rw [List.length_append] at hs
        by_cases h3 : s < P.length
        · exact (h.rch s h3).mono hm2
        · have h4 : s = P.length := by simp at hs; omega
          subst h4
          exact Rch.arc (B := A ++ [(d, x.1, P.length)]) (x := (d, x.1, P.length)) (List.mem_append_right _ List.mem_cons_self) ((h.rch d hdl).mono hm2)
      · rw [List.getElem?_append_left hdl]; exact hp
theorem RnI.next {t0 t1 : Int} {names : List Str} {P : List Spot} {A : List Arc} {d j : Nat} (h : RnI t0 t1 names P A d j) (hj : j ≤ 3) : RnI t0 t1 names P A (d + 1) 0 := ⟨h.nd, h.box, h.pos, fun y hy => ⟨(h.arcs y hy).1.elim (fun q => .inl (by omega)) fun q => .inl (by omega), (h.arcs y hy).2⟩, h.an, h.rch, by have := h.la; omega⟩
theorem rn_wh {t0 t1 : Int} {names : List Str} {gs : List Gd} {SP : D} {P : List Spot} {A : List Arc} {d : Nat} (h0 : 0 ≤ t0 ∧ t0 ≤ 3) (h1 : 0 ≤ t1 ∧ t1 ≤ 1) (hn : names.Nodup) (hn3 : names.length ≤ 3) (hgl : gs.length = names.length) (hg : ∀ g ∈ gs, SdOk t0 g.1 ∧ SdOk t1 g.2) (h : RnI t0 t1 names P A d 0) (hd : d < P.length) : ∃ P' A', RnI t0 t1 names P' A' (d + 1) 0 ∧ d + 1 ≤ P'.length ∧ rnWh (rnSt (names.map .str) SP (gs.map gdD) P A d) = .ok (.nx (rnSt (names.map .str) SP (gs.map gdD) P' A' (d + 1))) := by
  obtain ⟨p, hp⟩ : ∃ p, P[d]? = some p := ⟨_, List.getElem?_eq_getElem hd⟩
  obtain ⟨⟨P', A'⟩, ⟨hI, hp'⟩, hf⟩ := forD_exI (bd := bTup (bCons (bName 6) (bCons (bName 7) bNil))) (cl := [6, 7, 8]) (body := rnIn) (st := fun p : List Spot × List Arc => rnSt (names.map .str) SP (gs.map gdD) p.1 p.2 d) (φ := fun x : Str × Gd => .tup [.str x.1, gdD x.2]) (I := fun j q => RnI t0 t1 names q.1 q.2 d j ∧ q.1[d]? = some p) (names.zip gs) 0 (P, A) ⟨h, hp⟩ fun j q x hx hI => by
    obtain ⟨hI, hpq⟩ := hI
    rw [Nat.zero_add] at hI ⊢
    obtain ⟨P, A⟩ := q
    simp only at hI hpq
    rw [List.getElem?_zip_eq_some] at hx
    have hs := hI.step hn hpq hx.1 (hg _ (List.mem_of_getElem? hx.2))
    have hb := box_len h0 h1 hI.nd hI.box
    have hdl := (List.getElem?_eq_some_iff.mp hpq).1
    have hjl := (List.getElem?_eq_some_iff.mp hx.1).1
    refine ⟨rnStep d p (P, A) x, hs, ?_⟩
    have hjz : j < 3 := by omega
    have hd8 : d < 8 := by omega
    have hla := hI.la
    exact rn_turn x hpq (by show A.length < 1000; omega) (by show P.length < 1000; omega)
  have hz : (names.zip gs).length ≤ 3 := by rw [List.length_zip]; omega
  rw [Nat.zero_add] at hI
  refine ⟨P', A', hI.next hz, (List.getElem?_eq_some_iff.mp hp').1, ?_⟩
  have hzd := zipD_map (φ := D.str) (ψ := gdD) names gs
  dsimp only [rnSt] at hf ⊢
  generalize P.map spD2 = PD at *
  generalize A.map arcD = AD at *
  generalize P'.map spD2 = PD2 at *
  generalize A'.map arcD = AD2 at *
  generalize names.map D.str = ND at *
  generalize gs.map gdD = GD at *
  generalize (names.zip gs).map (fun x : Str × Gd => D.tup [.str x.1, gdD x.2]) = ZD at *
  have e1 : ((d + 1 : Nat) : Int) = (d : Int) + 1 := by omega
  rw [e1]
  unfold rnWh
  simp [hzd, hf]
theorem rn_loop {t0 t1 : Int} {names : List Str} {gs : List Gd} {SP : D} (h0 : 0 ≤ t0 ∧ t0 ≤ 3) (h1 : 0 ≤ t1 ∧ t1 ≤ 1) (hn : names.Nodup) (hn3 : names.length ≤ 3) (hgl : gs.length = names.length) (hg : ∀ g ∈ gs, SdOk t0 g.1 ∧ SdOk t1 g.2) : ∀ (n d : Nat) (P : List Spot) (A : List Arc), 8 ≤ d + n → d ≤ P.length → RnI t0 t1 names P A d 0 → ∃ P' A', RnI t0 t1 names P' A' P'.length 0 ∧ WhR rnC rnWh (rnSt (names.map .str) SP (gs.map gdD) P A d) (.nx (rnSt (names.map .str) SP (gs.map gdD) P' A' P'.length)) := by
  have stop : ∀ (P : List Spot) (A : List Arc), WhR rnC rnWh (rnSt (names.map .str) SP (gs.map gdD) P A P.length) (.nx (rnSt (names.map .str) SP (gs.map gdD) P A P.length)) := fun P A => by
    refine WhR.stop (e2 := rnSt (names.map .str) SP (gs.map gdD) P A P.length) ?_
    have hl : ((P.map spD2).length : Int) = P.length := by rw [List.length_map]
    dsimp only [rnSt]
    generalize P.map spD2 = PD at *
    simp [rnC, hl]
  intro n
  induction n with
  | zero =>
    intro d P A hdn hd h
    have hb := box_len h0 h1 h.nd h.box
    have : d = P.length := by omega
    subst this
    exact ⟨P, A, h, stop P A⟩
  | succ n ih =>
    intro d P A hdn hd h
    by_cases h3 : d < P.length
    · obtain ⟨P1, A1, w1, w2, w3⟩ := rn_wh (SP := SP) h0 h1 hn hn3 hgl hg h h3
      obtain ⟨P', A', g1, g2⟩ := ih (d + 1) P1 A1 (by omega) w2 w1
      refine ⟨P', A', g1, WhR.step (e1 := rnSt (names.map .str) SP (gs.map gdD) P A d) ?_ (.inl w3) g2⟩
      have hl : ((P.map spD2).length : Int) = P.length := by rw [List.length_map]
      dsimp only [rnSt]
      generalize P.map spD2 = PD at *
      simp [rnC, hl, h3]
    · have : d = P.length := by omega
      subst this
      exact ⟨P, A, h, stop P A⟩
theorem run_ok {t0 t1 s0 s1 : Int} {names : List Str} {gs : List Gd} (h0 : 0 ≤ t0 ∧ t0 ≤ 3) (h1 : 0 ≤ t1 ∧ t1 ≤ 1) (b0 : 0 ≤ s0 ∧ s0 ≤ t0) (b1 : 0 ≤ s1 ∧ s1 ≤ t1) (hn : names.Nodup) (hn3 : names.length ≤ 3) (hgl : gs.length = names.length) (hg : ∀ g ∈ gs, SdOk t0 g.1 ∧ SdOk t1 g.2) : ∃ (many : Nat) (B : List Arc), fn_law_run [.lst (names.map .str), .tup [.int s0, .int s1], .lst (gs.map gdD)] = .ok (.lst (B.map arcD), []) ∧ (1 ≤ many ∧ many ≤ 8) ∧ B.length ≤ 24 ∧ B.Nodup ∧ (∀ x ∈ B, x.1 < many ∧ x.2.1 ∈ names ∧ x.2.2 < many) ∧ (∀ s, s < many → Rch B s) ∧ B.Pairwise fun x y => x.1 = y.1 → x.2.1.cps.toList ≤ y.2.1.cps.toList := by
  have hst : RnI t0 t1 names [(s0, s1)] [] 0 0 := ⟨by simp, fun p hp => by rw [List.mem_singleton.mp hp]; exact ⟨b0, b1⟩, by simp, fun x hx => (by cases hx), by simp, fun s hs => (by
    simp at hs
    rw [hs]; exact .zero), by simp⟩
  obtain ⟨P, A, hI, hw⟩ := rn_loop (SP := .tup [.int s0, .int s1]) h0 h1 hn hn3 hgl hg 8 0 [(s0, s1)] [] (by decide) (Nat.zero_le _) hst
  obtain ⟨B, hs, hp, hpw⟩ := sort_arcsL A
  have hb := box_len h0 h1 hI.nd hI.box
  have hla := hI.la
  refine ⟨P.length, B, ?_, ⟨hI.pos, hb⟩, by rw [hp.length_eq]; omega, hp.nodup_iff.mpr hI.an, fun x hx => ?_, fun s h => (hI.rch s h).mono fun x hx => hp.mem_iff.mpr hx, hpw⟩
  rotate_left
  · have q := hI.arcs x (hp.mem_iff.mp hx)
    refine ⟨?_, q.2⟩
    rcases q.1 with z | z
    · exact z
    · simp at z
  · have h3 := hw.sw
    clear hw hI
    dsimp only [rnSt] at h3
    simp only [List.map_cons, List.map_nil] at h3
    generalize P.map spD2 = PD at *
    generalize A.map arcD = AD at *
    generalize B.map arcD = BD at *
    generalize names.map D.str = ND at *
    generalize gs.map gdD = GD at *
    generalize ((P.length : Nat) : Int) = pl at *
    have h4 : sWhile rnC rnWh [some (.brw, .lst ND), some (.brw, .tup [.int s0, .int s1]), some (.brw, .lst GD), some (.own, .lst [.tup [.int s0, .int s1]]), some (.own, .lst []), some (.own, .int 0), none, none, none] = .ok (.nx [some (.brw, .lst ND), some (.brw, .tup [.int s0, .int s1]), some (.brw, .lst GD), some (.own, .lst PD), some (.own, .lst AD), some (.own, .int pl), none, none, none]) := h3
    simp [fn_law_run, rn_eq, h4, hs]
end DL

namespace DL
open PySem PySem.Spec PyProof.Rows L2
section
variable {α β γ : Type} {bd : D → DEnv → Option DEnv} {elt : DEnv → Out (D × DEnv)} {cl : List Nat}
theorem lcG_exI {st : α → DEnv} {φ : β → D} {ω : γ → D} {R : β → γ → Prop} {I : Nat → α → Prop} : ∀ (xs : List β) (i : Nat) (a : α), I i a → (∀ j a x, xs[j]? = some x → I (i + j) a → ∃ r b, R x r ∧ I (i + j + 1) b ∧ (must (bd (φ x) (st a)) fun e => elt e >>= fun q => must (dropS cl q.2) fun e2 => Out.ok (q.1, e2)) = .ok (ω r, st b)) →
    ∃ (rs : List γ) (b : α), rs.length = xs.length ∧ (∀ (j : Nat) (x : β) (r : γ), xs[j]? = some x → rs[j]? = some r → R x r) ∧ I (i + xs.length) b ∧ lcG bd eYes elt cl (xs.map φ) (st a) = .ok (rs.map ω, st b)
  | [], i, a, hI, _ => ⟨[], a, rfl, fun j x r h => (by cases h), hI, rfl⟩
  | x :: xs, i, a, hI, h => by
    obtain ⟨r, b, h1, h2, h3⟩ := h 0 a x rfl hI
    obtain ⟨rs, c, g1, g2, g3, g4⟩ := lcG_exI xs (i + 1) b h2 fun j d y hy hd => by
      have q := h (j + 1) d y hy (by rw [show i + (j + 1) = i + 1 + j by omega]; exact hd)
      rw [show i + (j + 1) + 1 = i + 1 + j + 1 by omega] at q
      exact q
    refine ⟨r :: rs, c, by rw [List.length_cons, List.length_cons, g1], fun j y q hy hq => ?_, by rw [List.length_cons, show i + (xs.length + 1) = i + 1 + xs.length by omega]; exact g3, ?_⟩
    · cases j with
      | zero =>
        cases hy; cases hq
        exact h1
      | succ j => exact g2 j y q hy hq
    · rw [List.map_cons, lcG_cons h3, g4]
      rfl
end
/-- what is told of a chart's arcs -/
structure AOk (many : Nat) (names : List Str) (B : List Arc) : Prop where
  m1 : 1 ≤ many
  m2 : many ≤ 8
  lb : B.length ≤ 40
  bn : B.Nodup
  arcs : ∀ x ∈ B, x.1 < many ∧ x.2.1 ∈ names ∧ x.2.2 < many
  rch : ∀ s, s < many → Rch B s
  bs : B.Pairwise fun x y => x.1 = y.1 → x.2.1.cps.toList ≤ y.2.1.cps.toList
theorem nm_at2 {names : List Str} (h : 0 < names.length) (w : Int) : ∃ nm ∈ names, atI (names.map D.str) (w % (names.length : Int)) = some (.str nm) := by
  have h1 := Int.emod_nonneg w (show (names.length : Int) ≠ 0 by omega)
  have h2 := Int.emod_lt_of_pos w (show (0 : Int) < names.length by omega)
  obtain ⟨j, hj⟩ := Int.eq_ofNat_of_zero_le h1
  rw [hj]
  have hj2 : j < names.length := by omega
  exact ⟨names[j], List.getElem_mem hj2, at_map hj2⟩
/-! ### a few arcs -/
def fw1 : Stm := (sSeq (sExpr (eK (.pur (hC (.bl true)) (.io 3 (.own (eK (.own (eOp (.own (isL 0 (eK (.io 0 (.fin [])) popK)) (.fin [.pur (hVar 4)])) gMod) (.own (eOp (.plc 1 (pVar 1) (.own (eOp (.own (isL 0 (eK (.io 0 (.fin [])) popK)) (.fin [.pur (hOp [.plc 1 (pVar 1)] gLen)])) gMod) (.fin []))) gIx) (.fin [.pur (hVar 4)]))) (dspK .tup)) (.fin [])))) setDK))
  sNop)
def fw2 : Stm := (sSeq (sExpr (eK (.pur (hC (.bl true)) (.io 3 (.own (eK (.own (eOp (.own (isL 0 (eK (.io 0 (.fin [])) popK)) (.fin [.pur (hVar 2)])) gMod) (.own (eOp (.plc 1 (pVar 1) (.own (eOp (.own (isL 0 (eK (.io 0 (.fin [])) popK)) (.fin [.pur (hOp [.plc 1 (pVar 1)] gLen)])) gMod) (.fin []))) gIx) (.own (eOp (.own (isL 0 (eK (.io 0 (.fin [])) popK)) (.fin [.pur (hVar 2)])) gMod) (.fin [])))) (dspK .tup)) (.fin [])))) setDK))
  sNop)
theorem fw_eq : b_law_few = (sSeq (sSet 2 (eOp (.pur (hC (.int 1)) (.own (eOp (.own (isL 0 (eK (.io 0 (.fin [])) popK)) (.fin [.pur (hC (.int 6))])) gMod) (.fin []))) gAdd))
  (sSeq (sSet 3 (eOp (.fin []) gNewT))
  (sSeq (sFor [.pur (hC (.int 1)), .pur (hVar 2)] mkRange2 (bName 4) [4] fw1)
  (sSeq (sFor [.own (eOp (.own (isL 0 (eK (.io 0 (.fin [])) popK)) (.fin [.pur (hC (.int 4))])) gMod)] mkRange1 (bName 4) [4] fw2)
  (sSeq (sRet (eOp (.fin [.plc 3 (pVar 3)]) gSortD))
  sNop))))) := rfl
abbrev fwSt (r : List Int) (NS : List D) (m : Int) (ks : List (List Key)) (vs : List D) : DEnv := [some (.io, .lst (rv r)), some (.brw, .lst NS), some (.own, .int m), some (.own, .dt ks vs), none]
section
variable {a b c : Int} {r : List Int} {NS vs vs2 : List D} {ks ks2 : List (List Key)} {m k u w l : Int} {nm : Str}
theorem fw1_turn (hk : 0 < k) (hL : (NS.length : Int) = l) (hl : 0 < l) (h1 : a % k = u) (h2 : atI NS (b % l) = some (.str nm)) (hp1 : putKs ks vs [.inl u, .inr nm, .inl k] (.bl true) = ks2) (hp2 : putVs ks vs [.inl u, .inr nm, .inl k] (.bl true) = vs2) (hpl : D.pureL vs = true) (hkl : ks.length < 16777216) : Turn1 (bName 4) [4] fw1 (.int k) (fwSt (a :: b :: r) NS m ks vs) (fwSt r NS m ks2 vs2) := by
  unfold Turn1 fw1
  simp [hk, hL, hl, h1, h2, hp1, hp2, hpl, hkl]
theorem fw2_turn (hm : 0 < m) (hL : (NS.length : Int) = l) (hl : 0 < l) (h1 : a % m = u) (h3 : c % m = w) (h2 : atI NS (b % l) = some (.str nm)) (hp1 : putKs ks vs [.inl u, .inr nm, .inl w] (.bl true) = ks2) (hp2 : putVs ks vs [.inl u, .inr nm, .inl w] (.bl true) = vs2) (hpl : D.pureL vs = true) (hkl : ks.length < 16777216) : Turn1 (bName 4) [4] fw2 (.int k) (fwSt (a :: b :: c :: r) NS m ks vs) (fwSt r NS m ks2 vs2) := by
  unfold Turn1 fw2
  simp [hm, hL, hl, h1, h2, h3, hp1, hp2, hpl, hkl]
end
theorem few_ok {names : List Str} {r : List Int} (hr : r.length = 40) (hnn : NN r) (h0 : 0 < names.length) (hn3 : names.length ≤ 3) : ∃ (many : Nat) (B : List Arc) (r' : List Int), fn_law_few [.lst (rv r), .lst (names.map .str)] = .ok (.lst (B.map arcD), [.lst (rv r')]) ∧ AOk many names B := by
  match r, hr with
  | v0 :: r, hr =>
    have n0 := hnn.hd
    obtain ⟨m, hm, m1, m2⟩ : ∃ m : Nat, 1 + v0 % 6 = (m : Int) ∧ 1 ≤ m ∧ m ≤ 6 := ⟨(1 + v0 % 6).toNat, by omega, by omega, by omega⟩
    have hL : ((names.map D.str).length : Int) = (names.length : Int) := by rw [List.length_map]
    have hl0 : (0 : Int) < (names.length : Int) := by omega
    obtain ⟨⟨A, r1⟩, ⟨a1, a2, a3, a4, a5, a6⟩, hf⟩ := forD_exI (bd := bName 4) (cl := [4]) (body := fw1) (st := fun p : List Arc × List Int => fwSt p.2 (names.map .str) m (p.1.map arcK) (p.1.map fun _ => .bl true)) (φ := fun i : Nat => D.int (1 + (i : Int))) (I := fun j p => (∀ x ∈ p.1, x.1 < m ∧ x.2.1 ∈ names ∧ x.2.2 < m) ∧ p.1.length ≤ j ∧ p.1.Nodup ∧ (∀ s, s < 1 + j → Rch p.1 s) ∧ p.2.length + 2 * j = 39 ∧ NN p.2) (List.range (m - 1)) 0 ([], r) ⟨fun x h => (by cases h), Nat.zero_le _, List.nodup_nil, fun s h => (by rw [show s = 0 by omega]; exact .zero), by simpa using hr, hnn.tl⟩ fun j p i hi hI => by
      obtain ⟨rfl, hin⟩ := range_at hi
      obtain ⟨q1, q2, q3, q4, q5, q6⟩ := hI
      rw [Nat.zero_add] at q2 q4 q5
      obtain ⟨A, r⟩ := p
      simp only at q1 q2 q3 q4 q5 q6
      match r, q5, q6 with
      | a :: b :: r, q5, q6 =>
        obtain ⟨u, hu, hul⟩ : ∃ u : Nat, a % (1 + (i : Int)) = u ∧ u < 1 + i := by
          have h1 := Int.emod_nonneg a (show 1 + (i : Int) ≠ 0 by omega)
          have h2 := Int.emod_lt_of_pos a (show 0 < 1 + (i : Int) by omega)
          exact ⟨(a % (1 + (i : Int))).toNat, by omega, by omega⟩
        obtain ⟨nm, hn, hat⟩ := nm_at2 h0 b
        have hpt := put_set (L := A) (f := arcK) (x := .bl true) (a := (u, nm, 1 + i)) arcK_inj
        refine ⟨(ins A (u, nm, 1 + i), r), ⟨fun x hx => ?_, ?_, ins_nodup q3, fun s hs => ?_, by simp at q5 ⊢; omega, q6.tl.tl⟩, ?_⟩
        · rcases ins_mem.mp hx with h | rfl
          · exact q1 x h
          · exact ⟨by show u < m; omega, hn, by show 1 + i < m; omega⟩
        · have := ins_len (L := A) (a := (u, nm, 1 + i)); show (ins A (u, nm, 1 + i)).length ≤ _; omega
        · by_cases h3 : s < 1 + i
          · exact (q4 s h3).mono fun x hx => ins_mem.mpr (.inl hx)
          · have h4 : s = 1 + i := by omega
            subst h4
            exact Rch.arc (B := ins A (u, nm, 1 + i)) (x := (u, nm, 1 + i)) (ins_mem.mpr (.inr rfl)) ((q4 u hul).mono fun x hx => ins_mem.mpr (.inl hx))
        · have e : arcK (u, nm, 1 + i) = [.inl (u : Int), .inr nm, .inl (1 + (i : Int))] := by
            unfold arcK
            simp only
            rw [show ((1 + i : Nat) : Int) = 1 + (i : Int) by omega]
          rw [e] at hpt
          exact fw1_turn (by omega) hL hl0 hu hat hpt.1 hpt.2 (pureL_map (fun _ => rfl) A) (by rw [List.length_map]; show A.length < _; omega)
      | [], q5, _ => simp at q5; omega
      | [_], q5, _ => simp at q5; omega
    rw [List.length_range, Nat.zero_add] at a2 a4 a5
    simp only at a1 a2 a3 a4 a5 a6
    match r1, a5, a6 with
    | v1 :: r1, a5, a6 =>
      have n1 := a6.hd
      obtain ⟨c, hc, c2⟩ : ∃ c : Nat, v1 % 4 = (c : Int) ∧ c ≤ 3 := ⟨(v1 % 4).toNat, by omega, by omega⟩
      obtain ⟨⟨C, r2⟩, ⟨b1, b2, b3, b4, b5, b6⟩, hg⟩ := forD_exI (bd := bName 4) (cl := [4]) (body := fw2) (st := fun p : List Arc × List Int => fwSt p.2 (names.map .str) m (p.1.map arcK) (p.1.map fun _ => .bl true)) (φ := fun i : Nat => D.int (i : Int)) (I := fun j p => (∀ x ∈ p.1, x.1 < m ∧ x.2.1 ∈ names ∧ x.2.2 < m) ∧ p.1.length ≤ m + j ∧ p.1.Nodup ∧ (∀ s, s < m → Rch p.1 s) ∧ 20 ≤ p.2.length + 3 * j ∧ NN p.2) (List.range c) 0 (A, r1) ⟨a1, (by show A.length ≤ _; omega), a3, fun s hs => a4 s (by omega), (by simp at a5 ⊢; omega), a6.tl⟩ fun j p i hi hI => by
        obtain ⟨rfl, hin⟩ := range_at hi
        obtain ⟨q1, q2, q3, q4, q5, q6⟩ := hI
        rw [Nat.zero_add] at q2 q5
        obtain ⟨A, r⟩ := p
        simp only at q1 q2 q3 q4 q5 q6
        match r, q5, q6 with
        | a :: b :: c :: r, q5, q6 =>
          have hm0 : (0 : Int) < (m : Int) := by omega
          obtain ⟨u, hu, hul⟩ : ∃ u : Nat, a % (m : Int) = u ∧ u < m := by
            have h1 := Int.emod_nonneg a (show (m : Int) ≠ 0 by omega)
            have h2 := Int.emod_lt_of_pos a hm0
            exact ⟨(a % (m : Int)).toNat, by omega, by omega⟩
          obtain ⟨w, hw, hwl⟩ : ∃ u : Nat, c % (m : Int) = u ∧ u < m := by
            have h1 := Int.emod_nonneg c (show (m : Int) ≠ 0 by omega)
            have h2 := Int.emod_lt_of_pos c hm0
            exact ⟨(c % (m : Int)).toNat, by omega, by omega⟩
          obtain ⟨nm, hn, hat⟩ := nm_at2 h0 b
          have hpt := put_set (L := A) (f := arcK) (x := .bl true) (a := (u, nm, w)) arcK_inj
          refine ⟨(ins A (u, nm, w), r), ⟨fun x hx => ?_, ?_, ins_nodup q3, fun s hs => (q4 s hs).mono fun x hx => ins_mem.mpr (.inl hx), by simp at q5 ⊢; omega, q6.tl.tl.tl⟩, ?_⟩
          · rcases ins_mem.mp hx with h | rfl
            · exact q1 x h
            · exact ⟨hul, hn, hwl⟩
          · have := ins_len (L := A) (a := (u, nm, w)); show (ins A (u, nm, w)).length ≤ _; omega
          · exact fw2_turn hm0 hL hl0 hu hw hat hpt.1 hpt.2 (pureL_map (fun _ => rfl) A) (by rw [List.length_map]; show A.length < _; omega)
        | [], q5, _ => simp at q5; omega
        | [_], q5, _ => simp at q5; omega
        | [_, _], q5, _ => simp at q5; omega
      rw [List.length_range, Nat.zero_add] at b2 b5
      simp only at b1 b2 b3 b4 b5 b6
      obtain ⟨B, hs, hp, hpw⟩ := sort_arcs C
      refine ⟨m, B, r2, ?_, ⟨m1, by omega, by rw [hp.length_eq]; omega, hp.nodup_iff.mpr b3, fun x hx => b1 x (hp.mem_iff.mp hx), fun s h => (b4 s h).mono fun x hx => hp.mem_iff.mpr hx, hpw⟩⟩
      have hr1 : inRng (1 : Int) = true := inRng_of (by decide)
      have hrm : inRng (m : Int) = true := inRng_of (by omega)
      have hrc : inRng (c : Int) = true := inRng_of (by omega)
      have hrd := rngD_map 1 (m - 1)
      have hrd2 := rng_map c
      have hmn : ((m : Int) - 1).toNat = m - 1 := by omega
      dsimp only [fwSt] at hf hg
      simp only [List.map_nil] at hf
      clear a1 a2 a3 a4 a5 a6 b1 b2 b3 b4 b5 b6 hp hpw
      generalize (A.map arcK) = kA at *
      generalize (A.map fun _ => D.bl true) = vA at *
      generalize (C.map arcK) = kC at *
      generalize (C.map fun _ => D.bl true) = vC at *
      generalize (List.range (m - 1)).map (fun i : Nat => D.int (1 + (i : Int))) = R at *
      generalize (List.range c).map (fun i : Nat => D.int (i : Int)) = R2 at *
      generalize B.map arcD = BD at *
      generalize names.map D.str = NS at *
      simp [fn_law_few, fw_eq, hm, hr1, hrm, hmn, hrd, hf, hc, hrc, hrd2, hg, hs]
    | [], a5, _ => simp at a5; omega
  | [], hr => simp at hr
end DL

namespace DL
open PySem PySem.Spec PyProof.Rows L2
/-! ### a chain of arcs -/
def wdElt : DEnv → Out (D × DEnv) := (eK (.pur (hVar 4) (.own (eOp (.plc 1 (pVar 1) (.own (eOp (.own (isL 0 (eK (.io 0 (.fin [])) popK)) (.fin [.pur (hOp [.plc 1 (pVar 1)] gLen)])) gMod) (.fin []))) gIx) (.fin [.pur (hOp [.pur (hVar 4), .pur (hC (.int 1))] gAdd)]))) (dspK .tup))
theorem wd_eq : b_law_word = (sSeq (sSet 2 (eOp (.pur (hC (.int 1)) (.own (eOp (.own (isL 0 (eK (.io 0 (.fin [])) popK)) (.fin [.pur (hC (.int 7))])) gMod) (.fin []))) gAdd))
  (sSeq (sSet 3 (lcE [.pur (hVar 2)] mkRange1 (bName 4) eYes wdElt [4]))
  (sSeq (sIfE (eB (eOp (.own (eOp (.own (isL 0 (eK (.io 0 (.fin [])) popK)) (.fin [.pur (hC (.int 3))])) gMod) (.fin [.pur (hC (.int 0))])) gEq)) (sSeq (sExpr (isL 3 (eK (.io 3 (.own (eK (.pur (hVar 2) (.own (eOp (.plc 1 (pVar 1) (.own (eOp (.own (isL 0 (eK (.io 0 (.fin [])) popK)) (.fin [.pur (hOp [.plc 1 (pVar 1)] gLen)])) gMod) (.fin []))) gIx) (.own (eOp (.own (isL 0 (eK (.io 0 (.fin [])) popK)) (.fin [.pur (hVar 2)])) gMod) (.fin [])))) (dspK .tup)) (.fin []))) appK)))
  sNop) sNop)
  (sSeq (sRet (eOp (.fin [.plc 3 (pVar 3)]) gSorted))
  sNop)))) := rfl
theorem wd_elt {a k l n : Int} {r : List Int} {NS : List D} {nm : Str} (hL : (NS.length : Int) = l) (hl : 0 < l) (h2 : atI NS (a % l) = some (.str nm)) : (must (bName 4 (.int k) [some (.io, .lst (rv (a :: r))), some (.brw, .lst NS), some (.own, .int n), none, none]) fun e => wdElt e >>= fun q => must (dropS [4] q.2) fun e2 => Out.ok (q.1, e2)) = .ok (.tup [.int k, .str nm, .int (k + 1)], [some (.io, .lst (rv r)), some (.brw, .lst NS), some (.own, .int n), none, none]) := by
  unfold wdElt
  simp [hL, hl, h2]
/-- a chain of n arcs -/
def Chain (names : List Str) (n : Nat) (A : List Arc) : Prop := A.length = n ∧ ∀ k x, A[k]? = some x → x.1 = k ∧ x.2.2 = k + 1 ∧ x.2.1 ∈ names
theorem Chain.rch {names : List Str} {n : Nat} {A : List Arc} (h : Chain names n A) : ∀ s, s ≤ n → Rch A s
  | 0, _ => .zero
  | s + 1, hs => by
    obtain ⟨x, hx⟩ : ∃ x, A[s]? = some x := ⟨_, List.getElem?_eq_getElem (by rw [h.1]; omega)⟩
    obtain ⟨e1, e2, _⟩ := h.2 s x hx
    rw [← e2]
    exact .arc (List.mem_of_getElem? hx) (by rw [e1]; exact h.rch s (by omega))
theorem Chain.nodup {names : List Str} {n : Nat} {A : List Arc} (h : Chain names n A) : A.Nodup := by
  rw [List.nodup_iff_pairwise_ne, List.pairwise_iff_getElem]
  intro i j hi hj hij e
  have a1 := (h.2 i _ (List.getElem?_eq_getElem hi)).1
  have a2 := (h.2 j _ (List.getElem?_eq_getElem hj)).1
  rw [e] at a1
  omega
theorem Chain.mem {names : List Str} {n : Nat} {A : List Arc} (h : Chain names n A) : ∀ x ∈ A, x.1 < n ∧ x.2.1 ∈ names ∧ x.2.2 < n + 1 := fun x hx => by
  obtain ⟨k, hk⟩ := List.mem_iff_getElem?.mp hx
  have hl := (List.getElem?_eq_some_iff.mp hk).1
  obtain ⟨e1, e2, e3⟩ := h.2 k x hk
  rw [h.1] at hl
  exact ⟨by omega, e3, by omega⟩
theorem word_ok {names : List Str} {r : List Int} (hr : r.length = 40) (hnn : NN r) (h0 : 0 < names.length) (hn3 : names.length ≤ 3) : ∃ (many : Nat) (B : List Arc) (r' : List Int), fn_law_word [.lst (rv r), .lst (names.map .str)] = .ok (.lst (B.map arcD), [.lst (rv r')]) ∧ AOk many names B := by
  match r, hr with
  | v0 :: r, hr =>
    have n0 := hnn.hd
    obtain ⟨m, hm, m1, m2⟩ : ∃ m : Nat, 1 + v0 % 7 = (m : Int) ∧ 1 ≤ m ∧ m ≤ 7 := ⟨(1 + v0 % 7).toNat, by omega, by omega, by omega⟩
    have hL : ((names.map D.str).length : Int) = (names.length : Int) := by rw [List.length_map]
    have hl0 : (0 : Int) < (names.length : Int) := by omega
    obtain ⟨A, r1, a1, a2, ⟨a3, a4⟩, hlc⟩ := lcG_exI (bd := bName 4) (cl := [4]) (elt := wdElt) (st := fun r : List Int => [some (.io, .lst (rv r)), some (.brw, .lst (names.map .str)), some (.own, .int (m : Int)), none, none]) (φ := fun k : Nat => D.int (k : Int)) (ω := fun x : Arc => arcD x) (R := fun (k : Nat) (x : Arc) => x.1 = k ∧ x.2.2 = k + 1 ∧ x.2.1 ∈ names) (I := fun j r => r.length + j = 39 ∧ NN r) (List.range m) 0 r ⟨by simpa using hr, hnn.tl⟩ fun j r k hk hI => by
      obtain ⟨rfl, hkm⟩ := range_at hk
      obtain ⟨q1, q2⟩ := hI
      rw [Nat.zero_add] at q1
      match r, q1, q2 with
      | a :: r, q1, q2 =>
        obtain ⟨nm, hn, hat⟩ := nm_at2 h0 a
        exact ⟨(k, nm, k + 1), r, ⟨rfl, rfl, hn⟩, ⟨by simp at q1; omega, q2.tl⟩, wd_elt hL hl0 hat⟩
      | [], q1, _ => simp at q1; omega
    rw [List.length_range] at a1
    rw [List.length_range, Nat.zero_add] at a3
    have hch : Chain names m A := ⟨a1, fun k x hx => a2 k k x (by rw [List.getElem?_range (by have := (List.getElem?_eq_some_iff.mp hx).1; omega)]) hx⟩
    have hir : inRng (m : Int) = true := inRng_of (by omega)
    have hrm := rng_map m
    have hrl : ((List.range m).map fun k : Nat => D.int (k : Int)).length < 16777216 := by simp; omega
    match r1, a3, a4 with
    | v1 :: v2 :: v3 :: r1, a3, a4 =>
      have n1 := a4.hd
      by_cases h3 : v1 % 3 = 0
      · obtain ⟨nm, hn, hat⟩ := nm_at2 h0 v2
        have hm0 : (0 : Int) < (m : Int) := by omega
        obtain ⟨w, hw, hwl⟩ : ∃ u : Nat, v3 % (m : Int) = u ∧ u < m := by
          have h1 := Int.emod_nonneg v3 (show (m : Int) ≠ 0 by omega)
          have h2 := Int.emod_lt_of_pos v3 hm0
          exact ⟨(v3 % (m : Int)).toNat, by omega, by omega⟩
        obtain ⟨B, hs, hp, hpw⟩ := sort_arcsL (A ++ [(m, nm, w)])
        refine ⟨m + 1, B, r1, ?_, ⟨by omega, by omega, by rw [hp.length_eq]; simp; omega, hp.nodup_iff.mpr ?_, fun x hx => ?_, fun s h => ((hch.rch s (by omega)).mono fun x hx => List.mem_append_left _ hx).mono fun x hx => hp.mem_iff.mpr hx, hpw⟩⟩
        rotate_left
        · rw [List.nodup_append]
          exact ⟨hch.nodup, by simp, fun a ha b hb e => by
            have := (hch.mem a ha).1
            rw [e, List.mem_singleton.mp hb] at this
            exact Nat.lt_irrefl _ this⟩
        · rcases List.mem_append.mp (hp.mem_iff.mp hx) with h | h
          · have := hch.mem x h
            exact ⟨by omega, this.2⟩
          · rw [List.mem_singleton.mp h]
            exact ⟨by show m < m + 1; omega, hn, by show w < m + 1; omega⟩
        · have ll : (A.map fun x : Arc => arcD x).length < 16777216 := by rw [List.length_map, a1]; omega
          rw [List.map_append, List.map_cons, List.map_nil] at hs
          dsimp only [arcD] at hs
          clear hp hpw hch a2
          generalize B.map (fun x : Arc => D.tup [.int (x.1 : Int), .str x.2.1, .int (x.2.2 : Int)]) = BD at *
          dsimp only [arcD] at hlc ll
          generalize A.map (fun x : Arc => D.tup [.int (x.1 : Int), .str x.2.1, .int (x.2.2 : Int)]) = AD at *
          generalize (List.range m).map (fun k : Nat => D.int (k : Int)) = R at *
          generalize names.map D.str = NS at *
          simp [fn_law_word, wd_eq, hm, hir, hrm, hrl, hlc, h3, hL, hl0, h0, hat, m1, show 0 < m by omega, hm0, hw, ll, hs]
      · obtain ⟨B, hs, hp, hpw⟩ := sort_arcsL A
        refine ⟨m + 1, B, v2 :: v3 :: r1, ?_, ⟨by omega, by omega, by rw [hp.length_eq]; omega, hp.nodup_iff.mpr hch.nodup, fun x hx => ?_, fun s h => (hch.rch s (by omega)).mono fun x hx => hp.mem_iff.mpr hx, hpw⟩⟩
        rotate_left
        · have := hch.mem x (hp.mem_iff.mp hx)
          exact ⟨by omega, this.2⟩
        · clear hp hpw hch a2
          generalize B.map arcD = BD at *
          generalize A.map (fun x : Arc => arcD x) = AD at *
          generalize (List.range m).map (fun k : Nat => D.int (k : Int)) = R at *
          generalize names.map D.str = NS at *
          generalize hrv : rv (v2 :: v3 :: r1) = RV at *
          simp [fn_law_word, wd_eq, hm, hir, hrm, hrl, hlc, h3, hs, hrv]
    | [], a3, _ => simp at a3; omega
    | [_], a3, _ => simp at a3; omega
    | [_, _], a3, _ => simp at a3; omega
  | [], hr => simp at hr
/-! ### fewer arcs -/
@[simp] theorem z_catLL {xs ys : List D} : fCatLL (.lst xs) (.lst ys) = iff? (D.pureL xs = true ∧ D.pureL ys = true ∧ xs.length + ys.length ≤ 16777216) (.lst (xs ++ ys)) := rfl
def flBody : Stm := (sSeq (sIfE (eB (eOp (.plc 0 (pVar 0) (.own (eK (.fin []) (dspK .lst)) (.fin []))) gNe)) (sSeq (sSet 3 (eP (hOp [.pur (hVar 2), .pur (hOp [.plc 0 (pVar 0)] gLen)] gMod)))
  (sSeq (sSet 4 (eOp (.own (eOp (.fin [.plc 0 (pVar 0), .int (hVar 3)]) (slH fSlL)) (.own (eOp (.fin [.plc 0 (pVar 0), .int (hOp [.pur (hVar 3), .pur (hC (.int 1))] gAdd)]) (slL fSlL)) (.fin []))) gCatLL))
  (sSeq (sIfE (eB (eOp (.own (eOp (.own (eK (.fin [.plc 4 (pVar 4)]) (callK [.b] fn_law_come_to)) (.fin [])) gLenD) (.own (eOp (.own (eK (.fin [.plc 0 (pVar 0)]) (callK [.b] fn_law_come_to)) (.fin [])) gLenD) (.fin []))) gEq)) (sSeq (sSet 0 (eMov 4))
  sNop) sNop)
  sNop))) sNop)
  sNop)
theorem fl_eq : b_law_fewer = (sSeq (sFor [.plc 1 (pVar 1)] mkSeq (bName 2) [2, 3, 4] flBody)
  (sSeq (sRet (eMov 0))
  sNop)) := rfl
/-- all of it, and nothing but -/
theorem AOk.all {many : Nat} {names : List Str} {B : List Arc} (h : AOk many names B) {s : Nat} : s ∈ ctAll B ↔ s < many := by
  rw [ctAll_mem]
  refine ⟨fun r => ?_, h.rch s⟩
  cases r with
  | zero => exact h.m1
  | arc hx _ => exact (h.arcs _ hx).2.2
theorem AOk.sub {many : Nat} {names : List Str} {B C : List Arc} (h : AOk many names B) (hs : C.Sublist B) (hl : (ctAll C).length = (ctAll B).length) : AOk many names C := by
  have hsub : ∀ s ∈ ctAll C, s ∈ ctAll B := fun s hs2 => (ctAll_mem B).mpr (((ctAll_mem C).mp hs2).mono fun x hx => hs.subset hx)
  refine ⟨h.m1, h.m2, Nat.le_trans hs.length_le h.lb, h.bn.sublist hs, fun x hx => h.arcs x (hs.subset hx), fun s hs2 => ?_, h.bs.sublist hs⟩
  have hB := h.all.mpr hs2
  refine (ctAll_mem C).mp (Classical.byContradiction fun hn => ?_)
  have := nodup_subN (l1 := s :: ctAll C) (l2 := ctAll B) (List.nodup_cons.mpr ⟨hn, (ctAll_I C).1⟩) fun x hx => (List.mem_cons.mp hx).elim (fun e => e ▸ hB) (hsub x)
  simp at this
  omega
theorem drop_sub {B : List Arc} (k : Nat) : (B.take k ++ B.drop (k + 1)).Sublist B := by
  have h : (B.drop (k + 1)).Sublist (B.drop k) := by
    rw [← List.drop_drop]
    exact List.drop_sublist _ _
  have := (List.Sublist.refl (B.take k)).append h
  rwa [List.take_append_drop] at this
theorem fl_turn {many : Nat} {names : List Str} {B : List Arc} {c : Int} {CS : List D} (h : AOk many names B) (hok : ∀ s ∈ names, PyData.strOk s = true) : ∃ C, AOk many names C ∧ Turn1 (bName 2) [2, 3, 4] flBody (.int c) [some (.own, .lst (B.map arcD)), some (.brw, .lst CS), none, none, none] [some (.own, .lst (C.map arcD)), some (.brw, .lst CS), none, none, none] := by
  have hnil := eq_nilL (n := 5) (ds := B.map arcD) (fun d hd => by
    obtain ⟨x, hx, rfl⟩ := List.mem_map.mp hd
    refine Lay.tup fun d hd => ?_
    simp only [List.mem_cons, List.not_mem_nil, or_false] at hd
    rcases hd with rfl | rfl | rfl
    · exact Lay.int
    · exact Lay.str (hok _ (h.arcs x hx).2.1)
    · exact Lay.int) (by decide)
  have hlb := h.lb
  by_cases hB : B = []
  · subst hB
    refine ⟨[], h, ?_⟩
    simp only [List.map_nil] at hnil ⊢
    unfold Turn1 flBody
    simp
  · have hl : 0 < B.length := List.length_pos_iff.mpr hB
    have hne : ¬ B.map arcD = [] := by simpa using hB
    rw [decide_eq_false hne] at hnil
    have hL : ((B.map arcD).length : Int) = (B.length : Int) := by rw [List.length_map]
    have hl0 : (0 : Int) < (B.length : Int) := by omega
    obtain ⟨k, hk, hkl⟩ : ∃ u : Nat, c % (B.length : Int) = u ∧ u < B.length := by
      have h1 := Int.emod_nonneg c (show (B.length : Int) ≠ 0 by omega)
      have h2 := Int.emod_lt_of_pos c hl0
      exact ⟨(c % (B.length : Int)).toNat, by omega, by omega⟩
    have c1 : cutD (B.map arcD) none (some (k : Int)) = (B.take k).map arcD := by rw [cutD_take', List.map_take]
    have c2 : cutD (B.map arcD) (some ((k : Int) + 1)) none = (B.drop (k + 1)).map arcD := by
      have := cutD_drop' (B.map arcD) (k + 1)
      rw [List.map_drop]
      exact this
    have hpB : D.pureL (B.map arcD) = true := pureL_map (φ := fun x : Arc => arcD x) (fun _ => rfl) B
    have p1 : D.pureL ((B.take k).map arcD) = true := pureL_map (φ := fun x : Arc => arcD x) (fun _ => rfl) _
    have p2 : D.pureL ((B.drop (k + 1)).map arcD) = true := pureL_map (φ := fun x : Arc => arcD x) (fun _ => rfl) _
    have l12 : ((B.take k).map arcD).length + ((B.drop (k + 1)).map arcD).length ≤ 16777216 := by simp; omega
    have happ : (B.take k).map arcD ++ (B.drop (k + 1)).map arcD = (B.take k ++ B.drop (k + 1)).map arcD := by rw [List.map_append]
    have hcl : (B.take k ++ B.drop (k + 1)).length ≤ 100 := by simp; omega
    have q1 := come_ok (B.take k ++ B.drop (k + 1)) hcl
    have q2 := come_ok B (by omega)
    have hsub := drop_sub (B := B) k
    generalize hC : B.take k ++ B.drop (k + 1) = C at *
    have s1 : (((ctAll C).map kN).length : Int) = ((ctAll C).length : Int) := by rw [List.length_map]
    have s2 : (((ctAll B).map kN).length : Int) = ((ctAll B).length : Int) := by rw [List.length_map]
    have hAC : ((B.take k).map arcD ++ (B.drop (k + 1)).map arcD).length = ((B.take k).map arcD ++ (B.drop (k + 1)).map arcD).length := rfl
    by_cases hs : (ctAll C).length = (ctAll B).length
    · refine ⟨C, h.sub hsub hs, ?_⟩
      have hsd : (((ctAll C).length : Nat) : Int) = (((ctAll B).length : Nat) : Int) := by rw [hs]
      clear h hsub hs hC hB hne hAC
      generalize ((ctAll C).map kN) = k1 at *
      generalize ((ctAll B).map kN) = k2 at *
      generalize ((ctAll C).map fun _ => D.bl true) = w1 at *
      generalize ((ctAll B).map fun _ => D.bl true) = w2 at *
      generalize (((ctAll C).length : Nat) : Int) = z1 at *
      generalize (((ctAll B).length : Nat) : Int) = z2 at *
      generalize C.map arcD = CD at *
      generalize (B.take k).map arcD = B1 at *
      generalize (B.drop (k + 1)).map arcD = B2 at *
      generalize B.map arcD = BD at *
      unfold Turn1 flBody
      simp [hnil, hL, hl, hl0, hk, c1, c2, hpB, p1, p2, l12, happ, q1, q2, s1, s2, hsd]
    · refine ⟨B, h, ?_⟩
      have hsd : ¬ (((ctAll C).length : Nat) : Int) = (((ctAll B).length : Nat) : Int) := by omega
      clear h hsub hs hC hB hne hAC
      generalize ((ctAll C).map kN) = k1 at *
      generalize ((ctAll B).map kN) = k2 at *
      generalize ((ctAll C).map fun _ => D.bl true) = w1 at *
      generalize ((ctAll B).map fun _ => D.bl true) = w2 at *
      generalize (((ctAll C).length : Nat) : Int) = z1 at *
      generalize (((ctAll B).length : Nat) : Int) = z2 at *
      generalize C.map arcD = CD at *
      generalize (B.take k).map arcD = B1 at *
      generalize (B.drop (k + 1)).map arcD = B2 at *
      generalize B.map arcD = BD at *
      unfold Turn1 flBody
      simp [hnil, hL, hl, hl0, hk, c1, c2, hpB, p1, p2, l12, happ, q1, q2, s1, s2, hsd]
theorem fewer_ok {many : Nat} {names : List Str} {B : List Arc} (cs : List Int) (h : AOk many names B) (hok : ∀ s ∈ names, PyData.strOk s = true) : ∃ C, fn_law_fewer [.lst (B.map arcD), .lst (cs.map .int)] = .ok (.lst (C.map arcD), []) ∧ AOk many names C := by
  obtain ⟨C, hC, hf⟩ := forD_ex (bd := bName 2) (cl := [2, 3, 4]) (body := flBody) (st := fun B : List Arc => [some (.own, .lst (B.map arcD)), some (.brw, .lst (cs.map .int)), none, none, none]) (φ := D.int) (I := fun B => AOk many names B) cs B h fun B c hc hI => fl_turn hI hok
  refine ⟨C, ?_, hC⟩
  generalize C.map arcD = CD at *
  generalize B.map arcD = BD at *
  generalize cs.map D.int = CS at *
  simp [fn_law_fewer, fl_eq, hf]
end DL

namespace DL
open PySem PySem.Spec PyProof.Rows L2
/-! ### lists without twins -/
theorem nodup_sub {α : Type} [DecidableEq α] : ∀ {l1 l2 : List α}, l1.Nodup → (∀ x ∈ l1, x ∈ l2) → l1.length ≤ l2.length
  | [], l2, _, _ => Nat.zero_le _
  | a :: r, l2, h, hs => by
    have h1 := List.nodup_cons.mp h
    have ha := hs a List.mem_cons_self
    have q := nodup_sub (l1 := r) (l2 := l2.erase a) h1.2 fun x hx => (List.mem_erase_of_ne (by intro e; subst e; exact h1.1 hx)).mpr (hs x (List.mem_cons_of_mem _ hx))
    rw [List.length_erase_of_mem ha] at q
    have := List.length_pos_of_mem ha
    rw [List.length_cons]
    omega
theorem key_inj {α β : Type} {f : α → β} : ∀ {l : List α} {i j : Nat} {a b : α}, (l.map f).Nodup → l[i]? = some a → l[j]? = some b → f a = f b → i = j := by
  intro l i j a b h hi hj e
  obtain ⟨h1, e1⟩ := List.getElem?_eq_some_iff.mp hi
  obtain ⟨h2, e2⟩ := List.getElem?_eq_some_iff.mp hj
  rcases Nat.lt_trichotomy i j with h3 | h3 | h3
  · have := (List.pairwise_iff_getElem.mp h) i j (by simpa using h1) (by simpa using h2) h3
    simp only [List.getElem_map] at this
    rw [e1, e2] at this
    exact absurd e this
  · exact h3
  · have := (List.pairwise_iff_getElem.mp h) j i (by simpa using h2) (by simpa using h1) h3
    simp only [List.getElem_map] at this
    rw [e1, e2] at this
    exact absurd e.symm this
theorem look_mem {κ α : Type} [DecidableEq κ] {L : List α} {f : α → κ} {g : α → D} {a : α} {k : κ} (ha : a ∈ L) (h : f a = k) : ∃ d, lookP (L.map f) (L.map g) k = some d := by
  unfold lookP
  rw [zip_maps]
  cases hf : (L.map fun a => (f a, g a)).find? fun p => decide (p.1 = k) with
  | none =>
    rw [List.find?_eq_none] at hf
    exact absurd (by simpa using h) (hf _ (List.mem_map.mpr ⟨a, ha, rfl⟩))
  | some p => exact ⟨_, rfl⟩
/-! ### the tree -/
abbrev Ent := Nat × Option Arc × List Str
def optD : Option Arc → D
  | none => .non
  | some x => arcD x
theorem optD_pure (o : Option Arc) : (optD o).pure = true := by cases o <;> rfl
abbrev entK (e : Ent) : Key := .inl (e.1 : Int)
abbrev trD (T : List Ent) : D := .dk (T.map entK) (T.map fun e => optD e.2.1)
def tstep (here : Nat) (w : List Str) (T : List Ent) (x : Arc) : List Ent := if x.1 = here ∧ ∀ e ∈ T, e.1 ≠ x.2.2 then T ++ [(x.2.2, some x, w ++ [x.2.1])] else T
def tBody : Stm := (sSeq (sIf (hAnd (hB (hOp [.pur (hRd (pIx (pVar 4) (hC (.int 0)))), .pur (hVar 3)] gEq)) (hB (hOp [.pur (hRd (pIx (pVar 4) (hC (.int 2)))), .plc 1 (pVar 1)] gDNotIn))) (sSeq (sExpr (eK (.pur (hVar 4) (.io 1 (.fin [.pur (hRd (pIx (pVar 4) (hC (.int 2))))]))) setDK))
  sNop) sNop)
  sNop)
def tWh : Stm := (sSeq (sSeq (sSet 3 (eOp (.own (eOp (.fin [.plc 1 (pVar 1)]) gListD) (.fin [.pur (hVar 2)])) gIx))
  (sSeq (sFor [.plc 0 (pIx (pVar 0) (hC (.int 1)))] mkSeq (bName 4) [4] tBody)
  (sSeq (sAug 2 (bin (bI fun a b => some (.int (a + b)))) (eP (hC (.int 1))))
  sNop))) (sDrop [3, 4]))
abbrev tC : DEnv → Out (Bool × DEnv) := (eBp (hB (hOp [.pur (hVar 2), .pur (hOp [.plc 1 (pVar 1)] gLenD)] gLt)))
theorem ta_eq : b_tree_arcs = (sSeq (sSet 1 (eOp (.fin []) (gOne (.inl 0) .non)))
  (sSeq (sSet 2 (eP (hC (.int 0))))
  (sSeq (sWhile tC tWh)
  (sSeq (sRet (eMov 1))
  sNop)))) := rfl
abbrev tSt (C : D) (T : List Ent) (done : Int) (s : Slot) : DEnv := [some (.brw, C), some (.own, trD T), some (.own, .int done), s, none]
theorem t_turn (C : D) (T : List Ent) (done : Int) (here : Nat) (w : List Str) (x : Arc) (hl : T.length < 1000) : Turn1 (bName 4) [4] tBody (arcD x) (tSt C T done (some (.own, .int here))) (tSt C (tstep here w T x) done (some (.own, .int here))) := by
  have hpl : D.pureL (T.map fun e => optD e.2.1) = true := pureL_map (fun e => optD_pure e.2.1) T
  have hkl : (T.map entK).length < 16777216 := by rw [List.length_map]; omega
  obtain ⟨a, m, b⟩ := x
  have a0 : atI [D.int (a : Int), D.str m, D.int (b : Int)] 0 = some (.int (a : Int)) := at0 _ _
  have a2 : atI [D.int (a : Int), D.str m, D.int (b : Int)] 2 = some (.int (b : Int)) := at2 _ _ _ _
  unfold tstep
  by_cases h1 : a = here
  · subst h1
    by_cases h2 : ∀ e ∈ T, e.1 ≠ b
    · have hk : ∀ e ∈ T, entK e ≠ Sum.inl (b : Int) := fun e he q => h2 e he (by
        have q : ((e.1 : Int)) = b := Sum.inl.inj q
        omega)
      have hn := look_none (g := fun e : Ent => optD e.2.1) hk
      have hp := put_new (g := fun e : Ent => optD e.2.1) (x := D.tup [D.int (a : Int), D.str m, D.int (b : Int)]) hk
      rw [if_pos ⟨rfl, h2⟩]
      simp only [tSt, trD, List.map_append, List.map_cons, List.map_nil]
      show Turn1 _ _ _ _ _ [_, some (.own, .dk (_ ++ [Sum.inl (b : Int)]) (_ ++ [D.tup [D.int (a : Int), D.str m, D.int (b : Int)]])), _, _, _]
      generalize T.map entK = ks at *
      generalize (T.map fun e : Ent => optD e.2.1) = vs at *
      unfold Turn1 tBody
      simp [a0, a2, hn, hpl, hkl, hp.1, hp.2]
    · rw [if_neg fun q => h2 q.2]
      have h3 : ∃ e ∈ T, e.1 = b := by
        simp only [Classical.not_forall] at h2
        obtain ⟨e, he, hq⟩ := h2
        exact ⟨e, he, Classical.not_not.mp hq⟩
      obtain ⟨e, he, hq⟩ := h3
      obtain ⟨d, hd⟩ := look_mem (g := fun e : Ent => optD e.2.1) (f := entK) (k := Sum.inl (b : Int)) he (by rw [← hq])
      simp only [tSt, trD]
      generalize T.map entK = ks at *
      generalize (T.map fun e : Ent => optD e.2.1) = vs at *
      unfold Turn1 tBody
      simp [a0, a2, hd]
  · rw [if_neg fun q => h1 q.1]
    have h4 : ¬ (a : Int) = (here : Int) := by omega
    simp only [tSt, trD]
    generalize T.map entK = ks at *
    generalize (T.map fun e : Ent => optD e.2.1) = vs at *
    unfold Turn1 tBody
    simp [a0, a2, h4]
/-- what holds between two turns -/
structure TI (many : Nat) (B : List Arc) (T : List Ent) (done : Nat) : Prop where
  nd : (T.map (·.1)).Nodup
  bd : ∀ e ∈ T, e.1 < many
  hd : T[0]? = some (0, none, [])
  tl : ∀ i e, 0 < i → T[i]? = some e → ∃ x ∈ B, ∃ j f, j < i ∧ T[j]? = some f ∧ f.1 = x.1 ∧ e = (x.2.2, some x, f.2.2 ++ [x.2.1])
  dn : done ≤ T.length
  cl : ∀ i e, i < done → T[i]? = some e → ∀ x ∈ B, x.1 = e.1 → ∃ f ∈ T, f.1 = x.2.2 ∧ f.2.2.length ≤ e.2.2.length + 1
  mono : ∀ (i j : Nat) (e f : Ent), i ≤ j → T[i]? = some e → T[j]? = some f → e.2.2.length ≤ f.2.2.length
  top : ∀ c, T[done]? = some c → ∀ e ∈ T, e.2.2.length ≤ c.2.2.length + 1
/-- .. within one -/
structure TJ (many : Nat) (B : List Arc) (T : List Ent) (done : Nat) (c : Ent) (P : List Arc) : Prop where
  nd : (T.map (·.1)).Nodup
  bd : ∀ e ∈ T, e.1 < many
  hd : T[0]? = some (0, none, [])
  tl : ∀ i e, 0 < i → T[i]? = some e → ∃ x ∈ B, ∃ j f, j < i ∧ T[j]? = some f ∧ f.1 = x.1 ∧ e = (x.2.2, some x, f.2.2 ++ [x.2.1])
  cl : ∀ i e, i < done → T[i]? = some e → ∀ x ∈ B, x.1 = e.1 → ∃ f ∈ T, f.1 = x.2.2 ∧ f.2.2.length ≤ e.2.2.length + 1
  mono : ∀ (i j : Nat) (e f : Ent), i ≤ j → T[i]? = some e → T[j]? = some f → e.2.2.length ≤ f.2.2.length
  at_ : T[done]? = some c
  top : ∀ e ∈ T, e.2.2.length ≤ c.2.2.length + 1
  pr : ∀ x ∈ P, x.1 = c.1 → ∃ f ∈ T, f.1 = x.2.2 ∧ f.2.2.length ≤ c.2.2.length + 1
theorem getE_app {α : Type} {T : List α} {a e : α} {i : Nat} (h : (T ++ [a])[i]? = some e) : T[i]? = some e ∨ (i = T.length ∧ e = a) := by
  rcases Nat.lt_trichotomy i T.length with h1 | h1 | h1
  · rw [List.getElem?_append_left h1] at h; exact .inl h
  · right
    rw [List.getElem?_append_right (by omega), h1, Nat.sub_self] at h
    exact ⟨h1, (Option.some.inj h).symm⟩
  · rw [List.getElem?_append_right (by omega)] at h
    have : i - T.length ≠ 0 := by omega
    obtain ⟨k, hk⟩ := Nat.exists_eq_succ_of_ne_zero this
    rw [hk] at h
    cases h
theorem getE_left {α : Type} {T : List α} {a e : α} {i : Nat} (h : T[i]? = some e) : (T ++ [a])[i]? = some e := by
  rw [List.getElem?_append_left (List.getElem?_eq_some_iff.mp h).1]
  exact h
theorem TJ.step {many : Nat} {B P : List Arc} {T : List Ent} {done : Nat} {c : Ent} {x : Arc} (h : TJ many B T done c P) (hx : x ∈ B) (hb : x.2.2 < many) : TJ many B (tstep c.1 c.2.2 T x) done c (P ++ [x]) := by
  unfold tstep
  by_cases h1 : x.1 = c.1 ∧ ∀ e ∈ T, e.1 ≠ x.2.2
  · rw [if_pos h1]
    have mo : ∀ e ∈ T, e ∈ T ++ [(x.2.2, some x, c.2.2 ++ [x.2.1])] := fun e he => List.mem_append_left _ he
    have me : (x.2.2, some x, c.2.2 ++ [x.2.1]) ∈ T ++ [(x.2.2, some x, c.2.2 ++ [x.2.1])] := List.mem_append_right _ List.mem_cons_self
    have ln : (c.2.2 ++ [x.2.1]).length = c.2.2.length + 1 := by simp
    have dl := (List.getElem?_eq_some_iff.mp h.at_).1
    refine ⟨?_, fun e he => ?_, getE_left h.hd, fun i e hi he => ?_, fun i e hi he y hy hy1 => ?_, fun i j e f hij hi hj => ?_, getE_left h.at_, fun e he => ?_, fun y hy hy1 => ?_⟩
    · rw [List.map_append, List.nodup_append]
      refine ⟨h.nd, by simp, fun a ha b hb e => ?_⟩
      obtain ⟨q, hq, rfl⟩ := List.mem_map.mp ha
      simp only [List.map_cons, List.map_nil, List.mem_singleton] at hb
      exact h1.2 q hq (by rw [e, hb])
    · rcases List.mem_append.mp he with q | q
      · exact h.bd e q
      · rw [List.mem_singleton.mp q]; exact hb
    · rcases getE_app he with q | ⟨rfl, rfl⟩
      · obtain ⟨y, hy, j, f, g1, g2, g3⟩ := h.tl i e hi q
        exact ⟨y, hy, j, f, g1, getE_left g2, g3⟩
      · exact ⟨x, hx, done, c, dl, getE_left h.at_, h1.1.symm, rfl⟩
    · rcases getE_app he with q | ⟨q, _⟩
      · obtain ⟨f, g1, g2⟩ := h.cl i e hi q y hy hy1
        exact ⟨f, mo f g1, g2⟩
      · omega
    · rcases getE_app hi with q | ⟨q, rfl⟩
      · rcases getE_app hj with r | ⟨r, rfl⟩
        · exact h.mono i j e f hij q r
        · show _ ≤ (c.2.2 ++ [x.2.1]).length
          rw [ln]
          exact h.top e (List.mem_of_getElem? q)
      · rcases getE_app hj with r | ⟨r, rfl⟩
        · have := (List.getElem?_eq_some_iff.mp r).1
          omega
        · exact Nat.le_refl _
    · rcases List.mem_append.mp he with q | q
      · exact h.top e q
      · rw [List.mem_singleton.mp q]
        exact Nat.le_of_eq ln
    · rcases List.mem_append.mp hy with q | q
      · obtain ⟨f, g1, g2⟩ := h.pr y q hy1
        exact ⟨f, mo f g1, g2⟩
      · rw [List.mem_singleton.mp q]
        exact ⟨_, me, rfl, Nat.le_of_eq ln⟩
  · rw [if_neg h1]
    refine ⟨h.nd, h.bd, h.hd, h.tl, h.cl, h.mono, h.at_, h.top, fun y hy hy1 => ?_⟩
    rcases List.mem_append.mp hy with q | q
    · exact h.pr y q hy1
    · rw [List.mem_singleton.mp q] at hy1 ⊢
      have h2 : ¬ ∀ e ∈ T, e.1 ≠ x.2.2 := fun z => h1 ⟨hy1, z⟩
      simp only [Classical.not_forall] at h2
      obtain ⟨e, he, hq⟩ := h2
      exact ⟨e, he, Classical.not_not.mp hq, h.top e he⟩
theorem TI.start {many : Nat} {B : List Arc} {T : List Ent} {done : Nat} {c : Ent} (h : TI many B T done) (hc : T[done]? = some c) : TJ many B T done c [] := ⟨h.nd, h.bd, h.hd, h.tl, h.cl, h.mono, hc, h.top c hc, fun x hx => by cases hx⟩
theorem TJ.stop {many : Nat} {B : List Arc} {T : List Ent} {done : Nat} {c : Ent} (h : TJ many B T done c B) : TI many B T (done + 1) := ⟨h.nd, h.bd, h.hd, h.tl, (List.getElem?_eq_some_iff.mp h.at_).1, fun i e hi he x hx hx1 => by
    by_cases h1 : i < done
    · exact h.cl i e h1 he x hx hx1
    · have h2 : i = done := by omega
      rw [h2, h.at_] at he
      cases he
      exact h.pr x hx hx1, h.mono, fun c2 hc e he => by
    have := h.mono done (done + 1) c c2 (by omega) h.at_ hc
    have := h.top e he
    omega⟩
theorem TI.len {many : Nat} {B : List Arc} {T : List Ent} {done : Nat} (h : TI many B T done) : T.length ≤ many := by
  have q := nodup_sub (l2 := List.range many) h.nd fun x hx => by
    obtain ⟨e, he, rfl⟩ := List.mem_map.mp hx
    exact List.mem_range.mpr (h.bd e he)
  simpa using q
theorem TJ.len {many : Nat} {B P : List Arc} {T : List Ent} {done : Nat} {c : Ent} (h : TJ many B T done c P) : T.length ≤ many := by
  have q := nodup_sub (l2 := List.range many) h.nd fun x hx => by
    obtain ⟨e, he, rfl⟩ := List.mem_map.mp hx
    exact List.mem_range.mpr (h.bd e he)
  simpa using q
theorem t_wh {many : Nat} {names : List Str} {B : List Arc} {fl : Bool} {T : List Ent} {done : Nat} {c : Ent} (hb : ∀ x ∈ B, x.2.2 < many) (hm : many ≤ 12) (h : TI many B T done) (hc : T[done]? = some c) : TI many B (B.foldl (tstep c.1 c.2.2) T) (done + 1) ∧ tWh (tSt (chD fl names B) T done none) = .ok (.nx (tSt (chD fl names B) (B.foldl (tstep c.1 c.2.2) T) ((done + 1 : Nat) : Int) none)) := by
  have hf := forD_foldI (bd := bName 4) (cl := [4]) (body := tBody) (st := fun T => tSt (chD fl names B) T done (some (.own, .int c.1))) (f := tstep c.1 c.2.2) (φ := arcD) (I := fun j T => TJ many B T done c (B.take j)) B 0 T (h.start hc) fun j T x hx hI => by
    rw [Nat.zero_add] at hI ⊢
    have hxB := List.mem_of_getElem? hx
    refine ⟨?_, t_turn _ T done c.1 c.2.2 x (by have := hI.len; omega)⟩
    have q := hI.step hxB (hb x hxB)
    rw [List.take_succ, hx]
    exact q
  obtain ⟨hf, hJ⟩ := hf
  rw [Nat.zero_add, List.take_length] at hJ
  refine ⟨hJ.stop, ?_⟩
  have hat : atI ((T.map entK).map toKD) (done : Int) = some (.int (c.1 : Int)) := atI_nat (by rw [List.getElem?_map, List.getElem?_map, hc]; rfl)
  dsimp only [tSt, trD, chD] at hf ⊢
  generalize (B.foldl (tstep c.1 c.2.2) T).map entK = ks2 at *
  generalize ((B.foldl (tstep c.1 c.2.2) T).map fun e : Ent => optD e.2.1) = vs2 at *
  generalize T.map entK = ks at *
  generalize (T.map fun e : Ent => optD e.2.1) = vs at *
  generalize B.map arcD = BD at *
  generalize names.map D.str = NS at *
  have e1 : ((done + 1 : Nat) : Int) = (done : Int) + 1 := by omega
  rw [e1]
  unfold tWh
  simp [hat, at1, hf]
/-- the tree, reckoned -/
def tloop (B : List Arc) : Nat → Nat → List Ent → List Ent
  | 0, _, T => T
  | n + 1, done, T => match T[done]? with
    | some c => tloop B n (done + 1) (B.foldl (tstep c.1 c.2.2) T)
    | none => T
abbrev treeOf (B : List Arc) (many : Nat) : List Ent := tloop B many 0 [(0, none, [])]
theorem t_loop {many : Nat} {names : List Str} {B : List Arc} {fl : Bool} (hb : ∀ x ∈ B, x.2.2 < many) (hm : many ≤ 12) : ∀ (n done : Nat) (T : List Ent), many ≤ done + n → TI many B T done → TI many B (tloop B n done T) (tloop B n done T).length ∧ WhR tC tWh (tSt (chD fl names B) T done none) (.nx (tSt (chD fl names B) (tloop B n done T) ((tloop B n done T).length : Int) none)) := by
  intro n
  induction n with
  | zero =>
    intro done T hn h
    have h1 := h.len
    have h2 := h.dn
    have h3 : done = T.length := by omega
    subst h3
    refine ⟨h, WhR.stop ?_⟩
    unfold tloop
    have hl : ((T.map entK).length : Int) = T.length := by rw [List.length_map]
    dsimp only [tSt, trD]
    generalize T.map entK = ks at *
    generalize (T.map fun e : Ent => optD e.2.1) = vs at *
    simp [tC, hl]
  | succ n ih =>
    intro done T hn h
    have hl : ((T.map entK).length : Int) = T.length := by rw [List.length_map]
    by_cases h3 : done < T.length
    · obtain ⟨c, hc⟩ : ∃ c, T[done]? = some c := ⟨_, List.getElem?_eq_getElem h3⟩
      obtain ⟨w1, w2⟩ := t_wh (names := names) (fl := fl) hb hm h hc
      obtain ⟨g1, g2⟩ := ih (done + 1) _ (by omega) w1
      have ht : tloop B (n + 1) done T = tloop B n (done + 1) (B.foldl (tstep c.1 c.2.2) T) := by
        rw [tloop, hc]
      rw [ht]
      refine ⟨g1, WhR.step (e1 := tSt (chD fl names B) T done none) ?_ (.inl w2) g2⟩
      dsimp only [tSt, trD]
      generalize T.map entK = ks at *
      generalize (T.map fun e : Ent => optD e.2.1) = vs at *
      simp [tC, hl, h3]
    · have h2 := h.dn
      have h4 : done = T.length := by omega
      subst h4
      have ht : tloop B (n + 1) T.length T = T := by
        rw [tloop, List.getElem?_eq_none (Nat.le_refl _)]
      rw [ht]
      refine ⟨h, WhR.stop ?_⟩
      dsimp only [tSt, trD]
      generalize T.map entK = ks at *
      generalize (T.map fun e : Ent => optD e.2.1) = vs at *
      simp [tC, hl]
theorem tree_ok' {many : Nat} {names : List Str} {B : List Arc} {fl : Bool} (h : ChOk many names B) : fn_tree_arcs [chD fl names B] = .ok (trD (treeOf B many), []) ∧ TI many B (treeOf B many) (treeOf B many).length := by
  have h0 : TI many B [(0, none, [])] 0 := by
    refine ⟨by simp, fun e he => ?_, rfl, fun i e hi he => ?_, Nat.zero_le _, fun i e hi => by omega, fun i j e f hij hi hj => ?_, fun c hc e he => ?_⟩
    · rw [List.mem_singleton.mp he]; exact h.m1
    · obtain ⟨k, rfl⟩ := Nat.exists_eq_succ_of_ne_zero (show i ≠ 0 by omega)
      cases he
    · rw [List.mem_singleton.mp (List.mem_of_getElem? hi)]
      exact Nat.zero_le _
    · rw [List.mem_singleton.mp he]
      exact Nat.zero_le _
  obtain ⟨h1, h2⟩ := t_loop (names := names) (fl := fl) (fun x hx => (h.arcs x hx).2.2) h.m2 many 0 _ (by omega) h0
  refine ⟨?_, h1⟩
  have h3 := h2.sw
  clear h1 h2
  show fn_tree_arcs [chD fl names B] = .ok (trD (tloop B many 0 [(0, none, [])]), [])
  generalize tloop B many 0 [(0, none, [])] = T at *
  dsimp only [tSt, trD] at h3 ⊢
  try simp only [List.map_cons, List.map_nil] at h3
  generalize T.map entK = ks at *
  generalize (T.map fun e : Ent => optD e.2.1) = vs at *
  generalize chD fl names B = C at *
  have h4 : sWhile tC tWh [some (.brw, C), some (.own, .dk [Sum.inl 0] [.non]), some (.own, .int 0), none, none] = .ok (.nx [some (.brw, C), some (.own, .dk ks vs), some (.own, .int (T.length : Int)), none, none]) := h3
  simp [fn_tree_arcs, ta_eq, h4]
theorem tree_ok {many : Nat} {names : List Str} {B : List Arc} {fl : Bool} (h : ChOk many names B) : ∃ T, fn_tree_arcs [chD fl names B] = .ok (trD T, []) ∧ TI many B T T.length := ⟨_, tree_ok' h⟩
end DL

namespace DL
open PySem PySem.Spec PyProof.Rows L2
/-! ### the ways -/
abbrev wD (w : List Str) : D := .tupF true (w.map .str)
theorem TI.way {many : Nat} {names : List Str} {B : List Arc} {T : List Ent} {done : Nat} (h : TI many B T done) (hB : ∀ x ∈ B, x.2.1 ∈ names) : ∀ (n i : Nat) (e : Ent), i < n → T[i]? = some e → e.2.2.length ≤ i ∧ ∀ m ∈ e.2.2, m ∈ names := by
  intro n
  induction n with
  | zero => intro i e hi; omega
  | succ n ih =>
    intro i e hi he
    by_cases h0 : i = 0
    · subst h0
      rw [h.hd] at he
      cases he
      exact ⟨Nat.le_refl _, fun m hm => (by cases hm)⟩
    · obtain ⟨x, hx, j, f, g1, g2, g3, rfl⟩ := h.tl i e (by omega) he
      obtain ⟨q1, q2⟩ := ih j f (by omega) g2
      refine ⟨by show (f.2.2 ++ [x.2.1]).length ≤ i; rw [List.length_append]; simp only [List.length_cons, List.length_nil]; omega, fun m hm => ?_⟩
      rcases List.mem_append.mp hm with hm | hm
      · exact q2 m hm
      · rw [List.mem_singleton.mp hm]; exact hB x hx
def wayOf (T : List Ent) (s : Nat) : List Str := ((T.find? fun e => decide (e.1 = s)).map (·.2.2)).getD []
theorem TI.uniq {many : Nat} {B : List Arc} {T : List Ent} {done : Nat} (h : TI many B T done) {a b : Ent} (ha : a ∈ T) (hb : b ∈ T) (e : a.1 = b.1) : a = b := by
  obtain ⟨i, hi⟩ := List.mem_iff_getElem?.mp ha
  obtain ⟨j, hj⟩ := List.mem_iff_getElem?.mp hb
  have := key_inj h.nd hi hj e
  subst this
  rw [hi] at hj
  exact Option.some.inj hj
theorem TI.wayOf {many : Nat} {B : List Arc} {T : List Ent} {done : Nat} (h : TI many B T done) {e : Ent} (he : e ∈ T) : wayOf T e.1 = e.2.2 := by
  unfold DL.wayOf
  cases hf : T.find? fun q => decide (q.1 = e.1) with
  | none =>
    rw [List.find?_eq_none] at hf
    exact absurd (by simp) (hf e he)
  | some q =>
    have h1 := List.find?_some hf
    simp only [decide_eq_true_eq] at h1
    rw [h.uniq (List.mem_of_find?_eq_some hf) he h1]
    rfl
abbrev knD (T : List Ent) : D := .dk (T.map entK) (T.map fun e => wD e.2.2)
def wBody : Stm := (sSeq (sIf (hB (hOp [.pur (hVar 3), .pur (hC .non)] gIsN)) (sSeq (sExpr (eK (.pur (hOp [] fTupP) (.io 1 (.fin [.pur (hVar 2)]))) setDK))
  sNop) (sSeq (sExpr (eK (.pur (hOp [.pur (hOp [.plc 1 (pVar 1), .pur (hRd (pIx (pVar 3) (hC (.int 0))))] gDGet), .pur (hOp [.pur (hRd (pIx (pVar 3) (hC (.int 1))))] fTupP)] gAddX) (.io 1 (.fin [.pur (hVar 2)]))) setDK))
  sNop))
  sNop)
theorem wo_eq : b_ways_of = (sSeq (sSet 1 (eOp (.fin []) gNewK))
  (sSeq (sFor [.own (eK (.fin [.plc 0 (pVar 0)]) (callK [.b] fn_tree_arcs))] mkItems (bTup (bCons (bName 2) (bCons (bName 3) bNil))) [2, 3] wBody)
  (sSeq (sRet (lcE [.pur (hOp [.plc 1 (pVar 1)] gLenD)] mkRange1 (bName 2) eYes (eP (hOp [.plc 1 (pVar 1), .pur (hVar 2)] gDGet)) [2]))
  sNop))) := rfl
abbrev wSt (C : D) (ks : List Key) (vs : List D) : DEnv := [some (.brw, C), some (.own, .dk ks vs), none, none]
theorem w_turn0 (C : D) {ks ks2 : List Key} {vs vs2 : List D} {s : Int} (hp1 : putKs ks vs (.inl s) (.tupF true []) = ks2) (hp2 : putVs ks vs (.inl s) (.tupF true []) = vs2) (hpl : D.pureL vs = true) (hkl : ks.length < 16777216) : Turn1 (bTup (bCons (bName 2) (bCons (bName 3) bNil))) [2, 3] wBody (.tup [.int s, .non]) (wSt C ks vs) (wSt C ks2 vs2) := by
  unfold Turn1 wBody
  simp [hp1, hp2, hpl, hkl]
theorem w_turn1 (C : D) {ks ks2 : List Key} {vs vs2 : List D} {s a b : Int} {m : Str} {w : List D} (hk : lookP ks vs (.inl a) = some (.tupF true w)) (hw : D.pureL w = true) (hl : w.length < 1000) (hp1 : putKs ks vs (.inl s) (.tupF true (w ++ [.str m])) = ks2) (hp2 : putVs ks vs (.inl s) (.tupF true (w ++ [.str m])) = vs2) (hpl : D.pureL vs = true) (hkl : ks.length < 16777216) : Turn1 (bTup (bCons (bName 2) (bCons (bName 3) bNil))) [2, 3] wBody (.tup [.int s, .tup [.int a, .str m, .int b]]) (wSt C ks vs) (wSt C ks2 vs2) := by
  have a0 : atI [D.int a, D.str m, D.int b] 0 = some (.int a) := at0 _ _
  have a1 : atI [D.int a, D.str m, D.int b] 1 = some (.str m) := at1 _ _ _
  have hl2 : w.length + 1 ≤ 16777216 := by omega
  have hp : D.pureL (w ++ [D.str m]) = true := by rw [D.pureL_append, hw]; rfl
  unfold Turn1 wBody
  simp [a0, a1, hk, hw, hl2, hp, hp1, hp2, hpl, hkl]
theorem knD_pure (T : List Ent) : D.pureL (T.map fun e => wD e.2.2) = true := pureL_map (φ := fun e : Ent => wD e.2.2) (fun e => z_pstrs e.2.2) T
theorem items_map (T : List Ent) : mkItems [trD T] = some (T.map fun e => .tup [.int (e.1 : Int), optD e.2.1]) := by
  have hpl : D.pureL (T.map fun e => optD e.2.1) = true := pureL_map (fun e => optD_pure e.2.1) T
  rw [z_items, if_pos ⟨by rw [List.length_map, List.length_map], hpl⟩]
  unfold itemsD
  rw [zip_maps, List.map_map]
  rfl
/-- what ways_of tells -/
structure WOk (many : Nat) (names : List Str) (B : List Arc) (W : Nat → List Str) : Prop where
  w0 : W 0 = []
  ok : ∀ s, s < many → s ≠ 0 → ∃ x ∈ B, x.2.2 = s ∧ W s = W x.1 ++ [x.2.1]
  sh : ∀ x ∈ B, (W x.2.2).length ≤ (W x.1).length + 1
  nm : ∀ s, ∀ n ∈ W s, n ∈ names
  ln : ∀ s, (W s).length ≤ 12
theorem TI.all {many : Nat} {names : List Str} {B : List Arc} {T : List Ent} (hc : ChOk many names B) (h : TI many B T T.length) {s : Nat} (hs : s < many) : ∃ e ∈ T, e.1 = s := by
  have key : ∀ s, Rch B s → ∃ e ∈ T, e.1 = s := fun s r => by
    induction r with
    | zero => exact ⟨_, List.mem_of_getElem? h.hd, rfl⟩
    | arc hx _ ih =>
      obtain ⟨e, he, e1⟩ := ih
      obtain ⟨i, hi⟩ := List.mem_iff_getElem?.mp he
      obtain ⟨f, g1, g2, _⟩ := h.cl i e (List.getElem?_eq_some_iff.mp hi).1 hi _ hx e1.symm
      exact ⟨f, g1, g2⟩
  exact key s (hc.rch s hs)
theorem TI.full {many : Nat} {names : List Str} {B : List Arc} {T : List Ent} (hc : ChOk many names B) (h : TI many B T T.length) : T.length = many := by
  have h1 := h.len
  have h2 := nodup_sub (l1 := List.range many) (l2 := T.map (·.1)) List.nodup_range fun s hs => by
    obtain ⟨e, he, e1⟩ := TI.all hc h (List.mem_range.mp hs)
    exact List.mem_map.mpr ⟨e, he, e1⟩
  simp at h2
  omega
theorem TI.wok {many : Nat} {names : List Str} {B : List Arc} {T : List Ent} (hc : ChOk many names B) (h : TI many B T T.length) : WOk many names B (DL.wayOf T) := by
  have hway := h.way (names := names) fun x hx => (hc.arcs x hx).2.1
  have key : ∀ s, DL.wayOf T s = [] ∨ ∃ e ∈ T, DL.wayOf T s = e.2.2 := fun s => by
    unfold DL.wayOf
    cases hf : T.find? fun q => decide (q.1 = s) with
    | none => exact .inl rfl
    | some q => exact .inr ⟨q, List.mem_of_find?_eq_some hf, rfl⟩
  refine ⟨h.wayOf (List.mem_of_getElem? h.hd), fun s hs h0 => ?_, fun x hx => ?_, fun s n hn => ?_, fun s => ?_⟩
  · obtain ⟨e, he, e1⟩ := TI.all hc h hs
    obtain ⟨i, hi⟩ := List.mem_iff_getElem?.mp he
    have hi0 : 0 < i := by
      rcases Nat.eq_zero_or_pos i with z | z
      · subst z
        rw [h.hd] at hi
        cases hi
        exact absurd e1.symm h0
      · exact z
    obtain ⟨x, hx, j, f, g1, g2, g3, g4⟩ := h.tl i e hi0 hi
    have w1 := h.wayOf he
    have w2 := h.wayOf (List.mem_of_getElem? g2)
    rw [e1] at w1
    rw [g3] at w2
    refine ⟨x, hx, ?_, ?_⟩
    · rw [← e1, g4]
    · rw [w1, w2, g4]
  · obtain ⟨e, he, e1⟩ := TI.all hc h (hc.arcs x hx).1
    obtain ⟨i, hi⟩ := List.mem_iff_getElem?.mp he
    obtain ⟨f, g1, g2, g3⟩ := h.cl i e (List.getElem?_eq_some_iff.mp hi).1 hi x hx e1.symm
    have w1 := h.wayOf he
    have w2 := h.wayOf g1
    rw [e1] at w1
    rw [g2] at w2
    rw [w1, w2]
    exact g3
  · rcases key s with k | ⟨e, he, k⟩
    · rw [k] at hn; cases hn
    · rw [k] at hn
      obtain ⟨i, hi⟩ := List.mem_iff_getElem?.mp he
      exact (hway (i + 1) i e (Nat.lt_succ_self i) hi).2 n hn
  · rcases key s with k | ⟨e, he, k⟩
    · rw [k]; exact Nat.zero_le _
    · rw [k]
      obtain ⟨i, hi⟩ := List.mem_iff_getElem?.mp he
      have q := (hway (i + 1) i e (Nat.lt_succ_self i) hi).1
      have := (List.getElem?_eq_some_iff.mp hi).1
      have := h.len
      have := hc.m2
      omega
theorem ways_of_ok {many : Nat} {names : List Str} {B : List Arc} {fl : Bool} {T : List Ent} (hc : ChOk many names B) (ht : fn_tree_arcs [chD fl names B] = .ok (trD T, [])) (h : TI many B T T.length) : fn_ways_of [chD fl names B] = .ok (.lst ((List.range many).map fun s => wD (DL.wayOf T s)), []) := by
  have hfull := TI.full hc h
  have hm := hc.m2
  have hway := h.way (names := names) fun x hx => (hc.arcs x hx).2.1
  have hf := forD_foldI (bd := bTup (bCons (bName 2) (bCons (bName 3) bNil))) (cl := [2, 3]) (body := wBody) (st := fun L : List Ent => wSt (chD fl names B) (L.map entK) (L.map fun e => wD e.2.2)) (f := fun L e => L ++ [e]) (φ := fun e : Ent => .tup [.int (e.1 : Int), optD e.2.1]) (I := fun j L => L = T.take j) T 0 [] rfl fun j L e he hI => by
    rw [Nat.zero_add] at hI ⊢
    have hj := (List.getElem?_eq_some_iff.mp he).1
    subst hI
    refine ⟨by rw [List.take_succ, he]; rfl, ?_⟩
    have hnew : ∀ f ∈ T.take j, entK f ≠ Sum.inl (e.1 : Int) := fun f hf q => by
      have q1 : ((f.1 : Int)) = e.1 := Sum.inl.inj q
      obtain ⟨i, hi⟩ := List.mem_iff_getElem?.mp hf
      rw [List.getElem?_take] at hi
      split at hi
      · rename_i hlt
        have := key_inj h.nd hi he (by show f.1 = e.1; omega)
        omega
      · cases hi
    have hkl : ((T.take j).map entK).length < 16777216 := by simp; omega
    have hpl := knD_pure (T.take j)
    by_cases h0 : j = 0
    · subst h0
      rw [h.hd] at he
      cases he
      have hp := put_new (g := fun e : Ent => wD e.2.2) (x := .tupF true []) hnew
      refine w_turn0 _ ?_ ?_ hpl hkl
      · rw [hp.1, List.map_append]; rfl
      · rw [hp.2, List.map_append]; rfl
    · obtain ⟨x, hx, i, f, g1, g2, g3, g4⟩ := h.tl j e (by omega) he
      have hfm : f ∈ T.take j := List.mem_iff_getElem?.mpr ⟨i, by rw [List.getElem?_take, if_pos g1]; exact g2⟩
      have hlk := look_some (f := entK) (g := fun e : Ent => wD e.2.2) hfm fun b hb q => by
        have q1 : ((b.1 : Int)) = f.1 := Sum.inl.inj q
        rw [h.uniq (List.mem_of_mem_take hb) (List.mem_of_mem_take hfm) (by omega)]
      have hlw := (hway (i + 1) i f (Nat.lt_succ_self i) g2).1
      have hp := put_new (g := fun e : Ent => wD e.2.2) (x := .tupF true (f.2.2.map .str ++ [.str x.2.1])) hnew
      subst g4
      refine w_turn1 _ (w := f.2.2.map .str) (m := x.2.1) (a := x.1) (b := x.2.2) ?_ (z_pstrs _) (by rw [List.length_map]; omega) ?_ ?_ hpl hkl
      · have : entK f = Sum.inl (x.1 : Int) := by show Sum.inl (f.1 : Int) = _; rw [g3]
        rw [← this]
        exact hlk
      · rw [hp.1, List.map_append]; rfl
      · rw [hp.2, List.map_append]
        simp only [List.map_cons, List.map_nil, wD, List.map_append]
  obtain ⟨hf, _⟩ := hf
  have hfo : ∀ (l L : List Ent), l.foldl (fun L e => L ++ [e]) L = L ++ l := fun l => by
    induction l with
    | nil => intro L; simp
    | cons a r ih => intro L; rw [List.foldl_cons, ih]; simp
  rw [hfo, List.nil_append] at hf
  have hit := items_map T
  have hlc := lcG_map (bd := bName 2) (cl := [2]) (elt := eP (hOp [.plc 1 (pVar 1), .pur (hVar 2)] gDGet)) (e0 := wSt (chD fl names B) (T.map entK) (T.map fun e => wD e.2.2)) (g := fun s : Nat => wD (DL.wayOf T s)) (φ := fun s : Nat => D.int (s : Int)) (List.range many) fun s hs => by
    obtain ⟨e, he, e1⟩ := TI.all hc h (List.mem_range.mp hs)
    have hlk := look_some (f := entK) (g := fun e : Ent => wD e.2.2) he fun b hb q => by
      have q1 : ((b.1 : Int)) = e.1 := Sum.inl.inj q
      rw [h.uniq hb he (by omega)]
    have e2 : entK e = Sum.inl (s : Int) := by show Sum.inl (e.1 : Int) = _; rw [e1]
    rw [e2] at hlk
    have e3 := h.wayOf he
    rw [e1] at e3
    rw [e3]
    have hp : (wD e.2.2).pure = true := z_pstrs _
    generalize wD e.2.2 = w at *
    dsimp only [wSt]
    generalize T.map entK = ks at *
    generalize (T.map fun e : Ent => wD e.2.2) = vs at *
    simp [hlk, hp]
  have hkl : ((T.map entK).length : Int) = many := by rw [List.length_map, hfull]
  have hir : inRng (many : Int) = true := inRng_of (by omega)
  have hrm := rng_map many
  have hrl : ((List.range many).map fun s : Nat => D.int (s : Int)).length < 16777216 := by simp; omega
  dsimp only [wSt, trD] at *
  simp only [List.map_nil] at hf
  generalize (List.range many).map (fun s : Nat => wD (DL.wayOf T s)) = OUT at *
  generalize (List.range many).map (fun s : Nat => D.int (s : Int)) = RNG at *
  generalize (T.map fun e : Ent => wD e.2.2) = vs at *
  generalize T.map (fun e : Ent => D.tup [.int (e.1 : Int), optD e.2.1]) = its at *
  generalize (T.map fun e : Ent => optD e.2.1) = us at *
  generalize T.map entK = ks at *
  generalize chD fl names B = C at *
  simp [fn_ways_of, wo_eq, ht, hit, hf, hkl, hir, hrm, hrl, hlc, -z_items]
end DL

namespace DL
open PySem PySem.Spec PyProof.Rows L2
/-! ### counts -/
abbrev cD (c : List Int) : D := .tup (c.map .int)
def cntOf (names : List Str) (w : List Str) : List Int := names.map fun m => ((w.count m : Nat) : Int)
theorem counts_ok {many : Nat} {names : List Str} {B : List Arc} {fl : Bool} {W : Nat → List Str} (hc : ChOk many names B) (hw : fn_ways_of [chD fl names B] = .ok (.lst ((List.range many).map fun s => wD (W s)), [])) : fn_counts_of [chD fl names B] = .ok (.lst ((List.range many).map fun s => cD (cntOf names (W s))), []) := by
  have hm := hc.m2
  have hln := hc.ln
  have hpN : D.pureL (names.map D.str) = true := z_pstrs names
  have hNl : (names.map D.str).length < 16777216 := by rw [List.length_map]; omega
  have hlc := lcG_map (bd := bName 1) (cl := [1]) (elt := (eOp (.own (lcE [.pur (hRd (pIx (pVar 0) (hC (.int 0))))] mkSeq (bName 2) eYes (eP (hOp [.put (hVar 1) (tyD "tuple"), .pur (hVar 2)] gTCnt)) [2]) (.fin [])) gTupOf)) (e0 := [some (.brw, chD fl names B), none, none]) (g := fun s : Nat => cD (cntOf names (W s))) (φ := fun s : Nat => wD (W s)) (List.range many) fun s hs => by
    have hin := lcG_map (bd := bName 2) (cl := [2]) (elt := eP (hOp [.put (hVar 1) (tyD "tuple"), .pur (hVar 2)] gTCnt)) (e0 := [some (.brw, chD fl names B), some (.own, wD (W s)), none]) (g := fun m : Str => D.int (((W s).count m : Nat) : Int)) (φ := D.str) names fun m hm => by
      have hct : fTCnt (wD (W s)) (.str m) = some (.int (((W s).count m : Nat) : Int)) := z_tcnt
      have hps : D.pureL ((W s).map D.str) = true := z_pstrs _
      dsimp only [wD] at hct ⊢
      generalize (W s).map D.str = ws at *
      generalize chD fl names B = C at *
      simp [hct, hps, tyD]
    have e : (names.map fun m : Str => D.int (((W s).count m : Nat) : Int)) = (cntOf names (W s)).map .int := by
      unfold cntOf
      rw [List.map_map]; rfl
    rw [e] at hin
    have hps : D.pureL ((W s).map D.str) = true := z_pstrs _
    have hpc : D.pureL ((cntOf names (W s)).map D.int) = true := z_pints _
    dsimp only [wD, cD, chD] at hin ⊢
    generalize (cntOf names (W s)).map D.int = cs at *
    generalize (W s).map D.str = ws at *
    generalize names.map D.str = NS at *
    generalize B.map arcD = BD at *
    simp [hpN, hNl, hin, hps, hpc]
  have hrl : ((List.range many).map fun s : Nat => wD (W s)).length < 16777216 := by simp; omega
  generalize (List.range many).map (fun s : Nat => wD (W s)) = WS at *
  generalize (List.range many).map (fun s : Nat => cD (cntOf names (W s))) = CS at *
  generalize chD fl names B = C at *
  simp [fn_counts_of, b_counts_of, hw, hlc, hrl]
/-! ### rows of whole numbers -/
theorem whole_ok (n : Int) : fn_law_is_whole [.int n] = .ok (.bl true, []) := by
  simp [fn_law_is_whole, b_law_is_whole, tyLe]
def irBody : Stm := (sSeq (sIf (hOr (hNot (hB (hOp [.pur (hVar 2)] (gIsi "tuple")))) (hB (hOp [.pur (hOp [.pur (hVar 2)] gLen), .pur (hVar 1)] gNe))) (sSeq (sRet (eP (hC (.bl false))))
  sNop) sNop)
  (sSeq (sIfE (eB (eOp (.own (eOp (.own (lcE [.pur (hVar 2)] mkSeq (bName 3) (eNot (eB (eK (.fin [.pur (hVar 3)]) (callK [.b] fn_law_is_whole)))) (eP (hVar 3)) [3]) (.fin [])) gLen) (.fin [.pur (hC (.int 0))])) gGt)) (sSeq (sRet (eP (hC (.bl false))))
  sNop) sNop)
  sNop))
theorem ir_eq : b_law_is_rows = (sSeq (sIf (hNot (hB (hOp [.plc 0 (pVar 0)] (gIsi "list")))) (sSeq (sRet (eP (hC (.bl false))))
  sNop) sNop)
  (sSeq (sFor [.plc 0 (pVar 0)] mkSeq (bName 2) [2] irBody)
  (sSeq (sRet (eP (hC (.bl true))))
  sNop))) := rfl
theorem rows_ok (cs : List (List Int)) (width : Nat) (h : ∀ c ∈ cs, c.length = width) (hw : width ≤ 1000) : fn_law_is_rows [.lst (cs.map cD), .int width] = .ok (.bl true, []) := by
  have hf := forD_foldI (bd := bName 2) (cl := [2]) (body := irBody) (st := fun _ : Unit => [some (.brw, .lst (cs.map cD)), some (.brw, .int width), none, none]) (f := fun _ _ => ()) (φ := cD) (I := fun _ _ => True) cs 0 () trivial fun j _ c hc _ => ⟨trivial, by
    have hl := h c (List.mem_of_getElem? hc)
    have hlc := lcG_filt (bd := bName 3) (cl := [3]) (ce := (eNot (eB (eK (.fin [.pur (hVar 3)]) (callK [.b] fn_law_is_whole))))) (elt := eP (hVar 3)) (e0 := [some (.brw, .lst (cs.map cD)), some (.brw, .int width), some (.own, cD c), none]) (c := fun _ : Int => false) (g := D.int) (φ := D.int) c fun n hn => by
      have hwh := whole_ok n
      generalize cs.map cD = CS at *
      generalize cD c = ci at *
      unfold TurnC
      simp [hwh]
    rw [List.filter_eq_nil_iff.mpr (fun _ _ => by simp), List.map_nil] at hlc
    have hpc : D.pureL (c.map D.int) = true := z_pints _
    have hll : ((c.map D.int).length : Int) = width := by rw [List.length_map, hl]
    have hlt : (c.map D.int).length < 16777216 := by rw [List.length_map]; omega
    dsimp only [cD] at hlc ⊢
    generalize cs.map (fun c : List Int => D.tup (c.map .int)) = CS at *
    generalize c.map D.int = ci at *
    unfold Turn1 irBody
    simp [hpc, hll, hlt, hlc, tyLe]⟩
  obtain ⟨hf, _⟩ := hf
  generalize cs.map cD = CS at *
  simp [fn_law_is_rows, ir_eq, hf, tyLe]
end DL

namespace DL
open PySem PySem.Spec PyProof.Rows L2
/-! ### rings -/
theorem eq_arc (o : Option Arc) (x : Arc) (ho : ∀ y, o = some y → PyData.strOk y.2.1 = true) (hx : PyData.strOk x.2.1 = true) : gEqB (optD o) (arcD x) = some (decide (o = some x)) := by
  have s2 : SeqAt.shaped (.tuple [.int (x.1 : Int), .str x.2.1, .int (x.2.2 : Int)]) = true := shaped_of (n := 1) (by simp [PyData.canLay0, PyData.canLayAll0, hx]) (by simp [PyData.depth, PyData.depthAll]) (by decide)
  cases o with
  | none =>
    show iff? (SeqAt.shaped .none = true ∧ SeqAt.shaped (.tuple [.int (x.1 : Int), .str x.2.1, .int (x.2.2 : Int)]) = true) (PyData.eqv .none (.tuple [.int (x.1 : Int), .str x.2.1, .int (x.2.2 : Int)])) = _
    rw [iff?_pos ⟨shaped_of (n := 0) rfl (Nat.le_refl _) (by decide), s2⟩]
    simp [PyData.eqv]
  | some y =>
    have hy := ho y rfl
    have s1 : SeqAt.shaped (.tuple [.int (y.1 : Int), .str y.2.1, .int (y.2.2 : Int)]) = true := shaped_of (n := 1) (by simp [PyData.canLay0, PyData.canLayAll0, hy]) (by simp [PyData.depth, PyData.depthAll]) (by decide)
    show iff? (SeqAt.shaped (.tuple [.int (y.1 : Int), .str y.2.1, .int (y.2.2 : Int)]) = true ∧ SeqAt.shaped (.tuple [.int (x.1 : Int), .str x.2.1, .int (x.2.2 : Int)]) = true) (PyData.eqv (.tuple [.int (y.1 : Int), .str y.2.1, .int (y.2.2 : Int)]) (.tuple [.int (x.1 : Int), .str x.2.1, .int (x.2.2 : Int)])) = _
    rw [iff?_pos ⟨s1, s2⟩]
    congr 1
    obtain ⟨a, m, b⟩ := x
    obtain ⟨a', m', b'⟩ := y
    simp only [PyData.eqv, PyData.eqvAll, Bool.and_true]
    rw [Bool.eq_iff_iff, decide_eq_true_eq]
    simp only [Bool.and_eq_true, beq_iff_eq, Option.some.injEq, Prod.mk.injEq]
    exact ⟨fun ⟨h1, h2, h3⟩ => ⟨by omega, h2, by omega⟩, fun ⟨h1, h2, h3⟩ => ⟨by omega, h2, by omega⟩⟩
def arcOf (T : List Ent) (s : Nat) : Option Arc := (T.find? fun e => decide (e.1 = s)).bind (·.2.1)
theorem TI.arcOf {many : Nat} {B : List Arc} {T : List Ent} {done : Nat} (h : TI many B T done) {e : Ent} (he : e ∈ T) : arcOf T e.1 = e.2.1 := by
  unfold DL.arcOf
  cases hf : T.find? fun q => decide (q.1 = e.1) with
  | none =>
    rw [List.find?_eq_none] at hf
    exact absurd (by simp) (hf e he)
  | some q =>
    have h1 := List.find?_some hf
    simp only [decide_eq_true_eq] at h1
    rw [h.uniq (List.mem_of_find?_eq_some hf) he h1]
    rfl
theorem TI.arcMem {many : Nat} {B : List Arc} {T : List Ent} {done : Nat} (h : TI many B T done) {s : Nat} {y : Arc} (e : DL.arcOf T s = some y) : y ∈ B := by
  unfold DL.arcOf at e
  cases hf : T.find? fun q => decide (q.1 = s) with
  | none => rw [hf] at e; cases e
  | some q =>
    rw [hf] at e
    replace e : q.2.1 = some y := e
    obtain ⟨i, hi⟩ := List.mem_iff_getElem?.mp (List.mem_of_find?_eq_some hf)
    by_cases h0 : i = 0
    · subst h0
      rw [h.hd] at hi
      cases hi
      cases e
    · obtain ⟨x, hx, j, f, _, _, _, rfl⟩ := h.tl i q (by omega) hi
      cases e
      exact hx
theorem tree_look {many : Nat} {names : List Str} {B : List Arc} {T : List Ent} (hc : ChOk many names B) (h : TI many B T T.length) {s : Nat} (hs : s < many) : lookP (T.map entK) (T.map fun e => optD e.2.1) (Sum.inl (s : Int)) = some (optD (arcOf T s)) := by
  obtain ⟨e, he, e1⟩ := TI.all hc h hs
  have hlk := look_some (f := entK) (g := fun e : Ent => optD e.2.1) he fun b hb q => by
    have q1 : ((b.1 : Int)) = e.1 := Sum.inl.inj q
    rw [h.uniq hb he (by omega)]
  have e2 : entK e = Sum.inl (s : Int) := by show Sum.inl (e.1 : Int) = _; rw [e1]
  rw [e2] at hlk
  rw [hlk, ← h.arcOf he, e1]
def ringI (W : Nat → List Str) (x : Arc) (m : Str) : Int := (((W x.1).count m : Nat) : Int) + (if m = x.2.1 then 1 else 0) - (((W x.2.2).count m : Nat) : Int)
def ringOf (names : List Str) (W : Nat → List Str) (x : Arc) : List Int := names.map (ringI W x)
def offT (T : List Ent) (x : Arc) : Bool := !decide (arcOf T x.2.2 = some x)
theorem fold_filt {α : Type} (c : α → Bool) : ∀ (xs L : List α), xs.foldl (fun L x => if c x = true then L ++ [x] else L) L = L ++ xs.filter c
  | [], L => by simp
  | x :: xs, L => by
    rw [List.foldl_cons, fold_filt c xs]
    by_cases h : c x = true
    · rw [if_pos h, List.filter_cons_of_pos h]; simp
    · rw [if_neg h, List.filter_cons_of_neg h]
theorem zipD3_map {δ : Type} {f : δ → D} {g : δ → D} {k : δ → D} : ∀ l : List δ, zipD3 (l.map f) (l.map g) (l.map k) = l.map fun d => .tup [f d, g d, k d]
  | [] => rfl
  | a :: l => by
    rw [List.map_cons, List.map_cons, List.map_cons, zipD3, zipD3_map l]; rfl
def rIn : Stm := (sSeq (sExpr (isL 5 (eK (.io 5 (.fin [.pur (hOp [.pur (hOp [.pur (hVar 7), .pur (hOp [.pur (hOp [.pur (hVar 6), .pur (hRd (pIx (pVar 4) (hC (.int 1))))] gEq)] gInt)] gAdd), .pur (hVar 8)] gSub)])) appK)))
  sNop)
def rOut : Stm := (sSeq (sIf (hB (hOp [.pur (hOp [.plc 1 (pVar 1), .pur (hRd (pIx (pVar 4) (hC (.int 2))))] gDGet), .pur (hVar 4)] gNe)) (sSeq (sSet 5 (eK (.fin []) (dspK .lst)))
  (sSeq (sFor [.pur (hRd (pIx (pVar 0) (hC (.int 0)))), .pur (hRd (pIx (pVar 2) (hRd (pIx (pVar 4) (hC (.int 0)))))), .pur (hRd (pIx (pVar 2) (hRd (pIx (pVar 4) (hC (.int 2))))))] mkZip3 (bTup (bCons (bName 6) (bCons (bName 7) (bCons (bName 8) bNil)))) [6, 7, 8] rIn)
  (sSeq (sExpr (isL 3 (eK (.io 3 (.fin [.pur (hOp [.plc 5 (pVar 5)] gTupOf)])) appK)))
  sNop))) sNop)
  sNop)
theorem ro_eq : b_rings_of = (sSeq (sSet 1 (eK (.fin [.plc 0 (pVar 0)]) (callK [.b] fn_tree_arcs)))
  (sSeq (sSet 2 (eK (.fin [.plc 0 (pVar 0)]) (callK [.b] fn_counts_of)))
  (sSeq (sSet 3 (eK (.fin []) (dspK .lst)))
  (sSeq (sFor [.plc 0 (pIx (pVar 0) (hC (.int 1)))] mkSeq (bName 4) [4, 5, 6, 7, 8] rOut)
  (sSeq (sRet (eMov 3))
  sNop))))) := rfl
section
variable {many : Nat} {names : List Str} {B : List Arc} {fl : Bool} {T : List Ent}
theorem catD (f : Nat → D) {s : Nat} (hs : s < many) : atI ((List.range many).map f) (s : Int) = some (f s) := atI_nat (by rw [List.getElem?_map, List.getElem?_range hs]; rfl)
theorem rings_ok {W : Nat → List Str} (hc : ChOk many names B) (ht : fn_tree_arcs [chD fl names B] = .ok (trD T, [])) (hT : TI many B T T.length) (hco : fn_counts_of [chD fl names B] = .ok (.lst ((List.range many).map fun s => cD (cntOf names (W s))), [])) : fn_rings_of [chD fl names B] = .ok (.lst ((B.filter (offT T)).map fun x => cD (ringOf names W x)), []) := by
  have hlb := hc.lb
  have hln := hc.ln
  have hf := forD_foldI (bd := bName 4) (cl := [4, 5, 6, 7, 8]) (body := rOut) (st := fun L : List Arc => [some (.brw, chD fl names B), some (.own, trD T), some (.own, .lst ((List.range many).map fun s => cD (cntOf names (W s)))), some (.own, .lst (L.map fun x => cD (ringOf names W x))), none, none, none, none, none]) (f := fun L x => if offT T x = true then L ++ [x] else L) (φ := fun x : Arc => arcD x) (I := fun j L => L.length ≤ j) B 0 [] (Nat.le_refl _) fun j L x hx hI => by
    have hxB := List.mem_of_getElem? hx
    have hj := (List.getElem?_eq_some_iff.mp hx).1
    obtain ⟨h1, hm, h2⟩ := hc.arcs x hxB
    have hlk := tree_look hc hT h2
    have heq := eq_arc (arcOf T x.2.2) x (fun y hy => hc.ok _ (hc.arcs y (hT.arcMem hy)).2.1) (hc.ok _ hm)
    have hop : (optD (arcOf T x.2.2)).pure = true := optD_pure _
    have e3 : decide (arcOf T x.2.2 = some x) = !offT T x := by unfold offT; rw [Bool.not_not]
    rw [e3] at heq
    generalize hoff : offT T x = off at *
    generalize optD (arcOf T x.2.2) = od at *
    have hpt : D.pureL (T.map fun e => optD e.2.1) = true := pureL_map (fun e => optD_pure e.2.1) T
    have ll : L.length < 16777216 := by omega
    have c1 := catD (many := many) (fun s => cD (cntOf names (W s))) h1
    have c2 := catD (many := many) (fun s => cD (cntOf names (W s))) h2
    have p1 : D.pureL ((cntOf names (W x.1)).map D.int) = true := z_pints _
    have p2 : D.pureL ((cntOf names (W x.2.2)).map D.int) = true := z_pints _
    have hpN : D.pureL (names.map D.str) = true := z_pstrs names
    have hin := forD_foldI (bd := bTup (bCons (bName 6) (bCons (bName 7) (bCons (bName 8) bNil)))) (cl := [6, 7, 8]) (body := rIn) (st := fun l : List Int => [some (.brw, chD fl names B), some (.own, trD T), some (.own, .lst ((List.range many).map fun s => cD (cntOf names (W s)))), some (.own, .lst (L.map fun x => cD (ringOf names W x))), some (.own, arcD x), some (.own, .lst (l.map .int)), none, none, none]) (f := fun l m => l ++ [ringI W x m]) (φ := fun m : Str => .tup [.str m, .int (((W x.1).count m : Nat) : Int), .int (((W x.2.2).count m : Nat) : Int)]) (I := fun j l => l.length = j) names 0 [] rfl fun j l m hmm hl => by
      have hj2 := (List.getElem?_eq_some_iff.mp hmm).1
      refine ⟨by simp [hl], ?_⟩
      have hl2 : l.length < 16777216 := by omega
      have hse := eq_str (hc.ok m (List.mem_of_getElem? hmm)) (hc.ok _ hm)
      obtain ⟨a, mv, b⟩ := x
      have a1 : atI [D.int (a : Int), D.str mv, D.int (b : Int)] 1 = some (.str mv) := at1 _ _ _
      have hl3 : (l.map D.int).length < 16777216 := by rw [List.length_map]; omega
      simp only at hse
      simp only [ringI, List.map_append, List.map_cons, List.map_nil]
      dsimp only [chD, cD]
      generalize (List.range many).map (fun s => D.tup ((cntOf names (W s)).map .int)) = CS
      generalize (L.map fun x => D.tup ((ringOf names W x).map .int)) = RS
      generalize B.map arcD = BD
      generalize names.map D.str = NS
      generalize trD T = TD
      generalize (l.map D.int) = li at *
      by_cases h : m = mv
      · subst h
        generalize (((W a).count m : Nat) : Int) = u
        generalize (((W b).count m : Nat) : Int) = v
        unfold Turn1 rIn
        simp [a1, hse, hl3]
      · generalize (((W a).count m : Nat) : Int) = u
        generalize (((W b).count m : Nat) : Int) = v
        unfold Turn1 rIn
        simp [a1, hse, hl3, h]
    obtain ⟨hin, _⟩ := hin
    rw [foldl_push, List.nil_append] at hin
    have hz : (names.map fun m : Str => D.tup [.str m, .int (((W x.1).count m : Nat) : Int), .int (((W x.2.2).count m : Nat) : Int)]) = zipD3 (names.map .str) ((cntOf names (W x.1)).map .int) ((cntOf names (W x.2.2)).map .int) := by
      unfold cntOf
      rw [List.map_map, List.map_map, zipD3_map]
      rfl
    rw [hz] at hin
    have hpr : D.pureL ((ringOf names W x).map D.int) = true := z_pints _
    have hrg : names.map (ringI W x) = ringOf names W x := rfl
    rw [hrg] at hin
    have ll3 : (L.map fun x => cD (ringOf names W x)).length < 16777216 := by rw [List.length_map]; exact ll
    have hpx : (arcD x).pure = true := rfl
    refine ⟨?_, ?_⟩
    · cases off
      · rw [if_neg (by decide)]; omega
      · rw [if_pos rfl, List.length_append]; simp only [List.length_cons, List.length_nil]; omega
    obtain ⟨a, mv, b⟩ := x
    have a0 : atI [D.int (a : Int), D.str mv, D.int (b : Int)] 0 = some (.int (a : Int)) := at0 _ _
    have a2 : atI [D.int (a : Int), D.str mv, D.int (b : Int)] 2 = some (.int (b : Int)) := at2 _ _ _ _
    simp only at hlk c1 c2 p1 p2 hin
    cases off
    · rw [if_neg (by decide)]
      dsimp only [chD, cD, trD, arcD] at *
      generalize (List.range many).map (fun s => D.tup ((cntOf names (W s)).map .int)) = CS at *
      generalize (L.map fun x => D.tup ((ringOf names W x).map .int)) = RS at *
      generalize T.map entK = ks at *
      generalize (T.map fun e : Ent => optD e.2.1) = vs at *
      generalize B.map arcD = BD at *
      generalize names.map D.str = NS at *
      unfold Turn1 rOut
      simp [a0, a2, hlk, hop, heq]
    · rw [if_pos rfl]
      simp only [List.map_append, List.map_cons, List.map_nil]
      dsimp only [chD, cD, trD, arcD] at *
      simp only [List.map_nil] at hin
      generalize (List.range many).map (fun s => D.tup ((cntOf names (W s)).map .int)) = CS at *
      generalize (L.map fun x => D.tup ((ringOf names W x).map .int)) = RS at *
      generalize T.map entK = ks at *
      generalize (T.map fun e : Ent => optD e.2.1) = vs at *
      generalize B.map arcD = BD at *
      generalize (ringOf names W (a, mv, b)).map D.int = rg at *
      generalize (cntOf names (W a)).map D.int = ca at *
      generalize (cntOf names (W b)).map D.int = cb at *
      generalize names.map D.str = NS at *
      unfold Turn1 rOut
      simp [a0, a2, hlk, hop, heq, c1, c2, p1, p2, hpN, at0, hin, hpr, ll3]
  obtain ⟨hf, _⟩ := hf
  rw [fold_filt, List.nil_append] at hf
  dsimp only [chD, trD] at *
  simp only [List.map_nil] at hf
  generalize (List.range many).map (fun s => cD (cntOf names (W s))) = CS at *
  generalize ((B.filter (offT T)).map fun x => cD (ringOf names W x)) = RS at *
  generalize T.map entK = ks at *
  generalize (T.map fun e : Ent => optD e.2.1) = vs at *
  generalize B.map arcD = BD at *
  generalize names.map D.str = NS at *
  simp [fn_rings_of, ro_eq, ht, hco, hf, at1]
end
end DL

namespace DL
open PySem PySem.Spec PyProof.Rows L2
/-! ### the chart -/
theorem chart_ok (ns : List Int) : ∃ (many : Nat) (names : List Str) (B : List Arc), fn_law_chart [.scr ns] = .ok (chD true names B, []) ∧ (1 ≤ names.length ∧ names.length ≤ 3) ∧ ChOk many names B := by
  have hcell := cell_ok ns
  have c0 := hcell 0 (by decide)
  have c1 := hcell 1 (by decide)
  have c2 := hcell 2 (by decide)
  have c3 := hcell 3 (by decide)
  obtain ⟨cn, hcn, cn1, cn2⟩ : ∃ cn : Nat, 1 + cv ns (1 : Int).toNat % 3 = (cn : Int) ∧ 1 ≤ cn ∧ cn ≤ 3 := ⟨(1 + cv ns (1 : Int).toNat % 3).toNat, by omega, by omega, by omega⟩
  obtain ⟨names, n1, n2, n3, n4, n5⟩ := names_ok (cv ns (0 : Int).toNat) cn (by omega)
  obtain ⟨xs, x1, x2, x3⟩ := stream_ok (cv ns (2 : Int).toNat) 40 (by decide)
  have hkind : 0 ≤ cv ns (3 : Int).toNat % 4 ∧ cv ns (3 : Int).toNat % 4 < 4 := ⟨by omega, by omega⟩
  have hfin : ∀ {many : Nat} {B : List Arc}, AOk many names B → ChOk many names B := fun h => ⟨h.m1, by have := h.m2; omega, by omega, n3, n4, by have := h.lb; omega, h.bn, h.arcs, h.rch, n5, h.bs⟩
  rw [rv_of] at x1
  have hr : xs.reverse.length = 40 := by rw [List.length_reverse]; exact x2
  have hnn : NN xs.reverse := fun v hv => x3 v (List.mem_reverse.mp hv)
  generalize xs.reverse = r at *
  have hpN : D.pureL (names.map D.str) = true := z_pstrs names
  have hL : ((names.map D.str).length : Int) = (names.length : Int) := by rw [List.length_map]
  generalize hk : cv ns (3 : Int).toNat % 4 = kd at hkind
  replace x1 : fn_law_stream [.int (cv ns (2 : Int).toNat), .int 40] = .ok (.lst (rv r), []) := x1
  generalize cv ns (0 : Int).toNat = z0 at *
  generalize cv ns (1 : Int).toNat = z1 at *
  generalize cv ns (2 : Int).toNat = z2 at *
  generalize cv ns (3 : Int).toNat = z3 at *
  by_cases k0 : kd = 0
  · obtain ⟨many, B, r', hf, hB⟩ := few_ok (names := names) hr hnn (by omega) (by omega)
    refine ⟨many, names, B, ?_, by omega, hfin hB⟩
    clear hB hfin
    dsimp only [chD]
    generalize rv r' = R' at *
    generalize rv r = R at *
    generalize B.map arcD = BD at *
    generalize names.map D.str = NS at *
    simp [fn_law_chart, b_law_chart, c0, c1, c2, c3, hcn, n1, x1, hk, k0, hf, hpN]
  by_cases k1 : kd = 1
  · obtain ⟨many, B, r', hf, hB⟩ := word_ok (names := names) hr hnn (by omega) (by omega)
    refine ⟨many, names, B, ?_, by omega, hfin hB⟩
    clear hB hfin
    dsimp only [chD]
    generalize rv r' = R' at *
    generalize rv r = R at *
    generalize B.map arcD = BD at *
    generalize names.map D.str = NS at *
    simp [fn_law_chart, b_law_chart, c0, c1, c2, c3, hcn, n1, x1, hk, k1, hf, hpN]
  obtain ⟨t0, t1, s0, s1, gs, r', hg, b0, b1, b2, b3, hgl, hgo⟩ := guards_ok r names.length (by omega) (by omega) hnn
  obtain ⟨many, B, hrun, h1, h2, h3, h4, h5, h6⟩ := run_ok (t0 := t0) (t1 := t1) (s0 := s0) (s1 := s1) (names := names) (gs := gs) b0 b1 b2 b3 n3 (by omega) hgl hgo
  have hA : AOk many names B := ⟨h1.1, h1.2, by omega, h3, h4, h5, h6⟩
  by_cases k3 : kd = 3
  · obtain ⟨C, hfw, hC⟩ := fewer_ok ((ns.take 8).drop 4) hA n4
    have hcut : cutD (ns.map D.int) (some 4) (some 8) = ((ns.take 8).drop 4).map D.int := by
      have h := cutD_mid (ns.map D.int) 4 8
      rw [List.map_drop, List.map_take]
      exact h
    refine ⟨many, names, C, ?_, by omega, hfin hC⟩
    clear hC hA hfin h4 h5 h6 hgo
    dsimp only [chD]
    generalize rv r' = R' at *
    generalize rv r = R at *
    generalize B.map arcD = BD at *
    generalize C.map arcD = CD at *
    generalize names.map D.str = NS at *
    generalize gs.map gdD = GD at *
    generalize ((ns.take 8).drop 4).map D.int = CS at *
    simp [fn_law_chart, b_law_chart, c0, c1, c2, c3, hcn, n1, x1, hk, k3, hL, hg, hrun, hcut, hfw, hpN]
  · refine ⟨many, names, B, ?_, by omega, hfin hA⟩
    clear hA hfin h4 h5 h6 hgo
    dsimp only [chD]
    generalize rv r' = R' at *
    generalize rv r = R at *
    generalize B.map arcD = BD at *
    generalize names.map D.str = NS at *
    generalize gs.map gdD = GD at *
    simp [fn_law_chart, b_law_chart, c0, c1, c2, c3, hcn, n1, x1, hk, k0, k1, k3, hL, hg, hrun, hpN]
/-! ### the row -/
@[simp] theorem z_takeT {env : DEnv} {fl : Bool} {xs : List D} {n : Int} : takeT [.tupF fl xs, .int n] env = match atI xs n with
    | some d => .ok (d, [], env)
    | none => .bad := rfl
@[simp] theorem z_noOut {F : Fn} {ds : List D} : noOut F ds = match F ds with
    | .ok (r, _) => .ok (r, [])
    | .exc c => .exc c
    | .bad => .bad := rfl
theorem p10_30 : gPow [.int 10, .int 30] = some (.int 1000000000000000000000000000000) := pow_eq (by decide) (by decide +kernel)
theorem p10_29 : gPow [.int 10, .int 29] = some (.int 100000000000000000000000000000) := pow_eq (by decide) (by decide +kernel)
def farN (z : Int) : Int := z % 1000000000000000000000000000000 - 100000000000000000000000000000
theorem farN_bd (z : Int) : Bd 110 (farN z) := by
  unfold Bd farN
  have h1 := Int.emod_nonneg z (show (1000000000000000000000000000000 : Int) ≠ 0 by decide)
  have h2 := Int.emod_lt_of_pos z (show (0 : Int) < 1000000000000000000000000000000 by decide)
  generalize z % 1000000000000000000000000000000 = y at *
  have : (2 : Nat) ^ 110 = 1298074214633706907132624082305024 := by decide
  omega
theorem far_cell {ns : List Int} (k : Nat) (z : Int) (h : fn_law_cell_at [.scr ns, .int (9 + (k : Int))] = .ok (.int z, [])) : (must (bName 4 (.int (k : Int)) [some (.brw, .scr ns), some (.brw, .tupF true NS), none, none, none, none]) fun e => (eOp (.own (eOp (.own (eK (.fin [.plc 0 (pVar 0), .pur (hOp [.pur (hC (.int 9)), .pur (hVar 4)] gAdd)]) (callK [.b, .b] fn_law_cell_at)) (.fin [.pur (hOp [.pur (hC (.int 10)), .pur (hC (.int 30))] gPow)])) gMod) (.fin [.pur (hOp [.pur (hC (.int 10)), .pur (hC (.int 29))] gPow)])) gSub) e >>= fun q => must (dropS [4] q.2) fun e2 => Out.ok (q.1, e2)) = .ok (.int (farN z), [some (.brw, .scr ns), some (.brw, .tupF true NS), none, none, none, none]) := by
  have h1 := p10_30
  have h2 := p10_29
  unfold farN
  simp [h]
end DL

namespace DL
open PySem PySem.Spec PyProof.Rows L2
def rwElt : DEnv → Out (D × DEnv) := (eP (hOp [.pur (hOp [.pur (hRd (pIx (pVar 2) (hC (.int 3)))), .pur (hRd (pIx (pIx (pVar 5) (hC (.int 0))) (hC (.int 2))))] gMul), .pur (hOp [.pur (hRd (pIx (pVar 2) (hC (.int 4)))), .pur (hRd (pIx (pIx (pVar 5) (hC (.int 1))) (hC (.int 2))))] gMul)] gAdd))
def rwFar : DEnv → Out (D × DEnv) := (eOp (.own (eOp (.own (eK (.fin [.plc 0 (pVar 0), .pur (hOp [.pur (hC (.int 9)), .pur (hVar 4)] gAdd)]) (callK [.b, .b] fn_law_cell_at)) (.fin [.pur (hOp [.pur (hC (.int 10)), .pur (hC (.int 30))] gPow)])) gMod) (.fin [.pur (hOp [.pur (hC (.int 10)), .pur (hC (.int 29))] gPow)])) gSub)
theorem rw_eq : b_law_row = (sSeq (sSet 2 (lcE [.pur (hC (.int 5))] mkRange1 (bName 4) eYes rwFar [4]))
  (sSeq (sIfE (eOr (eB (eOp (.own (eOp (.own (eK (.fin [.plc 0 (pVar 0), .pur (hC (.int 3))]) (callK [.b, .b] fn_law_cell_at)) (.fin [.pur (hC (.int 4))])) gMod) (.fin [.pur (hC (.int 2))])) gLt)) (eB (eOp (.own (eOp (.own (eK (.fin [.plc 0 (pVar 0), .pur (hC (.int 8))]) (callK [.b, .b] fn_law_cell_at)) (.fin [.pur (hC (.int 3))])) gMod) (.fin [.pur (hC (.int 0))])) gEq))) (sSeq (sRet (eOp (.fin [.plc 2 (pVar 2), .int (hOp [.pur (hVar 1)] gLen)]) (slH fSlL)))
  sNop) sNop)
  (sSeq (sIfE (eB (eOp (.own (eOp (.own (eK (.fin [.plc 0 (pVar 0), .pur (hC (.int 8))]) (callK [.b, .b] fn_law_cell_at)) (.fin [.pur (hC (.int 3))])) gMod) (.fin [.pur (hC (.int 1))])) gEq)) (sSeq (sExpr (eK (.pur (hC (.int 0)) (.io 2 (.fin [.pur (hC (.int 4))]))) setK))
  sNop) sNop)
  (sSeq (sSet 3 (eK (.own (eK (.own (eK (.own (eK (.fin [.plc 0 (pVar 0), .pur (hC (.int 2))]) (callK [.b, .b] fn_law_cell_at)) (.fin [.pur (hC (.int 40))])) (callK [.b, .b] fn_law_stream)) (.fin [.pur (hOp [.pur (hVar 1)] gLen)])) (callK [.mv, .b] (noOut fn_law_guards))) (.fin [.pur (hC (.int 2))])) takeT))
  (sSeq (sRet (lcE [.plc 3 (pVar 3)] mkSeq (bName 5) eYes rwElt [5]))
  sNop))))) := rfl
def mixN (a b : Int) (g : Gd) : Int := a * g.1.2.2 + b * g.2.2.2
theorem mixN_bd {a b t0 t1 : Int} {g : Gd} (ha : Bd 110 a) (hb : Bd 110 b) (h0 : 0 ≤ t0 ∧ t0 ≤ 3) (h1 : 0 ≤ t1 ∧ t1 ≤ 1) (hg : SdOk t0 g.1 ∧ SdOk t1 g.2) : Bd 120 (mixN a b g) ∧ MulOk a g.1.2.2 ∧ MulOk b g.2.2.2 := by
  have g1 := hg.1.2
  have g2 := hg.2.2
  have b1 : Bd 3 g.1.2.2 := by unfold Bd; omega
  have b2 : Bd 3 g.2.2.2 := by unfold Bd; omega
  refine ⟨?_, mulOk ha b1, mulOk hb b2⟩
  unfold mixN
  generalize g.1.2.2 = u at *
  generalize g.2.2.2 = v at *
  unfold Bd at ha hb ⊢
  have n1 : (a * u).natAbs ≤ 2 ^ 110 * 3 := by
    rw [Int.natAbs_mul]
    exact Nat.mul_le_mul (Nat.le_of_lt ha) (by omega)
  have n2 : (b * v).natAbs ≤ 2 ^ 110 * 3 := by
    rw [Int.natAbs_mul]
    exact Nat.mul_le_mul (Nat.le_of_lt hb) (by omega)
  have e1 : (2 : Nat) ^ 110 = 1298074214633706907132624082305024 := by decide
  have e2 : (2 : Nat) ^ 120 = 1329227995784915872903807060280344576 := by decide
  rw [e1] at n1 n2
  rw [e2]
  omega
theorem rw_elt {a b c3 c4 : Int} {fr : List D} {SC NM : D} {g : Gd} (h3 : atI fr 3 = some (.int a)) (h4 : atI fr 4 = some (.int b)) (m1 : MulOk a g.1.2.2) (m2 : MulOk b g.2.2.2) {GD : List D} : (must (bName 5 (gdD g) [some (.brw, SC), some (.brw, NM), some (.own, .lst fr), some (.lck, .lst GD), none, none]) fun e => rwElt e >>= fun q => must (dropS [5] q.2) fun e2 => Out.ok (q.1, e2)) = .ok (.int (mixN a b g), [some (.brw, SC), some (.brw, NM), some (.own, .lst fr), some (.lck, .lst GD), none, none]) := by
  obtain ⟨⟨l1, h1, c1⟩, ⟨l2, h2, c2⟩⟩ := g
  unfold rwElt mixN
  simp only at m1 m2
  simp [h3, h4, m1, m2]
theorem row_ok (ns : List Int) (names : List Str) (h1 : 1 ≤ names.length) (h3 : names.length ≤ 3) : ∃ nu : List Int, fn_law_row [.scr ns, .tupF true (names.map .str)] = .ok (.lst (nu.map .int), []) ∧ nu.length = names.length ∧ ∀ z ∈ nu, Bd 120 z := by
  have hcell := cell_ok ns
  have c2 := hcell 2 (by decide)
  have c3 := hcell 3 (by decide)
  have c8 := hcell 8 (by decide)
  have hlc := lcG_map (bd := bName 4) (cl := [4]) (elt := rwFar) (e0 := [some (.brw, .scr ns), some (.brw, .tupF true (names.map .str)), none, none, none, none]) (g := fun k : Nat => D.int (farN (cv ns (9 + k)))) (φ := fun k : Nat => D.int (k : Int)) (List.range 5) fun k _ => by
    have := hcell (9 + (k : Int)) (by omega)
    rw [show (9 + (k : Int)).toNat = 9 + k by omega] at this
    exact far_cell k _ this
  have hr5 : rngD 0 5 = (List.range 5).map fun k : Nat => D.int (k : Int) := rng_map 5
  have hir : inRng (5 : Int) = true := inRng_of (by decide)
  have e5 : ((List.range 5).map fun k : Nat => D.int (farN (cv ns (9 + k)))) = ([farN (cv ns 9), farN (cv ns 10), farN (cv ns 11), farN (cv ns 12), farN (cv ns 13)] : List Int).map .int := rfl
  rw [e5] at hlc
  have f0 := farN_bd (cv ns 9)
  have f1 := farN_bd (cv ns 10)
  have f2 := farN_bd (cv ns 11)
  have f3 := farN_bd (cv ns 12)
  have f4 := farN_bd (cv ns 13)
  have fz : Bd 110 0 := by unfold Bd; decide
  generalize farN (cv ns 9) = a0 at *
  generalize farN (cv ns 10) = a1 at *
  generalize farN (cv ns 11) = a2 at *
  generalize farN (cv ns 12) = a3 at *
  generalize farN (cv ns 13) = a4 at *
  have hL : ((names.map D.str).length : Int) = (names.length : Int) := by rw [List.length_map]
  have hR : (List.map (fun k : Nat => D.int (k : Int)) (List.range 5)).length < 16777216 := by simp
  generalize cv ns (2 : Int).toNat = z2 at *
  generalize cv ns (3 : Int).toNat = z3 at *
  generalize cv ns (8 : Int).toNat = z8 at *
  by_cases k1 : z3 % 4 < 2 ∨ z8 % 3 = 0
  · refine ⟨[a0, a1, a2, a3, a4].take names.length, ?_, by simp; omega, fun z hz => ?_⟩
    · have hcut : cutD ([a0, a1, a2, a3, a4].map D.int) none (some (names.length : Int)) = ([a0, a1, a2, a3, a4].take names.length).map D.int := by rw [cutD_take', List.map_take]
      have hpI : D.pureL ([a0, a1, a2, a3, a4].map D.int) = true := z_pints _
      have hpN : D.pureL (names.map D.str) = true := z_pstrs names
      generalize ([a0, a1, a2, a3, a4].take names.length).map D.int = OUT at *
      generalize [a0, a1, a2, a3, a4].map D.int = FR at *
      generalize (List.range 5).map (fun k : Nat => D.int (k : Int)) = R at *
      generalize names.map D.str = NS at *
      by_cases k2 : z3 % 4 < 2
      · simp [fn_law_row, rw_eq, hir, hr5, hR, hlc, c3, k2, hpN, hL, hcut, hpI]
      · have k3 : z8 % 3 = 0 := k1.resolve_left k2
        simp [fn_law_row, rw_eq, hir, hr5, hR, hlc, c3, c8, k2, k3, hpN, hL, hcut, hpI]
    · have := List.mem_of_mem_take hz
      simp only [List.mem_cons, List.not_mem_nil, or_false] at this
      rcases this with rfl | rfl | rfl | rfl | rfl <;> exact Bd.mono (by assumption) (by decide)
  · have k2 : ¬ z3 % 4 < 2 := fun h => k1 (.inl h)
    have k3 : ¬ z8 % 3 = 0 := fun h => k1 (.inr h)
    obtain ⟨xs, x1, x2, x3⟩ := stream_ok z2 40 (by decide)
    rw [rv_of] at x1
    have hr : xs.reverse.length = 40 := by rw [List.length_reverse]; exact x2
    have hnn : NN xs.reverse := fun v hv => x3 v (List.mem_reverse.mp hv)
    generalize xs.reverse = r at *
    obtain ⟨t0, t1, s0, s1, gs, r', hg, b0, b1, b2, b3, hgl, hgo⟩ := guards_ok r names.length (by omega) (by omega) hnn
    replace x1 : fn_law_stream [.int z2, .int 40] = .ok (.lst (rv r), []) := x1
    obtain ⟨b4, hb4, hb4d⟩ : ∃ b4, b4 = (if z8 % 3 = 1 then 0 else a4) ∧ Bd 110 b4 := ⟨_, rfl, by split; exact fz; exact f4⟩
    have hpN : D.pureL (names.map D.str) = true := z_pstrs names
    have hlc2 := lcG_map (bd := bName 5) (cl := [5]) (elt := rwElt) (e0 := [some (.brw, .scr ns), some (.brw, .tupF true (names.map .str)), some (.own, .lst [.int a0, .int a1, .int a2, .int a3, .int b4]), some (.lck, .lst (gs.map gdD)), none, none]) (g := fun g : Gd => D.int (mixN a3 b4 g)) (φ := gdD) gs fun g hgm => by
      have hq := mixN_bd f3 hb4d b0 b1 (hgo g hgm)
      exact rw_elt (c3 := 0) (c4 := 0) (atI_nat (j := 3) rfl) (atI_nat (j := 4) rfl) hq.2.1 hq.2.2
    refine ⟨gs.map (mixN a3 b4), ?_, by simp [hgl], fun z hz => ?_⟩
    · have em : (gs.map (mixN a3 b4)).map D.int = gs.map fun g : Gd => D.int (mixN a3 b4 g) := by rw [List.map_map]; rfl
      rw [em]
      have hgL : (gs.map gdD).length < 16777216 := by simp; omega
      clear hgo em
      generalize gs.map (fun g : Gd => D.int (mixN a3 b4 g)) = OUT at *
      generalize gs.map gdD = GD at *
      generalize (List.range 5).map (fun k : Nat => D.int (k : Int)) = R at *
      generalize names.map D.str = NS at *
      generalize rv r' = R' at *
      generalize rv r = R0 at *
      have ix4 : ixN 5 4 = some 4 := by decide
      simp only [List.map_cons, List.map_nil] at hlc
      by_cases k4 : z8 % 3 = 1
      · rw [if_pos k4] at hb4
        subst hb4
        simp [fn_law_row, rw_eq, hir, hr5, hR, hlc, c2, c3, c8, k2, k3, k4, hpN, hL, x1, hg, hlc2, hgL, ix4]
      · rw [if_neg k4] at hb4
        subst hb4
        simp [fn_law_row, rw_eq, hir, hr5, hR, hlc, c2, c3, c8, k2, k3, k4, hpN, hL, x1, hg, hlc2, hgL, ix4]
    · obtain ⟨g, hgm, rfl⟩ := List.mem_map.mp hz
      exact (mixN_bd f3 hb4d b0 b1 (hgo g hgm)).1
end DL

namespace DL
open PySem PySem.Spec PyProof.Rows L2
/-! ### products -/
def dt : List Int → List Int → Int
  | a :: as, b :: bs => a * b + dt as bs
  | _, _ => 0
theorem dt_zip : ∀ (xs ys : List Int), ((xs.zip ys).map fun p => p.1 * p.2).sum = dt xs ys
  | [], _ => by simp [dt]
  | _ :: _, [] => by simp [dt]
  | a :: as, b :: bs => by
    rw [List.zip_cons_cons, List.map_cons, List.sum_cons, dt_zip as bs, dt]
theorem taken_ok (c nu : List Int) (hc : ∀ z ∈ c, Bd 40 z) (hn : ∀ z ∈ nu, Bd 120 z) (hl : c.length ≤ 1000) : fn_law_taken [.tup (c.map .int), .lst (nu.map .int)] = .ok (.int (dt c nu), []) := by
  have hz := zipD_map (φ := D.int) (ψ := D.int) c nu
  have hlc := lcG_map (bd := bTup (bCons (bName 2) (bCons (bName 3) bNil))) (cl := [2, 3]) (elt := eP (hOp [.pur (hVar 2), .pur (hVar 3)] gMul)) (e0 := [some (.brw, .tup (c.map .int)), some (.brw, .lst (nu.map .int)), none, none]) (g := fun p : Int × Int => D.int (p.1 * p.2)) (φ := fun p : Int × Int => D.tup [.int p.1, .int p.2]) (c.zip nu) fun p hp => by
    have m := mulOk (hc _ (List.of_mem_zip hp).1) (hn _ (List.of_mem_zip hp).2)
    simp [m]
  have hs : D.ints ((c.zip nu).map fun p : Int × Int => D.int (p.1 * p.2)) = some ((c.zip nu).map fun p => p.1 * p.2) := by
    have : ((c.zip nu).map fun p : Int × Int => D.int (p.1 * p.2)) = ((c.zip nu).map fun p => p.1 * p.2).map .int := by rw [List.map_map]; rfl
    rw [this, ints_map]
  have hp1 : D.pureL (c.map D.int) = true := z_pints c
  have hzl : ((c.zip nu).map fun p : Int × Int => D.tup [.int p.1, .int p.2]).length < 16777216 := by
    rw [List.length_map, List.length_zip]; omega
  rw [← dt_zip]
  have hsum : ((c.zip nu).map fun p => p.1 * p.2).sum = ((c.zip nu).map fun p => p.1 * p.2).sum := rfl
  generalize hQ : ((c.zip nu).map fun p => p.1 * p.2) = Q at *
  generalize (c.zip nu).map (fun p : Int × Int => D.int (p.1 * p.2)) = OUT at *
  generalize (c.zip nu).map (fun p : Int × Int => D.tup [.int p.1, .int p.2]) = ZD at *
  generalize c.map D.int = CD at *
  generalize nu.map D.int = ND at *
  simp [fn_law_taken, b_law_taken, hz, hlc, hs, hp1, hzl]
theorem dt_lin (f g h : Str → Int) : ∀ (names : List Str) (nu : List Int), dt (names.map fun m => f m + g m - h m) nu = dt (names.map f) nu + dt (names.map g) nu - dt (names.map h) nu
  | [], _ => by simp [dt]
  | _ :: _, [] => by simp [dt]
  | m :: names, z :: nu => by
    simp only [List.map_cons, dt, dt_lin f g h names nu]
    rw [Int.sub_mul, Int.add_mul]
    omega
theorem dt_zero {s : Str} : ∀ (names : List Str) (nu : List Int), s ∉ names → dt (names.map fun m => if m = s then (1 : Int) else 0) nu = 0
  | [], _, _ => by simp [dt]
  | _ :: _, [], _ => by simp [dt]
  | m :: names, z :: nu, h => by
    have h1 : ¬ m = s := fun e => h (by rw [e]; exact List.mem_cons_self)
    simp only [List.map_cons, dt, if_neg h1, dt_zero names nu fun q => h (List.mem_cons_of_mem _ q)]
    omega
theorem dt_ind {s : Str} : ∀ (names : List Str) (nu : List Int) (i : Nat), names.Nodup → names[i]? = some s → nu.length = names.length → dt (names.map fun m => if m = s then (1 : Int) else 0) nu = nu.getD i 0
  | [], _, _, _, h, _ => by cases h
  | m :: names, [], _, _, _, h => by simp at h
  | m :: names, z :: nu, 0, hn, h, hl => by
    have e : m = s := Option.some.inj h
    subst e
    simp only [List.map_cons, dt, if_pos, dt_zero names nu (List.nodup_cons.mp hn).1]
    simp
  | m :: names, z :: nu, i + 1, hn, h, hl => by
    have h2 : names[i]? = some s := h
    have h1 : ¬ m = s := fun e => (List.nodup_cons.mp hn).1 (e ▸ List.mem_of_getElem? h2)
    simp only [List.map_cons, dt, if_neg h1, dt_ind names nu i (List.nodup_cons.mp hn).2 h2 (by simpa using hl)]
    simp
/-- the arc's second state has what its first one and the move make -/
def Fit (names : List Str) (W : Nat → List Str) (nu : List Int) (x : Arc) : Prop := dt (cntOf names (W x.1)) nu + nu.getD ((names.findIdx? (· == x.2.1)).getD 0) 0 = dt (cntOf names (W x.2.2)) nu
theorem ring_fit {names : List Str} {W : Nat → List Str} {nu : List Int} {x : Arc} (hn : names.Nodup) (hx : x.2.1 ∈ names) (hl : nu.length = names.length) : dt (ringOf names W x) nu = 0 ↔ Fit names W nu x := by
  obtain ⟨i, hi⟩ := List.mem_iff_getElem?.mp hx
  obtain ⟨hil, he⟩ := List.getElem?_eq_some_iff.mp hi
  have hix := idx_nodup hn hil
  rw [he] at hix
  unfold Fit
  rw [hix, Option.getD_some]
  have h1 : ringOf names W x = names.map fun m => (((W x.1).count m : Nat) : Int) + (if m = x.2.1 then 1 else 0) - (((W x.2.2).count m : Nat) : Int) := rfl
  rw [h1, dt_lin, dt_ind names nu i hn hi hl]
  unfold cntOf
  omega
theorem tree_fit {many : Nat} {names : List Str} {B : List Arc} {T : List Ent} {nu : List Int} (hc : ChOk many names B) (hT : TI many B T T.length) {x : Arc} (hx : x ∈ B) (ho : offT T x = false) (hl : nu.length = names.length) : Fit names (wayOf T) nu x := by
  rw [← ring_fit hc.nn (hc.arcs x hx).2.1 hl]
  have ho2 : arcOf T x.2.2 = some x := by
    unfold offT at ho
    simpa using ho
  unfold arcOf at ho2
  cases hf : T.find? fun e => decide (e.1 = x.2.2) with
  | none => rw [hf] at ho2; cases ho2
  | some e =>
    rw [hf] at ho2
    simp only [Option.bind_some] at ho2
    have e1 := List.find?_some hf
    simp only [decide_eq_true_eq] at e1
    have em := List.mem_of_find?_eq_some hf
    obtain ⟨i, hi⟩ := List.mem_iff_getElem?.mp em
    have hi0 : 0 < i := by
      rcases Nat.eq_zero_or_pos i with z | z
      · subst z
        rw [hT.hd] at hi
        cases hi
        cases ho2
      · exact z
    obtain ⟨y, hy, j, f, g1, g2, g3, g4⟩ := hT.tl i e hi0 hi
    have w1 := hT.wayOf em
    have w2 := hT.wayOf (List.mem_of_getElem? g2)
    rw [g4] at ho2 w1
    simp only at ho2 w1
    cases ho2
    rw [g3] at w2
    rw [← w2] at w1
    have key : ringOf names (wayOf T) x = names.map fun m => (0 : Int) + 0 - 0 := by
      unfold ringOf
      refine List.map_congr_left fun m _ => ?_
      unfold ringI
      rw [w1, List.count_append, List.count_singleton]
      by_cases h : m = x.2.1
      · rw [if_pos h, if_pos (by simp [h])]
        omega
      · rw [if_neg h, if_neg (by simpa using fun z => h z.symm)]
        omega
    rw [key]
    have := dt_lin (fun _ => 0) (fun _ => 0) (fun _ => 0) names nu
    rw [this]
    have z : ∀ (names : List Str) (nu : List Int), dt (names.map fun _ => (0 : Int)) nu = 0 := fun names => by
      induction names with
      | nil => intro nu; simp [dt]
      | cons m r ih =>
        intro nu
        cases nu with
        | nil => simp [dt]
        | cons z nu => simp [dt, ih]
    rw [z]
    rfl
/-! ### the law -/
def lwBody : Stm := (sSeq (sIf (hB (hOp [.pur (hOp [.pur (hRd (pIx (pVar 6) (hVar 8))), .pur (hRd (pIx (pVar 2) (hOp [.put (hRd (pIx (pVar 1) (hC (.int 0)))) (tyD "tuple"), .pur (hVar 9)] gTIx)))] gAdd), .pur (hRd (pIx (pVar 6) (hVar 10)))] gNe)) (sSeq (sSet 7 (eP (hC (.bl false))))
  sNop) sNop)
  sNop)
def lwC : DEnv → Out (Bool × DEnv) := (eB (eOp (.own (eK (.fin [.pur (hVar 12), .plc 2 (pVar 2)]) (callK [.b, .b] fn_law_taken)) (.fin [.pur (hC (.int 0))])) gNe))
def lwE : DEnv → Out (D × DEnv) := (eK (.fin [.pur (hVar 11), .plc 2 (pVar 2)]) (callK [.b, .b] fn_law_taken))
theorem lw_eq : b_law = (sSeq (sSet 1 (eK (.fin [.plc 0 (pVar 0)]) (callK [.b] fn_law_chart)))
  (sSeq (sSet 2 (eK (.fin [.plc 0 (pVar 0), .pur (hRd (pIx (pVar 1) (hC (.int 0))))]) (callK [.b, .b] fn_law_row)))
  (sSeq (sSet 3 (eK (.own (eK (.pur (hRd (pIx (pVar 1) (hC (.int 0)))) (.own (eOp (.fin [.plc 1 (pIx (pVar 1) (hC (.int 1)))]) gListOf) (.fin []))) (dspK .tup)) (.fin [])) (callK [.b] fn_rings_of)))
  (sSeq (sSet 4 (eK (.own (eK (.pur (hRd (pIx (pVar 1) (hC (.int 0)))) (.own (eOp (.fin [.plc 1 (pIx (pVar 1) (hC (.int 1)))]) gListOf) (.fin []))) (dspK .tup)) (.fin [])) (callK [.b] fn_counts_of)))
  (sSeq (sIfE (eOr (eNot (eB (eK (.fin [.plc 3 (pVar 3), .pur (hOp [.pur (hRd (pIx (pVar 1) (hC (.int 0))))] gLen)]) (callK [.b, .b] fn_law_is_rows)))) (eNot (eB (eK (.fin [.plc 4 (pVar 4), .pur (hOp [.pur (hRd (pIx (pVar 1) (hC (.int 0))))] gLen)]) (callK [.b, .b] fn_law_is_rows))))) (sSeq (sRet (eP (hC (.bl false))))
  sNop) sNop)
  (sSeq (sSet 5 (eOp (.own (eOp (.own (lcE [.plc 3 (pVar 3)] mkSeq (bName 12) lwC (eP (hVar 12)) [12]) (.fin [])) gLen) (.fin [.pur (hC (.int 0))])) gEq))
  (sSeq (sSet 6 (lcE [.plc 4 (pVar 4)] mkSeq (bName 11) eYes lwE [11]))
  (sSeq (sSet 7 (eP (hC (.bl true))))
  (sSeq (sFor [.plc 1 (pIx (pVar 1) (hC (.int 1)))] mkSeq (bTup (bCons (bName 8) (bCons (bName 9) (bCons (bName 10) bNil)))) [8, 9, 10] lwBody)
  (sSeq (sRet (eP (hOp [.pur (hVar 5), .pur (hVar 7)] gEq)))
  sNop)))))))))) := rfl
theorem lw_turn {many : Nat} {names : List Str} {B : List Arc} {nu : List Int} {L : List Int} {SC RS CS : D} {cb fb : Bool} {x : Arc} {i : Nat} (e1 : L[x.1]? = some a) (e2 : L[x.2.2]? = some b) (hi : names.findIdx? (· == x.2.1) = some i) (e3 : nu[i]? = some z) {nf : Bool} (hnf : nf = (fb && decide (a + z = b))) : Turn1 (bTup (bCons (bName 8) (bCons (bName 9) (bCons (bName 10) bNil)))) [8, 9, 10] lwBody (arcD x) [some (.brw, SC), some (.lck, chD true names B), some (.own, .lst (nu.map .int)), some (.own, RS), some (.own, CS), some (.own, .bl cb), some (.own, .lst (L.map .int)), some (.own, .bl fb), none, none, none, none, none] [some (.brw, SC), some (.lck, chD true names B), some (.own, .lst (nu.map .int)), some (.own, RS), some (.own, CS), some (.own, .bl cb), some (.own, .lst (L.map .int)), some (.own, .bl nf), none, none, none, none, none] := by
  have a1 : atI (L.map D.int) (x.1 : Int) = some (.int a) := atI_nat (by rw [List.getElem?_map, e1]; rfl)
  have a2 : atI (L.map D.int) (x.2.2 : Int) = some (.int b) := atI_nat (by rw [List.getElem?_map, e2]; rfl)
  have a3 : atI (nu.map D.int) (i : Int) = some (.int z) := atI_nat (by rw [List.getElem?_map, e3]; rfl)
  have hix : fTIx (.tupF true (names.map .str)) (.str x.2.1) = some (.int (i : Int)) := by rw [z_tix, hi]; rfl
  have hpN : D.pureL (names.map D.str) = true := z_pstrs names
  obtain ⟨u, mv, v⟩ := x
  simp only at a1 a2 hix
  subst hnf
  generalize L.map D.int = LD at *
  generalize nu.map D.int = ND at *
  dsimp only [chD]
  generalize names.map D.str = NS at *
  generalize B.map arcD = BD at *
  unfold Turn1 lwBody
  by_cases h : a + z = b
  · cases fb <;> simp [a1, a2, a3, hix, hpN, h, tyD]
  · cases fb <;> simp [a1, a2, a3, hix, hpN, h, tyD]
theorem law_true (ns : List Int) (hl : ns.length ≤ 63) (hb : ∀ z ∈ ns, Builtin.Int.intBits z ≤ 1048576) : fn_law [.scr ns] = .ok (.bl true, []) := by
  obtain ⟨many, names, B, hch, hn3, hc⟩ := chart_ok ns
  obtain ⟨nu, hrow, hnl, hnb⟩ := row_ok ns names hn3.1 hn3.2
  obtain ⟨ht, hT⟩ := tree_ok' (fl := true) hc
  have hwo := ways_of_ok hc ht hT
  have hw := TI.wok hc hT
  have hco := counts_ok hc hwo
  have hr := rings_ok hc ht hT hco
  have hm2 := hc.m2
  have hlb := hc.lb
  generalize treeOf B many = T at *
  have cntB : ∀ s, ∀ z ∈ cntOf names (wayOf T s), Bd 40 z := fun s z hz => by
    unfold cntOf at hz
    obtain ⟨m, _, rfl⟩ := List.mem_map.mp hz
    have := hw.ln s
    have := List.count_le_length (a := m) (l := wayOf T s)
    unfold Bd; omega
  have ringB : ∀ x, ∀ z ∈ ringOf names (wayOf T) x, Bd 40 z := fun x z hz => by
    unfold ringOf ringI at hz
    obtain ⟨m, _, rfl⟩ := List.mem_map.mp hz
    have := hw.ln x.1
    have := hw.ln x.2.2
    have := List.count_le_length (a := m) (l := wayOf T x.1)
    have := List.count_le_length (a := m) (l := wayOf T x.2.2)
    unfold Bd
    split <;> omega
  have hrows1 := rows_ok ((B.filter (offT T)).map (ringOf names (wayOf T))) names.length (fun c hcm => by
    obtain ⟨s, _, rfl⟩ := List.mem_map.mp hcm
    unfold ringOf
    rw [List.length_map]) (by omega)
  rw [List.map_map] at hrows1
  replace hrows1 : fn_law_is_rows [.lst ((B.filter (offT T)).map fun x => cD (ringOf names (wayOf T) x)), .int names.length] = .ok (.bl true, []) := hrows1
  have hrows2 := rows_ok ((List.range many).map fun s => cntOf names (wayOf T s)) names.length (fun c hcm => by
    obtain ⟨s, _, rfl⟩ := List.mem_map.mp hcm
    unfold cntOf
    rw [List.length_map]) (by omega)
  rw [List.map_map] at hrows2
  replace hrows2 : fn_law_is_rows [.lst ((List.range many).map fun s => cD (cntOf names (wayOf T s))), .int names.length] = .ok (.bl true, []) := hrows2
  have t1 : ∀ x, fn_law_taken [cD (ringOf names (wayOf T) x), .lst (nu.map .int)] = .ok (.int (dt (ringOf names (wayOf T) x) nu), []) := fun x => taken_ok _ _ (ringB x) hnb (by unfold ringOf; rw [List.length_map]; omega)
  have t2 : ∀ s, fn_law_taken [cD (cntOf names (wayOf T s)), .lst (nu.map .int)] = .ok (.int (dt (cntOf names (wayOf T s)) nu), []) := fun s => taken_ok _ _ (cntB s) hnb (by unfold cntOf; rw [List.length_map]; omega)
  have hl1 := lcG_filt (bd := bName 12) (cl := [12]) (ce := lwC) (elt := eP (hVar 12)) (e0 := [some (.brw, .scr ns), some (.own, chD true names B), some (.own, .lst (nu.map .int)), some (.lck, .lst ((B.filter (offT T)).map fun x => cD (ringOf names (wayOf T) x))), some (.own, .lst ((List.range many).map fun s => cD (cntOf names (wayOf T s)))), none, none, none, none, none, none, none, none]) (c := fun x : Arc => !decide (dt (ringOf names (wayOf T) x) nu = 0)) (g := fun x : Arc => cD (ringOf names (wayOf T) x)) (φ := fun x : Arc => cD (ringOf names (wayOf T) x)) (B.filter (offT T)) fun x hx => by
    have q := t1 x
    have hp : D.pureL ((ringOf names (wayOf T) x).map D.int) = true := z_pints _
    dsimp only [cD] at q ⊢
    generalize dt (ringOf names (wayOf T) x) nu = v at *
    generalize (ringOf names (wayOf T) x).map D.int = rg at *
    generalize nu.map D.int = ND at *
    generalize chD true names B = C at *
    generalize (List.range many).map (fun s => D.tup ((cntOf names (wayOf T s)).map .int)) = CS at *
    generalize (B.filter (offT T)).map (fun x => D.tup ((ringOf names (wayOf T) x).map .int)) = RS at *
    unfold TurnC lwC
    by_cases h : v = 0
    · subst h; simp [q, hp]
    · simp [q, hp, h]
  have hl2 : ∀ cb : Bool, lcG (bName 11) eYes lwE [11] ((List.range many).map fun s => cD (cntOf names (wayOf T s))) [some (.brw, .scr ns), some (.own, chD true names B), some (.own, .lst (nu.map .int)), some (.own, .lst ((B.filter (offT T)).map fun x => cD (ringOf names (wayOf T) x))), some (.lck, .lst ((List.range many).map fun s => cD (cntOf names (wayOf T s)))), some (.own, .bl cb), none, none, none, none, none, none, none] = .ok ((List.range many).map fun s => D.int (dt (cntOf names (wayOf T s)) nu), [some (.brw, .scr ns), some (.own, chD true names B), some (.own, .lst (nu.map .int)), some (.own, .lst ((B.filter (offT T)).map fun x => cD (ringOf names (wayOf T) x))), some (.lck, .lst ((List.range many).map fun s => cD (cntOf names (wayOf T s)))), some (.own, .bl cb), none, none, none, none, none, none, none]) := fun cb =>
    lcG_map (g := fun s : Nat => D.int (dt (cntOf names (wayOf T s)) nu)) (φ := fun s : Nat => cD (cntOf names (wayOf T s))) (List.range many) fun s hs => by
      have q := t2 s
      have hp : D.pureL ((cntOf names (wayOf T s)).map D.int) = true := z_pints _
      dsimp only [cD] at q ⊢
      generalize dt (cntOf names (wayOf T s)) nu = v at *
      generalize (cntOf names (wayOf T s)).map D.int = rg at *
      generalize nu.map D.int = ND at *
      generalize chD true names B = C at *
      generalize (List.range many).map (fun s => D.tup ((cntOf names (wayOf T s)).map .int)) = CS at *
      generalize (B.filter (offT T)).map (fun x => D.tup ((ringOf names (wayOf T) x).map .int)) = RS at *
      unfold lwE
      simp [q, hp]
  have hLm : ((List.range many).map fun s => D.int (dt (cntOf names (wayOf T s)) nu)) = ((List.range many).map fun s => dt (cntOf names (wayOf T s)) nu).map .int := by rw [List.map_map]; rfl
  have hfor : ∀ cb : Bool, forD (bTup (bCons (bName 8) (bCons (bName 9) (bCons (bName 10) bNil)))) [8, 9, 10] lwBody (B.map arcD) [some (.brw, .scr ns), some (.lck, chD true names B), some (.own, .lst (nu.map .int)), some (.own, .lst ((B.filter (offT T)).map fun x => cD (ringOf names (wayOf T) x))), some (.own, .lst ((List.range many).map fun s => cD (cntOf names (wayOf T s)))), some (.own, .bl cb), some (.own, .lst (((List.range many).map fun s => dt (cntOf names (wayOf T s)) nu).map .int)), some (.own, .bl true), none, none, none, none, none] = .ok (.nx [some (.brw, .scr ns), some (.lck, chD true names B), some (.own, .lst (nu.map .int)), some (.own, .lst ((B.filter (offT T)).map fun x => cD (ringOf names (wayOf T) x))), some (.own, .lst ((List.range many).map fun s => cD (cntOf names (wayOf T s)))), some (.own, .bl cb), some (.own, .lst (((List.range many).map fun s => dt (cntOf names (wayOf T s)) nu).map .int)), some (.own, .bl (B.foldl (fun (f : Bool) x => f && @decide (Fit names (wayOf T) nu x) (Classical.propDecidable _)) true)), none, none, none, none, none]) := fun cb => by
    have hf := forD_foldI (bd := bTup (bCons (bName 8) (bCons (bName 9) (bCons (bName 10) bNil)))) (cl := [8, 9, 10]) (body := lwBody) (st := fun f : Bool => [some (.brw, .scr ns), some (.lck, chD true names B), some (.own, .lst (nu.map .int)), some (.own, .lst ((B.filter (offT T)).map fun x => cD (ringOf names (wayOf T) x))), some (.own, .lst ((List.range many).map fun s => cD (cntOf names (wayOf T s)))), some (.own, .bl cb), some (.own, .lst (((List.range many).map fun s => dt (cntOf names (wayOf T s)) nu).map .int)), some (.own, .bl f), none, none, none, none, none]) (f := fun (f : Bool) x => f && @decide (Fit names (wayOf T) nu x) (Classical.propDecidable _)) (φ := fun x : Arc => arcD x) (I := fun _ _ => True) B 0 true trivial fun j f x hx _ => ⟨trivial, by
      have hxB := List.mem_of_getElem? hx
      obtain ⟨h1, hm, h2⟩ := hc.arcs x hxB
      obtain ⟨i, hi⟩ := List.mem_iff_getElem?.mp hm
      obtain ⟨hil, he⟩ := List.getElem?_eq_some_iff.mp hi
      have hix := idx_nodup hc.nn hil
      rw [he] at hix
      obtain ⟨z, hz⟩ : ∃ z, nu[i]? = some z := ⟨_, List.getElem?_eq_getElem (by omega)⟩
      refine lw_turn (many := many) (a := dt (cntOf names (wayOf T x.1)) nu) (b := dt (cntOf names (wayOf T x.2.2)) nu) (by rw [List.getElem?_map, List.getElem?_range h1]; rfl) (by rw [List.getElem?_map, List.getElem?_range h2]; rfl) hix hz ?_
      congr 1
      unfold Fit
      rw [hix, Option.getD_some, List.getD_eq_getElem?_getD, hz, Option.getD_some]
      exact decide_eq_decide.mpr Iff.rfl⟩
    exact hf.1
  have hiff : ((((B.filter (offT T)).filter fun x : Arc => !decide (dt (ringOf names (wayOf T) x) nu = 0)).map fun x => cD (ringOf names (wayOf T) x)).length = 0) ↔ (B.foldl (fun (f : Bool) x => f && @decide (Fit names (wayOf T) nu x) (Classical.propDecidable _)) true) = true := by
    have fold : ∀ (L : List Arc) (f : Bool), (L.foldl (fun (f : Bool) x => f && @decide (Fit names (wayOf T) nu x) (Classical.propDecidable _)) f) = true ↔ f = true ∧ ∀ x ∈ L, Fit names (wayOf T) nu x := fun L => by
      induction L with
      | nil => intro f; simp
      | cons y r ih =>
        intro f
        rw [List.foldl_cons, ih]
        simp [and_assoc]
    rw [fold, List.length_map, List.length_eq_zero_iff, List.filter_eq_nil_iff]
    refine ⟨fun h => ⟨rfl, fun x hx => ?_⟩, fun h x hx => ?_⟩
    · cases ho : offT T x with
      | false => exact tree_fit hc hT hx ho hnl
      | true =>
        have := h x (List.mem_filter.mpr ⟨hx, ho⟩)
        rw [← ring_fit hc.nn (hc.arcs x hx).2.1 hnl]
        simpa using this
    · have hxB := (List.mem_filter.mp hx).1
      have := (ring_fit (W := wayOf T) hc.nn (hc.arcs x hxB).2.1 hnl).mpr (h.2 x hxB)
      simp [this]
  have hbl : ∀ a b : Bool, gEqB (.bl a) (.bl b) = some (decide (a = b)) := fun a b => EqOk.bl.eq a b
  have hpB : D.pureL (B.map arcD) = true := pureL_map (φ := fun x : Arc => arcD x) (fun _ => rfl) B
  have hpN : D.pureL (names.map D.str) = true := z_pstrs names
  have hNl : ((names.map D.str).length : Int) = names.length := by rw [List.length_map]
  have hrl1 : ((B.filter (offT T)).map fun x => cD (ringOf names (wayOf T) x)).length < 16777216 := by
    rw [List.length_map]
    have := List.length_filter_le (offT T) B
    omega
  have hrl2 : ((List.range many).map fun s => cD (cntOf names (wayOf T s))).length < 16777216 := by simp; omega
  rw [hLm] at hl2
  clear hwo hw ht hT t1 t2 hLm cntB ringB
  replace hr : fn_rings_of [chD true names B] = .ok (.lst ((B.filter (offT T)).map fun x => cD (ringOf names (wayOf T) x)), []) := hr
  dsimp only [chD] at *
  generalize hF : (B.foldl (fun (f : Bool) x => f && @decide (Fit names (wayOf T) nu x) (Classical.propDecidable _)) true) = F at *
  generalize (((B.filter (offT T)).filter fun x : Arc => !decide (dt (ringOf names (wayOf T) x) nu = 0)).map fun x => cD (ringOf names (wayOf T) x)) = RF at *
  generalize ((List.range many).map fun s => dt (cntOf names (wayOf T s)) nu).map D.int = LL at *
  generalize ((B.filter (offT T)).map fun x => cD (ringOf names (wayOf T) x)) = RS at *
  generalize ((List.range many).map fun s => cD (cntOf names (wayOf T s))) = CS at *
  generalize B.map arcD = BD at *
  generalize names.map D.str = NS at *
  generalize nu.map D.int = ND at *
  have hl2t := hl2 true
  have hl2f := hl2 false
  have hft := hfor true
  have hff := hfor false
  have hcode : decide (RF.length = 0) = F := by
    cases F
    · simp only [decide_eq_false_iff_not]
      intro h
      cases hiff.mp h
    · exact decide_eq_true (hiff.mpr rfl)
  cases F
  · have hn0 : ¬ RF.length = 0 := of_decide_eq_false hcode
    have hz : ¬ ((RF.length : Nat) : Int) = 0 := by omega
    simp [fn_law, lw_eq, hch, hrow, hr, hco, hpB, hpN, hNl, hrows1, hrows2, hl1, hl2f, hrl1, hrl2, hff, hn0, hbl]
  · have hz : RF.length = 0 := of_decide_eq_true hcode
    simp [fn_law, lw_eq, hch, hrow, hr, hco, hpB, hpN, hNl, hrows1, hrows2, hl1, hl2t, hrl1, hrl2, hft, hz, hbl]
end DL

namespace DL
open PySem PySem.Spec PyProof.Rows L2
noncomputable section
def topS (i : Nat) : Stmt := PySem.Challenge.pw_netfinder_k34_rings_and_arcs.main.body.getD i (.Pass ⟨0, 0, 0, 0⟩)
abbrev s_tree_arcs : Stmt := topS 1
abbrev N_tree_arcs : List Str := ["chart", "arcs", "done", "here", "arc"]
abbrev P_tree_arcs : List Str := ["chart"]
theorem sc_tree_arcs : FnScope N_tree_arcs P_tree_arcs (defScope s_tree_arcs) := ⟨rfl, rfl, rfl, by decide +kernel, rfl, by decide +kernel, by decide +kernel⟩
abbrev s_ways_of : Stmt := topS 2
abbrev N_ways_of : List Str := ["chart", "known", "state", "arc"]
abbrev P_ways_of : List Str := ["chart"]
theorem sc_ways_of : FnScope N_ways_of P_ways_of (defScope s_ways_of) := ⟨rfl, rfl, rfl, by decide +kernel, rfl, by decide +kernel, by decide +kernel⟩
abbrev s_counts_of : Stmt := topS 3
abbrev N_counts_of : List Str := ["chart", "way", "move"]
abbrev P_counts_of : List Str := ["chart"]
theorem sc_counts_of : FnScope N_counts_of P_counts_of (defScope s_counts_of) := ⟨rfl, rfl, rfl, by decide +kernel, rfl, by decide +kernel, by decide +kernel⟩
abbrev s_rings_of : Stmt := topS 4
abbrev N_rings_of : List Str := ["chart", "tree", "counts", "rings", "arc", "ring", "move", "there", "back"]
abbrev P_rings_of : List Str := ["chart"]
theorem sc_rings_of : FnScope N_rings_of P_rings_of (defScope s_rings_of) := ⟨rfl, rfl, rfl, by decide +kernel, rfl, by decide +kernel, by decide +kernel⟩
abbrev s_law_cell_at : Stmt := topS 6
abbrev N_law_cell_at : List Str := ["_law_script", "_law_k"]
abbrev P_law_cell_at : List Str := ["_law_script", "_law_k"]
theorem sc_law_cell_at : FnScope N_law_cell_at P_law_cell_at (defScope s_law_cell_at) := ⟨rfl, rfl, rfl, by decide +kernel, rfl, by decide +kernel, by decide +kernel⟩
abbrev s_law_stream : Stmt := topS 7
abbrev N_law_stream : List Str := ["_law_cell", "_law_count", "_law_found", "_law_x", "_law_k"]
abbrev P_law_stream : List Str := ["_law_cell", "_law_count"]
theorem sc_law_stream : FnScope N_law_stream P_law_stream (defScope s_law_stream) := ⟨rfl, rfl, rfl, by decide +kernel, rfl, by decide +kernel, by decide +kernel⟩
abbrev s_law_names : Stmt := topS 8
abbrev N_law_names : List Str := ["_law_cell", "_law_count", "_law_letters", "_law_long", "_law_spot", "_law_listed", "_law_k", "_law_name", "_law_j", "_law_step"]
abbrev P_law_names : List Str := ["_law_cell", "_law_count"]
theorem sc_law_names : FnScope N_law_names P_law_names (defScope s_law_names) := ⟨rfl, rfl, rfl, by decide +kernel, rfl, by decide +kernel, by decide +kernel⟩
abbrev s_law_come_to : Stmt := topS 9
abbrev N_law_come_to : List Str := ["_law_arcs", "_law_there", "_law_k", "_law_one", "_law_move", "_law_other"]
abbrev P_law_come_to : List Str := ["_law_arcs"]
theorem sc_law_come_to : FnScope N_law_come_to P_law_come_to (defScope s_law_come_to) := ⟨rfl, rfl, rfl, by decide +kernel, rfl, by decide +kernel, by decide +kernel⟩
abbrev s_law_guards : Stmt := topS 10
abbrev N_law_guards : List Str := ["_law_xs", "_law_count", "_law_tops", "_law_start", "_law_guards_here", "_law_k", "_law_sides", "_law_most", "_law_change", "_law_low", "_law_high"]
abbrev P_law_guards : List Str := ["_law_xs", "_law_count"]
theorem sc_law_guards : FnScope N_law_guards P_law_guards (defScope s_law_guards) := ⟨rfl, rfl, rfl, by decide +kernel, rfl, by decide +kernel, by decide +kernel⟩
abbrev s_law_gone : Stmt := topS 11
abbrev N_law_gone : List Str := ["_law_spot", "_law_sides", "_law_there", "_law_number", "_law_side"]
abbrev P_law_gone : List Str := ["_law_spot", "_law_sides"]
theorem sc_law_gone : FnScope N_law_gone P_law_gone (defScope s_law_gone) := ⟨rfl, rfl, rfl, by decide +kernel, rfl, by decide +kernel, by decide +kernel⟩
abbrev s_law_run : Stmt := topS 12
abbrev N_law_run : List Str := ["_law_names_here", "_law_start", "_law_guards_here", "_law_spots", "_law_arcs", "_law_done", "_law_name", "_law_sides", "_law_there"]
abbrev P_law_run : List Str := ["_law_names_here", "_law_start", "_law_guards_here"]
theorem sc_law_run : FnScope N_law_run P_law_run (defScope s_law_run) := ⟨rfl, rfl, rfl, by decide +kernel, rfl, by decide +kernel, by decide +kernel⟩
abbrev s_law_few : Stmt := topS 13
abbrev N_law_few : List Str := ["_law_xs", "_law_names_here", "_law_many", "_law_arcs", "_law_k"]
abbrev P_law_few : List Str := ["_law_xs", "_law_names_here"]
theorem sc_law_few : FnScope N_law_few P_law_few (defScope s_law_few) := ⟨rfl, rfl, rfl, by decide +kernel, rfl, by decide +kernel, by decide +kernel⟩
abbrev s_law_word : Stmt := topS 14
abbrev N_law_word : List Str := ["_law_xs", "_law_names_here", "_law_long", "_law_arcs", "_law_k"]
abbrev P_law_word : List Str := ["_law_xs", "_law_names_here"]
theorem sc_law_word : FnScope N_law_word P_law_word (defScope s_law_word) := ⟨rfl, rfl, rfl, by decide +kernel, rfl, by decide +kernel, by decide +kernel⟩
abbrev s_law_fewer : Stmt := topS 15
abbrev N_law_fewer : List Str := ["_law_arcs", "_law_cells", "_law_cell", "_law_k", "_law_rest"]
abbrev P_law_fewer : List Str := ["_law_arcs", "_law_cells"]
theorem sc_law_fewer : FnScope N_law_fewer P_law_fewer (defScope s_law_fewer) := ⟨rfl, rfl, rfl, by decide +kernel, rfl, by decide +kernel, by decide +kernel⟩
abbrev s_law_chart : Stmt := topS 16
abbrev N_law_chart : List Str := ["_law_script", "_law_names_here", "_law_xs", "_law_kind", "_law_arcs", "_law_tops", "_law_start", "_law_guards_here"]
abbrev P_law_chart : List Str := ["_law_script"]
theorem sc_law_chart : FnScope N_law_chart P_law_chart (defScope s_law_chart) := ⟨rfl, rfl, rfl, by decide +kernel, rfl, by decide +kernel, by decide +kernel⟩
abbrev s_law_is_whole : Stmt := topS 17
abbrev N_law_is_whole : List Str := ["_law_told"]
abbrev P_law_is_whole : List Str := ["_law_told"]
theorem sc_law_is_whole : FnScope N_law_is_whole P_law_is_whole (defScope s_law_is_whole) := ⟨rfl, rfl, rfl, by decide +kernel, rfl, by decide +kernel, by decide +kernel⟩
abbrev s_law_is_rows : Stmt := topS 18
abbrev N_law_is_rows : List Str := ["_law_told", "_law_width", "_law_row_here", "_law_number"]
abbrev P_law_is_rows : List Str := ["_law_told", "_law_width"]
theorem sc_law_is_rows : FnScope N_law_is_rows P_law_is_rows (defScope s_law_is_rows) := ⟨rfl, rfl, rfl, by decide +kernel, rfl, by decide +kernel, by decide +kernel⟩
abbrev s_law_taken : Stmt := topS 19
abbrev N_law_taken : List Str := ["_law_row_here", "_law_numbers", "_law_one", "_law_other"]
abbrev P_law_taken : List Str := ["_law_row_here", "_law_numbers"]
theorem sc_law_taken : FnScope N_law_taken P_law_taken (defScope s_law_taken) := ⟨rfl, rfl, rfl, by decide +kernel, rfl, by decide +kernel, by decide +kernel⟩
abbrev s_law_row : Stmt := topS 20
abbrev N_law_row : List Str := ["_law_script", "_law_names_here", "_law_far", "_law_guards_here", "_law_k", "_law_sides"]
abbrev P_law_row : List Str := ["_law_script", "_law_names_here"]
theorem sc_law_row : FnScope N_law_row P_law_row (defScope s_law_row) := ⟨rfl, rfl, rfl, by decide +kernel, rfl, by decide +kernel, by decide +kernel⟩
abbrev s_law : Stmt := topS 21
abbrev N_law : List Str := ["_law_script", "_law_chart_here", "_law_numbers", "_law_rings", "_law_counts", "_law_closed", "_law_there", "_law_fits", "_law_one", "_law_move", "_law_other", "_law_count", "_law_ring"]
abbrev P_law : List Str := ["_law_script"]
theorem sc_law : FnScope N_law P_law (defScope s_law) := ⟨rfl, rfl, rfl, by decide +kernel, rfl, by decide +kernel, by decide +kernel⟩
/-- what the top has written -/
structure Fx (K : PySem.W.Frag) (mg : Str → Option Value) where
  f_tree_arcs : Addr
  d_tree_arcs : FuncData
  F_tree_arcs : L2.Fun K "tree_arcs" "tree_arcs" s_tree_arcs f_tree_arcs d_tree_arcs
  b_tree_arcs : Binds K d_tree_arcs P_tree_arcs []
  g_tree_arcs : mg "tree_arcs" = some (.ref f_tree_arcs)
  f_ways_of : Addr
  d_ways_of : FuncData
  F_ways_of : L2.Fun K "ways_of" "ways_of" s_ways_of f_ways_of d_ways_of
  b_ways_of : Binds K d_ways_of P_ways_of []
  g_ways_of : mg "ways_of" = some (.ref f_ways_of)
  f_counts_of : Addr
  d_counts_of : FuncData
  F_counts_of : L2.Fun K "counts_of" "counts_of" s_counts_of f_counts_of d_counts_of
  b_counts_of : Binds K d_counts_of P_counts_of []
  g_counts_of : mg "counts_of" = some (.ref f_counts_of)
  f_rings_of : Addr
  d_rings_of : FuncData
  F_rings_of : L2.Fun K "rings_of" "rings_of" s_rings_of f_rings_of d_rings_of
  b_rings_of : Binds K d_rings_of P_rings_of []
  g_rings_of : mg "rings_of" = some (.ref f_rings_of)
  f_law_cell_at : Addr
  d_law_cell_at : FuncData
  F_law_cell_at : L2.Fun K "_law_cell_at" "_law_cell_at" s_law_cell_at f_law_cell_at d_law_cell_at
  b_law_cell_at : Binds K d_law_cell_at P_law_cell_at []
  g_law_cell_at : mg "_law_cell_at" = some (.ref f_law_cell_at)
  f_law_stream : Addr
  d_law_stream : FuncData
  F_law_stream : L2.Fun K "_law_stream" "_law_stream" s_law_stream f_law_stream d_law_stream
  b_law_stream : Binds K d_law_stream P_law_stream []
  g_law_stream : mg "_law_stream" = some (.ref f_law_stream)
  f_law_names : Addr
  d_law_names : FuncData
  F_law_names : L2.Fun K "_law_names" "_law_names" s_law_names f_law_names d_law_names
  b_law_names : Binds K d_law_names P_law_names []
  g_law_names : mg "_law_names" = some (.ref f_law_names)
  f_law_come_to : Addr
  d_law_come_to : FuncData
  F_law_come_to : L2.Fun K "_law_come_to" "_law_come_to" s_law_come_to f_law_come_to d_law_come_to
  b_law_come_to : Binds K d_law_come_to P_law_come_to []
  g_law_come_to : mg "_law_come_to" = some (.ref f_law_come_to)
  f_law_guards : Addr
  d_law_guards : FuncData
  F_law_guards : L2.Fun K "_law_guards" "_law_guards" s_law_guards f_law_guards d_law_guards
  b_law_guards : Binds K d_law_guards P_law_guards []
  g_law_guards : mg "_law_guards" = some (.ref f_law_guards)
  f_law_gone : Addr
  d_law_gone : FuncData
  F_law_gone : L2.Fun K "_law_gone" "_law_gone" s_law_gone f_law_gone d_law_gone
  b_law_gone : Binds K d_law_gone P_law_gone []
  g_law_gone : mg "_law_gone" = some (.ref f_law_gone)
  f_law_run : Addr
  d_law_run : FuncData
  F_law_run : L2.Fun K "_law_run" "_law_run" s_law_run f_law_run d_law_run
  b_law_run : Binds K d_law_run P_law_run []
  g_law_run : mg "_law_run" = some (.ref f_law_run)
  f_law_few : Addr
  d_law_few : FuncData
  F_law_few : L2.Fun K "_law_few" "_law_few" s_law_few f_law_few d_law_few
  b_law_few : Binds K d_law_few P_law_few []
  g_law_few : mg "_law_few" = some (.ref f_law_few)
  f_law_word : Addr
  d_law_word : FuncData
  F_law_word : L2.Fun K "_law_word" "_law_word" s_law_word f_law_word d_law_word
  b_law_word : Binds K d_law_word P_law_word []
  g_law_word : mg "_law_word" = some (.ref f_law_word)
  f_law_fewer : Addr
  d_law_fewer : FuncData
  F_law_fewer : L2.Fun K "_law_fewer" "_law_fewer" s_law_fewer f_law_fewer d_law_fewer
  b_law_fewer : Binds K d_law_fewer P_law_fewer []
  g_law_fewer : mg "_law_fewer" = some (.ref f_law_fewer)
  f_law_chart : Addr
  d_law_chart : FuncData
  F_law_chart : L2.Fun K "_law_chart" "_law_chart" s_law_chart f_law_chart d_law_chart
  b_law_chart : Binds K d_law_chart P_law_chart []
  g_law_chart : mg "_law_chart" = some (.ref f_law_chart)
  f_law_is_whole : Addr
  d_law_is_whole : FuncData
  F_law_is_whole : L2.Fun K "_law_is_whole" "_law_is_whole" s_law_is_whole f_law_is_whole d_law_is_whole
  b_law_is_whole : Binds K d_law_is_whole P_law_is_whole []
  g_law_is_whole : mg "_law_is_whole" = some (.ref f_law_is_whole)
  f_law_is_rows : Addr
  d_law_is_rows : FuncData
  F_law_is_rows : L2.Fun K "_law_is_rows" "_law_is_rows" s_law_is_rows f_law_is_rows d_law_is_rows
  b_law_is_rows : Binds K d_law_is_rows P_law_is_rows []
  g_law_is_rows : mg "_law_is_rows" = some (.ref f_law_is_rows)
  f_law_taken : Addr
  d_law_taken : FuncData
  F_law_taken : L2.Fun K "_law_taken" "_law_taken" s_law_taken f_law_taken d_law_taken
  b_law_taken : Binds K d_law_taken P_law_taken []
  g_law_taken : mg "_law_taken" = some (.ref f_law_taken)
  f_law_row : Addr
  d_law_row : FuncData
  F_law_row : L2.Fun K "_law_row" "_law_row" s_law_row f_law_row d_law_row
  b_law_row : Binds K d_law_row P_law_row []
  g_law_row : mg "_law_row" = some (.ref f_law_row)
  f_law : Addr
  d_law : FuncData
  F_law : L2.Fun K "law" "law" s_law f_law d_law
  b_law : Binds K d_law P_law []
  g_law : mg "law" = some (.ref f_law)
  n_bool : mg "bool" = none
  n_int : mg "int" = none
  n_isinstance : mg "isinstance" = none
  n_len : mg "len" = none
  n_list : mg "list" = none
  n_max : mg "max" = none
  n_min : mg "min" = none
  n_range : mg "range" = none
  n_sorted : mg "sorted" = none
  n_sum : mg "sum" = none
  n_tuple : mg "tuple" = none
  n_zip : mg "zip" = none
section
variable {P : Program} {w : World} {K : PySem.W.Frag} {mg : Str → Option Value} {base : Heap} {cl : Str → Option Addr}
theorem ok_tree_arcs {k : Nat} (fx : Fx K mg) : FnOk P w K mg base (L2.CX P w) (k + 1) fx.f_tree_arcs fx.d_tree_arcs P_tree_arcs (spD ⟨K, cl⟩ [.b] fn_tree_arcs) := by
  refine def_ok (k := k + 0) (N := N_tree_arcs) (ms := [.b]) (body := b_tree_arcs) fx.F_tree_arcs sc_tree_arcs rfl fun cdv A outer s H E W hr dw hp => ?_
  exact (s_cons (s_set dw.dx rfl (by first | exact .inl rfl | exact .inr rfl) (e_one (kk := .inl 0) (d := .non) pe_int pe_non fun _ _ => ⟨rfl, rfl⟩))
  (s_cons (s_set dw.dx rfl (by first | exact .inl rfl | exact .inr rfl) (e_p p_int))
  (s_cons (s_while hp (t_p (t_cmpPP op_ltA rop_lt pure_lt (p_var (pv 2)) (p_lenD (hs := [.plc 1 (pVar 1)]) dw.dx (by rfl) fx.n_len (pa_cons (p_plc (pv 1)) pa_nil)))) (s_drop [3, 4] (s_cons (s_set dw.dx rfl (by first | exact .inl rfl | exact .inr rfl) (e_ixo dw.dx (.own (eOp (.fin [.plc 1 (pVar 1)]) gListD) (.fin [.pur (hVar 2)])) (e_listD dw.dx (by rfl) fx.n_list (.fin [.plc 1 (pVar 1)]) (pa_cons (p_plc (pv 1)) pa_nil)) (p_var (pv 2))))
  (s_cons (s_for [4] dw.dx hp (i_seq (.plc 0 (pIx (pVar 0) (hC (.int 1)))) dw.dx (l_ix dw.dx (p_plc (pv 0)) p_int)) (pg_name (i := 4) sc_tree_arcs.nd rfl (by first | exact .inl rfl | exact .inr rfl)) bind_name (s_cons (s_if (w_and (t_cmpPP (op_eqD (hu_eq1 dw.dx)) rop_eq pure_eq (p_rd (l_ix dw.dx (p_plc (pv 4)) p_int)) (p_var (pv 3))) (w_and1 (t_dnotin (s1 := .pur (hRd (pIx (pVar 4) (hC (.int 2))))) (s2 := .plc 1 (pVar 1)) dw.dx (p_rd (l_ix dw.dx (p_plc (pv 4)) p_int)) (p_plc (pv 1))))).pt (s_cons (s_setD dw.dx (.pur (hVar 4) (.io 1 (.fin [.pur (hRd (pIx (pVar 4) (hC (.int 2))))]))) (p_var (pv 4)) (pv 1) (p_rd (l_ix dw.dx (p_plc (pv 4)) p_int)))
  s_nil) s_nil)
  s_nil))
  (s_cons (s_aug dw.dx rfl (by first | exact .inl rfl | exact .inr rfl) ip_add (e_p p_int))
  s_nil)))))
  (s_cons (s_ret (e_mov (pv 1)))
  s_nil))))
theorem ok_ways_of {k : Nat} (fx : Fx K mg) : FnOk P w K mg base (L2.CX P w) (k + 2) fx.f_ways_of fx.d_ways_of P_ways_of (spD ⟨K, cl⟩ [.b] fn_ways_of) := by
  refine def_ok (k := k + 1) (N := N_ways_of) (ms := [.b]) (body := b_ways_of) fx.F_ways_of sc_ways_of rfl fun cdv A outer s H E W hr dw hp => ?_
  exact (s_cons (s_set dw.dx rfl (by first | exact .inl rfl | exact .inr rfl) e_newK)
  (s_cons (s_for [2, 3] dw.dx hp (i_items (e_call dw (ok_tree_arcs (k := k + 0) fx) hr (by rfl) fx.g_tree_arcs fx.F_tree_arcs.kp fx.b_tree_arcs (.fin [.plc 0 (pVar 0)]) (pa_cons (p_plc (pv 0)) pa_nil))) (pg_tup rfl (pgs_cons (pg_name (i := 2) sc_ways_of.nd rfl (by first | exact .inl rfl | exact .inr rfl)) (pgs_cons (pg_name (i := 3) sc_ways_of.nd rfl (by first | exact .inl rfl | exact .inr rfl)) pgs_nil))) (bind_tup rfl (binds_cons bind_name (binds_cons bind_name binds_nil)) (bCons_len (bCons_len bNil_len))) (s_cons (s_if (t_cmpPP op_isN rop_isN pure_isN (p_var (pv 3)) p_non) (s_cons (s_setD dw.dx (.pur (hOp [] fTupP) (.io 1 (.fin [.pur (hVar 2)]))) (p_tupP (hs := []) pa_nil) (pv 1) (p_var (pv 2)))
  s_nil) (s_cons (s_setD dw.dx (.pur (hOp [.pur (hOp [.plc 1 (pVar 1), .pur (hRd (pIx (pVar 3) (hC (.int 0))))] gDGet), .pur (hOp [.pur (hRd (pIx (pVar 3) (hC (.int 1))))] fTupP)] gAddX) (.io 1 (.fin [.pur (hVar 2)]))) (p_binPP op_catX rop_addX pure_addX (p_dget (s1 := .plc 1 (pVar 1)) (s2 := .pur (hRd (pIx (pVar 3) (hC (.int 0))))) dw.dx (p_plc (pv 1)) (p_rd (l_ix dw.dx (p_plc (pv 3)) p_int))) (p_tupP (hs := [.pur (hRd (pIx (pVar 3) (hC (.int 1))))]) (pa_cons (p_rd (l_ix dw.dx (p_plc (pv 3)) p_int)) pa_nil))) (pv 1) (p_var (pv 2)))
  s_nil))
  s_nil))
  (s_cons (s_ret (e_lc (own := [("state", 2)]) dw.dx (i_range1 [.pur (hOp [.plc 1 (pVar 1)] gLenD)] (by rfl) fx.n_range (pa_cons (p_lenD (hs := [.plc 1 (pVar 1)]) dw.dx (by rfl) fx.n_len (pa_cons (p_plc (pv 1)) pa_nil)) pa_nil)) (blkOk_by (N := N_ways_of) (sc := (defScope s_ways_of)) (by decide +kernel)) bind_name (fun _ _ _ _ _ => (pg_name (i := 2) sc_ways_of.nd rfl (by first | exact .inl rfl | exact .inr rfl))) (fun _ _ _ _ _ => ts_nil) (fun _ _ _ _ _ => (e_p (p_dget (s1 := .plc 1 (pVar 1)) (s2 := .pur (hVar 2)) dw.blk.dx (p_plc (pv 1)) (p_var (pv 2)))))))
  s_nil)))
theorem ok_counts_of {k : Nat} (fx : Fx K mg) : FnOk P w K mg base (L2.CX P w) (k + 3) fx.f_counts_of fx.d_counts_of P_counts_of (spD ⟨K, cl⟩ [.b] fn_counts_of) := by
  refine def_ok (k := k + 2) (N := N_counts_of) (ms := [.b]) (body := b_counts_of) fx.F_counts_of sc_counts_of rfl fun cdv A outer s H E W hr dw hp => ?_
  exact (s_cons (s_ret (e_lc (own := [("way", 1)]) dw.dx (i_seq (.own (eK (.fin [.plc 0 (pVar 0)]) (callK [.b] fn_ways_of))) dw.dx (e_call dw (ok_ways_of (k := k + 0) fx) hr (by rfl) fx.g_ways_of fx.F_ways_of.kp fx.b_ways_of (.fin [.plc 0 (pVar 0)]) (pa_cons (p_plc (pv 0)) pa_nil))) (blkOk_by (N := N_counts_of) (sc := (defScope s_counts_of)) (by decide +kernel)) bind_name (fun _ _ _ _ _ => (pg_name (i := 1) sc_counts_of.nd rfl (by first | exact .inl rfl | exact .inr rfl))) (fun _ _ _ _ _ => ts_nil) (fun _ _ _ _ _ => (e_tupOf dw.blk.dx (by rfl) fx.n_tuple (.own (lcE [.pur (hRd (pIx (pVar 0) (hC (.int 0))))] mkSeq (bName 2) eYes (eP (hOp [.put (hVar 1) (tyD "tuple"), .pur (hVar 2)] gTCnt)) [2]) (.fin [])) (pa_cons (e_lc (own := [("move", 2)]) dw.blk.dx (i_seq (.pur (hRd (pIx (pVar 0) (hC (.int 0))))) dw.blk.dx (p_rd (l_ix dw.blk.dx (p_plc (pv 0)) p_int))) (blkOk_by (N := N_counts_of) (by kernel_rfl)) bind_name (fun _ _ _ _ _ => (pg_name (i := 2) sc_counts_of.nd rfl (by first | exact .inl rfl | exact .inr rfl))) (fun _ _ _ _ _ => ts_nil) (fun _ _ _ _ _ => (e_p (p_tCnt (hs := [.pur (hVar 2)]) dw.blk.blk.dx (p_var (pv 1)) (pa_cons (p_var (pv 2)) pa_nil))))) pa_nil)))))
  s_nil)
theorem ok_rings_of {k : Nat} (fx : Fx K mg) : FnOk P w K mg base (L2.CX P w) (k + 4) fx.f_rings_of fx.d_rings_of P_rings_of (spD ⟨K, cl⟩ [.b] fn_rings_of) := by
  refine def_ok (k := k + 3) (N := N_rings_of) (ms := [.b]) (body := b_rings_of) fx.F_rings_of sc_rings_of rfl fun cdv A outer s H E W hr dw hp => ?_
  exact (s_cons (s_set dw.dx rfl (by first | exact .inl rfl | exact .inr rfl) (e_call dw (ok_tree_arcs (k := k + 2) fx) hr (by rfl) fx.g_tree_arcs fx.F_tree_arcs.kp fx.b_tree_arcs (.fin [.plc 0 (pVar 0)]) (pa_cons (p_plc (pv 0)) pa_nil)))
  (s_cons (s_set dw.dx rfl (by first | exact .inl rfl | exact .inr rfl) (e_call dw (ok_counts_of (k := k + 0) fx) hr (by rfl) fx.g_counts_of fx.F_counts_of.kp fx.b_counts_of (.fin [.plc 0 (pVar 0)]) (pa_cons (p_plc (pv 0)) pa_nil)))
  (s_cons (s_set dw.dx rfl (by first | exact .inl rfl | exact .inr rfl) (e_lst (.fin []) pa_nil))
  (s_cons (s_for [4, 5, 6, 7, 8] dw.dx hp (i_seq (.plc 0 (pIx (pVar 0) (hC (.int 1)))) dw.dx (l_ix dw.dx (p_plc (pv 0)) p_int)) (pg_name (i := 4) sc_rings_of.nd rfl (by first | exact .inl rfl | exact .inr rfl)) bind_name (s_cons (s_if (t_cmpPP (op_neD (hu_eq1 dw.dx)) rop_ne pure_ne (p_dget (s1 := .plc 1 (pVar 1)) (s2 := .pur (hRd (pIx (pVar 4) (hC (.int 2))))) dw.dx (p_plc (pv 1)) (p_rd (l_ix dw.dx (p_plc (pv 4)) p_int))) (p_var (pv 4))) (s_cons (s_set dw.dx rfl (by first | exact .inl rfl | exact .inr rfl) (e_lst (.fin []) pa_nil))
  (s_cons (s_for [6, 7, 8] dw.dx hp (i_zip3 [.pur (hRd (pIx (pVar 0) (hC (.int 0)))), .pur (hRd (pIx (pVar 2) (hRd (pIx (pVar 4) (hC (.int 0)))))), .pur (hRd (pIx (pVar 2) (hRd (pIx (pVar 4) (hC (.int 2))))))] dw.dx (by rfl) fx.n_zip (pa_cons (p_rd (l_ix dw.dx (p_plc (pv 0)) p_int)) (pa_cons (p_rd (l_ix dw.dx (p_plc (pv 2)) (p_rd (l_ix dw.dx (p_plc (pv 4)) p_int)))) (pa_cons (p_rd (l_ix dw.dx (p_plc (pv 2)) (p_rd (l_ix dw.dx (p_plc (pv 4)) p_int)))) pa_nil)))) (pg_tup rfl (pgs_cons (pg_name (i := 6) sc_rings_of.nd rfl (by first | exact .inl rfl | exact .inr rfl)) (pgs_cons (pg_name (i := 7) sc_rings_of.nd rfl (by first | exact .inl rfl | exact .inr rfl)) (pgs_cons (pg_name (i := 8) sc_rings_of.nd rfl (by first | exact .inl rfl | exact .inr rfl)) pgs_nil)))) (bind_tup rfl (binds_cons bind_name (binds_cons bind_name (binds_cons bind_name binds_nil))) (bCons_len (bCons_len (bCons_len bNil_len)))) (s_cons (s_expr (e_append dw.dx (pv 5) (.fin [.pur (hOp [.pur (hOp [.pur (hVar 7), .pur (hOp [.pur (hOp [.pur (hVar 6), .pur (hRd (pIx (pVar 4) (hC (.int 1))))] gEq)] gInt)] gAdd), .pur (hVar 8)] gSub)]) (pa_cons (p_binPP op_sub rop_sub pure_sub (p_binPP op_addA rop_add pure_add (p_var (pv 7)) (p_int1 (hs := [.pur (hOp [.pur (hVar 6), .pur (hRd (pIx (pVar 4) (hC (.int 1))))] gEq)]) dw.dx (by rfl) fx.n_int (pa_cons (p_cmpPP (op_eqD (hu_eq1 dw.dx)) rop_eq pure_eq (p_var (pv 6)) (p_rd (l_ix dw.dx (p_plc (pv 4)) p_int))) pa_nil))) (p_var (pv 8))) pa_nil)))
  s_nil))
  (s_cons (s_expr (e_append dw.dx (pv 3) (.fin [.pur (hOp [.plc 5 (pVar 5)] gTupOf)]) (pa_cons (p_tupOf (hs := [.plc 5 (pVar 5)]) dw.dx (by rfl) fx.n_tuple (pa_cons (p_plc (pv 5)) pa_nil)) pa_nil)))
  s_nil))) s_nil)
  s_nil))
  (s_cons (s_ret (e_mov (pv 3)))
  s_nil)))))
theorem ok_law_cell_at {k : Nat} (fx : Fx K mg) : FnOk P w K mg base (L2.CX P w) (k + 1) fx.f_law_cell_at fx.d_law_cell_at P_law_cell_at (spD ⟨K, cl⟩ [.b, .b] fn_law_cell_at) := by
  refine def_ok (k := k + 0) (N := N_law_cell_at) (ms := [.b, .b]) (body := b_law_cell_at) fx.F_law_cell_at sc_law_cell_at rfl fun cdv A outer s H E W hr dw hp => ?_
  exact (s_cons (s_if (t_cmpPP op_ltA rop_lt pure_lt (p_var (pv 1)) (p_len (hs := [.plc 0 (pVar 0)]) dw.dx (by rfl) fx.n_len (pa_cons (p_plc (pv 0)) pa_nil))) (s_cons (s_ret (e_p (p_ixo (s1 := .plc 0 (pVar 0)) (s2 := .pur (hVar 1)) dw.dx (p_plc (pv 0)) (p_var (pv 1)))))
  s_nil) s_nil)
  (s_cons (s_ret (e_p p_int))
  s_nil))
theorem ok_law_stream {k : Nat} (fx : Fx K mg) : FnOk P w K mg base (L2.CX P w) (k + 1) fx.f_law_stream fx.d_law_stream P_law_stream (spD ⟨K, cl⟩ [.b, .b] fn_law_stream) := by
  refine def_ok (k := k + 0) (N := N_law_stream) (ms := [.b, .b]) (body := b_law_stream) fx.F_law_stream sc_law_stream rfl fun cdv A outer s H E W hr dw hp => ?_
  exact (s_cons (s_set dw.dx rfl (by first | exact .inl rfl | exact .inr rfl) (e_lst (.fin []) pa_nil))
  (s_cons (s_set dw.dx rfl (by first | exact .inl rfl | exact .inr rfl) (e_p (p_binPP op_addA rop_add pure_add (p_binPP op_mod rop_mod pure_mod (p_var (pv 0)) p_int) p_int)))
  (s_cons (s_for [4] dw.dx hp (i_range1 [.pur (hVar 1)] (by rfl) fx.n_range (pa_cons (p_var (pv 1)) pa_nil)) (pg_name (i := 4) sc_law_stream.nd rfl (by first | exact .inl rfl | exact .inr rfl)) bind_name (s_cons (s_set dw.dx rfl (by first | exact .inl rfl | exact .inr rfl) (e_p (p_binPP op_mod rop_mod pure_mod (p_binPP op_addA rop_add pure_add (p_binPP op_addA rop_add pure_add (p_binPP op_addA rop_add pure_add (p_binPP op_mulD rop_mul pure_mul (p_var (pv 3)) (p_var (pv 3))) (p_binPP op_mulD rop_mul pure_mul p_int (p_var (pv 3)))) (p_binPP op_mulD rop_mul pure_mul p_int (p_var (pv 4)))) p_int) p_int)))
  (s_cons (s_expr (e_append dw.dx (pv 2) (.fin [.pur (hOp [.pur (hVar 3), .pur (hC (.int 16))] gDiv)]) (pa_cons (p_binPP op_fdivW rop_div pure_div (p_var (pv 3)) p_int) pa_nil)))
  s_nil)))
  (s_cons (s_ret (e_mov (pv 2)))
  s_nil))))
theorem ok_law_names {k : Nat} (fx : Fx K mg) : FnOk P w K mg base (L2.CX P w) (k + 1) fx.f_law_names fx.d_law_names P_law_names (spD ⟨K, cl⟩ [.b, .b] fn_law_names) := by
  refine def_ok (k := k + 0) (N := N_law_names) (ms := [.b, .b]) (body := b_law_names) fx.F_law_names sc_law_names rfl fun cdv A outer s H E W hr dw hp => ?_
  exact (s_cons (s_set dw.dx rfl (by first | exact .inl rfl | exact .inr rfl) (e_p p_str))
  (s_cons (s_set dw.dx rfl (by first | exact .inl rfl | exact .inr rfl) (e_p (p_binPP op_addA rop_add pure_add p_int (p_binPP op_mod rop_mod pure_mod (p_var (pv 0)) p_int))))
  (s_cons (s_set dw.dx rfl (by first | exact .inl rfl | exact .inr rfl) (e_p (p_binPP op_mod rop_mod pure_mod (p_binPP op_fdivW rop_div pure_div (p_var (pv 0)) p_int) (p_var (pv 3)))))
  (s_cons (s_set dw.dx rfl (by first | exact .inl rfl | exact .inr rfl) (e_lst (.fin []) pa_nil))
  (s_cons (s_for [6, 7, 8, 9] dw.dx hp (i_range1 [.pur (hVar 1)] (by rfl) fx.n_range (pa_cons (p_var (pv 1)) pa_nil)) (pg_name (i := 6) sc_law_names.nd rfl (by first | exact .inl rfl | exact .inr rfl)) bind_name (s_cons (s_set dw.dx rfl (by first | exact .inl rfl | exact .inr rfl) (e_p p_str))
  (s_cons (s_for [8, 9] dw.dx hp (i_range1 [.pur (hVar 3)] (by rfl) fx.n_range (pa_cons (p_var (pv 3)) pa_nil)) (pg_name (i := 8) sc_law_names.nd rfl (by first | exact .inl rfl | exact .inr rfl)) bind_name (s_cons (s_set dw.dx rfl (by first | exact .inl rfl | exact .inr rfl) (e_p (p_binPP op_addA rop_add pure_add (p_binPP op_fdivW rop_div pure_div (p_var (pv 0)) (p_binPP op_addA rop_add pure_add (p_var (pv 8)) p_int)) (p_binPP op_mulD rop_mul pure_mul (p_var (pv 8)) (p_var (pv 8))))))
  (s_cons (s_if (t_cmpPP (op_eqD (hu_eq1 dw.dx)) rop_eq pure_eq (p_var (pv 8)) (p_var (pv 4))) (s_cons (s_set dw.dx rfl (by first | exact .inl rfl | exact .inr rfl) (e_p (p_binPP op_addA rop_add pure_add (p_var (pv 9)) (p_var (pv 6)))))
  s_nil) s_nil)
  (s_cons (s_set dw.dx rfl (by first | exact .inl rfl | exact .inr rfl) (e_p (p_binPP op_addA rop_add pure_add (p_var (pv 7)) (p_ixo (s1 := .pur (hVar 2)) (s2 := .pur (hOp [.pur (hVar 9), .pur (hC (.int 26))] gMod)) dw.dx (p_var (pv 2)) (p_binPP op_mod rop_mod pure_mod (p_var (pv 9)) p_int)))))
  s_nil))))
  (s_cons (s_if (t_cmpPP (op_eqD (hu_eq1 dw.dx)) rop_eq pure_eq (p_var (pv 7)) p_str) (s_cons (s_set dw.dx rfl (by first | exact .inl rfl | exact .inr rfl) (e_p p_str))
  s_nil) s_nil)
  (s_cons (s_expr (e_append dw.dx (pv 5) (.fin [.pur (hVar 7)]) (pa_cons (p_var (pv 7)) pa_nil)))
  s_nil)))))
  (s_cons (s_ret (e_sorted dw.dx (by rfl) fx.n_sorted (.fin [.plc 5 (pVar 5)]) (pa_cons (p_plc (pv 5)) pa_nil)))
  s_nil))))))
theorem ok_law_come_to {k : Nat} (fx : Fx K mg) : FnOk P w K mg base (L2.CX P w) (k + 1) fx.f_law_come_to fx.d_law_come_to P_law_come_to (spD ⟨K, cl⟩ [.b] fn_law_come_to) := by
  refine def_ok (k := k + 0) (N := N_law_come_to) (ms := [.b]) (body := b_law_come_to) fx.F_law_come_to sc_law_come_to rfl fun cdv A outer s H E W hr dw hp => ?_
  exact (s_cons (s_set dw.dx rfl (by first | exact .inl rfl | exact .inr rfl) (e_one (kk := .inl 0) (d := (.bl true)) pe_int pe_bl fun _ _ => ⟨rfl, rfl⟩))
  (s_cons (s_for [2, 3, 4, 5] dw.dx hp (i_range1 [.pur (hOp [.plc 0 (pVar 0)] gLen)] (by rfl) fx.n_range (pa_cons (p_len (hs := [.plc 0 (pVar 0)]) dw.dx (by rfl) fx.n_len (pa_cons (p_plc (pv 0)) pa_nil)) pa_nil)) (pg_name (i := 2) sc_law_come_to.nd rfl (by first | exact .inl rfl | exact .inr rfl)) bind_name (s_cons (s_for [3, 4, 5] dw.dx hp (i_seq (.plc 0 (pVar 0)) dw.dx (p_plc (pv 0))) (pg_tup rfl (pgs_cons (pg_name (i := 3) sc_law_come_to.nd rfl (by first | exact .inl rfl | exact .inr rfl)) (pgs_cons (pg_name (i := 4) sc_law_come_to.nd rfl (by first | exact .inl rfl | exact .inr rfl)) (pgs_cons (pg_name (i := 5) sc_law_come_to.nd rfl (by first | exact .inl rfl | exact .inr rfl)) pgs_nil)))) (bind_tup rfl (binds_cons bind_name (binds_cons bind_name (binds_cons bind_name binds_nil))) (bCons_len (bCons_len (bCons_len bNil_len)))) (s_cons (s_if (t_din (s1 := .pur (hVar 3)) (s2 := .plc 1 (pVar 1)) dw.dx (p_var (pv 3)) (p_plc (pv 1))) (s_cons (s_setD dw.dx (.pur (hC (.bl true)) (.io 1 (.fin [.pur (hVar 5)]))) p_bl (pv 1) (p_var (pv 5)))
  s_nil) s_nil)
  s_nil))
  s_nil))
  (s_cons (s_ret (e_mov (pv 1)))
  s_nil)))
theorem ok_law_guards {k : Nat} (fx : Fx K mg) : FnOk P w K mg base (L2.CX P w) (k + 1) fx.f_law_guards fx.d_law_guards P_law_guards (spD ⟨K, cl⟩ [.io, .b] fn_law_guards) := by
  refine def_ok (k := k + 0) (N := N_law_guards) (ms := [.io, .b]) (body := b_law_guards) fx.F_law_guards sc_law_guards rfl fun cdv A outer s H E W hr dw hp => ?_
  exact (s_cons (s_set dw.dx rfl (by first | exact .inl rfl | exact .inr rfl) (e_lst (.own (eOp (.pur (hC (.int 1)) (.own (eOp (.own (isL 0 (eK (.io 0 (.fin [])) popK)) (.fin [.pur (hC (.int 3))])) gMod) (.fin []))) gAdd) (.own (eOp (.own (isL 0 (eK (.io 0 (.fin [])) popK)) (.fin [.pur (hC (.int 2))])) gMod) (.fin []))) (pa_cons (e_bin op_addA rop_add (.pur (hC (.int 1)) (.own (eOp (.own (isL 0 (eK (.io 0 (.fin [])) popK)) (.fin [.pur (hC (.int 3))])) gMod) (.fin []))) p_int (e_bin op_mod rop_mod (.own (isL 0 (eK (.io 0 (.fin [])) popK)) (.fin [.pur (hC (.int 3))])) (e_pop dw.dx (pv 0)) p_int)) (pa_cons (e_bin op_mod rop_mod (.own (isL 0 (eK (.io 0 (.fin [])) popK)) (.fin [.pur (hC (.int 2))])) (e_pop dw.dx (pv 0)) p_int) pa_nil))))
  (s_cons (s_set dw.dx rfl (by first | exact .inl rfl | exact .inr rfl) (e_tup (.own (eOp (.own (isL 0 (eK (.io 0 (.fin [])) popK)) (.fin [.pur (hOp [.pur (hRd (pIx (pVar 2) (hC (.int 0)))), .pur (hC (.int 1))] gAdd)])) gMod) (.own (eOp (.own (isL 0 (eK (.io 0 (.fin [])) popK)) (.fin [.pur (hOp [.pur (hRd (pIx (pVar 2) (hC (.int 1)))), .pur (hC (.int 1))] gAdd)])) gMod) (.fin []))) (pa_cons (e_bin op_mod rop_mod (.own (isL 0 (eK (.io 0 (.fin [])) popK)) (.fin [.pur (hOp [.pur (hRd (pIx (pVar 2) (hC (.int 0)))), .pur (hC (.int 1))] gAdd)])) (e_pop dw.dx (pv 0)) (p_binPP op_addA rop_add pure_add (p_rd (l_ix dw.dx (p_plc (pv 2)) p_int)) p_int)) (pa_cons (e_bin op_mod rop_mod (.own (isL 0 (eK (.io 0 (.fin [])) popK)) (.fin [.pur (hOp [.pur (hRd (pIx (pVar 2) (hC (.int 1)))), .pur (hC (.int 1))] gAdd)])) (e_pop dw.dx (pv 0)) (p_binPP op_addA rop_add pure_add (p_rd (l_ix dw.dx (p_plc (pv 2)) p_int)) p_int)) pa_nil))))
  (s_cons (s_set dw.dx rfl (by first | exact .inl rfl | exact .inr rfl) (e_lst (.fin []) pa_nil))
  (s_cons (s_for [5, 6, 7, 8, 9, 10] dw.dx hp (i_range1 [.pur (hVar 1)] (by rfl) fx.n_range (pa_cons (p_var (pv 1)) pa_nil)) (pg_name (i := 5) sc_law_guards.nd rfl (by first | exact .inl rfl | exact .inr rfl)) bind_name (s_cons (s_set dw.dx rfl (by first | exact .inl rfl | exact .inr rfl) (e_lst (.fin []) pa_nil))
  (s_cons (s_for [7, 8, 9, 10] dw.dx hp (i_seq (.plc 2 (pVar 2)) dw.dx (p_plc (pv 2))) (pg_name (i := 7) sc_law_guards.nd rfl (by first | exact .inl rfl | exact .inr rfl)) bind_name (s_cons (s_set dw.dx rfl (by first | exact .inl rfl | exact .inr rfl) (e_bin op_sub rop_sub (.own (eOp (.own (isL 0 (eK (.io 0 (.fin [])) popK)) (.fin [.pur (hOp [.pur (hOp [.pur (hC (.int 2)), .pur (hVar 7)] gMul), .pur (hC (.int 1))] gAdd)])) gMod) (.fin [.pur (hVar 7)])) (e_bin op_mod rop_mod (.own (isL 0 (eK (.io 0 (.fin [])) popK)) (.fin [.pur (hOp [.pur (hOp [.pur (hC (.int 2)), .pur (hVar 7)] gMul), .pur (hC (.int 1))] gAdd)])) (e_pop dw.dx (pv 0)) (p_binPP op_addA rop_add pure_add (p_binPP op_mulD rop_mul pure_mul p_int (p_var (pv 7))) p_int)) (p_var (pv 7))))
  (s_cons (s_set dw.dx rfl (by first | exact .inl rfl | exact .inr rfl) (e_bin op_addA rop_add (.pur (hOp [.pur (hC (.int 0)), .pur (hOp [.pur (hC (.int 0)), .pur (hVar 8)] gSub)] gMax2) (.own (eOp (.own (isL 0 (eK (.io 0 (.fin [])) popK)) (.fin [.pur (hC (.int 2))])) gMod) (.fin []))) (p_max2 (hs := [.pur (hC (.int 0)), .pur (hOp [.pur (hC (.int 0)), .pur (hVar 8)] gSub)]) dw.dx (by rfl) fx.n_max (pa_cons p_int (pa_cons (p_binPP op_sub rop_sub pure_sub p_int (p_var (pv 8))) pa_nil))) (e_bin op_mod rop_mod (.own (isL 0 (eK (.io 0 (.fin [])) popK)) (.fin [.pur (hC (.int 2))])) (e_pop dw.dx (pv 0)) p_int)))
  (s_cons (s_set dw.dx rfl (by first | exact .inl rfl | exact .inr rfl) (e_bin op_sub rop_sub (.pur (hOp [.pur (hVar 7), .pur (hOp [.pur (hVar 7), .pur (hVar 8)] gSub)] gMin2) (.own (eOp (.own (eOp (.own (isL 0 (eK (.io 0 (.fin [])) popK)) (.fin [.pur (hC (.int 4))])) gMod) (.fin [.pur (hC (.int 3))])) gDiv) (.fin []))) (p_min2 (hs := [.pur (hVar 7), .pur (hOp [.pur (hVar 7), .pur (hVar 8)] gSub)]) dw.dx (by rfl) fx.n_min (pa_cons (p_var (pv 7)) (pa_cons (p_binPP op_sub rop_sub pure_sub (p_var (pv 7)) (p_var (pv 8))) pa_nil))) (e_bin op_fdivW rop_div (.own (eOp (.own (isL 0 (eK (.io 0 (.fin [])) popK)) (.fin [.pur (hC (.int 4))])) gMod) (.fin [.pur (hC (.int 3))])) (e_bin op_mod rop_mod (.own (isL 0 (eK (.io 0 (.fin [])) popK)) (.fin [.pur (hC (.int 4))])) (e_pop dw.dx (pv 0)) p_int) p_int)))
  (s_cons (s_expr (e_append dw.dx (pv 6) (.fin [.pur (hOp [.pur (hVar 9), .pur (hVar 10), .pur (hVar 8)] fTup)]) (pa_cons (p_tup (hs := [.pur (hVar 9), .pur (hVar 10), .pur (hVar 8)]) (pa_cons (p_var (pv 9)) (pa_cons (p_var (pv 10)) (pa_cons (p_var (pv 8)) pa_nil)))) pa_nil)))
  s_nil)))))
  (s_cons (s_expr (e_append dw.dx (pv 4) (.own (eMov 6) (.fin [])) (pa_cons (e_mov (pv 6)) pa_nil)))
  s_nil))))
  (s_cons (s_ret (e_tup (.own (eMov 2) (.pur (hVar 3) (.own (eMov 4) (.fin [])))) (pa_cons (e_mov (pv 2)) (pa_cons (p_var (pv 3)) (pa_cons (e_mov (pv 4)) pa_nil)))))
  s_nil)))))
theorem ok_law_gone {k : Nat} (fx : Fx K mg) : FnOk P w K mg base (L2.CX P w) (k + 1) fx.f_law_gone fx.d_law_gone P_law_gone (spD ⟨K, cl⟩ [.b, .b] fn_law_gone) := by
  refine def_ok (k := k + 0) (N := N_law_gone) (ms := [.b, .b]) (body := b_law_gone) fx.F_law_gone sc_law_gone rfl fun cdv A outer s H E W hr dw hp => ?_
  exact (s_cons (s_set dw.dx rfl (by first | exact .inl rfl | exact .inr rfl) (e_lst (.fin []) pa_nil))
  (s_cons (s_for [3, 4] dw.dx hp (i_zip [.pur (hVar 0), .plc 1 (pVar 1)] dw.dx (by rfl) fx.n_zip (pa_cons (p_var (pv 0)) (pa_cons (p_plc (pv 1)) pa_nil))) (pg_tup rfl (pgs_cons (pg_name (i := 3) sc_law_gone.nd rfl (by first | exact .inl rfl | exact .inr rfl)) (pgs_cons (pg_name (i := 4) sc_law_gone.nd rfl (by first | exact .inl rfl | exact .inr rfl)) pgs_nil))) (bind_tup rfl (binds_cons bind_name (binds_cons bind_name binds_nil)) (bCons_len (bCons_len bNil_len))) (s_cons (s_if (w_or (t_cmpPP op_ltA rop_lt pure_lt (p_var (pv 3)) (p_rd (l_ix dw.dx (p_plc (pv 4)) p_int))) (w_or1 (t_cmpPP op_gt rop_gt pure_gt (p_var (pv 3)) (p_rd (l_ix dw.dx (p_plc (pv 4)) p_int))))).pt (s_cons (s_ret (e_p p_non))
  s_nil) s_nil)
  (s_cons (s_expr (e_append dw.dx (pv 2) (.fin [.pur (hOp [.pur (hVar 3), .pur (hRd (pIx (pVar 4) (hC (.int 2))))] gAdd)]) (pa_cons (p_binPP op_addA rop_add pure_add (p_var (pv 3)) (p_rd (l_ix dw.dx (p_plc (pv 4)) p_int))) pa_nil)))
  s_nil)))
  (s_cons (s_ret (e_p (p_tupOf (hs := [.plc 2 (pVar 2)]) dw.dx (by rfl) fx.n_tuple (pa_cons (p_plc (pv 2)) pa_nil))))
  s_nil)))
theorem ok_law_run {k : Nat} (fx : Fx K mg) : FnOk P w K mg base (L2.CX P w) (k + 2) fx.f_law_run fx.d_law_run P_law_run (spD ⟨K, cl⟩ [.b, .b, .b] fn_law_run) := by
  refine def_ok (k := k + 1) (N := N_law_run) (ms := [.b, .b, .b]) (body := b_law_run) fx.F_law_run sc_law_run rfl fun cdv A outer s H E W hr dw hp => ?_
  exact (s_cons (s_set dw.dx rfl (by first | exact .inl rfl | exact .inr rfl) (e_lst (.fin [.pur (hVar 1)]) (pa_cons (p_var (pv 1)) pa_nil)))
  (s_cons (s_set dw.dx rfl (by first | exact .inl rfl | exact .inr rfl) (e_lst (.fin []) pa_nil))
  (s_cons (s_set dw.dx rfl (by first | exact .inl rfl | exact .inr rfl) (e_p p_int))
  (s_cons (s_while hp (t_p (t_cmpPP op_ltA rop_lt pure_lt (p_var (pv 5)) (p_len (hs := [.plc 3 (pVar 3)]) dw.dx (by rfl) fx.n_len (pa_cons (p_plc (pv 3)) pa_nil)))) (s_drop [6, 7, 8] (s_cons (s_for [6, 7, 8] dw.dx hp (i_zip [.plc 0 (pVar 0), .plc 2 (pVar 2)] dw.dx (by rfl) fx.n_zip (pa_cons (p_plc (pv 0)) (pa_cons (p_plc (pv 2)) pa_nil))) (pg_tup rfl (pgs_cons (pg_name (i := 6) sc_law_run.nd rfl (by first | exact .inl rfl | exact .inr rfl)) (pgs_cons (pg_name (i := 7) sc_law_run.nd rfl (by first | exact .inl rfl | exact .inr rfl)) pgs_nil))) (bind_tup rfl (binds_cons bind_name (binds_cons bind_name binds_nil)) (bCons_len (bCons_len bNil_len))) (s_cons (s_set dw.dx rfl (by first | exact .inl rfl | exact .inr rfl) (e_call dw (ok_law_gone (k := k + 0) fx) hr (by rfl) fx.g_law_gone fx.F_law_gone.kp fx.b_law_gone (.fin [.pur (hRd (pIx (pVar 3) (hVar 5))), .plc 7 (pVar 7)]) (pa_cons (p_rd (l_ix dw.dx (p_plc (pv 3)) (p_var (pv 5)))) (pa_cons (p_plc (pv 7)) pa_nil))))
  (s_cons (s_if (t_cmpPP op_notN rop_notN pure_notN (p_var (pv 8)) p_non) (s_cons (s_if (t_cmpPL (op_notInA dw.dx) rop_notIn pure_notIn (p_var (pv 8)) (p_plc (pv 3))) (s_cons (s_expr (e_append dw.dx (pv 3) (.fin [.pur (hVar 8)]) (pa_cons (p_var (pv 8)) pa_nil)))
  s_nil) s_nil)
  (s_cons (s_expr (e_append dw.dx (pv 4) (.fin [.pur (hOp [.pur (hVar 5), .pur (hVar 6), .pur (hOp [.plt 3 (pVar 3) (tyD "list"), .pur (hVar 8)] gLIx)] fTup)]) (pa_cons (p_tup (hs := [.pur (hVar 5), .pur (hVar 6), .pur (hOp [.plt 3 (pVar 3) (tyD "list"), .pur (hVar 8)] gLIx)]) (pa_cons (p_var (pv 5)) (pa_cons (p_var (pv 6)) (pa_cons (p_lIx (hs := [.pur (hVar 8)]) dw.dx (p_plc (pv 3)) (pa_cons (p_var (pv 8)) pa_nil)) pa_nil)))) pa_nil)))
  s_nil)) s_nil)
  s_nil)))
  (s_cons (s_set dw.dx rfl (by first | exact .inl rfl | exact .inr rfl) (e_p (p_binPP op_addA rop_add pure_add (p_var (pv 5)) p_int)))
  s_nil))))
  (s_cons (s_ret (e_sorted dw.dx (by rfl) fx.n_sorted (.fin [.plc 4 (pVar 4)]) (pa_cons (p_plc (pv 4)) pa_nil)))
  s_nil)))))
theorem ok_law_few {k : Nat} (fx : Fx K mg) : FnOk P w K mg base (L2.CX P w) (k + 1) fx.f_law_few fx.d_law_few P_law_few (spD ⟨K, cl⟩ [.io, .b] fn_law_few) := by
  refine def_ok (k := k + 0) (N := N_law_few) (ms := [.io, .b]) (body := b_law_few) fx.F_law_few sc_law_few rfl fun cdv A outer s H E W hr dw hp => ?_
  exact (s_cons (s_set dw.dx rfl (by first | exact .inl rfl | exact .inr rfl) (e_bin op_addA rop_add (.pur (hC (.int 1)) (.own (eOp (.own (isL 0 (eK (.io 0 (.fin [])) popK)) (.fin [.pur (hC (.int 6))])) gMod) (.fin []))) p_int (e_bin op_mod rop_mod (.own (isL 0 (eK (.io 0 (.fin [])) popK)) (.fin [.pur (hC (.int 6))])) (e_pop dw.dx (pv 0)) p_int)))
  (s_cons (s_set dw.dx rfl (by first | exact .inl rfl | exact .inr rfl) e_newT)
  (s_cons (s_for [4] dw.dx hp (i_range2 [.pur (hC (.int 1)), .pur (hVar 2)] (by rfl) fx.n_range (pa_cons p_int (pa_cons (p_var (pv 2)) pa_nil))) (pg_name (i := 4) sc_law_few.nd rfl (by first | exact .inl rfl | exact .inr rfl)) bind_name (s_cons (s_setD dw.dx (.pur (hC (.bl true)) (.io 3 (.own (eK (.own (eOp (.own (isL 0 (eK (.io 0 (.fin [])) popK)) (.fin [.pur (hVar 4)])) gMod) (.own (eOp (.plc 1 (pVar 1) (.own (eOp (.own (isL 0 (eK (.io 0 (.fin [])) popK)) (.fin [.pur (hOp [.plc 1 (pVar 1)] gLen)])) gMod) (.fin []))) gIx) (.fin [.pur (hVar 4)]))) (dspK .tup)) (.fin [])))) p_bl (pv 3) (e_tup (.own (eOp (.own (isL 0 (eK (.io 0 (.fin [])) popK)) (.fin [.pur (hVar 4)])) gMod) (.own (eOp (.plc 1 (pVar 1) (.own (eOp (.own (isL 0 (eK (.io 0 (.fin [])) popK)) (.fin [.pur (hOp [.plc 1 (pVar 1)] gLen)])) gMod) (.fin []))) gIx) (.fin [.pur (hVar 4)]))) (pa_cons (e_bin op_mod rop_mod (.own (isL 0 (eK (.io 0 (.fin [])) popK)) (.fin [.pur (hVar 4)])) (e_pop dw.dx (pv 0)) (p_var (pv 4))) (pa_cons (e_ixo dw.dx (.plc 1 (pVar 1) (.own (eOp (.own (isL 0 (eK (.io 0 (.fin [])) popK)) (.fin [.pur (hOp [.plc 1 (pVar 1)] gLen)])) gMod) (.fin []))) (p_plc (pv 1)) (e_bin op_mod rop_mod (.own (isL 0 (eK (.io 0 (.fin [])) popK)) (.fin [.pur (hOp [.plc 1 (pVar 1)] gLen)])) (e_pop dw.dx (pv 0)) (p_len (hs := [.plc 1 (pVar 1)]) dw.dx (by rfl) fx.n_len (pa_cons (p_plc (pv 1)) pa_nil)))) (pa_cons (p_var (pv 4)) pa_nil)))))
  s_nil))
  (s_cons (s_for [4] dw.dx hp (i_range1 [.own (eOp (.own (isL 0 (eK (.io 0 (.fin [])) popK)) (.fin [.pur (hC (.int 4))])) gMod)] (by rfl) fx.n_range (pa_cons (e_bin op_mod rop_mod (.own (isL 0 (eK (.io 0 (.fin [])) popK)) (.fin [.pur (hC (.int 4))])) (e_pop dw.dx (pv 0)) p_int) pa_nil)) (pg_name (i := 4) sc_law_few.nd rfl (by first | exact .inl rfl | exact .inr rfl)) bind_name (s_cons (s_setD dw.dx (.pur (hC (.bl true)) (.io 3 (.own (eK (.own (eOp (.own (isL 0 (eK (.io 0 (.fin [])) popK)) (.fin [.pur (hVar 2)])) gMod) (.own (eOp (.plc 1 (pVar 1) (.own (eOp (.own (isL 0 (eK (.io 0 (.fin [])) popK)) (.fin [.pur (hOp [.plc 1 (pVar 1)] gLen)])) gMod) (.fin []))) gIx) (.own (eOp (.own (isL 0 (eK (.io 0 (.fin [])) popK)) (.fin [.pur (hVar 2)])) gMod) (.fin [])))) (dspK .tup)) (.fin [])))) p_bl (pv 3) (e_tup (.own (eOp (.own (isL 0 (eK (.io 0 (.fin [])) popK)) (.fin [.pur (hVar 2)])) gMod) (.own (eOp (.plc 1 (pVar 1) (.own (eOp (.own (isL 0 (eK (.io 0 (.fin [])) popK)) (.fin [.pur (hOp [.plc 1 (pVar 1)] gLen)])) gMod) (.fin []))) gIx) (.own (eOp (.own (isL 0 (eK (.io 0 (.fin [])) popK)) (.fin [.pur (hVar 2)])) gMod) (.fin [])))) (pa_cons (e_bin op_mod rop_mod (.own (isL 0 (eK (.io 0 (.fin [])) popK)) (.fin [.pur (hVar 2)])) (e_pop dw.dx (pv 0)) (p_var (pv 2))) (pa_cons (e_ixo dw.dx (.plc 1 (pVar 1) (.own (eOp (.own (isL 0 (eK (.io 0 (.fin [])) popK)) (.fin [.pur (hOp [.plc 1 (pVar 1)] gLen)])) gMod) (.fin []))) (p_plc (pv 1)) (e_bin op_mod rop_mod (.own (isL 0 (eK (.io 0 (.fin [])) popK)) (.fin [.pur (hOp [.plc 1 (pVar 1)] gLen)])) (e_pop dw.dx (pv 0)) (p_len (hs := [.plc 1 (pVar 1)]) dw.dx (by rfl) fx.n_len (pa_cons (p_plc (pv 1)) pa_nil)))) (pa_cons (e_bin op_mod rop_mod (.own (isL 0 (eK (.io 0 (.fin [])) popK)) (.fin [.pur (hVar 2)])) (e_pop dw.dx (pv 0)) (p_var (pv 2))) pa_nil)))))
  s_nil))
  (s_cons (s_ret (e_sortD dw.dx (by rfl) fx.n_sorted (.fin [.plc 3 (pVar 3)]) (pa_cons (p_plc (pv 3)) pa_nil)))
  s_nil)))))
theorem ok_law_word {k : Nat} (fx : Fx K mg) : FnOk P w K mg base (L2.CX P w) (k + 1) fx.f_law_word fx.d_law_word P_law_word (spD ⟨K, cl⟩ [.io, .b] fn_law_word) := by
  refine def_ok (k := k + 0) (N := N_law_word) (ms := [.io, .b]) (body := b_law_word) fx.F_law_word sc_law_word rfl fun cdv A outer s H E W hr dw hp => ?_
  exact (s_cons (s_set dw.dx rfl (by first | exact .inl rfl | exact .inr rfl) (e_bin op_addA rop_add (.pur (hC (.int 1)) (.own (eOp (.own (isL 0 (eK (.io 0 (.fin [])) popK)) (.fin [.pur (hC (.int 7))])) gMod) (.fin []))) p_int (e_bin op_mod rop_mod (.own (isL 0 (eK (.io 0 (.fin [])) popK)) (.fin [.pur (hC (.int 7))])) (e_pop dw.dx (pv 0)) p_int)))
  (s_cons (s_setLc (own := [("_law_k", 4)]) dw.dx rfl rfl (sw_true rfl rfl rfl (by decide +kernel)) (i_range1 [.pur (hVar 2)] (by rfl) fx.n_range (pa_cons (p_var (pv 2)) pa_nil)) (blkOk_by (N := N_law_word) (sc := (defScope s_law_word)) (by decide +kernel)) bind_name (fun _ _ _ _ _ => (pg_name (i := 4) sc_law_word.nd rfl (by first | exact .inl rfl | exact .inr rfl))) (fun _ _ _ _ _ => ts_nil) (fun _ _ _ _ _ => (e_tup (.pur (hVar 4) (.own (eOp (.plc 1 (pVar 1) (.own (eOp (.own (isL 0 (eK (.io 0 (.fin [])) popK)) (.fin [.pur (hOp [.plc 1 (pVar 1)] gLen)])) gMod) (.fin []))) gIx) (.fin [.pur (hOp [.pur (hVar 4), .pur (hC (.int 1))] gAdd)]))) (pa_cons (p_var (pv 4)) (pa_cons (e_ixo dw.blk.dx (.plc 1 (pVar 1) (.own (eOp (.own (isL 0 (eK (.io 0 (.fin [])) popK)) (.fin [.pur (hOp [.plc 1 (pVar 1)] gLen)])) gMod) (.fin []))) (p_plc (pv 1)) (e_bin op_mod rop_mod (.own (isL 0 (eK (.io 0 (.fin [])) popK)) (.fin [.pur (hOp [.plc 1 (pVar 1)] gLen)])) (e_pop dw.blk.dx (pv 0)) (p_len (hs := [.plc 1 (pVar 1)]) dw.blk.dx (by rfl) fx.n_len (pa_cons (p_plc (pv 1)) pa_nil)))) (pa_cons (p_binPP op_addA rop_add pure_add (p_var (pv 4)) p_int) pa_nil))))))
  (s_cons (s_ifE (t_cmpE (op_eqD (hu_eq1 dw.dx)) rop_eq (.own (eOp (.own (isL 0 (eK (.io 0 (.fin [])) popK)) (.fin [.pur (hC (.int 3))])) gMod) (.fin [.pur (hC (.int 0))])) (e_bin op_mod rop_mod (.own (isL 0 (eK (.io 0 (.fin [])) popK)) (.fin [.pur (hC (.int 3))])) (e_pop dw.dx (pv 0)) p_int) p_int) (s_cons (s_expr (e_append dw.dx (pv 3) (.own (eK (.pur (hVar 2) (.own (eOp (.plc 1 (pVar 1) (.own (eOp (.own (isL 0 (eK (.io 0 (.fin [])) popK)) (.fin [.pur (hOp [.plc 1 (pVar 1)] gLen)])) gMod) (.fin []))) gIx) (.own (eOp (.own (isL 0 (eK (.io 0 (.fin [])) popK)) (.fin [.pur (hVar 2)])) gMod) (.fin [])))) (dspK .tup)) (.fin [])) (pa_cons (e_tup (.pur (hVar 2) (.own (eOp (.plc 1 (pVar 1) (.own (eOp (.own (isL 0 (eK (.io 0 (.fin [])) popK)) (.fin [.pur (hOp [.plc 1 (pVar 1)] gLen)])) gMod) (.fin []))) gIx) (.own (eOp (.own (isL 0 (eK (.io 0 (.fin [])) popK)) (.fin [.pur (hVar 2)])) gMod) (.fin [])))) (pa_cons (p_var (pv 2)) (pa_cons (e_ixo dw.dx (.plc 1 (pVar 1) (.own (eOp (.own (isL 0 (eK (.io 0 (.fin [])) popK)) (.fin [.pur (hOp [.plc 1 (pVar 1)] gLen)])) gMod) (.fin []))) (p_plc (pv 1)) (e_bin op_mod rop_mod (.own (isL 0 (eK (.io 0 (.fin [])) popK)) (.fin [.pur (hOp [.plc 1 (pVar 1)] gLen)])) (e_pop dw.dx (pv 0)) (p_len (hs := [.plc 1 (pVar 1)]) dw.dx (by rfl) fx.n_len (pa_cons (p_plc (pv 1)) pa_nil)))) (pa_cons (e_bin op_mod rop_mod (.own (isL 0 (eK (.io 0 (.fin [])) popK)) (.fin [.pur (hVar 2)])) (e_pop dw.dx (pv 0)) (p_var (pv 2))) pa_nil)))) pa_nil)))
  s_nil) s_nil)
  (s_cons (s_ret (e_sorted dw.dx (by rfl) fx.n_sorted (.fin [.plc 3 (pVar 3)]) (pa_cons (p_plc (pv 3)) pa_nil)))
  s_nil))))
theorem ok_law_fewer {k : Nat} (fx : Fx K mg) : FnOk P w K mg base (L2.CX P w) (k + 2) fx.f_law_fewer fx.d_law_fewer P_law_fewer (spD ⟨K, cl⟩ [.mv, .b] fn_law_fewer) := by
  refine def_ok (k := k + 1) (N := N_law_fewer) (ms := [.mv, .b]) (body := b_law_fewer) fx.F_law_fewer sc_law_fewer rfl fun cdv A outer s H E W hr dw hp => ?_
  exact (s_cons (s_for [2, 3, 4] dw.dx hp (i_seq (.plc 1 (pVar 1)) dw.dx (p_plc (pv 1))) (pg_name (i := 2) sc_law_fewer.nd rfl (by first | exact .inl rfl | exact .inr rfl)) bind_name (s_cons (s_ifE (t_cmpE (op_neD (hu_eq1 dw.dx)) rop_ne (.plc 0 (pVar 0) (.own (eK (.fin []) (dspK .lst)) (.fin []))) (p_plc (pv 0)) (e_lst (.fin []) pa_nil)) (s_cons (s_set dw.dx rfl (by first | exact .inl rfl | exact .inr rfl) (e_p (p_binPP op_mod rop_mod pure_mod (p_var (pv 2)) (p_len (hs := [.plc 0 (pVar 0)]) dw.dx (by rfl) fx.n_len (pa_cons (p_plc (pv 0)) pa_nil)))))
  (s_cons (s_set dw.dx rfl (by first | exact .inl rfl | exact .inr rfl) (e_bin op_catLL rop_catLL (.own (eOp (.fin [.plc 0 (pVar 0), .int (hVar 3)]) (slH fSlL)) (.own (eOp (.fin [.plc 0 (pVar 0), .int (hOp [.pur (hVar 3), .pur (hC (.int 1))] gAdd)]) (slL fSlL)) (.fin []))) (e_slH (W := W) sl_list (slL_ok (G := ⟨K, cl⟩)) (.fin [.plc 0 (pVar 0), .int (hVar 3)]) (p_plc (pv 0)) (p_var (pv 3))) (e_slL (W := W) sl_list (slL_ok (G := ⟨K, cl⟩)) (.fin [.plc 0 (pVar 0), .int (hOp [.pur (hVar 3), .pur (hC (.int 1))] gAdd)]) (p_plc (pv 0)) (p_binPP op_addA rop_add pure_add (p_var (pv 3)) p_int))))
  (s_cons (s_ifE (t_cmpE (op_eqD (hu_eq1 dw.dx)) rop_eq (.own (eOp (.own (eK (.fin [.plc 4 (pVar 4)]) (callK [.b] fn_law_come_to)) (.fin [])) gLenD) (.own (eOp (.own (eK (.fin [.plc 0 (pVar 0)]) (callK [.b] fn_law_come_to)) (.fin [])) gLenD) (.fin []))) (e_lenD dw.dx (by rfl) fx.n_len (.own (eK (.fin [.plc 4 (pVar 4)]) (callK [.b] fn_law_come_to)) (.fin [])) (pa_cons (e_call dw (ok_law_come_to (k := k + 0) fx) hr (by rfl) fx.g_law_come_to fx.F_law_come_to.kp fx.b_law_come_to (.fin [.plc 4 (pVar 4)]) (pa_cons (p_plc (pv 4)) pa_nil)) pa_nil)) (e_lenD dw.dx (by rfl) fx.n_len (.own (eK (.fin [.plc 0 (pVar 0)]) (callK [.b] fn_law_come_to)) (.fin [])) (pa_cons (e_call dw (ok_law_come_to (k := k + 0) fx) hr (by rfl) fx.g_law_come_to fx.F_law_come_to.kp fx.b_law_come_to (.fin [.plc 0 (pVar 0)]) (pa_cons (p_plc (pv 0)) pa_nil)) pa_nil))) (s_cons (s_set dw.dx rfl (by first | exact .inl rfl | exact .inr rfl) (e_mov (pv 4)))
  s_nil) s_nil)
  s_nil))) s_nil)
  s_nil))
  (s_cons (s_ret (e_mov (pv 0)))
  s_nil))
theorem ok_law_chart {k : Nat} (fx : Fx K mg) : FnOk P w K mg base (L2.CX P w) (k + 3) fx.f_law_chart fx.d_law_chart P_law_chart (spD ⟨K, cl⟩ [.b] fn_law_chart) := by
  refine def_ok (k := k + 2) (N := N_law_chart) (ms := [.b]) (body := b_law_chart) fx.F_law_chart sc_law_chart rfl fun cdv A outer s H E W hr dw hp => ?_
  exact (s_cons (s_set dw.dx rfl (by first | exact .inl rfl | exact .inr rfl) (e_call dw (ok_law_names (k := k + 1) fx) hr (by rfl) fx.g_law_names fx.F_law_names.kp fx.b_law_names (.own (eK (.fin [.plc 0 (pVar 0), .pur (hC (.int 0))]) (callK [.b, .b] fn_law_cell_at)) (.own (eOp (.pur (hC (.int 1)) (.own (eOp (.own (eK (.fin [.plc 0 (pVar 0), .pur (hC (.int 1))]) (callK [.b, .b] fn_law_cell_at)) (.fin [.pur (hC (.int 3))])) gMod) (.fin []))) gAdd) (.fin []))) (pa_cons (e_call dw (ok_law_cell_at (k := k + 1) fx) hr (by rfl) fx.g_law_cell_at fx.F_law_cell_at.kp fx.b_law_cell_at (.fin [.plc 0 (pVar 0), .pur (hC (.int 0))]) (pa_cons (p_plc (pv 0)) (pa_cons p_int pa_nil))) (pa_cons (e_bin op_addA rop_add (.pur (hC (.int 1)) (.own (eOp (.own (eK (.fin [.plc 0 (pVar 0), .pur (hC (.int 1))]) (callK [.b, .b] fn_law_cell_at)) (.fin [.pur (hC (.int 3))])) gMod) (.fin []))) p_int (e_bin op_mod rop_mod (.own (eK (.fin [.plc 0 (pVar 0), .pur (hC (.int 1))]) (callK [.b, .b] fn_law_cell_at)) (.fin [.pur (hC (.int 3))])) (e_call dw (ok_law_cell_at (k := k + 1) fx) hr (by rfl) fx.g_law_cell_at fx.F_law_cell_at.kp fx.b_law_cell_at (.fin [.plc 0 (pVar 0), .pur (hC (.int 1))]) (pa_cons (p_plc (pv 0)) (pa_cons p_int pa_nil))) p_int)) pa_nil))))
  (s_cons (s_set dw.dx rfl (by first | exact .inl rfl | exact .inr rfl) (e_call dw (ok_law_stream (k := k + 1) fx) hr (by rfl) fx.g_law_stream fx.F_law_stream.kp fx.b_law_stream (.own (eK (.fin [.plc 0 (pVar 0), .pur (hC (.int 2))]) (callK [.b, .b] fn_law_cell_at)) (.fin [.pur (hC (.int 40))])) (pa_cons (e_call dw (ok_law_cell_at (k := k + 1) fx) hr (by rfl) fx.g_law_cell_at fx.F_law_cell_at.kp fx.b_law_cell_at (.fin [.plc 0 (pVar 0), .pur (hC (.int 2))]) (pa_cons (p_plc (pv 0)) (pa_cons p_int pa_nil))) (pa_cons p_int pa_nil))))
  (s_cons (s_set dw.dx rfl (by first | exact .inl rfl | exact .inr rfl) (e_bin op_mod rop_mod (.own (eK (.fin [.plc 0 (pVar 0), .pur (hC (.int 3))]) (callK [.b, .b] fn_law_cell_at)) (.fin [.pur (hC (.int 4))])) (e_call dw (ok_law_cell_at (k := k + 1) fx) hr (by rfl) fx.g_law_cell_at fx.F_law_cell_at.kp fx.b_law_cell_at (.fin [.plc 0 (pVar 0), .pur (hC (.int 3))]) (pa_cons (p_plc (pv 0)) (pa_cons p_int pa_nil))) p_int))
  (s_cons (s_if (t_cmpPP (op_eqD (hu_eq1 dw.dx)) rop_eq pure_eq (p_var (pv 3)) p_int) (s_cons (s_set dw.dx rfl (by first | exact .inl rfl | exact .inr rfl) (e_call dw (ok_law_few (k := k + 1) fx) hr (by rfl) fx.g_law_few fx.F_law_few.kp fx.b_law_few (.io 2 (.fin [.plc 1 (pVar 1)])) (pa_cons (pv 2) (pa_cons (p_plc (pv 1)) pa_nil))))
  s_nil) (s_cons (s_if (t_cmpPP (op_eqD (hu_eq1 dw.dx)) rop_eq pure_eq (p_var (pv 3)) p_int) (s_cons (s_set dw.dx rfl (by first | exact .inl rfl | exact .inr rfl) (e_call dw (ok_law_word (k := k + 1) fx) hr (by rfl) fx.g_law_word fx.F_law_word.kp fx.b_law_word (.io 2 (.fin [.plc 1 (pVar 1)])) (pa_cons (pv 2) (pa_cons (p_plc (pv 1)) pa_nil))))
  s_nil) (s_cons (s_unp [5, 6, 7] dw.dx rfl (pg_tup rfl (pgs_cons (pg_name (i := 5) sc_law_chart.nd rfl (by first | exact .inl rfl | exact .inr rfl)) (pgs_cons (pg_name (i := 6) sc_law_chart.nd rfl (by first | exact .inl rfl | exact .inr rfl)) (pgs_cons (pg_name (i := 7) sc_law_chart.nd rfl (by first | exact .inl rfl | exact .inr rfl)) pgs_nil)))) (e_call dw (ok_law_guards (k := k + 1) fx) hr (by rfl) fx.g_law_guards fx.F_law_guards.kp fx.b_law_guards (.io 2 (.fin [.pur (hOp [.plc 1 (pVar 1)] gLen)])) (pa_cons (pv 2) (pa_cons (p_len (hs := [.plc 1 (pVar 1)]) dw.dx (by rfl) fx.n_len (pa_cons (p_plc (pv 1)) pa_nil)) pa_nil))))
  (s_cons (s_set dw.dx rfl (by first | exact .inl rfl | exact .inr rfl) (e_call dw (ok_law_run (k := k + 0) fx) hr (by rfl) fx.g_law_run fx.F_law_run.kp fx.b_law_run (.fin [.plc 1 (pVar 1), .pur (hVar 6), .plc 7 (pVar 7)]) (pa_cons (p_plc (pv 1)) (pa_cons (p_var (pv 6)) (pa_cons (p_plc (pv 7)) pa_nil)))))
  (s_cons (s_if (t_cmpPP (op_eqD (hu_eq1 dw.dx)) rop_eq pure_eq (p_var (pv 3)) p_int) (s_cons (s_set dw.dx rfl (by first | exact .inl rfl | exact .inr rfl) (e_call dw (ok_law_fewer (k := k + 0) fx) hr (by rfl) fx.g_law_fewer fx.F_law_fewer.kp fx.b_law_fewer (.own (eMov 4) (.own (eOp (.fin [.plc 0 (pVar 0), .int (hC (.int 4)), .int (hC (.int 8))]) (sl2 fSlL)) (.fin []))) (pa_cons (e_mov (pv 4)) (pa_cons (e_sl2 (W := W) sl_list (slL_ok (G := ⟨K, cl⟩)) (.fin [.plc 0 (pVar 0), .int (hC (.int 4)), .int (hC (.int 8))]) (p_plc (pv 0)) p_int p_int) pa_nil))))
  s_nil) s_nil)
  s_nil))))
  s_nil))
  (s_cons (s_ret (e_tup (.pur (hOp [.plc 1 (pVar 1)] gTupX) (.own (eMov 4) (.fin []))) (pa_cons (p_tupX (hs := [.plc 1 (pVar 1)]) dw.dx (by rfl) fx.n_tuple (pa_cons (p_plc (pv 1)) pa_nil)) (pa_cons (e_mov (pv 4)) pa_nil))))
  s_nil)))))
theorem ok_law_is_whole {k : Nat} (fx : Fx K mg) : FnOk P w K mg base (L2.CX P w) (k + 1) fx.f_law_is_whole fx.d_law_is_whole P_law_is_whole (spD ⟨K, cl⟩ [.b] fn_law_is_whole) := by
  refine def_ok (k := k + 0) (N := N_law_is_whole) (ms := [.b]) (body := b_law_is_whole) fx.F_law_is_whole sc_law_is_whole rfl fun cdv A outer s H E W hr dw hp => ?_
  exact (s_cons (s_ret (e_p (p_and (p_isi (s1 := .pur (hVar 0)) dw.dx (by decide) (by rfl) fx.n_isinstance (by rfl) fx.n_int bt_int (p_var (pv 0))) (p_one (p_not (p_isi (s1 := .pur (hVar 0)) dw.dx (by decide) (by rfl) fx.n_isinstance (by rfl) fx.n_bool bt_bool (p_var (pv 0))))))))
  s_nil)
theorem ok_law_is_rows {k : Nat} (fx : Fx K mg) : FnOk P w K mg base (L2.CX P w) (k + 2) fx.f_law_is_rows fx.d_law_is_rows P_law_is_rows (spD ⟨K, cl⟩ [.b, .b] fn_law_is_rows) := by
  refine def_ok (k := k + 1) (N := N_law_is_rows) (ms := [.b, .b]) (body := b_law_is_rows) fx.F_law_is_rows sc_law_is_rows rfl fun cdv A outer s H E W hr dw hp => ?_
  exact (s_cons (s_if (t_not (t_val (p_isi (s1 := .plc 0 (pVar 0)) dw.dx (by decide) (by rfl) fx.n_isinstance (by rfl) fx.n_list bt_list (p_plc (pv 0))))) (s_cons (s_ret (e_p p_bl))
  s_nil) s_nil)
  (s_cons (s_for [2] dw.dx hp (i_seq (.plc 0 (pVar 0)) dw.dx (p_plc (pv 0))) (pg_name (i := 2) sc_law_is_rows.nd rfl (by first | exact .inl rfl | exact .inr rfl)) bind_name (s_cons (s_if (w_or (t_not (t_val (p_isi (s1 := .pur (hVar 2)) dw.dx (by decide) (by rfl) fx.n_isinstance (by rfl) fx.n_tuple bt_tuple (p_var (pv 2))))) (w_or1 (t_cmpPP (op_neD (hu_eq1 dw.dx)) rop_ne pure_ne (p_len (hs := [.pur (hVar 2)]) dw.dx (by rfl) fx.n_len (pa_cons (p_var (pv 2)) pa_nil)) (p_var (pv 1))))).pt (s_cons (s_ret (e_p p_bl))
  s_nil) s_nil)
  (s_cons (s_ifE (t_cmpE op_gt rop_gt (.own (eOp (.own (lcE [.pur (hVar 2)] mkSeq (bName 3) (eNot (eB (eK (.fin [.pur (hVar 3)]) (callK [.b] fn_law_is_whole)))) (eP (hVar 3)) [3]) (.fin [])) gLen) (.fin [.pur (hC (.int 0))])) (e_len dw.dx (by rfl) fx.n_len (.own (lcE [.pur (hVar 2)] mkSeq (bName 3) (eNot (eB (eK (.fin [.pur (hVar 3)]) (callK [.b] fn_law_is_whole)))) (eP (hVar 3)) [3]) (.fin [])) (pa_cons (e_lc (own := [("_law_number", 3)]) dw.dx (i_seq (.pur (hVar 2)) dw.dx (p_var (pv 2))) (blkOk_by (N := N_law_is_rows) (sc := (defScope s_law_is_rows)) (by decide +kernel)) bind_name (fun _ _ _ _ _ => (pg_name (i := 3) sc_law_is_rows.nd rfl (by first | exact .inl rfl | exact .inr rfl))) (fun _ _ _ _ _ => (ts_one (t_notE (t_valE (e_call dw.blk (ok_law_is_whole (k := k + 0) fx) hr (by rfl) fx.g_law_is_whole fx.F_law_is_whole.kp fx.b_law_is_whole (.fin [.pur (hVar 3)]) (pa_cons (p_var (pv 3)) pa_nil)))))) (fun _ _ _ _ _ => (e_p (p_var (pv 3))))) pa_nil)) p_int) (s_cons (s_ret (e_p p_bl))
  s_nil) s_nil)
  s_nil)))
  (s_cons (s_ret (e_p p_bl))
  s_nil)))
theorem ok_law_taken {k : Nat} (fx : Fx K mg) : FnOk P w K mg base (L2.CX P w) (k + 1) fx.f_law_taken fx.d_law_taken P_law_taken (spD ⟨K, cl⟩ [.b, .b] fn_law_taken) := by
  refine def_ok (k := k + 0) (N := N_law_taken) (ms := [.b, .b]) (body := b_law_taken) fx.F_law_taken sc_law_taken rfl fun cdv A outer s H E W hr dw hp => ?_
  exact (s_cons (s_ret (e_sum dw.dx (by rfl) fx.n_sum (.own (lcE [.pur (hVar 0), .plc 1 (pVar 1)] mkZip (bTup (bCons (bName 2) (bCons (bName 3) bNil))) eYes (eP (hOp [.pur (hVar 2), .pur (hVar 3)] gMul)) [2, 3]) (.fin [])) (pa_cons (e_lc (own := [("_law_one", 2), ("_law_other", 3)]) dw.dx (i_zip [.pur (hVar 0), .plc 1 (pVar 1)] dw.dx (by rfl) fx.n_zip (pa_cons (p_var (pv 0)) (pa_cons (p_plc (pv 1)) pa_nil))) (blkOk_by (N := N_law_taken) (sc := (defScope s_law_taken)) (by decide +kernel)) (bind_tup rfl (binds_cons bind_name (binds_cons bind_name binds_nil)) (bCons_len (bCons_len bNil_len))) (fun _ _ _ _ _ => (pg_tup rfl (pgs_cons (pg_name (i := 2) sc_law_taken.nd rfl (by first | exact .inl rfl | exact .inr rfl)) (pgs_cons (pg_name (i := 3) sc_law_taken.nd rfl (by first | exact .inl rfl | exact .inr rfl)) pgs_nil)))) (fun _ _ _ _ _ => ts_nil) (fun _ _ _ _ _ => (e_p (p_binPP op_mulD rop_mul pure_mul (p_var (pv 2)) (p_var (pv 3)))))) pa_nil)))
  s_nil)
theorem ok_law_row {k : Nat} (fx : Fx K mg) : FnOk P w K mg base (L2.CX P w) (k + 2) fx.f_law_row fx.d_law_row P_law_row (spD ⟨K, cl⟩ [.b, .b] fn_law_row) := by
  refine def_ok (k := k + 1) (N := N_law_row) (ms := [.b, .b]) (body := b_law_row) fx.F_law_row sc_law_row rfl fun cdv A outer s H E W hr dw hp => ?_
  exact (s_cons (s_set dw.dx rfl (by first | exact .inl rfl | exact .inr rfl) (e_lc (own := [("_law_k", 4)]) dw.dx (i_range1 [.pur (hC (.int 5))] (by rfl) fx.n_range (pa_cons p_int pa_nil)) (blkOk_by (N := N_law_row) (sc := (defScope s_law_row)) (by decide +kernel)) bind_name (fun _ _ _ _ _ => (pg_name (i := 4) sc_law_row.nd rfl (by first | exact .inl rfl | exact .inr rfl))) (fun _ _ _ _ _ => ts_nil) (fun _ _ _ _ _ => (e_bin op_sub rop_sub (.own (eOp (.own (eK (.fin [.plc 0 (pVar 0), .pur (hOp [.pur (hC (.int 9)), .pur (hVar 4)] gAdd)]) (callK [.b, .b] fn_law_cell_at)) (.fin [.pur (hOp [.pur (hC (.int 10)), .pur (hC (.int 30))] gPow)])) gMod) (.fin [.pur (hOp [.pur (hC (.int 10)), .pur (hC (.int 29))] gPow)])) (e_bin op_mod rop_mod (.own (eK (.fin [.plc 0 (pVar 0), .pur (hOp [.pur (hC (.int 9)), .pur (hVar 4)] gAdd)]) (callK [.b, .b] fn_law_cell_at)) (.fin [.pur (hOp [.pur (hC (.int 10)), .pur (hC (.int 30))] gPow)])) (e_call dw.blk (ok_law_cell_at (k := k + 0) fx) hr (by rfl) fx.g_law_cell_at fx.F_law_cell_at.kp fx.b_law_cell_at (.fin [.plc 0 (pVar 0), .pur (hOp [.pur (hC (.int 9)), .pur (hVar 4)] gAdd)]) (pa_cons (p_plc (pv 0)) (pa_cons (p_binPP op_addA rop_add pure_add p_int (p_var (pv 4))) pa_nil))) (p_binPP op_pow rop_pow pure_pow p_int p_int)) (p_binPP op_pow rop_pow pure_pow p_int p_int)))))
  (s_cons (s_ifE (w_orE (t_cmpE op_ltA rop_lt (.own (eOp (.own (eK (.fin [.plc 0 (pVar 0), .pur (hC (.int 3))]) (callK [.b, .b] fn_law_cell_at)) (.fin [.pur (hC (.int 4))])) gMod) (.fin [.pur (hC (.int 2))])) (e_bin op_mod rop_mod (.own (eK (.fin [.plc 0 (pVar 0), .pur (hC (.int 3))]) (callK [.b, .b] fn_law_cell_at)) (.fin [.pur (hC (.int 4))])) (e_call dw (ok_law_cell_at (k := k + 0) fx) hr (by rfl) fx.g_law_cell_at fx.F_law_cell_at.kp fx.b_law_cell_at (.fin [.plc 0 (pVar 0), .pur (hC (.int 3))]) (pa_cons (p_plc (pv 0)) (pa_cons p_int pa_nil))) p_int) p_int) (w_or1 (t_cmpE (op_eqD (hu_eq1 dw.dx)) rop_eq (.own (eOp (.own (eK (.fin [.plc 0 (pVar 0), .pur (hC (.int 8))]) (callK [.b, .b] fn_law_cell_at)) (.fin [.pur (hC (.int 3))])) gMod) (.fin [.pur (hC (.int 0))])) (e_bin op_mod rop_mod (.own (eK (.fin [.plc 0 (pVar 0), .pur (hC (.int 8))]) (callK [.b, .b] fn_law_cell_at)) (.fin [.pur (hC (.int 3))])) (e_call dw (ok_law_cell_at (k := k + 0) fx) hr (by rfl) fx.g_law_cell_at fx.F_law_cell_at.kp fx.b_law_cell_at (.fin [.plc 0 (pVar 0), .pur (hC (.int 8))]) (pa_cons (p_plc (pv 0)) (pa_cons p_int pa_nil))) p_int) p_int))).pt (s_cons (s_ret (e_slH (W := W) sl_list (slL_ok (G := ⟨K, cl⟩)) (.fin [.plc 2 (pVar 2), .int (hOp [.pur (hVar 1)] gLen)]) (p_plc (pv 2)) (p_len (hs := [.pur (hVar 1)]) dw.dx (by rfl) fx.n_len (pa_cons (p_var (pv 1)) pa_nil))))
  s_nil) s_nil)
  (s_cons (s_ifE (t_cmpE (op_eqD (hu_eq1 dw.dx)) rop_eq (.own (eOp (.own (eK (.fin [.plc 0 (pVar 0), .pur (hC (.int 8))]) (callK [.b, .b] fn_law_cell_at)) (.fin [.pur (hC (.int 3))])) gMod) (.fin [.pur (hC (.int 1))])) (e_bin op_mod rop_mod (.own (eK (.fin [.plc 0 (pVar 0), .pur (hC (.int 8))]) (callK [.b, .b] fn_law_cell_at)) (.fin [.pur (hC (.int 3))])) (e_call dw (ok_law_cell_at (k := k + 0) fx) hr (by rfl) fx.g_law_cell_at fx.F_law_cell_at.kp fx.b_law_cell_at (.fin [.plc 0 (pVar 0), .pur (hC (.int 8))]) (pa_cons (p_plc (pv 0)) (pa_cons p_int pa_nil))) p_int) p_int) (s_cons (s_setix (.pur (hC (.int 0)) (.io 2 (.fin [.pur (hC (.int 4))]))) p_int (pv 2) p_int)
  s_nil) s_nil)
  (s_cons (s_set dw.dx rfl (by first | exact .inl rfl | exact .inr rfl) (e_takeT dw.dx (e_call dw (ok_law_guards (k := k + 0) fx).mv hr (by rfl) fx.g_law_guards fx.F_law_guards.kp fx.b_law_guards (.own (eK (.own (eK (.fin [.plc 0 (pVar 0), .pur (hC (.int 2))]) (callK [.b, .b] fn_law_cell_at)) (.fin [.pur (hC (.int 40))])) (callK [.b, .b] fn_law_stream)) (.fin [.pur (hOp [.pur (hVar 1)] gLen)])) (pa_cons (e_call dw (ok_law_stream (k := k + 0) fx) hr (by rfl) fx.g_law_stream fx.F_law_stream.kp fx.b_law_stream (.own (eK (.fin [.plc 0 (pVar 0), .pur (hC (.int 2))]) (callK [.b, .b] fn_law_cell_at)) (.fin [.pur (hC (.int 40))])) (pa_cons (e_call dw (ok_law_cell_at (k := k + 0) fx) hr (by rfl) fx.g_law_cell_at fx.F_law_cell_at.kp fx.b_law_cell_at (.fin [.plc 0 (pVar 0), .pur (hC (.int 2))]) (pa_cons (p_plc (pv 0)) (pa_cons p_int pa_nil))) (pa_cons p_int pa_nil))) (pa_cons (p_len (hs := [.pur (hVar 1)]) dw.dx (by rfl) fx.n_len (pa_cons (p_var (pv 1)) pa_nil)) pa_nil))) p_int))
  (s_cons (s_ret (e_lc (own := [("_law_sides", 5)]) dw.dx (i_seq (.plc 3 (pVar 3)) dw.dx (p_plc (pv 3))) (blkOk_by (N := N_law_row) (sc := (defScope s_law_row)) (by decide +kernel)) bind_name (fun _ _ _ _ _ => (pg_name (i := 5) sc_law_row.nd rfl (by first | exact .inl rfl | exact .inr rfl))) (fun _ _ _ _ _ => ts_nil) (fun _ _ _ _ _ => (e_p (p_binPP op_addA rop_add pure_add (p_binPP op_mulD rop_mul pure_mul (p_rd (l_ix dw.blk.dx (p_plc (pv 2)) p_int)) (p_rd (l_ix dw.blk.dx (l_ix dw.blk.dx (p_plc (pv 5)) p_int) p_int))) (p_binPP op_mulD rop_mul pure_mul (p_rd (l_ix dw.blk.dx (p_plc (pv 2)) p_int)) (p_rd (l_ix dw.blk.dx (l_ix dw.blk.dx (p_plc (pv 5)) p_int) p_int))))))))
  s_nil)))))
theorem ok_law {k : Nat} (fx : Fx K mg) : FnOk P w K mg base (L2.CX P w) (k + 5) fx.f_law fx.d_law P_law (spD ⟨K, cl⟩ [.b] fn_law) := by
  refine def_ok (k := k + 4) (N := N_law) (ms := [.b]) (body := b_law) fx.F_law sc_law rfl fun cdv A outer s H E W hr dw hp => ?_
  exact (s_cons (s_set dw.dx rfl (by first | exact .inl rfl | exact .inr rfl) (e_call dw (ok_law_chart (k := k + 1) fx) hr (by rfl) fx.g_law_chart fx.F_law_chart.kp fx.b_law_chart (.fin [.plc 0 (pVar 0)]) (pa_cons (p_plc (pv 0)) pa_nil)))
  (s_cons (s_set dw.dx rfl (by first | exact .inl rfl | exact .inr rfl) (e_call dw (ok_law_row (k := k + 2) fx) hr (by rfl) fx.g_law_row fx.F_law_row.kp fx.b_law_row (.fin [.plc 0 (pVar 0), .pur (hRd (pIx (pVar 1) (hC (.int 0))))]) (pa_cons (p_plc (pv 0)) (pa_cons (p_rd (l_ix dw.dx (p_plc (pv 1)) p_int)) pa_nil))))
  (s_cons (s_set dw.dx rfl (by first | exact .inl rfl | exact .inr rfl) (e_call dw (ok_rings_of (k := k + 0) fx) hr (by rfl) fx.g_rings_of fx.F_rings_of.kp fx.b_rings_of (.own (eK (.pur (hRd (pIx (pVar 1) (hC (.int 0)))) (.own (eOp (.fin [.plc 1 (pIx (pVar 1) (hC (.int 1)))]) gListOf) (.fin []))) (dspK .tup)) (.fin [])) (pa_cons (e_tup (.pur (hRd (pIx (pVar 1) (hC (.int 0)))) (.own (eOp (.fin [.plc 1 (pIx (pVar 1) (hC (.int 1)))]) gListOf) (.fin []))) (pa_cons (p_rd (l_ix dw.dx (p_plc (pv 1)) p_int)) (pa_cons (e_listOf dw.dx (by rfl) fx.n_list (.fin [.plc 1 (pIx (pVar 1) (hC (.int 1)))]) (pa_cons (l_ix dw.dx (p_plc (pv 1)) p_int) pa_nil)) pa_nil))) pa_nil)))
  (s_cons (s_set dw.dx rfl (by first | exact .inl rfl | exact .inr rfl) (e_call dw (ok_counts_of (k := k + 1) fx) hr (by rfl) fx.g_counts_of fx.F_counts_of.kp fx.b_counts_of (.own (eK (.pur (hRd (pIx (pVar 1) (hC (.int 0)))) (.own (eOp (.fin [.plc 1 (pIx (pVar 1) (hC (.int 1)))]) gListOf) (.fin []))) (dspK .tup)) (.fin [])) (pa_cons (e_tup (.pur (hRd (pIx (pVar 1) (hC (.int 0)))) (.own (eOp (.fin [.plc 1 (pIx (pVar 1) (hC (.int 1)))]) gListOf) (.fin []))) (pa_cons (p_rd (l_ix dw.dx (p_plc (pv 1)) p_int)) (pa_cons (e_listOf dw.dx (by rfl) fx.n_list (.fin [.plc 1 (pIx (pVar 1) (hC (.int 1)))]) (pa_cons (l_ix dw.dx (p_plc (pv 1)) p_int) pa_nil)) pa_nil))) pa_nil)))
  (s_cons (s_ifE (w_orE (t_notE (t_valE (e_call dw (ok_law_is_rows (k := k + 2) fx) hr (by rfl) fx.g_law_is_rows fx.F_law_is_rows.kp fx.b_law_is_rows (.fin [.plc 3 (pVar 3), .pur (hOp [.pur (hRd (pIx (pVar 1) (hC (.int 0))))] gLen)]) (pa_cons (p_plc (pv 3)) (pa_cons (p_len (hs := [.pur (hRd (pIx (pVar 1) (hC (.int 0))))]) dw.dx (by rfl) fx.n_len (pa_cons (p_rd (l_ix dw.dx (p_plc (pv 1)) p_int)) pa_nil)) pa_nil))))) (w_or1 (t_notE (t_valE (e_call dw (ok_law_is_rows (k := k + 2) fx) hr (by rfl) fx.g_law_is_rows fx.F_law_is_rows.kp fx.b_law_is_rows (.fin [.plc 4 (pVar 4), .pur (hOp [.pur (hRd (pIx (pVar 1) (hC (.int 0))))] gLen)]) (pa_cons (p_plc (pv 4)) (pa_cons (p_len (hs := [.pur (hRd (pIx (pVar 1) (hC (.int 0))))]) dw.dx (by rfl) fx.n_len (pa_cons (p_rd (l_ix dw.dx (p_plc (pv 1)) p_int)) pa_nil)) pa_nil))))))).pt (s_cons (s_ret (e_p p_bl))
  s_nil) s_nil)
  (s_cons (s_set dw.dx rfl (by first | exact .inl rfl | exact .inr rfl) (e_cmp (op_eqD (hu_eq1 dw.dx)) rop_eq (.own (eOp (.own (lcE [.plc 3 (pVar 3)] mkSeq (bName 12) (eB (eOp (.own (eK (.fin [.pur (hVar 12), .plc 2 (pVar 2)]) (callK [.b, .b] fn_law_taken)) (.fin [.pur (hC (.int 0))])) gNe)) (eP (hVar 12)) [12]) (.fin [])) gLen) (.fin [.pur (hC (.int 0))])) (e_len dw.dx (by rfl) fx.n_len (.own (lcE [.plc 3 (pVar 3)] mkSeq (bName 12) (eB (eOp (.own (eK (.fin [.pur (hVar 12), .plc 2 (pVar 2)]) (callK [.b, .b] fn_law_taken)) (.fin [.pur (hC (.int 0))])) gNe)) (eP (hVar 12)) [12]) (.fin [])) (pa_cons (e_lc (own := [("_law_ring", 12)]) dw.dx (i_seq (.plc 3 (pVar 3)) dw.dx (p_plc (pv 3))) (blkOk_by (N := N_law) (sc := (defScope s_law)) (by decide +kernel)) bind_name (fun _ _ _ _ _ => (pg_name (i := 12) sc_law.nd rfl (by first | exact .inl rfl | exact .inr rfl))) (fun _ _ _ _ _ => (ts_one (t_cmpE (op_neD (hu_eq1 dw.blk.dx)) rop_ne (.own (eK (.fin [.pur (hVar 12), .plc 2 (pVar 2)]) (callK [.b, .b] fn_law_taken)) (.fin [.pur (hC (.int 0))])) (e_call dw.blk (ok_law_taken (k := k + 3) fx) hr (by rfl) fx.g_law_taken fx.F_law_taken.kp fx.b_law_taken (.fin [.pur (hVar 12), .plc 2 (pVar 2)]) (pa_cons (p_var (pv 12)) (pa_cons (p_plc (pv 2)) pa_nil))) p_int))) (fun _ _ _ _ _ => (e_p (p_var (pv 12))))) pa_nil)) p_int))
  (s_cons (s_setLc (own := [("_law_count", 11)]) dw.dx rfl rfl (sw_true rfl rfl rfl (by decide +kernel)) (i_seq (.plc 4 (pVar 4)) dw.dx (p_plc (pv 4))) (blkOk_by (N := N_law) (sc := (defScope s_law)) (by decide +kernel)) bind_name (fun _ _ _ _ _ => (pg_name (i := 11) sc_law.nd rfl (by first | exact .inl rfl | exact .inr rfl))) (fun _ _ _ _ _ => ts_nil) (fun _ _ _ _ _ => (e_call dw.blk (ok_law_taken (k := k + 3) fx) hr (by rfl) fx.g_law_taken fx.F_law_taken.kp fx.b_law_taken (.fin [.pur (hVar 11), .plc 2 (pVar 2)]) (pa_cons (p_var (pv 11)) (pa_cons (p_plc (pv 2)) pa_nil)))))
  (s_cons (s_set dw.dx rfl (by first | exact .inl rfl | exact .inr rfl) (e_p p_bl))
  (s_cons (s_for [8, 9, 10] dw.dx hp (i_seq (.plc 1 (pIx (pVar 1) (hC (.int 1)))) dw.dx (l_ix dw.dx (p_plc (pv 1)) p_int)) (pg_tup rfl (pgs_cons (pg_name (i := 8) sc_law.nd rfl (by first | exact .inl rfl | exact .inr rfl)) (pgs_cons (pg_name (i := 9) sc_law.nd rfl (by first | exact .inl rfl | exact .inr rfl)) (pgs_cons (pg_name (i := 10) sc_law.nd rfl (by first | exact .inl rfl | exact .inr rfl)) pgs_nil)))) (bind_tup rfl (binds_cons bind_name (binds_cons bind_name (binds_cons bind_name binds_nil))) (bCons_len (bCons_len (bCons_len bNil_len)))) (s_cons (s_if (t_cmpPP (op_neD (hu_eq1 dw.dx)) rop_ne pure_ne (p_binPP op_addA rop_add pure_add (p_rd (l_ix dw.dx (p_plc (pv 6)) (p_var (pv 8)))) (p_rd (l_ix dw.dx (p_plc (pv 2)) (p_tIx (hs := [.pur (hVar 9)]) dw.dx (p_rd (l_ix dw.dx (p_plc (pv 1)) p_int)) (pa_cons (p_var (pv 9)) pa_nil))))) (p_rd (l_ix dw.dx (p_plc (pv 6)) (p_var (pv 10))))) (s_cons (s_set dw.dx rfl (by first | exact .inl rfl | exact .inr rfl) (e_p p_bl))
  s_nil) s_nil)
  s_nil))
  (s_cons (s_ret (e_p (p_cmpPP (op_eqD (hu_eq1 dw.dx)) rop_eq pure_eq (p_var (pv 5)) (p_var (pv 7)))))
  s_nil))))))))))
end
theorem all_mk {l : PySem.W.OpenLaw} {w : World} {K : PySem.W.Frag} {h : Heap} {mg : Str → Option Value} {fa : Addr} (X : K.In h) (G : h.Ns mainGlobals mg) (hfa : mg "law" = some (.ref fa))
    {f_tree_arcs : Addr} {od_tree_arcs an_tree_arcs : Option Addr} {sl_tree_arcs : Array (Option Value)} {oc_tree_arcs kV_tree_arcs dc_tree_arcs pm_tree_arcs cd_tree_arcs ct_tree_arcs : Value}
    (a_tree_arcs : PySem.W.nsIn K mainGlobals "tree_arcs" = some (some (.ref f_tree_arcs))) (l_tree_arcs : K.lookup f_tree_arcs = some ⟨oc_tree_arcs, od_tree_arcs, .func (PySem.W.fnOf "tree_arcs" "tree_arcs" (defArgs s_tree_arcs) (defBody s_tree_arcs) (defScope s_tree_arcs) .none kV_tree_arcs dc_tree_arcs pm_tree_arcs an_tree_arcs cd_tree_arcs ct_tree_arcs), sl_tree_arcs⟩) (c_tree_arcs : PySem.W.codeIn K cd_tree_arcs "tree_arcs" = true) (k_tree_arcs : PySem.W.keepIn K (.ref f_tree_arcs) = true)
    {f_ways_of : Addr} {od_ways_of an_ways_of : Option Addr} {sl_ways_of : Array (Option Value)} {oc_ways_of kV_ways_of dc_ways_of pm_ways_of cd_ways_of ct_ways_of : Value}
    (a_ways_of : PySem.W.nsIn K mainGlobals "ways_of" = some (some (.ref f_ways_of))) (l_ways_of : K.lookup f_ways_of = some ⟨oc_ways_of, od_ways_of, .func (PySem.W.fnOf "ways_of" "ways_of" (defArgs s_ways_of) (defBody s_ways_of) (defScope s_ways_of) .none kV_ways_of dc_ways_of pm_ways_of an_ways_of cd_ways_of ct_ways_of), sl_ways_of⟩) (c_ways_of : PySem.W.codeIn K cd_ways_of "ways_of" = true) (k_ways_of : PySem.W.keepIn K (.ref f_ways_of) = true)
    {f_counts_of : Addr} {od_counts_of an_counts_of : Option Addr} {sl_counts_of : Array (Option Value)} {oc_counts_of kV_counts_of dc_counts_of pm_counts_of cd_counts_of ct_counts_of : Value}
    (a_counts_of : PySem.W.nsIn K mainGlobals "counts_of" = some (some (.ref f_counts_of))) (l_counts_of : K.lookup f_counts_of = some ⟨oc_counts_of, od_counts_of, .func (PySem.W.fnOf "counts_of" "counts_of" (defArgs s_counts_of) (defBody s_counts_of) (defScope s_counts_of) .none kV_counts_of dc_counts_of pm_counts_of an_counts_of cd_counts_of ct_counts_of), sl_counts_of⟩) (c_counts_of : PySem.W.codeIn K cd_counts_of "counts_of" = true) (k_counts_of : PySem.W.keepIn K (.ref f_counts_of) = true)
    {f_rings_of : Addr} {od_rings_of an_rings_of : Option Addr} {sl_rings_of : Array (Option Value)} {oc_rings_of kV_rings_of dc_rings_of pm_rings_of cd_rings_of ct_rings_of : Value}
    (a_rings_of : PySem.W.nsIn K mainGlobals "rings_of" = some (some (.ref f_rings_of))) (l_rings_of : K.lookup f_rings_of = some ⟨oc_rings_of, od_rings_of, .func (PySem.W.fnOf "rings_of" "rings_of" (defArgs s_rings_of) (defBody s_rings_of) (defScope s_rings_of) .none kV_rings_of dc_rings_of pm_rings_of an_rings_of cd_rings_of ct_rings_of), sl_rings_of⟩) (c_rings_of : PySem.W.codeIn K cd_rings_of "rings_of" = true) (k_rings_of : PySem.W.keepIn K (.ref f_rings_of) = true)
    {f_law_cell_at : Addr} {od_law_cell_at an_law_cell_at : Option Addr} {sl_law_cell_at : Array (Option Value)} {oc_law_cell_at kV_law_cell_at dc_law_cell_at pm_law_cell_at cd_law_cell_at ct_law_cell_at : Value}
    (a_law_cell_at : PySem.W.nsIn K mainGlobals "_law_cell_at" = some (some (.ref f_law_cell_at))) (l_law_cell_at : K.lookup f_law_cell_at = some ⟨oc_law_cell_at, od_law_cell_at, .func (PySem.W.fnOf "_law_cell_at" "_law_cell_at" (defArgs s_law_cell_at) (defBody s_law_cell_at) (defScope s_law_cell_at) .none kV_law_cell_at dc_law_cell_at pm_law_cell_at an_law_cell_at cd_law_cell_at ct_law_cell_at), sl_law_cell_at⟩) (c_law_cell_at : PySem.W.codeIn K cd_law_cell_at "_law_cell_at" = true) (k_law_cell_at : PySem.W.keepIn K (.ref f_law_cell_at) = true)
    {f_law_stream : Addr} {od_law_stream an_law_stream : Option Addr} {sl_law_stream : Array (Option Value)} {oc_law_stream kV_law_stream dc_law_stream pm_law_stream cd_law_stream ct_law_stream : Value}
    (a_law_stream : PySem.W.nsIn K mainGlobals "_law_stream" = some (some (.ref f_law_stream))) (l_law_stream : K.lookup f_law_stream = some ⟨oc_law_stream, od_law_stream, .func (PySem.W.fnOf "_law_stream" "_law_stream" (defArgs s_law_stream) (defBody s_law_stream) (defScope s_law_stream) .none kV_law_stream dc_law_stream pm_law_stream an_law_stream cd_law_stream ct_law_stream), sl_law_stream⟩) (c_law_stream : PySem.W.codeIn K cd_law_stream "_law_stream" = true) (k_law_stream : PySem.W.keepIn K (.ref f_law_stream) = true)
    {f_law_names : Addr} {od_law_names an_law_names : Option Addr} {sl_law_names : Array (Option Value)} {oc_law_names kV_law_names dc_law_names pm_law_names cd_law_names ct_law_names : Value}
    (a_law_names : PySem.W.nsIn K mainGlobals "_law_names" = some (some (.ref f_law_names))) (l_law_names : K.lookup f_law_names = some ⟨oc_law_names, od_law_names, .func (PySem.W.fnOf "_law_names" "_law_names" (defArgs s_law_names) (defBody s_law_names) (defScope s_law_names) .none kV_law_names dc_law_names pm_law_names an_law_names cd_law_names ct_law_names), sl_law_names⟩) (c_law_names : PySem.W.codeIn K cd_law_names "_law_names" = true) (k_law_names : PySem.W.keepIn K (.ref f_law_names) = true)
    {f_law_come_to : Addr} {od_law_come_to an_law_come_to : Option Addr} {sl_law_come_to : Array (Option Value)} {oc_law_come_to kV_law_come_to dc_law_come_to pm_law_come_to cd_law_come_to ct_law_come_to : Value}
    (a_law_come_to : PySem.W.nsIn K mainGlobals "_law_come_to" = some (some (.ref f_law_come_to))) (l_law_come_to : K.lookup f_law_come_to = some ⟨oc_law_come_to, od_law_come_to, .func (PySem.W.fnOf "_law_come_to" "_law_come_to" (defArgs s_law_come_to) (defBody s_law_come_to) (defScope s_law_come_to) .none kV_law_come_to dc_law_come_to pm_law_come_to an_law_come_to cd_law_come_to ct_law_come_to), sl_law_come_to⟩) (c_law_come_to : PySem.W.codeIn K cd_law_come_to "_law_come_to" = true) (k_law_come_to : PySem.W.keepIn K (.ref f_law_come_to) = true)
    {f_law_guards : Addr} {od_law_guards an_law_guards : Option Addr} {sl_law_guards : Array (Option Value)} {oc_law_guards kV_law_guards dc_law_guards pm_law_guards cd_law_guards ct_law_guards : Value}
    (a_law_guards : PySem.W.nsIn K mainGlobals "_law_guards" = some (some (.ref f_law_guards))) (l_law_guards : K.lookup f_law_guards = some ⟨oc_law_guards, od_law_guards, .func (PySem.W.fnOf "_law_guards" "_law_guards" (defArgs s_law_guards) (defBody s_law_guards) (defScope s_law_guards) .none kV_law_guards dc_law_guards pm_law_guards an_law_guards cd_law_guards ct_law_guards), sl_law_guards⟩) (c_law_guards : PySem.W.codeIn K cd_law_guards "_law_guards" = true) (k_law_guards : PySem.W.keepIn K (.ref f_law_guards) = true)
    {f_law_gone : Addr} {od_law_gone an_law_gone : Option Addr} {sl_law_gone : Array (Option Value)} {oc_law_gone kV_law_gone dc_law_gone pm_law_gone cd_law_gone ct_law_gone : Value}
    (a_law_gone : PySem.W.nsIn K mainGlobals "_law_gone" = some (some (.ref f_law_gone))) (l_law_gone : K.lookup f_law_gone = some ⟨oc_law_gone, od_law_gone, .func (PySem.W.fnOf "_law_gone" "_law_gone" (defArgs s_law_gone) (defBody s_law_gone) (defScope s_law_gone) .none kV_law_gone dc_law_gone pm_law_gone an_law_gone cd_law_gone ct_law_gone), sl_law_gone⟩) (c_law_gone : PySem.W.codeIn K cd_law_gone "_law_gone" = true) (k_law_gone : PySem.W.keepIn K (.ref f_law_gone) = true)
    {f_law_run : Addr} {od_law_run an_law_run : Option Addr} {sl_law_run : Array (Option Value)} {oc_law_run kV_law_run dc_law_run pm_law_run cd_law_run ct_law_run : Value}
    (a_law_run : PySem.W.nsIn K mainGlobals "_law_run" = some (some (.ref f_law_run))) (l_law_run : K.lookup f_law_run = some ⟨oc_law_run, od_law_run, .func (PySem.W.fnOf "_law_run" "_law_run" (defArgs s_law_run) (defBody s_law_run) (defScope s_law_run) .none kV_law_run dc_law_run pm_law_run an_law_run cd_law_run ct_law_run), sl_law_run⟩) (c_law_run : PySem.W.codeIn K cd_law_run "_law_run" = true) (k_law_run : PySem.W.keepIn K (.ref f_law_run) = true)
    {f_law_few : Addr} {od_law_few an_law_few : Option Addr} {sl_law_few : Array (Option Value)} {oc_law_few kV_law_few dc_law_few pm_law_few cd_law_few ct_law_few : Value}
    (a_law_few : PySem.W.nsIn K mainGlobals "_law_few" = some (some (.ref f_law_few))) (l_law_few : K.lookup f_law_few = some ⟨oc_law_few, od_law_few, .func (PySem.W.fnOf "_law_few" "_law_few" (defArgs s_law_few) (defBody s_law_few) (defScope s_law_few) .none kV_law_few dc_law_few pm_law_few an_law_few cd_law_few ct_law_few), sl_law_few⟩) (c_law_few : PySem.W.codeIn K cd_law_few "_law_few" = true) (k_law_few : PySem.W.keepIn K (.ref f_law_few) = true)
    {f_law_word : Addr} {od_law_word an_law_word : Option Addr} {sl_law_word : Array (Option Value)} {oc_law_word kV_law_word dc_law_word pm_law_word cd_law_word ct_law_word : Value}
    (a_law_word : PySem.W.nsIn K mainGlobals "_law_word" = some (some (.ref f_law_word))) (l_law_word : K.lookup f_law_word = some ⟨oc_law_word, od_law_word, .func (PySem.W.fnOf "_law_word" "_law_word" (defArgs s_law_word) (defBody s_law_word) (defScope s_law_word) .none kV_law_word dc_law_word pm_law_word an_law_word cd_law_word ct_law_word), sl_law_word⟩) (c_law_word : PySem.W.codeIn K cd_law_word "_law_word" = true) (k_law_word : PySem.W.keepIn K (.ref f_law_word) = true)
    {f_law_fewer : Addr} {od_law_fewer an_law_fewer : Option Addr} {sl_law_fewer : Array (Option Value)} {oc_law_fewer kV_law_fewer dc_law_fewer pm_law_fewer cd_law_fewer ct_law_fewer : Value}
    (a_law_fewer : PySem.W.nsIn K mainGlobals "_law_fewer" = some (some (.ref f_law_fewer))) (l_law_fewer : K.lookup f_law_fewer = some ⟨oc_law_fewer, od_law_fewer, .func (PySem.W.fnOf "_law_fewer" "_law_fewer" (defArgs s_law_fewer) (defBody s_law_fewer) (defScope s_law_fewer) .none kV_law_fewer dc_law_fewer pm_law_fewer an_law_fewer cd_law_fewer ct_law_fewer), sl_law_fewer⟩) (c_law_fewer : PySem.W.codeIn K cd_law_fewer "_law_fewer" = true) (k_law_fewer : PySem.W.keepIn K (.ref f_law_fewer) = true)
    {f_law_chart : Addr} {od_law_chart an_law_chart : Option Addr} {sl_law_chart : Array (Option Value)} {oc_law_chart kV_law_chart dc_law_chart pm_law_chart cd_law_chart ct_law_chart : Value}
    (a_law_chart : PySem.W.nsIn K mainGlobals "_law_chart" = some (some (.ref f_law_chart))) (l_law_chart : K.lookup f_law_chart = some ⟨oc_law_chart, od_law_chart, .func (PySem.W.fnOf "_law_chart" "_law_chart" (defArgs s_law_chart) (defBody s_law_chart) (defScope s_law_chart) .none kV_law_chart dc_law_chart pm_law_chart an_law_chart cd_law_chart ct_law_chart), sl_law_chart⟩) (c_law_chart : PySem.W.codeIn K cd_law_chart "_law_chart" = true) (k_law_chart : PySem.W.keepIn K (.ref f_law_chart) = true)
    {f_law_is_whole : Addr} {od_law_is_whole an_law_is_whole : Option Addr} {sl_law_is_whole : Array (Option Value)} {oc_law_is_whole kV_law_is_whole dc_law_is_whole pm_law_is_whole cd_law_is_whole ct_law_is_whole : Value}
    (a_law_is_whole : PySem.W.nsIn K mainGlobals "_law_is_whole" = some (some (.ref f_law_is_whole))) (l_law_is_whole : K.lookup f_law_is_whole = some ⟨oc_law_is_whole, od_law_is_whole, .func (PySem.W.fnOf "_law_is_whole" "_law_is_whole" (defArgs s_law_is_whole) (defBody s_law_is_whole) (defScope s_law_is_whole) .none kV_law_is_whole dc_law_is_whole pm_law_is_whole an_law_is_whole cd_law_is_whole ct_law_is_whole), sl_law_is_whole⟩) (c_law_is_whole : PySem.W.codeIn K cd_law_is_whole "_law_is_whole" = true) (k_law_is_whole : PySem.W.keepIn K (.ref f_law_is_whole) = true)
    {f_law_is_rows : Addr} {od_law_is_rows an_law_is_rows : Option Addr} {sl_law_is_rows : Array (Option Value)} {oc_law_is_rows kV_law_is_rows dc_law_is_rows pm_law_is_rows cd_law_is_rows ct_law_is_rows : Value}
    (a_law_is_rows : PySem.W.nsIn K mainGlobals "_law_is_rows" = some (some (.ref f_law_is_rows))) (l_law_is_rows : K.lookup f_law_is_rows = some ⟨oc_law_is_rows, od_law_is_rows, .func (PySem.W.fnOf "_law_is_rows" "_law_is_rows" (defArgs s_law_is_rows) (defBody s_law_is_rows) (defScope s_law_is_rows) .none kV_law_is_rows dc_law_is_rows pm_law_is_rows an_law_is_rows cd_law_is_rows ct_law_is_rows), sl_law_is_rows⟩) (c_law_is_rows : PySem.W.codeIn K cd_law_is_rows "_law_is_rows" = true) (k_law_is_rows : PySem.W.keepIn K (.ref f_law_is_rows) = true)
    {f_law_taken : Addr} {od_law_taken an_law_taken : Option Addr} {sl_law_taken : Array (Option Value)} {oc_law_taken kV_law_taken dc_law_taken pm_law_taken cd_law_taken ct_law_taken : Value}
    (a_law_taken : PySem.W.nsIn K mainGlobals "_law_taken" = some (some (.ref f_law_taken))) (l_law_taken : K.lookup f_law_taken = some ⟨oc_law_taken, od_law_taken, .func (PySem.W.fnOf "_law_taken" "_law_taken" (defArgs s_law_taken) (defBody s_law_taken) (defScope s_law_taken) .none kV_law_taken dc_law_taken pm_law_taken an_law_taken cd_law_taken ct_law_taken), sl_law_taken⟩) (c_law_taken : PySem.W.codeIn K cd_law_taken "_law_taken" = true) (k_law_taken : PySem.W.keepIn K (.ref f_law_taken) = true)
    {f_law_row : Addr} {od_law_row an_law_row : Option Addr} {sl_law_row : Array (Option Value)} {oc_law_row kV_law_row dc_law_row pm_law_row cd_law_row ct_law_row : Value}
    (a_law_row : PySem.W.nsIn K mainGlobals "_law_row" = some (some (.ref f_law_row))) (l_law_row : K.lookup f_law_row = some ⟨oc_law_row, od_law_row, .func (PySem.W.fnOf "_law_row" "_law_row" (defArgs s_law_row) (defBody s_law_row) (defScope s_law_row) .none kV_law_row dc_law_row pm_law_row an_law_row cd_law_row ct_law_row), sl_law_row⟩) (c_law_row : PySem.W.codeIn K cd_law_row "_law_row" = true) (k_law_row : PySem.W.keepIn K (.ref f_law_row) = true)
    {f_law : Addr} {od_law an_law : Option Addr} {sl_law : Array (Option Value)} {oc_law kV_law dc_law pm_law cd_law ct_law : Value}
    (a_law : PySem.W.nsIn K mainGlobals "law" = some (some (.ref f_law))) (l_law : K.lookup f_law = some ⟨oc_law, od_law, .func (PySem.W.fnOf "law" "law" (defArgs s_law) (defBody s_law) (defScope s_law) .none kV_law dc_law pm_law an_law cd_law ct_law), sl_law⟩) (c_law : PySem.W.codeIn K cd_law "law" = true) (k_law : PySem.W.keepIn K (.ref f_law) = true)
    (z_bool : PySem.W.nsIn K mainGlobals "bool" = some none)
    (z_int : PySem.W.nsIn K mainGlobals "int" = some none)
    (z_isinstance : PySem.W.nsIn K mainGlobals "isinstance" = some none)
    (z_len : PySem.W.nsIn K mainGlobals "len" = some none)
    (z_list : PySem.W.nsIn K mainGlobals "list" = some none)
    (z_max : PySem.W.nsIn K mainGlobals "max" = some none)
    (z_min : PySem.W.nsIn K mainGlobals "min" = some none)
    (z_range : PySem.W.nsIn K mainGlobals "range" = some none)
    (z_sorted : PySem.W.nsIn K mainGlobals "sorted" = some none)
    (z_sum : PySem.W.nsIn K mainGlobals "sum" = some none)
    (z_tuple : PySem.W.nsIn K mainGlobals "tuple" = some none)
    (z_zip : PySem.W.nsIn K mainGlobals "zip" = some none)
    : ∃ fd : FuncData, (∀ (s : Shared) (v : Value), BindsTo s fd ⟨[v], []⟩ [("_law_script", v)]) ∧ ∀ base : Heap, K.In base → base.Ns mainGlobals mg → FnOk l.prog w K mg base (L2.CX l.prog w) 5 fa fd P_law (spD ⟨K, fun _ => none⟩ [.b] fn_law) := by
  have e := hfa.symm.trans (PySem.W.mg_of X G a_law)
  cases e
  have F_tree_arcs := fun_mk (st := s_tree_arcs) l_tree_arcs c_tree_arcs k_tree_arcs
  have b_tree_arcs := F_tree_arcs.binds (ps := P_tree_arcs) fun _ _ _ _ _ _ us hl => match us, hl with | [_], _ => rfl
  have F_ways_of := fun_mk (st := s_ways_of) l_ways_of c_ways_of k_ways_of
  have b_ways_of := F_ways_of.binds (ps := P_ways_of) fun _ _ _ _ _ _ us hl => match us, hl with | [_], _ => rfl
  have F_counts_of := fun_mk (st := s_counts_of) l_counts_of c_counts_of k_counts_of
  have b_counts_of := F_counts_of.binds (ps := P_counts_of) fun _ _ _ _ _ _ us hl => match us, hl with | [_], _ => rfl
  have F_rings_of := fun_mk (st := s_rings_of) l_rings_of c_rings_of k_rings_of
  have b_rings_of := F_rings_of.binds (ps := P_rings_of) fun _ _ _ _ _ _ us hl => match us, hl with | [_], _ => rfl
  have F_law_cell_at := fun_mk (st := s_law_cell_at) l_law_cell_at c_law_cell_at k_law_cell_at
  have b_law_cell_at := F_law_cell_at.binds (ps := P_law_cell_at) fun _ _ _ _ _ _ us hl => match us, hl with | [_, _], _ => rfl
  have F_law_stream := fun_mk (st := s_law_stream) l_law_stream c_law_stream k_law_stream
  have b_law_stream := F_law_stream.binds (ps := P_law_stream) fun _ _ _ _ _ _ us hl => match us, hl with | [_, _], _ => rfl
  have F_law_names := fun_mk (st := s_law_names) l_law_names c_law_names k_law_names
  have b_law_names := F_law_names.binds (ps := P_law_names) fun _ _ _ _ _ _ us hl => match us, hl with | [_, _], _ => rfl
  have F_law_come_to := fun_mk (st := s_law_come_to) l_law_come_to c_law_come_to k_law_come_to
  have b_law_come_to := F_law_come_to.binds (ps := P_law_come_to) fun _ _ _ _ _ _ us hl => match us, hl with | [_], _ => rfl
  have F_law_guards := fun_mk (st := s_law_guards) l_law_guards c_law_guards k_law_guards
  have b_law_guards := F_law_guards.binds (ps := P_law_guards) fun _ _ _ _ _ _ us hl => match us, hl with | [_, _], _ => rfl
  have F_law_gone := fun_mk (st := s_law_gone) l_law_gone c_law_gone k_law_gone
  have b_law_gone := F_law_gone.binds (ps := P_law_gone) fun _ _ _ _ _ _ us hl => match us, hl with | [_, _], _ => rfl
  have F_law_run := fun_mk (st := s_law_run) l_law_run c_law_run k_law_run
  have b_law_run := F_law_run.binds (ps := P_law_run) fun _ _ _ _ _ _ us hl => match us, hl with | [_, _, _], _ => rfl
  have F_law_few := fun_mk (st := s_law_few) l_law_few c_law_few k_law_few
  have b_law_few := F_law_few.binds (ps := P_law_few) fun _ _ _ _ _ _ us hl => match us, hl with | [_, _], _ => rfl
  have F_law_word := fun_mk (st := s_law_word) l_law_word c_law_word k_law_word
  have b_law_word := F_law_word.binds (ps := P_law_word) fun _ _ _ _ _ _ us hl => match us, hl with | [_, _], _ => rfl
  have F_law_fewer := fun_mk (st := s_law_fewer) l_law_fewer c_law_fewer k_law_fewer
  have b_law_fewer := F_law_fewer.binds (ps := P_law_fewer) fun _ _ _ _ _ _ us hl => match us, hl with | [_, _], _ => rfl
  have F_law_chart := fun_mk (st := s_law_chart) l_law_chart c_law_chart k_law_chart
  have b_law_chart := F_law_chart.binds (ps := P_law_chart) fun _ _ _ _ _ _ us hl => match us, hl with | [_], _ => rfl
  have F_law_is_whole := fun_mk (st := s_law_is_whole) l_law_is_whole c_law_is_whole k_law_is_whole
  have b_law_is_whole := F_law_is_whole.binds (ps := P_law_is_whole) fun _ _ _ _ _ _ us hl => match us, hl with | [_], _ => rfl
  have F_law_is_rows := fun_mk (st := s_law_is_rows) l_law_is_rows c_law_is_rows k_law_is_rows
  have b_law_is_rows := F_law_is_rows.binds (ps := P_law_is_rows) fun _ _ _ _ _ _ us hl => match us, hl with | [_, _], _ => rfl
  have F_law_taken := fun_mk (st := s_law_taken) l_law_taken c_law_taken k_law_taken
  have b_law_taken := F_law_taken.binds (ps := P_law_taken) fun _ _ _ _ _ _ us hl => match us, hl with | [_, _], _ => rfl
  have F_law_row := fun_mk (st := s_law_row) l_law_row c_law_row k_law_row
  have b_law_row := F_law_row.binds (ps := P_law_row) fun _ _ _ _ _ _ us hl => match us, hl with | [_, _], _ => rfl
  have F_law := fun_mk (st := s_law) l_law c_law k_law
  have b_law := F_law.binds (ps := P_law) fun _ _ _ _ _ _ us hl => match us, hl with | [_], _ => rfl
  let fx : Fx K mg := ⟨_, _, F_tree_arcs, b_tree_arcs, PySem.W.mg_of X G a_tree_arcs, _, _, F_ways_of, b_ways_of, PySem.W.mg_of X G a_ways_of, _, _, F_counts_of, b_counts_of, PySem.W.mg_of X G a_counts_of, _, _, F_rings_of, b_rings_of, PySem.W.mg_of X G a_rings_of, _, _, F_law_cell_at, b_law_cell_at, PySem.W.mg_of X G a_law_cell_at, _, _, F_law_stream, b_law_stream, PySem.W.mg_of X G a_law_stream, _, _, F_law_names, b_law_names, PySem.W.mg_of X G a_law_names, _, _, F_law_come_to, b_law_come_to, PySem.W.mg_of X G a_law_come_to, _, _, F_law_guards, b_law_guards, PySem.W.mg_of X G a_law_guards, _, _, F_law_gone, b_law_gone, PySem.W.mg_of X G a_law_gone, _, _, F_law_run, b_law_run, PySem.W.mg_of X G a_law_run, _, _, F_law_few, b_law_few, PySem.W.mg_of X G a_law_few, _, _, F_law_word, b_law_word, PySem.W.mg_of X G a_law_word, _, _, F_law_fewer, b_law_fewer, PySem.W.mg_of X G a_law_fewer, _, _, F_law_chart, b_law_chart, PySem.W.mg_of X G a_law_chart, _, _, F_law_is_whole, b_law_is_whole, PySem.W.mg_of X G a_law_is_whole, _, _, F_law_is_rows, b_law_is_rows, PySem.W.mg_of X G a_law_is_rows, _, _, F_law_taken, b_law_taken, PySem.W.mg_of X G a_law_taken, _, _, F_law_row, b_law_row, PySem.W.mg_of X G a_law_row, _, _, F_law, b_law, PySem.W.mg_of X G a_law, PySem.W.mg_none_of X G z_bool, PySem.W.mg_none_of X G z_int, PySem.W.mg_none_of X G z_isinstance, PySem.W.mg_none_of X G z_len, PySem.W.mg_none_of X G z_list, PySem.W.mg_none_of X G z_max, PySem.W.mg_none_of X G z_min, PySem.W.mg_none_of X G z_range, PySem.W.mg_none_of X G z_sorted, PySem.W.mg_none_of X G z_sum, PySem.W.mg_none_of X G z_tuple, PySem.W.mg_none_of X G z_zip⟩
  exact ⟨_, fun s v => .of_eq rfl, fun base _ _ => ok_law (k := 0) fx⟩
end
end DL

open PySem PySem.W PyProof.Rows
set_option maxHeartbeats 0 in
theorem PySem.Challenge.cw_netfinder_k34_rings_and_arcs_holds : PySem.Challenge.rw_netfinder_k34_rings_and_arcs.Holds := by
  w_on; o_law; k_head; (case hw => w_witness2)
  k_fill
  refine L2.walk_ofB (l := PySem.Challenge.rw_netfinder_k34_rings_and_arcs) (n := 63) (k := 5) (x := "_law_script") (CX := fun w => L2.CX PySem.Challenge.rw_netfinder_k34_rings_and_arcs.prog w) (sp := fun w => DL.spD ⟨_, fun _ => none⟩ [.b] DL.fn_law) rfl (by decide) rfl ⟨rfl, by decide, by decide⟩ (fun w h Y => PySem.W.kIn_of Y) ?F (fun w H a ns hl hb _ hS => DL.law_sp hS (DL.law_true ns hl hb)) ?X
  case F =>
    intro w mg fa h KX G hmg
    refine' DL.all_mk KX G hmg ?a_tree_arcs ?l_tree_arcs ?c_tree_arcs ?k_tree_arcs ?a_ways_of ?l_ways_of ?c_ways_of ?k_ways_of ?a_counts_of ?l_counts_of ?c_counts_of ?k_counts_of ?a_rings_of ?l_rings_of ?c_rings_of ?k_rings_of ?a_law_cell_at ?l_law_cell_at ?c_law_cell_at ?k_law_cell_at ?a_law_stream ?l_law_stream ?c_law_stream ?k_law_stream ?a_law_names ?l_law_names ?c_law_names ?k_law_names ?a_law_come_to ?l_law_come_to ?c_law_come_to ?k_law_come_to ?a_law_guards ?l_law_guards ?c_law_guards ?k_law_guards ?a_law_gone ?l_law_gone ?c_law_gone ?k_law_gone ?a_law_run ?l_law_run ?c_law_run ?k_law_run ?a_law_few ?l_law_few ?c_law_few ?k_law_few ?a_law_word ?l_law_word ?c_law_word ?k_law_word ?a_law_fewer ?l_law_fewer ?c_law_fewer ?k_law_fewer ?a_law_chart ?l_law_chart ?c_law_chart ?k_law_chart ?a_law_is_whole ?l_law_is_whole ?c_law_is_whole ?k_law_is_whole ?a_law_is_rows ?l_law_is_rows ?c_law_is_rows ?k_law_is_rows ?a_law_taken ?l_law_taken ?c_law_taken ?k_law_taken ?a_law_row ?l_law_row ?c_law_row ?k_law_row ?a_law ?l_law ?c_law ?k_law ?z_bool ?z_int ?z_isinstance ?z_len ?z_list ?z_max ?z_min ?z_range ?z_sorted ?z_sum ?z_tuple ?z_zip
    (case a_tree_arcs => k_is); (case l_tree_arcs => k_is); (case c_tree_arcs => k_is); (case k_tree_arcs => k_is); (case a_ways_of => k_is); (case l_ways_of => k_is); (case c_ways_of => k_is); (case k_ways_of => k_is); (case a_counts_of => k_is); (case l_counts_of => k_is); (case c_counts_of => k_is); (case k_counts_of => k_is); (case a_rings_of => k_is); (case l_rings_of => k_is); (case c_rings_of => k_is); (case k_rings_of => k_is); (case a_law_cell_at => k_is); (case l_law_cell_at => k_is); (case c_law_cell_at => k_is); (case k_law_cell_at => k_is); (case a_law_stream => k_is); (case l_law_stream => k_is); (case c_law_stream => k_is); (case k_law_stream => k_is); (case a_law_names => k_is); (case l_law_names => k_is); (case c_law_names => k_is); (case k_law_names => k_is); (case a_law_come_to => k_is); (case l_law_come_to => k_is); (case c_law_come_to => k_is); (case k_law_come_to => k_is); (case a_law_guards => k_is); (case l_law_guards => k_is); (case c_law_guards => k_is); (case k_law_guards => k_is); (case a_law_gone => k_is); (case l_law_gone => k_is); (case c_law_gone => k_is); (case k_law_gone => k_is); (case a_law_run => k_is); (case l_law_run => k_is); (case c_law_run => k_is); (case k_law_run => k_is); (case a_law_few => k_is); (case l_law_few => k_is); (case c_law_few => k_is); (case k_law_few => k_is); (case a_law_word => k_is); (case l_law_word => k_is); (case c_law_word => k_is); (case k_law_word => k_is); (case a_law_fewer => k_is); (case l_law_fewer => k_is); (case c_law_fewer => k_is); (case k_law_fewer => k_is); (case a_law_chart => k_is); (case l_law_chart => k_is); (case c_law_chart => k_is); (case k_law_chart => k_is); (case a_law_is_whole => k_is); (case l_law_is_whole => k_is); (case c_law_is_whole => k_is); (case k_law_is_whole => k_is); (case a_law_is_rows => k_is); (case l_law_is_rows => k_is); (case c_law_is_rows => k_is); (case k_law_is_rows => k_is); (case a_law_taken => k_is); (case l_law_taken => k_is); (case c_law_taken => k_is); (case k_law_taken => k_is); (case a_law_row => k_is); (case l_law_row => k_is); (case c_law_row => k_is); (case k_law_row => k_is); (case a_law => k_is); (case l_law => k_is); (case c_law => k_is); (case k_law => k_is); (case z_bool => k_is); (case z_int => k_is); (case z_isinstance => k_is); (case z_len => k_is); (case z_list => k_is); (case z_max => k_is); (case z_min => k_is); (case z_range => k_is); (case z_sorted => k_is); (case z_sum => k_is); (case z_tuple => k_is); (case z_zip => k_is)
  case X =>
    intro w H s e s2 h
    obtain ⟨_, _, _, _, _, _, _, _, _, _, _, _, h⟩ := h
    exact h
