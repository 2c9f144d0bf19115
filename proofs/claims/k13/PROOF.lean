import PyProof.Rows.All
import Wide.All
import OpenK.AllK
import Wide.FinOn
import PyProof.ListRange
import PyProof.CollectIter
import HandS.Base
import HandS.Call
import HandS.Conv
import HandS.RevRange
import HandS.SetFor
import HandS.Strs
import HandS.TupMul
import HandS.TupAny
import KE.KIsAll
import KE.KTryMore
import HandS.IsInst
import HandS.ExcOwn
import HandS.ExcIs
import HandS.ForMost
import HandS.Exc
import HandS.WordsExc
import HandS.TryOnly
import HandS.CallSlots
import HandS.Wide
import HandS.Defaults
import HandS.Head0
import HandS.Head1
import HandS.Head2
import HandS.HeadEnd
import HandS.HeadHook1
import HandS.HeadHook2
import HandS.Walk
import HandS.Rev
import KE.GoesEnum
import HandS.ExcInit
import HandS.ExcField
import HandS.HeadHook4
import HandS.Dict
import HandS.DictEq
import HandS.Lambda
import KE.KEqDict
import HandS.Text
import HandS.List
import HandS.More
import HandS.HeadWalk
import HandS.EndTab
import PySem.Challenge.RW_crankdrum_k13_machines_and_values_refuse
set_option Elab.async false
set_option linter.all false
set_option maxRecDepth 100000
set_option maxHeartbeats 2000000
namespace Dl
/-- a statement, held; its proof is got by a discharger -/
def Q (p : Prop) : Prop := p
theorem unQ {p : Prop} (h : Q p) : p := h
theorem qTrue (p : Prop) (h : p) : Q p = True := eq_true h
end Dl
/-! Dl0: list(reversed(range(n))). -/
namespace PySem
open Sem (wp)
section
variable {prog : Program} {w : World} {A : Around} {E : Value → Shared → Prop} {s : Shared}
theorem Dl_hint_ri {I : Addr} {a k c : Int} {Q : Value → Shared → Prop} (h : IsRangeIter s.heap I a k c) (q : Q (.int k s.toks) { s with toks := s.toks + 1 }) :
    wpAny (model prog w) A (call (.builtin "range_iterator.__length_hint__") [.ref I]) Q E s := Dl.unQ (by
 simp (disch := with_unfolding_all
  refine @id _ ?_
  have ty : s.TypeIs (.ref I) "range_iterator" := ⟨_, h, rfl⟩
  refine wpAny_call_entry F.slot_range_iterator_length_hint ty F.entry_range_iterator_length_hint ?_ (F.args_range_iterator_length_hint_1 _)
  obtain ⟨hp, g, d, tk, os⟩ := s
  wp_walk using AutoSeq1.wpAny_loadPart' h
  exact ⟨_, rfl, q⟩
 ) only [↓Dl.qTrue])
/-- what a list's __init__ and its loop leave -/
def DlLeft (R : Result → Shared → Prop) (res : Value) (s : Shared) (S I : Addr) (a c : Int) (n : Nat) : Prop :=
  ∀ h' tk acc k, (∀ b o, b ≠ S → b ≠ I → s.heap.get? b = some o → h'.get? b = some o) → h'.get? S = some { cls := .type "list", dict := none, data := .seq acc k, slots := #[] } →
    ItemsOf (fun i v => ∃ t, v = .int (a + i * c) t) acc n → R (.ok (.ret res)) { s with heap := h', toks := tk }
theorem Dl_extend_ri {R : Result → Shared → Prop} {I : Addr} {a c : Int} {n : Nat} (hh : A.handled = none) (hI : IsRangeIter s.heap I a n c) (hlen : n ≤ 2 ^ 24) (S : Addr) (res : Value) (c₀ : Nat)
    (hS : s.heap.get? S = some { cls := .type "list", data := .seq #[] c₀ }) (hR : DlLeft R res s S I a c n) :
    wpAny (model prog w) A.in1 (Builtin.List.listExtendWith (.ref S) (.ref I) res)
      (fun fin s' => match fin with | .done f => R (.ok f) s' | .again c' => c'.quiet = true ∧ codeAny (model prog w) A c' R s') (fun e s' => R (.error e) s') s := Dl.unQ (by
 simp (disch := with_unfolding_all
  refine @id _ ?_
  have ne : S ≠ I := fun e => by subst e; rw [hI] at hS; simp at hS
  have nf : S ∉ [I] := fun h => ne (List.mem_singleton.mp h)
  have ty : s.TypeIs (.ref I) "range_iterator" := ⟨_, hI, rfl⟩
  have st : IsRangeIter s.heap I (a + ((0 : Nat) : Int) * c) ((n : Int) - ((0 : Nat) : Int)) c := by simpa using hI
  have W := (Walks.range (prog := prog) (w := w) (A := A.in1) hh I a c n).toS
  have h1 : Builtin.List.listSameRef (.ref S) (.ref I) = false := by simp [Builtin.List.listSameRef, ne]
  unfold Builtin.List.listExtendWith
  refine wpAny_bind (wpAny_typeOf ty ?_)
  rw [if_neg (by rw [h1]; decide)]
  refine wpAny_bind (W.self 0 _ _ _ st ?_)
  refine wpAny_bind (wpAny_holding ?_)
  unfold Builtin.List.listLengthHint
  refine wpAny_bind (wpAny_specialOf ty F.nolen_ra ?_)
  show wpAny _ A.in1 (specialOf (Value.ref I) (Str.ofString "__length_hint__") >>= _) _ _ _
  refine wpAny_bind (wpAny_specialOf ty F.hint_ra ?_)
  generalize hid : ("range_iterator.__length_hint__" : String) = id0
  wp_delta
  rw [show splitId id0 = some ("range_iterator", "__length_hint__") from by subst hid; decide +kernel]
  subst hid
  refine wpAny_bind (wpAny_isInstance (b := true) ty (by rw [isSubtype_type]; kernel_rfl) ?_)
  show wpAny _ A.in1 (call (.builtin "range_iterator.__length_hint__") [.ref I] >>= _) _ _ _
  refine wpAny_bind (Dl_hint_ri hI ?_)
  refine wpAny_bind (m := asInt? (.int (n : Int) s.toks)) (wpAny_pure ?_)
  dsimp only
  rw [if_neg (by simp [Builtin.List.listTooLong, sizeLine]; omega)]
  refine wpAny_pure ?_
  rw [if_neg (by decide)]
  have st2 := W.frame 0 _ s.heap (s.toks + 1) st (Nat.le_succ _) fun b _ o e => e
  refine wpAny_pure ⟨plainId_quiet F.plain_extend_loop _, codeAny_extend_loopS W (by rw [sizeLine_eq]; omega) S nf _ n 0 _ #[] c₀ rfl (Nat.zero_le _) st2 hS (ItemsOf.nil _) fun s' acc k hm hS' hacc => ?_⟩
  rw [Moved.eq_with hm]
  refine hR s'.heap s'.toks acc k (fun b o hb hb2 e => hm.heap b o (fun hmem => ?_) e) hS' hacc
  rcases List.mem_cons.mp hmem with e' | hmem
  · exact hb e'
  · exact hb2 (List.mem_singleton.mp hmem)
 ) only [↓Dl.qTrue])
theorem Dl_list_ri {Q : Value → Shared → Prop} {I : Addr} {a c : Int} {n : Nat} (hh : A.handled = none) (hI : IsRangeIter s.heap I a n c) (hlen : n ≤ 2 ^ 24)
    (q : ∀ h' tk acc k, (∀ b o, b ≠ I → s.heap.get? b = some o → h'.get? b = some o) → h'.get? s.heap.objs.size = some { cls := .type "list", dict := none, data := .seq acc k, slots := #[] } →
      ItemsOf (fun i v => ∃ t, v = .int (a + i * c) t) acc n → Q (.ref s.heap.objs.size) { s with heap := h', toks := tk }) :
    wpAny (model prog w) A (call (.type "list") [.ref I]) Q E s := Dl.unQ (by
 simp (disch := with_unfolding_all
  refine @id _ ?_
  refine callType_codes (Q₁ := fun obj s₁ => obj = .ref s.heap.objs.size ∧ s₁ = { s with heap := s.heap.push { cls := .type "list", data := .seq #[] } }) F.called_list (F.typeCall_list_1 _) F.entry_list_init (code_list_new _ ⟨rfl, rfl⟩) fun obj s₁ h₁ => ?_
  obtain ⟨rfl, rfl⟩ := h₁
  have hS : (s.heap.push { cls := .type "list", data := .seq #[] }).get? s.heap.objs.size = some { cls := .type "list", data := .seq #[] } := Heap.get?_push_size _ rfl
  refine ⟨⟨_, hS, rfl⟩, F.args_list_init_2 _ _, ?_⟩
  have lt : I < s.heap.objs.size := Heap.lt_size hI
  have ne : s.heap.objs.size ≠ I := fun e => Nat.lt_irrefl _ (e ▸ lt)
  have hI1 : IsRangeIter (s.heap.push { cls := .type "list", data := .seq #[] }) I a n c := Heap.get?_push_of_some _ hI
  show wpAny _ _ (do let old ← Builtin.List.listItems (.ref s.heap.objs.size); Builtin.List.listUpdate (.ref s.heap.objs.size) (fun _ => #[]); letGo old.toList.reverse; Builtin.List.listExtendWith (.ref s.heap.objs.size) (.ref I) .none) _ _ _
  refine wpAny_bind ?_
  unfold Builtin.List.listItems
  refine wpAny_bind (wpAny_seqItems hS rfl (wpAny_pure ?_))
  show wpAny _ _ (updateSeq s.heap.objs.size (fun _ => #[]) >>= fun _ => letGo (#[] : Array Value).toList.reverse >>= fun _ => Builtin.List.listExtendWith (.ref s.heap.objs.size) (.ref I) .none) _ _ _
  refine wpAny_bind (wpAny_updateSeq hS rfl ?_)
  have hS₂ := Heap.get?_update_self (Obj.mapSeq (fun _ => (#[] : Array Value))) hS rfl
  have oth : ∀ b o, b ≠ s.heap.objs.size → (s.heap.push { cls := .type "list", data := .seq #[] }).get? b = some o → ((s.heap.push { cls := .type "list", data := .seq #[] }).update s.heap.objs.size (Obj.mapSeq (fun _ => (#[] : Array Value)))).get? b = some o :=
    fun b o hb e => (Heap.get?_update_other _ _ (Ne.symm hb)).trans e
  refine wpAny_bind (wpAny_letGo ?_)
  refine Dl_extend_ri (A := A.in1) hh (oth I _ (Ne.symm ne) hI1) hlen _ .none _ hS₂ fun h' tk acc k hk hS' hacc => ?_
  exact ⟨rfl, q h' tk acc k (fun b o hb e => hk b o (Nat.ne_of_lt (Heap.lt_size e)) hb (oth b o (Nat.ne_of_lt (Heap.lt_size e)) (Heap.get?_push_of_some _ e))) hS' hacc⟩
 ) only [↓Dl.qTrue])
end
end PySem
namespace L2
open PySem PySem.Spec PyProof.Rows
section
variable {P : Program} {w : World} {A : Around} {E : Value → Shared → Prop} {s : Shared}
abbrev dlE (w : World) : Obj := ⟨.type "set", none, .set #[] 0 (.fresh 0 0 (!w.params.followText "set-order")), #[]⟩
set_option maxRecDepth 100000 in
theorem Dl_set_list {l : Addr} {items : Array Value} (ns : List Int) {Q : Value → Shared → Prop} (nh : A.handled = none) (isl : s.heap.IsList l items) (its : IntsAre items.toList ns) (rm : ns.length + 1 < scanBound)
    (h : ∀ (h' : Heap) (tk c : Nat), SetR w h' s.heap.objs.size (fun j => decide (j ∈ ns)) c → c ≤ ns.length → (∀ b o, s.heap.get? b = some o → h'.get? b = some o) → Q (.ref s.heap.objs.size) { s with heap := h', toks := tk }) :
    wpAny (model P w) A (call (.type "set") [.ref l]) Q E s := Dl.unQ (by
 simp (disch := with_unfolding_all
  refine @id _ ?_
  have szn : items.size = ns.length := by
    have q := IntsAre.length its
    rw [Array.length_toList] at q
    exact q
  obtain ⟨c, tl, mr⟩ := F.called_set.mro
  have md := F.called_set.made
  have sb := F.called_set.sub
  refine wpAny_call (codeAny_of_tree ?_)
  show wpAny _ _ (callAny (.type "set") _) _ _ _
  refine wpAny_pure ⟨Code.quiet_builtin _ (by decide +kernel), codeAny_builtin F.entry_type_call ?_⟩
  rw [Around.under_plain (weight_type_call_type "set" [.ref l] []) rfl]
  have h1 := F.called_set.notType
  have h2 := F.called_set.canCreate
  have ct := F.typeCall_set_1 (.ref l)
  repeat (any_goals (first | assumption | wp_step))

  refine codeAny_mono (code_set_led1 (.ref l) (E := E) (Q₁ := fun obj t1 => obj = .ref s.heap.objs.size ∧ t1 = { s with heap := s.heap.push (dlE w) }) ⟨rfl, rfl⟩) fun r t1 hr => ?_
  cases r with
  | error e => exact hr
  | ok fl =>
    cases fl with
    | ret obj =>
      obtain ⟨rfl, rfl⟩ := hr
      have eS : (s.heap.push (dlE w)).get? s.heap.objs.size = some (dlE w) := Heap.get?_push_size _ rfl
      have eT : Shared.TypeIs { s with heap := s.heap.push (dlE w) } (.ref s.heap.objs.size) "set" := ⟨_, eS, rfl⟩
      have iL := F.called_set.init.lookup
      have iB := F.called_set.init.bind (.ref s.heap.objs.size)
      repeat (any_goals (first | assumption | wp_step))

      refine codeAny_mono (codeAny_call_builtin (R := wants (fun r t2 => r = .none ∧ ∃ h' tk c, t2 = { s with heap := h', toks := tk } ∧ SetR w h' s.heap.objs.size (fun j => decide (j ∈ ns)) c ∧ c ≤ ns.length ∧
          (∀ b o, s.heap.get? b = some o → h'.get? b = some o)) E) F.called_set.init.plain F.entry_set_init (check_set_init_1 eT ?_)) fun r2 t2 hr2 => ?_
      · obtain ⟨ol, go, gc, gn, gd⟩ := isl
        obtain ⟨kC, kD, kd, kS⟩ := ol
        simp only at gc gd
        subst gc; subst gd
        have go' : (s.heap.push (dlE w)).get? l = some { cls := .type "list", dict := kD, data := .seq items gn, slots := kS } := Heap.get?_push_of_some _ go
        have sl1 := F.sub_list_set
        have sl2 := F.sub_list_frozenset
        have nD : (Value.type "list" == Value.type "dict") = false := by decide
        have hm1 : (s.heap.push (dlE w)).IsList l items := ⟨_, go', rfl, gn, rfl⟩
        unfold Builtin.«set.__init__» noKeywords Builtin.Frozenset.updateFrom
        generalize pI : pyIter = PI
        wp_walk
        subst pI

        refine wpAny_pyIter_list hm1 ?_
        refine wpAny_bind (wpAny_runValue ?_)
        have lS : l < s.heap.objs.size := Heap.lt_size go
        have h3 : A.in1.in1.in1.handled = none := by simp [nh]
        have zz : (s.heap.push (dlE w)).objs.size = s.heap.objs.size + 1 := Heap.size_push ..
        have nI : l ≠ (s.heap.push (dlE w)).objs.size := by
          rw [Heap.size_push]; exact Nat.ne_of_lt (Nat.lt_succ_of_lt lS)
        have nf : s.heap.objs.size ∉ [(s.heap.push (dlE w)).objs.size, l] := by
          rw [Heap.size_push]; simp only [List.mem_cons, List.mem_singleton, List.not_mem_nil, or_false, not_or]
          exact ⟨Nat.ne_of_lt (Nat.lt_succ_self _), Nat.ne_of_gt lS⟩
        have vl : ∀ (i : Nat) (v : Value), items[i]? = some v → ∃ k t, ns[i]? = some k ∧ v = .int k t := fun i v hv => by
          have hi : i < ns.length := by rw [← szn]; exact (Array.getElem?_eq_some_iff.mp hv).1
          obtain ⟨t, e⟩ := PyProof.Rows.IntsAre.int_at its i v (by rw [Array.getElem?_toList]; exact hv)
          refine ⟨ns[i], t, List.getElem?_eq_getElem hi, ?_⟩
          rw [e, List.getD_eq_getElem?_getD, List.getElem?_eq_getElem hi] <;> rfl
        refine set_update_ints ((Walks.list h3 _ l nI items).toS) s.heap.objs.size
          nf ns szn rm vl (items.size - 0) 0 _ (by omega) (Nat.zero_le _)
          ⟨⟨_, Heap.get?_push_size _ rfl, rfl, rfl⟩, (hm1.push _)⟩ ?z0 ?zR
        case z0 =>
          have gg : ((s.heap.push (dlE w)).push { cls := .type "list_iterator", data := .fields #[.ref l, .int 0 0] }).get? s.heap.objs.size
              = some (dlE w) := Heap.get?_push_of_some _ eS
          exact ⟨0, Nat.le_refl 0, setR_new_at gg⟩
        case zR =>
          intro s' c' mv hc' eS'
          obtain ⟨h', g2, d', tk', os'⟩ := s'
          have eg : g2 = s.gens := mv.gens
          have ed : d' = s.drawn := mv.drawn
          have eo : os' = s.os := mv.os
          subst eg; subst ed; subst eo
          show wpAny _ _ _ _ _ _
          refine wpAny_pure ?_
          show wpAny _ _ (ret Value.none) _ _ _
          rw [szn] at hc'
          refine wpAny_pure ⟨rfl, h', tk', c', rfl, eS', hc', fun b o e => ?_⟩
          have b0 : b < s.heap.objs.size := Heap.lt_size e
          have b1 : b ≠ s.heap.objs.size := Nat.ne_of_lt b0
          have b2 : b ≠ (s.heap.push (dlE w)).objs.size := by
            rw [Heap.size_push]; exact Nat.ne_of_lt (Nat.lt_succ_of_lt b0)
          exact mv.heap b o (by simp only [List.mem_cons, List.mem_singleton, List.not_mem_nil, or_false, not_or]; exact ⟨b1, b2⟩) (Heap.get?_push_of_some _ (Heap.get?_push_of_some _ e))

      · cases r2 with
        | error e => exact hr2
        | ok fl2 =>
          cases fl2 with
          | ret r =>
            obtain ⟨rfl, h', tk, c', rfl, eS', hc', hk'⟩ := hr2
            repeat (any_goals (first | assumption | wp_step))
            exact h _ _ _ eS' hc' hk'
          | _ => exact hr2.elim
    | _ => exact hr.elim
 ) only [↓Dl.qTrue])
end
variable {X : Cx}
/-- the numbers n - 1 .. 0 -/
def dlDown (n : Nat) : List V := (List.range n).map fun i => V.int ((n : Int) - 1 - (i : Nat))
/-- list(reversed(range(b))) -/
def tRevRg (te : St → Hp → (Int → Int → Hp → Prop) → Prop) : TE := fun σ H Q => te σ H fun a b H1 => a = 0 ∧ 0 ≤ b ∧ b ≤ 1000 ∧ ∀ q, H1 q = none → Q (.ref q) (upd H1 q (.lst (dlDown b.toNat)))
theorem pe_revRg {e : Expr} {te : St → Hp → (Int → Int → Hp → Prop) → Prop} {p p2 pos pos2 : Pos} (hc : X.calm = true) (hg : Gl X "list") (hm : X.mg "list" = none) (hg2 : Gl X "reversed") (hm2 : X.mg "reversed" = none) (he : PRg X e te)
    (na : starEach [e] X.env = (false, eval e X.env) :: starEach [] X.env) : PE X (.Call (.Name "list" p) [.Call (.Name "reversed" p2) [e] [] pos2] [] pos) (tRevRg te) := Dl.unQ (by
 simp (disch := with_unfolding_all
  refine @id _ ?_
  have hs2 : starEach [Expr.Call (.Name "reversed" p2) [e] [] pos2] X.env = (false, eval (.Call (.Name "reversed" p2) [e] [] pos2) X.env) :: starEach [] X.env := rfl
  refine ⟨fun pins s σ H Q I h => ?_⟩
  refine Call_ (ld_blt I hg hm boot_list (PyProof.Rows.callWith_type1 (args_cons ?_ hs2) hs2))
  refine thn (Q := fun u s1 => ∃ (s0 : Shared) (b : Int) (H1 : Hp), u = .ref s0.heap.objs.size ∧ s1 = { s0 with heap := s0.heap.push (rngRevObj 0 b 1) } ∧ Inv X pins σ H1 s0 ∧ 0 ≤ b ∧ b ≤ 1000 ∧ ∀ q, H1 q = none → Q (.ref q) (upd H1 q (.lst (dlDown b.toNat)))) ?_ fun u s1 hx => args_nil ?_
  · refine Call_ (ld_blt I hg2 hm2 PyProof.Rows.boot_reversed (PyProof.Rows.callWith_type1 (args_cons (thn (he pins s σ H _ I h) fun u s1 hx => args_nil ?_) na) na rfl))
    obtain ⟨r, a, b, t, w1, v, H1, rfl, hr, I1, rfl, b0, b1, q⟩ := hx
    exact call_reversed_range hr (smallRev_one (by omega) (by omega) (by omega) (by omega)) ⟨s1, b, H1, rfl, rfl, I1, b0, b1, q⟩
  · obtain ⟨s0, b, H1, rfl, rfl, I1, b0, b1, q⟩ := hx
    have hn : Builtin.Range.rangeSize 0 b 1 = ((b.toNat : Nat) : Int) := by have := rangeSize_nat 0 b; rw [Int.sub_zero] at this; exact this
    have hJ : IsRangeIter (s0.heap.push (rngRevObj 0 b 1)) s0.heap.objs.size ((b.toNat : Int) - 1) ((b.toNat : Nat) : Int) (-1) := by
      have e : rngRevObj 0 b 1 = { cls := .type "range_iterator", data := .fields #[rawInt ((b.toNat : Int) - 1), rawInt ((b.toNat : Nat) : Int), rawInt (-1)] } := by
        unfold rngRevObj
        rw [hn, Int.zero_add, Int.mul_one]
      rw [e]
      exact Heap.get?_push_size _ rfl
    have sz : (s0.heap.push (rngRevObj 0 b 1)).objs.size = s0.heap.objs.size + 1 := by simp [Heap.push]
    refine Dl_list_ri (s := { s0 with heap := s0.heap.push (rngRevObj 0 b 1) }) (I1.ok.hd hc) hJ (by omega) fun h' tk acc k hk hS hi => ?_
    have hS' : h'.get? (s0.heap.objs.size + 1) = some { cls := .type "list", dict := none, data := .seq acc k, slots := #[] } := by rw [← sz]; exact hS
    have old : ∀ b' o, s0.heap.get? b' = some o → h'.get? b' = some o := fun b' o e => hk b' o (Nat.ne_of_lt (Heap.lt_size e)) (Heap.get?_push_of_some _ e)
    refine ⟨.ref (s0.heap.objs.size + 1), upd H1 (s0.heap.objs.size + 1) (.lst (dlDown b.toNat)), I1.laid (t' := tk) old (Nat.le_succ _) ⟨?_, acc.toList, k, ?_, ?_⟩, by rw [← sz]; rfl, q _ (I1.hok.fresh (Nat.le_succ _))⟩
    · unfold dlDown
      rw [List.length_map, List.length_range, sizeLine_eq]; omega
    · have e : acc.toList.length = b.toNat := by rw [Array.length_toList]; exact hi.1
      unfold dlDown
      rw [← e]
      refine vals_of_get acc.toList _ fun j u hj => ?_
      obtain ⟨t, rfl⟩ := hi.2 j u (by rw [← hj, Array.getElem?_toList])
      exact ⟨t, by rw [e]; congr 1; omega⟩
    · rw [Array.toArray_toList]; exact hS'
 ) only [↓Dl.qTrue])
/-- set(xs) of a short list of numbers -/
def rSetLI (K : PySem.W.Frag) (w : World) : List V → Hp → VK → Prop := fun xs H Q => ∃ (l : Addr) (ns : List Int), xs = [V.ref l] ∧ SqL K H l (ns.map V.int) ∧ ns.length < 63 ∧
  ∀ p n, n ≤ ns.length → H p = none → Q (.ref p) (upd H p (SetO w p (fun j => decide (j ∈ ns)) n))
theorem cr_setLI (hc : X.calm = true) : CallR X (.type "set") (rSetLI X.K X.w) := Dl.unQ (by
 simp (disch := with_unfolding_all
  refine @id _ ?_
  intro pins s σ H xs us Q I r h
  obtain ⟨l, ns, rfl, hs, hn, q⟩ := h
  obtain ⟨its, rv, hl, _⟩ := I.list hs
  rw [Vals.ref1 r]
  refine Dl_set_list ns (I.ok.hd hc) hl.isList rv.ints (by have : (64 : Nat) ≤ scanBound := by decide
                                                           omega) fun h' tk c R hcn hk => ?_
  exact ⟨.ref s.heap.objs.size, upd H s.heap.objs.size (SetO X.w s.heap.objs.size (fun j => decide (j ∈ ns)) c), I.laid (t' := tk) hk (Nat.le_refl _) (setO_new R), rfl, q _ c hcn (I.hok.fresh (Nat.le_refl _))⟩
 ) only [↓Dl.qTrue])
/-- sorted(set(e)) -/
def tSrtSet (X : Cx) (te : TE) : TE := tCB (rSortedSet X.w) (tCons (tCB (rSetLI X.K X.w) (tCons te tNil)) tNil)
theorem pe_srtSet {e : Expr} {te : TE} {p p2 pos pos2 : Pos} (hc : X.calm = true) (hg : Gl X "sorted") (hm : X.mg "sorted" = none) (hg2 : Gl X "set") (hm2 : X.mg "set" = none) (he : PE X e te)
    (na : starEach [e] X.env = (false, eval e X.env) :: starEach [] X.env) : PE X (.Call (.Name "sorted" p) [.Call (.Name "set" p2) [e] [] pos2] [] pos) (tSrtSet X te) :=
  pe_callB (cr_sortedSet hc) hg hm (by decide +kernel) (pa_cons (pe_callTy (cr_setLI hc) hg2 hm2 (by decide +kernel) (pa_cons he pa_nil na) (by decide +kernel) (by decide +kernel) na rfl) pa_nil rfl) (by decide +kernel) (by decide +kernel) rfl rfl
end L2
set_option maxRecDepth 100000
set_option maxHeartbeats 4000000
/-! Dl0b: a tuple times 0, 1, ..; xs.count(y) of flat items. -/
namespace L2
open PySem PySem.Spec PyProof.Rows
theorem Dl_tmul1 (l : Addr) (items : Array Value) (n : Nat) (dd : Option Addr) (sl : Array (Option Value)) (u : Tok) :
    Meets (Builtin.«tuple.__mul__» ⟨[.ref l, .int 1 u], []⟩) (fun _ R s => s.heap.get? l = some { cls := .type "tuple", dict := dd, data := .seq items n, slots := sl } ∧ R (.ok (.ret (Value.ref l))) s) :=
  .of_wp fun prog w A R s h => by
    obtain ⟨hp, g, d, tk, os⟩ := s
    obtain ⟨hl, h⟩ := h
    have f1 := AutoSeq1.idx_int
    have c1 : (items.isEmpty || (1 : Int) == 1) = true := by simp
    wp_walk using wpAny_loadPart' hl
    exact ⟨_, rfl, h⟩
theorem Dl_tmul0 (l : Addr) (items : Array Value) (n : Nat) (dd : Option Addr) (sl : Array (Option Value)) (u : Tok) (hi : items.isEmpty = false) :
    Meets (Builtin.«tuple.__mul__» ⟨[.ref l, .int 0 u], []⟩) (fun _ R s => s.heap.get? l = some { cls := .type "tuple", dict := dd, data := .seq items n, slots := sl } ∧ R (.ok (.ret (Value.ref s.heap.objs.size))) { s with heap := s.heap.push { cls := Value.type "tuple", data := Data.seq #[] }, toks := s.toks }) :=
  .of_wp fun prog w A R s h => by
    obtain ⟨hp, g, d, tk, os⟩ := s
    obtain ⟨hl, h⟩ := h
    have f1 := AutoSeq1.idx_int
    wp_walk using wpAny_loadPart' hl
    exact ⟨_, rfl, h⟩
/-- t * k: a once taken tuple is itself -/
def rRepD (K : PySem.W.Frag) : R2 := fun x y H Q => ∃ l k xs, x = .ref l ∧ y = .int k ∧ SqT K H l xs ∧ xs ≠ [] ∧ 0 ≤ k ∧ k ≤ 1000 ∧ xs.length ≤ 1000 ∧ (k = 1 → Q (.ref l) H) ∧ (k ≠ 1 → ∀ p, H p = none → Q (.ref p) (upd H p (.tup (List.replicate k.toNat xs).flatten)))
theorem op_repD {X : Cx} : OpR X (binaryOp .Mult) (rRepD X.K) := Dl.unQ (by
 simp (disch := with_unfolding_all
  refine @id _ ?_
  intro pins s σ H x y v u Q I rx ry h
  obtain ⟨l, k, xs, rfl, rfl, hT, hne, h1, h2, hz, q1, q2⟩ := h
  by_cases hk2 : 2 ≤ k
  · exact op_repT pins s σ H _ _ v u Q I rx ry ⟨l, k, xs, rfl, rfl, hT, hne, hk2, h2, hz, q2 (by omega)⟩
  cases rx
  obtain ⟨t, rfl⟩ := ry
  obtain ⟨its, r, ⟨⟨cls, dd, data, sl⟩, ho, hc, n, hd⟩, hs⟩ := I.tuple hT
  simp only at hc hd
  subst hc hd
  have hle : its.length = xs.length := r.length.symm
  have hi : its.toArray.isEmpty = false := by
    cases its with
    | nil => exact absurd (List.eq_nil_of_length_eq_zero hle.symm) hne
    | cons a b => rfl
  obtain rfl | rfl : k = 0 ∨ k = 1 := by omega
  · refine wpAny_binaryOp_repeat_ref (T := "tuple") (U := "int") (by decide) ⟨_, ho, rfl⟩ (fun s' => typeIs_int s' 0 t) noFill_tuple_mul F.fills_int_mul F.slot_int_rmul repeat_tuple F.slot_int_index.lookup
      (call_meets F.slot_int_rmul (typeIs_int s 0 t) F.entry_int_rmul (F.args_int_rmul_2 _ _) (int_rmul_tuple 0 t l its.toArray n dd sl)
        ⟨ho, rfl, ⟨_, ho, rfl⟩, call_meets F.slot_tuple_mul ⟨_, ho, rfl⟩ F.entry_tuple_mul (F.args_tuple_mul_2 _ _) (Dl_tmul0 l its.toArray n dd sl t hi) ⟨ho, ?_⟩⟩)
    have q := q2 (by decide)
    refine ⟨.ref s.heap.objs.size, _, I.laid (t' := s.toks) (o := .tup []) (fun b ob q => Heap.get?_push_of_some _ q) (Nat.le_refl _) ?_, rfl, q _ (I.hok.fresh (Nat.le_refl _))⟩
    exact ⟨Nat.zero_le _, [], .nil, IsTup.new _ _⟩
  · refine wpAny_binaryOp_repeat_ref (T := "tuple") (U := "int") (by decide) ⟨_, ho, rfl⟩ (fun s' => typeIs_int s' 1 t) noFill_tuple_mul F.fills_int_mul F.slot_int_rmul repeat_tuple F.slot_int_index.lookup
      (call_meets F.slot_int_rmul (typeIs_int s 1 t) F.entry_int_rmul (F.args_int_rmul_2 _ _) (int_rmul_tuple 1 t l its.toArray n dd sl)
        ⟨ho, rfl, ⟨_, ho, rfl⟩, call_meets F.slot_tuple_mul ⟨_, ho, rfl⟩ F.entry_tuple_mul (F.args_tuple_mul_2 _ _) (Dl_tmul1 l its.toArray n dd sl t) ⟨ho, ?_⟩⟩)
    exact ⟨.ref l, H, I, rfl, q1 rfl⟩
 ) only [↓Dl.qTrue])
/-- xs.count(y), flat items -/
def rCntF (K : PySem.W.Frag) : V → List V → Hp → VK → Prop := fun x xs H Q => ∃ (p : Addr) (ys : List V) (y : V), x = .ref p ∧ xs = [y] ∧ SqL K H p ys ∧ flatV y = true ∧ ys.all flatV = true ∧ Q (.int (ys.countP fun z => eqV z y : Nat)) H
theorem mt_countF {X : Cx} : MtR X "list.count" (rCntF X.K) := Dl.unQ (by
 simp (disch := with_unfolding_all
  refine @id _ ?_
  intro pins s σ H x xs v us Q I rx rxs h
  obtain ⟨p, ys, y, rfl, rfl, hs, fy, fys, q⟩ := h
  cases rx
  obtain ⟨uy, rfl, ry⟩ := rxs.one
  obtain ⟨its, rv, ⟨⟨cls, dd, data, sl⟩, n, ho, hc, hdn, hd⟩, hlen⟩ := I.list hs
  simp only at hc hd
  subst hc hd
  refine call_meets PySem.F.slot_list_count ⟨_, ho, rfl⟩ PySem.F.entry_list_count (PySem.F.args_list_count_2 _ _)
    (SeqAt.list_countAt p its.toArray n dd sl uy (eqU y)) ⟨ho, fun u' hu' => mem_eqAt ry fy rv fys u' (by simpa using hu'), ?_⟩
  have ec : its.toArray.toList.countP (eqU y) = ys.countP fun z => eqV z y := by
    have : ∀ {ys : List V} {us : List Value}, Vals ys us → ys.all flatV = true → us.countP (eqU y) = ys.countP fun z => eqV z y := by
      intro ys us r
      induction r with
      | nil => intro _; rfl
      | cons r rr ih =>
        intro f
        simp only [List.all_cons, Bool.and_eq_true] at f
        rw [List.countP_cons, List.countP_cons, ih f.2, eqU_of r f.1]
    simpa using this rv fys
  refine ⟨.int (ys.countP fun z => eqV z y : Nat), H, I.tok _, ⟨s.toks, ?_⟩, q⟩
  show Value.int ((its.toArray.toList.countP (eqU y) : Nat) : Int) s.toks = Value.int ((ys.countP fun z => eqV z y : Nat) : Int) s.toks
  rw [ec]
 ) only [↓Dl.qTrue])
end L2
set_option maxRecDepth 100000
set_option maxHeartbeats 4000000
/-! Dl0c: isinstance of the exception in hand. -/
namespace PySem.W
open PySem PySem.Spec PySem.Calls PyProof.Rows
/-- the class of an exception, asked by __class__: with a dict of its own or without -/
theorem dl_cls_of {prog : Program} {w : World} {A : Around} {E : Value → Shared → Prop} {s : Shared} {K : Frag} {x D : Addr} {ox : Obj} {od : Option Obj} {Q : Option Value → Shared → Prop} (C : L2.ExcC K D) (X : K.In s.heap) (I : InstAt s.heap x ox D od)
    (h : Q (some (.ref D)) { s with toks := s.toks + 1 }) : wpAny (model prog w) A (getAttr? (.ref x) "__class__") Q E s := Dl.unQ (by
 simp (disch := with_unfolding_all
  refine @id _ ?_
  obtain ⟨cd, hcd, _⟩ := any_some C.hd
  have hF : findObj K D od "__class__" = some (.bind (.builtin "getset_descriptor.__get__") (.builtin "object.__class__")) := by
    simp [findObj, hcd, C.ha, C.hn, C.ht]
  obtain ⟨hp, g, d, t, os⟩ := s
  have k0 := I.type (M := model prog w)
  have k1 := looks_findIn (M := model prog w) X C.hg
  have k2 := looks_findIn (M := model prog w) X C.hk
  have k3 := looks_find (M := model prog w) X I hF
  have kb : Looks (model prog w) hp (isInstance (.ref x) (.type "BaseException")) true := k0.andThen (looks_subIn X C.hs)
  unfold getAttr? getAttrBy? getAttrBy
  refine wpAny_bind (wpAny_mkText (wpAny_bind (wpAny_attempt (wpAny_holding (wpAny_bind (k0.at (wpAny_bind (k1.at ?_))))))))
  have no1 : (onTheHeap (.ref D) && Value.builtin "BaseException.__getattribute__" == Value.builtin "object.__getattribute__") = false := by
    rw [show (Value.builtin "BaseException.__getattribute__" == Value.builtin "object.__getattribute__") = false by decide +kernel]
    exact Bool.and_false _
  show wpAny _ _ (if (onTheHeap (.ref D) && Value.builtin "BaseException.__getattribute__" == Value.builtin "object.__getattribute__") = true then _ else _) _ _ _
  rw [no1]
  refine wpAny_ite_false rfl ?_
  unfold getAttrByItsOwn hookBefore
  refine wpAny_bind (wpAny_ite_true rfl (k2.at (wpAny_bind (wpAny_attempt (wpAny_holding ?_)))))
  unfold callGetattribute
  rw [show (false && onTheHeap (Value.builtin "BaseException.__getattribute__")) = false from rfl]
  refine wpAny_ite_false rfl ?_
  unfold boundAndCalled
  rw [PySem.F.excAttr_ValueError.ga.bind (.ref x)]
  refine wpAny_bind (wpAny_pure (?_ : wpAny _ _ (call (.builtin "BaseException.__getattribute__") [.ref x, .str "__class__" t]) _ _ _))
  refine wpAny_call (codeAny_call_builtin PySem.F.excAttr_ValueError.ga.plain PySem.F.entry_bexc_ga ?_)
  have ar := PySem.F.args_bexc_ga (.ref x) (.str "__class__" t)
  refine @check_slot (model prog w) _ _ ⟨hp, g, d, t + 1, os⟩ "BaseException.__getattribute__" "BaseException" "__getattribute__" (.ref x) _ [] _ (by decide +kernel) (by decide +kernel) kb ar ?_
  unfold Builtin.«object.__getattribute__»
  refine wpAny_bind (wpAny_of_eq (a := ((Value.ref x : Value), [Value.str "__class__" t])) (by simp only [slotArgs]; rfl) ?_)
  refine wpAny_bind (wpAny_pure (wpAny_bind (k0.at (wpAny_bind (k3.at (?_ : wpAny _ _ (holding [Value.builtin "object.__class__"] (call (.builtin "getset_descriptor.__get__") [.builtin "object.__class__", .ref x, .ref D]) >>= ret) _ _ _))))))
  refine wpAny_bind (wpAny_holding (wpAny_call ?_))
  refine class_get (s := ⟨hp, g, d, t + 1, os⟩) (tp := .ref D) X I C.hm ?_
  refine wpAny_pure (?_ : wpAny _ _ (handedOut (.ref D)) _ _ _)
  rw [handedOut_of (v := .ref D) rfl]
  first
    | exact wpAny_pure (wpAny_pure h)
    | exact wpAny_pure h
    | exact wpAny_pure (wpAny_bind (wpAny_pure (wpAny_pure h)))
 ) only [↓Dl.qTrue])
theorem dl_kitx {K : Frag} {x D : Addr} {ox : Obj} {od : Option Obj} (C : L2.ExcC K D) : KitX K (.ref x) (.ref D) (fun h => InstAt h x ox D od) := Dl.unQ (by
 simp (disch := with_unfolding_all
  refine @id _ ?_
  obtain ⟨cd, hcd, _⟩ := any_some C.hd
  obtain ⟨c1, d1, cd1, sl1, hl⟩ : ∃ c1 d1 cd1 sl1, K.lookup D = some ⟨c1, d1, .cls cd1, sl1⟩ := by
    unfold clsIn at hcd
    split at hcd
    · rename_i q; exact ⟨_, _, _, _, q⟩
    · cases hcd
  refine ⟨fun _ _ _ I => I.type, fun _ _ X _ A Q E s k q => ?_, fun h tp dd its n sl X htp => ?_, fun X I q => dl_cls_of C X I q⟩
  · unfold isType loadHead
    exact wpAny_bind (wpAny_loadPart (k _ _ (X _ _ hl)) (wpAny_pure q))
  · cases e : (Value.ref D == Value.ref tp) with
    | false => rfl
    | true =>
      cases Value.ref.inj (beq_iff_eq.mp e)
      have z := (X _ _ hl).symm.trans htp
      cases z
 ) only [↓Dl.qTrue])
end PySem.W
namespace L2
open PySem PySem.Spec PyProof.Rows
/-- the exception in hand, as the state bears it -/
theorem dl_inst {X : Cx} {a D : Addr} {oe : Obj} {d : Option Addr} {pn pins : List (Addr × Obj)} {σ : List (Option V)} {H : Hp} {s : Shared} (I : Inv (X.suite a ((a, oe) :: pn)) pins σ H s) (hz : Zc (.ref D) d oe) (hf : ∃ vs, oe.data = .fields vs) (hd : ∀ p, d = some p → ∃ o, s.heap.get? p = some o) :
    ∃ od, PySem.W.InstAt s.heap a oe D od := Dl.unQ (by
 simp (disch := with_unfolding_all
  refine @id _ ?_
  obtain ⟨hget, _⟩ := I.pin (a, oe) (List.mem_append.mpr (.inl List.mem_cons_self))
  obtain ⟨vs, hv⟩ := hf
  obtain ⟨oc, o2, oda, osl⟩ := oe
  obtain ⟨z1, z2⟩ := hz
  dsimp only at z1 z2 hv
  subst z1 z2 hv
  cases o2 with
  | none => exact ⟨none, hget, rfl, rfl, trivial⟩
  | some p =>
    obtain ⟨o, ho⟩ := hd p rfl
    exact ⟨some o, hget, rfl, rfl, ho⟩
 ) only [↓Dl.qTrue])
/-- isinstance(e, c) and isinstance(e, (c1, ..)), e the exception in hand, d its dict -/
def rIsX (K : PySem.W.Frag) (D a : Addr) (d : Option Addr) : List V → Hp → VK → Prop := fun xs H Q => (∀ p, d = some p → ∃ l, H p = some (.xd l)) ∧
  ((∃ (c : V) (cv : Value) (b : Bool), xs = [.ref a, c] ∧ (∀ u, RelV c u → u = cv) ∧ PySem.W.kitOne K (.ref D) cv = some b ∧ Q (.bl b) H) ∨
  ∃ (tp : Addr) (cs : List V) (us : List Value) (b : Bool), xs = [.ref a, .ref tp] ∧ H tp = some (.tup cs) ∧ Paired ClsV cs us ∧ PySem.W.kitAny K (.ref D) us = some b ∧ Q (.bl b) H)
theorem call_isX {X : Cx} {a D : Addr} {oe : Obj} {d : Option Addr} {pn : List (Addr × Obj)} (C : ExcC X.K D) (hz : Zc (.ref D) d oe) (hf : ∃ vs, oe.data = .fields vs) : CallR (X.suite a ((a, oe) :: pn)) (.builtin "isinstance") (rIsX X.K D a d) := Dl.unQ (by
 simp (disch := with_unfolding_all
  refine @id _ ?_
  intro pins s σ H xs us Q I r h
  obtain ⟨hd, h⟩ := h
  obtain ⟨od, J⟩ := dl_inst I hz hf fun p hp => by
    obtain ⟨l, hl⟩ := hd p hp
    exact objOk_get (I.hok p _ hl)
  rcases h with ⟨c, cv, b, rfl, hcv, e, q⟩ | ⟨tp, cs, ws, b, rfl, hT, k, e, q⟩
  · obtain ⟨u1, u2, rfl, r1, r2⟩ := vals2 r
    cases (show u1 = Value.ref a from r1)
    cases hcv _ r2
    exact PySem.W.kia_one (PySem.W.dl_kitx C) I.kIn J e (fun z => nomatch z) fun tk => ⟨.bl b, H, I.kept (t' := tk) fun _ _ z => z, rfl, q⟩
  · obtain ⟨u1, u2, rfl, r1, r2⟩ := vals2 r
    cases (show u2 = Value.ref tp from r2)
    cases (show u1 = Value.ref a from r1)
    obtain ⟨_, its, rv, o, h1, h2, n, h3⟩ := (show ObjOk X.prog X.w H s.heap tp (.tup cs) from I.hok tp _ hT)
    have e3 := ClsV.all k rv
    subst e3
    obtain ⟨oc, od, dt, sl⟩ := o
    simp only at h2 h3
    subst h2 h3
    exact PySem.W.kia_tup (PySem.W.dl_kitx C) I.kIn J h1 e (fun z => nomatch z) fun tk => ⟨.bl b, H, I.kept (t' := tk) fun _ _ z => z, rfl, q⟩
 ) only [↓Dl.qTrue])
end L2
set_option maxRecDepth 100000
/-! Dl1: plain data over the hand layer's heap; a small tree of our own for Python's constructs; what such a tree asks. -/
namespace Dl
open PySem PySem.Spec PyProof.Rows L2
/-- plain data: None, truth values, numbers, texts, tuples; a list or an instance by its address; the script (read only) -/
inductive D where
  | non | bl (b : Bool) | int (i : Int) | str (x : Str) | ref (a : Addr) | ty (n : String) | fn (x : Str) | tup (xs : List D) | rol (xs : List D) | xc (a : Addr) (dd : Option Addr) (ns : List Str) (ds : List D)
/-- what changes -/
inductive GO where
  | lst (xs : List D)
  | ins (C : Str) (fs : List (Str × D))
  | dk (kvs : List (Key × D))
  | tbl (x : Str)
  | cod (x : Str) (cs : List (D × V))
abbrev GH := Addr → Option GO
def gup (G : GH) (a : Addr) (o : GO) : GH := fun b => if b = a then some o else G b
theorem gup_same {G : GH} {a : Addr} {o : GO} : gup G a o a = some o := by unfold gup; rw [if_pos rfl]
theorem gup_ne {G : GH} {a b : Addr} {o : GO} (h : b ≠ a) : gup G a o b = G b := by unfold gup; rw [if_neg h]
theorem gup_gup {G : GH} {a : Addr} {o u : GO} : gup (gup G a o) a u = gup G a u := by
  funext b; unfold gup; split <;> rfl
/-- less is known -/
def Le (G G' : GH) : Prop := ∀ a o, G a = some o → G' a = some o
theorem Le.refl (G : GH) : Le G G := fun _ _ h => h
theorem Le.trans {G1 G2 G3 : GH} (a : Le G1 G2) (b : Le G2 G3) : Le G1 G3 := fun c o h => b c o (a c o h)
theorem Le.new {G : GH} {p : Addr} {o : GO} (h : G p = none) : Le G (gup G p o) := fun b u e => by
  rw [gup_ne]
  · exact e
  · intro z; subst z; rw [h] at e; cases e
theorem Le.gup {G G' : GH} {p : Addr} {o : GO} (h : Le G G') (n : G p = none) : Le G (gup G' p o) := fun b u e => by
  rw [gup_ne]
  · exact h b u e
  · intro z; subst z; rw [n] at e; cases e
theorem Le.gup2 {G G' : GH} {p : Addr} {o : GO} (h : Le G G') : Le (Dl.gup G p o) (Dl.gup G' p o) := fun b u e => by
  unfold Dl.gup at e ⊢
  split at e
  · rename_i z; rw [if_pos z]; exact e
  · rename_i z; rw [if_neg z]; exact h b u e
/-- the program's own exceptions, by number -/
def cn : Nat → Str
  | 0 => "DrumError" | 1 => "BadMachine" | 2 => "BadDeed" | 3 => "BadBook" | 4 => "BadValue" | 5 => "Stuck" | 6 => "TooSmall" | _ => ""
/-- which is which: 100 stands for the built-in one -/
def subC (a b : Nat) : Bool := a == b || b == 0 || b == 100
/-- an exception: its class's number, its fields -/
structure Exn where
  cls : Nat
  ns : List Str := []
  ds : List D := []
abbrev SD := List (Option D)
abbrev QD := D → GH → Prop
abbrev XD := Exn → GH → Prop
abbrev Spec := List D → GH → QD → XD → Prop
/-- what runs at a place, given what is wanted -/
abbrev Run := QD → XD → GH → Prop
/-- a def that is handed a lambda -/
abbrev LSpec := Run → GH → QD → XD → Prop
/-- weakened: some part of what is known suffices -/
def wk (P : GH → Prop) (G : GH) : Prop := ∃ G', Le G' G ∧ P G'
theorem wk.of {P : GH → Prop} {G : GH} (h : P G) : wk P G := ⟨G, Le.refl G, h⟩
/-! ### data by value -/
section
variable {κ : Type} [DecidableEq κ]
def valD (kvs : List (κ × D)) (k : κ) : Option D := (kvs.find? fun kv => decide (kv.1 = k)).map (·.2)
def putD (kvs : List (κ × D)) (k : κ) (v : D) : List (κ × D) :=
  if (kvs.any fun kv => decide (kv.1 = k)) = true then kvs.map (fun kv => if kv.1 = k then (kv.1, v) else kv) else kvs ++ [(k, v)]
end
def putFD (f : Str) (v : D) : List (Str × D) → List (Str × D)
  | [] => [(f, v)]
  | (g, x) :: r => if g = f then (g, v) :: r else (g, x) :: putFD f v r
/-- a dict's key -/
def keyD : D → Option Key
  | .int i => some (.inl i)
  | .str x => some (.inr x)
  | _ => none
def keyV : Key → D
  | .inl i => .int i
  | .inr x => .str x
def D.isNon : D → Bool
  | .non => true
  | _ => false
def flatD : D → Bool
  | .non | .bl _ | .int _ | .str _ => true
  | _ => false
def vOf : D → V
  | .non => .non
  | .bl b => .bl b
  | .int i => .int i
  | .str x => .str x
  | .ref a => .ref a
  | .ty n => .ty n
  | _ => .non
mutual
/-- as the model's plain data; r reads what stands at an address -/
def pyD (r : Addr → Option PyData) : D → Option PyData
  | .non => some .none
  | .bl b => some (.bool b)
  | .int i => some (.int i)
  | .str x => some (.str x)
  | .tup ds => match pyDs r ds with | some l => some (.tuple l) | none => none
  | .rol ds => match pyDs r ds with | some l => some (.list l) | none => none
  | .ref a => r a
  | .ty _ => none
  | .fn _ => none
  | .xc _ _ _ _ => none
def pyDs (r : Addr → Option PyData) : List D → Option (List PyData)
  | [] => some []
  | d :: ds => match pyD r d with
    | some x => match pyDs r ds with | some l => some (x :: l) | none => none
    | none => none
end
def rdG : Nat → GH → Addr → Option PyData
  | 0, _, _ => none
  | n + 1, G, a => match G a with
    | some (.lst ds) => match pyDs (rdG n G) ds with | some l => some (.list l) | none => none
    | _ => none
def pyG (G : GH) (d : D) : Option PyData := pyD (rdG 3 G) d
def eqD (x y : D) (G : GH) (k : Bool → Prop) : Prop := match pyG G x, pyG G y with
  | some d, some e => SeqAt.shaped d = true ∧ SeqAt.shaped e = true ∧ k (PyData.eqv d e)
  | _, _ => False
def itemsD (x : D) (G : GH) : Option (List D) := match x with
  | .tup xs => some xs
  | .rol xs => some xs
  | .ref a => match G a with | some (.lst xs) => some xs | _ => none
  | _ => none
def MulOk (i j : Int) : Prop := CMul i j ∨ CMulW i j
def newL (xs : List D) (G : GH) (Q : QD) : Prop := ∀ p, G p = none → Q (.ref p) (gup G p (.lst xs))
/-- a two-place operator -/
def opD (op : Operator) (x y : D) (G : GH) (Q : QD) : Prop := match op, x, y with
  | .Add, .int i, .int j => Q (.int (i + j)) G
  | .Add, .tup a, .tup b => a.length + b.length ≤ sizeLine ∧ Q (.tup (a ++ b)) G
  | .Add, .ref a, .ref b => match G a, G b with
    | some (.lst xs), some (.lst ys) => xs.length + ys.length ≤ sizeLine ∧ newL (xs ++ ys) G Q
    | _, _ => False
  | .Add, .str a, .str b => a.length + b.length ≤ sizeLine ∧ Q (.str (a ++ b)) G
  | .Mult, .tup xs, .int k => xs ≠ [] ∧ 0 ≤ k ∧ k ≤ 1000 ∧ xs.length ≤ 1000 ∧ Q (.tup (List.replicate k.toNat xs).flatten) G
  | .Sub, .int i, .int j => Q (.int (i - j)) G
  | .Mult, .int i, .int j => MulOk i j ∧ Q (.int (i * j)) G
  | .FloorDiv, .int i, .int j => CDivW i j ∧ Q (.int (i / j)) G
  | .Mod, .int i, .int j => 0 < j ∧ Q (.int (i % j)) G
  | .Pow, .int i, .int j => CPow i j ∧ Q (.int (i ^ j.toNat)) G
  | _, _, _ => False
def negD (x : D) (G : GH) (Q : QD) : Prop := match x with
  | .int i => Q (.int (-i)) G
  | _ => False
/-- truth -/
def truD (x : D) (G : GH) (k : Bool → Prop) : Prop := match x with
  | .non => k false
  | .bl b => k b
  | .int i => k (i != 0)
  | .tup xs => k (!xs.isEmpty)
  | .ref a => match G a with | some (.lst xs) => k (!xs.isEmpty) | _ => False
  | _ => False
def inD (neg : Bool) (x y : D) (G : GH) (Q : QD) : Prop := match y with
  | .str j => match x with
    | .str i => if neg = true then Q (.bl (!(!(Builtin.Str.occurrences j i 0 j.length 1).isEmpty))) G else Q (.bl (!(Builtin.Str.occurrences j i 0 j.length 1).isEmpty)) G
    | _ => False
  | _ => match itemsD y G with
    | some xs => flatD x = true ∧ xs.all flatD = true ∧ Q (.bl (if neg = true then !inV (vOf x) (xs.map vOf) else inV (vOf x) (xs.map vOf))) G
    | none => False
/-- two dicts at addresses -/
def dk2 (x y : D) (G : GH) : Option (List (Key × D) × List (Key × D)) := match x, y with
  | .ref a, .ref b => match G a, G b with | some (.dk ks), some (.dk ls) => some (ks, ls) | _, _ => none
  | _, _ => none
/-- whether the pairs of the one are the other's; none where a value is no plain data -/
def hitsD (G : GH) (ls : List (Key × D)) : List (Key × D) → Option Bool
  | [] => some true
  | (k, v) :: r => match valD ls k with
    | none => some false
    | some u => match pyG G v, pyG G u, hitsD G ls r with
      | some d, some e, some b => if (SeqAt.shaped d && SeqAt.shaped e) = true then some (PyData.eqv d e && b) else none
      | _, _, _ => none
def eqX (x y : D) (G : GH) (k : Bool → Prop) : Prop := match dk2 x y G with
  | some (ks, ls) => match hitsD G ls ks with | some b => k (ks.length == ls.length && b) | none => False
  | none => eqD x y G k
def cmpD (op : CmpOp) (x y : D) (G : GH) (Q : QD) : Prop := match op with
  | .Eq => eqX x y G fun b => Q (.bl b) G
  | .NotEq => eqX x y G fun b => Q (.bl (!b)) G
  | .Lt => match x, y with | .int i, .int j => Q (.bl (decide (i < j))) G | _, _ => False
  | .LtE => match x, y with | .int i, .int j => Q (.bl (decide (i ≤ j))) G | _, _ => False
  | .Gt => match x, y with | .int i, .int j => Q (.bl (decide (j < i))) G | _, _ => False
  | .GtE => match x, y with | .int i, .int j => Q (.bl (decide (j ≤ i))) G | _, _ => False
  | .Is => match y with | .non => Q (.bl x.isNon) G | _ => False
  | .IsNot => match y with | .non => Q (.bl (!x.isNon)) G | _ => False
  | .In => inD false x y G Q
  | .NotIn => inD true x y G Q
/-- o[i], a text's or a dict's -/
def ixE (x y : D) (G : GH) (Q : QD) : Prop := match x with
  | .str z => match y with
    | .int i => z.length ≤ sizeLine ∧ (match atI z.cps.toList i with | some c => Q (.str ⟨#[c]⟩) G | none => False)
    | _ => False
  | .ref a => match G a with
    | some (.dk kvs) => match keyD y with
      | some k => match valD kvs k with | some d => Q d G | none => False
      | none => False
    | _ => False
  | _ => False
/-- o[i] -/
def ixD (x y : D) (G : GH) (Q : QD) : Prop := match itemsD x G with
  | some xs => match y with
    | .int i => match atI xs i with | some v => Q v G | none => False
    | _ => False
  | none => ixE x y G Q
def cutD (xs : List D) (lo hi : Option Int) : List D := (xs.drop (HT.sIx xs.length 0 lo)).take (HT.sIx xs.length xs.length hi - HT.sIx xs.length 0 lo)
def slD (x : D) (lo hi : Option Int) (G : GH) (Q : QD) : Prop := match x with
  | .tup xs => Q (.tup (cutD xs lo hi)) G
  | .str z => z.length ≤ sizeLine ∧ Q (.str (cutS z lo hi)) G
  | .ref a => match G a with | some (.lst xs) => newL (cutD xs lo hi) G Q | _ => False
  | _ => False
def setD (o i v : D) (G : GH) (Q : GH → Prop) : Prop := match o with
  | .ref a => match G a with
    | some (.lst xs) => match i with
      | .int k => match ixN xs.length k with | some j => Q (gup G a (.lst (xs.set j v))) | none => False
      | _ => False
    | some (.dk kvs) => match keyD i with
      | some k => kvs.length < sizeLine ∧ Q (gup G a (.dk (putD kvs k v)))
      | none => False
    | _ => False
  | _ => False
/-- built-in functions and types, called -/
inductive Bf where
  | len | max | min | list | tuple | sorted | int | sum | dict
  deriving DecidableEq
def lenD (xs : List D) (G : GH) (Q : QD) : Prop := match xs with
  | [.str z] => z.length ≤ sizeLine ∧ Q (.int z.length) G
  | [x] => match itemsD x G with
    | some xs => Q (.int xs.length) G
    | none => match x with
      | .ref a => match G a with | some (.dk kvs) => Q (.int kvs.length) G | _ => False
      | _ => False
  | _ => False
def maxD (xs : List D) (G : GH) (Q : QD) : Prop := match xs with
  | [.int i, .int j] => Q (.int (if j > i then j else i)) G
  | [.ref a] => match G a with
    | some (.lst ys) => ∃ ns : List Int, ys = ns.map .int ∧ 0 < ns.length ∧ ∀ m, m ∈ ns → (∀ j, j ∈ ns → j ≤ m) → Q (.int m) G
    | _ => False
  | _ => False
def minD (xs : List D) (G : GH) (Q : QD) : Prop := match xs with
  | [.int i, .int j] => Q (.int (if j < i then j else i)) G
  | [.ref a] => match G a with
    | some (.lst ys) => ∃ ns : List Int, ys = ns.map .int ∧ 0 < ns.length ∧ ∀ m, m ∈ ns → (∀ j, j ∈ ns → m ≤ j) → Q (.int m) G
    | _ => False
  | _ => False
def intD (xs : List D) (G : GH) (Q : QD) : Prop := match xs with
  | [.int i] => Q (.int i) G
  | [.bl b] => Q (.int (if b then 1 else 0)) G
  | _ => False
def sumD (xs : List D) (G : GH) (Q : QD) : Prop := match xs with
  | [.ref a] => match G a with
    | some (.lst ys) => ∃ ns : List Int, ys = ns.map .int ∧ Q (.int ns.sum) G
    | _ => False
  | _ => False
def dictD (xs : List D) (G : GH) (Q : QD) : Prop := match xs with
  | [.ref a] => match G a with
    | some (.dk kvs) => ∀ p, G p = none → Q (.ref p) (gup G p (.dk kvs))
    | _ => False
  | _ => False
def listD (xs : List D) (G : GH) (Q : QD) : Prop := match xs with
  | [x] => match itemsD x G with
    | some xs => newL xs G Q
    | none => match x with
      | .ref a => match G a with | some (.dk kvs) => newL (kvs.map fun p => keyV p.1) G Q | _ => False
      | _ => False
  | _ => False
def tupleD (xs : List D) (G : GH) (Q : QD) : Prop := match xs with
  | [.tup xs] => Q (.tup xs) G
  | [.ref a] => match G a with | some (.lst xs) => Q (.tup xs) G | _ => False
  | _ => False
def sortedD (xs : List D) (G : GH) (Q : QD) : Prop := match xs with
  | [.ref a] => match G a with
    | some (.lst ys) => (∃ ns : List Int, ys = ns.map .int ∧ ns.length < 64 ∧ ∀ ns' : List Int, ns'.Perm ns → ns'.Pairwise (· ≤ ·) → newL (ns'.map .int) G Q) ∨
        (∃ ss : List Str, ys = ss.map .str ∧ ss.length < 64 ∧ ∀ ss' : List Str, ss'.Perm ss → sortedS ss' = true → newL (ss'.map .str) G Q)
    | _ => False
  | _ => False
def bfD (f : Bf) (xs : List D) (G : GH) (Q : QD) : Prop := match f with
  | .len => lenD xs G Q
  | .max => maxD xs G Q
  | .min => minD xs G Q
  | .list => listD xs G Q
  | .tuple => tupleD xs G Q
  | .sorted => sortedD xs G Q
  | .int => intD xs G Q
  | .sum => sumD xs G Q
  | .dict => dictD xs G Q
/-- methods of built-in types -/
inductive Bm where
  | append | pop | count | index | reverse | get
  deriving DecidableEq
def appD (x : D) (xs : List D) (G : GH) (Q : QD) : Prop := match x, xs with
  | .ref a, [y] => match G a with
    | some (.lst xs) => xs.length < sizeLine ∧ Q .non (gup G a (.lst (xs ++ [y])))
    | _ => False
  | _, _ => False
def popD (x : D) (xs : List D) (G : GH) (Q : QD) : Prop := match x, xs with
  | .ref a, [.int i] => match G a with
    | some (.lst xs) => -(2 ^ 63) ≤ i ∧ i < 2 ^ 63 ∧ ∃ k y, seqIndex? i xs.length = some k ∧ xs[k]? = some y ∧ Q y (gup G a (.lst (xs.eraseIdx k)))
    | _ => False
  | _, _ => False
def cntD (x : D) (xs : List D) (G : GH) (Q : QD) : Prop := match x, xs with
  | .ref a, [y] => match G a with
    | some (.lst xs) => flatD y = true ∧ xs.all flatD = true ∧ Q (.int ((xs.map vOf).countP fun z => eqV z (vOf y) : Nat)) G
    | _ => False
  | _, _ => False
def idxD (x : D) (xs : List D) (G : GH) (Q : QD) : Prop := match x, xs with
  | .ref a, [y] => match G a with
    | some (.lst xs) => flatD y = true ∧ xs.all flatD = true ∧ ∃ j z, (xs.map vOf)[j]? = some z ∧ eqV z (vOf y) = true ∧ (∀ m z', m < j → (xs.map vOf)[m]? = some z' → eqV z' (vOf y) = false) ∧ Q (.int (j : Nat)) G
    | _ => False
  | _, _ => False
def revMD (x : D) (xs : List D) (G : GH) (Q : QD) : Prop := match x, xs with
  | .ref a, [] => match G a with
    | some (.lst xs) => Q .non (gup G a (.lst xs.reverse))
    | _ => False
  | _, _ => False
def getD2 (x : D) (xs : List D) (G : GH) (Q : QD) : Prop := match x, xs with
  | .ref a, [y, z] => match G a with
    | some (.dk kvs) => match keyD y with | some k => Q ((valD kvs k).getD z) G | none => False
    | _ => False
  | _, _ => False
def bmD (m : Bm) (x : D) (xs : List D) (G : GH) (Q : QD) : Prop := match m with
  | .append => appD x xs G Q
  | .pop => popD x xs G Q
  | .count => cntD x xs G Q
  | .index => idxD x xs G Q
  | .reverse => revMD x xs G Q
  | .get => getD2 x xs G Q
/-- the receiver is of the method's type -/
def isLst (x : D) (G : GH) : Prop := match x with
  | .ref a => match G a with | some (.lst _) => True | _ => False
  | _ => False
def isDct (x : D) (G : GH) : Prop := match x with
  | .ref a => match G a with | some (.dk _) => True | _ => False
  | _ => False
def bmT (m : Bm) (x : D) (G : GH) : Prop := match m with
  | .get => isDct x G
  | _ => isLst x G
/-- isinstance(x, T), T a built-in type, by the value's own type -/
def tyD (x : D) (G : GH) : Option String := match x with
  | .non => some "NoneType"
  | .bl _ => some "bool"
  | .int _ => some "int"
  | .str _ => some "str"
  | .tup _ => some "tuple"
  | .ref a => match G a with | some (.lst _) => some "list" | _ => none
  | _ => none
/-- e.f -/
def fldD (C f : Str) (x : D) (G : GH) (Q : QD) : Prop := match x with
  | .ref a => match G a with
    | some (.ins C' fs) => C' = C ∧ (match fs.lookup f with | some d => Q d G | none => False)
    | _ => False
  | _ => False
/-- e.f = v -/
def attD (C f : Str) (x v : D) (G : GH) (Q : GH → Prop) : Prop := match x with
  | .ref a => match G a with
    | some (.ins C' fs) => C' = C ∧ fs.length < 1000 ∧ Q (gup G a (.ins C (putFD f v fs)))
    | _ => False
  | _ => False
/-- o is an instance of C without an own attribute m -/
def mthD (C m : Str) (x : D) (G : GH) : Prop := match x with
  | .ref a => match G a with
    | some (.ins C' fs) => C' = C ∧ fs.lookup m = none
    | _ => False
  | _ => False
/-- {k: v, ..}, later ones win -/
def mergeD (kvs more : List (Key × D)) : List (Key × D) := more.foldl (fun acc kv => putD acc kv.1 kv.2) kvs
/-! ### the tree -/
mutual
inductive Ex where
  | var (i : Nat) | non | bl (b : Bool) | int (i : Int) | str (s : Str) | glob (g : Nat)
  | tup (es : Exs) | lst (es : Exs)
  | bin (op : Operator) (a b : Ex) | neg (a : Ex) | nt (a : Ex)
  | cmp (op : CmpOp) (a b : Ex) | cmp2 (op op' : CmpOp) (a b c : Ex)
  | boo (op : BoolOp) (es : Exs) | ife (t a b : Ex)
  | ix (a i : Ex) | slc (a : Ex) (lo hi : Exo)
  | call (f : Nat) (es : Exs) | blt (f : Bf) (es : Exs) | met (m : Bm) (o : Ex) (es : Exs)
  | isi (a : Ex) (T : String) | sset (a : Ex) | lrr (a : Ex) | isx (i : Nat) (ks : List Nat) (tp : Bool)
  | gfn (x : Str) | cal (e : Ex) (cs : List (Str × Nat)) (es : Exs) | dsp (ks : List Str) (es : Exs)
  | fld (e : Ex) (C f : Str) | mth (C m : Str) (g : Nat) (o : Ex) (es : Exs) | mk (C : Str) (g : Nat) (es : Exs)
  | xat (i : Nat) (f : Str) | act (i : Nat) | lamc (x : Str) (g : Nat) (b : Ex)
  | comp (e : Ex) (t : Tg) (it : It) (ifs : Exs) (own : List (Str × Nat))
inductive Exs where
  | nil | cons (e : Ex) (es : Exs)
inductive Exo where
  | none | some (e : Ex)
inductive It where
  | val (e : Ex) | rng (a : Ex) | rng2 (a b : Ex) | enu (e : Ex) | rev (e : Ex)
inductive Tg where
  | name (i : Nat) | tup (ts : Tgs) | sub (o i : Ex) | att (o : Ex) (C f : Str)
inductive Tgs where
  | nil | cons (t : Tg) (ts : Tgs)
end
mutual
inductive Sm where
  | nev | rai0 (c : Nat) | rai (c : Nat) (es : Exs) | exp (e : Ex) | ret (e : Ex) | retN | asg (t : Tg) (e : Ex) | asc (i : Nat) (e : Ex)
  | ifs (t : Ex) (a b : Sms) | fors (t : Tg) (it : It) (body : Sms) | whl (t : Ex) (body : Sms)
  | pas | brk | cnt
inductive Sms where
  | nil | cons (s : Sm) (r : Sms)
end
def Exs.len : Exs → Nat
  | .nil => 0
  | .cons _ es => es.len + 1
def Tgs.len : Tgs → Nat
  | .nil => 0
  | .cons _ es => es.len + 1
/-- what is known of the module's names; the exception in hand (its place, its class); what the handed callable does -/
structure Gam where
  v : Nat → Option D
  x : Option (Addr × Nat × Option Addr) := none
  act : Option (Addr × Addr × Str × List (D × V) × Run) := none
  me : Option Str := none
  all : List Nat := []
  l : Nat → Option LSpec := fun _ => none
  /-- what a lambda's body does, by the slots -/
  lw : Ex → SD → Run := fun _ _ _ _ _ => False
instance : CoeFun Gam (fun _ => Nat → Option D) := ⟨Gam.v⟩
/-- what is walked: its items, and what must stay so -/
structure Wk where
  xs : List D
  keep : GH → Prop
def wipeD (σ : SD) : List Nat → SD
  | [] => σ
  | v :: vs => (wipeD σ vs).set v none
def charsD (s : Str) : List D := s.cps.toList.map fun c => .str ⟨#[c]⟩
def noX : XD := fun _ _ => False
def walkD (d : D) (G : GH) (Q : Wk → Prop) : Prop := match d with
  | .tup xs => Q ⟨xs, fun _ => True⟩
  | .rol xs => Q ⟨xs, fun _ => True⟩
  | .str s => Q ⟨charsD s, fun _ => True⟩
  | .ref a => match G a with | some (.lst xs) => Q ⟨xs, fun G => G a = some (.lst xs)⟩ | _ => False
  | _ => False
def rangeD (i j : Int) : List D := (List.range (j - i).toNat).map fun k => .int (i + (k : Nat))
def enumD : Int → List D → List D
  | _, [] => []
  | k, d :: ds => .tup [.int k, d] :: enumD (k + 1) ds
/-- a comprehension's turns: body gives an item, or none where a test lets it out; p is the new list -/
def compW (W : Wk) (p : Addr) (body : D → GH → (Option D → GH → Prop) → Prop) (G1 : GH) (Q : QD) : Prop :=
  ∃ I : Nat → GH → Prop, I 0 (gup G1 p (.lst [])) ∧ (∀ i G, I i G → W.keep G) ∧
    (∀ i G d, I i G → W.xs[i]? = some d → body d G fun o G4 => match o with
      | some y => ∃ acc, G4 p = some (.lst acc) ∧ acc.length < sizeLine ∧ wk (I (i + 1)) (gup G4 p (.lst (acc ++ [y])))
      | none => wk (I (i + 1)) G4) ∧
    (∀ G, I W.xs.length G → Q (.ref p) G)
/-- a for's turns -/
def forW (W : Wk) (body : D → SD → GH → (SD → GH → Prop) → Prop) (σ : SD) (G1 : GH) (nx : SD → GH → Prop) : Prop :=
  ∃ I : Nat → SD → GH → Prop, I 0 σ G1 ∧ (∀ i σ G, I i σ G → W.keep G) ∧ (∀ i σ G d, I i σ G → W.xs[i]? = some d → body d σ G fun σ' => wk (I (i + 1) σ')) ∧ (∀ σ G, I W.xs.length σ G → nx σ G)
/-- a while's turns: body is given its way on and its way out -/
def whlW (body : SD → GH → (SD → GH → Prop) → (SD → GH → Prop) → Prop) (σ : SD) (G : GH) (nx : SD → GH → Prop) : Prop :=
  ∃ I : Nat → SD → GH → Prop, (∃ m, I m σ G) ∧ ∀ m σ G, I m σ G → body σ G (fun σ' => wk fun G' => ∃ m', m' < m ∧ I m' σ' G') nx
section
variable (Δ : Nat → Option Spec) (Γ : Gam)
mutual
def wpE : Ex → XD → SD → GH → QD → Prop
  | .var i, _, σ, G, Q => match σ[i]? with | some (some v) => Q v G | _ => False
  | .non, _, _, G, Q => Q .non G
  | .bl b, _, _, G, Q => Q (.bl b) G
  | .int i, _, _, G, Q => Q (.int i) G
  | .str s, _, _, G, Q => Q (.str s) G
  | .glob g, _, _, G, Q => match Γ g with | some d => Q d G | none => False
  | .tup es, E, σ, G, Q => wpEs es E σ G fun xs G1 => xs.length ≤ sizeLine ∧ Q (.tup xs) G1
  | .lst es, E, σ, G, Q => wpEs es E σ G fun xs G1 => xs.length ≤ sizeLine ∧ newL xs G1 Q
  | .bin op a b, E, σ, G, Q => wpE a E σ G fun x G1 => wpE b E σ G1 fun y G2 => opD op x y G2 Q
  | .neg a, E, σ, G, Q => wpE a E σ G fun x G1 => negD x G1 Q
  | .nt a, E, σ, G, Q => wpE a E σ G fun x G1 => match x with | .bl b => Q (.bl (!b)) G1 | _ => False
  | .cmp op a b, E, σ, G, Q => wpE a E σ G fun x G1 => wpE b E σ G1 fun y G2 => cmpD op x y G2 Q
  | .cmp2 op op' a b c, E, σ, G, Q => wpE a E σ G fun x G1 => wpE b E σ G1 fun y G2 => cmpD op x y G2 fun z G3 =>
      match z with | .bl k => if k = true then wpE c E σ G3 fun w G4 => cmpD op' y w G4 Q else Q (.bl false) G3 | _ => False
  | .boo op es, E, σ, G, Q => wpB op es E σ G Q
  | .ife t a b, E, σ, G, Q => wpT t E σ G fun c G1 => if c = true then wpE a E σ G1 Q else wpE b E σ G1 Q
  | .ix a i, E, σ, G, Q => wpE a E σ G fun x G1 => wpE i E σ G1 fun y G2 => ixD x y G2 Q
  | .slc a lo hi, E, σ, G, Q => wpE a E σ G fun x G1 => wpO lo E σ G1 fun l G2 => wpO hi E σ G2 fun h G3 => slD x l h G3 Q
  | .call f es, E, σ, G, Q => match Δ f with | some sp => wpEs es E σ G fun xs G1 => sp xs G1 Q E | none => False
  | .blt f es, E, σ, G, Q => wpEs es E σ G fun xs G1 => bfD f xs G1 Q
  | .met m o es, E, σ, G, Q => wpE o E σ G fun x G1 => bmT m x G1 ∧ wpEs es E σ G1 fun xs G2 => bmD m x xs G2 Q
  | .isi a T, E, σ, G, Q => wpE a E σ G fun x G1 => match tyD x G1 with
      | some t => match kitB t T with | some b => Q (.bl b) G1 | none => False
      | none => False
  | .sset a, E, σ, G, Q => wpE a E σ G fun x G1 => match x with
      | .ref b => match G1 b with
        | some (.lst ys) => ∃ ns : List Int, ys = ns.map .int ∧ ns.length < 63 ∧ ∀ ns' : List Int, ns'.Pairwise (· < ·) → (∀ k, k ∈ ns' ↔ k ∈ ns) → newL (ns'.map .int) G1 Q
        | _ => False
      | _ => False
  | .lrr a, E, σ, G, Q => wpE a E σ G fun x G1 => match x with
      | .int n => 0 ≤ n ∧ n ≤ 1000 ∧ newL (((List.range n.toNat).map fun i => n - 1 - (i : Nat)).map .int) G1 Q
      | _ => False
  | .isx i ks _, _, σ, G, Q => match σ[i]?, Γ.x with
      | some (some (.xc a d _ _)), some (b, k, d') => a = b ∧ d = d' ∧ Q (.bl (ks.any (subC k))) G
      | _, _ => False
  | .gfn x, _, _, G, Q => Q (.fn x) G
  | .cal e cs es, E, σ, G, Q => wpE e E σ G fun x G1 => match x with
      | .fn n => match cs.lookup n with
        | some f => match Δ f with | some sp => wpEs es E σ G1 fun xs G2 => sp xs G2 Q E | none => False
        | none => False
      | _ => False
  | .dsp ks es, E, σ, G, Q => ∀ p, G p = none → wpEs es E σ (gup G p (.dk [])) fun xs G1 => xs.length = ks.length ∧ G1 p = some (.dk []) ∧ Q (.ref p) (gup G1 p (.dk (mergeD [] ((ks.map Sum.inr).zip xs))))
  | .fld e C f, E, σ, G, Q => wpE e E σ G fun x G1 => fldD C f x G1 Q
  | .mth C m g o es, E, σ, G, Q => match Δ g with
      | some sp => wpE o E σ G fun x G1 => mthD C m x G1 ∧ wpEs es E σ G1 fun xs G2 => sp (x :: xs) G2 Q noX
      | none => False
  | .mk C g es, E, σ, G, Q => match Δ g with
      | some sp => wpEs es E σ G fun xs G1 => ∀ p, G1 p = none → sp (.ref p :: xs) (gup G1 p (.ins C [])) (fun v G2 => v = .non ∧ Q (.ref p) G2) noX
      | none => False
  | .xat i f, _, σ, G, Q => match σ[i]?, Γ.x with
      | some (some (.xc a d ns ds)), some (b, _, d') => a = b ∧ d = d' ∧ ns.length = ds.length ∧ (match (ns.zip ds).lookup f with | some d => Q d G | none => False)
      | _, _ => False
  | .act i, E, σ, G, Q => match Γ.act with | some (f, c, x, cs, r) => σ[i]? = some (some (.ref f)) ∧ G c = some (.cod x cs) ∧ r Q E G | none => False
  | .lamc x g b, E, σ, G, Q => match Γ.l g with
      | some L => Γ.me = some x ∧ (∃ P, G P = some (.tbl x)) ∧ (∀ P y, G P = some (.tbl y) → y = x) ∧ ∀ c cs, (∀ o, G c = some o → ∃ y us, o = .cod y us) → L (Γ.lw b σ) (gup G c (.cod x cs)) Q noX
      | none => False
  | .comp e t it ifs own, E, σ, G, Q => wpI it E σ G fun W G1 => ∀ p, G1 p = none → compW W p (fun d G R => wpG t d noX (wipeD σ (own.map (·.2))) G fun σ2 G2 => wpF ifs noX σ2 G2 fun b G3 =>
      if b = true then wpE e noX σ2 G3 fun y G4 => R (some y) G4 else R none G3) G1 Q
def wpEs : Exs → XD → SD → GH → (List D → GH → Prop) → Prop
  | .nil, _, _, G, Q => Q [] G
  | .cons e es, E, σ, G, Q => wpE e E σ G fun x G1 => wpEs es E σ G1 fun xs G2 => Q (x :: xs) G2
def wpO : Exo → XD → SD → GH → (Option Int → GH → Prop) → Prop
  | .none, _, _, G, Q => Q none G
  | .some e, E, σ, G, Q => wpE e E σ G fun x G1 => match x with | .int i => Q (some i) G1 | _ => False
/-- and, or as values: all but the last are truth values -/
def wpB (op : BoolOp) : Exs → XD → SD → GH → QD → Prop
  | .nil, _, _, _, _ => False
  | .cons e .nil, E, σ, G, Q => wpE e E σ G Q
  | .cons e (.cons e2 r), E, σ, G, Q => wpE e E σ G fun x G1 => match x with
    | .bl c => match op with
      | .And => if c = true then wpB op (.cons e2 r) E σ G1 Q else Q (.bl false) G1
      | .Or => if c = true then Q (.bl true) G1 else wpB op (.cons e2 r) E σ G1 Q
    | _ => False
/-- a test -/
def wpT : Ex → XD → SD → GH → (Bool → GH → Prop) → Prop
  | .nt a, E, σ, G, Q => wpT a E σ G fun c G1 => Q (!c) G1
  | .boo op es, E, σ, G, Q => wpTs op es E σ G Q
  | .cmp op a b, E, σ, G, Q => wpE a E σ G fun x G1 => wpE b E σ G1 fun y G2 => cmpD op x y G2 fun z G3 => match z with | .bl k => Q k G3 | _ => False
  | .cmp2 op op' a b c, E, σ, G, Q => wpE a E σ G fun x G1 => wpE b E σ G1 fun y G2 => cmpD op x y G2 fun z G3 =>
      match z with | .bl k => if k = true then wpE c E σ G3 fun w G4 => cmpD op' y w G4 fun z' G5 => match z' with | .bl k' => Q k' G5 | _ => False else Q false G3 | _ => False
  | .var i, _, σ, G, Q => match σ[i]? with | some (some v) => truD v G fun b => Q b G | _ => False
  | .bl b, _, _, G, Q => Q b G
  | .ix a i, E, σ, G, Q => wpE a E σ G fun x G1 => wpE i E σ G1 fun y G2 => ixD x y G2 fun z G3 => truD z G3 fun b => Q b G3
  | .call f es, E, σ, G, Q => match Δ f with | some sp => wpEs es E σ G fun xs G1 => sp xs G1 (fun z G3 => truD z G3 fun b => Q b G3) E | none => False
  | .isi a T, E, σ, G, Q => wpE a E σ G fun x G1 => match tyD x G1 with
      | some t => match kitB t T with | some b => Q b G1 | none => False
      | none => False
  | .isx i ks _, _, σ, G, Q => match σ[i]?, Γ.x with
      | some (some (.xc a d _ _)), some (b, k, d') => a = b ∧ d = d' ∧ Q (ks.any (subC k)) G
      | _, _ => False
  | .mth C m g o es, E, σ, G, Q => match Δ g with
      | some sp => wpE o E σ G fun x G1 => mthD C m x G1 ∧ wpEs es E σ G1 fun xs G2 => sp (x :: xs) G2 (fun z G3 => truD z G3 fun b => Q b G3) noX
      | none => False
  | _, _, _, _, _ => False
def wpTs (op : BoolOp) : Exs → XD → SD → GH → (Bool → GH → Prop) → Prop
  | .nil, _, _, _, _ => False
  | .cons e .nil, E, σ, G, Q => wpT e E σ G Q
  | .cons e (.cons e2 r), E, σ, G, Q => wpT e E σ G fun c G1 => match op with
      | .And => if c = true then wpTs op (.cons e2 r) E σ G1 Q else Q false G1
      | .Or => if c = true then Q true G1 else wpTs op (.cons e2 r) E σ G1 Q
/-- a comprehension's tests (none or one) -/
def wpF : Exs → XD → SD → GH → (Bool → GH → Prop) → Prop
  | .nil, _, _, G, Q => Q true G
  | .cons e .nil, E, σ, G, Q => wpT e E σ G Q
  | _, _, _, _, _ => False
def wpI : It → XD → SD → GH → (Wk → GH → Prop) → Prop
  | .val e, E, σ, G, Q => wpE e E σ G fun x G1 => walkD x G1 fun W => Q W G1
  | .rng a, E, σ, G, Q => wpE a E σ G fun x G1 => match x with
    | .int j => -(2 ^ 62) ≤ j ∧ j < 2 ^ 62 ∧ Q ⟨rangeD 0 j, fun _ => True⟩ G1
    | _ => False
  | .rng2 a b, E, σ, G, Q => wpE a E σ G fun x G1 => wpE b E σ G1 fun y G2 => match x, y with
    | .int i, .int j => (-(2 ^ 62) ≤ i ∧ i < 2 ^ 62 ∧ -(2 ^ 62) ≤ j ∧ j < 2 ^ 62) ∧ Q ⟨rangeD i j, fun _ => True⟩ G2
    | _, _ => False
  | .enu e, E, σ, G, Q => wpE e E σ G fun x G1 => match x with
    | .tup xs => Q ⟨enumD 0 xs, fun _ => True⟩ G1
    | _ => False
  | .rev e, E, σ, G, Q => wpE e E σ G fun x G1 => match x with
    | .tup xs => Q ⟨xs.reverse, fun _ => True⟩ G1
    | _ => False
def wpG : Tg → D → XD → SD → GH → (SD → GH → Prop) → Prop
  | .name i, d, _, σ, G, Q => Q (σ.set i (some d)) G
  | .tup ts, d, E, σ, G, Q => match d with | .tup ds => ds.length = ts.len ∧ wpGs ts ds E σ G Q | _ => False
  | .sub o i, d, E, σ, G, Q => wpE o E σ G fun x G1 => wpE i E σ G1 fun y G2 => setD x y d G2 fun G3 => Q σ G3
  | .att o C f, d, E, σ, G, Q => wpE o E σ G fun x G1 => attD C f x d G1 fun G3 => Q σ G3
def wpGs : Tgs → List D → XD → SD → GH → (SD → GH → Prop) → Prop
  | .nil, ds, _, σ, G, Q => match ds with | [] => Q σ G | _ => False
  | .cons t ts, ds, E, σ, G, Q => match ds with | d :: r => wpG t d E σ G fun σ1 G1 => wpGs ts r noX σ1 G1 Q | [] => False
end
/-- the fields of the program's exceptions, in the order in which they are handed in -/
def fieldsOf : Nat → List Str
  | 3 => ["at", "word"]
  | 5 => ["number"]
  | _ => []
/-- what is wanted behind a statement -/
structure EndD where
  nx : SD → GH → Prop
  rt : QD
  bk : SD → GH → Prop
  ct : SD → GH → Prop
  ex : Exn → SD → GH → Prop
mutual
def wpS : Sm → EndD → SD → GH → Prop
  | .nev, _, _, _ => False
  | .rai0 c, K, σ, G => K.ex ⟨c, [], []⟩ σ G
  | .rai c es, K, σ, G => wpEs Δ Γ es (fun x => K.ex x σ) σ G fun xs G1 => K.ex ⟨c, (fieldsOf c), xs⟩ σ G1
  | .exp e, K, σ, G => wpE Δ Γ e (fun x => K.ex x σ) σ G fun _ G1 => K.nx σ G1
  | .ret e, K, σ, G => wpE Δ Γ e (fun x => K.ex x σ) σ G K.rt
  | .retN, K, _, G => K.rt .non G
  | .asg t e, K, σ, G => wpE Δ Γ e (fun x => K.ex x σ) σ G fun d G1 => wpG Δ Γ t d (fun x => K.ex x σ) σ G1 K.nx
  | .asc i e, K, σ, G => wpE Δ Γ e (fun x => K.ex x σ) σ G fun d G1 => K.nx (σ.set i (some d)) G1
  | .ifs t a b, K, σ, G => wpT Δ Γ t (fun x => K.ex x σ) σ G fun c G1 => if c = true then wpSs a K σ G1 else wpSs b K σ G1
  | .fors t it body, K, σ, G => wpI Δ Γ it (fun x => K.ex x σ) σ G fun W G1 => forW W (fun d σ G N => wpG Δ Γ t d (fun x => K.ex x σ) σ G fun σ2 G2 => wpSs body { nx := N, rt := K.rt, bk := K.nx, ct := N, ex := K.ex } σ2 G2) σ G1 K.nx
  | .whl t body, K, σ, G => whlW (fun σ G N X => wpT Δ Γ t (fun x => K.ex x σ) σ G fun c G1 => if c = true then wpSs body { nx := N, rt := K.rt, bk := K.nx, ct := N, ex := K.ex } σ G1 else X σ G1) σ G K.nx
  | .pas, K, σ, G => K.nx σ G
  | .brk, K, σ, G => K.bk σ G
  | .cnt, K, σ, G => K.ct σ G
def wpSs : Sms → EndD → SD → GH → Prop
  | .nil, K, σ, G => K.nx σ G
  | .cons s r, K, σ, G => wpS s { K with nx := fun σ' => wk fun G' => wpSs r K σ' G' } σ G
end
/-- a def's body that is a try: what stands ahead, the try's body, the class, the name's slot, its suite, what stands behind -/
structure TryB where
  pre : Sms
  body : Sms
  cls : Nat
  as : Option Nat
  suite : Sms
  post : Sms
/-- the suite, with the exception in hand -/
def wpSuite (B : TryB) (K : EndD) (x : Exn) (σ : SD) (G : GH) : Prop := ∀ a dd, match B.as with
  | some i => wpSs Δ { Γ with x := some (a, x.cls, dd), act := none } B.suite ⟨fun σ' G' => K.nx (σ'.set i none) G', K.rt, fun σ' G' => K.bk (σ'.set i none) G', fun σ' G' => K.ct (σ'.set i none) G', fun _ _ _ => False⟩ (σ.set i (some (.xc a dd x.ns x.ds))) G
  | none => wpSs Δ { Γ with x := some (a, x.cls, dd), act := none } B.suite ⟨K.nx, K.rt, K.bk, K.ct, fun _ _ _ => False⟩ σ G
def wpTry (B : TryB) (K : EndD) (σ : SD) (G : GH) : Prop :=
  wpSs Δ { Γ with act := none } B.pre { K with nx := fun σ1 => wk fun G1 => wpSs Δ Γ B.body { K with
      nx := fun σ2 => wk fun G2 => wpSs Δ { Γ with act := none } B.post K σ2 G2
      ex := fun x σ2 G2 => Γ.all.contains x.cls = true ∧ if subC x.cls B.cls = true then wk (wpSuite Δ Γ B { K with nx := fun σ3 => wk fun G3 => wpSs Δ { Γ with act := none } B.post K σ3 G3 } x σ2) G2 else K.ex x σ2 G2 } σ1 G1 } σ G
end
end Dl
set_option maxRecDepth 100000
/-! Dl2: plain data in the layer's heap; operations by values. -/
namespace Dl
open PySem PySem.Spec PyProof.Rows L2
/-! ### plain data as it stands in the layer's heap -/
/-- a tuple that stands -/
def STup (K : PySem.W.Frag) (H : Hp) (a : Addr) (xs : List V) : Prop :=
  H a = some (.tup xs) ∨ ∃ (o : Obj) (its : Array Value) (n : Nat), K.lookup a = some o ∧ o.cls = .type "tuple" ∧ o.data = .seq its n ∧ its.size ≤ sizeLine ∧ Vals xs its.toList
/-- a list that is only read -/
def SRol (K : PySem.W.Frag) (H : Hp) (a : Addr) (xs : List V) : Prop :=
  (∃ o, H a = some (.frz o (.lst xs))) ∨ ∃ (o : Obj) (its : Array Value) (n : Nat), K.lookup a = some o ∧ o.cls = .type "list" ∧ o.dict = none ∧ o.data = .seq its n ∧ its.size ≤ sizeLine ∧ Vals xs its.toList
theorem STup.sq {K : PySem.W.Frag} {H : Hp} {a : Addr} {xs : List V} (h : STup K H a xs) : SqT K H a xs := by
  rcases h with h | h
  · exact .inl (.inl h)
  · exact .inr h
theorem SRol.sq {K : PySem.W.Frag} {H : Hp} {a : Addr} {xs : List V} (h : SRol K H a xs) : SqL K H a xs := by
  rcases h with h | h
  · exact .inl (.inr h)
  · exact .inr h
mutual
def Has (K : PySem.W.Frag) (H : Hp) : D → V → Prop
  | .non, v => v = .non
  | .bl b, v => v = .bl b
  | .int i, v => v = .int i
  | .str x, v => v = .str x
  | .ref a, v => v = .ref a
  | .ty n, v => v = .ty n
  | .fn x, v => v = .ref (He.ga K x)
  | .xc a dd ns ds, v => v = .ref a ∧ (ns = [] → dd = none) ∧ (ns ≠ [] → ∃ p l vs, dd = some p ∧ H p = some (.xd l) ∧ HasL K H ds vs ∧ ∀ f, l.lookup f = (ns.zip vs).lookup f)
  | .tup ds, v => ∃ p vs, v = .ref p ∧ STup K H p vs ∧ HasL K H ds vs
  | .rol ds, v => ∃ p vs, v = .ref p ∧ SRol K H p vs ∧ HasL K H ds vs
def HasL (K : PySem.W.Frag) (H : Hp) : List D → List V → Prop
  | [], vs => vs = []
  | d :: ds, vs => ∃ v r, vs = v :: r ∧ Has K H d v ∧ HasL K H ds r
end
/-- what never changes stays -/
structure Ext (H H' : Hp) : Prop where
  tup : ∀ b xs, H b = some (.tup xs) → H' b = some (.tup xs)
  rol : ∀ b o xs, H b = some (.frz o (.lst xs)) → H' b = some (.frz o (.lst xs))
  xd : ∀ b l, H b = some (.xd l) → H' b = some (.xd l)
  cod : ∀ b q, H b = some (LamX.CodeO b q) → H' b = some (LamX.CodeO b q)
theorem Ext.refl (H : Hp) : Ext H H := ⟨fun _ _ h => h, fun _ _ _ h => h, fun _ _ h => h, fun _ _ h => h⟩
theorem Ext.trans {H1 H2 H3 : Hp} (a : Ext H1 H2) (b : Ext H2 H3) : Ext H1 H3 := ⟨fun c xs h => b.tup c xs (a.tup c xs h), fun c o xs h => b.rol c o xs (a.rol c o xs h), fun c l h => b.xd c l (a.xd c l h), fun c q h => b.cod c q (a.cod c q h)⟩
theorem Ext.same {H H' : Hp} (k : ∀ b o, H b = some o → H' b = some o) : Ext H H' := ⟨fun _ _ h => k _ _ h, fun _ _ _ h => k _ _ h, fun _ _ h => k _ _ h, fun _ _ h => k _ _ h⟩
theorem Ext.new {H : Hp} {p : Addr} {o : HO} (h : H p = none) : Ext H (upd H p o) := .same fun b u e => by rw [upd_ne (ne_of_none e h)]; exact e
/-- what a store may change -/
def Mu : HO → Prop
  | .lst _ => True
  | .dK _ => True
  | .dT _ => True
  | .ins _ _ _ => True
  | _ => False
theorem Ext.put {H : Hp} {p : Addr} {o u : HO} (h : H p = some u) (m : Mu u) : Ext H (upd H p o) := by
  have key : ∀ b w, H b = some w → ¬ Mu w → upd H p o b = some w := fun b w e n => by
    rw [upd_ne (fun z => by subst z; rw [h] at e; cases e; exact n m)]; exact e
  exact ⟨fun b xs e => key b _ e id, fun b o xs e => key b _ e id, fun b l e => key b _ e id, fun b q e => key b _ e id⟩
section
variable {K : PySem.W.Frag} {H H' : Hp}
theorem STup.ext {a : Addr} {xs : List V} (e : Ext H H') (h : STup K H a xs) : STup K H' a xs := by
  rcases h with h | h
  · exact .inl (e.tup _ _ h)
  · exact .inr h
theorem SRol.ext {a : Addr} {xs : List V} (e : Ext H H') (h : SRol K H a xs) : SRol K H' a xs := by
  rcases h with ⟨o, h⟩ | h
  · exact .inl ⟨o, e.rol _ _ _ h⟩
  · exact .inr h
mutual
theorem Has.ext (e : Ext H H') : ∀ (d : D) (v : V), Has K H d v → Has K H' d v
  | .non, _, h => h
  | .bl _, _, h => h
  | .int _, _, h => h
  | .str _, _, h => h
  | .ref _, _, h => h
  | .ty _, _, h => h
  | .fn _, _, h => h
  | .xc _ _ ns ds, v, h => by
    refine ⟨h.1, h.2.1, fun n => ?_⟩
    obtain ⟨p, l, vs, e1, h1, h2, h3⟩ := h.2.2 n
    exact ⟨p, l, vs, e1, e.xd _ _ h1, HasL.ext e ds vs h2, h3⟩
  | .tup ds, v, h => by
    obtain ⟨p, vs, e1, h1, h2⟩ := h
    exact ⟨p, vs, e1, h1.ext e, HasL.ext e ds vs h2⟩
  | .rol ds, v, h => by
    obtain ⟨p, vs, e1, h1, h2⟩ := h
    exact ⟨p, vs, e1, h1.ext e, HasL.ext e ds vs h2⟩
theorem HasL.ext (e : Ext H H') : ∀ (ds : List D) (vs : List V), HasL K H ds vs → HasL K H' ds vs
  | [], _, h => h
  | d :: ds, vs, h => by
    obtain ⟨v, r, e1, h1, h2⟩ := h
    exact ⟨v, r, e1, Has.ext e d v h1, HasL.ext e ds r h2⟩
end
theorem HasL.len : ∀ {ds : List D} {vs : List V}, HasL K H ds vs → vs.length = ds.length
  | [], _, h => by cases h; rfl
  | d :: ds, vs, h => by
    obtain ⟨v, r, e1, h1, h2⟩ := h
    subst e1
    rw [List.length_cons, List.length_cons, HasL.len h2]
theorem HasL.get : ∀ {ds : List D} {vs : List V} {i : Nat} {d : D}, HasL K H ds vs → ds[i]? = some d → ∃ v, vs[i]? = some v ∧ Has K H d v
  | [], _, _, _, _, h => by simp at h
  | d :: ds, _, i, x, h, hi => by
    obtain ⟨v, r, rfl, h1, h2⟩ := h
    cases i with
    | zero => simp at hi; subst hi; exact ⟨v, rfl, h1⟩
    | succ i => simp at hi; simpa using HasL.get h2 hi
theorem HasL.append : ∀ {ds es : List D} {vs us : List V}, HasL K H ds vs → HasL K H es us → HasL K H (ds ++ es) (vs ++ us)
  | [], _, _, _, h, g => by cases h; exact g
  | d :: ds, es, _, us, h, g => by
    obtain ⟨v, r, rfl, h1, h2⟩ := h
    exact ⟨v, r ++ us, rfl, h1, HasL.append h2 g⟩
theorem HasL.snoc {ds : List D} {vs : List V} {d : D} {v : V} (h : HasL K H ds vs) (g : Has K H d v) : HasL K H (ds ++ [d]) (vs ++ [v]) := h.append ⟨v, [], rfl, g, rfl⟩
theorem HasL.drop : ∀ {ds : List D} {vs : List V} (n : Nat), HasL K H ds vs → HasL K H (ds.drop n) (vs.drop n)
  | [], _, n, h => by cases h; simp [HasL]
  | d :: ds, _, 0, h => by obtain ⟨v, r, rfl, h1, h2⟩ := h; exact ⟨v, r, rfl, h1, h2⟩
  | d :: ds, _, n + 1, h => by obtain ⟨v, r, rfl, h1, h2⟩ := h; simpa using HasL.drop n h2
theorem HasL.take : ∀ {ds : List D} {vs : List V} (n : Nat), HasL K H ds vs → HasL K H (ds.take n) (vs.take n)
  | [], _, n, h => by cases h; simp [HasL]
  | d :: ds, _, 0, h => by simp [HasL]
  | d :: ds, _, n + 1, h => by obtain ⟨v, r, rfl, h1, h2⟩ := h; exact ⟨v, _, rfl, h1, HasL.take n h2⟩
theorem HasL.set : ∀ {ds : List D} {vs : List V} {d : D} {v : V} (n : Nat), HasL K H ds vs → Has K H d v → HasL K H (ds.set n d) (vs.set n v)
  | [], _, _, _, n, h, _ => by cases h; simp [HasL]
  | d :: ds, _, _, _, 0, h, g => by obtain ⟨v, r, rfl, h1, h2⟩ := h; exact ⟨_, r, rfl, g, h2⟩
  | d :: ds, _, _, _, n + 1, h, g => by obtain ⟨v, r, rfl, h1, h2⟩ := h; exact ⟨v, _, rfl, h1, HasL.set n h2 g⟩
theorem HasL.erase : ∀ {ds : List D} {vs : List V} (n : Nat), HasL K H ds vs → HasL K H (ds.eraseIdx n) (vs.eraseIdx n)
  | [], _, n, h => by cases h; simp [HasL]
  | d :: ds, _, 0, h => by obtain ⟨v, r, rfl, h1, h2⟩ := h; exact h2
  | d :: ds, _, n + 1, h => by obtain ⟨v, r, rfl, h1, h2⟩ := h; exact ⟨v, _, rfl, h1, HasL.erase n h2⟩
theorem HasL.cut {ds : List D} {vs : List V} (lo hi : Option Int) (h : HasL K H ds vs) : HasL K H (cutD ds lo hi) (cutV vs lo hi) := by
  unfold cutD cutV
  rw [h.len]
  exact (h.drop _).take _
theorem HasL.at {ds : List D} {vs : List V} {i : Int} {d : D} (h : HasL K H ds vs) (e : atI ds i = some d) : ∃ v, atI vs i = some v ∧ Has K H d v := Dl.unQ (by
 simp (disch := with_unfolding_all
  refine @id _ ?_
  unfold atI at e ⊢
  rw [h.len]
  cases q : ixN ds.length i with
  | none => rw [q] at e; cases e
  | some j =>
    rw [q] at e
    exact h.get e
 ) only [↓Dl.qTrue])
theorem HasL.rep {ds : List D} {vs : List V} (h : HasL K H ds vs) : ∀ n : Nat, HasL K H (List.replicate n ds).flatten (List.replicate n vs).flatten
  | 0 => rfl
  | n + 1 => by
    rw [List.replicate_succ, List.replicate_succ, List.flatten_cons, List.flatten_cons]
    exact h.append (h.rep n)
theorem HasL.rev {ds : List D} {vs : List V} (h : HasL K H ds vs) : HasL K H ds.reverse vs.reverse := Dl.unQ (by
 simp (disch := with_unfolding_all
  refine @id _ ?_
  induction ds generalizing vs with
  | nil => cases h; rfl
  | cons d ds ih =>
    obtain ⟨v, r, rfl, h1, h2⟩ := h
    rw [List.reverse_cons, List.reverse_cons]
    exact (ih h2).snoc h1
 ) only [↓Dl.qTrue])
theorem HasL.empty {ds : List D} {vs : List V} (h : HasL K H ds vs) : vs.isEmpty = ds.isEmpty := by
  cases ds with
  | nil => cases h; rfl
  | cons d ds => obtain ⟨v, r, rfl, _, _⟩ := h; rfl
theorem HasL.flat : ∀ {ds : List D} {vs : List V}, HasL K H ds vs → ds.all flatD = true → vs = ds.map vOf ∧ vs.all flatV = true
  | [], _, h, _ => by cases h; exact ⟨rfl, rfl⟩
  | d :: ds, _, h, f => by
    obtain ⟨v, r, rfl, h1, h2⟩ := h
    simp only [List.all_cons, Bool.and_eq_true] at f
    obtain ⟨e, g⟩ := HasL.flat h2 f.2
    subst e
    cases d with
    | non => cases h1; exact ⟨rfl, by simpa [flatV] using g⟩
    | bl b => cases h1; exact ⟨rfl, by simpa [flatV] using g⟩
    | int i => cases h1; exact ⟨rfl, by simpa [flatV] using g⟩
    | str x => cases h1; exact ⟨rfl, by simpa [flatV] using g⟩
    | _ => exact absurd f.1 (by simp [flatD])
theorem Has.flat {d : D} {v : V} (h : Has K H d v) (f : flatD d = true) : v = vOf d ∧ flatV v = true := Dl.unQ (by
 simp (disch := with_unfolding_all
  refine @id _ ?_
  cases d with
  | non => cases h; exact ⟨rfl, rfl⟩
  | bl b => cases h; exact ⟨rfl, rfl⟩
  | int i => cases h; exact ⟨rfl, rfl⟩
  | str x => cases h; exact ⟨rfl, rfl⟩
  | _ => exact absurd f (by simp [flatD])
 ) only [↓Dl.qTrue])
end
/-! ### what changes -/
def HasF (K : PySem.W.Frag) (H : Hp) : List (Str × D) → List (Str × V) → Prop
  | [], l => l = []
  | (n, d) :: r, l => ∃ v q, l = (n, v) :: q ∧ Has K H d v ∧ HasF K H r q
theorem HasF.ext {K : PySem.W.Frag} {H H' : Hp} (e : Ext H H') : ∀ {fs : List (Str × D)} {l : List (Str × V)}, HasF K H fs l → HasF K H' fs l
  | [], _, h => h
  | (n, d) :: r, _, h => by obtain ⟨v, q, e1, h1, h2⟩ := h; exact ⟨v, q, e1, Has.ext e d v h1, HasF.ext e h2⟩
/-- a dict's pairs -/
def HasK (K : PySem.W.Frag) (H : Hp) {κ : Type} : List (κ × D) → List (κ × V) → Prop
  | [], l => l = []
  | (n, d) :: r, l => ∃ v q, l = (n, v) :: q ∧ Has K H d v ∧ HasK K H r q
theorem HasK.ext {K : PySem.W.Frag} {H H' : Hp} {κ : Type} (e : Ext H H') : ∀ {fs : List (κ × D)} {l : List (κ × V)}, HasK K H fs l → HasK K H' fs l
  | [], _, h => h
  | (n, d) :: r, _, h => by obtain ⟨v, q, e1, h1, h2⟩ := h; exact ⟨v, q, e1, Has.ext e d v h1, HasK.ext e h2⟩
theorem HasK.len {K : PySem.W.Frag} {H : Hp} {κ : Type} : ∀ {fs : List (κ × D)} {l : List (κ × V)}, HasK K H fs l → l.length = fs.length
  | [], _, h => by cases h; rfl
  | (n, d) :: r, _, h => by obtain ⟨v, q, rfl, h1, h2⟩ := h; rw [List.length_cons, List.length_cons, HasK.len h2]
section
variable {K : PySem.W.Frag} {H : Hp} {κ : Type} [DecidableEq κ]
theorem valD_pos {p : κ × D} {r : List (κ × D)} {k : κ} (e : p.1 = k) : valD (p :: r) k = some p.2 := by simp [valD, List.find?_cons, e]
theorem valD_neg {p : κ × D} {r : List (κ × D)} {k : κ} (e : ¬ p.1 = k) : valD (p :: r) k = valD r k := by simp [valD, List.find?_cons, e]
theorem HasK.val : ∀ {fs : List (κ × D)} {l : List (κ × V)} {k : κ}, HasK K H fs l → (∀ d, valD fs k = some d → ∃ v, valV l k = some v ∧ Has K H d v) ∧ (valD fs k = none → valV l k = none)
  | [], _, k, h => by cases h; exact ⟨fun d e => (by simp [valD] at e), fun _ => rfl⟩
  | (n, d) :: r, _, k, h => by
    obtain ⟨v, q, rfl, h1, h2⟩ := h
    obtain ⟨i1, i2⟩ := HasK.val (k := k) h2
    by_cases e : n = k
    · rw [valD_pos (p := (n, d)) e, valV_pos (p := (n, v)) e]
      exact ⟨fun x hx => by cases hx; exact ⟨v, rfl, h1⟩, fun z => nomatch z⟩
    · rw [valD_neg (p := (n, d)) e, valV_neg (p := (n, v)) e]
      exact ⟨i1, i2⟩
theorem HasK.any {k : κ} : ∀ {fs : List (κ × D)} {l : List (κ × V)}, HasK K H fs l → (fs.any fun kv => decide (kv.1 = k)) = l.any fun kv => decide (kv.1 = k)
  | [], _, h => by cases h; rfl
  | (n, d) :: r, _, h => by
    obtain ⟨v, q, rfl, h1, h2⟩ := h
    rw [List.any_cons, List.any_cons, HasK.any h2]
theorem HasK.repl {k : κ} {x : D} {y : V} (hx : Has K H x y) : ∀ {fs : List (κ × D)} {l : List (κ × V)}, HasK K H fs l → HasK K H (fs.map fun kv => if kv.1 = k then (kv.1, x) else kv) (l.map fun kv => if kv.1 = k then (kv.1, y) else kv)
  | [], _, h => by cases h; rfl
  | (n, d) :: r, _, h => by
    obtain ⟨v, q, rfl, h1, h2⟩ := h
    rw [List.map_cons, List.map_cons]
    by_cases e : n = k
    · rw [if_pos e, if_pos e]; exact ⟨y, _, rfl, hx, HasK.repl hx h2⟩
    · rw [if_neg e, if_neg e]; exact ⟨v, _, rfl, h1, HasK.repl hx h2⟩
theorem HasK.snoc {k : κ} {x : D} {y : V} (hx : Has K H x y) : ∀ {fs : List (κ × D)} {l : List (κ × V)}, HasK K H fs l → HasK K H (fs ++ [(k, x)]) (l ++ [(k, y)])
  | [], _, h => by cases h; exact ⟨y, [], rfl, hx, rfl⟩
  | (n, d) :: r, _, h => by obtain ⟨v, q, rfl, h1, h2⟩ := h; exact ⟨v, _, rfl, h1, HasK.snoc hx h2⟩
theorem HasK.put {k : κ} {x : D} {y : V} {fs : List (κ × D)} {l : List (κ × V)} (h : HasK K H fs l) (hx : Has K H x y) : HasK K H (putD fs k x) (putK l k y) := Dl.unQ (by
 simp (disch := with_unfolding_all
  refine @id _ ?_
  unfold putD putK
  rw [h.any]
  split
  · exact h.repl hx
  · exact h.snoc hx
 ) only [↓Dl.qTrue])
end
theorem HasF.get {K : PySem.W.Frag} {H : Hp} {f : Str} : ∀ {fs : List (Str × D)} {l : List (Str × V)}, HasF K H fs l → (∀ d, fs.lookup f = some d → ∃ v, l.lookup f = some v ∧ Has K H d v) ∧ (fs.lookup f = none → l.lookup f = none)
  | [], _, h => by cases h; exact ⟨fun d e => (by simp at e), fun _ => rfl⟩
  | (n, d) :: r, _, h => by
    obtain ⟨v, q, rfl, h1, h2⟩ := h
    obtain ⟨i1, i2⟩ := HasF.get (f := f) h2
    by_cases e : (f == n) = true
    · simp only [List.lookup, e]
      exact ⟨fun x hx => by cases hx; exact ⟨v, rfl, h1⟩, fun z => nomatch z⟩
    · have e' : (f == n) = false := by simpa using e
      simp only [List.lookup, e']
      exact ⟨i1, i2⟩
theorem HasF.len {K : PySem.W.Frag} {H : Hp} : ∀ {fs : List (Str × D)} {l : List (Str × V)}, HasF K H fs l → l.length = fs.length
  | [], _, h => by cases h; rfl
  | (n, d) :: r, _, h => by obtain ⟨v, q, rfl, h1, h2⟩ := h; rw [List.length_cons, List.length_cons, HasF.len h2]
theorem HasF.put {K : PySem.W.Frag} {H : Hp} {f : Str} {x : D} {y : V} (hx : Has K H x y) : ∀ {fs : List (Str × D)} {l : List (Str × V)}, HasF K H fs l → HasF K H (putFD f x fs) (putF f y l)
  | [], _, h => by cases h; exact ⟨y, [], rfl, hx, rfl⟩
  | (n, d) :: r, _, h => by
    obtain ⟨v, q, rfl, h1, h2⟩ := h
    unfold putFD putF
    by_cases e : n = f
    · rw [if_pos e, if_pos e]; exact ⟨y, _, rfl, hx, h2⟩
    · rw [if_neg e, if_neg e]; exact ⟨v, _, rfl, h1, HasF.put hx h2⟩
theorem HasL.zip {K : PySem.W.Frag} {H : Hp} {f : Str} {d : D} : ∀ {ns : List Str} {ds : List D} {vs : List V}, HasL K H ds vs → (ns.zip ds).lookup f = some d → ∃ v, (ns.zip vs).lookup f = some v ∧ Has K H d v
  | [], _, _, _, e => by simp at e
  | n :: ns, [], _, _, e => by simp at e
  | n :: ns, x :: ds, _, h, e => by
    obtain ⟨v, r, rfl, h1, h2⟩ := h
    rw [List.zip_cons_cons] at e ⊢
    by_cases q : (f == n) = true
    · simp only [List.lookup, q] at e ⊢
      cases e
      exact ⟨v, rfl, h1⟩
    · have q' : (f == n) = false := by simpa using q
      simp only [List.lookup, q'] at e ⊢
      exact HasL.zip h2 e
/-- a lambda's qualified name in the def x -/
def lq (x : Str) : Str := x ++ (".<locals>." : Str) ++ ("<lambda>" : Str)
def GOOk (K : PySem.W.Frag) (H : Hp) (a : Addr) : GO → Prop
  | .lst ds => ∃ vs, H a = some (.lst vs) ∧ HasL K H ds vs
  | .ins C fs => ∃ dx l, H a = some (.ins (He.ga K C) dx l) ∧ HasF K H fs l
  | .dk kvs => ∃ l, H a = some (.dK l) ∧ HasK K H kvs l
  | .tbl x => LamX.TabS H a (lq x) ∧ a = (He.cT K (x, none)).2
  | .cod x cs => H a = some (LamX.CodeO a (lq x)) ∧ ∀ p ∈ cs, Has K H p.1 p.2
def GOk (K : PySem.W.Frag) (H : Hp) (G : GH) : Prop := ∀ a o, G a = some o → GOOk K H a o
section
variable {K : PySem.W.Frag} {H H' : Hp} {G G' : GH}
theorem GOOk.mv {a : Addr} {o : GO} (h : GOOk K H a o) (e : Ext H H') (q : H' a = H a) : GOOk K H' a o := Dl.unQ (by
 simp (disch := with_unfolding_all
  refine @id _ ?_
  cases o with
  | lst ds => obtain ⟨vs, h1, h2⟩ := h; exact ⟨vs, q.trans h1, HasL.ext e ds vs h2⟩
  | ins C fs => obtain ⟨dx, l, h1, h2⟩ := h; exact ⟨dx, l, q.trans h1, h2.ext e⟩
  | dk kvs => obtain ⟨l, h1, h2⟩ := h; exact ⟨l, q.trans h1, h2.ext e⟩
  | tbl x =>
    obtain ⟨⟨ps, h1, h2, h3⟩, h4⟩ := h
    exact ⟨⟨ps, q.trans h1, h2, fun pos cv hc => by obtain ⟨c, e1, e2⟩ := h3 pos cv hc; exact ⟨c, e1, e.cod _ _ e2⟩⟩, h4⟩
  | cod x cs => exact ⟨e.cod _ _ h.1, fun p hp => Has.ext e _ _ (h.2 p hp)⟩
 ) only [↓Dl.qTrue])
theorem GOOk.some {a : Addr} {o : GO} (h : GOOk K H a o) : ∃ u, H a = some u := Dl.unQ (by
 simp (disch := with_unfolding_all
  refine @id _ ?_
  cases o with
  | lst ds => obtain ⟨vs, h1, h2⟩ := h; exact ⟨_, h1⟩
  | ins C fs => obtain ⟨dx, l, h1, h2⟩ := h; exact ⟨_, h1⟩
  | dk kvs => obtain ⟨l, h1, h2⟩ := h; exact ⟨_, h1⟩
  | tbl x => obtain ⟨⟨ps, h1, h2, h3⟩, h4⟩ := h; exact ⟨_, h1⟩
  | cod x cs => exact ⟨_, h.1⟩
 ) only [↓Dl.qTrue])
theorem GOk.free (g : GOk K H G) {p : Addr} (h : H p = none) : G p = none := Dl.unQ (by
 simp (disch := with_unfolding_all
  refine @id _ ?_
  cases q : G p with
  | none => rfl
  | some o =>
    obtain ⟨u, e⟩ := (g p o q).some
    rw [h] at e; cases e
 ) only [↓Dl.qTrue])
theorem GOk.le (g : GOk K H G) (l : Le G' G) : GOk K H G' := fun a o h => g a o (l a o h)
theorem GOk.at (g : GOk K H G) {p : Addr} {u : HO} {o : GO} (e : Ext H (upd H p u)) (n : GOOk K (upd H p u) p o) : GOk K (upd H p u) (gup G p o) := fun a x h => by
  by_cases q : a = p
  · subst q; rw [gup_same] at h; cases h; exact n
  · rw [gup_ne q] at h
    exact (g a x h).mv e (upd_ne q)
/-- an untracked new thing -/
theorem GOk.un (g : GOk K H G) {p : Addr} {u : HO} (h : H p = none) : GOk K (upd H p u) G := fun a x q =>
  (g a x q).mv (Ext.new h) (upd_ne (fun z => by subst z; rw [g.free h] at q; cases q))
theorem GOk.dk (g : GOk K H G) {a : Addr} {kvs : List (Key × D)} (h : G a = some (.dk kvs)) : ∃ l, H a = some (.dK l) ∧ HasK K H kvs l := g a _ h
theorem GOk.ins (g : GOk K H G) {a : Addr} {C : Str} {fs : List (Str × D)} (h : G a = some (.ins C fs)) : ∃ dx l, H a = some (.ins (He.ga K C) dx l) ∧ HasF K H fs l := g a _ h
theorem GOk.lst (g : GOk K H G) {a : Addr} {ds : List D} (h : G a = some (.lst ds)) : ∃ vs, H a = some (.lst vs) ∧ HasL K H ds vs := g a _ h
end
def HasS (K : PySem.W.Frag) (H : Hp) (σd : SD) (σ : List (Option V)) : Prop := σd.length = σ.length ∧ ∀ (i : Nat) (d : D), σd[i]? = some (some d) → ∃ v : V, σ[i]? = some (some v) ∧ Has K H d v
section
variable {K : PySem.W.Frag} {H H' : Hp} {σd : SD} {σ : List (Option V)}
theorem HasS.ext (e : Ext H H') (h : HasS K H σd σ) : HasS K H' σd σ := ⟨h.1, fun i d q => by
  obtain ⟨v, h1, h2⟩ := h.2 i d q
  exact ⟨v, h1, Has.ext e d v h2⟩⟩
theorem HasS.set {i : Nat} {d : D} {v : V} (h : HasS K H σd σ) (g : Has K H d v) : HasS K H (σd.set i (some d)) (σ.set i (some v)) := Dl.unQ (by
 simp (disch := with_unfolding_all
  refine @id _ ?_
  refine ⟨by simpa using h.1, fun j x q => ?_⟩
  by_cases hj : j = i
  · subst hj
    by_cases hl : j < σd.length
    · rw [List.getElem?_set_self hl] at q
      cases q
      exact ⟨v, by rw [List.getElem?_set_self (by rw [← h.1]; exact hl)], g⟩
    · rw [List.getElem?_eq_none (by simpa using hl)] at q
      cases q
  · rw [List.getElem?_set_ne (Ne.symm hj)] at q ⊢
    exact h.2 j x q
 ) only [↓Dl.qTrue])
theorem HasS.forget {i : Nat} (h : HasS K H σd σ) : HasS K H (σd.set i none) (σ.set i none) := Dl.unQ (by
 simp (disch := with_unfolding_all
  refine @id _ ?_
  refine ⟨by simpa using h.1, fun j x q => ?_⟩
  by_cases hj : j = i
  · subst hj
    by_cases hl : j < σd.length
    · rw [List.getElem?_set_self hl] at q
      cases q
    · rw [List.getElem?_eq_none (by simpa using hl)] at q
      cases q
  · rw [List.getElem?_set_ne (Ne.symm hj)] at q ⊢
    exact h.2 j x q
 ) only [↓Dl.qTrue])
theorem HasS.wipe : ∀ (vs : List Nat), HasS K H σd σ → HasS K H (wipeD σd vs) (L2.wipe σ vs)
  | [], h => h
  | v :: vs, h => (HasS.wipe vs h).forget
end
def HasX (K : PySem.W.Frag) (H : Hp) (x : Exn) (cls : Value) (dd : Option Addr) : Prop := cls = .ref (He.ga K (cn x.cls)) ∧ (x.ns = [] → dd = none) ∧ (x.ns ≠ [] → ∃ p l vs, dd = some p ∧ H p = some (.xd l) ∧ HasL K H x.ds vs ∧ ∀ f, l.lookup f = (x.ns.zip vs).lookup f)
/-! ### the layer's answers, lifted -/
/-- behind something: the value stands, what is known is so -/
def Fin (K : PySem.W.Frag) (H : Hp) (Qd : QD) (Q : VK) : Prop := ∀ H' d v G', Ext H H' → Has K H' d v → GOk K H' G' → Qd d G' → Q v H'
theorem Fin.mv {K : PySem.W.Frag} {H H' : Hp} {Qd : QD} {Q : VK} (f : Fin K H Qd Q) (e : Ext H H') : Fin K H' Qd Q := fun H2 d v G' e2 => f H2 d v G' (e.trans e2)
theorem Fin.here {K : PySem.W.Frag} {H : Hp} {G : GH} {Qd : QD} {Q : VK} {d : D} {v : V} (f : Fin K H Qd Q) (g : GOk K H G) (h : Has K H d v) (q : Qd d G) : Q v H := f H d v G (Ext.refl H) h g q
/-- a new list -/
theorem Fin.newL {K : PySem.W.Frag} {H : Hp} {G : GH} {Qd : QD} {Q : VK} {ds : List D} {vs : List V} (f : Fin K H Qd Q) (g : GOk K H G) (h : HasL K H ds vs) (q : newL ds G Qd) : ∀ p, H p = none → Q (.ref p) (upd H p (.lst vs)) := fun p hp => by
  refine f _ (.ref p) (.ref p) _ (Ext.new hp) rfl (g.at (o := .lst ds) (Ext.new hp) ⟨vs, upd_same, HasL.ext (Ext.new hp) ds vs h⟩) (q p (g.free hp))
/-- a new tuple -/
theorem Fin.newT {K : PySem.W.Frag} {H : Hp} {G : GH} {Qd : QD} {Q : VK} {ds : List D} {vs : List V} (f : Fin K H Qd Q) (g : GOk K H G) (h : HasL K H ds vs) (q : Qd (.tup ds) G) : ∀ p, H p = none → Q (.ref p) (upd H p (.tup vs)) := fun p hp => by
  refine f _ (.tup ds) (.ref p) _ (Ext.new hp) ⟨p, vs, rfl, .inl upd_same, HasL.ext (Ext.new hp) ds vs h⟩ (g.un hp) q
def liftR (K : PySem.W.Frag) (o : D → D → GH → QD → Prop) : R2 := fun x y H Q => ∃ dx dy G Qd, Has K H dx x ∧ Has K H dy y ∧ GOk K H G ∧ o dx dy G Qd ∧ Fin K H Qd Q
theorem OpR.imp {X : Cx} {f : Value → Value → Sem Value} {r r' : R2} (h : OpR X f r) (i : ∀ x y H Q, r' x y H Q → r x y H Q) : OpR X f r' :=
  fun pins s σ H x y v u Q I rx ry q => h pins s σ H x y v u Q I rx ry (i x y H Q q)
section
variable {X : Cx}
theorem items_of {K : PySem.W.Frag} {H : Hp} {G : GH} {x : D} {v : V} {xs : List D} (g : GOk K H G) (h : Has K H x v) (e : itemsD x G = some xs) : ∃ p vs, v = .ref p ∧ (SqL K H p vs ∨ SqT K H p vs) ∧ HasL K H xs vs := Dl.unQ (by
 simp (disch := with_unfolding_all
  refine @id _ ?_
  cases x with
  | tup ds => cases e; obtain ⟨p, vs, e1, h1, h2⟩ := h; exact ⟨p, vs, e1, .inr h1.sq, h2⟩
  | rol ds => cases e; obtain ⟨p, vs, e1, h1, h2⟩ := h; exact ⟨p, vs, e1, .inl h1.sq, h2⟩
  | ref a =>
    simp only [itemsD] at e
    split at e
    · cases e
      rename_i q
      obtain ⟨vs, h1, h2⟩ := g.lst q
      exact ⟨a, vs, h, .inl (SqL.of h1), h2⟩
    · cases e
  | _ => cases e
 ) only [↓Dl.qTrue])
theorem sound_op (op : Operator) : OpR X (binaryOp op) (liftR X.K (opD op)) := Dl.unQ (by
 simp (disch := with_unfolding_all
  refine @id _ ?_
  intro pins s σ H x y v u Q I rx ry h
  obtain ⟨dx, dy, G, Qd, hx, hy, g, q, f⟩ := h
  unfold opD at q
  split at q
  · cases hx; cases hy; exact op_add pins s σ H _ _ v u Q I rx ry ⟨_, _, rfl, rfl, f.here g (d := .int _) rfl q⟩
  · obtain ⟨p1, v1, rfl, t1, l1⟩ := hx
    obtain ⟨p2, v2, rfl, t2, l2⟩ := hy
    refine op_catA pins s σ H _ _ v u Q I rx ry ⟨p1, p2, v1, v2, rfl, rfl, t1.sq, t2.sq, by rw [l1.len, l2.len]; exact q.1, ?_, ?_, ?_⟩
    · intro e
      subst e
      exact f.here g (d := .tup _) ⟨p2, v2, rfl, t2, by have := l1.append l2; simpa using this⟩ q.2
    · intro _ e
      subst e
      exact f.here g (d := .tup _) ⟨p1, v1, rfl, t1, by have := l1.append l2; simpa using this⟩ q.2
    · intro _ _
      exact f.newT g (l1.append l2) q.2
  · cases hx; cases hy
    split at q
    · rename_i e1 e2
      obtain ⟨v1, h1, l1⟩ := g.lst e1
      obtain ⟨v2, h2, l2⟩ := g.lst e2
      exact op_cat pins s σ H _ _ v u Q I rx ry ⟨_, _, v1, v2, rfl, rfl, h1, h2, by rw [l1.len, l2.len]; exact q.1, f.newL g (l1.append l2) q.2⟩
    · exact q.elim
  · cases hx; cases hy
    exact op_add_str pins s σ H _ _ v u Q I rx ry ⟨_, _, rfl, rfl, q.1, f.here g (d := .str _) rfl q.2⟩
  · rename_i xs k
    obtain ⟨p, vs, rfl, t, l⟩ := hx
    cases hy
    obtain ⟨q1, q2, q3, q4, q⟩ := q
    refine op_repD pins s σ H _ _ v u Q I rx ry ⟨p, k, vs, rfl, rfl, t.sq, fun e => q1 ?_, q2, q3, by rw [l.len]; exact q4, fun e => ?_, fun _ => ?_⟩
    · subst e
      have := l.len
      exact List.eq_nil_of_length_eq_zero this.symm
    · subst e
      refine f.here g (d := .tup _) ⟨p, vs, rfl, t, ?_⟩ q
      simpa using l
    · exact f.newT g (l.rep _) q
  · cases hx; cases hy; exact op_sub pins s σ H _ _ v u Q I rx ry ⟨_, _, rfl, rfl, f.here g (d := .int _) rfl q⟩
  · cases hx; cases hy
    rcases q.1 with c | c
    · exact op_mul pins s σ H _ _ v u Q I rx ry ⟨_, _, rfl, rfl, c, f.here g (d := .int _) rfl q.2⟩
    · exact op_mulW pins s σ H _ _ v u Q I rx ry ⟨_, _, rfl, rfl, c, f.here g (d := .int _) rfl q.2⟩
  · cases hx; cases hy; exact op_fdivW pins s σ H _ _ v u Q I rx ry ⟨_, _, rfl, rfl, q.1, f.here g (d := .int _) rfl q.2⟩
  · cases hx; cases hy; exact op_mod pins s σ H _ _ v u Q I rx ry ⟨_, _, rfl, rfl, q.1, f.here g (d := .int _) rfl q.2⟩
  · cases hx; cases hy; exact op_pow pins s σ H _ _ v u Q I rx ry ⟨_, _, rfl, rfl, q.1, f.here g (d := .int _) rfl q.2⟩
  · exact q.elim
 ) only [↓Dl.qTrue])
/-! ### comparisons -/
mutual
theorem dp_of {K : PySem.W.Frag} {H : Hp} {r : Addr → Option PyData} (hr : ∀ a d, r a = some d → Dp K H (.ref a) d) : ∀ (x : D) (v : V) (d : PyData), Has K H x v → pyD r x = some d → Dp K H v d
  | .non, v, d, h, e => by cases h; cases e; exact .non
  | .bl b, v, d, h, e => by cases h; cases e; exact .bl b
  | .int i, v, d, h, e => by cases h; cases e; exact .int i
  | .str x, v, d, h, e => by cases h; cases e; exact .str x
  | .ref a, v, d, h, e => by cases h; exact hr a d e
  | .ty n, v, d, h, e => by cases e
  | .fn n, v, d, h, e => by cases e
  | .xc _ _ _ _, v, d, h, e => by cases e
  | .tup ds, v, d, h, e => by
    obtain ⟨p, vs, rfl, h1, h2⟩ := h
    unfold pyD at e
    split at e
    · rename_i l q
      cases e
      exact .tup h1.sq (dps_of hr ds vs l h2 q)
    · cases e
  | .rol ds, v, d, h, e => by
    obtain ⟨p, vs, rfl, h1, h2⟩ := h
    unfold pyD at e
    split at e
    · rename_i l q
      cases e
      exact .lst h1.sq (dps_of hr ds vs l h2 q)
    · cases e
theorem dps_of {K : PySem.W.Frag} {H : Hp} {r : Addr → Option PyData} (hr : ∀ a d, r a = some d → Dp K H (.ref a) d) : ∀ (xs : List D) (vs : List V) (l : List PyData), HasL K H xs vs → pyDs r xs = some l → DpAll K H vs l
  | [], vs, l, h, e => by cases h; cases e; exact .nil
  | x :: xs, vs, l, h, e => by
    obtain ⟨v, q, rfl, h1, h2⟩ := h
    unfold pyDs at e
    split at e
    · rename_i d e1
      split at e
      · rename_i m e2
        cases e
        exact .cons (dp_of hr x v d h1 e1) (dps_of hr xs q m h2 e2)
      · cases e
    · cases e
end
theorem rdG_ok {K : PySem.W.Frag} {H : Hp} {G : GH} (g : GOk K H G) : ∀ (n : Nat) (a : Addr) (d : PyData), rdG n G a = some d → Dp K H (.ref a) d
  | 0, _, _, e => by cases e
  | n + 1, a, d, e => by
    unfold rdG at e
    split at e
    · rename_i ds q
      split at e
      · rename_i l ql
        cases e
        obtain ⟨vs, h1, h2⟩ := g.lst q
        exact .lst (SqL.of h1) (dps_of (rdG_ok g n) ds vs l h2 ql)
      · cases e
    · cases e
theorem dpG {K : PySem.W.Frag} {H : Hp} {G : GH} {x : D} {v : V} {d : PyData} (g : GOk K H G) (h : Has K H x v) (e : pyG G x = some d) : Dp K H v d := dp_of (rdG_ok g 3) x v d h e
theorem eqD_ok {K : PySem.W.Frag} {H : Hp} {G : GH} {x y : D} {v u : V} {k : Bool → Prop} (g : GOk K H G) (hx : Has K H x v) (hy : Has K H y u) (q : eqD x y G k) :
    ∃ d e, Dp K H v d ∧ Dp K H u e ∧ SeqAt.shaped d = true ∧ SeqAt.shaped e = true ∧ k (PyData.eqv d e) := Dl.unQ (by
 simp (disch := with_unfolding_all
  refine @id _ ?_
  unfold eqD at q
  split at q
  · rename_i d e h1 h2
    exact ⟨d, e, dpG g hx h1, dpG g hy h2, q.1, q.2.1, q.2.2⟩
  · exact q.elim
 ) only [↓Dl.qTrue])
theorem isNon_ok {K : PySem.W.Frag} {H : Hp} {x : D} {v : V} (h : Has K H x v) : decide (v = .non) = x.isNon := Dl.unQ (by
 simp (disch := with_unfolding_all
  refine @id _ ?_
  cases x with
  | non => cases h; rfl
  | bl b => cases h; rfl
  | int i => cases h; rfl
  | str s => cases h; rfl
  | ref a => cases h; rfl
  | ty n => cases h; rfl
  | fn n => cases h; rfl
  | xc _ _ _ _ => obtain ⟨rfl, _⟩ := h; rfl
  | tup ds => obtain ⟨p, vs, rfl, _⟩ := h; rfl
  | rol ds => obtain ⟨p, vs, rfl, _⟩ := h; rfl
 ) only [↓Dl.qTrue])
/-- the pairs of the one in the other -/
theorem hits_ok {pins : List (Addr × Obj)} {σ : List (Option V)} {H : Hp} {s : Shared} {G : GH} (I : Inv X pins σ H s) (hu : X.A.units + 70 < cLine) (g : GOk X.K H G) {ls : List (Key × D)} {ll : List (Key × V)} {vb : List (Key × Value)} (hl : HasK X.K H ls ll) (rb : KV ll vb) :
    ∀ (ks : List (Key × D)) (lk : List (Key × V)) (va : List (Key × Value)) (b : Bool), HasK X.K H ks lk → KV lk va → hitsD G ls ks = some b → PySem.W.KeqHits X.A.in1 s vb va b
  | [], lk, va, b, h, r, e => by
    cases h
    cases r
    cases e
    exact .nil
  | (k, v) :: ks, lk, va, b, h, r, e => by
    obtain ⟨w, q, rfl, h1, h2⟩ := h
    cases r with
    | @cons _ p _ ps rp rr =>
    obtain ⟨k', z⟩ := p
    obtain ⟨rk, rw'⟩ := rp
    cases (show k = k' from rk)
    have rv : RelV w z := rw'
    obtain ⟨v1, v2⟩ := hl.val (k := k)
    simp only [hitsD] at e
    split at e
    · rename_i en
      cases e
      refine .miss ?_
      have := rb.val k
      rw [v2 en] at this
      cases q2 : valueAt vb k with
      | none => rfl
      | some _ => rw [q2] at this; exact this.elim
    · rename_i u eu
      split at e
      · rename_i d f b' e1 e2 e3
        split at e
        · rename_i es
          simp only [Bool.and_eq_true] at es
          cases e
          obtain ⟨y, y1, y2⟩ := v1 u eu
          have rr2 : RelO (some y) (valueAt vb k) := by rw [← y1]; exact rb.val k
          obtain ⟨yy, hy, ry⟩ := rr2.some_of
          obtain ⟨as, r1⟩ := Dp.reads I d _ _ (dpG g h1 e1) rv
          obtain ⟨bs, r2⟩ := Dp.reads I f _ _ (dpG g y2 e2) ry
          exact .hit hy (PySem.W.keq_at (A := X.A) r1 r2 es.1 es.2 (show X.A.units + 1 + 64 < cLine by omega)) (hits_ok I hu g hl rb ks q ps b' h2 rr e3)
        · cases e
      · cases e
theorem eqX_ok {op : CmpOp} (hop : op = .Eq ∨ op = .NotEq) (hu : X.A.units + 70 < cLine) {pins : List (Addr × Obj)} {σ : List (Option V)} {H : Hp} {s : Shared} {x y : V} {v u : Value} {Q : VK} (I : Inv X pins σ H s) (rx : RelV x v) (ry : RelV y u) {dx dy : D} {G : GH} {Qd : QD} (g : GOk X.K H G) (hx : Has X.K H dx x) (hy : Has X.K H dy y)
    (q : eqX dx dy G fun b => Qd (.bl (if op = .Eq then b else !b)) G) (f : Fin X.K H Qd Q) : wpAny (model X.prog X.w) X.A (compareOp op v u) (EP X pins σ Q) X.xe s := Dl.unQ (by
 simp (disch := with_unfolding_all
  refine @id _ ?_
  unfold eqX at q
  split at q
  · rename_i ks ls e
    unfold dk2 at e
    split at e
    · rename_i a b
      split at e
      · rename_i ks' ls' e1 e2
        cases e
        cases hx; cases hy
        cases (show v = Value.ref a from rx)
        cases (show u = Value.ref b from ry)
        obtain ⟨lk, h1, k1⟩ := g.dk e1
        obtain ⟨ll, h2, k2⟩ := g.dk e2
        obtain ⟨_, ya, va, ra, da⟩ := (show ObjOk X.prog X.w H s.heap a (.dK lk) from I.hok a _ h1)
        obtain ⟨_, yb, vb, rb, db⟩ := (show ObjOk X.prog X.w H s.heap b (.dK ll) from I.hok b _ h2)
        have el : va.length = ks.length := by rw [← ra.length, k1.len]
        have el2 : vb.length = ls.length := by rw [← rb.length, k2.len]
        split at q
        · rename_i b eb
          have hits := hits_ok I hu g k2 rb ks lk va b k1 ra eb
          rcases hop with rfl | rfl
          · exact PySem.W.keq_eq (knd := mixKind X.prog X.w) ya yb da db (by omega) (fun _ => hits) ⟨.bl _, H, I, rfl, by rw [el, el2]; exact f.here g (d := .bl _) rfl q⟩
          · exact PySem.W.keq_ne (knd := mixKind X.prog X.w) ya yb da db (by omega) (fun _ => hits) ⟨.bl _, H, I, rfl, by rw [el, el2]; exact f.here g (d := .bl _) rfl q⟩
        · exact q.elim
      · cases e
    · cases e
  · rcases hop with rfl | rfl
    · obtain ⟨d, e, h1, h2, h3, h4, h5⟩ := eqD_ok (k := fun b => Qd (.bl b) G) g hx hy q
      exact op_eqD (by omega) pins s σ H x y v u Q I rx ry ⟨d, e, h1, h2, h3, h4, f.here g (d := .bl _) rfl h5⟩
    · obtain ⟨d, e, h1, h2, h3, h4, h5⟩ := eqD_ok (k := fun b => Qd (.bl (!b)) G) g hx hy q
      exact op_neD (by omega) pins s σ H x y v u Q I rx ry ⟨d, e, h1, h2, h3, h4, f.here g (d := .bl _) rfl h5⟩
 ) only [↓Dl.qTrue])
theorem in_ok (neg : Bool) : OpR X (compareOp (if neg = true then .NotIn else .In)) (liftR X.K (inD neg)) := Dl.unQ (by
 simp (disch := with_unfolding_all
  refine @id _ ?_
  intro pins s σ H x y v u Q I rx ry h
  obtain ⟨dx, dy, G, Qd, hx, hy, g, q, f⟩ := h
  unfold inD at q
  split at q
  · cases hy
    split at q
    · cases hx
      cases neg with
      | true => exact op_notin_str pins s σ H _ _ v u Q I rx ry ⟨_, _, rfl, rfl, f.here g (d := .bl _) rfl q⟩
      | false => exact op_in_str pins s σ H _ _ v u Q I rx ry ⟨_, _, rfl, rfl, f.here g (d := .bl _) rfl q⟩
    · exact q.elim
  · split at q
    · rename_i xs e
      obtain ⟨p, vs, rfl, hs, hl⟩ := items_of g hy e
      obtain ⟨f1, f2⟩ := hx.flat q.1
      obtain ⟨f3, f4⟩ := hl.flat q.2.1
      subst f1 f3
      cases neg with
      | true => exact op_notIn_seq pins s σ H _ _ v u Q I rx ry ⟨p, _, rfl, hs, f2, f4, f.here g (d := .bl _) rfl q.2.2⟩
      | false => exact op_in_seq pins s σ H _ _ v u Q I rx ry ⟨p, _, rfl, hs, f2, f4, f.here g (d := .bl _) rfl q.2.2⟩
    · exact q.elim
 ) only [↓Dl.qTrue])
theorem sound_cmp (op : CmpOp) (hu : X.A.units + 70 < cLine) : OpR X (compareOp op) (liftR X.K (cmpD op)) := Dl.unQ (by
 simp (disch := with_unfolding_all
  refine @id _ ?_
  intro pins s σ H x y v u Q I rx ry h
  cases op with
  | In => exact in_ok false pins s σ H x y v u Q I rx ry h
  | NotIn => exact in_ok true pins s σ H x y v u Q I rx ry h
  | Eq =>
    obtain ⟨dx, dy, G, Qd, hx, hy, g, q, f⟩ := h
    exact eqX_ok (.inl rfl) hu I rx ry g hx hy q f
  | NotEq =>
    obtain ⟨dx, dy, G, Qd, hx, hy, g, q, f⟩ := h
    exact eqX_ok (.inr rfl) hu I rx ry g hx hy q f
  | Lt =>
    obtain ⟨dx, dy, G, Qd, hx, hy, g, q, f⟩ := h
    simp only [cmpD] at q
    split at q
    · cases hx; cases hy; exact op_lt pins s σ H _ _ v u Q I rx ry ⟨_, _, rfl, rfl, f.here g (d := .bl _) rfl q⟩
    · exact q.elim
  | LtE =>
    obtain ⟨dx, dy, G, Qd, hx, hy, g, q, f⟩ := h
    simp only [cmpD] at q
    split at q
    · cases hx; cases hy; exact op_le pins s σ H _ _ v u Q I rx ry ⟨_, _, rfl, rfl, f.here g (d := .bl _) rfl q⟩
    · exact q.elim
  | Gt =>
    obtain ⟨dx, dy, G, Qd, hx, hy, g, q, f⟩ := h
    simp only [cmpD] at q
    split at q
    · cases hx; cases hy; exact op_gt pins s σ H _ _ v u Q I rx ry ⟨_, _, rfl, rfl, f.here g (d := .bl _) rfl q⟩
    · exact q.elim
  | GtE =>
    obtain ⟨dx, dy, G, Qd, hx, hy, g, q, f⟩ := h
    simp only [cmpD] at q
    split at q
    · cases hx; cases hy; exact op_ge pins s σ H _ _ v u Q I rx ry ⟨_, _, rfl, rfl, f.here g (d := .bl _) rfl q⟩
    · exact q.elim
  | Is =>
    obtain ⟨dx, dy, G, Qd, hx, hy, g, q, f⟩ := h
    simp only [cmpD] at q
    split at q
    · cases hy; exact op_isN pins s σ H _ _ v u Q I rx ry ⟨rfl, by rw [isNon_ok hx]; exact f.here g (d := .bl _) rfl q⟩
    · exact q.elim
  | IsNot =>
    obtain ⟨dx, dy, G, Qd, hx, hy, g, q, f⟩ := h
    simp only [cmpD] at q
    split at q
    · cases hy; exact op_notN pins s σ H _ _ v u Q I rx ry ⟨rfl, by rw [isNon_ok hx]; exact f.here g (d := .bl _) rfl q⟩
    · exact q.elim
 ) only [↓Dl.qTrue])
theorem sound_neg : UnR X (unaryOp .USub) (fun x H Q => ∃ dx G Qd, Has X.K H dx x ∧ GOk X.K H G ∧ negD dx G Qd ∧ Fin X.K H Qd Q) := Dl.unQ (by
 simp (disch := with_unfolding_all
  refine @id _ ?_
  intro pins s σ H x v Q I rx h
  obtain ⟨dx, G, Qd, hx, g, q, f⟩ := h
  unfold negD at q
  split at q
  · cases hx; exact un_neg pins s σ H _ v Q I rx ⟨_, rfl, f.here g (d := .int _) rfl q⟩
  · exact q.elim
 ) only [↓Dl.qTrue])
/-- a dict's key -/
theorem key_has {K : PySem.W.Frag} {H : Hp} {y : D} {v : V} {k : Key} (h : Has K H y v) (e : keyD y = some k) : v = kV k := Dl.unQ (by
 simp (disch := with_unfolding_all
  refine @id _ ?_
  cases y with
  | int i => cases e; exact h
  | str z => cases e; exact h
  | _ => cases e
 ) only [↓Dl.qTrue])
theorem ix_dict (hu : X.A.units + 70 < cLine) {value slice : Expr} {pins : List (Addr × Obj)} {s : Shared} {σ : List (Option V)} {H : Hp} {a : Addr} {y : V} {o : V} {u : Value} {Q : VK} (I : Inv X pins σ H s) (g : DGet H a y (some o)) (ry : RelV y u) (q : Q o H)
    (hsub : subscripted slice false (.ref a) u = operate [.ref a, u] (getItem (.ref a) u)) : wpAny (model X.prog X.w) X.A (subscriptTail value slice (.ref a) u) (EP X pins σ Q) X.xe s := Dl.unQ (by
 simp (disch := with_unfolding_all
  refine @id _ ?_
  have hT := dict_typeIs I g
  unfold subscriptTail
  refine wpAny_bind ?_
  rw [getitemInPython_of_ne hT.not_modules]
  refine wpAny_bind (wpAny_specialOf hT PySem.F.slot_dict_getitem.lookup ?_)
  have h₂ : wpAny (model X.prog X.w) X.A (getItem (.ref a) u) (EP X pins σ Q) X.xe s := d_getItem (by omega) I g ry fun w' s' I' rv => ⟨o, H, I', rv, q⟩
  have fin : wpAny (model X.prog X.w) X.A (subscripted slice false (.ref a) u) (fun r s₃ => wpAny (model X.prog X.w) X.A (letTemporaryGo value (.ref a) r >>= fun _ => pure r) (EP X pins σ Q) X.xe s₃) X.xe s := by
    rw [hsub]
    exact wpAny_operating (wpAny_mono h₂ (fun r s₃ h₃ => wpAny_bind (wpAny_letTemporaryGo (wpAny_pure h₃))) fun _ _ x => x)
  first
    | exact wpAny_pure (wpAny_bind fin)
    | exact wpAny_bind (wpAny_pure (wpAny_bind fin))
    | exact wpAny_bind fin
 ) only [↓Dl.qTrue])
theorem sound_ix (hu : X.A.units + 70 < cLine) : IxR X (liftR X.K ixD) := Dl.unQ (by
 simp (disch := with_unfolding_all
  refine @id _ ?_
  intro value slice pins s σ H x y v u Q I rx ry h hsub
  obtain ⟨dx, dy, G, Qd, hx, hy, g, q, f⟩ := h
  unfold ixD at q
  split at q
  · rename_i xs e
    obtain ⟨p, vs, rfl, hs, hl⟩ := items_of g hx e
    split at q
    · cases hy
      split at q
      · rename_i d ed
        obtain ⟨w, ew, hw⟩ := hl.at ed
        rcases hs with hs | hs
        · exact ix_list value slice pins s σ H _ _ v u Q I rx ry ⟨p, vs, _, w, rfl, rfl, hs, ew, f.here g hw q⟩ hsub
        · exact ix_tup value slice pins s σ H _ _ v u Q I rx ry ⟨p, vs, _, w, rfl, rfl, hs, ew, f.here g hw q⟩ hsub
      · exact q.elim
    · exact q.elim
  · unfold ixE at q
    split at q
    · cases hx
      split at q
      · cases hy
        obtain ⟨q0, q⟩ := q
        split at q
        · rename_i c ec
          exact ix_str value slice pins s σ H _ _ v u Q I rx ry ⟨_, _, c, rfl, rfl, q0, ec, f.here g (d := .str _) rfl q⟩ hsub
        · exact q.elim
      · exact q.elim
    · rename_i a _
      cases hx
      cases (show v = Value.ref a from rx)
      split at q
      · rename_i kvs ek
        split at q
        · rename_i k e1
          have ev := key_has hy e1
          subst ev
          split at q
          · rename_i d ed
            obtain ⟨l, h1, h2⟩ := g.dk ek
            obtain ⟨w, ew, hw⟩ := (h2.val (k := k)).1 d ed
            exact ix_dict hu I (o := w) (by rw [← ew]; exact DGet.k h1) ry (f.here g hw q) hsub
          · exact q.elim
        · exact q.elim
      · exact q.elim
    · exact q.elim
 ) only [↓Dl.qTrue])
end
end Dl
set_option maxRecDepth 100000
/-! Dl3: the check «this tree of the text is that tree of ours», built-ins, slices, stores, walks. -/
namespace Dl
open PySem PySem.Spec PyProof.Rows L2
/-! ### the check -/
def nameOk (x : Str) : Bool := !(x == ("__debug__" : Str)) && !(x == ("__classdict__" : Str))
def visB (sc : Scope) (x : Str) : Bool := match sc.names.lookup x with
  | some .local | some .cell | some .free => true
  | _ => false
def locB (sc : Scope) (x : Str) : Bool := match sc.names.lookup x with
  | some .local | some .cell => true
  | _ => false
def glB (sc : Scope) (x : Str) : Bool := match sc.names.lookup x with
  | some .globalImplicit => true
  | _ => false
/-- the names of the numbered defs and constants -/
structure Tab where
  fns : List (Str × Nat)
  gls : List Str
  cls : List Nat
  all : List Nat
  /-- own exception classes with an __init__ -/
  rxs : List Nat := []
  /-- methods: number, class, name, how many parameters -/
  mts : List (Nat × Str × Str × Nat) := []
  /-- classes and their instances' attributes -/
  ats : List (Str × Str) := []
  /-- makers: __init__'s number, class, how many parameters -/
  mks : List (Nat × Str × Nat) := []
  /-- defs that are handed about -/
  gfs : List Str := []
  /-- defs that are handed a lambda -/
  lds : List (Nat × Str) := []
  /-- the scopes of the defs that make lambdas or call what they are handed -/
  lsc : List Scope := []
def bfN : Bf → Str
  | .len => "len" | .max => "max" | .min => "min" | .list => "list" | .tuple => "tuple" | .sorted => "sorted" | .int => "int" | .sum => "sum" | .dict => "dict"
def bfV : Bf → Value
  | .len => .builtin "len" | .max => .builtin "max" | .min => .builtin "min" | .list => .type "list" | .tuple => .type "tuple" | .sorted => .builtin "sorted" | .int => .type "int" | .sum => .builtin "sum" | .dict => .type "dict"
def bfCalm : Bf → Bool
  | .max | .min | .sum | .list => true
  | _ => false
def bmN : Bm → Str
  | .append => "append" | .pop => "pop" | .count => "count" | .index => "index" | .reverse => "reverse" | .get => "get"
def recvB : Expr → Bool
  | .Name .. | .Attribute .. | .Subscript .. | .List .. => true
  | .Call (.Attribute ..) .. => true
  | _ => false
def tyN (x : String) : Bool := x == "int" || x == "bool" || x == "str" || x == "list" || x == "tuple" || x == "dict"
mutual
def tgIx : Tg → List Nat
  | .name i => [i]
  | .tup ts => tgsIx ts
  | .sub _ _ => []
  | .att _ _ _ => []
def tgsIx : Tgs → List Nat
  | .nil => []
  | .cons t ts => tgIx t ++ tgsIx ts
end
def setB : Expr → Bool
  | .Set .. => true
  | _ => false
def tupB : Expr → Bool
  | .Tuple .. => true
  | _ => false
def itB : It → Bool
  | .enu _ => true
  | _ => false
def nmLoc (sc : Scope) : Expr → Bool
  | .Name x _ => match sc.names.lookup x with | some .local => true | _ => false
  | _ => false
/-- a target of plain local names -/
def tgLoc (sc : Scope) : Expr → Bool
  | .Tuple es _ _ => es.all (nmLoc sc)
  | e => nmLoc sc e
/-- the k-th class, by its name -/
def isK (T : Tab) (sc : Scope) (k : Nat) : Expr → Bool
  | .Name z _ => if k == 100 then z == ("ValueError" : Str) && glB sc z else T.all.contains k && z == cn k && glB sc z && nameOk z
  | _ => false
def isKs (T : Tab) (sc : Scope) : List Nat → List Expr → Bool
  | [], es => es.isEmpty
  | k :: ks, es => match es with | e :: r => isK T sc k e && isKs T sc ks r | [] => false
def isSubB : Expr → Bool
  | .Subscript .. => true
  | _ => false
/-- the written keys -/
def isKeys : List Str → List (Option Expr) → Bool
  | [], es => es.isEmpty
  | k :: ks, es => match es with | some (.Constant (.str k') _ _) :: r => k == k' && isKeys ks r | _ => false
def noPar : Arguments → Bool
  | ⟨[], [], none, [], [], none, []⟩ => true
  | _ => false
section
variable (T : Tab) (N : List Str)
mutual
def isE : Ex → Scope → Bool → Expr → Bool
  | .var i, sc, _, e => match e with
    | .Name x _ => N[i]? == some x && visB sc x && nameOk x
    | _ => false
  | .non, _, _, e => match e with | .Constant .none _ _ => true | _ => false
  | .bl b, _, _, e => match e with | .Constant (.bool b') _ _ => b == b' | _ => false
  | .int i, _, _, e => match e with | .Constant (.int j) _ _ => i == j | _ => false
  | .str s, _, _, e => match e with | .Constant (.str s') _ _ => s == s' | _ => false
  | .glob g, sc, _, e => match e with
    | .Name x _ => T.gls[g]? == some x && glB sc x && nameOk x
    | _ => false
  | .tup es, sc, c, e => match e with | .Tuple es' _ _ => isEs es sc c es' | _ => false
  | .lst es, sc, c, e => match e with | .List es' _ => isEs es sc c es' | _ => false
  | .bin op a b, sc, c, e => match e with | .BinOp a' op' b' _ => op == op' && isE a sc c a' && isE b sc c b' | _ => false
  | .neg a, sc, c, e => match e with | .UnaryOp .USub a' _ => isE a sc c a' | _ => false
  | .nt a, sc, c, e => match e with | .UnaryOp .Not a' _ => isE a sc c a' | _ => false
  | .cmp op a b, sc, c, e => match e with
    | .Compare a' [op'] [b'] _ => op == op' && isE a sc c a' && isE b sc c b' && !setB b'
    | _ => false
  | .cmp2 o1 o2 a b d, sc, c, e => match e with
    | .Compare a' [o1', o2'] [b', d'] _ => o1 == o1' && o2 == o2' && isE a sc c a' && isE b sc c b' && isE d sc c d' && !setB d'
    | _ => false
  | .boo op es, sc, c, e => match e with | .BoolOp op' es' _ => op == op' && isEs es sc c es' | _ => false
  | .ife t a b, sc, c, e => match e with | .IfExp t' a' b' _ => isE t sc c t' && isE a sc c a' && isE b sc c b' | _ => false
  | .ix a i, sc, c, e => match e with | .Subscript a' i' _ => isE a sc c a' && isE i sc c i' | _ => false
  | .slc a lo hi, sc, c, e => match e with
    | .Subscript a' (.Slice lo' hi' none _) _ => isE a sc c a' && isO lo sc c lo' && isO hi sc c hi'
    | _ => false
  | .call f es, sc, c, e => match e with
    | .Call (.Name x _) es' [] _ => c && T.fns[f]? == some (x, es.len) && glB sc x && nameOk x && isEs es sc c es'
    | _ => false
  | .blt f es, sc, c, e => match e with
    | .Call (.Name x _) es' [] _ => (c || !bfCalm f) && x == bfN f && glB sc x && isEs es sc c es' && !es'.isEmpty
    | _ => false
  | .met m o es, sc, c, e => match e with
    | .Call (.Attribute o' x apos) es' [] cpos => x == bmN m && recvB o' && isE o sc c o' && isEs es sc c es' && !es'.isEmpty && decide (es'.length < 20) && (apos.endLine == cpos.line)
    | _ => false
  | .isi a ty, sc, c, e => match e with
    | .Call (.Name x _) [a', .Name y _] [] _ => x == ("isinstance" : Str) && glB sc x && tyN ty && y == Str.ofString ty && glB sc y && isE a sc c a'
    | _ => false
  | .isx i ks tp, sc, c, e => match e with
    | .Call (.Name x _) [.Name y _, t] [] _ => !c && x == ("isinstance" : Str) && glB sc x && N[i]? == some y && visB sc y && nameOk y && (match t with
      | .Tuple es _ _ => tp && decide (ks.length ≤ 20) && isKs T sc ks es
      | t => !tp && isKs T sc ks [t])
    | _ => false
  | .gfn x, sc, _, e => match e with
    | .Name y _ => x == y && T.gfs.contains x && glB sc x && nameOk x
    | _ => false
  | .cal f cs es, sc, c, e => match e with
    | .Call f' es' [] _ => c && isSubB f' && isE f sc c f' && (cs.all fun p => T.fns[p.2]? == some (p.1, es.len) && T.gfs.contains p.1) && isEs es sc c es' && !es'.isEmpty
    | _ => false
  | .dsp ks es, sc, c, e => match e with
    | .Dict keys vals _ => isKeys ks keys && isEs es sc c vals && decide (ks.length = es.len) && decide (ks.length ≤ 15)
    | _ => false
  | .fld a C f, sc, c, e => match e with
    | .Attribute a' f' _ => f == f' && T.ats.contains (C, f) && recvB a' && isE a sc c a'
    | _ => false
  | .mth C m g o es, sc, c, e => match e with
    | .Call (.Attribute o' m' apos) es' [] cpos => c && m == m' && T.mts.contains (g, C, m, es.len + 1) && recvB o' && isE o sc c o' && isEs es sc c es' && decide (es.len < 20) && (apos.endLine == cpos.line)
    | _ => false
  | .mk C g es, sc, c, e => match e with
    | .Call (.Name x _) es' [] _ => c && x == C && T.mks.contains (g, C, es.len + 1) && glB sc x && nameOk x && isEs es sc c es' && !es'.isEmpty
    | _ => false
  | .xat i f, sc, c, e => match e with
    | .Attribute (.Name y _) f' _ => !c && f == f' && (f == ("at" : Str) || f == ("word" : Str) || f == ("number" : Str)) && N[i]? == some y && visB sc y && nameOk y
    | _ => false
  | .act i, sc, c, e => match e with
    | .Call (.Name y _) [] [] _ => c && T.lsc.contains sc && N[i]? == some y && visB sc y && nameOk y
    | _ => false
  | .lamc _ g b, sc, c, e => match e with
    | .Call (.Name y _) [.Lambda params body scope _] [] _ => c && T.lsc.contains sc && T.lds.contains (g, y) && glB sc y && nameOk y && LamX.lamSB sc scope && noPar params && isE b scope true body
    | _ => false
  | .sset a, sc, c, e => match e with
    | .Call (.Name x _) [.Call (.Name y _) [a'] [] _] [] _ => c && x == ("sorted" : Str) && glB sc x && y == ("set" : Str) && glB sc y && isE a sc c a'
    | _ => false
  | .lrr a, sc, c, e => match e with
    | .Call (.Name x _) [.Call (.Name y _) [.Call (.Name z _) [a'] [] _] [] _] [] _ => c && x == ("list" : Str) && glB sc x && y == ("reversed" : Str) && glB sc y && z == ("range" : Str) && glB sc z && isE a sc c a'
    | _ => false
  | .comp el t it ifs own, sc, c, e => match e with
    | .ListComp el' [⟨t', it', ifs', 0⟩] scope _ => c && blkC N sc scope own && !T.lsc.contains (relS scope sc) && (tgIx t).all (fun i => own.any fun p => p.2 == i) && isI it sc c it' && !setB it' && (!itB it || tupB t') && tgLoc (relS scope sc) t' &&
        isG t (relS scope sc) c t' && isEs ifs (relS scope sc) c ifs' && isE el (relS scope sc) c el'
    | _ => false
def isEs : Exs → Scope → Bool → List Expr → Bool
  | .nil, _, _, es => es.isEmpty
  | .cons e r, sc, c, es => match es with | e' :: r' => isE e sc c e' && isEs r sc c r' | [] => false
def isO : Exo → Scope → Bool → Option Expr → Bool
  | .none, _, _, e => e.isNone
  | .some e, sc, c, e' => match e' with | some x => isE e sc c x | none => false
def isI : It → Scope → Bool → Expr → Bool
  | .val e, sc, c, e' => isE e sc c e'
  | .rng a, sc, c, e => match e with | .Call (.Name x _) [a'] [] _ => x == ("range" : Str) && glB sc x && isE a sc c a' | _ => false
  | .rng2 a b, sc, c, e => match e with | .Call (.Name x _) [a', b'] [] _ => x == ("range" : Str) && glB sc x && isE a sc c a' && isE b sc c b' | _ => false
  | .enu a, sc, c, e => match e with | .Call (.Name x _) [a'] [] _ => x == ("enumerate" : Str) && glB sc x && isE a sc c a' | _ => false
  | .rev a, sc, c, e => match e with | .Call (.Name x _) [a'] [] _ => x == ("reversed" : Str) && glB sc x && isE a sc c a' | _ => false
def isG : Tg → Scope → Bool → Expr → Bool
  | .name i, sc, _, e => match e with | .Name x _ => N[i]? == some x && locB sc x | _ => false
  | .tup ts, sc, c, e => match e with | .Tuple es _ _ => c && isGs ts sc c es | _ => false
  | .sub o i, sc, c, e => match e with | .Subscript o' i' _ => isE o sc c o' && isE i sc c i' | _ => false
  | .att o C f, sc, c, e => match e with | .Attribute o' f' _ => f == f' && T.ats.contains (C, f) && isE o sc c o' | _ => false
def isGs : Tgs → Scope → Bool → List Expr → Bool
  | .nil, _, _, es => es.isEmpty
  | .cons t r, sc, c, es => match es with | e' :: r' => isG t sc c e' && isGs r sc c r' | [] => false
end
def compB : Expr → Bool
  | .ListComp .. | .SetComp .. | .DictComp .. => true
  | _ => false
def nameB : Expr → Bool
  | .Name .. => true
  | .Attribute .. => true
  | _ => false
def smsLen : Sms → Nat
  | .nil => 0
  | .cons _ r => smsLen r + 1
mutual
def isS : Sm → Scope → Bool → Stmt → Bool
  | .nev, _, _, _ => true
  | .rai0 k, sc, c, s => match s with | .Raise (some (.Call (.Name x _) [.Constant (.str _) _ _] [] _)) none _ => c && x == cn k && T.cls.contains k && glB sc x && nameOk x | _ => false
  | .rai k es, sc, c, s => match s with | .Raise (some (.Call (.Name x _) es' [] _)) none _ => c && x == cn k && T.rxs.contains k && es.len == (fieldsOf k).length && glB sc x && nameOk x && isEs T N es sc c es' && !es'.isEmpty | _ => false
  | .exp e, sc, c, s => match s with | .Expr e' _ => isE T N e sc c e' && !compB e' | _ => false
  | .ret e, sc, c, s => match s with | .Return (some e') _ => isE T N e sc c e' | _ => false
  | .retN, _, _, s => match s with | .Return none _ => true | _ => false
  | .asg t e, sc, c, s => match s with | .Assign [t'] e' _ => isG T N t sc c t' && isE T N e sc c e' && !compB e' && !tupB e' || (nameB t' && isG T N t sc c t' && isE T N e sc c e' && !compB e') | _ => false
  | .asc i e, sc, c, s => match s with
    | .Assign [.Name y py] (.ListComp el gs scope pos) _ => c && sc.kind == .function && N[i]? == some y && (match sc.names.lookup y with | some .local => true | _ => false) && (py.line == pos.line) && !(scope.names.any fun (n, k) => n == y && (k == .local || k == .cell)) && isE T N e sc c (.ListComp el gs scope pos)
    | _ => false
  | .ifs t a b, sc, c, s => match s with | .If t' a' b' _ => isE T N t sc c t' && isSs a sc c a' && isSs b sc c b' | _ => false
  | .fors t it body, sc, c, s => match s with | .For t' it' body' [] _ => c && isG T N t sc c t' && isI T N it sc c it' && !setB it' && (!itB it || tupB t') && isSs body sc c body' | _ => false
  | .whl t body, sc, c, s => match s with | .While t' body' [] _ => c && isE T N t sc c t' && isSs body sc c body' | _ => false
  | .pas, _, _, s => match s with | .Pass _ => true | _ => false
  | .brk, _, _, s => match s with | .Break _ => true | _ => false
  | .cnt, _, _, s => match s with | .Continue _ => true | _ => false
def isSs : Sms → Scope → Bool → List Stmt → Bool
  | .nil, _, _, s => s.isEmpty
  | .cons a r, sc, c, s => match s with | s' :: r' => isS a sc c s' && isSs r sc c r' | [] => false
end
/-- a try at a def's level -/
def isTry (B : TryB) (sc : Scope) (ss : List Stmt) : Bool := match ss.drop (ss.length - smsLen B.post - 1) with
  | .Try body [.ExceptHandler (some (.Name x _)) nm (s0 :: suite) _] [] [] _ :: rest =>
    isSs T N B.pre sc true (ss.take (ss.length - smsLen B.post - 1)) && isSs T N B.body sc true body && isSs T N B.post sc true rest && T.all.contains B.cls && x == cn B.cls && glB sc x && nameOk x &&
      (match B.as, nm with
        | some i, some n => N[i]? == some n && (match sc.names.lookup n with | some .local => true | _ => false)
        | none, none => true
        | _, _ => false) && isSs T N B.suite sc false (s0 :: suite)
  | _ => false
end
end Dl
section
set_option maxRecDepth 100000
namespace Dl
open PySem PySem.Spec PyProof.Rows L2
def cvK (K : PySem.W.Frag) (k : Nat) : Value := if k = 100 then .type "ValueError" else .ref (He.ga K (cn k))
def excB (K : PySem.W.Frag) (D : Addr) : Bool :=
  (decide (PySem.W.findIn K (.ref D) "__getattribute__" = some (some (.builtin "BaseException.__getattribute__"))) && decide (PySem.W.findIn K (.ref D) "__getattr__" = some none) && decide (PySem.W.subIn K (.ref D) (.type "BaseException") = some true) && PySem.W.hasDictIn K D) &&
  (decide (PySem.W.findIn K (.ref D) "__class__" = some (some (.builtin "object.__class__"))) && decide (PySem.W.specialIn K (.builtin "object.__class__") "__get__" = some (some (.builtin "getset_descriptor.__get__"))) && decide (PySem.W.takesIn K (.builtin "object.__class__") = some true) && decide (PySem.W.mroIn K D (.type "object") = some true))
def clsB (ks : List Nat) (K : PySem.W.Frag) : Bool := ks.all fun j => decide (PySem.W.nsIn K mainGlobals (cn j) = some (some (.ref (He.ga K (cn j))))) && excB K (He.ga K (cn j)) && (L2.xfB K (He.ga K (cn j)) && (["at", "word", "number"] : List Str).all fun f => decide (PySem.W.findIn K (.ref (He.ga K (cn j))) f = some none)) &&
  (ks ++ [100]).all (fun k => decide (PySem.W.kitOne K (.ref (He.ga K (cn j))) (cvK K k) = some (subC j k))) && ks.all fun k => decide (PySem.W.exmOne K (.ref (He.ga K (cn j))) (.ref (He.ga K (cn k))) = some (subC j k))
def freeNames : List Str := ["len", "max", "min", "list", "tuple", "range", "enumerate", "reversed", "isinstance", "int", "bool", "str", "dict", "sorted", "set", "sum", "ValueError"]
def oexB (K : PySem.W.Frag) (C : Addr) : Bool := (match K.lookup C with
  | some ⟨.type "type", _, .cls cd, sl⟩ => (match cd.mro, sl.toList with
    | .ref C' :: bm, [_, _, _, _, some (.builtin n), _] => C' == C && (n == "ValueError.__new__" && (!cd.hasDel && (cd.hasDict && PySem.HandSPX.refsVE bm)))
    | _, _ => false)
  | _ => false) && (decide (PySem.W.findIn K (.ref C) "__setattr__" = some (some (.builtin "object.__setattr__"))) && (decide (PySem.W.subIn K (.ref C) (.type "BaseException") = some true) && (decide (PySem.W.typeIn K (.ref C) = some (.type "type")) && PySem.W.keepIn K (.ref C))))
def iniB (K : PySem.W.Frag) (c : Nat) : Bool := oexB K (He.ga K (cn c)) && (decide (PySem.W.findIn K (.ref (He.ga K (cn c))) "__init__" = some (some (.ref (He.ma K (He.ga K (cn c)) "__init__")))) && (decide (PySem.W.typeIn K (.ref (He.ma K (He.ga K (cn c)) "__init__")) = some (.type "function")) &&
  (fieldsOf c).all fun f => decide (PySem.W.findIn K (.ref (He.ga K (cn c))) f = some none)))
def tvB : List D → List Value → Bool
  | [], us => us.isEmpty
  | d :: ds, us => match us with
    | u :: us => (match d, u with
      | .int i, .int j _ => decide (i = j)
      | .str z, .str y _ => decide (z = y)
      | _, _ => false) && tvB ds us
    | [] => false
def gtupB (K : PySem.W.Frag) (x : Str) (ds : List D) : Bool := match PySem.W.nsIn K mainGlobals x with
  | some (some (.ref a)) => (match K.lookup a with
    | some ⟨.type c, _, .seq its _, _⟩ => c == "tuple" && (decide (its.size ≤ 1000) && tvB ds its.toList)
    | _ => false)
  | _ => false
def clsDef (s : Stmt) (j : Nat) : Stmt := match s with
  | .ClassDef _ _ _ body _ _ _ _ _ _ _ => body.getD j (.Pass ⟨0, 0, 0, 0⟩)
  | s => s
end Dl
end
section
set_option maxRecDepth 100000
set_option maxHeartbeats 0
/-! the head of k13, written by head.py -/
namespace Hd
open Dl
open PySem PySem.Spec PyProof.Rows L2
def top (i : Nat) : Stmt := PySem.Challenge.pw_crankdrum_k13_machines_and_values_refuse.main.body.getD i (.Pass ⟨0, 0, 0, 0⟩)
def tabF_0 : List (Str × Nat) := [("need_machines", 1), ("need_machine", 1), ("last_place", 1), ("noughts", 1), ("told", 2), ("figures_of", 3), ("power", 2), ("is_name", 1), ("input_of", 2), ("is_input", 3), ("is_turns", 2), ("is_deed", 2), ("is_side", 3), ("is_claim", 2), ("must_books", 3), ("need_book", 2)]
def tabF_1 : List (Str × Nat) := [("gone_on", 4), ("first_part", 3), ("one_carry", 5), ("all_carries", 5), ("turned", 3), ("with_counts", 3), ("crank", 4), ("with_slides", 3), ("wiped", 2), ("at_place", 3), ("need_values", 3), ("worked", 3), ("_law_power", 2), ("_law_next", 2), ("", 0), ("", 0)]
def tabF_2 : List (Str × Nat) := [("", 0), ("", 0), ("", 0), ("", 0), ("", 0), ("", 0), ("", 0), ("", 0), ("", 0), ("", 0), ("", 0), ("", 0), ("", 0), ("number_sum", 1), ("letter_sum", 1), ("added", 3)]
def tabF_3 : List (Str × Nat) := [("without_noughts", 1), ("timed", 2), ("surely_least", 2), ("root_below", 1), ("looked", 2), ("root", 2), ("product", 3), ("quotient", 3), ("worked", 3), ("need_book", 2), ("looked", 2), ("done", 3), ("settled", 5), ("carried", 5), ("spun", 3), ("need_machine", 1)]
def tabF_4 : List (Str × Nat) := [("top", 1), ("begin", 1), ("", 0), ("", 0), ("", 0), ("", 0), ("", 0), ("", 0), ("", 0), ("", 0), ("", 0), ("", 0), ("must_deeds", 1), ("done", 3), ("_law_machine", 2), ("", 0)]
def tabF_5 : List (Str × Nat) := [("", 0), ("", 0), ("", 0), ("spun", 3), ("carried", 5), ("settled", 5), ("", 0), ("", 0), ("", 0), ("top", 1), ("begin", 1), ("", 0), ("", 0), ("", 0), ("", 0), ("", 0)]
def tabF_6 : List (Str × Nat) := [("", 0), ("", 0), ("", 0), ("", 0), ("", 0), ("", 0), ("need_manuals", 1), ("product", 3), ("quotient", 3), ("root", 2), ("", 0), ("", 0), ("", 0), ("", 0), ("", 0), ("", 0)]
def tabF_7 : List (Str × Nat) := [("", 0), ("", 0), ("", 0), ("", 0), ("", 0), ("", 0), ("", 0), ("", 0), ("", 0), ("", 0), ("", 0), ("", 0), ("", 0), ("", 0), ("", 0), ("", 0)]
def tabF_8 : List (Str × Nat) := [("", 0), ("", 0), ("_law_ask", 2), ("_law_kind", 1), ("_law_bad", 2), ("law", 1)]
def tabF : List (Str × Nat) := tabF_0 ++ (tabF_1 ++ (tabF_2 ++ (tabF_3 ++ (tabF_4 ++ (tabF_5 ++ (tabF_6 ++ (tabF_7 ++ (tabF_8))))))))
def tabG : List Str := ["MOST_COUNTERS", "MOST_WHEELS", "MOST_SLIDES", "LEAST_BASE", "MOST_BASE", "LETTERS", "KEPT_WORDS", "MOST_LETTERS", "TALLIES", "WAYS", "MOST_NUMBER", "DEEPEST", "MOST_CLAIMS", "MOST_DEEDS", "MOST_INPUTS"]
def T : Tab := { fns := tabF, gls := tabG, cls := [0, 1, 2, 4, 6], all := [0, 1, 2, 3, 4, 5, 6], rxs := [3, 5], mts := [(139, "Worker", "turn", 3), (140, "Worker", "setting", 1), (141, "Worker", "until_bell", 3), (142, "Worker", "do", 2), (143, "Worker", "shift", 2)], mks := [(138, "Worker", 3)], ats := [("Worker", "given"), ("Worker", "machine"), ("Worker", "stand")], gfs := ["begin", "looked", "need_book", "need_machine", "product", "quotient", "top"], lds := [(131, "_law_kind")], lsc := [defScope (top 92), defScope (top 94)] }
def exB (K : PySem.W.Frag) : Bool := clsB [0, 1, 2, 3, 4, 5, 6] K && (([3, 5].all (iniB K)) && (gtupB K "KEPT_WORDS" [.str "wheels", .str "counts"] && (gtupB K "TALLIES" [.int (-1), .int (0), .int (1)] && (gtupB K "WAYS" [.int (1), .int (-1)] && (true)))))
def Γ0 : Gam := { v := fun g => if g = 0 then some (.int (10)) else (if g = 1 then some (.int (16)) else (if g = 2 then some (.int (6)) else (if g = 3 then some (.int (2)) else (if g = 4 then some (.int (12)) else (if g = 5 then some (.str "abcdefghijklmnopqrstuvwxyz") else (if g = 6 then some (.tup [.str "wheels", .str "counts"]) else (if g = 7 then some (.int (8)) else (if g = 8 then some (.tup [.int (-1), .int (0), .int (1)]) else (if g = 9 then some (.tup [.int (1), .int (-1)]) else (if g = 10 then some (.int (1000000000)) else (if g = 11 then some (.int (4)) else (if g = 12 then some (.int (8)) else (if g = 13 then some (.int (40)) else (if g = 14 then some (.int (4)) else (none))))))))))))))), all := [0, 1, 2, 3, 4, 5, 6] }
def faG_0 : List He.Fa := [.glo "need_machines", .glo "need_machine", .glo "last_place", .glo "top", .glo "noughts", .glo "begin", .glo "told", .glo "figures_of", .glo "power", .glo "is_name", .glo "input_of", .glo "is_input", .glo "is_turns", .glo "is_deed", .glo "is_side", .glo "is_claim"]
def faG_1 : List He.Fa := [.glo "must_books", .glo "need_book", .glo "gone_on", .glo "first_part", .glo "spun", .glo "one_carry", .glo "carried", .glo "all_carries", .glo "settled", .glo "turned", .glo "must_deeds", .glo "with_counts", .glo "crank", .glo "with_slides", .glo "wiped", .glo "at_place"]
def faG_2 : List He.Fa := [.glo "done", .glo "number_sum", .glo "letter_sum", .glo "added", .glo "without_noughts", .glo "timed", .glo "surely_least", .glo "root_below", .glo "looked", .glo "need_manuals", .glo "product", .glo "quotient", .glo "root", .glo "need_values", .glo "worked", .glo "_law_power"]
def faG_3 : List He.Fa := [.glo "_law_next", .glo "_law_machine", .glo "_law_ask", .glo "_law_kind", .glo "_law_bad", .glo "law"]
def faG : List He.Fa := faG_0 ++ (faG_1 ++ (faG_2 ++ (faG_3)))
def faC_0 : List He.Fa := [.int "MOST_COUNTERS" (10), .int "MOST_WHEELS" (16), .int "MOST_SLIDES" (6), .int "LEAST_BASE" (2), .int "MOST_BASE" (12), .str "LETTERS" "abcdefghijklmnopqrstuvwxyz", .int "MOST_LETTERS" (8), .int "MOST_NUMBER" (1000000000), .int "DEEPEST" (4), .int "MOST_CLAIMS" (8), .int "MOST_DEEDS" (40), .int "MOST_INPUTS" (4), .glo "DrumError", .exc "DrumError", .glo "BadMachine", .exc "BadMachine"]
def faC_1 : List He.Fa := [.glo "BadDeed", .exc "BadDeed", .glo "BadValue", .exc "BadValue", .glo "TooSmall", .exc "TooSmall", .glo "BadBook", .glo "Stuck", .glo "Worker", .cls "Worker", .mkr "Worker", .meth "Worker" "turn", .meth "Worker" "setting", .meth "Worker" "until_bell", .meth "Worker" "do", .meth "Worker" "shift"]
def faC_2 : List He.Fa := [.noat "Worker" "given", .noat "Worker" "machine", .noat "Worker" "stand"]
def faC : List He.Fa := faC_0 ++ (faC_1 ++ (faC_2))
def fa : List He.Fa := freeNames.map .free ++ (faG ++ faC)
def d_14 : He.DefD := ⟨("need_machines", none), "need", "need", defArgs (top 14), defBody (top 14), defScope (top 14), [], []⟩
def d_16 : He.DefD := ⟨("need_machine", none), "need_machine", "need_machine", defArgs (top 16), defBody (top 16), defScope (top 16), [], []⟩
def d_17 : He.DefD := ⟨("last_place", none), "last_place", "last_place", defArgs (top 17), defBody (top 17), defScope (top 17), [], []⟩
def d_18 : He.DefD := ⟨("top", none), "top", "top", defArgs (top 18), defBody (top 18), defScope (top 18), [], []⟩
def d_19 : He.DefD := ⟨("noughts", none), "noughts", "noughts", defArgs (top 19), defBody (top 19), defScope (top 19), [], []⟩
def d_20 : He.DefD := ⟨("begin", none), "begin", "begin", defArgs (top 20), defBody (top 20), defScope (top 20), [], []⟩
def d_21 : He.DefD := ⟨("told", none), "told", "told", defArgs (top 21), defBody (top 21), defScope (top 21), [], []⟩
def d_22 : He.DefD := ⟨("figures_of", none), "figures_of", "figures_of", defArgs (top 22), defBody (top 22), defScope (top 22), [], []⟩
def d_23 : He.DefD := ⟨("power", none), "power", "power", defArgs (top 23), defBody (top 23), defScope (top 23), [], []⟩
def d_35 : He.DefD := ⟨("is_name", none), "is_name", "is_name", defArgs (top 35), defBody (top 35), defScope (top 35), [], []⟩
def d_36 : He.DefD := ⟨("input_of", none), "input_of", "input_of", defArgs (top 36), defBody (top 36), defScope (top 36), [], []⟩
def d_37 : He.DefD := ⟨("is_input", none), "is_input", "is_input", defArgs (top 37), defBody (top 37), defScope (top 37), [], []⟩
def d_38 : He.DefD := ⟨("is_turns", none), "is_turns", "is_turns", defArgs (top 38), defBody (top 38), defScope (top 38), [], []⟩
def d_39 : He.DefD := ⟨("is_deed", none), "is_deed", "is_deed", defArgs (top 39), defBody (top 39), defScope (top 39), [], []⟩
def d_40 : He.DefD := ⟨("is_side", none), "is_side", "is_side", defArgs (top 40), defBody (top 40), defScope (top 40), [], []⟩
def d_41 : He.DefD := ⟨("is_claim", none), "is_claim", "is_claim", defArgs (top 41), defBody (top 41), defScope (top 41), [], []⟩
def d_42 : He.DefD := ⟨("must_books", none), "must", "must", defArgs (top 42), defBody (top 42), defScope (top 42), [], []⟩
def d_44 : He.DefD := ⟨("need_book", none), "need_book", "need_book", defArgs (top 44), defBody (top 44), defScope (top 44), [], []⟩
def d_46 : He.DefD := ⟨("gone_on", none), "gone_on", "gone_on", defArgs (top 46), defBody (top 46), defScope (top 46), [], []⟩
def d_47 : He.DefD := ⟨("first_part", none), "first_part", "first_part", defArgs (top 47), defBody (top 47), defScope (top 47), [], []⟩
def d_48 : He.DefD := ⟨("spun", none), "spun", "spun", defArgs (top 48), defBody (top 48), defScope (top 48), [], []⟩
def d_49 : He.DefD := ⟨("one_carry", none), "one_carry", "one_carry", defArgs (top 49), defBody (top 49), defScope (top 49), [], []⟩
def d_50 : He.DefD := ⟨("carried", none), "carried", "carried", defArgs (top 50), defBody (top 50), defScope (top 50), [], []⟩
def d_51 : He.DefD := ⟨("all_carries", none), "all_carries", "all_carries", defArgs (top 51), defBody (top 51), defScope (top 51), [], []⟩
def d_52 : He.DefD := ⟨("settled", none), "settled", "settled", defArgs (top 52), defBody (top 52), defScope (top 52), [], []⟩
def d_53 : He.DefD := ⟨("turned", none), "turned", "turned", defArgs (top 53), defBody (top 53), defScope (top 53), [], []⟩
def d_55 : He.DefD := ⟨("must_deeds", none), "must", "must", defArgs (top 55), defBody (top 55), defScope (top 55), [], []⟩
def d_57 : He.DefD := ⟨("with_counts", none), "with_counts", "with_counts", defArgs (top 57), defBody (top 57), defScope (top 57), [], []⟩
def d_58 : He.DefD := ⟨("crank", none), "crank", "crank", defArgs (top 58), defBody (top 58), defScope (top 58), [], []⟩
def d_59 : He.DefD := ⟨("with_slides", none), "with_slides", "with_slides", defArgs (top 59), defBody (top 59), defScope (top 59), [], []⟩
def d_60 : He.DefD := ⟨("wiped", none), "wiped", "wiped", defArgs (top 60), defBody (top 60), defScope (top 60), [], []⟩
def d_61 : He.DefD := ⟨("at_place", none), "at_place", "at_place", defArgs (top 61), defBody (top 61), defScope (top 61), [], []⟩
def d_62 : He.DefD := ⟨("done", none), "done", "done", defArgs (top 62), defBody (top 62), defScope (top 62), [], []⟩
def d_64 : He.DefD := ⟨("number_sum", none), "number_sum", "number_sum", defArgs (top 64), defBody (top 64), defScope (top 64), [], []⟩
def d_65 : He.DefD := ⟨("letter_sum", none), "letter_sum", "letter_sum", defArgs (top 65), defBody (top 65), defScope (top 65), [], []⟩
def d_66 : He.DefD := ⟨("added", none), "added", "added", defArgs (top 66), defBody (top 66), defScope (top 66), [], []⟩
def d_67 : He.DefD := ⟨("without_noughts", none), "without_noughts", "without_noughts", defArgs (top 67), defBody (top 67), defScope (top 67), [], []⟩
def d_68 : He.DefD := ⟨("timed", none), "timed", "timed", defArgs (top 68), defBody (top 68), defScope (top 68), [], []⟩
def d_69 : He.DefD := ⟨("surely_least", none), "surely_least", "surely_least", defArgs (top 69), defBody (top 69), defScope (top 69), [], []⟩
def d_71 : He.DefD := ⟨("root_below", none), "root_below", "root_below", defArgs (top 71), defBody (top 71), defScope (top 71), [], []⟩
def d_72_0 : He.DefD := ⟨("Known", some "__init__"), "__init__", "Known.__init__", defArgs (clsDef (top 72) 0), defBody (clsDef (top 72) 0), defScope (clsDef (top 72) 0), [], []⟩
def d_72_1 : He.DefD := ⟨("Known", some "more"), "more", "Known.more", defArgs (clsDef (top 72) 1), defBody (clsDef (top 72) 1), defScope (clsDef (top 72) 1), [], []⟩
def d_73_0 : He.DefD := ⟨("Look", some "__init__"), "__init__", "Look.__init__", defArgs (clsDef (top 73) 0), defBody (clsDef (top 73) 0), defScope (clsDef (top 73) 0), [], []⟩
def d_73_1 : He.DefD := ⟨("Look", some "unit"), "unit", "Look.unit", defArgs (clsDef (top 73) 1), defBody (clsDef (top 73) 1), defScope (clsDef (top 73) 1), [], []⟩
def d_73_2 : He.DefD := ⟨("Look", some "just"), "just", "Look.just", defArgs (clsDef (top 73) 2), defBody (clsDef (top 73) 2), defScope (clsDef (top 73) 2), [], []⟩
def d_73_3 : He.DefD := ⟨("Look", some "figure"), "figure", "Look.figure", defArgs (clsDef (top 73) 3), defBody (clsDef (top 73) 3), defScope (clsDef (top 73) 3), [], []⟩
def d_73_4 : He.DefD := ⟨("Look", some "value"), "value", "Look.value", defArgs (clsDef (top 73) 4), defBody (clsDef (top 73) 4), defScope (clsDef (top 73) 4), [], []⟩
def d_73_5 : He.DefD := ⟨("Look", some "new_letter"), "new_letter", "Look.new_letter", defArgs (clsDef (top 73) 5), defBody (clsDef (top 73) 5), defScope (clsDef (top 73) 5), [], []⟩
def d_73_6 : He.DefD := ⟨("Look", some "tally"), "tally", "Look.tally", defArgs (clsDef (top 73) 6), defBody (clsDef (top 73) 6), defScope (clsDef (top 73) 6), [], []⟩
def d_73_7 : He.DefD := ⟨("Look", some "turns"), "turns", "Look.turns", defArgs (clsDef (top 73) 7), defBody (clsDef (top 73) 7), defScope (clsDef (top 73) 7), [], []⟩
def d_73_8 : He.DefD := ⟨("Look", some "taken"), "taken", "Look.taken", defArgs (clsDef (top 73) 8), defBody (clsDef (top 73) 8), defScope (clsDef (top 73) 8), [], []⟩
def d_73_9 : He.DefD := ⟨("Look", some "bell"), "bell", "Look.bell", defArgs (clsDef (top 73) 9), defBody (clsDef (top 73) 9), defScope (clsDef (top 73) 9), [], []⟩
def d_73_10 : He.DefD := ⟨("Look", some "odds"), "odds", "Look.odds", defArgs (clsDef (top 73) 10), defBody (clsDef (top 73) 10), defScope (clsDef (top 73) 10), [], []⟩
def d_73_11 : He.DefD := ⟨("Look", some "step"), "step", "Look.step", defArgs (clsDef (top 73) 11), defBody (clsDef (top 73) 11), defScope (clsDef (top 73) 11), [], []⟩
def d_73_12 : He.DefD := ⟨("Look", some "wipe"), "wipe", "Look.wipe", defArgs (clsDef (top 73) 12), defBody (clsDef (top 73) 12), defScope (clsDef (top 73) 12), [], []⟩
def d_73_13 : He.DefD := ⟨("Look", some "side"), "side", "Look.side", defArgs (clsDef (top 73) 13), defBody (clsDef (top 73) 13), defScope (clsDef (top 73) 13), [], []⟩
def d_73_14 : He.DefD := ⟨("Look", some "holds"), "holds", "Look.holds", defArgs (clsDef (top 73) 14), defBody (clsDef (top 73) 14), defScope (clsDef (top 73) 14), [], []⟩
def d_74 : He.DefD := ⟨("looked", none), "looked", "looked", defArgs (top 74), defBody (top 74), defScope (top 74), [], []⟩
def d_78 : He.DefD := ⟨("need_manuals", none), "need", "need", defArgs (top 78), defBody (top 78), defScope (top 78), [], []⟩
def d_80 : He.DefD := ⟨("product", none), "product", "product", defArgs (top 80), defBody (top 80), defScope (top 80), [], []⟩
def d_81 : He.DefD := ⟨("quotient", none), "quotient", "quotient", defArgs (top 81), defBody (top 81), defScope (top 81), [], []⟩
def d_82 : He.DefD := ⟨("root", none), "root", "root", defArgs (top 82), defBody (top 82), defScope (top 82), [], []⟩
def d_84_0 : He.DefD := ⟨("Worker", some "__init__"), "__init__", "Worker.__init__", defArgs (clsDef (top 84) 0), defBody (clsDef (top 84) 0), defScope (clsDef (top 84) 0), [], []⟩
def d_84_1 : He.DefD := ⟨("Worker", some "turn"), "turn", "Worker.turn", defArgs (clsDef (top 84) 1), defBody (clsDef (top 84) 1), defScope (clsDef (top 84) 1), [], []⟩
def d_84_2 : He.DefD := ⟨("Worker", some "setting"), "setting", "Worker.setting", defArgs (clsDef (top 84) 2), defBody (clsDef (top 84) 2), defScope (clsDef (top 84) 2), [], []⟩
def d_84_3 : He.DefD := ⟨("Worker", some "until_bell"), "until_bell", "Worker.until_bell", defArgs (clsDef (top 84) 3), defBody (clsDef (top 84) 3), defScope (clsDef (top 84) 3), [], []⟩
def d_84_4 : He.DefD := ⟨("Worker", some "do"), "do", "Worker.do", defArgs (clsDef (top 84) 4), defBody (clsDef (top 84) 4), defScope (clsDef (top 84) 4), [], []⟩
def d_84_5 : He.DefD := ⟨("Worker", some "shift"), "shift", "Worker.shift", defArgs (clsDef (top 84) 5), defBody (clsDef (top 84) 5), defScope (clsDef (top 84) 5), [], []⟩
def d_85 : He.DefD := ⟨("need_values", none), "need_values", "need_values", defArgs (top 85), defBody (top 85), defScope (top 85), [], []⟩
def d_86 : He.DefD := ⟨("worked", none), "worked", "worked", defArgs (top 86), defBody (top 86), defScope (top 86), [], []⟩
def d_88 : He.DefD := ⟨("_law_power", none), "_law_power", "_law_power", defArgs (top 88), defBody (top 88), defScope (top 88), [], []⟩
def d_89 : He.DefD := ⟨("_law_next", none), "_law_next", "_law_next", defArgs (top 89), defBody (top 89), defScope (top 89), [], []⟩
def d_90 : He.DefD := ⟨("_law_machine", none), "_law_machine", "_law_machine", defArgs (top 90), defBody (top 90), defScope (top 90), [], []⟩
def d_91 : He.DefD := ⟨("_law_ask", none), "_law_ask", "_law_ask", defArgs (top 91), defBody (top 91), defScope (top 91), [], []⟩
def d_92 : He.DefD := ⟨("_law_kind", none), "_law_kind", "_law_kind", defArgs (top 92), defBody (top 92), defScope (top 92), [], []⟩
def d_93 : He.DefD := ⟨("_law_bad", none), "_law_bad", "_law_bad", defArgs (top 93), defBody (top 93), defScope (top 93), [], []⟩
def d_94 : He.DefD := ⟨("law", none), "law", "law", defArgs (top 94), defBody (top 94), defScope (top 94), [], []⟩
def x_BadBook : He.DefD := ⟨("BadBook", some "__init__"), "__init__", "BadBook.__init__", defArgs (clsDef (top 4) 0), defBody (clsDef (top 4) 0), defScope (clsDef (top 4) 0), [], []⟩
def x_Stuck : He.DefD := ⟨("Stuck", some "__init__"), "__init__", "Stuck.__init__", defArgs (clsDef (top 6) 0), defBody (clsDef (top 6) 0), defScope (clsDef (top 6) 0), [], []⟩
def fnL_0 : List He.DefD := [d_14, d_16, d_17, d_18, d_19, d_20, d_21, d_22, d_23, d_35, d_36, d_37, d_38, d_39, d_40, d_41]
def fnL_1 : List He.DefD := [d_42, d_44, d_46, d_47, d_48, d_49, d_50, d_51, d_52, d_53, d_55, d_57, d_58, d_59, d_60, d_61]
def fnL_2 : List He.DefD := [d_62, d_64, d_65, d_66, d_67, d_68, d_69, d_71, d_72_0, d_72_1, d_73_0, d_73_1, d_73_2, d_73_3, d_73_4, d_73_5]
def fnL_3 : List He.DefD := [d_73_6, d_73_7, d_73_8, d_73_9, d_73_10, d_73_11, d_73_12, d_73_13, d_73_14, d_74, d_78, d_80, d_81, d_82, d_84_0, d_84_1]
def fnL_4 : List He.DefD := [d_84_2, d_84_3, d_84_4, d_84_5, d_85, d_86, d_88, d_89, d_90, d_91, d_92, d_93, d_94, x_BadBook, x_Stuck]
def fnL : List He.DefD := fnL_0 ++ (fnL_1 ++ (fnL_2 ++ (fnL_3 ++ (fnL_4))))
abbrev R : PySem.W.OpenRow := PySem.W.OpenLaw.row PySem.Challenge.rw_crankdrum_k13_machines_and_values_refuse
abbrev hk : PySem.W.Hook := He.hookX 4 fa fnL [] [("law", none)] exB
def ob (s : PySem.W.SharedT) : He.AlX := He.obsX 4 fa fnL [] [("law", none)] exB (HandSHeadRun.getT s)
theorem ob_eq (s : PySem.W.SharedT) : ob s = hk.obs s.abs := He.obsX_eq (HandSHeadRun.getT_eq s)
def looseL_0 : List PySem.Str := ["DrumError", "BadMachine", "BadDeed", "BadBook", "BadValue", "Stuck", "TooSmall", "LEAST_BASE", "MOST_BASE", "MOST_SLIDES", "MOST_WHEELS", "MOST_COUNTERS", "need", "need_machines", "need_machine", "last_place"]
def looseL_1 : List PySem.Str := ["top", "noughts", "begin", "told", "figures_of", "power", "LETTERS", "MOST_LETTERS", "MOST_INPUTS", "MOST_DEEDS", "MOST_CLAIMS", "DEEPEST", "MOST_NUMBER", "KEPT_WORDS", "WAYS", "TALLIES"]
def looseL_2 : List PySem.Str := ["is_name", "input_of", "is_input", "is_turns", "is_deed", "is_side", "is_claim", "must", "must_books", "need_book", "gone_on", "first_part", "spun", "one_carry", "carried", "all_carries"]
def looseL_3 : List PySem.Str := ["settled", "turned", "must_deeds", "with_counts", "crank", "with_slides", "wiped", "at_place", "done", "number_sum", "letter_sum", "added", "without_noughts", "timed", "surely_least", "root_below"]
def looseL_4 : List PySem.Str := ["Known", "Look", "looked", "WHEELS", "COUNTS", "need_manuals", "product", "quotient", "root", "Worker", "need_values", "worked", "_law_power", "_law_next", "_law_machine", "_law_ask"]
def looseL_5 : List PySem.Str := ["_law_kind", "_law_bad"]
def looseL : List PySem.Str := looseL_0 ++ (looseL_1 ++ (looseL_2 ++ (looseL_3 ++ (looseL_4 ++ (looseL_5)))))
theorem run (w : World) : HandSHeadRun.RunEq R (PySem.W.view R.prog [94]) hk ob 30000 looseL w := by
  intro os
  kernel_rfl
section
open PySem PySem.W PySem.Calls PyProof.Rows
theorem hd_e : PySem.W.opening R.prog = PySem.W.plainProg R.prog.main.scope.names := by kernel_rfl
theorem hd_f : ∀ s, fenceModules? R.prog s = some s := fun s => by kernel_rfl
theorem hd_d : defOf (PySem.W.view R.prog [94]) R.name = some ((HandSHeadRun.topDef R.prog 94), []) := by kernel_rfl
theorem hd_p : R.prog.theDef R.name = some ((HandSHeadRun.topDef R.prog 94).params, (HandSHeadRun.topDef R.prog 94).body, (HandSHeadRun.topDef R.prog 94).scope) := by kernel_rfl
theorem hd_k : kwWritten? (HandSHeadRun.topDef R.prog 94).params.kwonlyargs (HandSHeadRun.topDef R.prog 94).params.kw_defaults = some [] := by kernel_rfl
theorem hd_1 : R.wellSaid = true := by decide +kernel
theorem hd_2 : (chainsOk (PySem.W.view R.prog [94]) && opensWell R.prog && (frees R.toRowW && R.within.isEmpty)) = true := by decide +kernel
theorem hd_n : (HandSHeadRun.topDef R.prog 94).name = ("law" : PySem.Str) := by kernel_rfl
theorem hd_0 : (HandSHeadRun.topDef R.prog 94).params.defaults = [] := by kernel_rfl
end
end Hd
end
set_option maxRecDepth 100000
/-! Dl4: what the check says of the text's own trees. -/
namespace Dl
open PySem PySem.Spec PyProof.Rows L2
section
variable {T : Tab} {N : List Str}
def badB : Expr → Bool
  | .Starred .. | .Slice .. => true
  | _ => false
theorem isE_bad {p : Ex} {sc : Scope} {c : Bool} {e : Expr} (h : isE T N p sc c e = true) : badB e = false := by
  cases e <;> first
    | rfl
    | (cases p <;> simp [isE] at h)
theorem star_of {e : Expr} (h : badB e = false) (es : List Expr) (env : Env) : starEach (e :: es) env = (false, eval e env) :: starEach es env := by
  cases e <;> first
    | rfl
    | exact Bool.noConfusion (show true = false from h)
theorem plainIx_of {e : Expr} (h : badB e = false) : PlainIx e := Dl.unQ (by
 simp (disch := with_unfolding_all
  refine @id _ ?_
  intro o i
  cases e <;> first
    | rfl
    | exact Bool.noConfusion (show true = false from h)
 ) only [↓Dl.qTrue])
theorem star_list {sc : Scope} {c : Bool} : ∀ {es : List Expr} {p : Exs}, isEs T N p sc c es = true → ∀ (env : Env) (pos : Pos), (backTo pos (starEach es env)).any (·.1) = false
  | [], _, _, _, _ => rfl
  | e :: es, .nil, h, _, _ => by simp [isEs] at h
  | e :: es, .cons p r, h, env, pos => by
    simp only [isEs, Bool.and_eq_true] at h
    rw [star_of (isE_bad h.1)]
    show (false || (backTo pos (starEach es env)).any (·.1)) = false
    rw [star_list (p := r) h.2 env pos] <;> rfl
theorem star_all {sc : Scope} {c : Bool} : ∀ {es : List Expr} {p : Exs}, isEs T N p sc c es = true → ∀ (env : Env) (pos : Pos), (backTo pos (starEach es env)).all (fun x => !x.1) = true
  | [], _, _, _, _ => rfl
  | e :: es, .nil, h, _, _ => by simp [isEs] at h
  | e :: es, .cons p r, h, env, pos => by
    simp only [isEs, Bool.and_eq_true] at h
    rw [star_of (isE_bad h.1)]
    show (true && (backTo pos (starEach es env)).all (fun x => !x.1)) = true
    rw [star_all (p := r) h.2 env pos] <;> rfl
theorem marks_of {e : Expr} (h : setB e = false) (op : CmpOp) : behindInMarks op e = false := by
  cases e <;> first
    | rfl
    | exact Bool.noConfusion (show true = false from h)
theorem marks2_of {b d : Expr} (h : setB d = false) (o1 o2 : CmpOp) : lastMarks [o1, o2] [b, d] = false := marks_of h o2
theorem folded_of {e : Expr} (h : setB e = false) (env : Env) (x : Value) : foldedSetIterable e env x = pure x := by
  cases e <;> first
    | rfl
    | exact Bool.noConfusion (show true = false from h)
theorem swaps_of {e : Expr} (h : compB e = false) (t : Option Expr) (l : Nat) (env : Env) : swapsWith e t l env = pure false := by
  cases e <;> first
    | rfl
    | exact Bool.noConfusion (show true = false from h)
theorem sole_of {t e : Expr} (h : compB e = false) (l : Nat) (env : Env) : swapsWithSole [t] e l env = pure false := swaps_of h _ _ _
theorem stores_of {t e : Expr} (h : (tupB e = false) ∨ nameB t = true) (env : Env) : swappedStores [t] e env = pure none := Dl.unQ (by
 simp (disch := with_unfolding_all
  refine @id _ ?_
  rcases h with h | h
  · cases e <;> first
      | exact Bool.noConfusion (show true = false from h)
      | (cases t <;> rfl)
  · cases t <;> first
      | exact Bool.noConfusion (show false = true from h)
      | rfl
 ) only [↓Dl.qTrue])
theorem meth_eval {o : Expr} {m : Str} {apos pos : Pos} {args : List Expr} {env : Env} (hb : attributeBase o m env (eval o env) = eval o env) (hfew : methodCallForm args.length (backTo pos (starEach args env)) (backToKw pos (keywordEach [] env)) = true) (hl : (apos.endLine == pos.line) = true) :
    eval (.Call (.Attribute o m apos) args [] pos) env = (do
      let ov ← eval o env
      standAt apos.atName
      let (f, first) ← holding [ov] (getMethod ov m (do return (← importBound o env).getD true))
      callWith pos f first (backTo pos (starEach args env)) (backToKw pos (keywordEach [] env))) := Dl.unQ (by
 simp (disch := with_unfolding_all
  refine @id _ ?_
  show (do
    let ov ← attributeBase o m env (eval o env)
    standAt apos.atName
    methodCall o m apos pos env ov (args.length + ([] : List Keyword).length) (backTo pos (starEach args env)) (backToKw pos (keywordEach [] env))) = _
  rw [hb]
  unfold methodCall calleeOf methodCallPos
  rw [show args.length + ([] : List Keyword).length = args.length from rfl, hfew]
  simp [hl]
 ) only [↓Dl.qTrue])
theorem recv_of {o : Expr} (h : recvB o = true) (m : Str) (env : Env) : attributeBase o m env (eval o env) = eval o env := Dl.unQ (by
 simp (disch := with_unfolding_all
  refine @id _ ?_
  cases o with
  | Call f as ks pos =>
    cases f <;> first
      | rfl
      | exact Bool.noConfusion (show false = true from h)
  | _ => first
    | rfl
    | exact Bool.noConfusion (show false = true from h)
 ) only [↓Dl.qTrue])
def tgB : Expr → Bool
  | .Starred .. => true
  | _ => false
theorem isG_bad {p : Tg} {sc : Scope} {c : Bool} {e : Expr} (h : isG T N p sc c e = true) : tgB e = false := by
  cases e <;> first
    | rfl
    | (cases p <;> simp [isG] at h)
theorem each_of {e : Expr} (h : tgB e = false) (es : List Expr) (env : Env) : assignEach (e :: es) env = (false, assign e env) :: assignEach es env := by
  cases e <;> first
    | rfl
    | exact Bool.noConfusion (show true = false from h)
theorem each_len {sc : Scope} {c : Bool} : ∀ {es : List Expr} {p : Tgs}, isGs T N p sc c es = true → ∀ (env : Env), (assignEach es env).length = p.len ∧ (assignEach es env).findIdx? (·.1) = none
  | [], .nil, _, _ => ⟨rfl, rfl⟩
  | [], .cons _ _, h, _ => by simp [isGs] at h
  | e :: es, .nil, h, _ => by simp [isGs] at h
  | e :: es, .cons p r, h, env => by
    simp only [isGs, Bool.and_eq_true] at h
    obtain ⟨h1, h2⟩ := each_len (p := r) h.2 env
    rw [each_of (isG_bad h.1)]
    refine ⟨by rw [List.length_cons, h1]; rfl, ?_⟩
    rw [List.findIdx?_cons]
    simp [h2]
def oddT : Expr → Bool
  | .UnaryOp .Not _ _ | .BoolOp .. | .IfExp .. | .Compare .. => true
  | _ => false
theorem test_of {e : Expr} (h : oddT e = false) (env : Env) (whole : Sem Value) : isTrue e env whole = (do let v ← whole; standAt e.pos; holding [v] (truthy v)) := Dl.unQ (by
 simp (disch := with_unfolding_all
  refine @id _ ?_
  cases e with
  | UnaryOp op a pos => cases op <;> first | rfl | exact Bool.noConfusion (show true = false from h)
  | BoolOp _ _ _ => exact Bool.noConfusion (show true = false from h)
  | IfExp _ _ _ _ => exact Bool.noConfusion (show true = false from h)
  | Compare _ _ _ _ => exact Bool.noConfusion (show true = false from h)
  | _ => rfl
 ) only [↓Dl.qTrue])
end
/-! ### contexts -/
/-- a class of the program that may be raised -/
structure ClsOk (K : PySem.W.Frag) (mg : Str → Option Value) (x : Str) : Prop where
  mg : mg x = some (.ref (He.ga K x))
  exc : PySem.W.excIn K (He.ga K x) He.veBase "ValueError.__new__" = true
  keep : PySem.W.keepIn K (.ref (He.ga K x)) = true
  base : PySem.W.subIn K (.ref (He.ga K x)) (.type "BaseException") = some true
  typ : PySem.W.typeIn K (.ref (He.ga K x)) = some (.type "type")
def cvV (K : PySem.W.Frag) (k : Nat) : V := if k = 100 then .ty "ValueError" else .ref (He.ga K (cn k))
/-- the module's classes, asked after -/
structure ClsAll (K : PySem.W.Frag) (mg : Str → Option Value) (ks : List Nat) : Prop where
  nm : ∀ k, ks.contains k = true → mg (cn k) = some (.ref (He.ga K (cn k)))
  ve : mg ("ValueError" : Str) = none
  kit : ∀ j k, ks.contains j = true → (ks.contains k = true ∨ k = 100) → PySem.W.kitOne K (.ref (He.ga K (cn j))) (cvK K k) = some (subC j k)
  exm : ∀ j k, ks.contains j = true → ks.contains k = true → PySem.W.exmOne K (.ref (He.ga K (cn j))) (.ref (He.ga K (cn k))) = some (subC j k)
  exc : ∀ j, ks.contains j = true → L2.ExcC K (He.ga K (cn j))
  xf : ∀ j, ks.contains j = true → L2.XfC K (He.ga K (cn j)) ∧ ∀ f, f = ("at" : Str) ∨ f = ("word" : Str) ∨ f = ("number" : Str) → PySem.W.findIn K (.ref (He.ga K (cn j))) f = some none
/-- the exception in hand -/
def ExnAt (X : Cx) (ks : List Nat) (a : Addr) (k : Nat) (dd : Option Addr) : Prop := ∃ (X' : Cx) (oe : Obj) (pn : List (Addr × Obj)), X = X'.suite a ((a, oe) :: pn) ∧ Zc (.ref (He.ga X.K (cn k))) dd oe ∧ (∃ vs, oe.data = .fields vs) ∧ ks.contains k = true
/-- an instance's attributes -/
def AtsOk (T : Tab) (K : PySem.W.Frag) : Prop := ∀ C f, T.ats.contains (C, f) = true → Cls K (He.ga K C) ∧ NoAttr K (He.ga K C) f
/-- what is known at a place -/
structure Lk (K : PySem.W.Frag) (W : WX) (σ : List (Option V)) (H : Hp) (σd : SD) (G : GH) (E : XD) : Prop where
  sl : HasS K H σd σ
  ok : GOk K H G
  ex : ∀ H' x cls dd G', Ext H H' → HasX K H' x cls dd → GOk K H' G' → E x G' → W cls dd σ H'
theorem Lk.mv {K : PySem.W.Frag} {W : WX} {σ : List (Option V)} {H H' : Hp} {σd : SD} {G G' : GH} {E : XD} (l : Lk K W σ H σd G E) (e : Ext H H') (g : GOk K H' G') : Lk K W σ H' σd G' E :=
  ⟨l.sl.ext e, g, fun H2 x cls dd G2 e2 => l.ex H2 x cls dd G2 (e.trans e2)⟩
abbrev PD := XD → SD → GH → QD → Prop
def liftE (K : PySem.W.Frag) (W : WX) (t : PD) : TE := fun σ H Q => ∃ σd G Qd E, Lk K W σ H σd G E ∧ t E σd G Qd ∧ Fin K H Qd Q
structure Good (T : Tab) (Δ : Nat → Option Spec) (Γ : Gam) (k : Nat) (W : WX) (c : Bool) (X : Cx) : Prop where
  room : c = true → Room k X.A
  calm : c = true → X.calm = true
  units : X.A.units + 70 < cLine
  nd : X.N.Nodup
  tk : Takes X W
  gls : ∀ g x d, T.gls[g]? = some x → Γ g = some d → ∃ u v, X.mg x = some u ∧ RelV v u ∧ ∀ H, Has X.K H d v
  cls : ∀ k, T.cls.contains k = true → ClsOk X.K X.mg (cn k)
  kls : ClsAll X.K X.mg T.all
  exn : c = false → ∀ a k d, Γ.x = some (a, k, d) → ExnAt X T.all a k d
  ats : AtsOk T X.K
  gfs : ∀ x, T.gfs.contains x = true → X.mg x = some (.ref (He.ga X.K x))
  blt : ∀ f, X.mg (bfN f) = none
  blt2 : ∀ x, x ∈ (["range", "enumerate", "reversed", "isinstance", "int", "bool", "str", "list", "tuple", "dict", "set", "sorted"] : List Str) → X.mg x = none
  act : c = true → ∀ i e, isE T X.N (.act i) X.env.scope true e = true → PE X e (liftE X.K W (wpE Δ Γ (.act i)))
  lam : c = true → ∀ x g b e, isE T X.N (.lamc x g b) X.env.scope true e = true → PE X e (liftE X.K W (wpE Δ Γ (.lamc x g b)))
/-- neither a lambda nor what is handed -/
theorem act0 {T : Tab} {Δ : Nat → Option Spec} {Γ : Gam} {W : WX} {X : Cx} (h : Γ.act = none) : ∀ i e, isE T X.N (.act i) X.env.scope true e = true → PE X e (liftE X.K W (wpE Δ Γ (.act i))) := fun i e _ =>
  ⟨fun pins s σ H Q I w => by obtain ⟨σd, G, Qd, E, l, q, f⟩ := w; simp only [wpE, h] at q⟩
theorem lam0 {T : Tab} {Δ : Nat → Option Spec} {Γ : Gam} {W : WX} {X : Cx} (h : ∀ g, Γ.l g = none) : ∀ x g b e, isE T X.N (.lamc x g b) X.env.scope true e = true → PE X e (liftE X.K W (wpE Δ Γ (.lamc x g b))) := fun x g b e _ =>
  ⟨fun pins s σ H Q I w => by obtain ⟨σd, G, Qd, E, l, q, f⟩ := w; simp only [wpE, h] at q⟩
theorem act_sc {T : Tab} {N : List Str} {i : Nat} {sc : Scope} {c : Bool} {e : Expr} (h : isE T N (.act i) sc c e = true) : T.lsc.contains sc = true ∧ c = true := Dl.unQ (by
 simp (disch := with_unfolding_all
  refine @id _ ?_
  simp only [isE] at h
  split at h
  · simp only [Bool.and_eq_true] at h
    exact ⟨h.1.1.1.2, h.1.1.1.1⟩
  · cases h
 ) only [↓Dl.qTrue])
theorem lam_sc {T : Tab} {N : List Str} {x : Str} {g : Nat} {b : Ex} {sc : Scope} {c : Bool} {e : Expr} (h : isE T N (.lamc x g b) sc c e = true) : T.lsc.contains sc = true ∧ c = true := Dl.unQ (by
 simp (disch := with_unfolding_all
  refine @id _ ?_
  simp only [isE] at h
  split at h
  · simp only [Bool.and_eq_true] at h
    exact ⟨h.1.1.1.1.1.1.2, h.1.1.1.1.1.1.1⟩
  · cases h
 ) only [↓Dl.qTrue])
theorem act_blk {T : Tab} {Δ : Nat → Option Spec} {Γ : Gam} {W : WX} {X : Cx} (h : T.lsc.contains X.env.scope = false) : ∀ i e, isE T X.N (.act i) X.env.scope true e = true → PE X e (liftE X.K W (wpE Δ Γ (.act i))) := fun i e q => by
  have := (act_sc q).1; rw [h] at this; cases this
theorem lam_blk {T : Tab} {Δ : Nat → Option Spec} {Γ : Gam} {W : WX} {X : Cx} (h : T.lsc.contains X.env.scope = false) : ∀ x g b e, isE T X.N (.lamc x g b) X.env.scope true e = true → PE X e (liftE X.K W (wpE Δ Γ (.lamc x g b))) := fun x g b e q => by
  have := (lam_sc q).1; rw [h] at this; cases this
def liftA (K : PySem.W.Frag) (W : WX) (n : Nat) (t : XD → SD → GH → (List D → GH → Prop) → Prop) : TA := fun σ H Q => ∃ σd G Qd E, Lk K W σ H σd G E ∧ t E σd G Qd ∧ ∀ H' ds vs G', Ext H H' → ds.length = n → HasL K H' ds vs → GOk K H' G' → Qd ds G' → Q vs H'
def liftO (K : PySem.W.Frag) (W : WX) (t : XD → SD → GH → (Option Int → GH → Prop) → Prop) : TO := fun σ H Q => ∃ σd G Qd E, Lk K W σ H σd G E ∧ t E σd G Qd ∧ ∀ H' o G', Ext H H' → GOk K H' G' → Qd o G' → Q o H'
def liftT (K : PySem.W.Frag) (W : WX) (t : XD → SD → GH → (Bool → GH → Prop) → Prop) : TT := fun σ H Q => ∃ σd G Qd E, Lk K W σ H σd G E ∧ t E σd G Qd ∧ ∀ H' b G', Ext H H' → GOk K H' G' → Qd b G' → Q b H'
def Off (ix : List Nat) (σ σ' : List (Option V)) : Prop := σ'.length = σ.length ∧ ∀ i, i ∉ ix → σ'[i]? = σ[i]?
theorem Off.refl (ix : List Nat) (σ : List (Option V)) : Off ix σ σ := ⟨rfl, fun _ _ => rfl⟩
theorem Off.trans {a b : List Nat} {σ σ1 σ2 : List (Option V)} (h : Off a σ σ1) (g : Off b σ1 σ2) : Off (a ++ b) σ σ2 :=
  ⟨g.1.trans h.1, fun i hi => by
    simp only [List.mem_append, not_or] at hi
    exact (g.2 i hi.2).trans (h.2 i hi.1)⟩
def liftG (K : PySem.W.Frag) (W : WX) (t : D → XD → SD → GH → (SD → GH → Prop) → Prop) (ix : List Nat) : TG := fun v σ H Q => ∃ d σd G Qd E, Has K H d v ∧ Lk K W σ H σd G E ∧ t d E σd G Qd ∧
  ∀ H' σd' G' σ', Ext H H' → HasS K H' σd' σ' → GOk K H' G' → Off ix σ σ' → Qd σd' G' → Q σ' H'
def liftGs (K : PySem.W.Frag) (W : WX) (t : List D → XD → SD → GH → (SD → GH → Prop) → Prop) (ix : List Nat) : TGs := fun vs σ H Q => ∃ ds σd G Qd E, HasL K H ds vs ∧ Lk K W σ H σd G E ∧ t ds E σd G Qd ∧
  ∀ H' σd' G' σ', Ext H H' → HasS K H' σd' σ' → GOk K H' G' → Off ix σ σ' → Qd σd' G' → Q σ' H'
/-- what a walk gives, as data -/
structure WalkD (K : PySem.W.Frag) (J : L2.It) (xs : List D) (C : Hp → Prop) : Prop where
  goes : ∀ i H, i < xs.length → C H → J.go i H
  stops : ∀ H, C H → J.stop xs.length H
  yields : ∀ i H x H' d, xs[i]? = some d → C H → J.yld i H x H' → Has K H' d x ∧ (H' = H ∨ ∃ T u, H T = none ∧ H' = upd H T u)
def liftI (K : PySem.W.Frag) (W : WX) (t : XD → SD → GH → (Wk → GH → Prop) → Prop) : TI := fun σ H R => ∃ σd G Qd E, Lk K W σ H σd G E ∧ t E σd G Qd ∧
  ∀ H' w G' J C, Ext H H' → GOk K H' G' → Qd w G' → WalkD K J w.xs C → (∀ H2, Ext H' H2 → (∃ G2, GOk K H2 G2 ∧ w.keep G2) → C H2) → R J H'
def liftSp (K : PySem.W.Frag) (n : Nat) (sp : Spec) : Sp := fun vs H Q E => vs.length = n ∧ ∃ ds G Qd Ed, HasL K H ds vs ∧ GOk K H G ∧ sp ds G Qd Ed ∧ Fin K H Qd Q ∧
  ∀ H' x cls dd G', Ext H H' → HasX K H' x cls dd → GOk K H' G' → Ed x G' → E cls dd H'
/-- an exception that is being made: its own __init__ stores what it is handed -/
def spIni (K : PySem.W.Frag) (C : Addr) (fs : List Str) : Sp := fun vs H Q _ => ∃ (a : Addr) (ws : List V), vs = .ref a :: ws ∧ ws.length = fs.length ∧ H a = some (exo a C none) ∧
  ∀ d l H', H d = none → d ≠ a → H' a = some (exo a C (some d)) → H' d = some (exd d l) → (∀ b, b ≠ a → b ≠ d → H' b = H b) → (∀ f, l.lookup f = (fs.zip ws).lookup f) → Q .non H'
/-- the defs keep their promises -/
structure DefsM (T : Tab) (Δ : Nat → Option Spec) (k : Nat) (P : Program) (w : World) (K : PySem.W.Frag) (mg : Str → Option Value) (base : Heap) : Prop where
  fn : ∀ f x n sp, T.fns[f]? = some (x, n) → Δ f = some sp → ∃ fa fd ps, ps.length = n ∧ FnOk P w K mg base (L2.CX P w) k fa fd ps (liftSp K n sp) ∧ mg x = some (.ref fa) ∧ PySem.W.keepIn K (.ref fa) = true ∧ Binds K fd ps []
  mt : ∀ g C m n sp, T.mts.contains (g, C, m, n) = true → Δ g = some sp → ∃ fa fd ps, ps.length = n ∧ FnOk P w K mg base (L2.CX P w) k fa fd ps (liftSp K n sp) ∧ Cls K (He.ga K C) ∧ Meth K (He.ga K C) m fa ∧ Binds K fd ps []
  mkr : ∀ g C n sp, T.mks.contains (g, C, n) = true → Δ g = some sp → ∃ j fa fd ps, j + 1 ≤ k ∧ ps.length = n ∧ FnOk P w K mg base (L2.CX P w) j fa fd ps (liftSp K n sp) ∧ Mk K (He.ga K C) fa ∧ mg C = some (.ref (He.ga K C)) ∧ Binds K fd ps []
  rx : ∀ c, T.rxs.contains c = true → ∃ j fa fd ps, j + 1 ≤ k ∧ FnOk P w K mg base (L2.CX P w) j fa fd ps (spIni K (He.ga K (cn c)) (fieldsOf c)) ∧ OexC K (He.ga K (cn c)) ∧ PySem.W.findIn K (.ref (He.ga K (cn c))) "__init__" = some (some (.ref fa)) ∧
    PySem.W.typeIn K (.ref fa) = some (.type "function") ∧ mg (cn c) = some (.ref (He.ga K (cn c))) ∧ Binds K fd ps []
abbrev Defs (T : Tab) (Δ : Nat → Option Spec) (k : Nat) (X : Cx) : Prop := DefsM T Δ k X.prog X.w X.K X.mg X.base
theorem PE.imp {X : Cx} {e : Expr} {t t' : TE} (h : PE X e t) (i : ∀ σ H Q, t' σ H Q → t σ H Q) : PE X e t' := ⟨fun pins s σ H Q I q => h.run pins s σ H Q I (i σ H Q q)⟩
theorem PT.imp {X : Cx} {e : Expr} {t t' : TT} (h : PT X e t) (i : ∀ σ H Q, t' σ H Q → t σ H Q) : PT X e t' := ⟨fun pins s σ H Q I q => h.run pins s σ H Q I (i σ H Q q)⟩
theorem PW.imp {X : Cx} {e : Expr} {t t' : TT} (h : PW X e t) (i : ∀ σ H Q, t' σ H Q → t σ H Q) : PW X e t' := ⟨fun wh pins s σ H Q I q => h.run wh pins s σ H Q I (i σ H Q q)⟩
theorem PA.imp {X : Cx} {e : List Expr} {t t' : TA} (h : PA X e t) (i : ∀ σ H Q, t' σ H Q → t σ H Q) : PA X e t' := ⟨fun p pins s σ H Q I q => h.run p pins s σ H Q I (i σ H Q q)⟩
theorem PS.imp {X : Cx} {e : Stmt} {t t' : TS} (h : PS X e t) (i : ∀ D σ H, t' D σ H → t D σ H) : PS X e t' := ⟨fun pins s σ H D I q => h.run pins s σ H D I (i D σ H q)⟩
theorem PSs.imp {X : Cx} {e : List Stmt} {t t' : TS} (h : PSs X e t) (i : ∀ D σ H, t' D σ H → t D σ H) : PSs X e t' := ⟨fun pins s σ H D I q => h.run pins s σ H D I (i D σ H q)⟩
theorem PG.imp {X : Cx} {e : Expr} {t t' : TG} (h : PG X e t) (i : ∀ v σ H Q, t' v σ H Q → t v σ H Q) : PG X e t' := ⟨fun pins s σ H v u Q I r q => h.run pins s σ H v u Q I r (i v σ H Q q)⟩
theorem PI.imp {X : Cx} {tg e : Expr} {t t' : TI} (h : PI X tg e t) (i : ∀ σ H Q, t' σ H Q → t σ H Q) : PI X tg e t' := ⟨fun pins s σ H R I q => h.run pins s σ H R I (i σ H R q)⟩
/-- in a row -/
theorem liftE.go {K : PySem.W.Frag} {W : WX} {t : PD} {σ : List (Option V)} {H : Hp} {σd : SD} {G : GH} {E : XD} {Qd : QD} {R : VK} (l : Lk K W σ H σd G E) (h : t E σd G Qd)
    (k : ∀ H' d v G', Ext H H' → Lk K W σ H' σd G' E → Has K H' d v → Qd d G' → R v H') : liftE K W t σ H R :=
  ⟨σd, G, Qd, E, l, h, fun H' d v G' e hv g q => k H' d v G' e (l.mv e g) hv q⟩
theorem liftA.go {K : PySem.W.Frag} {W : WX} {n : Nat} {t : XD → SD → GH → (List D → GH → Prop) → Prop} {σ : List (Option V)} {H : Hp} {σd : SD} {G : GH} {E : XD} {Qd : List D → GH → Prop} {R : List V → Hp → Prop} (l : Lk K W σ H σd G E) (h : t E σd G Qd)
    (k : ∀ H' ds vs G', Ext H H' → ds.length = n → Lk K W σ H' σd G' E → HasL K H' ds vs → Qd ds G' → R vs H') : liftA K W n t σ H R :=
  ⟨σd, G, Qd, E, l, h, fun H' d v G' e hn hv g q => k H' d v G' e hn (l.mv e g) hv q⟩
theorem liftO.go {K : PySem.W.Frag} {W : WX} {t : XD → SD → GH → (Option Int → GH → Prop) → Prop} {σ : List (Option V)} {H : Hp} {σd : SD} {G : GH} {E : XD} {Qd : Option Int → GH → Prop} {R : Option Int → Hp → Prop} (l : Lk K W σ H σd G E) (h : t E σd G Qd)
    (k : ∀ H' o G', Ext H H' → Lk K W σ H' σd G' E → Qd o G' → R o H') : liftO K W t σ H R :=
  ⟨σd, G, Qd, E, l, h, fun H' d G' e g q => k H' d G' e (l.mv e g) q⟩
theorem liftT.go {K : PySem.W.Frag} {W : WX} {t : XD → SD → GH → (Bool → GH → Prop) → Prop} {σ : List (Option V)} {H : Hp} {σd : SD} {G : GH} {E : XD} {Qd : Bool → GH → Prop} {R : Bool → Hp → Prop} (l : Lk K W σ H σd G E) (h : t E σd G Qd)
    (k : ∀ H' b G', Ext H H' → Lk K W σ H' σd G' E → Qd b G' → R b H') : liftT K W t σ H R :=
  ⟨σd, G, Qd, E, l, h, fun H' d G' e g q => k H' d G' e (l.mv e g) q⟩
end Dl
set_option maxRecDepth 100000
/-! Dl5: built-ins, methods, slices, stores, walks, by values. -/
namespace Dl
open PySem PySem.Spec PyProof.Rows L2
def liftC (K : PySem.W.Frag) (r : List D → GH → QD → Prop) : List V → Hp → VK → Prop := fun vs H Q => ∃ ds G Qd, HasL K H ds vs ∧ GOk K H G ∧ r ds G Qd ∧ Fin K H Qd Q
def liftM (K : PySem.W.Frag) (r : D → List D → GH → QD → Prop) : V → List V → Hp → VK → Prop := fun v vs H Q => ∃ d ds G Qd, Has K H d v ∧ HasL K H ds vs ∧ GOk K H G ∧ r d ds G Qd ∧ Fin K H Qd Q
theorem HasL.one {K : PySem.W.Frag} {H : Hp} {d : D} {vs : List V} (h : HasL K H [d] vs) : ∃ v, vs = [v] ∧ Has K H d v := by
  obtain ⟨v, r, rfl, h1, h2⟩ := h
  cases h2
  exact ⟨v, rfl, h1⟩
theorem HasL.two {K : PySem.W.Frag} {H : Hp} {d e : D} {vs : List V} (h : HasL K H [d, e] vs) : ∃ v u, vs = [v, u] ∧ Has K H d v ∧ Has K H e u := by
  obtain ⟨v, r, rfl, h1, h2⟩ := h
  obtain ⟨u, rfl, h3⟩ := HasL.one h2
  exact ⟨v, u, rfl, h1, h3⟩
section
variable {X : Cx}
theorem HasL.int_eq {K : PySem.W.Frag} {H : Hp} : ∀ {ns : List Int} {vs : List V}, HasL K H (ns.map .int) vs → vs = ns.map .int
  | [], _, h => h
  | n :: ns, _, h => by
    obtain ⟨v, r, rfl, h1, h2⟩ := h
    cases h1
    rw [HasL.int_eq h2]; rfl
theorem HasL.str_eq {K : PySem.W.Frag} {H : Hp} : ∀ {ns : List Str} {vs : List V}, HasL K H (ns.map .str) vs → vs = ns.map .str
  | [], _, h => h
  | n :: ns, _, h => by
    obtain ⟨v, r, rfl, h1, h2⟩ := h
    cases h1
    rw [HasL.str_eq h2]; rfl
theorem HasL.of_ints {K : PySem.W.Frag} {H : Hp} : ∀ ns : List Int, HasL K H (ns.map .int) (ns.map .int)
  | [] => rfl
  | n :: ns => ⟨.int n, _, rfl, rfl, HasL.of_ints ns⟩
theorem HasL.of_strs {K : PySem.W.Frag} {H : Hp} : ∀ ns : List Str, HasL K H (ns.map .str) (ns.map .str)
  | [] => rfl
  | n :: ns => ⟨.str n, _, rfl, rfl, HasL.of_strs ns⟩
theorem sound_len : CallR X (.builtin "len") (liftC X.K lenD) := Dl.unQ (by
 simp (disch := with_unfolding_all
  refine @id _ ?_
  intro pins s σ H xs us Q I r h
  obtain ⟨ds, G, Qd, hl, g, q, f⟩ := h
  unfold lenD at q
  split at q
  · obtain ⟨v, rfl, hv⟩ := hl.one
    cases hv
    exact call_len_str pins s σ H _ us Q I r ⟨_, rfl, q.1, f.here g (d := .int _) rfl q.2⟩
  · obtain ⟨v, rfl, hv⟩ := hl.one
    split at q
    · rename_i ys e
      obtain ⟨p, vs, rfl, hs, hl⟩ := items_of g hv e
      exact call_len_seq pins s σ H _ us Q I r ⟨p, vs, rfl, hs, by rw [hl.len]; exact f.here g (d := .int _) rfl q⟩
    · split at q
      · cases hv
        split at q
        · rename_i e
          obtain ⟨l, h1, h2⟩ := g.dk e
          exact call_lenD pins s σ H _ us Q I r ⟨_, l, rfl, h1, by rw [h2.len]; exact f.here g (d := .int _) rfl q⟩
        · exact q.elim
      · exact q.elim
  · exact q.elim
 ) only [↓Dl.qTrue])
theorem sound_max (hc : X.calm = true) : CallR X (.builtin "max") (liftC X.K maxD) := Dl.unQ (by
 simp (disch := with_unfolding_all
  refine @id _ ?_
  intro pins s σ H xs us Q I r h
  obtain ⟨ds, G, Qd, hl, g, q, f⟩ := h
  unfold maxD at q
  split at q
  · obtain ⟨v, u, rfl, hv, hu⟩ := hl.two
    cases hv; cases hu
    exact call_max2 hc pins s σ H _ us Q I r ⟨_, _, rfl, f.here g (d := .int _) rfl q⟩
  · obtain ⟨v, rfl, hv⟩ := hl.one
    cases hv
    split at q
    · rename_i e
      obtain ⟨vs, h1, h2⟩ := g.lst e
      obtain ⟨ns, rfl, hn, q⟩ := q
      cases h2.int_eq
      exact cr_max hc pins s σ H _ us Q I r ⟨_, ns, rfl, SqL.of h1, hn, fun m hm ho => f.here g (d := .int _) rfl (q m hm ho)⟩
    · exact q.elim
  · exact q.elim
 ) only [↓Dl.qTrue])
theorem sound_min (hc : X.calm = true) : CallR X (.builtin "min") (liftC X.K minD) := Dl.unQ (by
 simp (disch := with_unfolding_all
  refine @id _ ?_
  intro pins s σ H xs us Q I r h
  obtain ⟨ds, G, Qd, hl, g, q, f⟩ := h
  unfold minD at q
  split at q
  · obtain ⟨v, u, rfl, hv, hu⟩ := hl.two
    cases hv; cases hu
    exact call_min2 hc pins s σ H _ us Q I r ⟨_, _, rfl, f.here g (d := .int _) rfl q⟩
  · obtain ⟨v, rfl, hv⟩ := hl.one
    cases hv
    split at q
    · rename_i e
      obtain ⟨vs, h1, h2⟩ := g.lst e
      obtain ⟨ns, rfl, hn, q⟩ := q
      cases h2.int_eq
      exact cr_min hc pins s σ H _ us Q I r ⟨_, ns, rfl, SqL.of h1, hn, fun m hm ho => f.here g (d := .int _) rfl (q m hm ho)⟩
    · exact q.elim
  · exact q.elim
 ) only [↓Dl.qTrue])
theorem sound_int : CallR X (.type "int") (liftC X.K intD) := Dl.unQ (by
 simp (disch := with_unfolding_all
  refine @id _ ?_
  intro pins s σ H xs us Q I r h
  obtain ⟨ds, G, Qd, hl, g, q, f⟩ := h
  unfold intD at q
  split at q
  · obtain ⟨v, rfl, hv⟩ := hl.one
    cases hv
    exact call_int1 pins s σ H _ us Q I r (.inl ⟨_, rfl, f.here g (d := .int _) rfl q⟩)
  · obtain ⟨v, rfl, hv⟩ := hl.one
    cases hv
    exact call_int1 pins s σ H _ us Q I r (.inr ⟨_, rfl, f.here g (d := .int _) rfl q⟩)
  · exact q.elim
 ) only [↓Dl.qTrue])
theorem sound_sum (hc : X.calm = true) : CallR X (.builtin "sum") (liftC X.K sumD) := Dl.unQ (by
 simp (disch := with_unfolding_all
  refine @id _ ?_
  intro pins s σ H xs us Q I r h
  obtain ⟨ds, G, Qd, hl, g, q, f⟩ := h
  unfold sumD at q
  split at q
  · obtain ⟨v, rfl, hv⟩ := hl.one
    cases hv
    split at q
    · rename_i e
      obtain ⟨vs, h1, h2⟩ := g.lst e
      obtain ⟨ns, rfl, q⟩ := q
      cases h2.int_eq
      exact cr_sum hc pins s σ H _ us Q I r ⟨_, ns, rfl, SqL.of h1, f.here g (d := .int _) rfl q⟩
    · exact q.elim
  · exact q.elim
 ) only [↓Dl.qTrue])
theorem sound_dict : CallR X (.type "dict") (liftC X.K dictD) := Dl.unQ (by
 simp (disch := with_unfolding_all
  refine @id _ ?_
  intro pins s σ H xs us Q I r h
  obtain ⟨ds, G, Qd, hl, g, q, f⟩ := h
  unfold dictD at q
  split at q
  · rename_i a
    obtain ⟨v, rfl, hv⟩ := hl.one
    cases hv
    split at q
    · rename_i kvs e
      obtain ⟨l, h1, h2⟩ := g.dk e
      obtain ⟨u, rfl, r1⟩ := vals1 r
      cases (show u = Value.ref a from r1)
      refine d_copyOf I (.inl h1) fun p s' hp I' => ⟨.ref p, _, I', rfl, ?_⟩
      exact f _ (.ref p) (.ref p) _ (Ext.new hp) rfl (g.at (o := .dk kvs) (Ext.new hp) ⟨l, upd_same, h2.ext (Ext.new hp)⟩) (q p (g.free hp))
    · exact q.elim
  · exact q.elim
 ) only [↓Dl.qTrue])
theorem keys_of {K : PySem.W.Frag} {H H' : Hp} : ∀ {kvs : List (Key × D)} {l : List (Key × V)}, HasK K H kvs l → HasL K H' (kvs.map fun p => keyV p.1) (l.map fun p => kV p.1)
  | [], _, h => by cases h; rfl
  | (k, d) :: r, _, h => by
    obtain ⟨v, q, rfl, h1, h2⟩ := h
    refine ⟨kV k, _, rfl, ?_, keys_of h2⟩
    cases k <;> rfl
theorem sound_list (hc : X.calm = true) : CallR X (.type "list") (liftC X.K listD) := Dl.unQ (by
 simp (disch := with_unfolding_all
  refine @id _ ?_
  intro pins s σ H xs us Q I r h
  obtain ⟨ds, G, Qd, hl, g, q, f⟩ := h
  unfold listD at q
  split at q
  · obtain ⟨v, rfl, hv⟩ := hl.one
    split at q
    · rename_i ys e
      obtain ⟨p, vs, rfl, hs, hl⟩ := items_of g hv e
      exact call_list_of pins s σ H _ us Q I r ⟨p, vs, rfl, hs, f.newL g hl q⟩
    · split at q
      · cases hv
        split at q
        · rename_i e
          obtain ⟨l, h1, h2⟩ := g.dk e
          exact call_listD hc pins s σ H _ us Q I r ⟨_, l, rfl, .inl h1, f.newL g (keys_of h2) q⟩
        · exact q.elim
      · exact q.elim
  · exact q.elim
 ) only [↓Dl.qTrue])
theorem sound_tuple : CallR X (.type "tuple") (liftC X.K tupleD) := Dl.unQ (by
 simp (disch := with_unfolding_all
  refine @id _ ?_
  intro pins s σ H xs us Q I r h
  obtain ⟨ds, G, Qd, hl, g, q, f⟩ := h
  unfold tupleD at q
  split at q
  · obtain ⟨v, rfl, hv⟩ := hl.one
    obtain ⟨p, vs, rfl, t, l⟩ := id hv
    exact call_tuple_of pins s σ H _ us Q I r ⟨p, vs, rfl, .inr ⟨t.sq, f.here g hv q⟩⟩
  · obtain ⟨v, rfl, hv⟩ := hl.one
    cases hv
    split at q
    · rename_i e
      obtain ⟨vs, h1, h2⟩ := g.lst e
      exact call_tuple_of pins s σ H _ us Q I r ⟨_, vs, rfl, .inl ⟨SqL.of h1, f.newT g h2 q⟩⟩
    · exact q.elim
  · exact q.elim
 ) only [↓Dl.qTrue])
theorem sound_sorted : CallR X (.builtin "sorted") (liftC X.K sortedD) := Dl.unQ (by
 simp (disch := with_unfolding_all
  refine @id _ ?_
  intro pins s σ H xs us Q I r h
  obtain ⟨ds, G, Qd, hl, g, q, f⟩ := h
  unfold sortedD at q
  split at q
  · obtain ⟨v, rfl, hv⟩ := hl.one
    cases hv
    split at q
    · rename_i e
      obtain ⟨vs, h1, h2⟩ := g.lst e
      rcases q with ⟨ns, rfl, hn, q⟩ | ⟨ss, rfl, hn, q⟩
      · cases h2.int_eq
        exact cr_sorted pins s σ H _ us Q I r ⟨_, ns, rfl, SqL.of h1, hn, fun ns' p hp ho hf => f.newL g (HasL.of_ints ns') (q ns' hp ho) p hf⟩
      · cases h2.str_eq
        exact cr_sortedS pins s σ H _ us Q I r ⟨_, ss, rfl, SqL.of h1, hn, fun ns' p hp ho hf => f.newL g (HasL.of_strs ns') (q ns' hp ho) p hf⟩
    · exact q.elim
  · exact q.elim
 ) only [↓Dl.qTrue])
/-- a list that stands is written -/
theorem Fin.putL {K : PySem.W.Frag} {H : Hp} {G : GH} {a : Addr} {vs us : List V} {es : List D} (h : H a = some (.lst vs)) (hl : HasL K H es us) (g : GOk K H G) :
    Ext H (upd H a (.lst us)) ∧ GOk K (upd H a (.lst us)) (gup G a (.lst es)) := by
  have e : Ext H (upd H a (.lst us)) := Ext.put h (show Mu (.lst vs) from True.intro)
  exact ⟨e, g.at (o := .lst es) e ⟨us, upd_same, HasL.ext e es us hl⟩⟩
theorem sound_append : MtM X "list.append" (liftM X.K appD) := Dl.unQ (by
 simp (disch := with_unfolding_all
  refine @id _ ?_
  intro pins s σ H x xs v us Q I rx rxs h
  obtain ⟨d, ds, G, Qd, hx, hl, g, q, f⟩ := h
  unfold appD at q
  split at q
  · cases hx
    obtain ⟨y, rfl, hy⟩ := hl.one
    split at q
    · rename_i e
      obtain ⟨vs, h1, h2⟩ := g.lst e
      obtain ⟨e1, g1⟩ := Fin.putL h1 (h2.snoc hy) g
      exact mt_append pins s σ H _ _ v us Q I rx rxs ⟨_, vs, y, rfl, rfl, h1, by rw [h2.len]; exact q.1, f _ .non .non _ e1 rfl g1 q.2⟩
    · exact q.elim
  · exact q.elim
 ) only [↓Dl.qTrue])
theorem sound_pop : MtM X "list.pop" (liftM X.K popD) := Dl.unQ (by
 simp (disch := with_unfolding_all
  refine @id _ ?_
  intro pins s σ H x xs v us Q I rx rxs h
  obtain ⟨d, ds, G, Qd, hx, hl, g, q, f⟩ := h
  unfold popD at q
  split at q
  · cases hx
    obtain ⟨y, rfl, hy⟩ := hl.one
    cases hy
    split at q
    · rename_i e
      obtain ⟨vs, h1, h2⟩ := g.lst e
      obtain ⟨q1, q2, k, y, q3, q4, q5⟩ := q
      obtain ⟨w, ew, hw⟩ := h2.get q4
      obtain ⟨e1, g1⟩ := Fin.putL h1 (h2.erase k) g
      exact mt_popAt pins s σ H _ _ v us Q I rx rxs ⟨_, vs, _, k, w, rfl, rfl, h1, q1, q2, by rw [h2.len]; exact q3, ew, f _ y w _ e1 (Has.ext e1 _ _ hw) g1 q5⟩
    · exact q.elim
  · exact q.elim
 ) only [↓Dl.qTrue])
theorem sound_count : MtR X "list.count" (liftM X.K cntD) := Dl.unQ (by
 simp (disch := with_unfolding_all
  refine @id _ ?_
  intro pins s σ H x xs v us Q I rx rxs h
  obtain ⟨d, ds, G, Qd, hx, hl, g, q, f⟩ := h
  unfold cntD at q
  split at q
  · cases hx
    obtain ⟨y, rfl, hy⟩ := hl.one
    split at q
    · rename_i e
      obtain ⟨vs, h1, h2⟩ := g.lst e
      obtain ⟨f1, f2⟩ := hy.flat q.1
      obtain ⟨f3, f4⟩ := h2.flat q.2.1
      subst f1 f3
      exact mt_countF pins s σ H _ _ v us Q I rx rxs ⟨_, _, _, rfl, rfl, SqL.of h1, f2, f4, f.here g (d := .int _) rfl q.2.2⟩
    · exact q.elim
  · exact q.elim
 ) only [↓Dl.qTrue])
theorem sound_index : MtR X "list.index" (liftM X.K idxD) := Dl.unQ (by
 simp (disch := with_unfolding_all
  refine @id _ ?_
  intro pins s σ H x xs v us Q I rx rxs h
  obtain ⟨d, ds, G, Qd, hx, hl, g, q, f⟩ := h
  unfold idxD at q
  split at q
  · cases hx
    obtain ⟨y, rfl, hy⟩ := hl.one
    split at q
    · rename_i e
      obtain ⟨vs, h1, h2⟩ := g.lst e
      obtain ⟨q1, q2, j, z, q3, q4, q5, q⟩ := q
      obtain ⟨f1, f2⟩ := hy.flat q1
      obtain ⟨f3, f4⟩ := h2.flat q2
      subst f1 f3
      exact mt_index pins s σ H _ _ v us Q I rx rxs ⟨_, _, _, j, z, rfl, rfl, SqL.of h1, f2, f4, q3, q4, q5, f.here g (d := .int _) rfl q⟩
    · exact q.elim
  · exact q.elim
 ) only [↓Dl.qTrue])
theorem sound_reverse : MtM X "list.reverse" (liftM X.K revMD) := Dl.unQ (by
 simp (disch := with_unfolding_all
  refine @id _ ?_
  intro pins s σ H x xs v us Q I rx rxs h
  obtain ⟨d, ds, G, Qd, hx, hl, g, q, f⟩ := h
  unfold revMD at q
  split at q
  · cases hx
    cases hl
    split at q
    · rename_i e
      obtain ⟨vs, h1, h2⟩ := g.lst e
      obtain ⟨e1, g1⟩ := Fin.putL h1 h2.rev g
      exact mt_reverse pins s σ H _ _ v us Q I rx rxs ⟨_, vs, rfl, rfl, h1, f _ .non .non _ e1 rfl g1 q⟩
    · exact q.elim
  · exact q.elim
 ) only [↓Dl.qTrue])
theorem getD_has {K : PySem.W.Frag} {H : Hp} {kvs : List (Key × D)} {l : List (Key × V)} {k : Key} {z : D} {w : V} (h : HasK K H kvs l) (hz : Has K H z w) : Has K H ((valD kvs k).getD z) ((valV l k).getD w) := Dl.unQ (by
 simp (disch := with_unfolding_all
  refine @id _ ?_
  obtain ⟨h1, h2⟩ := h.val (k := k)
  cases e : valD kvs k with
  | none => rw [h2 e]; exact hz
  | some d => obtain ⟨v, e1, e2⟩ := h1 d e; rw [e1]; exact e2
 ) only [↓Dl.qTrue])
theorem sound_get (hu : X.A.units + 70 < cLine) : MtR X "dict.get" (liftM X.K getD2) := Dl.unQ (by
 simp (disch := with_unfolding_all
  refine @id _ ?_
  intro pins s σ H x xs v us Q I rx rxs h
  obtain ⟨d, ds, G, Qd, hx, hl, g, q, f⟩ := h
  unfold getD2 at q
  split at q
  · rename_i a y z
    cases hx
    obtain ⟨y', z', rfl, hy, hz⟩ := hl.two
    cases (show v = Value.ref a from rx)
    split at q
    · rename_i kvs e
      split at q
      · rename_i k ek
        obtain ⟨l, h1, h2⟩ := g.dk e
        have e1 := key_has hy ek
        subst e1
        obtain ⟨u1, u2, rfl, r1, r2⟩ := vals2 rxs
        exact d_get2 (by omega) I (DGet.k (k := k) h1) r1 r2 fun w' s' I' rw' => ⟨_, H, I', rw', f.here g (getD_has h2 hz) q⟩
      · exact q.elim
    · exact q.elim
  · exact q.elim
 ) only [↓Dl.qTrue])
theorem isDct_ty {K : PySem.W.Frag} {H : Hp} {G : GH} {x : D} {v : V} (g : GOk K H G) (h : Has K H x v) (l : isDct x G) : tyV K "dict" v H := Dl.unQ (by
 simp (disch := with_unfolding_all
  refine @id _ ?_
  unfold isDct at l
  split at l
  · cases h
    split at l
    · rename_i e
      obtain ⟨kvs, h1, _⟩ := g.dk e
      exact .inr (.inr (.inl ⟨rfl, .inl ⟨kvs, h1⟩⟩))
    · exact l.elim
  · exact l.elim
 ) only [↓Dl.qTrue])
theorem isLst_ty {K : PySem.W.Frag} {H : Hp} {G : GH} {x : D} {v : V} (g : GOk K H G) (h : Has K H x v) (l : isLst x G) : tyV K "list" v H := Dl.unQ (by
 simp (disch := with_unfolding_all
  refine @id _ ?_
  unfold isLst at l
  split at l
  · cases h
    split at l
    · rename_i e
      obtain ⟨vs, h1, _⟩ := g.lst e
      exact .inl ⟨rfl, vs, SqL.of h1⟩
    · exact l.elim
  · exact l.elim
 ) only [↓Dl.qTrue])
def liftSl (K : PySem.W.Frag) : V → Option Int → Option Int → Hp → VK → Prop := fun v lo hi H Q => ∃ d G Qd, Has K H d v ∧ GOk K H G ∧ slD d lo hi G Qd ∧ Fin K H Qd Q
theorem cut_whole {α : Type} (xs : List α) {i j : Nat} (h : i = 0) (h2 : j = xs.length) : (xs.drop i).take (j - i) = xs := by
  subst h h2; simp
theorem sound_sl : SlR X (liftSl X.K) := Dl.unQ (by
 simp (disch := with_unfolding_all
  refine @id _ ?_
  intro pins s σ H x v vl vu lo hi sl Q I rx hs pl pu h
  obtain ⟨d, G, Qd, hx, g, q, f⟩ := h
  unfold slD at q
  split at q
  · obtain ⟨p, vs, rfl, t, l⟩ := hx
    refine sl_tupA pins s σ H _ v vl vu lo hi sl Q I rx hs pl pu ⟨p, vs, rfl, t.sq, fun w => ?_, fun _ => f.newT g (l.cut lo hi) q⟩
    refine f.here g (d := .tup (cutD _ lo hi)) ⟨p, vs, rfl, t, ?_⟩ q
    have e : cutV vs lo hi = vs := cut_whole vs w.1 w.2
    have := l.cut lo hi
    rw [e] at this
    exact this
  · cases hx
    exact sl_str pins s σ H _ v vl vu lo hi sl Q I rx hs pl pu ⟨_, rfl, q.1, f.here g (d := .str _) rfl q.2⟩
  · cases hx
    split at q
    · rename_i e
      obtain ⟨vs, h1, h2⟩ := g.lst e
      exact sl_list pins s σ H _ v vl vu lo hi sl Q I rx hs pl pu ⟨_, vs, rfl, SqL.of h1, f.newL g (h2.cut lo hi) q⟩
    · exact q.elim
  · exact q.elim
 ) only [↓Dl.qTrue])
def liftSet (K : PySem.W.Frag) : V → V → V → Hp → (Hp → Prop) → Prop := fun o i v H Q => ∃ dO dI d G Qd, Has K H dO o ∧ Has K H dI i ∧ Has K H d v ∧ GOk K H G ∧ setD dO dI d G Qd ∧ ∀ H' G', Ext H H' → GOk K H' G' → Qd G' → Q H'
theorem sound_set (hu : X.A.units + 70 < cLine) : PSet X (liftSet X.K) := Dl.unQ (by
 simp (disch := with_unfolding_all
  refine @id _ ?_
  intro pins s σ H o i v ov iv u Q I ro ri rv h
  obtain ⟨dO, dI, d, G, Qd, h1, h2, h3, g, q, f⟩ := h
  unfold setD at q
  split at q
  · rename_i a
    cases h1
    cases (show ov = Value.ref a from ro)
    split at q
    · rename_i xs e
      obtain ⟨vs, k1, k2⟩ := g.lst e
      split at q
      · cases h2
        split at q
        · rename_i j ej
          obtain ⟨e1, g1⟩ := Fin.putL k1 (k2.set j h3) g
          exact set_list pins s σ H _ _ v _ iv u Q I ro ri rv ⟨_, vs, _, j, rfl, rfl, k1, by rw [k2.len]; exact ej, f _ _ e1 g1 q⟩
        · exact q.elim
      · exact q.elim
    · rename_i kvs e
      obtain ⟨l, k1, k2⟩ := g.dk e
      split at q
      · rename_i k ek
        have e1 := key_has h2 ek
        subst e1
        have e2 : Ext H (upd H a (.dK (putK l k v))) := Ext.put k1 (show Mu (.dK l) from True.intro)
        have g1 : GOk X.K (upd H a (.dK (putK l k v))) (gup G a (.dk (putD kvs k d))) := g.at (o := .dk _) e2 ⟨_, upd_same, (k2.put h3).ext e2⟩
        exact d_setItem (by omega) I (DPut.k k1 (by rw [k2.len]; exact q.1)) ri rv fun s' I' => ⟨_, I', f _ _ e2 g1 q.2⟩
      · exact q.elim
    · exact q.elim
  · exact q.elim
 ) only [↓Dl.qTrue])
/-- o.f = .. -/
def gAtt (K : PySem.W.Frag) (to : TE) (f : Str) : TG := fun v σ H Q => to σ H fun x H1 => ∃ a C dx fs, x = .ref a ∧ H1 a = some (.ins C dx fs) ∧ Cls K C ∧ NoAttr K C f ∧ fs.length < 1000 ∧ Q σ (upd H1 a (.ins C dx (putF f v fs)))
theorem pg_att {o : Expr} {to : TE} {f : Str} {pos : Pos} (ho : PE X o to) : PG X (.Attribute o f pos) (gAtt X.K to f) := Dl.unQ (by
 simp (disch := with_unfolding_all
  refine @id _ ?_
  refine ⟨fun pins s σ H v u Q I r h => ?_⟩
  show wpAny _ _ (do
    let ov ← holding [u] (eval o X.env)
    standAt pos.atName
    holding [u, ov] (setAttr ov f u)
    release [u, ov] []) _ _ _
  refine wpAny_bind (wpAny_holding (thn (ho.run pins s σ H _ I h) fun ov s1 hh => ?_))
  obtain ⟨x, H1, I1, r1, a, C, dx, fs, rfl, e, c, n, hl, q⟩ := hh
  cases (show ov = Value.ref a from r1)
  refine wpAny_bind (wpAny_standAt (wpAny_bind (wpAny_holding (setattr_ok I1 e c n hl r fun s2 I2 => ?_))))
  exact wpAny_release ⟨σ, _, I2, q⟩
 ) only [↓Dl.qTrue])
theorem ty_of {K : PySem.W.Frag} {H : Hp} {G : GH} {x : D} {v : V} {t : String} (g : GOk K H G) (h : Has K H x v) (e : tyD x G = some t) : TyX K H v (.type t) := Dl.unQ (by
 simp (disch := with_unfolding_all
  refine @id _ ?_
  cases x with
  | non => cases h; cases e; exact .base .non
  | bl b => cases h; cases e; exact .base (.bl b)
  | int i => cases h; cases e; exact .base (.int i)
  | str s => cases h; cases e; exact .base (.str s)
  | tup ds =>
    cases e
    obtain ⟨p, vs, rfl, t, l⟩ := h
    rcases t with t | ⟨o, its, n, k1, k2, _⟩
    · exact .base (.tup t)
    · exact .kTuple k1 k2
  | ref a =>
    cases h
    simp only [tyD] at e
    split at e
    · cases e
      rename_i q
      obtain ⟨vs, k1, _⟩ := g.lst q
      exact .base (.lst k1)
    · cases e
  | _ => cases e
 ) only [↓Dl.qTrue])
/-! ### walks -/
theorem walkD_tup {K : PySem.W.Frag} {H0 : Hp} {p : Addr} {ds : List D} {vs : List V} (t : STup K H0 p vs) (l : HasL K H0 ds vs) : WalkD K (Itt K p) ds (fun H => Ext H0 H) where
  goes := fun i H hi e => by
    have hv : i < vs.length := by rw [l.len]; exact hi
    exact ⟨vs, vs[i], (t.ext e).sq, by simp [hv]⟩
  stops := fun H e => ⟨vs, (t.ext e).sq, by rw [l.len]; exact Nat.le_refl _⟩
  yields := fun i H x H' d hd e y => by
    obtain ⟨rfl, y⟩ := y
    obtain ⟨v, h1, h2⟩ := l.get hd
    rw [y vs (t.ext e).sq] at h1
    cases h1
    exact ⟨Has.ext e _ _ h2, .inl rfl⟩
theorem walkD_rol {K : PySem.W.Frag} {H0 : Hp} {p : Addr} {ds : List D} {vs : List V} (t : SRol K H0 p vs) (l : HasL K H0 ds vs) : WalkD K (Itl K p) ds (fun H => Ext H0 H) where
  goes := fun i H hi e => by
    have hv : i < vs.length := by rw [l.len]; exact hi
    exact ⟨vs, vs[i], (t.ext e).sq, by simp [hv]⟩
  stops := fun H e => ⟨vs, (t.ext e).sq, by rw [l.len]; exact Nat.le_refl _⟩
  yields := fun i H x H' d hd e y => by
    obtain ⟨rfl, y⟩ := y
    obtain ⟨v, h1, h2⟩ := l.get hd
    rw [y vs (t.ext e).sq] at h1
    cases h1
    exact ⟨Has.ext e _ _ h2, .inl rfl⟩
theorem walkD_rev {K : PySem.W.Frag} {H0 : Hp} {p : Addr} {ds : List D} {vs : List V} (t : STup K H0 p vs) (l : HasL K H0 ds vs) : WalkD K (RT.ItvT K p vs.length) ds.reverse (fun H => Ext H0 H) where
  goes := fun i H hi e => by
    have hv : i < vs.length := by rw [l.len]; simpa using hi
    exact ⟨hv, vs, vs[vs.length - 1 - i]'(by omega), (t.ext e).sq, by rw [List.getElem?_eq_getElem]⟩
  stops := fun H e => by
    show vs.length ≤ ds.reverse.length
    rw [l.len, List.length_reverse]
    exact Nat.le_refl _
  yields := fun i H x H' d hd e y => by
    obtain ⟨rfl, y⟩ := y
    have hi : i < ds.length := by
      have := (List.getElem?_eq_some_iff.mp hd).1
      simpa using this
    rw [List.getElem?_reverse hi] at hd
    obtain ⟨v, h1, h2⟩ := l.get hd
    have y' := y vs (t.ext e).sq
    rw [l.len, h1] at y'
    cases y'
    exact ⟨Has.ext e _ _ h2, .inl rfl⟩
theorem walkD_lst {K : PySem.W.Frag} {a : Addr} {ds : List D} : WalkD K (Itl K a) ds (fun H => ∃ vs, H a = some (.lst vs) ∧ HasL K H ds vs) where
  goes := fun i H hi ⟨vs, h, l⟩ => by
    have hv : i < vs.length := by rw [l.len]; exact hi
    exact ⟨vs, vs[i], SqL.of h, by simp [hv]⟩
  stops := fun H ⟨vs, h, l⟩ => ⟨vs, SqL.of h, by rw [l.len]; exact Nat.le_refl _⟩
  yields := fun i H x H' d hd ⟨vs, h, l⟩ y => by
    obtain ⟨rfl, y⟩ := y
    obtain ⟨v, h1, h2⟩ := l.get hd
    rw [y vs (SqL.of h)] at h1
    cases h1
    exact ⟨h2, .inl rfl⟩
theorem walkD_rng {K : PySem.W.Frag} {i j : Int} : WalkD K (Itr i (j - i).toNat) (rangeD i j) (fun _ => True) where
  goes := fun n H hn _ => by
    show n < (j - i).toNat
    simpa [rangeD] using hn
  stops := fun H _ => by
    show (j - i).toNat ≤ (rangeD i j).length
    simp [rangeD]
  yields := fun n H x H' d hd _ y => by
    obtain ⟨rfl, rfl⟩ := y
    unfold rangeD at hd
    rw [List.getElem?_map] at hd
    cases e : (List.range (j - i).toNat)[n]? with
    | none => rw [e] at hd; cases hd
    | some m =>
      rw [e] at hd
      cases hd
      have := List.getElem?_eq_some_iff.mp e
      obtain ⟨h1, h2⟩ := this
      simp at h2
      subst h2
      exact ⟨rfl, .inl rfl⟩
theorem walkD_str {K : PySem.W.Frag} {z : Str} : WalkD K (Its z) (charsD z) (fun _ => True) where
  goes := fun n H hn _ => by
    show n < z.cps.size
    simpa [charsD] using hn
  stops := fun H _ => by
    show z.cps.size ≤ (charsD z).length
    simp [charsD]
  yields := fun n H x H' d hd _ y => by
    obtain ⟨rfl, c, hc, rfl⟩ := y
    unfold charsD at hd
    rw [List.getElem?_map] at hd
    have : z.cps.toList[n]? = some c := by simpa using hc
    rw [this] at hd
    cases hd
    exact ⟨rfl, .inl rfl⟩
end
end Dl
set_option maxRecDepth 100000
set_option maxHeartbeats 2000000
/-! Dl5b: enumerate over a tuple; a walk over a list, a tuple or a text. -/
namespace Dl
open PySem PySem.Spec PyProof.Rows L2
theorem meets_enum1 {v : Value} {o : Obj} {C : Heap → Prop} (B : Begins v o C) :
    Meets (Builtin.«enumerate.__new__» ⟨[.type "enumerate", v], []⟩) (fun _ R s => C s.heap ∧
      R (.ok (.ret (.ref (s.heap.push o).objs.size))) { s with heap := (s.heap.push o).push { cls := .type "enumerate", data := .fields #[.none, .bool false, .ref s.heap.objs.size, rawInt 0, .none, .none] } }) :=
  .of_wp fun prog w A R s hh => by
    obtain ⟨hp, gs, dr, tk, os⟩ := s
    obtain ⟨hc, hh⟩ := hh
    have hsub := sub_enumerate
    have step : ∀ {A' : Around} {E : Value → Shared → Prop} {Q : Value → Shared → Prop}, Q (.ref hp.objs.size) ⟨hp.push o, gs, dr, tk, os⟩ → wpAny (model prog w) A' (pyIter v) Q E ⟨hp, gs, dr, tk, os⟩ :=
      fun q => B.iter prog w _ _ ⟨hp, gs, dr, tk, os⟩ _ hc q
    wp_walk using step
    refine wpAny_stack_any fun st => wpAny_pure ?_
    split
    · rename_i c _ _ _ _ _
      cases (c == Value.type "enumerate")
      · wp_walk using step
        exact ⟨_, rfl, hh⟩
      · wp_walk using step
        exact ⟨_, rfl, hh⟩
    · wp_walk using step
      exact ⟨_, rfl, hh⟩
theorem call_enum1 {prog : Program} {w : World} {A : Around} {E : Value → Shared → Prop} {s : Shared} {v : Value} {o : Obj} {C : Heap → Prop} {Q : Value → Shared → Prop} (B : Begins v o C) (hc : C s.heap)
    (q : ∀ h', IsEnum h' (s.heap.objs.size + 1) s.heap.objs.size 0 .none → h'.get? s.heap.objs.size = some o → (∀ b ob, s.heap.get? b = some ob → h'.get? b = some ob) → Q (.ref (s.heap.objs.size + 1)) { s with heap := h' }) :
    wpAny (model prog w) A (call (.type "enumerate") [v]) Q E s := Dl.unQ (by
 simp (disch := with_unfolding_all
  refine @id _ ?_
  refine callType_new F.called_enumerate (by decide) (F.typeCall_enumerate_1 _) (F.newCall_enumerate_1 _) (fun obj => F.args_object_init_2 obj _) F.entry_enumerate_new (meets_enum1 B) ⟨hc, ?_⟩
  have hz : (s.heap.push o).objs.size = s.heap.objs.size + 1 := Heap.size_push ..
  have he := Heap.get?_push_size (s.heap.push o) (o := { cls := .type "enumerate", data := .fields #[.none, .bool false, .ref s.heap.objs.size, rawInt 0, .none, .none] }) rfl
  rw [hz] at he
  show _ ∧ _
  rw [hz]
  exact ⟨⟨_, he, rfl⟩, q _ he (Heap.get?_push_of_some _ (Heap.get?_push_size _ B.free)) fun b ob x => Heap.get?_push_of_some _ (Heap.get?_push_of_some _ x)⟩
 ) only [↓Dl.qTrue])
/-- the tuple at a, each item in a new pair -/
def Iet (K : PySem.W.Frag) (a : Addr) (n : Nat) : L2.It :=
  ⟨fun i H => i < n ∧ ∃ xs : List V, SqT K H a xs ∧ xs.length = n, fun i H v H' => ∃ T x, v = .ref T ∧ H T = none ∧ H' = upd H T (.tup [.int (i : Nat), x]) ∧ ∀ xs, SqT K H a xs → xs[i]? = some x, fun i H => i = n ∧ ∃ xs : List V, SqT K H a xs ∧ xs.length = n⟩
theorem turn_enumT {P : Program} {w : World} {K : PySem.W.Frag} {elts : List Expr} {kk : Nat} {tpos : Pos} (a e it : Addr) (n : Nat) :
    Turn P w K (.Tuple elts kk tpos) (Iet K a n) [e, it] e (fun i h => (∃ old, IsEnum h e it ((i : Nat) : Int) old) ∧ h.IsTupleIter it a i ∧ e ≠ it) where
  mem := by simp
  obj := fun i h st b hb => by
    obtain ⟨⟨old, he⟩, ⟨o, ho, hc, hd⟩, _⟩ := st
    rcases (show b = e ∨ b = it by simpa using hb) with z | z
    · subst z; exact ⟨_, he, fun v q => nomatch q⟩
    · subst z; exact ⟨o, ho, fun v q => by rw [hd] at q; cases q⟩
  keep := fun i h h' st kp => ⟨st.1.imp fun old he => kp e (by simp) _ he, st.2.1.at fun o q => kp it (by simp) o q, st.2.2⟩
  item := by
    intro X hP hw hK hc i pins s σ H E I hf st hg
    subst hP hw hK
    obtain ⟨⟨old, he⟩, hit, hne⟩ := st
    obtain ⟨hi, xs, hq, hn⟩ := hg
    obtain ⟨its, rv, p, hz⟩ := I.tuple hq
    have hl := rv.length
    have hit' : it ≠ a := by
      rintro rfl
      obtain ⟨o1, e1, c1, _⟩ := hit
      obtain ⟨o2, e2, c2, _⟩ := p
      rw [e1] at e2; cases e2
      rw [c1] at c2; injection c2 with z; exact absurd z (by decide)
    have hea : e ≠ a := by
      rintro rfl
      obtain ⟨o2, e2, c2, _⟩ := p
      have e1 : s.heap.get? e = some _ := he
      rw [e1] at e2; cases e2
      injection c2 with z; exact absurd z (by decide)
    have Dr := Draws.tuple (prog := X.prog) (w := X.w) (A := X.A.in1) (I.ok.hd hc) it a hit'.symm its.toArray
    refine wpAny_pyNext_enum_itemD Dr he ⟨hit, p⟩ (by simpa using (by omega : i < its.length)) hne (by simp [hne, hea]) fun u h' tk hu ho st' hT hsz hk => ?_
    have hu' : its[i]? = some u := by simpa using hu
    have hx : ∃ x, xs[i]? = some x ∧ RelV x u := by
      obtain ⟨w', e1, e2⟩ := rv.get (i := i) (x := xs[i]'(by omega)) (by rw [List.getElem?_eq_getElem])
      rw [hu'] at e1; cases e1
      exact ⟨_, List.getElem?_eq_getElem (by omega), e2⟩
    obtain ⟨x, hx, ru⟩ := hx
    have hel : e < s.heap.objs.size := Heap.lt_size he
    have hil : it < s.heap.objs.size := by obtain ⟨_, q, _⟩ := hit; exact Heap.lt_size q
    refine ⟨_, rfl, wpAny_letOwnedTupleGo_enum (s := { s with heap := h', toks := tk + 1 }) ho fun h2 he2 sb => ?_⟩
    have hT2 : h2.get? s.heap.objs.size = some { cls := .type "tuple", data := .seq #[.int i tk, u] } := (sb.2 _ (Nat.ne_of_gt hel)).trans hT
    have new : ObjOk X.prog X.w (upd H s.heap.objs.size (.tup [.int (i : Nat), x])) h2 s.heap.objs.size (.tup [.int (i : Nat), x]) :=
      ⟨by show 2 ≤ sizeLine; decide, [.int i tk, u], .cons ⟨_, rfl⟩ (.cons ru .nil), ⟨_, hT2, rfl, _, rfl⟩⟩
    have I1 : Inv X pins σ (upd H s.heap.objs.size (.tup [.int (i : Nat), x])) { s with heap := h2, toks := tk + 1 } :=
      I.turnedNew (ch := [e, it]) (fun b ob hb q => (sb.2 b (fun z => hb (by simp [z]))).trans (hk b ob (fun z => hb (by simp [z])) (fun z => hb (by simp [z])) q)) hf (Nat.le_refl _) new
    refine ⟨.ref s.heap.objs.size, _, I1, rfl, ⟨_, x, rfl, I.hok.fresh (Nat.le_refl _), rfl, fun ys hy => by rw [I.tuple_inj hy hq]; exact hx⟩, ⟨⟨u, ?_⟩, st'.1.at fun o q => (sb.2 it (Ne.symm hne)).trans q, hne⟩, fun b hb => ?_⟩
    · rw [show ((i + 1 : Nat) : Int) = (i : Int) + 1 by omega]; exact he2
    · have hb' : b < s.heap.objs.size := by
        rcases (show b = e ∨ b = it by simpa using hb) with z | z
        · subst z; exact hel
        · subst z; exact hil
      rw [upd_ne (Nat.ne_of_lt hb')]
      exact (hf b hb).1
  done := by
    intro X hP hw hK hc i pins s σ H E I hf st hg
    subst hP hw hK
    obtain ⟨⟨old, he⟩, hit, hne⟩ := st
    obtain ⟨hi, xs, hq, hn⟩ := hg
    obtain ⟨its, rv, p, hz⟩ := I.tuple hq
    obtain ⟨f0, f1, f2, f3, f4, f5⟩ := hf it (by simp)
    have hl := rv.length
    have hit' : it ≠ a := by
      rintro rfl
      obtain ⟨o1, e1, c1, _⟩ := hit
      obtain ⟨o2, e2, c2, _⟩ := p
      rw [e1] at e2; cases e2
      rw [c1] at c2; injection c2 with z; exact absurd z (by decide)
    have Dr := Draws.tuple (prog := X.prog) (w := X.w) (A := X.A.in1) (I.ok.hd hc) it a hit'.symm its.toArray
    have sz : its.toArray.size = i := by simp; omega
    exact wpAny_pyNext_enum_endD Dr he (by rw [sz]; exact ⟨hit, p⟩) fun h' eb => ⟨rfl, I.turned (t' := s.toks) (fun b o hb q => eb b o hb q) f0 f1 f3 f4 f5⟩
  self := fun A i s Q E st h => let ⟨⟨_, he⟩, _⟩ := st; wpAny_pyIter_enum he h
section
variable {X : Cx}
theorem pi_enumT {e : Expr} {te : TE} {p pos tpos : Pos} {elts : List Expr} {kk : Nat} (hg : Gl X "enumerate") (hm : X.mg "enumerate" = none) (ha : PE X e te) (hs : starEach [e] X.env = [(false, eval e X.env)]) :
    PI X (.Tuple elts kk tpos) (.Call (.Name "enumerate" p) [e] [] pos) (fun σ H R => te σ H fun v H1 => ∃ a xs, v = .ref a ∧ SqT X.K H1 a xs ∧ R (Iet X.K a xs.length) H1) := Dl.unQ (by
 simp (disch := with_unfolding_all
  refine @id _ ?_
  have hA : PA X [e] (tCons te tNil) := pa_cons ha pa_nil (by rw [hs]; rfl)
  constructor
  intro pins s σ H R I h
  refine Call_ (ld_blt I hg hm boot_enumerate (PyProof.Rows.callWith_type1 (thn (hA.run pos pins s σ H (fun vs H1 => ∃ v, vs = [v] ∧ ∃ a xs, v = .ref a ∧ SqT X.K H1 a xs ∧ R (Iet X.K a xs.length) H1) I ?_) fun us s1 hr => ?_) hs rfl))
  · have mono : te σ H (fun v H1 => ∃ a xs, v = .ref a ∧ SqT X.K H1 a xs ∧ R (Iet X.K a xs.length) H1) := h
    show te σ H fun x H1 => ∃ v, [x] = [v] ∧ _
    have e2 : (fun (x : V) (H1 : Hp) => ∃ v, [x] = [v] ∧ ∃ a xs, v = V.ref a ∧ SqT X.K H1 a xs ∧ R (Iet X.K a xs.length) H1) = (fun v H1 => ∃ a xs, v = V.ref a ∧ SqT X.K H1 a xs ∧ R (Iet X.K a xs.length) H1) := by
      funext x H1
      refine propext ⟨?_, fun q => ⟨x, rfl, q⟩⟩
      rintro ⟨v, e1, q⟩
      cases e1
      exact q
    rw [e2]
    exact mono
  · obtain ⟨vs, H1, I1, r1, v, rfl, a, xs, rfl, hq, q⟩ := hr
    cases r1 with
    | cons r rr =>
      cases rr
      cases r
      obtain ⟨its, rv, p', hz⟩ := I1.tuple hq
      refine call_enum1 (begins_tuple a its.toArray) p' fun h' he hit hk => wpAny_pyIter_enum he ?_
      have I2 : Inv X pins σ H1 { s1 with heap := h' } := I1.kept (t' := s1.toks) hk
      refine ⟨s1.heap.objs.size + 1, [s1.heap.objs.size + 1, s1.heap.objs.size], _, _, H1, rfl, I2, turn_enumT a (s1.heap.objs.size + 1) s1.heap.objs.size xs.length, ⟨⟨.none, he⟩, ⟨_, hit, rfl, rfl⟩, Nat.succ_ne_self _⟩, fun b hb => ?_, q⟩
      have hle : s1.heap.objs.size ≤ b := by
        rcases (show b = s1.heap.objs.size + 1 ∨ b = s1.heap.objs.size by simpa using hb) with z | z
        · rw [z]; exact Nat.le_add_right _ _
        · rw [z]; exact Nat.le_refl _
      exact I1.fpOk hle (I1.hok.fresh hle)
 ) only [↓Dl.qTrue])
/-- a list, a tuple or a text, walked -/
theorem pi_any {tg e : Expr} {te : TE} (he : PE X e te) : PI X tg e (fun σ H R => te σ H fun v H1 => (∃ a, v = .ref a ∧ (∃ xs, SqL X.K H1 a xs) ∧ R (Itl X.K a) H1) ∨ (∃ a, v = .ref a ∧ (∃ xs, SqT X.K H1 a xs) ∧ R (Itt X.K a) H1) ∨ ∃ z, v = .str z ∧ R (Its z) H1) := Dl.unQ (by
 simp (disch := with_unfolding_all
  refine @id _ ?_
  constructor
  intro pins s σ H R I h
  refine thn (he.run pins s σ H _ I h) fun u s1 hr => ?_
  obtain ⟨v, H1, I1, r1, q⟩ := hr
  rcases q with ⟨a, rfl, ⟨xs, hq⟩, q⟩ | ⟨a, rfl, ⟨xs, hq⟩, q⟩ | ⟨z, rfl, q⟩
  · cases r1
    obtain ⟨its, rv, pl, hz⟩ := I1.list hq
    exact wpAny_pyIter_list pl.isList (pi_one (tk := s1.toks) I1 _ (turn_list a _) ⟨_, Heap.get?_push_size _ rfl, rfl, rfl⟩ q)
  · cases r1
    obtain ⟨its, rv, pl, hz⟩ := I1.tuple hq
    exact wpAny_pyIter_tuple pl (pi_one (tk := s1.toks) I1 _ (turn_tuple a _) ⟨_, Heap.get?_push_size _ rfl, rfl, rfl⟩ q)
  · obtain ⟨t, rfl⟩ := r1
    cases hb : z.cps.all (· < 128)
    · exact wpAny_pyIter_wide hb (pi_one (tk := s1.toks) I1 _ (turn_str _ z t "str_iterator" (.inr rfl)) ⟨_, Heap.get?_push_size _ rfl, rfl, rfl⟩ q)
    · exact wpAny_pyIter_ascii hb (pi_one (tk := s1.toks) I1 _ (turn_str _ z t "str_ascii_iterator" (.inl rfl)) ⟨_, Heap.get?_push_size _ rfl, rfl, rfl⟩ q)
 ) only [↓Dl.qTrue])
end
theorem enumD_get : ∀ (xs : List D) (k : Int) (i : Nat) (d : D), (enumD k xs)[i]? = some d → ∃ x, xs[i]? = some x ∧ d = .tup [.int (k + i), x]
  | [], _, _, _, h => by simp [enumD] at h
  | x :: xs, k, 0, d, h => by
    simp [enumD] at h
    exact ⟨x, rfl, by rw [← h]; simp⟩
  | x :: xs, k, i + 1, d, h => by
    have h' : (enumD (k + 1) xs)[i]? = some d := by simpa [enumD] using h
    obtain ⟨y, e1, e2⟩ := enumD_get xs (k + 1) i d h'
    exact ⟨y, by simpa using e1, by rw [e2]; congr 3; omega⟩
theorem enumD_len : ∀ (xs : List D) (k : Int), (enumD k xs).length = xs.length
  | [], _ => rfl
  | x :: xs, k => by simp [enumD, enumD_len xs]
theorem walkD_enum {K : PySem.W.Frag} {H0 : Hp} {p : Addr} {ds : List D} {vs : List V} (t : STup K H0 p vs) (l : HasL K H0 ds vs) : WalkD K (Iet K p vs.length) (enumD 0 ds) (fun H => Ext H0 H) where
  goes := fun i H hi e => by
    rw [enumD_len] at hi
    exact ⟨by rw [l.len]; exact hi, vs, (t.ext e).sq, rfl⟩
  stops := fun H e => by
    rw [enumD_len]
    exact ⟨l.len.symm, vs, (t.ext e).sq, rfl⟩
  yields := fun i H x H' d hd e y => by
    obtain ⟨T, u, rfl, hT, rfl, y⟩ := y
    obtain ⟨z, h1, rfl⟩ := enumD_get ds 0 i d hd
    obtain ⟨v, h2, h3⟩ := l.get h1
    rw [y vs (t.ext e).sq] at h2
    cases h2
    have e2 : Ext H (upd H T (.tup [.int (i : Nat), u])) := Ext.new hT
    refine ⟨⟨T, [.int (i : Nat), u], rfl, .inl upd_same, ?_⟩, .inr ⟨T, _, hT, rfl⟩⟩
    exact ⟨_, _, rfl, (by show V.int (i : Nat) = V.int (0 + (i : Nat)); simp), _, _, rfl, Has.ext (e.trans e2) _ _ h3, rfl⟩
end Dl
set_option maxRecDepth 100000
set_option maxHeartbeats 4000000
/-! Dl6: the check is sound: expressions, targets, walks. -/
namespace Dl
open PySem PySem.Spec PyProof.Rows L2
section
variable {T : Tab} {N : List Str} {Δ : Nat → Option Spec} {Γ : Gam} {k : Nat}
theorem vis_of {sc : Scope} {x : Str} (h : visB sc x = true) : Vis sc x := Dl.unQ (by
 simp (disch := with_unfolding_all
  refine @id _ ?_
  unfold visB at h
  split at h
  · rename_i e; exact .inl e
  · rename_i e; exact .inr (.inl e)
  · rename_i e; exact .inr (.inr e)
  · cases h
 ) only [↓Dl.qTrue])
theorem loc_of {sc : Scope} {x : Str} (h : locB sc x = true) : Loc sc x := Dl.unQ (by
 simp (disch := with_unfolding_all
  refine @id _ ?_
  unfold locB at h
  split at h
  · rename_i e; exact .inl e
  · rename_i e; exact .inr e
  · cases h
 ) only [↓Dl.qTrue])
theorem gl_of {X : Cx} {x : Str} (h : glB X.env.scope x = true) : Gl X x := Dl.unQ (by
 simp (disch := with_unfolding_all
  refine @id _ ?_
  unfold glB at h
  split at h
  · assumption
  · cases h
 ) only [↓Dl.qTrue])
theorem nm1 {x : Str} (h : nameOk x = true) : (x == ("__debug__" : Str)) = false := by
  unfold nameOk at h
  simp only [Bool.and_eq_true, Bool.not_eq_true'] at h
  exact h.1
theorem nm2 {x : Str} (h : nameOk x = true) : (x == ("__classdict__" : Str)) = false := by
  unfold nameOk at h
  simp only [Bool.and_eq_true, Bool.not_eq_true'] at h
  exact h.2
theorem bf_ok (f : Bf) : (bfN f == ("__debug__" : Str)) = false ∧ bfN f ≠ "__name__" ∧ bootBuiltins (bfN f) = some (bfV f) := by
  cases f <;> exact ⟨by decide +kernel, by decide +kernel, by decide +kernel⟩
theorem isK_bad {sc : Scope} {j : Nat} {e : Expr} (h : isK T sc j e = true) : badB e = false := by
  cases e <;> first
    | rfl
    | (simp [isK] at h)
/-- a class, by its name -/
theorem soundK {X : Cx} {ks : List Nat} (kl : ClsAll X.K X.mg T.all) {j : Nat} {e : Expr} (h : isK T X.env.scope j e = true) : PE X e (tC (cvV X.K j)) ∧ (T.all.contains j = true ∨ j = 100) := Dl.unQ (by
 simp (disch := with_unfolding_all
  refine @id _ ?_
  cases e with
  | Name z pos =>
    simp only [isK] at h
    split at h
    · rename_i q
      simp only [beq_iff_eq] at q
      subst q
      simp only [Bool.and_eq_true, beq_iff_eq] at h
      obtain ⟨rfl, h2⟩ := h
      exact ⟨pe_bltn (v := .ty "ValueError") (gl_of h2) kl.ve (by decide +kernel) rfl (by decide +kernel) (by decide +kernel), .inr rfl⟩
    · rename_i q
      simp only [Bool.and_eq_true, beq_iff_eq] at h
      obtain ⟨⟨⟨h1, rfl⟩, h2⟩, h3⟩ := h
      have e : cvV X.K j = .ref (He.ga X.K (cn j)) := by
        unfold cvV
        rw [if_neg (by simpa using q)]
      rw [e]
      exact ⟨pe_glob (gl_of h2) (kl.nm j h1) rfl (nm1 h3), .inl h1⟩
  | _ => simp [isK] at h
 ) only [↓Dl.qTrue])
theorem kitAny_ks {K : PySem.W.Frag} {mg : Str → Option Value} {all : List Nat} (kl : ClsAll K mg all) {j : Nat} (hj : all.contains j = true) : ∀ ks : List Nat, (∀ k, k ∈ ks → all.contains k = true ∨ k = 100) → PySem.W.kitAny K (.ref (He.ga K (cn j))) (ks.map (cvK K)) = some (ks.any (subC j))
  | [], _ => rfl
  | k :: ks, h => by
    have ih := kitAny_ks kl hj ks fun x hx => h x (List.mem_cons_of_mem _ hx)
    simp only [List.map_cons, PySem.W.kitAny, kl.kit j k hj (h k List.mem_cons_self), List.any_cons]
    cases subC j k with
    | true => rfl
    | false => simpa using ih
theorem cv_cls (K : PySem.W.Frag) (j : Nat) : ClsV (cvV K j) (cvK K j) := Dl.unQ (by
 simp (disch := with_unfolding_all
  refine @id _ ?_
  unfold cvV cvK
  split
  · exact .ty _
  · exact .own _
 ) only [↓Dl.qTrue])
theorem isEs_hd {sc : Scope} {c : Bool} {e : Expr} {es : List Expr} {p : Exs} (h : isEs T N p sc c (e :: es) = true) : isE T N (match p with | .cons a _ => a | .nil => .non) sc c e = true := by
  cases p with
  | nil => simp [isEs] at h
  | cons a r => simp only [isEs, Bool.and_eq_true] at h; exact h.1
theorem star_tl {sc : Scope} {c : Bool} {e : Expr} {es : List Expr} {p : Exs} (h : isEs T N p sc c (e :: es) = true) (env : Env) (pos : Pos) : (backTo pos (starEach es env)).any (·.1) = false := by
  cases p with
  | nil => simp [isEs] at h
  | cons a r => simp only [isEs, Bool.and_eq_true] at h; exact star_list h.2 env pos
theorem Good.blk {W : WX} {c : Bool} {X : Cx} (g : Good T Δ Γ k W c X) (hcc : c = true) (s : Shared) (H : Hp) (scope : Scope) (C : Addr) (cl : List (Str × Addr)) (fp : List Addr) :
    T.lsc.contains (relS scope X.env.scope) = false → Good T Δ Γ k (fun _ _ _ _ => False) c (X.blk s H scope (compEnvC scope cl C X.env) fp) := fun hl =>
  ⟨g.room, g.calm, g.units, g.nd, takes0, g.gls, g.cls, g.kls, fun z => (by rw [hcc] at z; cases z), g.ats, g.gfs, g.blt, g.blt2, fun _ => act_blk hl, fun _ => lam_blk hl⟩
theorem wipe_get {σ : List (Option V)} {i : Nat} : ∀ {vs : List Nat}, i ∈ vs → (wipe σ vs)[i]? = if i < σ.length then some none else none
  | [], h => by simp at h
  | v :: vs, h => by
    unfold wipe
    by_cases e : v = i
    · subst e
      by_cases hl : v < σ.length
      · rw [List.getElem?_set_self (by rw [wipe_length]; exact hl), if_pos hl]
      · rw [if_neg hl, List.getElem?_eq_none (by rw [List.length_set, wipe_length]; omega)]
    · rw [List.getElem?_set_ne e]
      exact wipe_get (by
        rcases List.mem_cons.mp h with z | z
        · exact absurd z.symm e
        · exact z)
theorem wipe_off {σ σ' : List (Option V)} {ix vs : List Nat} (h : Off ix (wipe σ vs) σ') (hs : ∀ i ∈ ix, i ∈ vs) : wipe σ' vs = wipe σ vs := Dl.unQ (by
 simp (disch := with_unfolding_all
  refine @id _ ?_
  have hl : σ'.length = σ.length := h.1.trans (wipe_length σ vs)
  refine List.ext_getElem? fun i => ?_
  by_cases hi : i ∈ vs
  · rw [wipe_get hi, wipe_get hi, hl]
  · rw [wipe_out hi, wipe_out hi, h.2 i (fun z => hi (hs i z)), wipe_out hi]
 ) only [↓Dl.qTrue])
/-- f(), the exceptions wished for at the caller's slots -/
theorem pe_callS0 {X : Cx} {CX : CXT} {k : Nat} {f : Addr} {fd : FuncData} {ps : List Str} {sp : Sp} {E : List (Option V) → XK} {x : Str} {p pos : Pos} (F : FnOk X.prog X.w X.K X.mg X.base CX k f fd ps sp) (hr : Room k X.A) (hg : Gl X x) (hm : X.mg x = some (.ref f)) (hk : PySem.W.keepIn X.K (.ref f) = true)
    (hb : Binds X.K fd ps []) (hx : ∀ σ, PassesAt CX X σ (E σ)) (hdb : (x == ("__debug__" : Str)) = false) : PE X (.Call (.Name x p) [] [] pos) (tCallS sp E tNil) := by
  refine ⟨fun pins s σ H Q I h => ?_⟩
  refine wpAny_Call_Name_kw (ld_glob I hg hm ?_ hdb)
  exact PySem.W.callWith_K0 I.kIn hk (run_fnS (us := []) F hr hb (hx σ) I .nil h)
theorem hasSd {K : PySem.W.Frag} {H : Hp} {σd : SD} {σ : List (Option V)} (h : HasS K H σd σ) {i : Nat} {d : D} (e : σd[i]? = some (some d)) : ∃ v : V, σ[i]? = some (some v) ∧ Has K H d v := h.2 i d e
/-- a call of a numbered def -/
theorem call_ok {K : PySem.W.Frag} {W : WX} {n : Nat} {sp : Spec} {ta : XD → SD → GH → (List D → GH → Prop) → Prop} {σ : List (Option V)} {H : Hp} {Q : VK}
    (h : liftE K W (fun E σd G Qd => ta E σd G fun xs G1 => sp xs G1 Qd E) σ H Q) : tCallS (liftSp K n sp) (WE W) (liftA K W n ta) σ H Q := by
  obtain ⟨σd, G, Qd, E, l, h, f⟩ := h
  exact liftA.go l h fun H1 ds vs G1 e1 hn l1 hl h1 => ⟨by rw [hl.len]; exact hn, ds, G1, Qd, E, hl, l1.ok, h1, f.mv e1, l1.ex⟩
theorem cx_set {e : Expr} (h : (!setB e) = true) : setB e = false := by simpa using h
theorem tru_ok' {K : PySem.W.Frag} {H H1 : Hp} {Qd : Bool → GH → Prop} {Q : Bool → Hp → Prop} {G1 : GH} {x : D} {v : V} (f : ∀ H' b G', Ext H H' → GOk K H' G' → Qd b G' → Q b H') (e : Ext H H1) (g : GOk K H1 G1) (hx : Has K H1 x v) (q : truD x G1 fun b => Qd b G1) :
    ∃ k, TruV K v H1 k ∧ Q k H1 := Dl.unQ (by
 simp (disch := with_unfolding_all
  refine @id _ ?_
  unfold truD at q
  split at q
  · cases hx; exact ⟨_, rfl, f H1 _ G1 e g q⟩
  · cases hx; exact ⟨_, rfl, f H1 _ G1 e g q⟩
  · cases hx; exact ⟨_, rfl, f H1 _ G1 e g q⟩
  · obtain ⟨p, vs, rfl, t, l⟩ := hx
    exact ⟨_, .inr (.inl ⟨vs, t.sq, rfl⟩), by rw [l.empty]; exact f H1 _ G1 e g q⟩
  · cases hx
    split at q
    · rename_i z
      obtain ⟨vs, h1, h2⟩ := g.lst z
      exact ⟨_, .inl ⟨vs, SqL.of h1, rfl⟩, by rw [h2.empty]; exact f H1 _ G1 e g q⟩
    · exact q.elim
  · exact q.elim
 ) only [↓Dl.qTrue])
/-- what a comprehension asks, in the layer's words -/
theorem comp_imp {K : PySem.W.Frag} {W : WX} {el : Ex} {t : Tg} {it : It} {ifs : Exs} {own : List (Str × Nat)} (hown : ∀ i ∈ tgIx t, i ∈ own.map (·.2)) {σ : List (Option V)} {H : Hp} {Q : VK} (w : liftE K W (wpE Δ Γ (.comp el t it ifs own)) σ H Q) :
    tLc (liftI K W (wpI Δ Γ it)) (liftG K (fun _ _ _ _ => False) (wpG Δ Γ t) (tgIx t)) (liftT K (fun _ _ _ _ => False) (wpF Δ Γ ifs)) (liftE K (fun _ _ _ _ => False) (wpE Δ Γ el)) (own.map (·.2)) σ H Q := Dl.unQ (by
 simp (disch := with_unfolding_all
  refine @id _ ?_
  obtain ⟨σd, G, Qd, E, l, h, f⟩ := w
  refine ⟨σd, G, _, E, l, h, fun H1 w G1 J C e1 g1 h1 wd hC => ?_⟩
  intro p hp
  obtain ⟨I, i0, ik, it1, i2⟩ := h1 p (g1.free hp)
  have e2 : Ext H1 (upd H1 p (.lst [])) := Ext.new hp
  refine ⟨fun i m H' => m = w.xs.length - i ∧ i ≤ w.xs.length ∧ Ext H1 H' ∧ ∃ G', I i G' ∧ GOk K H' G', ⟨_, rfl, Nat.zero_le _, e2, _, i0, g1.at (o := .lst []) e2 ⟨[], upd_same, rfl⟩⟩, ?_⟩
  rintro i m H' ⟨rfl, hi, e3, G', q, g3⟩
  have cH : C H' := hC H' e3 ⟨G', g3, ik _ _ q⟩
  by_cases hlt : i < w.xs.length
  · refine .inr ⟨wd.goes i H' hlt cH, fun H2 => Ext H1 H2 ∧ ∃ G2, I (i + 1) G2 ∧ GOk K H2 G2, fun H2 ⟨a1, G2, a2, a3⟩ => ⟨_, by omega, rfl, hlt, a1, G2, a2, a3⟩, fun x H2 y => ?_⟩
    have hd : w.xs[i]? = some w.xs[i] := List.getElem?_eq_getElem hlt
    obtain ⟨hx, hH⟩ := wd.yields i H' x H2 _ hd cH y
    have e4 : Ext H' H2 ∧ GOk K H2 G' := by
      rcases hH with rfl | ⟨Tt, u, hT, rfl⟩
      · exact ⟨Ext.refl _, g3⟩
      · exact ⟨Ext.new hT, g3.un hT⟩
    obtain ⟨e4, g4⟩ := e4
    have e5 := e1.trans (e3.trans e4)
    refine ⟨_, wipeD σd (own.map (·.2)), G', _, noX, hx, ⟨(l.sl.ext e5).wipe _, g4, fun _ _ _ _ _ _ _ _ z => z.elim⟩, it1 i G' _ q hd, fun H3 σ3 G3 σ4 e6 hs3 g5 o3 q3 => ?_⟩
    refine ⟨wipe_off o3 hown, σ3, G3, _, noX, ⟨hs3, g5, fun _ _ _ _ _ _ _ _ z => z.elim⟩, q3, fun H4 b G4 e7 g6 q4 => ?_⟩
    split at q4
    · rename_i hb
      rw [if_pos hb]
      refine ⟨σ3, G4, _, noX, ⟨hs3.ext e7, g6, fun _ _ _ _ _ _ _ _ z => z.elim⟩, q4, fun H5 dy v G5 e8 hy g7 q5 => ?_⟩
      obtain ⟨acc, k1, k2, Gw, k3, k4⟩ := q5
      obtain ⟨vs, k5, k6⟩ := g7.lst k1
      obtain ⟨e9, g8⟩ := Fin.putL k5 (k6.snoc hy) g7
      exact ⟨vs, k5, by rw [k6.len]; exact k2, e3.trans (e4.trans (e6.trans (e7.trans (e8.trans e9)))), Gw, k4, g8.le k3⟩
    · rename_i hb
      rw [if_neg hb]
      obtain ⟨Gw, k3, k4⟩ := q4
      exact ⟨e3.trans (e4.trans (e6.trans e7)), Gw, k4, g6.le k3⟩
  · have ei : i = w.xs.length := by omega
    subst ei
    exact .inl ⟨wd.stops H' cH, f H' (.ref p) (.ref p) G' (e1.trans e3) rfl g3 (i2 G' q)⟩
 ) only [↓Dl.qTrue])
theorem nm_tg {sc : Scope} {e : Expr} (h : nmLoc sc e = true) : tgLoc sc e = true := by
  cases e <;> first
    | exact h
    | exact Bool.noConfusion (show false = true from h)
theorem soundKs {X : Cx} (kl : ClsAll X.K X.mg T.all) : ∀ {es : List Expr} {ks : List Nat}, isKs T X.env.scope ks es = true → PA X es (fun _ H Q => Q (ks.map (cvV X.K)) H) ∧ ∀ k, k ∈ ks → T.all.contains k = true ∨ k = 100
  | [], [], _ => ⟨PA.imp pa_nil fun σ H Q w => w, fun k h => by cases h⟩
  | [], _ :: _, h => by simp [isKs] at h
  | e :: es, [], h => by simp [isKs] at h
  | e :: es, j :: ks, h => by
    simp only [isKs, Bool.and_eq_true] at h
    obtain ⟨a1, a2⟩ := soundK (ks := []) kl h.1
    obtain ⟨b1, b2⟩ := soundKs kl h.2
    refine ⟨PA.imp (pa_cons a1 b1 (star_of (isK_bad h.1) _ _)) fun σ H Q w => w, fun k hk => ?_⟩
    rcases List.mem_cons.mp hk with rfl | hk
    · exact a2
    · exact b2 k hk
theorem isKeys_len : ∀ {ks : List Str} {keys : List (Option Expr)}, isKeys ks keys = true → keys.length = ks.length
  | [], [], _ => rfl
  | [], _ :: _, h => by simp [isKeys] at h
  | k :: ks, keys, h => by
    simp only [isKeys] at h
    split at h
    · simp only [Bool.and_eq_true] at h
      rw [List.length_cons, List.length_cons, isKeys_len h.2]
    · cases h
theorem isKeys_all : ∀ {ks : List Str} {keys : List (Option Expr)}, isKeys ks keys = true → keys.all (·.isSome) = true
  | [], [], _ => rfl
  | [], _ :: _, h => by simp [isKeys] at h
  | k :: ks, keys, h => by
    simp only [isKeys] at h
    split at h
    · simp only [Bool.and_eq_true] at h
      simp [isKeys_all h.2]
    · cases h
theorem isEs_len {sc : Scope} {c : Bool} : ∀ {p : Exs} {es : List Expr}, isEs T N p sc c es = true → es.length = p.len
  | .nil, [], _ => rfl
  | .nil, _ :: _, h => by simp [isEs] at h
  | .cons p r, [], h => by simp [isEs] at h
  | .cons p r, e :: es, h => by
    simp only [isEs, Bool.and_eq_true] at h
    rw [List.length_cons, isEs_len h.2]; rfl
theorem zip_kv : ∀ (ks : List Str) (vs : List V), (ks.map V.str).zip vs = ((ks.map Sum.inr).zip vs).map fun kv => (kV kv.1, kv.2)
  | [], _ => rfl
  | _ :: _, [] => rfl
  | k :: ks, v :: vs => by
    simp only [List.map_cons, List.zip_cons_cons, zip_kv ks vs]
    rfl
theorem zip_has {K : PySem.W.Frag} {H : Hp} : ∀ (ks : List Key) {ds : List D} {vs : List V}, HasL K H ds vs → HasK K H (ks.zip ds) (ks.zip vs)
  | [], _, _, _ => rfl
  | _ :: _, [], _, h => by cases h; rfl
  | k :: ks, d :: ds, _, h => by
    obtain ⟨v, r, rfl, h1, h2⟩ := h
    exact ⟨v, _, rfl, h1, zip_has ks h2⟩
theorem merge_has {K : PySem.W.Frag} {H : Hp} : ∀ {more : List (Key × D)} {rs : List (Key × V)} {fs : List (Key × D)} {l : List (Key × V)}, HasK K H fs l → HasK K H more rs → HasK K H (mergeD fs more) (mergeK l rs)
  | [], _, _, _, h, g => by cases g; exact h
  | (k, d) :: r, _, fs, l, h, g => by
    obtain ⟨v, q, rfl, h1, h2⟩ := g
    show HasK K H (mergeD (putD fs k d) r) (mergeK (putK l k v) q)
    exact merge_has (h.put h1) h2
/-- the values of a written dict -/
def liftP (K : PySem.W.Frag) (W : WX) (n : Nat) (ks : List Str) (t : XD → SD → GH → (List D → GH → Prop) → Prop) : List (Option V) → Hp → (List (V × V) → Hp → Prop) → Prop := fun σ H Q => ∃ σd G Qd E, Lk K W σ H σd G E ∧ t E σd G Qd ∧
  ∀ H' ds vs G', Ext H H' → ds.length = n → HasL K H' ds vs → GOk K H' G' → Qd ds G' → Q ((ks.map V.str).zip vs) H'
theorem paired_cls (K : PySem.W.Frag) : ∀ ks : List Nat, Paired ClsV (ks.map (cvV K)) (ks.map (cvK K))
  | [] => .nil
  | k :: ks => .cons (cv_cls K k) (paired_cls K ks)
theorem isx_pe {W : WX} {c : Bool} {X : Cx} (g : Good T Δ Γ k W c X) (hN : X.N = N) {i : Nat} {ks : List Nat} {tp : Bool} {sc : Scope} {e : Expr} (hs : X.env.scope = sc) (h : isE T N (.isx i ks tp) sc c e = true) : PE X e (liftE X.K W (wpE Δ Γ (.isx i ks tp))) := Dl.unQ (by
 simp (disch := with_unfolding_all
  refine @id _ ?_
  subst hs
  simp only [isE] at h
  split at h
  · rename_i x p y py t pos
    simp only [Bool.and_eq_true, beq_iff_eq, Bool.not_eq_true'] at h
    obtain ⟨⟨⟨⟨⟨⟨hc, rfl⟩, h1⟩, h2⟩, h3⟩, h4⟩, h5⟩ := h
    refine ⟨fun pins s σ H Q I w => ?_⟩
    obtain ⟨σd, G, Qd, E, l, w, f⟩ := w
    simp only [wpE] at w
    split at w
    · rename_i a d ns ds b j d' e1 e2
      obtain ⟨rfl, rfl, q⟩ := w
      obtain ⟨X', oe, pn, rfl, hz, hf, hk⟩ := g.exn hc _ _ _ e2
      have C := g.kls.exc _ hk
      obtain ⟨v, v1, v2⟩ := l.sl.2 i _ e1
      obtain ⟨v2, v3, v4⟩ := v2
      subst v2
      have dk : ∀ p, d = some p → ∃ l, H p = some (.xd l) := fun p hp => by
        by_cases hn : ns = []
        · rw [v3 hn] at hp; cases hp
        · obtain ⟨p', l', vs, z1, z2, _⟩ := v4 hn
          rw [z1] at hp
          cases hp
          exact ⟨_, z2⟩
      have pv : PE (X'.suite a ((a, oe) :: pn)) (.Name y py) (tVar i) := pe_var (by rw [hN]; exact h2) (vis_of h3) (nm1 h4) (nm2 h4)
      have fin : Q (.bl (ks.any (subC j))) H := f.here l.ok (d := .bl _) rfl q
      split at h5
      · rename_i es x1 x2
        simp only [Bool.and_eq_true, decide_eq_true_eq] at h5
        obtain ⟨a1, a2⟩ := soundKs (ks := ks) g.kls h5.2
        refine (pe_callB (call_isX C hz hf) (gl_of h1) (g.blt2 _ (by decide +kernel)) (by decide +kernel) (pa_cons pv (pa_cons (pe_tup a1) pa_nil (star_of rfl _ _)) (star_of rfl _ _)) (by decide +kernel) (by decide +kernel) (star_of rfl _ _) rfl).run pins s σ H Q I ?_
        refine ⟨_, v1, ?_⟩
        refine ⟨by rw [List.length_map, sizeLine_eq]; omega, fun p hp => ?_⟩
        have e3 : Ext H (upd H p (.tup (ks.map (cvV X'.K)))) := Ext.new hp
        refine ⟨fun p' hp' => ?_, .inr ⟨p, _, _, _, rfl, upd_same, paired_cls _ ks, kitAny_ks g.kls hk ks a2, ?_⟩⟩
        · obtain ⟨l', hl'⟩ := dk p' hp'
          exact ⟨l', e3.xd _ _ hl'⟩
        · exact f _ (.bl _) (.bl _) _ e3 rfl (l.ok.un hp) q
      · simp only [Bool.and_eq_true] at h5
        cases ks with
        | nil => simp [isKs] at h5
        | cons k0 ks =>
          simp only [isKs, Bool.and_eq_true] at h5
          cases ks with
          | cons _ _ => simp [isKs] at h5
          | nil =>
            obtain ⟨a1, a2⟩ := soundK (ks := []) g.kls h5.2.1
            refine (pe_callB (call_isX C hz hf) (gl_of h1) (g.blt2 _ (by decide +kernel)) (by decide +kernel) (pa_cons pv (pa_cons a1 pa_nil (star_of (isK_bad h5.2.1) _ _)) (star_of rfl _ _)) (by decide +kernel) (by decide +kernel) (star_of rfl _ _) (by rw [star_of (isK_bad h5.2.1)]; rfl)).run pins s σ H Q I ?_
            refine ⟨_, v1, dk, .inl ⟨_, cvK _ k0, _, rfl, fun u hu => (cv_cls _ k0).eq hu, g.kls.kit j k0 hk a2, ?_⟩⟩
            simpa using fin
    · exact w.elim
  · cases h
 ) only [↓Dl.qTrue])
mutual
theorem soundE : ∀ (p : Ex) (sc : Scope) (c : Bool) (e : Expr), isE T N p sc c e = true → ∀ (X : Cx) (W : WX), Good T Δ Γ k W c X → Defs T Δ k X → X.N = N → X.env.scope = sc → PE X e (liftE X.K W (wpE Δ Γ p))
  | .var i, sc, c, e, h, X, W, g, df, hN, hs => by
    simp only [isE] at h
    split at h
    · simp only [Bool.and_eq_true, beq_iff_eq] at h
      refine PE.imp (pe_var (i := i) (by rw [hN]; exact h.1.1) (by rw [hs]; exact vis_of h.1.2) (nm1 h.2) (nm2 h.2)) fun σ H Q q => ?_
      obtain ⟨σd, G, Qd, E, l, h, f⟩ := q
      simp only [wpE] at h
      split at h
      · rename_i v e
        obtain ⟨u, h1, h2⟩ := l.sl.2 i _ e
        exact ⟨u, h1, f.here l.ok h2 h⟩
      · exact h.elim
    · cases h
  | .non, sc, c, e, h, X, W, g, df, hN, hs => by
    simp only [isE] at h
    split at h
    · refine PE.imp pe_non fun σ H Q q => ?_
      obtain ⟨σd, G, Qd, E, l, h, f⟩ := q
      exact f.here (d := .non) l.ok rfl h
    · cases h
  | .bl b, sc, c, e, h, X, W, g, df, hN, hs => by
    simp only [isE] at h
    split at h
    · have e := beq_iff_eq.mp h
      subst e
      refine PE.imp pe_bl fun σ H Q q => ?_
      obtain ⟨σd, G, Qd, E, l, h, f⟩ := q
      exact f.here (d := .bl _) l.ok rfl h
    · cases h
  | .int i, sc, c, e, h, X, W, g, df, hN, hs => by
    simp only [isE] at h
    split at h
    · have e := beq_iff_eq.mp h
      subst e
      refine PE.imp pe_int fun σ H Q q => ?_
      obtain ⟨σd, G, Qd, E, l, h, f⟩ := q
      exact f.here (d := .int _) l.ok rfl h
    · cases h
  | .str s, sc, c, e, h, X, W, g, df, hN, hs => by
    simp only [isE] at h
    split at h
    · have e := beq_iff_eq.mp h
      subst e
      refine PE.imp pe_str fun σ H Q q => ?_
      obtain ⟨σd, G, Qd, E, l, h, f⟩ := q
      exact f.here (d := .str _) l.ok rfl h
    · cases h
  | .glob n, sc, c, e, h, X, W, g, df, hN, hs => by
    simp only [isE] at h
    split at h
    · simp only [Bool.and_eq_true, beq_iff_eq] at h
      obtain ⟨⟨h1, h2⟩, h3⟩ := h
      subst hs
      refine ⟨fun pins s σ H Q I q => ?_⟩
      obtain ⟨σd, G, Qd, E, l, h, f⟩ := q
      simp only [wpE] at h
      split at h
      · rename_i d e
        obtain ⟨u, v, m1, m2, m3⟩ := g.gls n _ d h1 e
        exact (pe_glob (gl_of h2) m1 m2 (nm1 h3)).run pins s σ H Q I (f.here l.ok (m3 H) h)
      · exact h.elim
    · cases h
  | .tup es, sc, c, e, h, X, W, g, df, hN, hs => by
    simp only [isE] at h
    split at h
    · refine PE.imp (pe_tup (soundEs es sc c _ h X W g df hN hs)) fun σ H Q q => ?_
      obtain ⟨σd, G, Qd, E, l, h, f⟩ := q
      exact liftA.go l h fun H1 ds vs G1 e1 hn l1 hl h1 => ⟨by rw [hl.len]; exact h1.1, (f.mv e1).newT l1.ok hl h1.2⟩
    · cases h
  | .lst es, sc, c, e, h, X, W, g, df, hN, hs => by
    simp only [isE] at h
    split at h
    · refine PE.imp (pe_lst (soundEs es sc c _ h X W g df hN hs)) fun σ H Q q => ?_
      obtain ⟨σd, G, Qd, E, l, h, f⟩ := q
      exact liftA.go l h fun H1 ds vs G1 e1 hn l1 hl h1 => ⟨by rw [hl.len]; exact h1.1, (f.mv e1).newL l1.ok hl h1.2⟩
    · cases h
  | .bin op a b, sc, c, e, h, X, W, g, df, hN, hs => by
    simp only [isE] at h
    split at h
    · simp only [Bool.and_eq_true, beq_iff_eq] at h
      obtain ⟨⟨rfl, h1⟩, h2⟩ := h
      refine PE.imp (pe_op (sound_op op) (soundE a sc c _ h1 X W g df hN hs) (soundE b sc c _ h2 X W g df hN hs)) fun σ H Q q => ?_
      obtain ⟨σd, G, Qd, E, l, h, f⟩ := q
      exact liftE.go l h fun H1 x v G1 e1 l1 hx h1 => liftE.go l1 h1 fun H2 y u G2 e2 l2 hy h2 => ⟨x, y, G2, Qd, Has.ext e2 _ _ hx, hy, l2.ok, h2, f.mv (e1.trans e2)⟩
    · cases h
  | .neg a, sc, c, e, h, X, W, g, df, hN, hs => by
    simp only [isE] at h
    split at h
    · refine PE.imp (pe_un sound_neg (soundE a sc c _ h X W g df hN hs)) fun σ H Q q => ?_
      obtain ⟨σd, G, Qd, E, l, h, f⟩ := q
      exact liftE.go l h fun H1 x v G1 e1 l1 hx h1 => ⟨x, G1, Qd, hx, l1.ok, h1, f.mv e1⟩
    · cases h
  | .nt a, sc, c, e, h, X, W, g, df, hN, hs => by
    simp only [isE] at h
    split at h
    · refine PE.imp (pe_not (soundE a sc c _ h X W g df hN hs)) fun σ H Q q => ?_
      obtain ⟨σd, G, Qd, E, l, h, f⟩ := q
      refine liftE.go l h fun H1 x v G1 e1 l1 hx h1 => ?_
      split at h1
      · cases hx
        exact ⟨_, rfl, (f.mv e1).here (d := .bl _) l1.ok rfl h1⟩
      · exact h1.elim
    · cases h
  | .cmp op a b, sc, c, e, h, X, W, g, df, hN, hs => by
    simp only [isE] at h
    split at h
    · simp only [Bool.and_eq_true, beq_iff_eq] at h
      obtain ⟨⟨⟨rfl, h1⟩, h2⟩, h3⟩ := h
      refine PE.imp (pe_cmpR (sound_cmp op g.units) (soundE a sc c _ h1 X W g df hN hs) (soundE b sc c _ h2 X W g df hN hs) (marks_of (cx_set h3) _)) fun σ H Q q => ?_
      obtain ⟨σd, G, Qd, E, l, h, f⟩ := q
      exact liftE.go l h fun H1 x v G1 e1 l1 hx h1 => liftE.go l1 h1 fun H2 y u G2 e2 l2 hy h2 => ⟨x, y, G2, Qd, Has.ext e2 _ _ hx, hy, l2.ok, h2, f.mv (e1.trans e2)⟩
    · cases h
  | .cmp2 o1 o2 a b d, sc, c, e, h, X, W, g, df, hN, hs => by
    simp only [isE] at h
    split at h
    · simp only [Bool.and_eq_true, beq_iff_eq] at h
      obtain ⟨⟨⟨⟨⟨rfl, rfl⟩, h1⟩, h2⟩, h3⟩, h4⟩ := h
      refine PE.imp (pe_chain (sound_cmp o1 g.units) (sound_cmp o2 g.units) (soundE a sc c _ h1 X W g df hN hs) (soundE b sc c _ h2 X W g df hN hs) (soundE d sc c _ h3 X W g df hN hs) (marks2_of (cx_set h4) _ _)) fun σ H Q q => ?_
      obtain ⟨σd, G, Qd, E, l, h, f⟩ := q
      refine liftE.go l h fun H1 x v G1 e1 l1 hx h1 => liftE.go l1 h1 fun H2 y u G2 e2 l2 hy h2 => ?_
      refine ⟨x, y, G2, _, Has.ext e2 _ _ hx, hy, l2.ok, h2, fun H3 z zv G3 e3 hz g3 h3 => ?_⟩
      split at h3
      · cases hz
        refine ⟨_, rfl, ?_⟩
        split at h3
        · rename_i hk
          rw [if_pos hk]
          exact liftE.go (l2.mv e3 g3) h3 fun H4 w wv G4 e4 l4 hw h4 => ⟨y, w, G4, Qd, Has.ext (e3.trans e4) _ _ hy, hw, l4.ok, h4, f.mv (e1.trans (e2.trans (e3.trans e4)))⟩
        · rename_i hk
          rw [if_neg hk]
          exact (f.mv (e1.trans (e2.trans e3))).here (d := .bl _) g3 rfl h3
      · exact h3.elim
    · cases h
  | .boo op es, sc, c, e, h, X, W, g, df, hN, hs => by
    simp only [isE] at h
    split at h
    · simp only [Bool.and_eq_true, beq_iff_eq] at h
      obtain ⟨rfl, h1⟩ := h
      exact soundB op es sc c _ h1 X W _ g df hN hs
    · cases h
  | .ife t a b, sc, c, e, h, X, W, g, df, hN, hs => by
    simp only [isE] at h
    split at h
    · simp only [Bool.and_eq_true] at h
      obtain ⟨⟨h1, h2⟩, h3⟩ := h
      refine PE.imp (pe_ifExp (soundT t sc c _ h1 X W g df hN hs) (soundE a sc c _ h2 X W g df hN hs) (soundE b sc c _ h3 X W g df hN hs)) fun σ H Q q => ?_
      obtain ⟨σd, G, Qd, E, l, h, f⟩ := q
      refine liftT.go l h fun H1 b G1 e1 l1 h1 => ?_
      split at h1
      · rename_i hb
        rw [if_pos hb]
        exact ⟨σd, G1, Qd, E, l1, h1, f.mv e1⟩
      · rename_i hb
        rw [if_neg hb]
        exact ⟨σd, G1, Qd, E, l1, h1, f.mv e1⟩
    · cases h
  | .ix a i, sc, c, e, h, X, W, g, df, hN, hs => by
    simp only [isE] at h
    split at h
    · simp only [Bool.and_eq_true] at h
      obtain ⟨h1, h2⟩ := h
      refine PE.imp (pe_ix (sound_ix g.units) (soundE a sc c _ h1 X W g df hN hs) (soundE i sc c _ h2 X W g df hN hs) (plainIx_of (isE_bad h2))) fun σ H Q q => ?_
      obtain ⟨σd, G, Qd, E, l, h, f⟩ := q
      exact liftE.go l h fun H1 x v G1 e1 l1 hx h1 => liftE.go l1 h1 fun H2 y u G2 e2 l2 hy h2 => ⟨x, y, G2, Qd, Has.ext e2 _ _ hx, hy, l2.ok, h2, f.mv (e1.trans e2)⟩
    · cases h
  | .slc a lo hi, sc, c, e, h, X, W, g, df, hN, hs => by
    simp only [isE] at h
    split at h
    · simp only [Bool.and_eq_true] at h
      obtain ⟨⟨h1, h2⟩, h3⟩ := h
      refine PE.imp (pe_slice sound_sl (soundE a sc c _ h1 X W g df hN hs) (soundO lo sc c _ h2 X W g df hN hs) (soundO hi sc c _ h3 X W g df hN hs)) fun σ H Q q => ?_
      obtain ⟨σd, G, Qd, E, l, h, f⟩ := q
      exact liftE.go l h fun H1 x v G1 e1 l1 hx h1 => liftO.go l1 h1 fun H2 o1 G2 e2 l2 h2 => liftO.go l2 h2 fun H3 o2 G3 e3 l3 h3 =>
        ⟨x, G3, Qd, Has.ext (e2.trans e3) _ _ hx, l3.ok, h3, f.mv (e1.trans (e2.trans e3))⟩
    · cases h
  | .call n es, sc, c, e, h, X, W, g, df, hN, hs => by
    simp only [isE] at h
    split at h
    · simp only [Bool.and_eq_true, beq_iff_eq] at h
      obtain ⟨⟨⟨⟨hc, h1⟩, h2⟩, h3⟩, h4⟩ := h
      subst hs
      cases q : Δ n with
      | none =>
        refine ⟨fun pins s σ H Q I w => ?_⟩
        obtain ⟨σd, G, Qd, E, l, h, f⟩ := w
        simp only [wpE, q] at h
      | some sp =>
        obtain ⟨fa, fd, ps, hps, F, m, kp, b⟩ := df.fn n _ _ sp h1 q
        rename_i x _ es' _
        have A := soundEs es _ c _ h4 X W g df hN rfl
        have key : ∀ p1 p2, PE X (.Call (.Name x p1) es' [] p2) (tCallS (liftSp X.K es.len sp) (WE W) (liftA X.K W es.len (wpEs Δ Γ es))) := by
          intro p1 p2
          cases es' with
          | nil =>
            cases es with
            | nil => 
              refine PE.imp (pe_callS0 F (g.room hc) (gl_of h2) m kp b (fun σ => passAt g.tk σ) (nm1 h3)) fun σ H Q w => ?_
              obtain ⟨σd, G, Qd, E, l, h, f⟩ := w
              exact f H [] [] G (Ext.refl H) rfl rfl l.ok h
            | cons _ _ => simp [isEs] at h4
          | cons e1 es1 =>
            cases es with
            | nil => simp [isEs] at h4
            | cons pa ps1 =>
              have h5 := h4
              simp only [isEs, Bool.and_eq_true] at h5
              exact pe_callS F (g.room hc) (gl_of h2) m kp b (fun σ => passAt g.tk σ) A (nm1 h3) (star_of (isE_bad h5.1) _ _) (star_list h5.2 _ _)
        refine PE.imp (key _ _) fun σ H Q w => call_ok ?_
        obtain ⟨σd, G, Qd, E, l, h, f⟩ := w
        refine ⟨σd, G, Qd, E, l, ?_, f⟩
        simp only [wpE, q] at h
        exact h
    · cases h
  | .blt n es, sc, c, e, h, X, W, g, df, hN, hs => by
    simp only [isE] at h
    split at h
    · simp only [Bool.and_eq_true, beq_iff_eq] at h
      obtain ⟨⟨⟨⟨hc, rfl⟩, h2⟩, h4⟩, h5⟩ := h
      subst hs
      rename_i es' _
      have A := soundEs es _ c _ h4 X W g df hN rfl
      cases es' with
      | nil => simp at h5
      | cons e1 es1 =>
        have hm : X.mg (bfN n) = none := g.blt n
        have s1 : starEach (e1 :: es1) X.env = (false, eval e1 X.env) :: starEach es1 X.env := by
          cases es with
          | nil => simp [isEs] at h4
          | cons p1 ps1 =>
            simp only [isEs, Bool.and_eq_true] at h4
            exact star_of (isE_bad h4.1) _ _
        have s2 : ∀ pos, (backTo pos (starEach es1 X.env)).any (·.1) = false := by
          cases es with
          | nil => simp [isEs] at h4
          | cons p1 ps1 =>
            simp only [isEs, Bool.and_eq_true] at h4
            exact star_list h4.2 _
        obtain ⟨b1, b2, b3⟩ := bf_ok n
        have fin : ∀ {r : List D → GH → QD → Prop} {σ : List (Option V)} {H : Hp} {Q : VK}, liftE X.K W (fun E σd G Qd => wpEs Δ Γ es E σd G fun xs G1 => r xs G1 Qd) σ H Q → tCB (liftC X.K r) (liftA X.K W es.len (wpEs Δ Γ es)) σ H Q := fun {r σ H Q} w => by
          obtain ⟨σd, G, Qd, E, l, h, f⟩ := w
          exact liftA.go l h fun H1 ds vs G1 e1 hn l1 hl h1 => ⟨ds, G1, Qd, hl, l1.ok, h1, f.mv e1⟩
        cases n with
        | len => exact PE.imp (pe_callB sound_len (gl_of h2) hm b3 A b2 b1 s1 (s2 _)) fun σ H Q w => fin w
        | max => exact PE.imp (pe_callB (sound_max (g.calm (by simpa [bfCalm] using hc))) (gl_of h2) hm b3 A b2 b1 s1 (s2 _)) fun σ H Q w => fin w
        | min => exact PE.imp (pe_callB (sound_min (g.calm (by simpa [bfCalm] using hc))) (gl_of h2) hm b3 A b2 b1 s1 (s2 _)) fun σ H Q w => fin w
        | list => exact PE.imp (pe_callTy (sound_list (g.calm (by simpa [bfCalm] using hc))) (gl_of h2) hm b3 A b2 b1 s1 (s2 _)) fun σ H Q w => fin w
        | tuple => exact PE.imp (pe_callTy sound_tuple (gl_of h2) hm b3 A b2 b1 s1 (s2 _)) fun σ H Q w => fin w
        | sorted => exact PE.imp (pe_callB sound_sorted (gl_of h2) hm b3 A b2 b1 s1 (s2 _)) fun σ H Q w => fin w
        | int => exact PE.imp (pe_callTy sound_int (gl_of h2) hm b3 A b2 b1 s1 (s2 _)) fun σ H Q w => fin w
        | sum => exact PE.imp (pe_callB (sound_sum (g.calm (by simpa [bfCalm] using hc))) (gl_of h2) hm b3 A b2 b1 s1 (s2 _)) fun σ H Q w => fin w
        | dict => exact PE.imp (pe_callTy sound_dict (gl_of h2) hm b3 A b2 b1 s1 (s2 _)) fun σ H Q w => fin w
    · cases h
  | .met m o es, sc, c, e, h, X, W, g, df, hN, hs => by
    simp only [isE] at h
    split at h
    · simp only [Bool.and_eq_true, beq_iff_eq] at h
      obtain ⟨⟨⟨⟨⟨⟨rfl, h1⟩, h2⟩, h3⟩, h4⟩, h5⟩, h6⟩ := h
      rename_i o' _ apos es' cpos
      have O := soundE o sc c _ h2 X W g df hN hs
      have A := soundEs es sc c _ h3 X W g df hN hs
      cases es' with
      | nil => simp at h4
      | cons e1 es1 =>
        have s0 : isEs T N es sc c (e1 :: es1) = true := h3
        have s1 : starEach (e1 :: es1) X.env = (false, eval e1 X.env) :: starEach es1 X.env := by
          cases es with
          | nil => simp [isEs] at h3
          | cons p1 ps1 =>
            simp only [isEs, Bool.and_eq_true] at h3
            exact star_of (isE_bad h3.1) _ _
        have s2 : (backTo cpos (starEach es1 X.env)).any (·.1) = false := by
          cases es with
          | nil => simp [isEs] at h3
          | cons p1 ps1 =>
            simp only [isEs, Bool.and_eq_true] at h3
            exact star_list h3.2 _ _
        have few : ((backTo cpos (starEach (e1 :: es1) X.env)).all (fun x => !x.1) && (backToKw cpos (keywordEach [] X.env)).all (fun x => x.1.isSome)
            && decide ((e1 :: es1).length + ([] : List Keyword).length + (if ([] : List Keyword).isEmpty then 0 else 1) < 30)) = true := by
          rw [star_all s0]
          have h5' : (e1 :: es1).length < 20 := by simpa using h5
          have : (e1 :: es1).length + 0 + 0 < 30 := by omega
          show (true && true && decide ((e1 :: es1).length + 0 + 0 < 30)) = true
          rw [decide_eq_true this] <;> rfl
        have line : (apos.endLine == cpos.line) = true := by simpa using h6
        have fin : ∀ {Ty : String} {r : D → List D → GH → QD → Prop} {cd : D → GH → Prop} {σ : List (Option V)} {H : Hp} {Q : VK}, (∀ H G x v, GOk X.K H G → Has X.K H x v → cd x G → tyV X.K Ty v H) →
            liftE X.K W (fun E σd G Qd => wpE Δ Γ o E σd G fun x G1 => cd x G1 ∧ wpEs Δ Γ es E σd G1 fun xs G2 => r x xs G2 Qd) σ H Q →
            tBM X.K Ty (liftM X.K r) (liftE X.K W (wpE Δ Γ o)) (liftA X.K W es.len (wpEs Δ Γ es)) σ H Q := fun {Ty r cd σ H Q} hc w => by
          obtain ⟨σd, G, Qd, E, l, h, f⟩ := w
          exact liftE.go l h fun H1 x v G1 e1 l1 hx h1 => ⟨hc H1 G1 x v l1.ok hx h1.1, liftA.go l1 h1.2 fun H2 ds vs G2 e2 hn l2 hl h2 => ⟨x, ds, G2, Qd, Has.ext e2 _ _ hx, hl, l2.ok, h2, f.mv (e1.trans e2)⟩⟩
        cases m with
        | append => exact PE.imp (pe_bm PySem.F.plainAttrs_list PySem.F.slot_list_append PySem.F.type_list_append sound_append O A (recv_of h1 _ _) few line s1 s2) fun σ H Q w => fin (fun H G x v g hx c => isLst_ty g hx c) w
        | pop => exact PE.imp (pe_bm PySem.F.plainAttrs_list PySem.F.slot_list_pop PySem.F.type_list_pop sound_pop O A (recv_of h1 _ _) few line s1 s2) fun σ H Q w => fin (fun H G x v g hx c => isLst_ty g hx c) w
        | count => exact PE.imp (pe_bm PySem.F.plainAttrs_list PySem.F.slot_list_count PySem.F.type_list_count sound_count O A (recv_of h1 _ _) few line s1 s2) fun σ H Q w => fin (fun H G x v g hx c => isLst_ty g hx c) w
        | index => exact PE.imp (pe_bm PySem.F.plainAttrs_list PySem.F.slot_list_index PySem.F.type_list_index sound_index O A (recv_of h1 _ _) few line s1 s2) fun σ H Q w => fin (fun H G x v g hx c => isLst_ty g hx c) w
        | reverse => exact PE.imp (pe_bm PySem.F.plainAttrs_list PySem.F.slot_list_reverse PySem.F.type_list_reverse sound_reverse O A (recv_of h1 _ _) few line s1 s2) fun σ H Q w => fin (fun H G x v g hx c => isLst_ty g hx c) w
        | get => exact PE.imp (pe_bm PySem.F.plainAttrs_dict PySem.F.slot_dict_get PySem.F.type_dict_get (sound_get g.units) O A (recv_of h1 _ _) few line s1 s2) fun σ H Q w => fin (fun H G x v g hx c => isDct_ty g hx c) w
    · cases h
  | .isi a ty, sc, c, e, h, X, W, g, df, hN, hs => by
    simp only [isE] at h
    split at h
    · simp only [Bool.and_eq_true, beq_iff_eq] at h
      obtain ⟨⟨⟨⟨⟨rfl, h1⟩, h2⟩, rfl⟩, h3⟩, h4⟩ := h
      subst hs
      have O := soundE a _ c _ h4 X W g df hN rfl
      have key : bootBuiltins (Str.ofString ty) = some (.type ty) ∧ (Str.ofString ty ≠ "__name__") ∧ (Str.ofString ty == ("__debug__" : Str)) = false ∧ X.mg (Str.ofString ty) = none := by
        unfold tyN at h2
        simp only [Bool.or_eq_true, beq_iff_eq] at h2
        rcases h2 with ((((rfl | rfl) | rfl) | rfl) | rfl) | rfl
        all_goals exact ⟨by decide +kernel, by decide +kernel, by decide +kernel, g.blt2 _ (by decide +kernel)⟩
      obtain ⟨k1, k2, k3, k4⟩ := key
      refine PE.imp (pe_callB call_isi (gl_of h1) (g.blt2 _ (by decide +kernel)) (by decide +kernel) (pa_cons O (pa_cons (pe_bltn (v := .ty ty) (gl_of h3) k4 k1 rfl k2 k3) pa_nil (star_of rfl _ _)) (star_of (isE_bad h4) _ _)) (by decide +kernel) (by decide +kernel) (star_of (isE_bad h4) _ _) rfl) fun σ H Q w => ?_
      obtain ⟨σd, G, Qd, E, l, h, f⟩ := w
      refine liftE.go l h fun H1 x v G1 e1 l1 hx h1 => ?_
      split at h1
      · rename_i t et
        split at h1
        · rename_i b eb
          exact ⟨v, .ty ty, .type t, .type ty, b, rfl, .ty ty, ty_of l1.ok hx et, kit_ty eb, (f.mv e1).here (d := .bl _) l1.ok rfl h1⟩
        · exact h1.elim
      · exact h1.elim
    · cases h
  | .isx i ks tp, sc, c, e, h, X, W, g, df, hN, hs => isx_pe g hN hs h
  | .gfn x, sc, c, e, h, X, W, g, df, hN, hs => by
    simp only [isE] at h
    split at h
    · simp only [Bool.and_eq_true, beq_iff_eq] at h
      obtain ⟨⟨⟨rfl, h1⟩, h2⟩, h3⟩ := h
      subst hs
      refine PE.imp (pe_glob (v := .ref (He.ga X.K x)) (gl_of h2) (g.gfs x h1) rfl (nm1 h3)) fun σ H Q q => ?_
      obtain ⟨σd, G, Qd, E, l, h, f⟩ := q
      exact f.here (d := .fn x) l.ok rfl h
    · cases h
  | .cal p cs es, sc, c, e, h, X, W, g, df, hN, hs => by
    simp only [isE] at h
    split at h
    · rename_i f' es' pos
      simp only [Bool.and_eq_true, List.all_eq_true, beq_iff_eq] at h
      obtain ⟨⟨⟨⟨⟨hc, h1⟩, h2⟩, h3⟩, h4⟩, h5⟩ := h
      subst hs
      have A := soundE p _ c _ h2 X W g df hN rfl
      have B := soundEs es _ c _ h4 X W g df hN rfl
      cases es' with
      | nil => cases h5
      | cons e1 es1 =>
        refine ⟨fun pins s σ H Q I w => ?_⟩
        obtain ⟨σd, G, Qd, E, l, w, f⟩ := w
        have ev : eval (.Call f' (e1 :: es1) [] pos) X.env = (do callWith pos (← eval f' X.env) [] (backTo pos (starEach (e1 :: es1) X.env)) (backToKw pos (keywordEach [] X.env))) := by
          cases f' <;> first
            | rfl
            | exact Bool.noConfusion (show false = true from h1)
        rw [ev]
        refine wpAny_bind (thn (A.run pins s σ H (fun v H1 => ∃ x G1, Ext H H1 ∧ Has X.K H1 x v ∧ GOk X.K H1 G1 ∧ (match x with
            | .fn n => match cs.lookup n with
              | some f => match Δ f with | some sp => wpEs Δ Γ es E σd G1 fun xs G2 => sp xs G2 Qd E | none => False
              | none => False
            | _ => False)) I ⟨σd, G, _, E, l, w, fun H1 x v G1 e1 hx g1 q => ⟨x, G1, e1, hx, g1, q⟩⟩) fun u s1 ⟨v, H1, I1, r1, x, G1, e1, hx, g1, q⟩ => ?_)
        cases x with
        | fn n =>
          cases q1 : cs.lookup n with
          | none => simp only [q1] at q
          | some m =>
            simp only [q1] at q
            cases q2 : Δ m with
            | none => simp only [q2] at q
            | some sp =>
              simp only [q2] at q
              obtain ⟨h6, h7⟩ := h3 (n, m) (PySem.mem_of_lookup q1)
              obtain ⟨fa, fd, ps, hps, F, mm, kp, b⟩ := df.fn m _ _ sp h6 q2
              have ea : fa = He.ga X.K n := by
                have z := mm.symm.trans (g.gfs n h7)
                cases z; rfl
              subst ea
              obtain rfl : v = .ref (He.ga X.K n) := hx
              obtain rfl : u = Value.ref (He.ga X.K n) := r1
              have l1 := l.mv e1 g1
              refine PySem.W.callWith_K (h₀ := X.base) I1.ok.mod.kin kp (thn (B.run pos pins s1 σ H1 (fun vs H2 => liftSp X.K es.len sp vs H2 Q (WE W σ)) I1 ?_) fun us s2 ⟨vs, H2, I2, r, q⟩ => ⟨I2.kIn, ?_⟩) (star_of (isE_bad (isEs_hd h4)) _ _) (star_tl h4 _ _)
              · refine liftA.go l1 q fun H2 ds vs G2 e2 hn l2 hl h8 => ⟨by rw [hl.len]; exact hn, ds, G2, Qd, E, hl, l2.ok, h8, f.mv (e1.trans e2), l2.ex⟩
              · exact run_fnS F (g.room hc) b (passAt g.tk σ) I2 r q
        | _ => exact q.elim
    · cases h
  | .dsp ks es, sc, c, e, h, X, W, g, df, hN, hs => by
    simp only [isE] at h
    split at h
    · rename_i keys vals pos
      simp only [Bool.and_eq_true, decide_eq_true_eq] at h
      obtain ⟨⟨⟨h1, h2⟩, h3⟩, h4⟩ := h
      cases ks with
      | nil =>
        cases keys with
        | cons _ _ => simp [isKeys] at h1
        | nil =>
          cases es with
          | cons _ _ => simp [Exs.len] at h3
          | nil =>
            cases vals with
            | cons _ _ => simp [isEs] at h2
            | nil =>
              refine PE.imp pe_dnewK fun σ H Q q => ?_
              obtain ⟨σd, G, Qd, E, l, w, f⟩ := q
              intro p hp
              have w2 := w p (l.ok.free hp)
              simp only [wpEs] at w2
              have e1 : Ext H (upd H p (.dK [])) := Ext.new hp
              refine f _ (.ref p) (.ref p) _ e1 rfl (l.ok.at (o := .dk []) e1 ⟨[], upd_same, rfl⟩) ?_
              have := w2.2.2
              rw [gup_gup] at this
              exact this
      | cons k0 ks =>
        obtain ⟨trs, hp, ht⟩ := soundPs es (k0 :: ks) sc c keys vals h1 h2 h3 X W pos g df hN hs
        have hk := isKeys_len h1
        have hv := isEs_len h2
        refine PE.imp (pe_disp hp (isKeys_all h1) (by omega) (fun z => by rw [z] at hk; simp at hk) (by omega)) fun σ H Q q => ?_
        obtain ⟨σd, G, Qd, E, l, w, f⟩ := q
        intro p hp
        have e1 : Ext H (upd H p (.dK [])) := Ext.new hp
        have g1 : GOk X.K (upd H p (.dK [])) (gup G p (.dk [])) := l.ok.at (o := .dk []) e1 ⟨[], upd_same, rfl⟩
        refine ht σ _ _ ⟨σd, _, _, E, l.mv e1 g1, w p (l.ok.free hp), fun H2 ds vs G2 e2 hn hl g2 q2 => ?_⟩
        obtain ⟨q3, q4, q5⟩ := q2
        obtain ⟨l2, a1, a2⟩ := g2.dk q4
        cases a2
        refine ⟨a1, ((k0 :: ks).map Sum.inr).zip vs, zip_kv _ _, by rw [List.length_zip, List.length_map]; omega, ?_⟩
        have e3 : Ext H2 (upd H2 p (.dK (mergeK [] (((k0 :: ks).map Sum.inr).zip vs)))) := Ext.put a1 (show Mu (.dK []) from True.intro)
        refine f _ (.ref p) (.ref p) _ (e1.trans (e2.trans e3)) rfl (g2.at (o := .dk _) e3 ⟨_, upd_same, ?_⟩) q5
        exact merge_has (fs := []) (l := []) rfl (zip_has _ (HasL.ext e3 _ _ hl))
    · cases h
  | .fld a C f, sc, c, e, h, X, W, g, df, hN, hs => by
    simp only [isE] at h
    split at h
    · simp only [Bool.and_eq_true, beq_iff_eq] at h
      obtain ⟨⟨⟨rfl, h1⟩, h2⟩, h3⟩ := h
      obtain ⟨c1, c2⟩ := g.ats C f h1
      refine PE.imp (pe_fld (soundE a sc c _ h3 X W g df hN hs) (recv_of h2 _ _)) fun σ H Q q => ?_
      obtain ⟨σd, G, Qd, E, l, h, fi⟩ := q
      refine liftE.go l h fun H1 x v G1 e1 l1 hx h1 => ?_
      unfold fldD at h1
      split at h1
      · cases hx
        split at h1
        · rename_i eg
          obtain ⟨rfl, hv⟩ := h1
          split at hv
          · rename_i d ed
            obtain ⟨dx, ls, k1, k2⟩ := l1.ok.ins eg
            obtain ⟨w, w1, w2⟩ := (k2.get).1 d ed
            exact ⟨_, _, dx, ls, w, rfl, k1, c1, c2, w1, (fi.mv e1).here l1.ok w2 hv⟩
          · exact hv.elim
        · exact h1.elim
      · exact h1.elim
    · cases h
  | .mth C m n o es, sc, c, e, h, X, W, g, df, hN, hs => by
    simp only [isE] at h
    split at h
    · rename_i o' m' apos es' cpos
      simp only [Bool.and_eq_true, beq_iff_eq, decide_eq_true_eq] at h
      obtain ⟨⟨⟨⟨⟨⟨⟨hc, rfl⟩, h1⟩, h2⟩, h3⟩, h4⟩, h5⟩, h6⟩ := h
      cases q : Δ n with
      | none =>
        refine ⟨fun pins s σ H Q I w => ?_⟩
        obtain ⟨σd, G, Qd, E, l, h, f⟩ := w
        simp only [wpE, q] at h
      | some sp =>
        obtain ⟨fa, fd, ps, hps, F, cl, me, b⟩ := df.mt n C m _ sp h1 q
        have A := soundEs es sc c _ h4 X W g df hN hs
        have O := soundE o sc c _ h3 X W g df hN hs
        have px : Passes (L2.CX X.prog X.w) X (fun _ _ _ => False) := passes_call g.tk fun _ _ _ _ z => z.elim
        have hv := isEs_len h4
        have few : methodCallForm es'.length (backTo cpos (starEach es' X.env)) (backToKw cpos (keywordEach [] X.env)) = true := by
          unfold methodCallForm
          rw [star_all h4, Bool.true_and]
          show (true && decide (es'.length + 0 < 30)) = true
          rw [decide_eq_true (by omega)] <;> rfl
        have me2 := meth_eval (m := m) (apos := apos) (pos := cpos) (args := es') (recv_of h2 m X.env) few (by simpa using h6)
        have key : PE X (.Call (.Attribute o' m apos) es' [] cpos) (tMeth (He.ga X.K C) m (liftSp X.K (es.len + 1) sp) [] (fun _ _ _ => False) (liftE X.K W (wpE Δ Γ o)) (liftA X.K W es.len (wpEs Δ Γ es))) := by
          cases es' with
          | nil =>
            cases es with
            | cons _ _ => simp [isEs] at h4
            | nil =>
              refine PE.imp (pe_meth0 O cl me F (g.room hc) b .nil px me2) fun σ H Q w => ?_
              obtain ⟨σd, G, Qd, E, l, h, f⟩ := w
              refine ⟨σd, G, Qd, E, l, h, fun H' d v G' e1 hv g1 q1 => ?_⟩
              obtain ⟨a, dx, fs, k1, k2, k3, k4⟩ := f H' d v G' e1 hv g1 q1
              obtain ⟨σd2, G2, Qd2, E2, l2, w2, f2⟩ := k4
              exact ⟨a, dx, fs, k1, k2, k3, f2 H' [] [] G2 (Ext.refl _) rfl rfl l2.ok w2⟩
          | cons e1 es1 =>
            cases es with
            | nil => simp [isEs] at h4
            | cons pa ps1 =>
              have h7 := h4
              simp only [isEs, Bool.and_eq_true] at h7
              exact pe_meth O cl me F (g.room hc) b .nil px A (star_of (isE_bad h7.1) _ _) (star_list h7.2 _ _) me2
        refine PE.imp key fun σ H Q w => ?_
        obtain ⟨σd, G, Qd, E, l, h, f⟩ := w
        simp only [wpE, q] at h
        refine liftE.go l h fun H1 x v G1 e1 l1 hx hm => ?_
        obtain ⟨hm, h2⟩ := hm
        unfold mthD at hm
        split at hm
        · rename_i a
          cases hx
          split at hm
          · rename_i eg
            obtain ⟨rfl, hm⟩ := hm
            obtain ⟨dx, ls, k1, k2⟩ := l1.ok.ins eg
            refine ⟨a, dx, ls, rfl, k1, (k2.get).2 hm, ?_⟩
            refine liftA.go l1 h2 fun H2 ds vs G2 e2 hn l2 hl h3 => ?_
            rw [List.append_nil]
            refine ⟨by rw [List.length_cons, hl.len, hn], .ref a :: ds, G2, Qd, noX, ⟨.ref a, vs, rfl, rfl, hl⟩, l2.ok, h3, f.mv (e1.trans e2), fun _ _ _ _ _ _ _ _ z => z.elim⟩
          · exact hm.elim
        · exact hm.elim
    · cases h
  | .mk C n es, sc, c, e, h, X, W, g, df, hN, hs => by
    simp only [isE] at h
    split at h
    · rename_i x p es' pos
      simp only [Bool.and_eq_true, beq_iff_eq, Bool.not_eq_true'] at h
      obtain ⟨⟨⟨⟨⟨⟨hc, rfl⟩, h1⟩, h2⟩, h3⟩, h4⟩, h5⟩ := h
      subst hs
      cases q : Δ n with
      | none =>
        refine ⟨fun pins s σ H Q I w => ?_⟩
        obtain ⟨σd, G, Qd, E, l, h, f⟩ := w
        simp only [wpE, q] at h
      | some sp =>
        obtain ⟨j, fa, fd, ps, hj, hps, F, M, mg, b⟩ := df.mkr n x _ sp h1 q
        have A := soundEs es _ c _ h4 X W g df hN rfl
        have px : Passes (L2.CX X.prog X.w) X (fun _ _ _ => False) := passes_call g.tk fun _ _ _ _ z => z.elim
        cases es' with
        | nil => simp at h5
        | cons e1 es1 =>
          cases es with
          | nil => simp [isEs] at h4
          | cons pa ps1 =>
            have h7 := h4
            simp only [isEs, Bool.and_eq_true] at h7
            refine PE.imp (pe_make M F ((g.room hc).mono hj) (gl_of h2) mg b .nil px A (nm1 h3) (star_of (isE_bad h7.1) _ _) (star_list h7.2 _ _)) fun σ H Q w => ?_
            obtain ⟨σd, G, Qd, E, l, h, f⟩ := w
            simp only [wpE, q] at h
            refine liftA.go l h fun H1 ds vs G1 e1 hn l1 hl h1 => ?_
            intro y dx ny ndx hne
            have e2 : Ext H1 (upd H1 dx (.own y)) := Ext.new ndx
            have ny2 : upd H1 dx (.own y) y = none := by rw [upd_ne (Ne.symm hne)]; exact ny
            have e3 : Ext (upd H1 dx (.own y)) (upd (upd H1 dx (.own y)) y (.ins (He.ga X.K x) dx [])) := Ext.new ny2
            have g2 := (l1.ok.un (u := .own y) ndx).at (o := .ins x []) e3 ⟨dx, [], upd_same, rfl⟩
            rw [List.append_nil]
            refine ⟨by rw [List.length_cons, hl.len, hn], .ref y :: ds, _, _, noX, ⟨_, vs, rfl, rfl, HasL.ext (e2.trans e3) _ _ hl⟩, g2, h1 y (l1.ok.free ny), fun H2 d v G2 e4 hv g3 q3 => ?_, fun _ _ _ _ _ _ _ _ z => z.elim⟩
            obtain ⟨rfl, q3⟩ := q3
            exact ⟨hv, f _ (.ref y) (.ref y) G2 (e1.trans (e2.trans (e3.trans e4))) rfl g3 q3⟩
    · cases h
  | .xat i n, sc, c, e, h, X, W, g, df, hN, hs => by
    subst hs
    simp only [isE] at h
    split at h
    · rename_i y py f' pos
      simp only [Bool.and_eq_true, beq_iff_eq, Bool.not_eq_true', Bool.or_eq_true] at h
      obtain ⟨⟨⟨⟨⟨hc, rfl⟩, h1⟩, h2⟩, h3⟩, h4⟩ := h
      refine ⟨fun pins s σ H Q I w => ?_⟩
      obtain ⟨σd, G, Qd, E, l, w, f⟩ := w
      simp only [wpE] at w
      split at w
      · rename_i a d ns ds b j d' e1 e2
        obtain ⟨rfl, rfl, hl, w⟩ := w
        split at w
        · rename_i dv ev
          obtain ⟨X', oe, pn, rfl, hz, hf, hk⟩ := g.exn hc _ _ _ e2
          obtain ⟨T1, T2⟩ := g.kls.xf _ hk
          obtain ⟨v, v1, v2⟩ := l.sl.2 i _ e1
          obtain ⟨v2, v3, v4⟩ := v2
          subst v2
          have hn : ns ≠ [] := fun z => by rw [z] at ev; simp at ev
          obtain ⟨p', l', vs, z1, z2, z3, z4⟩ := v4 hn
          obtain ⟨u, u1, u2⟩ := z3.zip ev
          have pv : PE (X'.suite a ((a, oe) :: pn)) (.Name y py) (tVar i) := pe_var (by rw [hN]; exact h2) (vis_of h3) (nm1 h4) (nm2 h4)
          exact (pe_xf T1 (T2 n (by rcases h1 with (h1 | h1) | h1 <;> simp [h1])) hz hf pv rfl).run pins s σ H Q I ⟨_, v1, rfl, rfl, p', l', u, z1, z2, (z4 n).trans u1, f.here l.ok u2 w⟩
        · exact w.elim
      · exact w.elim
    · cases h
  | .act i, sc, c, e, h, X, W, g, df, hN, hs => by
    have hc := (act_sc h).2
    subst hc; subst hN; subst hs
    exact g.act rfl i e h
  | .lamc x g' b, sc, c, e, h, X, W, g, df, hN, hs => by
    have hc := (lam_sc h).2
    subst hc; subst hN; subst hs
    exact g.lam rfl x g' b e h
  | .sset a, sc, c, e, h, X, W, g, df, hN, hs => by
    simp only [isE] at h
    split at h
    · simp only [Bool.and_eq_true, beq_iff_eq] at h
      obtain ⟨⟨⟨⟨⟨hc, rfl⟩, h1⟩, rfl⟩, h2⟩, h3⟩ := h
      subst hs
      have A := soundE a _ c _ h3 X W g df hN rfl
      refine PE.imp (pe_srtSet (g.calm hc) (gl_of h1) (g.blt2 _ (by decide +kernel)) (gl_of h2) (g.blt2 _ (by decide +kernel)) A (star_of (isE_bad h3) _ _)) fun σ H Q w => ?_
      obtain ⟨σd, G, Qd, E, l, h, f⟩ := w
      refine liftE.go l h fun H1 x v G1 e1 l1 hx h1 => ?_
      split at h1
      · cases hx
        split at h1
        · rename_i eq
          obtain ⟨ns, rfl, hn, q⟩ := h1
          obtain ⟨vs, k1, k2⟩ := l1.ok.lst eq
          cases k2.int_eq
          refine ⟨_, ns, rfl, SqL.of k1, hn, fun p n hn2 hp => ?_⟩
          refine ⟨p, _, n, rfl, upd_same, by omega, fun ns' p2 hp1 hp2 _ hf => ?_⟩
          have e2 : Ext H1 (upd H1 p (SetO X.w p (fun j => decide (j ∈ ns)) n)) := Ext.new hp
          exact (f.mv (e1.trans e2)).newL (l1.ok.un hp) (HasL.of_ints ns') (q ns' hp1 fun k => by rw [hp2 k]; simp) p2 hf
        · exact h1.elim
      · exact h1.elim
    · cases h
  | .lrr a, sc, c, e, h, X, W, g, df, hN, hs => by
    simp only [isE] at h
    split at h
    · simp only [Bool.and_eq_true, beq_iff_eq] at h
      obtain ⟨⟨⟨⟨⟨⟨⟨hc, rfl⟩, h1⟩, rfl⟩, h2⟩, rfl⟩, h3⟩, h4⟩ := h
      subst hs
      have A := soundE a _ c _ h4 X W g df hN rfl
      refine PE.imp (pe_revRg (g.calm hc) (gl_of h1) (g.blt2 _ (by decide +kernel)) (gl_of h2) (g.blt2 _ (by decide +kernel)) (prg_1 (gl_of h3) (g.blt2 _ (by decide +kernel)) A (star_of (isE_bad h4) _ _)) rfl) fun σ H Q w => ?_
      obtain ⟨σd, G, Qd, E, l, h, f⟩ := w
      refine liftE.go l h fun H1 x v G1 e1 l1 hx h1 => ?_
      split at h1
      · cases hx
        rename_i n
        obtain ⟨n0, n1, q⟩ := h1
        refine ⟨n, rfl, rfl, n0, n1, fun p hp => ?_⟩
        have e : dlDown n.toNat = ((List.range n.toNat).map fun i => n - 1 - ((i : Nat) : Int)).map V.int := by
          unfold dlDown
          rw [List.map_map]
          refine List.map_congr_left fun i _ => ?_
          show V.int ((n.toNat : Int) - 1 - (i : Nat)) = V.int (n - 1 - (i : Nat))
          rw [show ((n.toNat : Nat) : Int) = n by omega]
        rw [e]
        exact (f.mv e1).newL l1.ok (HasL.of_ints _) q p hp
      · exact h1.elim
    · cases h
  | .comp el t it ifs own, sc, c, e, h, X, W, g, df, hN, hs => by
    simp only [isE] at h
    split at h
    · simp only [Bool.and_eq_true] at h
      obtain ⟨⟨⟨⟨⟨⟨⟨⟨⟨⟨hc, h1⟩, hl⟩, h2⟩, h3⟩, h4⟩, h8⟩, h9⟩, h5⟩, h6⟩, h7⟩ := h
      subst hs
      rename_i el' t' it' ifs' scope pos
      have hown : ∀ i ∈ tgIx t, i ∈ own.map (·.2) := fun i hi => by
        obtain ⟨p, hp, e⟩ := List.any_eq_true.mp (List.all_eq_true.mp h2 i hi)
        exact List.mem_map.mpr ⟨p, hp, beq_iff_eq.mp e⟩
      refine PE.imp (pe_lc (own := own) (g := liftG X.K (fun _ _ _ _ => False) (wpG Δ Γ t) (tgIx t)) (tt := liftT X.K (fun _ _ _ _ => False) (wpF Δ Γ ifs)) (te := liftE X.K (fun _ _ _ _ => False) (wpE Δ Γ el)) (g.calm hc) g.nd (soundI it _ c _ h3 X W t' g df hN rfl (fun z => by simpa [z] using h8)) (by rw [hN]; exact blkOk_by h1)
        (fun s H C cl fp => soundG t _ c _ h5 (X.blk s H scope (compEnvC scope cl C X.env) fp) _ (.inr h9) (g.blk hc s H scope C cl fp (by simpa using hl)) df hN rfl)
        (fun s H C cl fp => soundF ifs _ c _ h6 (X.blk s H scope (compEnvC scope cl C X.env) fp) _ (g.blk hc s H scope C cl fp (by simpa using hl)) df hN rfl)
        (fun s H C cl fp => soundE el _ c _ h7 (X.blk s H scope (compEnvC scope cl C X.env) fp) _ (g.blk hc s H scope C cl fp (by simpa using hl)) df hN rfl) (fun x => folded_of (cx_set h4) _ x)) fun σ H Q w => comp_imp hown w
    · cases h
termination_by p => (sizeOf p, 0)
decreasing_by all_goals (simp_wf; first | (apply Prod.Lex.left; omega) | (apply Prod.Lex.right; omega) | omega)
theorem soundEs : ∀ (p : Exs) (sc : Scope) (c : Bool) (es : List Expr), isEs T N p sc c es = true → ∀ (X : Cx) (W : WX), Good T Δ Γ k W c X → Defs T Δ k X → X.N = N → X.env.scope = sc → PA X es (liftA X.K W p.len (wpEs Δ Γ p))
  | .nil, sc, c, es, h, X, W, g, df, hN, hs => by
    cases es with
    | cons _ _ => simp [isEs] at h
    | nil =>
      refine PA.imp pa_nil fun σ H Q q => ?_
      obtain ⟨σd, G, Qd, E, l, h, f⟩ := q
      exact f H [] [] G (Ext.refl H) rfl rfl l.ok h
  | .cons p r, sc, c, es, h, X, W, g, df, hN, hs => by
    cases es with
    | nil => simp [isEs] at h
    | cons e es =>
      simp only [isEs, Bool.and_eq_true] at h
      refine PA.imp (pa_cons (soundE p sc c _ h.1 X W g df hN hs) (soundEs r sc c _ h.2 X W g df hN hs) (star_of (isE_bad h.1) _ _)) fun σ H Q q => ?_
      obtain ⟨σd, G, Qd, E, l, h, f⟩ := q
      refine liftE.go l h fun H1 x v G1 e1 l1 hx h1 => liftA.go l1 h1 fun H2 ds vs G2 e2 hn l2 hl h2 => ?_
      exact f H2 (x :: ds) (v :: vs) G2 (e1.trans e2) (by rw [List.length_cons, hn]; rfl) ⟨v, vs, rfl, Has.ext e2 _ _ hx, hl⟩ l2.ok h2
termination_by p => (sizeOf p, 0)
decreasing_by all_goals (simp_wf; first | (apply Prod.Lex.left; omega) | (apply Prod.Lex.right; omega) | omega)
theorem soundPs : ∀ (p : Exs) (ks : List Str) (sc : Scope) (c : Bool) (keys : List (Option Expr)) (es : List Expr), isKeys ks keys = true → isEs T N p sc c es = true → ks.length = p.len → ∀ (X : Cx) (W : WX) (pos : Pos), Good T Δ Γ k W c X → Defs T Δ k X → X.N = N → X.env.scope = sc →
    ∃ trs, PPs X pos keys es trs ∧ ∀ σ H Q, liftP X.K W p.len ks (wpEs Δ Γ p) σ H Q → tPairs trs σ H Q
  | .nil, ks, sc, c, keys, es, h1, h2, h3, X, W, pos, g, df, hN, hs => by
    cases es with
    | cons _ _ => simp [isEs] at h2
    | nil =>
      cases ks with
      | cons _ _ => simp [Exs.len] at h3
      | nil =>
        cases keys with
        | cons _ _ => simp [isKeys] at h1
        | nil =>
          refine ⟨[], pps_nil, fun σ H Q w => ?_⟩
          obtain ⟨σd, G, Qd, E, l, h, f⟩ := w
          exact f H [] [] G (Ext.refl H) rfl rfl l.ok h
  | .cons p r, ks, sc, c, keys, es, h1, h2, h3, X, W, pos, g, df, hN, hs => by
    cases es with
    | nil => simp [isEs] at h2
    | cons e es =>
      simp only [isEs, Bool.and_eq_true] at h2
      cases ks with
      | nil => simp [Exs.len] at h3
      | cons k0 ks =>
        have V := soundE p sc c _ h2.1 X W g df hN hs
        simp only [isKeys] at h1
        split at h1
        · rename_i k' j' p' keys'
          simp only [Bool.and_eq_true, beq_iff_eq] at h1
          obtain ⟨rfl, h1⟩ := h1
          obtain ⟨trs, hp, ht⟩ := soundPs r ks sc c _ _ h1 h2.2 (by simpa [Exs.len] using h3) X W pos g df hN hs
          refine ⟨(tC (.str k0), liftE X.K W (wpE Δ Γ p)) :: trs, pps_cons pe_str V hp, fun σ H Q w => ?_⟩
          obtain ⟨σd, G, Qd, E, l, h, f⟩ := w
          show liftE X.K W (wpE Δ Γ p) σ H _
          refine liftE.go l h fun H1 x v G1 e1 l1 hx h1 => ht σ H1 _ ⟨σd, G1, _, E, l1, h1, fun H2 ds vs G2 e2 hn hl g2 q2 => ?_⟩
          exact f H2 (x :: ds) (v :: vs) G2 (e1.trans e2) (by rw [List.length_cons, hn]; rfl) ⟨v, vs, rfl, Has.ext e2 _ _ hx, hl⟩ g2 q2
        · cases h1
termination_by p => (sizeOf p, 0)
decreasing_by all_goals (simp_wf; first | (apply Prod.Lex.left; omega) | (apply Prod.Lex.right; omega) | omega)
theorem soundO : ∀ (p : Exo) (sc : Scope) (c : Bool) (e : Option Expr), isO T N p sc c e = true → ∀ (X : Cx) (W : WX), Good T Δ Γ k W c X → Defs T Δ k X → X.N = N → X.env.scope = sc → PO X e (liftO X.K W (wpO Δ Γ p))
  | .none, sc, c, e, h, X, W, g, df, hN, hs => by
    cases e with
    | some _ => simp [isO] at h
    | none =>
      refine ⟨fun pins s σ H Q I w => po_none.run pins s σ H Q I ?_⟩
      obtain ⟨σd, G, Qd, E, l, h, f⟩ := w
      exact f H none G (Ext.refl H) l.ok h
  | .some p, sc, c, e, h, X, W, g, df, hN, hs => by
    cases e with
    | none => simp [isO] at h
    | some e =>
      simp only [isO] at h
      refine ⟨fun pins s σ H Q I w => (po_some (soundE p sc c _ h X W g df hN hs)).run pins s σ H Q I ?_⟩
      obtain ⟨σd, G, Qd, E, l, h, f⟩ := w
      refine liftE.go l h fun H1 x v G1 e1 l1 hx h1 => ?_
      split at h1
      · cases hx
        exact ⟨_, rfl, f H1 _ G1 e1 l1.ok h1⟩
      · exact h1.elim
termination_by p => (sizeOf p, 0)
decreasing_by all_goals (simp_wf; first | (apply Prod.Lex.left; omega) | (apply Prod.Lex.right; omega) | omega)
theorem soundB : ∀ (op : BoolOp) (p : Exs) (sc : Scope) (c : Bool) (es : List Expr), isEs T N p sc c es = true → ∀ (X : Cx) (W : WX) (pos : Pos), Good T Δ Γ k W c X → Defs T Δ k X → X.N = N → X.env.scope = sc → PE X (.BoolOp op es pos) (liftE X.K W (wpB Δ Γ op p))
  | op, .nil, sc, c, es, h, X, W, pos, g, df, hN, hs => ⟨fun pins s σ H Q I w => by
      obtain ⟨σd, G, Qd, E, l, h, f⟩ := w
      exact h.elim⟩
  | op, .cons p .nil, sc, c, es, h, X, W, pos, g, df, hN, hs => by
    cases es with
    | nil => simp [isEs] at h
    | cons e es =>
      cases es with
      | cons _ _ => simp [isEs] at h
      | nil =>
        simp only [isEs, Bool.and_eq_true] at h
        refine PE.imp (pe_one (soundE p sc c _ h.1 X W g df hN hs)) fun σ H Q w => ?_
        obtain ⟨σd, G, Qd, E, l, h, f⟩ := w
        exact ⟨σd, G, Qd, E, l, h, f⟩
  | op, .cons p (.cons p2 r), sc, c, es, h, X, W, pos, g, df, hN, hs => by
    cases es with
    | nil => simp [isEs] at h
    | cons e es =>
      cases es with
      | nil => simp [isEs] at h
      | cons e2 es =>
        have h' : isE T N p sc c e = true ∧ isEs T N (.cons p2 r) sc c (e2 :: es) = true := by simpa only [isEs, Bool.and_eq_true] using h
        have h1 := soundE p sc c _ h'.1 X W g df hN hs
        have h2 := soundB op (.cons p2 r) sc c _ h'.2 X W pos g df hN hs
        cases op with
        | And =>
          refine PE.imp (pe_and h1 h2) fun σ H Q w => ?_
          obtain ⟨σd, G, Qd, E, l, h, f⟩ := w
          refine liftE.go l h fun H1 x v G1 e1 l1 hx h1 => ?_
          split at h1
          · cases hx
            refine ⟨_, rfl, ?_⟩
            dsimp only at h1
            split at h1
            · rename_i hk
              rw [if_pos hk]
              exact ⟨σd, G1, Qd, E, l1, h1, f.mv e1⟩
            · rename_i hk
              rw [if_neg hk]
              exact (f.mv e1).here (d := .bl _) l1.ok rfl h1
          · exact h1.elim
        | Or =>
          refine PE.imp (pe_or h1 h2) fun σ H Q w => ?_
          obtain ⟨σd, G, Qd, E, l, h, f⟩ := w
          refine liftE.go l h fun H1 x v G1 e1 l1 hx h1 => ?_
          split at h1
          · cases hx
            refine ⟨_, rfl, ?_⟩
            dsimp only at h1
            split at h1
            · rename_i hk
              rw [if_pos hk]
              exact (f.mv e1).here (d := .bl _) l1.ok rfl h1
            · rename_i hk
              rw [if_neg hk]
              exact ⟨σd, G1, Qd, E, l1, h1, f.mv e1⟩
          · exact h1.elim
termination_by x p => (sizeOf p, 0)
decreasing_by all_goals (simp_wf; first | (apply Prod.Lex.left; omega) | (apply Prod.Lex.right; omega) | omega)
theorem soundT : ∀ (p : Ex) (sc : Scope) (c : Bool) (e : Expr), isE T N p sc c e = true → ∀ (X : Cx) (W : WX), Good T Δ Γ k W c X → Defs T Δ k X → X.N = N → X.env.scope = sc → PT X e (liftT X.K W (wpT Δ Γ p))
  | .nt a, sc, c, e, h, X, W, g, df, hN, hs => by
    simp only [isE] at h
    split at h
    · refine PT.imp (pt_not (soundT a sc c _ h X W g df hN hs)) fun σ H Q q => ?_
      obtain ⟨σd, G, Qd, E, l, h, f⟩ := q
      exact liftT.go l h fun H1 b G1 e1 l1 h1 => f H1 _ G1 e1 l1.ok h1
    · cases h
  | .boo op es, sc, c, e, h, X, W, g, df, hN, hs => by
    simp only [isE] at h
    split at h
    · simp only [Bool.and_eq_true, beq_iff_eq] at h
      obtain ⟨rfl, h1⟩ := h
      exact (soundW op es sc c _ h1 X W _ g df hN hs).pt
    · cases h
  | .cmp op a b, sc, c, e, h, X, W, g, df, hN, hs => by
    simp only [isE] at h
    split at h
    · simp only [Bool.and_eq_true, beq_iff_eq] at h
      obtain ⟨⟨⟨rfl, h1⟩, h2⟩, h3⟩ := h
      refine PT.imp (pt_cmpR (sound_cmp op g.units) (soundE a sc c _ h1 X W g df hN hs) (soundE b sc c _ h2 X W g df hN hs) (marks_of (cx_set h3) _)) fun σ H Q q => ?_
      obtain ⟨σd, G, Qd, E, l, h, f⟩ := q
      refine liftE.go l h fun H1 x v G1 e1 l1 hx h1 => liftE.go l1 h1 fun H2 y u G2 e2 l2 hy h2 => ⟨x, y, G2, _, Has.ext e2 _ _ hx, hy, l2.ok, h2, fun H3 z zv G3 e3 hz g3 h3 => ?_⟩
      split at h3
      · cases hz
        exact ⟨_, rfl, f H3 _ G3 (e1.trans (e2.trans e3)) g3 h3⟩
      · exact h3.elim
    · cases h
  | .cmp2 o1 o2 a b d, sc, c, e, h, X, W, g, df, hN, hs => by
    simp only [isE] at h
    split at h
    · simp only [Bool.and_eq_true, beq_iff_eq] at h
      obtain ⟨⟨⟨⟨⟨rfl, rfl⟩, h1⟩, h2⟩, h3⟩, h4⟩ := h
      refine PT.imp (pt_chain (sound_cmp o1 g.units) (sound_cmp o2 g.units) (soundE a sc c _ h1 X W g df hN hs) (soundE b sc c _ h2 X W g df hN hs) (soundE d sc c _ h3 X W g df hN hs) (marks2_of (cx_set h4) _ _)) fun σ H Q q => ?_
      obtain ⟨σd, G, Qd, E, l, h, f⟩ := q
      refine liftE.go l h fun H1 x v G1 e1 l1 hx h1 => liftE.go l1 h1 fun H2 y u G2 e2 l2 hy h2 => ?_
      refine ⟨x, y, G2, _, Has.ext e2 _ _ hx, hy, l2.ok, h2, fun H3 z zv G3 e3 hz g3 h3 => ?_⟩
      split at h3
      · cases hz
        refine ⟨_, rfl, ?_⟩
        split at h3
        · rename_i hk
          rw [if_pos hk]
          refine liftE.go (l2.mv e3 g3) h3 fun H4 w wv G4 e4 l4 hw h4 => ⟨y, w, G4, _, Has.ext (e3.trans e4) _ _ hy, hw, l4.ok, h4, fun H5 z' zv' G5 e5 hz' g5 h5 => ?_⟩
          split at h5
          · cases hz'
            exact ⟨_, rfl, f H5 _ G5 (e1.trans (e2.trans (e3.trans (e4.trans e5)))) g5 h5⟩
          · exact h5.elim
        · rename_i hk
          rw [if_neg hk]
          exact ⟨_, rfl, f H3 _ G3 (e1.trans (e2.trans e3)) g3 h3⟩
      · exact h3.elim
    · cases h
  | .var i, sc, c, e, h, X, W, g, df, hN, hs => by
    have O := soundE (.var i) sc c e h X W g df hN hs
    refine PT.imp (pt_truth O (test_of (by cases e <;> simp [isE, oddT] at h ⊢) _)) fun σ H Q w => ?_
    obtain ⟨σd, G, Qd, E, l, h, f⟩ := w
    refine liftE.go (Qd := fun x G1 => truD x G1 fun b => Qd b G1) l ?_ fun H1 x v G1 e1 l1 hx h1 => tru_ok' f e1 l1.ok hx h1
    simp only [wpT] at h
    simp only [wpE]
    exact h
  | .bl b, sc, c, e, h, X, W, g, df, hN, hs => by
    have O := soundE (.bl b) sc c e h X W g df hN hs
    refine PT.imp (pt_truth O (test_of (by cases e <;> simp [isE, oddT] at h ⊢) _)) fun σ H Q w => ?_
    obtain ⟨σd, G, Qd, E, l, h, f⟩ := w
    refine liftE.go (Qd := fun x G1 => truD x G1 fun b => Qd b G1) l ?_ fun H1 x v G1 e1 l1 hx h1 => tru_ok' f e1 l1.ok hx h1
    exact h
  | .ix a i, sc, c, e, h, X, W, g, df, hN, hs => by
    have O := soundE (.ix a i) sc c e h X W g df hN hs
    refine PT.imp (pt_truth O (test_of (by cases e <;> simp [isE, oddT] at h ⊢) _)) fun σ H Q w => ?_
    obtain ⟨σd, G, Qd, E, l, h, f⟩ := w
    refine liftE.go (Qd := fun x G1 => truD x G1 fun b => Qd b G1) l ?_ fun H1 x v G1 e1 l1 hx h1 => tru_ok' f e1 l1.ok hx h1
    exact h
  | .call n es, sc, c, e, h, X, W, g, df, hN, hs => by
    have O := soundE (.call n es) sc c e h X W g df hN hs
    refine PT.imp (pt_truth O (test_of (by cases e <;> simp [isE, oddT] at h ⊢) _)) fun σ H Q w => ?_
    obtain ⟨σd, G, Qd, E, l, h, f⟩ := w
    refine liftE.go (Qd := fun x G1 => truD x G1 fun b => Qd b G1) l ?_ fun H1 x v G1 e1 l1 hx h1 => tru_ok' f e1 l1.ok hx h1
    exact h
  | .isi a ty, sc, c, e, h, X, W, g, df, hN, hs => by
    have O := soundE (.isi a ty) sc c e h X W g df hN hs
    refine PT.imp (pt_truth O (test_of (by cases e <;> simp [isE, oddT] at h ⊢) _)) fun σ H Q w => ?_
    obtain ⟨σd, G, Qd, E, l, h, f⟩ := w
    refine liftE.go (Qd := fun x G1 => truD x G1 fun b => Qd b G1) l ?_ fun H1 x v G1 e1 l1 hx h1 => tru_ok' f e1 l1.ok hx h1
    exact h
  | .non, sc, c, e, h, X, W, g, df, hN, hs => ⟨fun pins s σ H Q I w => by obtain ⟨σd, G, Qd, E, l, h, f⟩ := w; exact h.elim⟩
  | .int _, sc, c, e, h, X, W, g, df, hN, hs => ⟨fun pins s σ H Q I w => by obtain ⟨σd, G, Qd, E, l, h, f⟩ := w; exact h.elim⟩
  | .str _, sc, c, e, h, X, W, g, df, hN, hs => ⟨fun pins s σ H Q I w => by obtain ⟨σd, G, Qd, E, l, h, f⟩ := w; exact h.elim⟩
  | .glob _, sc, c, e, h, X, W, g, df, hN, hs => ⟨fun pins s σ H Q I w => by obtain ⟨σd, G, Qd, E, l, h, f⟩ := w; exact h.elim⟩
  | .tup _, sc, c, e, h, X, W, g, df, hN, hs => ⟨fun pins s σ H Q I w => by obtain ⟨σd, G, Qd, E, l, h, f⟩ := w; exact h.elim⟩
  | .lst _, sc, c, e, h, X, W, g, df, hN, hs => ⟨fun pins s σ H Q I w => by obtain ⟨σd, G, Qd, E, l, h, f⟩ := w; exact h.elim⟩
  | .bin _ _ _, sc, c, e, h, X, W, g, df, hN, hs => ⟨fun pins s σ H Q I w => by obtain ⟨σd, G, Qd, E, l, h, f⟩ := w; exact h.elim⟩
  | .neg _, sc, c, e, h, X, W, g, df, hN, hs => ⟨fun pins s σ H Q I w => by obtain ⟨σd, G, Qd, E, l, h, f⟩ := w; exact h.elim⟩
  | .ife _ _ _, sc, c, e, h, X, W, g, df, hN, hs => ⟨fun pins s σ H Q I w => by obtain ⟨σd, G, Qd, E, l, h, f⟩ := w; exact h.elim⟩
  | .slc _ _ _, sc, c, e, h, X, W, g, df, hN, hs => ⟨fun pins s σ H Q I w => by obtain ⟨σd, G, Qd, E, l, h, f⟩ := w; exact h.elim⟩
  | .blt _ _, sc, c, e, h, X, W, g, df, hN, hs => ⟨fun pins s σ H Q I w => by obtain ⟨σd, G, Qd, E, l, h, f⟩ := w; exact h.elim⟩
  | .met _ _ _, sc, c, e, h, X, W, g, df, hN, hs => ⟨fun pins s σ H Q I w => by obtain ⟨σd, G, Qd, E, l, h, f⟩ := w; exact h.elim⟩
  | .comp _ _ _ _ _, sc, c, e, h, X, W, g, df, hN, hs => ⟨fun pins s σ H Q I w => by obtain ⟨σd, G, Qd, E, l, h, f⟩ := w; exact h.elim⟩
  | .isx i ks tp, sc, c, e, h, X, W, g, df, hN, hs => by
    have O := soundE (.isx i ks tp) sc c e h X W g df hN hs
    refine PT.imp (pt_truth O (test_of (by cases e <;> simp [isE, oddT] at h ⊢) _)) fun σ H Q w => ?_
    obtain ⟨σd, G, Qd, E, l, h, f⟩ := w
    refine liftE.go (Qd := fun x G1 => truD x G1 fun b => Qd b G1) l ?_ fun H1 x v G1 e1 l1 hx h1 => tru_ok' f e1 l1.ok hx h1
    simp only [wpT] at h
    simp only [wpE]
    exact h
  | .gfn _, sc, c, e, h, X, W, g, df, hN, hs => ⟨fun pins s σ H Q I w => by obtain ⟨σd, G, Qd, E, l, h, f⟩ := w; exact h.elim⟩
  | .cal _ _ _, sc, c, e, h, X, W, g, df, hN, hs => ⟨fun pins s σ H Q I w => by obtain ⟨σd, G, Qd, E, l, h, f⟩ := w; exact h.elim⟩
  | .dsp _ _, sc, c, e, h, X, W, g, df, hN, hs => ⟨fun pins s σ H Q I w => by obtain ⟨σd, G, Qd, E, l, h, f⟩ := w; exact h.elim⟩
  | .fld _ _ _, sc, c, e, h, X, W, g, df, hN, hs => ⟨fun pins s σ H Q I w => by obtain ⟨σd, G, Qd, E, l, h, f⟩ := w; exact h.elim⟩
  | .mk _ _ _, sc, c, e, h, X, W, g, df, hN, hs => ⟨fun pins s σ H Q I w => by obtain ⟨σd, G, Qd, E, l, h, f⟩ := w; exact h.elim⟩
  | .xat _ _, sc, c, e, h, X, W, g, df, hN, hs => ⟨fun pins s σ H Q I w => by obtain ⟨σd, G, Qd, E, l, h, f⟩ := w; exact h.elim⟩
  | .act _, sc, c, e, h, X, W, g, df, hN, hs => ⟨fun pins s σ H Q I w => by obtain ⟨σd, G, Qd, E, l, h, f⟩ := w; exact h.elim⟩
  | .lamc _ _ _, sc, c, e, h, X, W, g, df, hN, hs => ⟨fun pins s σ H Q I w => by obtain ⟨σd, G, Qd, E, l, h, f⟩ := w; exact h.elim⟩
  | .mth C m n o es, sc, c, e, h, X, W, g, df, hN, hs => by
    have O := soundE (.mth C m n o es) sc c e h X W g df hN hs
    refine PT.imp (pt_truth O (test_of (by cases e <;> simp [isE, oddT] at h ⊢) _)) fun σ H Q w => ?_
    obtain ⟨σd, G, Qd, E, l, h, f⟩ := w
    refine liftE.go (Qd := fun x G1 => truD x G1 fun b => Qd b G1) l ?_ fun H1 x v G1 e1 l1 hx h1 => tru_ok' f e1 l1.ok hx h1
    simp only [wpT] at h
    simp only [wpE]
    exact h
  | .sset _, sc, c, e, h, X, W, g, df, hN, hs => ⟨fun pins s σ H Q I w => by obtain ⟨σd, G, Qd, E, l, h, f⟩ := w; exact h.elim⟩
  | .lrr _, sc, c, e, h, X, W, g, df, hN, hs => ⟨fun pins s σ H Q I w => by obtain ⟨σd, G, Qd, E, l, h, f⟩ := w; exact h.elim⟩
termination_by p => (sizeOf p, 1)
decreasing_by all_goals (simp_wf; first | (apply Prod.Lex.left; omega) | (apply Prod.Lex.right; omega) | omega)
theorem soundW : ∀ (op : BoolOp) (p : Exs) (sc : Scope) (c : Bool) (es : List Expr), isEs T N p sc c es = true → ∀ (X : Cx) (W : WX) (pos : Pos), Good T Δ Γ k W c X → Defs T Δ k X → X.N = N → X.env.scope = sc → PW X (.BoolOp op es pos) (liftT X.K W (wpTs Δ Γ op p))
  | op, .nil, sc, c, es, h, X, W, pos, g, df, hN, hs => ⟨fun wh pins s σ H Q I w => by
      obtain ⟨σd, G, Qd, E, l, h, f⟩ := w
      exact h.elim⟩
  | op, .cons p .nil, sc, c, es, h, X, W, pos, g, df, hN, hs => by
    cases es with
    | nil => simp [isEs] at h
    | cons e es =>
      cases es with
      | cons _ _ => simp [isEs] at h
      | nil =>
        simp only [isEs, Bool.and_eq_true] at h
        have O := soundT p sc c _ h.1 X W g df hN hs
        cases op with
        | And => exact PW.imp (pw_and1 O) fun σ H Q w => w
        | Or => exact PW.imp (pw_or1 O) fun σ H Q w => w
  | op, .cons p (.cons p2 r), sc, c, es, h, X, W, pos, g, df, hN, hs => by
    cases es with
    | nil => simp [isEs] at h
    | cons e es =>
      cases es with
      | nil => simp [isEs] at h
      | cons e2 es =>
        have h' : isE T N p sc c e = true ∧ isEs T N (.cons p2 r) sc c (e2 :: es) = true := by simpa only [isEs, Bool.and_eq_true] using h
        have h1 := soundT p sc c _ h'.1 X W g df hN hs
        have h2 := soundW op (.cons p2 r) sc c _ h'.2 X W pos g df hN hs
        cases op with
        | And =>
          refine PW.imp (pw_and h1 h2) fun σ H Q w => ?_
          obtain ⟨σd, G, Qd, E, l, h, f⟩ := w
          refine liftT.go l h fun H1 b G1 e1 l1 h1 => ?_
          dsimp only at h1
          split at h1
          · rename_i hk
            rw [if_pos hk]
            exact ⟨σd, G1, Qd, E, l1, h1, fun H2 b2 G2 e2 => f H2 b2 G2 (e1.trans e2)⟩
          · rename_i hk
            rw [if_neg hk]
            exact f H1 _ G1 e1 l1.ok h1
        | Or =>
          refine PW.imp (pw_or h1 h2) fun σ H Q w => ?_
          obtain ⟨σd, G, Qd, E, l, h, f⟩ := w
          refine liftT.go l h fun H1 b G1 e1 l1 h1 => ?_
          dsimp only at h1
          split at h1
          · rename_i hk
            rw [if_pos hk]
            exact f H1 _ G1 e1 l1.ok h1
          · rename_i hk
            rw [if_neg hk]
            exact ⟨σd, G1, Qd, E, l1, h1, fun H2 b2 G2 e2 => f H2 b2 G2 (e1.trans e2)⟩
termination_by x p => (sizeOf p, 0)
decreasing_by all_goals (simp_wf; first | (apply Prod.Lex.left; omega) | (apply Prod.Lex.right; omega) | omega)
theorem soundF : ∀ (p : Exs) (sc : Scope) (c : Bool) (es : List Expr), isEs T N p sc c es = true → ∀ (X : Cx) (W : WX), Good T Δ Γ k W c X → Defs T Δ k X → X.N = N → X.env.scope = sc → PTs X es (liftT X.K W (wpF Δ Γ p))
  | .nil, sc, c, es, h, X, W, g, df, hN, hs => by
    cases es with
    | cons _ _ => simp [isEs] at h
    | nil => exact ⟨fun pins s σ H Q I w => pts_nil.run pins s σ H Q I (by obtain ⟨σd, G, Qd, E, l, h, f⟩ := w; exact f H _ G (Ext.refl H) l.ok h)⟩
  | .cons p .nil, sc, c, es, h, X, W, g, df, hN, hs => by
    cases es with
    | nil => simp [isEs] at h
    | cons e es =>
      cases es with
      | cons _ _ => simp [isEs] at h
      | nil =>
        simp only [isEs, Bool.and_eq_true] at h
        exact pts_one (soundT p sc c _ h.1 X W g df hN hs)
  | .cons p (.cons p2 r), sc, c, es, h, X, W, g, df, hN, hs => ⟨fun pins s σ H Q I w => by
      obtain ⟨σd, G, Qd, E, l, h, f⟩ := w
      exact h.elim⟩
termination_by p => (sizeOf p, 0)
decreasing_by all_goals (simp_wf; first | (apply Prod.Lex.left; omega) | (apply Prod.Lex.right; omega) | omega)
theorem soundG : ∀ (p : Tg) (sc : Scope) (c : Bool) (e : Expr), isG T N p sc c e = true → ∀ (X : Cx) (W : WX), (∀ x, X.fn x = true) ∨ tgLoc X.env.scope e = true → Good T Δ Γ k W c X → Defs T Δ k X → X.N = N → X.env.scope = sc → PG X e (liftG X.K W (wpG Δ Γ p) (tgIx p))
  | .name i, sc, c, e, h, X, W, hf, g, df, hN, hs => by
    simp only [isG] at h
    split at h
    · simp only [Bool.and_eq_true, beq_iff_eq] at h
      subst hs
      rename_i x _
      have hx := loc_of h.2
      refine PG.imp (pg_name (i := i) g.nd (by rw [hN]; exact h.1) hx (by
        rcases hf with z | z
        · exact .inl (z x)
        · refine .inr ?_
          simp only [tgLoc, nmLoc] at z
          split at z
          · assumption
          · cases z)) fun v σ H Q w => ?_
      obtain ⟨d, σd, G, Qd, E, hd, l, h, f⟩ := w
      refine f H _ G _ (Ext.refl H) (l.sl.set hd) l.ok ⟨by simp, fun j hj => ?_⟩ h
      have : j ≠ i := fun z => hj (by simp [tgIx, z])
      exact List.getElem?_set_ne (Ne.symm this)
    · cases h
  | .tup ts, sc, c, e, h, X, W, hf, g, df, hN, hs => by
    simp only [isG] at h
    split at h
    · simp only [Bool.and_eq_true] at h
      obtain ⟨hc, h⟩ := h
      obtain ⟨n1, n2⟩ := each_len h X.env
      refine PG.imp (pg_tup (n := ts.len) (g.calm hc) (soundGs ts sc c _ h X W hf g df hN hs) n1 n2) fun v σ H Q w => ?_
      obtain ⟨d, σd, G, Qd, E, hd, l, h, f⟩ := w
      cases d with
      | tup ds =>
        obtain ⟨p, vs, rfl, t, hl⟩ := hd
        exact ⟨p, vs, rfl, t.sq, by rw [hl.len]; exact h.1, ds, σd, G, Qd, E, hl, l, h.2, f⟩
      | _ => exact h.elim
    · cases h
  | .sub o i, sc, c, e, h, X, W, hf, g, df, hN, hs => by
    simp only [isG] at h
    split at h
    · simp only [Bool.and_eq_true] at h
      refine PG.imp (pg_sub (soundE o sc c _ h.1 X W g df hN hs) (soundE i sc c _ h.2 X W g df hN hs) (sound_set g.units) (by
        intro v
        have b := isE_bad h.2
        rename_i _ i' _
        cases i' <;> first
          | rfl
          | exact Bool.noConfusion (show true = false from b))) fun v σ H Q w => ?_
      obtain ⟨d, σd, G, Qd, E, hd, l, h, f⟩ := w
      refine liftE.go l h fun H1 x xv G1 e1 l1 hx h1 => liftE.go l1 h1 fun H2 y u G2 e2 l2 hy h2 => ?_
      exact ⟨x, y, d, G2, _, Has.ext e2 _ _ hx, hy, Has.ext (e1.trans e2) _ _ hd, l2.ok, h2, fun H3 G3 e3 g3 q => f H3 σd G3 σ (e1.trans (e2.trans e3)) (l2.sl.ext e3) g3 (Off.refl _ _) q⟩
    · cases h
  | .att o C f, sc, c, e, h, X, W, hf, g, df, hN, hs => by
    simp only [isG] at h
    split at h
    · simp only [Bool.and_eq_true, beq_iff_eq] at h
      obtain ⟨⟨rfl, h1⟩, h2⟩ := h
      obtain ⟨c1, c2⟩ := g.ats C f h1
      refine PG.imp (pg_att (soundE o sc c _ h2 X W g df hN hs)) fun v σ H Q w => ?_
      obtain ⟨d, σd, G, Qd, E, hd, l, h, fi⟩ := w
      refine liftE.go l h fun H1 x xv G1 e1 l1 hx h1 => ?_
      unfold attD at h1
      split at h1
      · rename_i a
        cases hx
        split at h1
        · rename_i C' fs eg
          obtain ⟨rfl, h3, h1⟩ := h1
          obtain ⟨dx, ls, k1, k2⟩ := l1.ok.ins eg
          have e2 : Ext H1 (upd H1 a (.ins (He.ga X.K C') dx (putF f v ls))) := Ext.put k1 (show Mu (.ins _ _ _) from True.intro)
          refine ⟨_, _, dx, ls, rfl, k1, c1, c2, by rw [k2.len]; exact h3, ?_⟩
          exact fi _ σd _ σ (e1.trans e2) (l1.sl.ext e2) (l1.ok.at (o := .ins C' (putFD f d fs)) e2 ⟨dx, _, upd_same, (k2.put (Has.ext e1 _ _ hd)).ext e2⟩) (Off.refl _ _) h1
        · exact h1.elim
      · exact h1.elim
    · cases h
termination_by p => (sizeOf p, 0)
decreasing_by all_goals (simp_wf; first | (apply Prod.Lex.left; omega) | (apply Prod.Lex.right; omega) | omega)
theorem soundGs : ∀ (p : Tgs) (sc : Scope) (c : Bool) (es : List Expr), isGs T N p sc c es = true → ∀ (X : Cx) (W : WX), (∀ x, X.fn x = true) ∨ es.all (nmLoc X.env.scope) = true → Good T Δ Γ k W c X → Defs T Δ k X → X.N = N → X.env.scope = sc → PGs X es (liftGs X.K W (wpGs Δ Γ p) (tgsIx p))
  | .nil, sc, c, es, h, X, W, hf, g, df, hN, hs => by
    cases es with
    | cons _ _ => simp [isGs] at h
    | nil =>
      refine ⟨fun pins s σ H vs us Q I r w => pgs_nil.run pins s σ H vs us Q I r ?_⟩
      obtain ⟨ds, σd, G, Qd, E, hd, l, h, f⟩ := w
      cases ds with
      | nil => cases hd; exact ⟨rfl, f H _ G _ (Ext.refl H) l.sl l.ok (Off.refl _ _) h⟩
      | cons _ _ => exact h.elim
  | .cons t r, sc, c, es, h, X, W, hf, g, df, hN, hs => by
    cases es with
    | nil => simp [isGs] at h
    | cons e es =>
      simp only [isGs, Bool.and_eq_true] at h
      refine ⟨fun pins s σ H vs us Q I rv w => (pgs_cons (soundG t sc c _ h.1 X W (hf.imp id fun z => nm_tg (by simp only [List.all_cons, Bool.and_eq_true] at z; exact z.1)) g df hN hs) (soundGs r sc c _ h.2 X W (hf.imp id fun z => by simp only [List.all_cons, Bool.and_eq_true] at z; exact z.2) g df hN hs) (by rw [each_of (isG_bad h.1)]; rfl)).run pins s σ H vs us Q I rv ?_⟩
      obtain ⟨ds, σd, G, Qd, E, hd, l, h, f⟩ := w
      cases ds with
      | nil => exact h.elim
      | cons d ds =>
        obtain ⟨v, q, rfl, h1, h2⟩ := hd
        refine ⟨v, q, rfl, d, σd, G, _, E, h1, l, h, fun H1 σ1 G1 σ' e1 hs1 g1 o1 q1 => ?_⟩
        exact ⟨ds, σ1, G1, Qd, noX, HasL.ext e1 _ _ h2, ⟨hs1, g1, fun H2 x cls dd G2 e2 hx g2 q2 => q2.elim⟩, q1, fun H2 σ2 G2 σ3 e2 hs2 g2 o2 q2 => f H2 σ2 G2 σ3 (e1.trans e2) hs2 g2 (o1.trans o2) q2⟩
termination_by p => (sizeOf p, 0)
decreasing_by all_goals (simp_wf; first | (apply Prod.Lex.left; omega) | (apply Prod.Lex.right; omega) | omega)
theorem soundI : ∀ (p : It) (sc : Scope) (c : Bool) (e : Expr), isI T N p sc c e = true → ∀ (X : Cx) (W : WX) (tg : Expr), Good T Δ Γ k W c X → Defs T Δ k X → X.N = N → X.env.scope = sc → (itB p = true → tupB tg = true) → PI X tg e (liftI X.K W (wpI Δ Γ p))
  | .val a, sc, c, e, h, X, W, tg, g, df, hN, hs, ht => by
    simp only [isI] at h
    refine PI.imp (pi_any (soundE a sc c _ h X W g df hN hs)) fun σ H R w => ?_
    obtain ⟨σd, G, Qd, E, l, h, f⟩ := w
    refine liftE.go l h fun H1 x v G1 e1 l1 hx h1 => ?_
    unfold walkD at h1
    split at h1
    · obtain ⟨p, vs, rfl, t, hl⟩ := hx
      exact .inr (.inl ⟨p, rfl, ⟨vs, t.sq⟩, f H1 _ G1 _ _ e1 l1.ok h1 (walkD_tup t hl) fun H2 e2 _ => e2⟩)
    · obtain ⟨p, vs, rfl, t, hl⟩ := hx
      exact .inl ⟨p, rfl, ⟨vs, t.sq⟩, f H1 _ G1 _ _ e1 l1.ok h1 (walkD_rol t hl) fun H2 e2 _ => e2⟩
    · cases hx
      exact .inr (.inr ⟨_, rfl, f H1 _ G1 _ _ e1 l1.ok h1 walkD_str fun H2 e2 _ => trivial⟩)
    · cases hx
      split at h1
      · rename_i z
        obtain ⟨vs, k1, k2⟩ := l1.ok.lst z
        exact .inl ⟨_, rfl, ⟨vs, SqL.of k1⟩, f H1 _ G1 _ _ e1 l1.ok h1 walkD_lst fun H2 e2 ⟨G2, g2, kp⟩ => g2.lst kp⟩
      · exact h1.elim
    · exact h1.elim
  | .rng a, sc, c, e, h, X, W, tg, g, df, hN, hs, ht => by
    simp only [isI] at h
    split at h
    · simp only [Bool.and_eq_true, beq_iff_eq] at h
      obtain ⟨⟨rfl, h1⟩, h2⟩ := h
      subst hs
      have O := soundE a _ c _ h2 X W g df hN rfl
      refine PI.imp (pi_range1 (gl_of h1) (g.blt2 _ (by decide +kernel)) (pa_cons O pa_nil (star_of (isE_bad h2) _ _)) (star_of (isE_bad h2) _ _)) fun σ H R w => ?_
      obtain ⟨σd, G, Qd, E, l, h, f⟩ := w
      refine liftE.go l h fun H1 x v G1 e1 l1 hx h1 => ?_
      split at h1
      · cases hx
        rename_i j
        have wr := walkD_rng (K := X.K) (i := 0) (j := j)
        rw [show j - 0 = j by omega] at wr
        exact ⟨j, rfl, h1.1, h1.2.1, f H1 _ G1 _ _ e1 l1.ok h1.2.2 wr fun H2 e2 _ => trivial⟩
      · exact h1.elim
    · cases h
  | .rng2 a b, sc, c, e, h, X, W, tg, g, df, hN, hs, ht => by
    simp only [isI] at h
    split at h
    · simp only [Bool.and_eq_true, beq_iff_eq] at h
      obtain ⟨⟨⟨rfl, h1⟩, h2⟩, h3⟩ := h
      subst hs
      have O := soundE a _ c _ h2 X W g df hN rfl
      have O2 := soundE b _ c _ h3 X W g df hN rfl
      refine PI.imp (pi_range2 (gl_of h1) (g.blt2 _ (by decide +kernel)) (pa_cons O (pa_cons O2 pa_nil (star_of (isE_bad h3) _ _)) (star_of (isE_bad h2) _ _)) (by rw [star_of (isE_bad h2), star_of (isE_bad h3)]; rfl) (star_of (isE_bad h3) _ _)) fun σ H R w => ?_
      obtain ⟨σd, G, Qd, E, l, h, f⟩ := w
      refine liftE.go l h fun H1 x v G1 e1 l1 hx h1 => liftE.go l1 h1 fun H2 y u G2 e2 l2 hy h2 => ?_
      split at h2
      · cases hx
        cases hy
        exact ⟨_, _, rfl, h2.1, f H2 _ G2 _ _ (e1.trans e2) l2.ok h2.2 walkD_rng fun H2 e2 _ => trivial⟩
      · exact h2.elim
    · cases h
  | .enu a, sc, c, e, h, X, W, tg, g, df, hN, hs, ht => by
    simp only [isI] at h
    split at h
    · simp only [Bool.and_eq_true, beq_iff_eq] at h
      obtain ⟨⟨rfl, h1⟩, h2⟩ := h
      subst hs
      have htg := ht rfl
      cases tg <;> first
        | exact Bool.noConfusion (show false = true from htg)
        | skip
      have O := soundE a _ c _ h2 X W g df hN rfl
      refine PI.imp (pi_enumT (gl_of h1) (g.blt2 _ (by decide +kernel)) O (star_of (isE_bad h2) _ _)) fun σ H R w => ?_
      obtain ⟨σd, G, Qd, E, l, h, f⟩ := w
      refine liftE.go l h fun H1 x v G1 e1 l1 hx h1 => ?_
      split at h1
      · obtain ⟨p, vs, rfl, t, hl⟩ := hx
        exact ⟨p, vs, rfl, t.sq, f H1 _ G1 _ _ e1 l1.ok h1 (walkD_enum t hl) fun H2 e2 _ => e2⟩
      · exact h1.elim
    · cases h
  | .rev a, sc, c, e, h, X, W, tg, g, df, hN, hs, ht => by
    simp only [isI] at h
    split at h
    · simp only [Bool.and_eq_true, beq_iff_eq] at h
      obtain ⟨⟨rfl, h1⟩, h2⟩ := h
      subst hs
      have O := soundE a _ c _ h2 X W g df hN rfl
      refine PI.imp (RT.pi_revA (gl_of h1) (g.blt2 _ (by decide +kernel)) O (star_of (isE_bad h2) _ _)) fun σ H R w => ?_
      obtain ⟨σd, G, Qd, E, l, h, f⟩ := w
      refine liftE.go l h fun H1 x v G1 e1 l1 hx h1 => ?_
      split at h1
      · obtain ⟨p, vs, rfl, t, hl⟩ := hx
        exact ⟨p, vs, rfl, .inr ⟨t.sq, f H1 _ G1 _ _ e1 l1.ok h1 (walkD_rev t hl) fun H2 e2 _ => e2⟩⟩
      · exact h1.elim
    · cases h
termination_by p => (sizeOf p, 0)
decreasing_by all_goals (simp_wf; first | (apply Prod.Lex.left; omega) | (apply Prod.Lex.right; omega) | omega)
end
end
end Dl
set_option maxRecDepth 100000
set_option maxHeartbeats 4000000
/-! Dl7: the check is sound: statements, defs. -/
namespace Dl
open PySem PySem.Spec PyProof.Rows L2
section
variable {T : Tab} {N : List Str} {Δ : Nat → Option Spec} {Γ : Gam} {k : Nat}
structure EndOk (K : PySem.W.Frag) (W : WX) (H : Hp) (Kd : EndD) (D : Ends) : Prop where
  nx : ∀ H' σd σ G', Ext H H' → HasS K H' σd σ → GOk K H' G' → Kd.nx σd G' → D.nx σ H'
  bk : ∀ H' σd σ G', Ext H H' → HasS K H' σd σ → GOk K H' G' → Kd.bk σd G' → D.bk σ H'
  ct : ∀ H' σd σ G', Ext H H' → HasS K H' σd σ → GOk K H' G' → Kd.ct σd G' → D.ct σ H'
  rt : Fin K H Kd.rt D.rt
  ex : ∀ H' σd σ x cls dd G', Ext H H' → HasS K H' σd σ → HasX K H' x cls dd → GOk K H' G' → Kd.ex x σd G' → W cls dd σ H'
theorem EndOk.mv {K : PySem.W.Frag} {W : WX} {H H' : Hp} {Kd : EndD} {D : Ends} (e : EndOk K W H Kd D) (x : Ext H H') : EndOk K W H' Kd D :=
  ⟨fun H2 σd σ G e2 => e.nx H2 σd σ G (x.trans e2), fun H2 σd σ G e2 => e.bk H2 σd σ G (x.trans e2), fun H2 σd σ G e2 => e.ct H2 σd σ G (x.trans e2), e.rt.mv x, fun H2 σd σ y cls dd G e2 => e.ex H2 σd σ y cls dd G (x.trans e2)⟩
theorem EndOk.lk {K : PySem.W.Frag} {W : WX} {H : Hp} {Kd : EndD} {D : Ends} {σd : SD} {σ : List (Option V)} {G : GH} (e : EndOk K W H Kd D) (s : HasS K H σd σ) (g : GOk K H G) : Lk K W σ H σd G (fun x => Kd.ex x σd) :=
  ⟨s, g, fun H' x cls dd G' e2 hx g2 q => e.ex H' σd σ x cls dd G' e2 (s.ext e2) hx g2 q⟩
def liftS (K : PySem.W.Frag) (W : WX) (t : EndD → SD → GH → Prop) : TS := fun D σ H => ∃ σd G Kd, HasS K H σd σ ∧ GOk K H G ∧ t Kd σd G ∧ EndOk K W H Kd D
mutual
theorem soundS : ∀ (p : Sm) (sc : Scope) (c : Bool) (s : Stmt), isS T N p sc c s = true → ∀ (X : Cx) (W : WX), (∀ x, X.fn x = true) → (c = true → PassesOwn (model X.prog X.w) X.A X.env X.xe) → Good T Δ Γ k W c X → Defs T Δ k X → X.N = N → X.env.scope = sc → PS X s (liftS X.K W (wpS Δ Γ p))
  | .nev, sc, c, s, h, X, W, hf, po, g, df, hN, hs => PS.imp ps_never fun D σ H w => by obtain ⟨σd, G, Kd, s1, g1, h, e⟩ := w; exact h.elim
  | .rai0 k, sc, c, s, h, X, W, hf, po, g, df, hN, hs => by
    simp only [isS] at h
    split at h
    · simp only [Bool.and_eq_true, beq_iff_eq] at h
      obtain ⟨⟨⟨⟨hc, rfl⟩, h1⟩, h2⟩, h3⟩ := h
      subst hs
      have C := g.cls k h1
      refine PS.imp (ps_raise (g.calm hc) g.tk (pmk_own PySem.F.excBase_ValueError C.exc C.mg C.keep (raises_own C.base C.typ) (gl_of h2) (nm1 h3))) fun D σ H w => ?_
      obtain ⟨σd, G, Kd, s1, g1, h, e⟩ := w
      exact e.ex H σd σ ⟨k, [], []⟩ _ none G (Ext.refl H) s1 ⟨rfl, fun _ => rfl, fun z => absurd rfl z⟩ g1 h
    · cases h
  | .rai j es, sc, c, s, h, X, W, hf, po, g, df, hN, hs => by
    simp only [isS] at h
    split at h
    · rename_i x np es' pos1 pos2
      simp only [Bool.and_eq_true, beq_iff_eq, Bool.not_eq_true'] at h
      obtain ⟨⟨⟨⟨⟨⟨⟨hc, rfl⟩, h1⟩, h2⟩, h3⟩, h4⟩, h5⟩, h6⟩ := h
      subst hs
      obtain ⟨i, fa, fd, ps, hi, F, O, iC, tI, mgx, b⟩ := df.rx j h1
      have A := soundEs es _ c _ h5 X W g df hN rfl
      have px : Passes (L2.CX X.prog X.w) X (fun _ _ _ => False) := passes_call g.tk fun _ _ _ _ z => z.elim
      have few : (fieldsOf j).length ≤ 2 := by unfold fieldsOf; split <;> simp
      cases es' with
      | nil => simp at h6
      | cons e1 es1 =>
        cases es with
        | nil => simp [isEs] at h5
        | cons pa ps1 =>
          have h7 := h5
          simp only [isEs, Bool.and_eq_true] at h7
          refine PS.imp (ps_raise (g.calm hc) g.tk (pmk_oex O iC tI F ((g.room hc).mono hi) b .nil px (gl_of h3) mgx A (nm1 h4) (star_of (isE_bad h7.1) _ _) (star_list h7.2 _ _))) fun D σ H w => ?_
          obtain ⟨σd, G, Kd, s1, g1, h, e⟩ := w
          simp only [wpS] at h
          refine liftA.go (e.lk s1 g1) h fun H1 ds vs G1 e1 hn l1 hl h1 => ?_
          refine ⟨by rw [hl.len, hn]; omega, fun a na => ⟨a, vs, by rw [List.append_nil], by rw [hl.len, hn]; exact h2, upd_same, fun d l H' nd hda ha hd hsame hlook => ?_⟩⟩
          rw [upd_ne hda] at nd
          have old : ∀ b, b ≠ a → b ≠ d → upd (del H' a) d (.xd l) b = H1 b := fun b h1 h2 => by rw [upd_ne h2, del_ne h1, hsame b h1 h2, upd_ne h1]
          have old2 : ∀ b o, H1 b = some o → upd (del H' a) d (.xd l) b = some o := fun b o hb => by
            rw [old b (fun z => by rw [z, na] at hb; cases hb) (fun z => by rw [z, nd] at hb; cases hb)]; exact hb
          have e2 : Ext H1 (upd (del H' a) d (.xd l)) := Ext.same old2
          refine ⟨rfl, d, l, ha, hd, nd, e.ex _ σd σ ⟨j, fieldsOf j, ds⟩ _ (some d) G1 (e1.trans e2) (l1.sl.ext e2) ⟨rfl, fun z => ?_, fun _ => ⟨d, l, vs, rfl, upd_same, HasL.ext e2 _ _ hl, hlook⟩⟩ (fun b o q => ?_) h1⟩
          · have z' : fieldsOf j = [] := z
            rw [z'] at h2
            simp [Exs.len] at h2
          · obtain ⟨u, hu⟩ := (l1.ok b o q).some
            exact (l1.ok b o q).mv e2 ((old2 b u hu).trans hu.symm)
    · cases h
  | .exp e, sc, c, s, h, X, W, hf, po, g, df, hN, hs => by
    simp only [isS] at h
    split at h
    · simp only [Bool.and_eq_true] at h
      refine PS.imp (ps_expr (soundE e sc c _ h.1 X W g df hN hs) (swaps_of (by simpa using h.2) _ _ _)) fun D σ H w => ?_
      obtain ⟨σd, G, Kd, s1, g1, h, e⟩ := w
      exact liftE.go (e.lk s1 g1) h fun H1 x v G1 e1 l1 hx h1 => e.nx H1 σd σ G1 e1 l1.sl l1.ok h1
    · cases h
  | .ret e, sc, c, s, h, X, W, hf, po, g, df, hN, hs => by
    simp only [isS] at h
    split at h
    · refine PS.imp (ps_ret (soundE e sc c _ h X W g df hN hs)) fun D σ H w => ?_
      obtain ⟨σd, G, Kd, s1, g1, h, e⟩ := w
      exact liftE.go (e.lk s1 g1) h fun H1 x v G1 e1 l1 hx h1 => e.rt H1 x v G1 e1 hx l1.ok h1
    · cases h
  | .retN, sc, c, s, h, X, W, hf, po, g, df, hN, hs => by
    simp only [isS] at h
    split at h
    · refine PS.imp ps_retN fun D σ H w => ?_
      obtain ⟨σd, G, Kd, s1, g1, h, e⟩ := w
      exact e.rt H .non .non G (Ext.refl H) rfl g1 h
    · cases h
  | .asg t e, sc, c, s, h, X, W, hf, po, g, df, hN, hs => by
    simp only [isS] at h
    split at h
    · rename_i t' e' pos
      have h' : isG T N t sc c t' = true ∧ isE T N e sc c e' = true ∧ compB e' = false ∧ (tupB e' = false ∨ nameB t' = true) := by
        simp only [Bool.or_eq_true, Bool.and_eq_true, Bool.not_eq_true'] at h
        rcases h with ⟨⟨⟨h1, h2⟩, h3⟩, h4⟩ | ⟨⟨⟨h0, h1⟩, h2⟩, h3⟩
        · exact ⟨h1, h2, h3, .inl h4⟩
        · exact ⟨h1, h2, h3, .inr h0⟩
      obtain ⟨h1, h2, h3, h4⟩ := h'
      refine PS.imp (ps_asg (soundE e sc c _ h2 X W g df hN hs) (soundG t sc c _ h1 X W (.inl hf) g df hN hs) (sole_of h3 _ _) (stores_of h4 _) (by rw [each_of (isG_bad h1)]; rfl)) fun D σ H w => ?_
      obtain ⟨σd, G, Kd, s1, g1, h, e⟩ := w
      refine liftE.go (e.lk s1 g1) h fun H1 x v G1 e1 l1 hx h1 => ?_
      exact ⟨x, σd, G1, _, _, hx, l1, h1, fun H2 σ2 G2 σ3 e2 s2 g2 o2 q => e.nx H2 σ2 σ3 G2 (e1.trans e2) s2 g2 q⟩
    · cases h
  | .asc i e, sc, c, s, h, X, W, hf, po, g, df, hN, hs => by
    simp only [isS] at h
    split at h
    · rename_i y py el gs scope pos spos
      simp only [Bool.and_eq_true, beq_iff_eq] at h
      obtain ⟨⟨⟨⟨⟨⟨hc, h0⟩, h1⟩, h2⟩, h3⟩, h4⟩, h5⟩ := h
      subst hs
      have hl : X.env.scope.names.lookup y = some .local := by
        split at h2
        · assumption
        · cases h2
      cases e with
      | comp elt tgt itr ifs own =>
       simp only [isE] at h5
       split at h5
       · rename_i el' t' it' ifs' scope' pos' q
         simp only [Bool.and_eq_true] at h5
         obtain ⟨⟨⟨⟨⟨⟨⟨⟨⟨⟨_, k1⟩, kl⟩, k2⟩, k3⟩, k4⟩, k8⟩, k9⟩, k5⟩, k6⟩, k7⟩ := h5
         cases q
         have hown : ∀ i ∈ tgIx tgt, i ∈ own.map (·.2) := fun i hi => by
           obtain ⟨p, hp, e⟩ := List.any_eq_true.mp (List.all_eq_true.mp k2 i hi)
           exact List.mem_map.mpr ⟨p, hp, beq_iff_eq.mp e⟩
         refine PS.imp (ps_setLc (own := own) (g := liftG X.K (fun _ _ _ _ => False) (wpG Δ Γ tgt) (tgIx tgt)) (tt := liftT X.K (fun _ _ _ _ => False) (wpF Δ Γ ifs)) (te := liftE X.K (fun _ _ _ _ => False) (wpE Δ Γ elt)) (g.calm hc) g.nd (by rw [hN]; exact h1) hl
           (sw_true (env := X.env) h0 hl (by simpa using h3) (by simpa using h4)) (soundI itr _ c _ k3 X W t' g df hN rfl (fun z => by simpa [z] using k8)) (by rw [hN]; exact blkOk_by k1)
           (fun s H C cl fp => soundG tgt _ c _ k5 (X.blk s H scope (compEnvC scope cl C X.env) fp) _ (.inr k9) (g.blk hc s H scope C cl fp (by simpa using kl)) df hN rfl)
           (fun s H C cl fp => soundF ifs _ c _ k6 (X.blk s H scope (compEnvC scope cl C X.env) fp) _ (g.blk hc s H scope C cl fp (by simpa using kl)) df hN rfl)
           (fun s H C cl fp => soundE elt _ c _ k7 (X.blk s H scope (compEnvC scope cl C X.env) fp) _ (g.blk hc s H scope C cl fp (by simpa using kl)) df hN rfl) (fun x => folded_of (cx_set k4) _ x)) fun D σ H w => ?_
         obtain ⟨σd, G, Kd, s1, g1, h, e⟩ := w
         exact comp_imp hown ⟨σd, G, fun d G1 => Kd.nx (σd.set i (some d)) G1, _, e.lk s1 g1, h, fun H1 d v G1 e1 hv g2 q => e.nx H1 _ _ G1 e1 ((s1.ext e1).set hv) g2 q⟩
       · exact absurd h5 (by simp)
      | _ => exact absurd h5 (by simp [isE])
    · cases h
  | .ifs t a b, sc, c, s, h, X, W, hf, po, g, df, hN, hs => by
    simp only [isS] at h
    split at h
    · simp only [Bool.and_eq_true] at h
      refine PS.imp (ps_if (soundT t sc c _ h.1.1 X W g df hN hs) (soundSs a sc c _ h.1.2 X W hf po g df hN hs) (soundSs b sc c _ h.2 X W hf po g df hN hs)) fun D σ H w => ?_
      obtain ⟨σd, G, Kd, s1, g1, h, e⟩ := w
      refine liftT.go (e.lk s1 g1) h fun H1 b G1 e1 l1 h1 => ?_
      split at h1
      · rename_i hb
        rw [if_pos hb]
        exact ⟨σd, G1, Kd, l1.sl, l1.ok, h1, e.mv e1⟩
      · rename_i hb
        rw [if_neg hb]
        exact ⟨σd, G1, Kd, l1.sl, l1.ok, h1, e.mv e1⟩
    · cases h
  | .fors t it body, sc, c, s, h, X, W, hf, po, g, df, hN, hs => by
    simp only [isS] at h
    split at h
    · simp only [Bool.and_eq_true] at h
      obtain ⟨⟨⟨⟨⟨hc, h1⟩, h2⟩, h3⟩, h4⟩, h5⟩ := h
      refine PS.imp (ps_for (po hc) (g.calm hc) (soundI it sc c _ h2 X W _ g df hN hs (fun z => by simpa [z] using h4)) (soundG t sc c _ h1 X W (.inl hf) g df hN hs) (soundSs body sc c _ h5 X W hf po g df hN hs) (folded_of (cx_set h3) _)) fun D σ H w => ?_
      obtain ⟨σd, G, Kd, s1, g1, h, e⟩ := w
      have l := e.lk s1 g1
      refine ⟨σd, G, _, _, l, h, fun H1 w G1 J C e1 g2 h1 wd hC => ?_⟩
      obtain ⟨I, i0, ik, it1, i2⟩ := h1
      refine ⟨fun i m σ' H' => m = w.xs.length - i ∧ i ≤ w.xs.length ∧ Ext H1 H' ∧ ∃ σd' G', I i σd' G' ∧ HasS X.K H' σd' σ' ∧ GOk X.K H' G', ⟨_, rfl, Nat.zero_le _, Ext.refl _, σd, G1, i0, s1.ext e1, g2⟩, ?_⟩
      rintro i m σ' H' ⟨rfl, hi, e2, σd', G', q, s2, g3⟩
      have cH : C H' := hC H' e2 ⟨G', g3, ik _ _ _ q⟩
      by_cases hlt : i < w.xs.length
      · refine .inr ⟨wd.goes i H' hlt cH, fun σ2 H2 => Ext H1 H2 ∧ ∃ σd2 G2, I (i + 1) σd2 G2 ∧ HasS X.K H2 σd2 σ2 ∧ GOk X.K H2 G2, fun σ2 H2 ⟨a1, σd2, G2, a2, a3, a4⟩ => ⟨_, by omega, rfl, hlt, a1, σd2, G2, a2, a3, a4⟩, fun x H2 y => ?_⟩
        have hd : w.xs[i]? = some w.xs[i] := List.getElem?_eq_getElem hlt
        obtain ⟨hx, hH⟩ := wd.yields i H' x H2 _ hd cH y
        have e4 : Ext H' H2 ∧ GOk X.K H2 G' := by
          rcases hH with rfl | ⟨Tt, u, hT, rfl⟩
          · exact ⟨Ext.refl _, g3⟩
          · exact ⟨Ext.new hT, g3.un hT⟩
        obtain ⟨e4, g4⟩ := e4
        have e5 := e1.trans (e2.trans e4)
        refine ⟨_, σd', G', _, _, hx, (e.mv e5).lk (s2.ext e4) g4, it1 i σd' G' _ q hd, fun H3 σ3 G3 σ4 e6 s3 g5 o3 q3 => ?_⟩
        refine ⟨σ3, G3, _, s3, g5, q3, ?_⟩
        have nxt : ∀ H4 σd4 σ4 G4, Ext H3 H4 → HasS X.K H4 σd4 σ4 → GOk X.K H4 G4 → wk (I (i + 1) σd4) G4 → Ext H1 H4 ∧ ∃ σd2 G2, I (i + 1) σd2 G2 ∧ HasS X.K H4 σd2 σ4 ∧ GOk X.K H4 G2 := fun H4 σd4 σ4 G4 e7 s4 g6 ⟨Gw, k3, k4⟩ =>
          ⟨e2.trans (e4.trans (e6.trans e7)), σd4, Gw, k4, s4, g6.le k3⟩
        have e8 := e5.trans e6
        exact ⟨nxt, (e.mv e8).nx, nxt, (e.mv e8).rt, (e.mv e8).ex⟩
      · have ei : i = w.xs.length := by omega
        subst ei
        exact .inl ⟨wd.stops H' cH, e.nx H' σd' σ' G' (e1.trans e2) s2 g3 (i2 _ _ q)⟩
    · cases h
  | .whl t body, sc, c, s, h, X, W, hf, po, g, df, hN, hs => by
    simp only [isS] at h
    split at h
    · simp only [Bool.and_eq_true] at h
      refine PS.imp (ps_while (po h.1.1) (soundT t sc c _ h.1.2 X W g df hN hs) (soundSs body sc c _ h.2 X W hf po g df hN hs)) fun D σ H w => ?_
      obtain ⟨σd, G, Kd, s1, g1, h, e⟩ := w
      obtain ⟨I, ⟨m0, i0⟩, it1⟩ := h
      refine ⟨fun m σ' H' => Ext H H' ∧ ∃ σd' G', I m σd' G' ∧ HasS X.K H' σd' σ' ∧ GOk X.K H' G', ⟨m0, Ext.refl _, σd, G, i0, s1, g1⟩, ?_⟩
      rintro m σ' H' ⟨e2, σd', G', q, s2, g3⟩
      refine liftT.go ((e.mv e2).lk s2 g3) (it1 m σd' G' q) fun H1 b G1 e1 l1 h1 => ?_
      split at h1
      · rename_i hb
        rw [if_pos hb]
        refine ⟨fun σ2 H2 => ∃ m', m' < m ∧ Ext H H2 ∧ ∃ σd2 G2, I m' σd2 G2 ∧ HasS X.K H2 σd2 σ2 ∧ GOk X.K H2 G2, fun σ2 H2 ⟨m', a0, a1⟩ => ⟨m', a0, a1⟩, σd', G1, _, l1.sl, l1.ok, h1, ?_⟩
        have e5 := e2.trans e1
        have nxt : ∀ H4 σd4 σ4 G4, Ext H1 H4 → HasS X.K H4 σd4 σ4 → GOk X.K H4 G4 → wk (fun G' => ∃ m', m' < m ∧ I m' σd4 G') G4 → ∃ m', m' < m ∧ Ext H H4 ∧ ∃ σd2 G2, I m' σd2 G2 ∧ HasS X.K H4 σd2 σ4 ∧ GOk X.K H4 G2 := fun H4 σd4 σ4 G4 e7 s4 g6 ⟨Gw, k3, m', k4, k5⟩ =>
          ⟨m', k4, e5.trans e7, σd4, Gw, k5, s4, g6.le k3⟩
        exact ⟨nxt, (e.mv e5).nx, nxt, (e.mv e5).rt, (e.mv e5).ex⟩
      · rename_i hb
        rw [if_neg hb]
        exact e.nx H1 σd' σ' G1 (e2.trans e1) l1.sl l1.ok h1
    · cases h
  | .pas, sc, c, s, h, X, W, hf, po, g, df, hN, hs => by
    simp only [isS] at h
    split at h
    · exact PS.imp ps_pass fun D σ H w => by obtain ⟨σd, G, Kd, s1, g1, h, e⟩ := w; exact e.nx H σd σ G (Ext.refl H) s1 g1 h
    · cases h
  | .brk, sc, c, s, h, X, W, hf, po, g, df, hN, hs => by
    simp only [isS] at h
    split at h
    · exact PS.imp ps_break fun D σ H w => by obtain ⟨σd, G, Kd, s1, g1, h, e⟩ := w; exact e.bk H σd σ G (Ext.refl H) s1 g1 h
    · cases h
  | .cnt, sc, c, s, h, X, W, hf, po, g, df, hN, hs => by
    simp only [isS] at h
    split at h
    · exact PS.imp ps_continue fun D σ H w => by obtain ⟨σd, G, Kd, s1, g1, h, e⟩ := w; exact e.ct H σd σ G (Ext.refl H) s1 g1 h
    · cases h
theorem soundSs : ∀ (p : Sms) (sc : Scope) (c : Bool) (s : List Stmt), isSs T N p sc c s = true → ∀ (X : Cx) (W : WX), (∀ x, X.fn x = true) → (c = true → PassesOwn (model X.prog X.w) X.A X.env X.xe) → Good T Δ Γ k W c X → Defs T Δ k X → X.N = N → X.env.scope = sc → PSs X s (liftS X.K W (wpSs Δ Γ p))
  | .nil, sc, c, s, h, X, W, hf, po, g, df, hN, hs => by
    cases s with
    | cons _ _ => simp [isSs] at h
    | nil => exact PSs.imp pss_nil fun D σ H w => by obtain ⟨σd, G, Kd, s1, g1, h, e⟩ := w; exact e.nx H σd σ G (Ext.refl H) s1 g1 h
  | .cons a r, sc, c, s, h, X, W, hf, po, g, df, hN, hs => by
    cases s with
    | nil => simp [isSs] at h
    | cons s1 s2 =>
      simp only [isSs, Bool.and_eq_true] at h
      refine PSs.imp (pss_cons (soundS a sc c _ h.1 X W hf po g df hN hs) (soundSs r sc c _ h.2 X W hf po g df hN hs)) fun D σ H w => ?_
      obtain ⟨σd, G, Kd, s1, g1, h, e⟩ := w
      exact ⟨σd, G, _, s1, g1, h, ⟨fun H1 σ1 σ2 G1 e1 a1 a2 ⟨G2, l, a3⟩ => ⟨σ1, G2, Kd, a1, a2.le l, a3, e.mv e1⟩, e.bk, e.ct, e.rt, e.ex⟩⟩
end
end
/-- statements, then a rest -/
theorem soundApp {sc : Scope} {c : Bool} {X : Cx} {W : WX} {rest : List Stmt} {t : EndD → SD → GH → Prop} (hf : ∀ x, X.fn x = true) (po : c = true → PassesOwn (model X.prog X.w) X.A X.env X.xe) (g : Good T Δ Γ k W c X) (df : Defs T Δ k X) (hN : X.N = N) (hs : X.env.scope = sc) (hr : PSs X rest (liftS X.K W t)) :
    ∀ (p : Sms) (s : List Stmt), isSs T N p sc c s = true → PSs X (s ++ rest) (liftS X.K W fun K σ G => wpSs Δ Γ p { K with nx := fun σ' => wk fun G' => t K σ' G' } σ G)
  | .nil, s, h => by
    cases s with
    | cons _ _ => simp [isSs] at h
    | nil =>
      refine PSs.imp hr fun D σ H w => ?_
      obtain ⟨σd, G, Kd, s1, g1, ⟨G2, l, h⟩, e⟩ := w
      exact ⟨σd, G2, Kd, s1, g1.le l, h, e⟩
  | .cons a r, s, h => by
    cases s with
    | nil => simp [isSs] at h
    | cons s1 s2 =>
      simp only [isSs, Bool.and_eq_true] at h
      refine PSs.imp (pss_cons (soundS a sc c _ h.1 X W hf po g df hN hs) (soundApp hf po g df hN hs hr r s2 h.2)) fun D σ H w => ?_
      obtain ⟨σd, G, Kd, s1, g1, h, e⟩ := w
      exact ⟨σd, G, _, s1, g1, h, ⟨fun H1 σ1 σ2 G1 e1 a1 a2 ⟨G2, l, a3⟩ => ⟨σ1, G2, Kd, a1, a2.le l, a3, e.mv e1⟩, e.bk, e.ct, e.rt, e.ex⟩⟩
/-- the try itself -/
def tryW (Δ : Nat → Option Spec) (Γ : Gam) (B : TryB) (K : EndD) (σ : SD) (G : GH) : Prop :=
  wpSs Δ Γ B.body { K with ex := fun x σ2 G2 => Γ.all.contains x.cls = true ∧ if subC x.cls B.cls = true then wk (wpSuite Δ Γ B K x σ2) G2 else K.ex x σ2 G2 } σ G
/-- what a suite makes -/
def suiteT (T : Tab) (Δ : Nat → Option Spec) (Γ : Gam) (K : PySem.W.Frag) (suite : Sms) (a : Addr) (cls : Value) (d : Option Addr) : TS := fun D σ H => ∃ j, cls = .ref (He.ga K (cn j)) ∧ T.all.contains j = true ∧ liftS K (fun _ _ _ _ => False) (wpSs Δ { Γ with x := some (a, j, d), act := none } suite) D σ H
theorem suite_ok {sc : Scope} {X : Cx} {suite : Sms} {ss : List Stmt} (h : isSs T N suite sc false ss = true) (hf : ∀ x, X.fn x = true) (hu : X.A.units + 70 < cLine) (nd : X.N.Nodup) (gl : ∀ g x d, T.gls[g]? = some x → Γ g = some d → ∃ u v, X.mg x = some u ∧ RelV v u ∧ ∀ H, Has X.K H d v) (cl : ∀ k, T.cls.contains k = true → ClsOk X.K X.mg (cn k)) (kl : ClsAll X.K X.mg T.all)
    (at_ : AtsOk T X.K) (gf : ∀ x, T.gfs.contains x = true → X.mg x = some (.ref (He.ga X.K x)))
    (b1 : ∀ f, X.mg (bfN f) = none) (b2 : ∀ x, x ∈ (["range", "enumerate", "reversed", "isinstance", "int", "bool", "str", "list", "tuple", "dict", "set", "sorted"] : List Str) → X.mg x = none) (df : Defs T Δ k X) (hN : X.N = N) (hs : X.env.scope = sc)
    (a : Addr) (oe : Obj) (cls : Value) (d : Option Addr) (pn : List (Addr × Obj)) (hz : Zc cls d oe) (hv : ∃ vs, oe.data = .fields vs) : PSs (X.suite a ((a, oe) :: pn)) ss (suiteT T Δ Γ X.K suite a cls d) := Dl.unQ (by
 simp (disch := with_unfolding_all
  refine @id _ ?_
  refine ⟨fun pins s σ H D I w => ?_⟩
  obtain ⟨j, rfl, hj, w⟩ := w
  refine (soundSs (T := T) (N := N) (Δ := Δ) (Γ := { Γ with x := some (a, j, d), act := none }) (k := k) suite sc false ss h (X.suite a ((a, oe) :: pn)) (fun _ _ _ _ => False) hf (fun z => by cases z) ?_ df hN hs).run pins s σ H D I w
  refine ⟨fun z => (by cases z), fun z => (by cases z), hu, nd, takes0, gl, cl, kl, fun _ a' k' d' e => ?_, at_, gf, b1, b2, fun z => (by cases z), fun z => (by cases z)⟩
  cases e
  exact ⟨X, oe, pn, rfl, hz, hv, hj⟩
 ) only [↓Dl.qTrue])
theorem soundTry {B : TryB} {sc : Scope} {X : Cx} {W : WX} {body suite : List Stmt} {s0 : Stmt} {x : Str} {np pos pos' : Pos} {nm : Option Str} (hstk : X.stack = X.env :: X.outer) (hfr : X.env.frame = some X.env.locals) (hkd : ∀ n, sc.names.lookup n = some .local → X.env.kindOf n = some .local) (hf : ∀ x, X.fn x = true)
    (po : ∀ pn xe, PassesOwn (model X.prog X.w) X.A X.env xe → PassesOwn (model (X.tr pn xe).prog (X.tr pn xe).w) (X.tr pn xe).A (X.tr pn xe).env (X.tr pn xe).xe) (g : Good T Δ Γ k W true X) (gb : ∀ W' pn xe, Takes (X.tr pn xe) W' → Good T Δ Γ k W' true (X.tr pn xe)) (gx : ∀ j, Γ.all.contains j = true → T.all.contains j = true)
    (df : Defs T Δ k X) (dft : ∀ pn xe, Defs T Δ k (X.tr pn xe)) (hN : X.N = N) (hs : X.env.scope = sc)
    (hb : isSs T N B.body sc true body = true) (hc : T.all.contains B.cls = true) (hx : x = cn B.cls) (hg : glB sc x = true) (hn : nameOk x = true) (hsu : isSs T N B.suite sc false (s0 :: suite) = true)
    (has : match B.as, nm with | some i, some n => N[i]? = some n ∧ sc.names.lookup n = some .local | none, none => True | _, _ => False) :
    PS X (.Try body [.ExceptHandler (some (.Name x np)) nm (s0 :: suite) pos'] [] [] pos) (liftS X.K W (tryW Δ Γ B)) := Dl.unQ (by
 simp (disch := with_unfolding_all
  refine @id _ ?_
  subst hs
  have hnm : Names X x (.ref (He.ga X.K x)) := ⟨gl_of hg, nm1 hn, .inl (by subst hx; exact g.kls.nm _ hc)⟩
  have hS := fun a oe cls d pn hz hv => suite_ok (T := T) (N := N) (Δ := Δ) (Γ := Γ) (k := k) (X := X) (suite := B.suite) hsu hf g.units g.nd g.gls g.cls g.kls g.ats g.gfs g.blt g.blt2 df hN rfl a oe cls d pn hz hv
  have hB : ∀ (W' : WX) (pn : List (Addr × Obj)) (xe : Value → Shared → Prop), Takes (X.tr pn xe) W' → PassesOwn (model X.prog X.w) X.A X.env xe → PSs (X.tr pn xe) body (liftS X.K W' (wpSs Δ Γ B.body)) :=
    fun W' pn xe tk pw => soundSs B.body _ true body hb (X.tr pn xe) W' hf (fun _ => po pn xe pw) (gb W' pn xe tk) (dft pn xe) hN rfl
  cases ea : B.as with
  | some i =>
    cases nm with
    | none => rw [ea] at has; exact has.elim
    | some n =>
      rw [ea] at has
      refine PS.imp (ps_try_as (i := i) (ts := suiteT T Δ Γ X.K B.suite) hstk hfr g.nd (by rw [hN]; exact has.1) (hkd n has.2) hnm g.tk hB hS) fun D σ H w => ?_
      obtain ⟨σd, G, Kd, s1, g1, w, e⟩ := w
      refine ⟨σd, G, _, s1, g1, w, ⟨e.nx, e.bk, e.ct, e.rt, fun H1 σd1 σ1 y cls dd G1 e1 hs1 hx1 g2 q => ?_⟩⟩
      obtain ⟨q1, q⟩ := q
      obtain ⟨hx1, hx2, hx3⟩ := hx1
      subst hx1
      refine ⟨subC y.cls B.cls, by rw [hx]; exact g.kls.exm _ _ (gx _ q1) hc, fun hb a na => ?_, fun hb => ?_⟩
      · rw [if_pos hb] at q
        obtain ⟨G2, l2, q⟩ := q
        have q := q a dd
        rw [ea] at q
        refine ⟨y.cls, rfl, gx _ q1, σd1.set i (some (.xc a dd y.ns y.ds)), G2, _, hs1.set ⟨rfl, hx2, hx3⟩, g2.le l2, q, ⟨fun H2 σd2 σ2 G3 e2 hs2 g3 z => ?_, fun H2 σd2 σ2 G3 e2 hs2 g3 z => ?_, fun H2 σd2 σ2 G3 e2 hs2 g3 z => ?_, e.rt.mv e1, fun _ _ _ _ _ _ _ _ _ _ _ z => z.elim⟩⟩
        · exact e.nx H2 _ _ G3 (e1.trans e2) hs2.forget g3 z
        · exact e.bk H2 _ _ G3 (e1.trans e2) hs2.forget g3 z
        · exact e.ct H2 _ _ G3 (e1.trans e2) hs2.forget g3 z
      · rw [if_neg (by rw [hb]; exact Bool.false_ne_true)] at q
        exact e.ex H1 σd1 σ1 y _ dd G1 e1 hs1 ⟨rfl, hx2, hx3⟩ g2 q
  | none =>
    cases nm with
    | some n => rw [ea] at has; exact has.elim
    | none =>
      refine PS.imp (ps_try_only (ts := suiteT T Δ Γ X.K B.suite) hstk hfr hnm g.tk hB hS) fun D σ H w => ?_
      obtain ⟨σd, G, Kd, s1, g1, w, e⟩ := w
      refine ⟨σd, G, _, s1, g1, w, ⟨e.nx, e.bk, e.ct, e.rt, fun H1 σd1 σ1 y cls dd G1 e1 hs1 hx1 g2 q => ?_⟩⟩
      obtain ⟨q1, q⟩ := q
      obtain ⟨hx1, hx2, hx3⟩ := hx1
      subst hx1
      refine ⟨subC y.cls B.cls, by rw [hx]; exact g.kls.exm _ _ (gx _ q1) hc, fun hb a na => ?_, fun hb => ?_⟩
      · rw [if_pos hb] at q
        obtain ⟨G2, l2, q⟩ := q
        have q := q a dd
        rw [ea] at q
        exact ⟨y.cls, rfl, gx _ q1, σd1, G2, _, hs1, g2.le l2, q, ⟨fun H2 σd2 σ2 G3 e2 hs2 g3 z => e.nx H2 _ _ G3 (e1.trans e2) hs2 g3 z, fun H2 σd2 σ2 G3 e2 hs2 g3 z => e.bk H2 _ _ G3 (e1.trans e2) hs2 g3 z, fun H2 σd2 σ2 G3 e2 hs2 g3 z => e.ct H2 _ _ G3 (e1.trans e2) hs2 g3 z, e.rt.mv e1, fun _ _ _ _ _ _ _ _ _ _ _ z => z.elim⟩⟩
      · rw [if_neg (by rw [hb]; exact Bool.false_ne_true)] at q
        exact e.ex H1 σd1 σ1 y _ dd G1 e1 hs1 ⟨rfl, hx2, hx3⟩ g2 q
 ) only [↓Dl.qTrue])
/-! ### a def -/
def startD (n : Nat) (ds : List D) : SD := ds.map some ++ List.replicate (n - ds.length) none
theorem HasL.getD {K : PySem.W.Frag} {H : Hp} {ds : List D} {vs : List V} (h : HasL K H ds vs) {n : Nat} (N : List Str) (e : N.length = n) : HasS K H (startD n ds) (L2.start N vs) := Dl.unQ (by
 simp (disch := with_unfolding_all
  refine @id _ ?_
  subst e
  refine ⟨by unfold startD L2.start; simp [h.len], fun i d q => ?_⟩
  unfold startD at q
  unfold L2.start
  by_cases hi : i < ds.length
  · rw [List.getElem?_append_left (by simpa using hi), List.getElem?_map] at q
    cases e : ds[i]? with
    | none => rw [e] at q; cases q
    | some z =>
      rw [e] at q
      cases q
      obtain ⟨v, h1, h2⟩ := h.get e
      exact ⟨v, by rw [List.getElem?_append_left (by simpa [h.len] using hi), List.getElem?_map, h1]; rfl, h2⟩
  · rw [List.getElem?_append_right (by simpa using hi)] at q
    rw [List.getElem?_replicate] at q
    split at q <;> cases q
 ) only [↓Dl.qTrue])
/-- the module's names as the check wants them, for any context over it -/
structure ModOk (T : Tab) (Γ : Gam) (K : PySem.W.Frag) (mg : Str → Option Value) : Prop where
  gls : ∀ g x d, T.gls[g]? = some x → Γ g = some d → ∃ u v, mg x = some u ∧ RelV v u ∧ ∀ H, Has K H d v
  cls : ∀ k, T.cls.contains k = true → ClsOk K mg (cn k)
  kls : ClsAll K mg T.all
  all : ∀ k, Γ.all.contains k = true → T.all.contains k = true
  ats : AtsOk T K
  gfs : ∀ x, T.gfs.contains x = true → mg x = some (.ref (He.ga K x))
  blt : ∀ f, mg (bfN f) = none
  blt2 : ∀ x, x ∈ (["range", "enumerate", "reversed", "isinstance", "int", "bool", "str", "list", "tuple", "dict", "set", "sorted"] : List Str) → mg x = none
/-- a def's body meets a promise -/
def Meet (Δ : Nat → Option Spec) (Γ : Gam) (nn np : Nat) (body : Sms) (sp : Spec) : Prop := ∀ ds G Q E, ds.length = np → sp ds G Q E →
  wpSs Δ Γ body { nx := fun _ => wk (Q .non), rt := fun v => wk (Q v), bk := fun _ _ => False, ct := fun _ _ => False, ex := fun x _ => E x } (startD nn ds) G
section
variable {T : Tab} {Δ : Nat → Option Spec} {Γ : Gam} {P : Program} {w : World} {K : PySem.W.Frag} {mg : Str → Option Value} {base : Heap} {x qual : Str} {params : Arguments} {sbody : List Stmt} {scope : Scope} {f : Addr} {fd : FuncData} {N ps : List Str} {k nn np : Nat} {sp : Spec}
/-- a body's proof makes a def's -/
theorem def_of {t : EndD → SD → GH → Prop} (F : FunD K x qual params sbody scope [] [] f fd) (S : FnScope N ps scope) (hn : N.length = nn) (hp : ps.length = np) (hlen : ∀ ds G Q E, ds.length = np → sp ds G Q E → t { nx := fun _ => wk (Q .non), rt := fun v => wk (Q v), bk := fun _ _ => False, ct := fun _ _ => False, ex := fun x _ => E x } (startD nn ds) G)
    (hb : ∀ (cdv : Value) (A : Around) (outer : List Env) (s : Shared) (H : Hp) (E : XK), Room k (A.deeper (envOfC qual scope s.heap.objs.size f cdv)) →
      PSs (cxOf (L2.CX P w) P w K mg base N qual scope f cdv A outer s H E) sbody (liftS K (fun cls d _ H => E cls d H) t)) : FnOk P w K mg base (L2.CX P w) (k + 1) f fd ps (liftSp K np sp) := Dl.unQ (by
 simp (disch := with_unfolding_all
  refine @id _ ?_
  refine F.ok S (fun vs H Q E hs => hs.1.trans hp.symm) fun cdv A outer s H vs Q E hr hs => ?_
  obtain ⟨hl, ds, G, Qd, Ed, h1, g, h2, f1, f2⟩ := hs
  refine ⟨_, hb cdv A outer s H E hr, startD nn ds, G, _, h1.getD N hn, g, hlen ds G Qd Ed (by rw [← h1.len]; exact hl) h2, ?_⟩
  refine ⟨fun H' σd σ G' e s1 g1 q => ?_, fun _ _ _ _ _ _ _ q => q.elim, fun _ _ _ _ _ _ _ q => q.elim, fun H' d v G' e hv g1 q => ?_, fun H' σd σ y cls dd G' e s1 hx g1 q => f2 H' y cls dd G' e hx g1 q⟩
  · obtain ⟨G2, l, q⟩ := q
    exact f1 H' .non .non G2 e rfl (g1.le l) q
  · obtain ⟨G2, l, q⟩ := q
    exact f1 H' d v G2 e hv (g1.le l) q
 ) only [↓Dl.qTrue])
theorem good_of {W : WX} {X : Cx} (mo : ModOk T Γ X.K X.mg) (hr : Room k X.A) (hc : X.calm = true) (nd : X.N.Nodup) (tk : Takes X W)
    (ha : ∀ i e, isE T X.N (.act i) X.env.scope true e = true → PE X e (liftE X.K W (wpE Δ Γ (.act i)))) (hl : ∀ x g b e, isE T X.N (.lamc x g b) X.env.scope true e = true → PE X e (liftE X.K W (wpE Δ Γ (.lamc x g b)))) : Good T Δ Γ k W true X :=
  ⟨fun _ => hr, fun _ => hc, by have := hr.un; omega, nd, tk, mo.gls, mo.cls, mo.kls, fun z => (by cases z), mo.ats, mo.gfs, mo.blt, mo.blt2, fun _ => ha, fun _ => hl⟩
theorem def_ok {body : Sms} (F : FunD K x qual params sbody scope [] [] f fd) (S : FnScope N ps scope) (hn : N.length = nn) (hp : ps.length = np) (h : isSs T N body scope true sbody = true) (mo : ModOk T Γ K mg) (df : DefsM T Δ k P w K mg base) (me : Meet Δ Γ nn np body sp) (na : Γ.act = none := by rfl) (nl : ∀ g, Γ.l g = none := by exact fun _ => rfl) :
    FnOk P w K mg base (L2.CX P w) (k + 1) f fd ps (liftSp K np sp) := Dl.unQ (by
 simp (disch := with_unfolding_all
  refine @id _ ?_
  refine def_of F S hn hp me fun cdv A outer s H E hr => ?_
  have po : PassesOwn (model P w) (cxOf (L2.CX P w) P w K mg base N qual scope f cdv A outer s H E).A (cxOf (L2.CX P w) P w K mg base N qual scope f cdv A outer s H E).env (cxOf (L2.CX P w) P w K mg base N qual scope f cdv A outer s H E).xe := passes_of (X := cxOf (L2.CX P w) P w K mg base N qual scope f cdv A outer s H E) rfl
  exact soundSs (T := T) (N := N) (Δ := Δ) (Γ := Γ) (k := k) body scope true sbody h _ (fun cls d _ H => E cls d H) (fun _ => rfl) (fun _ => po)
    (good_of mo hr rfl S.nd (takes_of rfl rfl rfl rfl) (act0 na) (lam0 nl)) df rfl rfl
 ) only [↓Dl.qTrue])
theorem kind_local {qual : Str} {scope : Scope} {L f : Addr} {cd : Value} {n : Str} (hk : scope.kind = .function) (h : scope.names.lookup n = some .local) : (envOfC qual scope L f cd).kindOf n = some .local := h
/-- the body of a def that is a try; ha: what it calls of what it got -/
theorem try_ss {B : TryB} {cdv : Value} {A : Around} {outer : List Env} {s : Shared} {H : Hp} {E : XK} (S : FnScope N ps scope) (h : isTry T N B scope sbody = true) (mo : ModOk T Γ K mg) (df : DefsM T Δ k P w K mg base)
    (hr : Room k (cxOf (L2.CX P w) P w K mg base N qual scope f cdv A outer s H E).A) (nl : ∀ g, Γ.l g = none)
    (ha : ∀ (W' : WX) (pn : List (Addr × Obj)) (xe : Value → Shared → Prop), Takes ((cxOf (L2.CX P w) P w K mg base N qual scope f cdv A outer s H E).tr pn xe) W' → ∀ i e, isE T N (.act i) scope true e = true → PE ((cxOf (L2.CX P w) P w K mg base N qual scope f cdv A outer s H E).tr pn xe) e (liftE K W' (wpE Δ Γ (.act i)))) :
    PSs (cxOf (L2.CX P w) P w K mg base N qual scope f cdv A outer s H E) sbody (liftS K (fun cls d _ H => E cls d H) (wpTry Δ Γ B)) := Dl.unQ (by
 simp (disch := with_unfolding_all
  refine @id _ ?_
  have po : PassesOwn (model P w) (cxOf (L2.CX P w) P w K mg base N qual scope f cdv A outer s H E).A (cxOf (L2.CX P w) P w K mg base N qual scope f cdv A outer s H E).env (cxOf (L2.CX P w) P w K mg base N qual scope f cdv A outer s H E).xe := passes_of (X := cxOf (L2.CX P w) P w K mg base N qual scope f cdv A outer s H E) rfl
  have hm0 : ModOk T { Γ with act := none } K mg := ⟨mo.gls, mo.cls, mo.kls, mo.all, mo.ats, mo.gfs, mo.blt, mo.blt2⟩
  unfold isTry at h
  generalize hd : sbody.drop (sbody.length - smsLen B.post - 1) = tl at h
  have happ : sbody.take (sbody.length - smsLen B.post - 1) ++ tl = sbody := by rw [← hd, List.take_append_drop]
  split at h
  · rename_i body y np' nm s0 suite pos' pos rest
    simp only [Bool.and_eq_true, beq_iff_eq] at h
    obtain ⟨⟨⟨⟨⟨⟨⟨⟨h1, h2⟩, h3⟩, h4⟩, h5⟩, h6⟩, h7⟩, h8⟩, h9⟩ := h
    rw [← happ]
    have g := good_of (Δ := Δ) (X := cxOf (L2.CX P w) P w K mg base N qual scope f cdv A outer s H E) (W := fun cls d _ H => E cls d H) hm0 hr rfl S.nd (takes_of rfl rfl rfl rfl) (act0 rfl) (lam0 nl)
    have g1 := good_of (Δ := Δ) (X := cxOf (L2.CX P w) P w K mg base N qual scope f cdv A outer s H E) (W := fun cls d _ H => E cls d H) mo hr rfl S.nd (takes_of rfl rfl rfl rfl) (ha _ [] (cxOf (L2.CX P w) P w K mg base N qual scope f cdv A outer s H E).xe (takes_of rfl rfl rfl rfl)) (lam0 nl)
    have R : PSs (cxOf (L2.CX P w) P w K mg base N qual scope f cdv A outer s H E) rest (liftS K (fun cls d _ H => E cls d H) (wpSs Δ { Γ with act := none } B.post)) :=
      soundSs B.post scope true rest h3 _ _ (fun _ => rfl) (fun _ => po) g df rfl rfl
    have TR := soundTry (T := T) (N := N) (Δ := Δ) (Γ := Γ) (k := k) (B := B) (sc := scope) (X := cxOf (L2.CX P w) P w K mg base N qual scope f cdv A outer s H E) (W := fun cls d _ H => E cls d H) (body := body) (suite := suite) (s0 := s0) (x := y) (np := np') (pos := pos) (pos' := pos') (nm := nm)
      rfl rfl (fun n hl => kind_local S.kind hl) (fun _ => rfl) (fun pn xe pw => pw) g1 (fun W' pn xe tk => good_of (X := (cxOf (L2.CX P w) P w K mg base N qual scope f cdv A outer s H E).tr pn xe) mo hr rfl S.nd tk (ha W' pn xe tk) (lam0 nl)) mo.all df (fun pn xe => df) rfl rfl h2 h4 h5 h6 h7 h9 (by
        revert h8
        cases B.as <;> cases nm <;> simp only [Bool.and_eq_true, beq_iff_eq] <;> intro h8
        · trivial
        · cases h8
        · cases h8
        · refine ⟨h8.1, ?_⟩
          have := h8.2
          split at this
          · assumption
          · cases this)
    refine PSs.imp (soundApp (fun _ => rfl) (fun _ => po) g df rfl rfl (PSs.imp (pss_cons TR R) (t' := liftS K (fun cls d _ H => E cls d H) fun Kd σ G => tryW Δ Γ B { Kd with nx := fun σ2 => wk fun G2 => wpSs Δ { Γ with act := none } B.post Kd σ2 G2 } σ G) fun D σ H w => ?_) B.pre _ h1) fun D σ H w => w
    obtain ⟨σd, G, Kd, s1, g2, w, e⟩ := w
    exact ⟨σd, G, _, s1, g2, w, ⟨fun H1 σ1 σ2 G1 e1 a1 a2 ⟨G2, l, a3⟩ => ⟨σ1, G2, Kd, a1, a2.le l, a3, e.mv e1⟩, e.bk, e.ct, e.rt, e.ex⟩⟩
  · cases h
 ) only [↓Dl.qTrue])
end
end Dl
set_option maxRecDepth 100000
/-! Dl8: helpers: equality of plain data, lists of numbers, ranges. -/
namespace Dl
open PySem PySem.Spec PyProof.Rows L2
abbrev tI (xs : List Int) : D := .tup (xs.map .int)
/-! ### equality -/
theorem eqD_int (i j : Int) (G : GH) (k : Bool → Prop) : eqD (.int i) (.int j) G k = k (decide (i = j)) := Dl.unQ (by
 simp (disch := with_unfolding_all
  refine @id _ ?_
  have h : PyData.eqv (.int i) (.int j) = decide (i = j) := by simp [PyData.eqv, Bool.beq_eq_decide_eq]
  simp only [eqD, pyG, pyD]
  rw [h]
  have s : ∀ i : Int, SeqAt.shaped (.int i) = true := fun _ => rfl
  simp [s]
 ) only [↓Dl.qTrue])
theorem eqD_bl (i j : Bool) (G : GH) (k : Bool → Prop) : eqD (.bl i) (.bl j) G k = k (decide (i = j)) := Dl.unQ (by
 simp (disch := with_unfolding_all
  refine @id _ ?_
  have h : PyData.eqv (.bool i) (.bool j) = decide (i = j) := by cases i <;> cases j <;> rfl
  simp only [eqD, pyG, pyD]
  rw [h]
  have s : ∀ i : Bool, SeqAt.shaped (.bool i) = true := fun _ => rfl
  simp [s]
 ) only [↓Dl.qTrue])
theorem pyDs_ints (r : Addr → Option PyData) : ∀ xs : List Int, pyDs r (xs.map D.int) = some (xs.map PyData.int)
  | [] => rfl
  | x :: xs => by simp [pyDs, pyD, pyDs_ints r xs]
theorem can_ints : ∀ xs : List Int, PyData.canLayAll0 (xs.map PyData.int) = true
  | [] => rfl
  | x :: xs => by simp [PyData.canLayAll0, PyData.canLay0, can_ints xs]
theorem depth_ints : ∀ xs : List Int, PyData.depthAll (xs.map PyData.int) = 0
  | [] => rfl
  | x :: xs => by simp [PyData.depthAll, PyData.depth, depth_ints xs]
theorem shaped_ints (xs : List Int) : SeqAt.shaped (.tuple (xs.map PyData.int)) = true := by
  simp [SeqAt.shaped, PyData.canLay0, PyData.depth, can_ints, depth_ints]
theorem shaped_lints (xs : List Int) : SeqAt.shaped (.list (xs.map PyData.int)) = true := by
  simp [SeqAt.shaped, PyData.canLay0, PyData.depth, can_ints, depth_ints]
theorem eqv_ints : ∀ xs ys : List Int, PyData.eqvAll (xs.map PyData.int) (ys.map PyData.int) = decide (xs = ys)
  | [], [] => rfl
  | [], y :: ys => rfl
  | x :: xs, [] => rfl
  | x :: xs, y :: ys => by
    simp only [List.map_cons, PyData.eqvAll, PyData.eqv, eqv_ints xs ys]
    by_cases h : x = y <;> simp [h]
theorem eqD_ints (xs ys : List Int) (G : GH) (k : Bool → Prop) : eqD (.tup (xs.map .int)) (.tup (ys.map .int)) G k = k (decide (xs = ys)) := by
  simp only [eqD, pyG, pyD, pyDs_ints, shaped_ints, true_and]
  rw [PyData.eqv, eqv_ints]
/-- a list compared with [] -/
theorem eqD_lnil {G : GH} {a b : Addr} {xs : List Int} (ha : G a = some (.lst (xs.map .int))) (hb : G b = some (.lst [])) (k : Bool → Prop) : eqD (.ref a) (.ref b) G k = k (decide (xs = [])) := Dl.unQ (by
 simp (disch := with_unfolding_all
  refine @id _ ?_
  have e1 : pyG G (.ref a) = some (.list (xs.map PyData.int)) := by simp [pyG, pyD, rdG, ha, pyDs_ints]
  have e2 : pyG G (.ref b) = some (.list (([] : List Int).map PyData.int)) := by simp [pyG, pyD, rdG, hb, pyDs]
  simp only [eqD, e1, e2, shaped_lints, true_and]
  rw [PyData.eqv, eqv_ints]
 ) only [↓Dl.qTrue])
/-- the data on both sides, and how they compare -/
theorem eqD_is {x y : D} {G : GH} {d e : PyData} {b : Bool} {k : Bool → Prop} (hx : pyG G x = some d) (hy : pyG G y = some e) (hs : SeqAt.shaped d = true) (ht : SeqAt.shaped e = true) (hb : PyData.eqv d e = b) (q : k b) : eqD x y G k := by
  simp only [eqD, hx, hy, hs, ht, hb, true_and]
  exact q
theorem eqD_str {i j : Str} (hi : PyData.strOk i = true) (hj : PyData.strOk j = true) (G : GH) (k : Bool → Prop) : eqD (.str i) (.str j) G k = k (decide (i = j)) := Dl.unQ (by
 simp (disch := with_unfolding_all
  refine @id _ ?_
  have h : PyData.eqv (.str i) (.str j) = decide (i = j) := by simp [PyData.eqv, Bool.beq_eq_decide_eq]
  have s : ∀ i : Str, PyData.strOk i = true → SeqAt.shaped (.str i) = true := fun i h => by simp [SeqAt.shaped, PyData.canLay0, PyData.depth, h]
  simp only [eqD, pyG, pyD]
  rw [h, s i hi, s j hj]
  simp
 ) only [↓Dl.qTrue])
/-! ### lists of numbers, ranges -/
theorem getI {xs : List Int} {i : Nat} {d : D} (h : (xs.map D.int)[i]? = some d) : ∃ z, xs[i]? = some z ∧ d = .int z := Dl.unQ (by
 simp (disch := with_unfolding_all
  refine @id _ ?_
  rw [List.getElem?_map] at h
  cases e : xs[i]? with
  | none => rw [e] at h; cases h
  | some z => rw [e] at h; cases h; exact ⟨z, rfl, rfl⟩
 ) only [↓Dl.qTrue])
theorem rangeD_len (n : Int) : (rangeD 0 n).length = n.toNat := by simp [rangeD]
theorem rangeD_get {n : Int} {i : Nat} {d : D} (h : (rangeD 0 n)[i]? = some d) : i < n.toNat ∧ d = .int i := Dl.unQ (by
 simp (disch := with_unfolding_all
  refine @id _ ?_
  unfold rangeD at h
  rw [List.getElem?_map] at h
  cases e : (List.range (n - 0).toNat)[i]? with
  | none => rw [e] at h; cases h
  | some m =>
    rw [e] at h
    cases h
    obtain ⟨h1, h2⟩ := List.getElem?_eq_some_iff.mp e
    simp at h1 h2
    subst h2
    exact ⟨by omega, by simp⟩
 ) only [↓Dl.qTrue])
theorem atI_int {xs : List Int} {i : Int} (h0 : 0 ≤ i) (h1 : i < xs.length) : atI (xs.map D.int) i = some (.int (xs[i.toNat]'(by omega))) := by
  obtain ⟨n, rfl⟩ : ∃ n : Nat, i = n := ⟨i.toNat, by omega⟩
  exact atI_nat (by rw [List.getElem?_map, List.getElem?_eq_getElem (by omega)]; rfl)
theorem ixN_int {n : Nat} {i : Int} (h0 : 0 ≤ i) (h1 : i < n) : ixN n i = some i.toNat := by
  unfold ixN
  rw [if_pos h0, if_pos h1]
/-! ### turns -/
theorem forW.mk {W : Wk} {body : D → SD → GH → (SD → GH → Prop) → Prop} {σ : SD} {G1 : GH} {nx : SD → GH → Prop} (I : Nat → SD → GH → Prop) (h0 : I 0 σ G1) (hk : ∀ i σ G, I i σ G → W.keep G)
    (hs : ∀ i σ G d, I i σ G → W.xs[i]? = some d → body d σ G fun σ' => wk (I (i + 1) σ')) (hd : ∀ σ G, I W.xs.length σ G → nx σ G) : forW W body σ G1 nx := ⟨I, h0, hk, hs, hd⟩
/-- the heap is as it was behind every turn -/
theorem forW_st {W : Wk} {body : D → SD → GH → (SD → GH → Prop) → Prop} {σ : SD} {G : GH} {nx : SD → GH → Prop} (P : Nat → SD → Prop) (h0 : P 0 σ) (hk : W.keep G)
    (hs : ∀ i σ d, P i σ → W.xs[i]? = some d → ∀ N : SD → GH → Prop, (∀ σ' G', P (i + 1) σ' → Le G G' → N σ' G') → body d σ G N) (hd : ∀ σ, P W.xs.length σ → nx σ G) : forW W body σ G nx := Dl.unQ (by
 simp (disch := with_unfolding_all
  refine @id _ ?_
  refine ⟨fun i σ G' => G' = G ∧ P i σ, ⟨rfl, h0⟩, fun i σ G' h => by rw [h.1]; exact hk, ?_, ?_⟩
  · rintro i σ G' d ⟨rfl, p⟩ hd
    exact hs i σ d p hd _ fun σ' G2 p2 l => ⟨G', l, rfl, p2⟩
  · rintro σ G' ⟨rfl, p⟩
    exact hd σ p
 ) only [↓Dl.qTrue])
theorem whlW.mk {body : SD → GH → (SD → GH → Prop) → (SD → GH → Prop) → Prop} {σ : SD} {G : GH} {nx : SD → GH → Prop} (I : Nat → SD → GH → Prop) (m : Nat) (h0 : I m σ G)
    (hs : ∀ m σ G, I m σ G → body σ G (fun σ' => wk fun G' => ∃ m', m' < m ∧ I m' σ' G') nx) : whlW body σ G nx := ⟨I, ⟨m, h0⟩, hs⟩
theorem compW.mk {W : Wk} {p : Addr} {body : D → GH → (Option D → GH → Prop) → Prop} {G1 : GH} {Q : QD} (I : Nat → GH → Prop) (h0 : I 0 (gup G1 p (.lst []))) (hk : ∀ i G, I i G → W.keep G)
    (hs : ∀ i G d, I i G → W.xs[i]? = some d → body d G fun o G4 => match o with
      | some y => ∃ acc, G4 p = some (.lst acc) ∧ acc.length < sizeLine ∧ wk (I (i + 1)) (gup G4 p (.lst (acc ++ [y])))
      | none => wk (I (i + 1)) G4) (hd : ∀ G, I W.xs.length G → Q (.ref p) G) : compW W p body G1 Q := ⟨I, h0, hk, hs, hd⟩
/-- each item's value is f of it, nothing else changes -/
theorem compW_map {W : Wk} {p : Addr} {body : D → GH → (Option D → GH → Prop) → Prop} {G : GH} {Q : QD} (f : D → D) (hp : G p = none) (hn : W.xs.length ≤ 1000) (hk : ∀ G', Le G G' → W.keep G')
    (hb : ∀ d ∈ W.xs, ∀ G' (R : Option D → GH → Prop), Le G G' → (∀ G2, Le G' G2 → R (some (f d)) G2) → body d G' R) (q : Q (.ref p) (gup G p (.lst (W.xs.map f)))) : compW W p body G Q := Dl.unQ (by
 simp (disch := with_unfolding_all
  refine @id _ ?_
  refine ⟨fun i G' => G' = gup G p (.lst ((W.xs.take i).map f)), by simp, fun i G' h => by rw [h]; exact hk _ (Le.new hp), ?_, ?_⟩
  · rintro i G' d rfl hd
    have hm : d ∈ W.xs := List.mem_of_getElem? hd
    refine hb d hm _ _ (Le.new hp) fun G2 l => ⟨_, l p _ gup_same, ?_, gup G p (.lst ((W.xs.take (i + 1)).map f)), ?_, rfl⟩
    · rw [List.length_map, List.length_take]
      have : sizeLine = 16777216 := sizeLine_eq
      omega
    · rw [List.take_add_one, hd]
      simp only [Option.toList, List.map_append, List.map_cons, List.map_nil]
      have := Le.gup2 (p := p) (o := .lst ((W.xs.take i).map f ++ [f d])) l
      rw [gup_gup] at this
      exact this
  · rintro G' rfl
    simpa using q
 ) only [↓Dl.qTrue])
/-- items let by a test, or not -/
theorem compW_filter {W : Wk} {p : Addr} {body : D → GH → (Option D → GH → Prop) → Prop} {G : GH} {Q : QD} (f : D → Option D) (hp : G p = none) (hn : W.xs.length ≤ 1000) (hk : ∀ G', Le G G' → W.keep G')
    (hb : ∀ d ∈ W.xs, ∀ G' (R : Option D → GH → Prop), Le G G' → (∀ G2, Le G' G2 → R (f d) G2) → body d G' R) (q : Q (.ref p) (gup G p (.lst (W.xs.filterMap f)))) : compW W p body G Q := Dl.unQ (by
 simp (disch := with_unfolding_all
  refine @id _ ?_
  refine ⟨fun i G' => G' = gup G p (.lst ((W.xs.take i).filterMap f)), by simp, fun i G' h => by rw [h]; exact hk _ (Le.new hp), ?_, ?_⟩
  · rintro i G' d rfl hd
    have hm : d ∈ W.xs := List.mem_of_getElem? hd
    have e : (W.xs.take (i + 1)).filterMap f = (W.xs.take i).filterMap f ++ (f d).toList := by
      rw [List.take_add_one, hd, List.filterMap_append]
      cases hf : f d <;> simp [hf]
    refine hb d hm _ _ (Le.new hp) fun G2 l => ?_
    cases hf : f d with
    | none =>
      refine ⟨_, l, ?_⟩
      show gup G p (.lst ((W.xs.take i).filterMap f)) = gup G p (.lst ((W.xs.take (i + 1)).filterMap f))
      rw [e, hf]
      simp
    | some y =>
      refine ⟨_, l p _ gup_same, ?_, gup G p (.lst ((W.xs.take (i + 1)).filterMap f)), ?_, rfl⟩
      · have h1 := List.length_filterMap_le f (W.xs.take i)
        rw [List.length_take] at h1
        have : sizeLine = 16777216 := sizeLine_eq
        omega
      · rw [e, hf]
        have := Le.gup2 (p := p) (o := .lst ((W.xs.take i).filterMap f ++ [y])) l
        rw [gup_gup] at this
        exact this
  · rintro G' rfl
    simpa using q
 ) only [↓Dl.qTrue])
end Dl
set_option maxRecDepth 100000
/-! Dl9: what our trees ask, step by step (for apply). -/
namespace Dl
open PySem PySem.Spec PyProof.Rows L2
theorem ne_some {G : GH} {a p : Addr} {o : GO} (h : G a = some o) (g : G p = none) : a ≠ p := by
  intro z; subst z; rw [h] at g; cases g
section
variable {Δ : Nat → Option Spec} {Γ : Gam} {E : XD} {σ σ' : SD} {G : GH} {Q : QD}
/-! ### parts by values -/
def ntD (x : D) (G : GH) (Q : QD) : Prop := match x with | .bl b => Q (.bl (!b)) G | _ => False
def boD (x : D) (Q : Bool → Prop) : Prop := match x with | .bl b => Q b | _ => False
def inO (x : D) (Q : Option Int → Prop) : Prop := match x with | .int i => Q (some i) | _ => False
def isiD (x : D) (T : String) (G : GH) (Q : Bool → Prop) : Prop := match tyD x G with
  | some t => match kitB t T with | some b => Q b | none => False
  | none => False
/-! ### expressions -/
theorem w_var {i : Nat} {v : D} (h : σ[i]? = some (some v)) (q : Q v G) : wpE Δ Γ (.var i) E σ G Q := by simp only [wpE, h]; exact q
theorem w_non (q : Q .non G) : wpE Δ Γ .non E σ G Q := q
theorem w_bl {b : Bool} (q : Q (.bl b) G) : wpE Δ Γ (.bl b) E σ G Q := q
theorem w_int {i : Int} (q : Q (.int i) G) : wpE Δ Γ (.int i) E σ G Q := q
theorem w_str {s : Str} (q : Q (.str s) G) : wpE Δ Γ (.str s) E σ G Q := q
theorem w_glob {g : Nat} {d : D} (h : Γ g = some d) (q : Q d G) : wpE Δ Γ (.glob g) E σ G Q := by simp only [wpE, h]; exact q
theorem w_tup {es : Exs} (q : wpEs Δ Γ es E σ G fun xs G1 => xs.length ≤ sizeLine ∧ Q (.tup xs) G1) : wpE Δ Γ (.tup es) E σ G Q := q
theorem w_lst {es : Exs} (q : wpEs Δ Γ es E σ G fun xs G1 => xs.length ≤ sizeLine ∧ newL xs G1 Q) : wpE Δ Γ (.lst es) E σ G Q := q
theorem w_bin {op : Operator} {a b : Ex} (q : wpE Δ Γ a E σ G fun x G1 => wpE Δ Γ b E σ G1 fun y G2 => opD op x y G2 Q) : wpE Δ Γ (.bin op a b) E σ G Q := q
theorem w_neg {a : Ex} (q : wpE Δ Γ a E σ G fun x G1 => negD x G1 Q) : wpE Δ Γ (.neg a) E σ G Q := q
theorem w_nt {a : Ex} (q : wpE Δ Γ a E σ G fun x G1 => ntD x G1 Q) : wpE Δ Γ (.nt a) E σ G Q := q
theorem w_cmp {op : CmpOp} {a b : Ex} (q : wpE Δ Γ a E σ G fun x G1 => wpE Δ Γ b E σ G1 fun y G2 => cmpD op x y G2 Q) : wpE Δ Γ (.cmp op a b) E σ G Q := q
theorem w_cmp2 {op op' : CmpOp} {a b c : Ex} (q : wpE Δ Γ a E σ G fun x G1 => wpE Δ Γ b E σ G1 fun y G2 => cmpD op x y G2 fun z G3 => boD z fun k => if k = true then wpE Δ Γ c E σ G3 fun w G4 => cmpD op' y w G4 Q else Q (.bl false) G3) :
    wpE Δ Γ (.cmp2 op op' a b c) E σ G Q := q
theorem w_boo {op : BoolOp} {es : Exs} (q : wpB Δ Γ op es E σ G Q) : wpE Δ Γ (.boo op es) E σ G Q := q
theorem w_ife {t a b : Ex} (q : wpT Δ Γ t E σ G fun c G1 => if c = true then wpE Δ Γ a E σ G1 Q else wpE Δ Γ b E σ G1 Q) : wpE Δ Γ (.ife t a b) E σ G Q := q
theorem w_ix {a i : Ex} (q : wpE Δ Γ a E σ G fun x G1 => wpE Δ Γ i E σ G1 fun y G2 => ixD x y G2 Q) : wpE Δ Γ (.ix a i) E σ G Q := q
theorem w_slc {a : Ex} {lo hi : Exo} (q : wpE Δ Γ a E σ G fun x G1 => wpO Δ Γ lo E σ G1 fun l G2 => wpO Δ Γ hi E σ G2 fun h G3 => slD x l h G3 Q) : wpE Δ Γ (.slc a lo hi) E σ G Q := q
theorem w_call {f : Nat} {es : Exs} {sp : Spec} (h : Δ f = some sp) (q : wpEs Δ Γ es E σ G fun xs G1 => sp xs G1 Q E) : wpE Δ Γ (.call f es) E σ G Q := by simp only [wpE, h]; exact q
theorem w_sset {a : Ex} (q : wpE Δ Γ a E σ G fun x G1 => match x with
      | .ref b => match G1 b with
        | some (.lst ys) => ∃ ns : List Int, ys = ns.map .int ∧ ns.length < 63 ∧ ∀ ns' : List Int, ns'.Pairwise (· < ·) → (∀ k, k ∈ ns' ↔ k ∈ ns) → newL (ns'.map .int) G1 Q
        | _ => False
      | _ => False) : wpE Δ Γ (.sset a) E σ G Q := q
theorem w_lrr {a : Ex} (q : wpE Δ Γ a E σ G fun x G1 => match x with
      | .int n => 0 ≤ n ∧ n ≤ 1000 ∧ newL (((List.range n.toNat).map fun i => n - 1 - (i : Nat)).map .int) G1 Q
      | _ => False) : wpE Δ Γ (.lrr a) E σ G Q := q
theorem w_blt {f : Bf} {es : Exs} (q : wpEs Δ Γ es E σ G fun xs G1 => bfD f xs G1 Q) : wpE Δ Γ (.blt f es) E σ G Q := q
theorem w_met {m : Bm} {o : Ex} {es : Exs} (q : wpE Δ Γ o E σ G fun x G1 => bmT m x G1 ∧ wpEs Δ Γ es E σ G1 fun xs G2 => bmD m x xs G2 Q) : wpE Δ Γ (.met m o es) E σ G Q := q
theorem w_isi {a : Ex} {T : String} (q : wpE Δ Γ a E σ G fun x G1 => isiD x T G1 fun b => Q (.bl b) G1) : wpE Δ Γ (.isi a T) E σ G Q := q
theorem w_isx {i : Nat} {ks : List Nat} {tp : Bool} {a : Addr} {d : Option Addr} {ns : List Str} {ds : List D} {j : Nat} (h : σ[i]? = some (some (.xc a d ns ds))) (hx : Γ.x = some (a, j, d)) (q : Q (.bl (ks.any (subC j))) G) : wpE Δ Γ (.isx i ks tp) E σ G Q := by
  simp only [wpE, h, hx]; exact ⟨trivial, trivial, q⟩
theorem w_xat {i : Nat} {f : Str} {a : Addr} {d : Option Addr} {ns : List Str} {ds : List D} {j : Nat} {v : D} (h : σ[i]? = some (some (.xc a d ns ds))) (hx : Γ.x = some (a, j, d)) (hl : ns.length = ds.length) (hv : (ns.zip ds).lookup f = some v) (q : Q v G) : wpE Δ Γ (.xat i f) E σ G Q := by
  simp only [wpE, h, hx, hv]; exact ⟨trivial, trivial, hl, q⟩
theorem w_gfn {x : Str} (q : Q (.fn x) G) : wpE Δ Γ (.gfn x) E σ G Q := q
theorem w_dsp {ks : List Str} {es : Exs} (q : ∀ p, G p = none → wpEs Δ Γ es E σ (gup G p (.dk [])) fun xs G1 => xs.length = ks.length ∧ G1 p = some (.dk []) ∧ Q (.ref p) (gup G1 p (.dk (mergeD [] ((ks.map Sum.inr).zip xs))))) : wpE Δ Γ (.dsp ks es) E σ G Q := q
theorem w_fld {e : Ex} {C f : Str} (q : wpE Δ Γ e E σ G fun x G1 => fldD C f x G1 Q) : wpE Δ Γ (.fld e C f) E σ G Q := q
theorem w_mth {C m : Str} {g : Nat} {o : Ex} {es : Exs} {sp : Spec} (h : Δ g = some sp) (q : wpE Δ Γ o E σ G fun x G1 => mthD C m x G1 ∧ wpEs Δ Γ es E σ G1 fun xs G2 => sp (x :: xs) G2 Q noX) : wpE Δ Γ (.mth C m g o es) E σ G Q := by simp only [wpE, h]; exact q
theorem w_mk {C : Str} {g : Nat} {es : Exs} {sp : Spec} (h : Δ g = some sp) (q : wpEs Δ Γ es E σ G fun xs G1 => ∀ p, G1 p = none → sp (.ref p :: xs) (gup G1 p (.ins C [])) (fun v G2 => v = .non ∧ Q (.ref p) G2) noX) : wpE Δ Γ (.mk C g es) E σ G Q := by simp only [wpE, h]; exact q
theorem w_comp {e : Ex} {t : Tg} {it : It} {ifs : Exs} {own : List (Str × Nat)} (hw : wipeD σ (own.map (·.2)) = σ') (q : wpI Δ Γ it E σ G fun W G1 => ∀ p, G1 p = none → compW W p (fun d G R => wpG Δ Γ t d noX σ' G fun σ2 G2 => wpF Δ Γ ifs noX σ2 G2 fun b G3 =>
      if b = true then wpE Δ Γ e noX σ2 G3 fun y G4 => R (some y) G4 else R none G3) G1 Q) : wpE Δ Γ (.comp e t it ifs own) E σ G Q := by subst hw; exact q
theorem w_nil {R : List D → GH → Prop} (q : R [] G) : wpEs Δ Γ .nil E σ G R := q
theorem w_cons {e : Ex} {es : Exs} {R : List D → GH → Prop} (q : wpE Δ Γ e E σ G fun x G1 => wpEs Δ Γ es E σ G1 fun xs G2 => R (x :: xs) G2) : wpEs Δ Γ (.cons e es) E σ G R := q
theorem w_ono {R : Option Int → GH → Prop} (q : R none G) : wpO Δ Γ .none E σ G R := q
theorem w_oso {e : Ex} {R : Option Int → GH → Prop} (q : wpE Δ Γ e E σ G fun x G1 => inO x fun o => R o G1) : wpO Δ Γ (.some e) E σ G R := q
theorem w_b1 {op : BoolOp} {e : Ex} (q : wpE Δ Γ e E σ G Q) : wpB Δ Γ op (.cons e .nil) E σ G Q := q
theorem w_bA {e e2 : Ex} {r : Exs} (q : wpE Δ Γ e E σ G fun x G1 => boD x fun c => if c = true then wpB Δ Γ .And (.cons e2 r) E σ G1 Q else Q (.bl false) G1) : wpB Δ Γ .And (.cons e (.cons e2 r)) E σ G Q := q
theorem w_bO {e e2 : Ex} {r : Exs} (q : wpE Δ Γ e E σ G fun x G1 => boD x fun c => if c = true then Q (.bl true) G1 else wpB Δ Γ .Or (.cons e2 r) E σ G1 Q) : wpB Δ Γ .Or (.cons e (.cons e2 r)) E σ G Q := q
/-! ### tests -/
variable {R : Bool → GH → Prop}
theorem t_nt {a : Ex} (q : wpT Δ Γ a E σ G fun c G1 => R (!c) G1) : wpT Δ Γ (.nt a) E σ G R := q
theorem t_boo {op : BoolOp} {es : Exs} (q : wpTs Δ Γ op es E σ G R) : wpT Δ Γ (.boo op es) E σ G R := q
theorem t_cmp {op : CmpOp} {a b : Ex} (q : wpE Δ Γ a E σ G fun x G1 => wpE Δ Γ b E σ G1 fun y G2 => cmpD op x y G2 fun z G3 => boD z fun k => R k G3) : wpT Δ Γ (.cmp op a b) E σ G R := q
theorem t_cmp2 {op op' : CmpOp} {a b c : Ex} (q : wpE Δ Γ a E σ G fun x G1 => wpE Δ Γ b E σ G1 fun y G2 => cmpD op x y G2 fun z G3 => boD z fun k =>
    if k = true then wpE Δ Γ c E σ G3 fun w G4 => cmpD op' y w G4 fun z' G5 => boD z' fun k' => R k' G5 else R false G3) : wpT Δ Γ (.cmp2 op op' a b c) E σ G R := q
theorem t_var {i : Nat} {v : D} (h : σ[i]? = some (some v)) (q : truD v G fun b => R b G) : wpT Δ Γ (.var i) E σ G R := by simp only [wpT, h]; exact q
theorem t_bl {b : Bool} (q : R b G) : wpT Δ Γ (.bl b) E σ G R := q
theorem t_ix {a i : Ex} (q : wpE Δ Γ a E σ G fun x G1 => wpE Δ Γ i E σ G1 fun y G2 => ixD x y G2 fun z G3 => truD z G3 fun b => R b G3) : wpT Δ Γ (.ix a i) E σ G R := q
theorem t_call {f : Nat} {es : Exs} {sp : Spec} (h : Δ f = some sp) (q : wpEs Δ Γ es E σ G fun xs G1 => sp xs G1 (fun z G3 => truD z G3 fun b => R b G3) E) : wpT Δ Γ (.call f es) E σ G R := by simp only [wpT, h]; exact q
theorem t_isi {a : Ex} {T : String} (q : wpE Δ Γ a E σ G fun x G1 => isiD x T G1 fun b => R b G1) : wpT Δ Γ (.isi a T) E σ G R := q
theorem t_isx {i : Nat} {ks : List Nat} {tp : Bool} {a : Addr} {d : Option Addr} {ns : List Str} {ds : List D} {j : Nat} (h : σ[i]? = some (some (.xc a d ns ds))) (hx : Γ.x = some (a, j, d)) (q : R (ks.any (subC j)) G) : wpT Δ Γ (.isx i ks tp) E σ G R := by
  simp only [wpT, h, hx]; exact ⟨trivial, trivial, q⟩
theorem t_mth {C m : Str} {g : Nat} {o : Ex} {es : Exs} {sp : Spec} (h : Δ g = some sp) (q : wpE Δ Γ o E σ G fun x G1 => mthD C m x G1 ∧ wpEs Δ Γ es E σ G1 fun xs G2 => sp (x :: xs) G2 (fun z G3 => truD z G3 fun b => R b G3) noX) : wpT Δ Γ (.mth C m g o es) E σ G R := by simp only [wpT, h]; exact q
theorem t_1 {op : BoolOp} {e : Ex} (q : wpT Δ Γ e E σ G R) : wpTs Δ Γ op (.cons e .nil) E σ G R := q
theorem t_A {e e2 : Ex} {r : Exs} (q : wpT Δ Γ e E σ G fun c G1 => if c = true then wpTs Δ Γ .And (.cons e2 r) E σ G1 R else R false G1) : wpTs Δ Γ .And (.cons e (.cons e2 r)) E σ G R := q
theorem t_O {e e2 : Ex} {r : Exs} (q : wpT Δ Γ e E σ G fun c G1 => if c = true then R true G1 else wpTs Δ Γ .Or (.cons e2 r) E σ G1 R) : wpTs Δ Γ .Or (.cons e (.cons e2 r)) E σ G R := q
theorem f_nil (q : R true G) : wpF Δ Γ .nil E σ G R := q
theorem f_one {e : Ex} (q : wpT Δ Γ e E σ G R) : wpF Δ Γ (.cons e .nil) E σ G R := q
/-! ### walks, targets -/
variable {Z : Wk → GH → Prop}
theorem i_val {e : Ex} (q : wpE Δ Γ e E σ G fun x G1 => walkD x G1 fun W => Z W G1) : wpI Δ Γ (.val e) E σ G Z := q
def rngD (x : D) (G : GH) (Z : Wk → GH → Prop) : Prop := match x with | .int j => -(2 ^ 62) ≤ j ∧ j < 2 ^ 62 ∧ Z ⟨rangeD 0 j, fun _ => True⟩ G | _ => False
def rngD2 (x y : D) (G : GH) (Z : Wk → GH → Prop) : Prop := match x, y with
    | .int i, .int j => (-(2 ^ 62) ≤ i ∧ i < 2 ^ 62 ∧ -(2 ^ 62) ≤ j ∧ j < 2 ^ 62) ∧ Z ⟨rangeD i j, fun _ => True⟩ G
    | _, _ => False
def enuD (x : D) (G : GH) (Z : Wk → GH → Prop) : Prop := match x with | .tup xs => Z ⟨enumD 0 xs, fun _ => True⟩ G | _ => False
def revD (x : D) (G : GH) (Z : Wk → GH → Prop) : Prop := match x with | .tup xs => Z ⟨xs.reverse, fun _ => True⟩ G | _ => False
theorem i_rn {a : Ex} (q : wpE Δ Γ a E σ G fun x G1 => rngD x G1 Z) : wpI Δ Γ (.rng a) E σ G Z := q
theorem i_rn2 {a b : Ex} (q : wpE Δ Γ a E σ G fun x G1 => wpE Δ Γ b E σ G1 fun y G2 => rngD2 x y G2 Z) : wpI Δ Γ (.rng2 a b) E σ G Z := q
theorem i_enu {a : Ex} (q : wpE Δ Γ a E σ G fun x G1 => enuD x G1 Z) : wpI Δ Γ (.enu a) E σ G Z := q
theorem i_rev {a : Ex} (q : wpE Δ Γ a E σ G fun x G1 => revD x G1 Z) : wpI Δ Γ (.rev a) E σ G Z := q
theorem v_rng {j : Int} (h : -(2 ^ 62) ≤ j ∧ j < 2 ^ 62) (q : Z ⟨rangeD 0 j, fun _ => True⟩ G) : rngD (.int j) G Z := ⟨h.1, h.2, q⟩
theorem v_rng2 {i j : Int} (h : -(2 ^ 62) ≤ i ∧ i < 2 ^ 62 ∧ -(2 ^ 62) ≤ j ∧ j < 2 ^ 62) (q : Z ⟨rangeD i j, fun _ => True⟩ G) : rngD2 (.int i) (.int j) G Z := ⟨h, q⟩
theorem v_enu {xs : List D} (q : Z ⟨enumD 0 xs, fun _ => True⟩ G) : enuD (.tup xs) G Z := q
theorem v_rev {xs : List D} (q : Z ⟨xs.reverse, fun _ => True⟩ G) : revD (.tup xs) G Z := q
theorem v_tup {xs : List D} {P : Wk → Prop} (q : P ⟨xs, fun _ => True⟩) : walkD (.tup xs) G P := q
theorem v_lst {a : Addr} {xs : List D} {P : Wk → Prop} (h : G a = some (.lst xs)) (q : P ⟨xs, fun G => G a = some (.lst xs)⟩) : walkD (.ref a) G P := by simp only [walkD, h]; exact q
theorem v_str {s : Str} {P : Wk → Prop} (q : P ⟨charsD s, fun _ => True⟩) : walkD (.str s) G P := q
variable {S : SD → GH → Prop} {d : D}
theorem g_name {i : Nat} (h : σ.set i (some d) = σ') (q : S σ' G) : wpG Δ Γ (.name i) d E σ G S := by subst h; exact q
theorem g_tup {ts : Tgs} {ds : List D} (h : ds.length = ts.len) (q : wpGs Δ Γ ts ds E σ G S) : wpG Δ Γ (.tup ts) (.tup ds) E σ G S := ⟨h, q⟩
theorem g_sub {o i : Ex} (q : wpE Δ Γ o E σ G fun x G1 => wpE Δ Γ i E σ G1 fun y G2 => setD x y d G2 fun G3 => S σ G3) : wpG Δ Γ (.sub o i) d E σ G S := q
theorem g_att {o : Ex} {C f : Str} (q : wpE Δ Γ o E σ G fun x G1 => attD C f x d G1 fun G3 => S σ G3) : wpG Δ Γ (.att o C f) d E σ G S := q
theorem g_nil (q : S σ G) : wpGs Δ Γ .nil [] E σ G S := q
theorem g_cons {t : Tg} {ts : Tgs} {ds : List D} (q : wpG Δ Γ t d E σ G fun σ1 G1 => wpGs Δ Γ ts ds noX σ1 G1 S) : wpGs Δ Γ (.cons t ts) (d :: ds) E σ G S := q
/-! ### statements -/
variable {nx bk ct : SD → GH → Prop} {rt : QD} {ex : Exn → SD → GH → Prop}
theorem s_exp {e : Ex} (q : wpE Δ Γ e (fun x => ex x σ) σ G fun _ G1 => nx σ G1) : wpS Δ Γ (.exp e) ⟨nx, rt, bk, ct, ex⟩ σ G := q
theorem s_ret {e : Ex} (q : wpE Δ Γ e (fun x => ex x σ) σ G rt) : wpS Δ Γ (.ret e) ⟨nx, rt, bk, ct, ex⟩ σ G := q
theorem s_retN (q : rt .non G) : wpS Δ Γ .retN ⟨nx, rt, bk, ct, ex⟩ σ G := q
theorem s_rai0 {c : Nat} (q : ex ⟨c, [], []⟩ σ G) : wpS Δ Γ (.rai0 c) ⟨nx, rt, bk, ct, ex⟩ σ G := q
theorem s_rai {c : Nat} {es : Exs} (q : wpEs Δ Γ es (fun x => ex x σ) σ G fun xs G1 => ex ⟨c, fieldsOf c, xs⟩ σ G1) : wpS Δ Γ (.rai c es) ⟨nx, rt, bk, ct, ex⟩ σ G := q
theorem s_asg {t : Tg} {e : Ex} (q : wpE Δ Γ e (fun x => ex x σ) σ G fun d G1 => wpG Δ Γ t d (fun x => ex x σ) σ G1 nx) : wpS Δ Γ (.asg t e) ⟨nx, rt, bk, ct, ex⟩ σ G := q
/-- behind x = [..] -/
def ascD (i : Nat) (σ : SD) (nx : SD → GH → Prop) : QD := fun d G => nx (σ.set i (some d)) G
theorem s_asc {i : Nat} {e : Ex} (q : wpE Δ Γ e (fun x => ex x σ) σ G (ascD i σ nx)) : wpS Δ Γ (.asc i e) ⟨nx, rt, bk, ct, ex⟩ σ G := q
theorem s_ascD {i : Nat} (h : σ.set i (some d) = σ') (q : nx σ' G) : ascD i σ nx d G := by subst h; exact q
theorem s_ifs {t : Ex} {a b : Sms} (q : wpT Δ Γ t (fun x => ex x σ) σ G fun c G1 => if c = true then wpSs Δ Γ a ⟨nx, rt, bk, ct, ex⟩ σ G1 else wpSs Δ Γ b ⟨nx, rt, bk, ct, ex⟩ σ G1) : wpS Δ Γ (.ifs t a b) ⟨nx, rt, bk, ct, ex⟩ σ G := q
theorem s_for {t : Tg} {it : It} {body : Sms} (q : wpI Δ Γ it (fun x => ex x σ) σ G fun W G1 => forW W (fun d σ G N => wpG Δ Γ t d (fun x => ex x σ) σ G fun σ2 G2 => wpSs Δ Γ body ⟨N, rt, nx, N, ex⟩ σ2 G2) σ G1 nx) : wpS Δ Γ (.fors t it body) ⟨nx, rt, bk, ct, ex⟩ σ G := q
theorem s_whl {t : Ex} {body : Sms} (q : whlW (fun σ G N X => wpT Δ Γ t (fun x => ex x σ) σ G fun c G1 => if c = true then wpSs Δ Γ body ⟨N, rt, nx, N, ex⟩ σ G1 else X σ G1) σ G nx) : wpS Δ Γ (.whl t body) ⟨nx, rt, bk, ct, ex⟩ σ G := q
theorem s_pas (q : nx σ G) : wpS Δ Γ .pas ⟨nx, rt, bk, ct, ex⟩ σ G := q
theorem s_brk (q : bk σ G) : wpS Δ Γ .brk ⟨nx, rt, bk, ct, ex⟩ σ G := q
theorem s_cnt (q : ct σ G) : wpS Δ Γ .cnt ⟨nx, rt, bk, ct, ex⟩ σ G := q
theorem s_nil (q : nx σ G) : wpSs Δ Γ .nil ⟨nx, rt, bk, ct, ex⟩ σ G := q
theorem s_wk {r : Sms} {K : EndD} (q : wpSs Δ Γ r K σ G) : wk (fun G' => wpSs Δ Γ r K σ G') G := wk.of q
theorem s_cons {s : Sm} {r : Sms} (q : wpS Δ Γ s ⟨fun σ' => wk fun G' => wpSs Δ Γ r ⟨nx, rt, bk, ct, ex⟩ σ' G', rt, bk, ct, ex⟩ σ G) : wpSs Δ Γ (.cons s r) ⟨nx, rt, bk, ct, ex⟩ σ G := q
/-! ### by values -/
theorem n_bl {b : Bool} (q : Q (.bl (!b)) G) : ntD (.bl b) G Q := q
theorem b_bl {b : Bool} {P : Bool → Prop} (q : P b) : boD (.bl b) P := q
theorem in_i {i : Int} {P : Option Int → Prop} (q : P (some i)) : inO (.int i) P := q
theorem neg_i {i : Int} (q : Q (.int (-i)) G) : negD (.int i) G Q := q
theorem o_add {i j : Int} (q : Q (.int (i + j)) G) : opD .Add (.int i) (.int j) G Q := q
theorem o_sub {i j : Int} (q : Q (.int (i - j)) G) : opD .Sub (.int i) (.int j) G Q := q
theorem o_mul {i j : Int} (h : MulOk i j) (q : Q (.int (i * j)) G) : opD .Mult (.int i) (.int j) G Q := ⟨h, q⟩
theorem o_fdiv {i j : Int} (h : CDivW i j) (q : Q (.int (i / j)) G) : opD .FloorDiv (.int i) (.int j) G Q := ⟨h, q⟩
theorem o_mod {i j : Int} (h : 0 < j) (q : Q (.int (i % j)) G) : opD .Mod (.int i) (.int j) G Q := ⟨h, q⟩
theorem o_pow {i j : Int} (h : CPow i j) (q : Q (.int (i ^ j.toNat)) G) : opD .Pow (.int i) (.int j) G Q := ⟨h, q⟩
theorem o_cat {a b : List D} (h : a.length + b.length ≤ sizeLine) (q : Q (.tup (a ++ b)) G) : opD .Add (.tup a) (.tup b) G Q := ⟨h, q⟩
theorem o_rep {xs : List D} {k : Int} (h : xs ≠ [] ∧ 0 ≤ k ∧ k ≤ 1000 ∧ xs.length ≤ 1000) (q : Q (.tup (List.replicate k.toNat xs).flatten) G) : opD .Mult (.tup xs) (.int k) G Q := ⟨h.1, h.2.1, h.2.2.1, h.2.2.2, q⟩
theorem o_adds {a b : Str} (h : a.length + b.length ≤ sizeLine) (q : Q (.str (a ++ b)) G) : opD .Add (.str a) (.str b) G Q := ⟨h, q⟩
theorem x_dk {a : Addr} {kvs : List (Key × D)} {y : D} {k : Key} {v : D} (h : G a = some (.dk kvs)) (hk : keyD y = some k) (hv : valD kvs k = some v) (q : Q v G) : ixD (.ref a) y G Q := by
  simp only [ixD, itemsD, h, ixE, hk, hv]; exact q
theorem st_dk {a : Addr} {kvs : List (Key × D)} {y v : D} {k : Key} {P : GH → Prop} (h : G a = some (.dk kvs)) (hk : keyD y = some k) (hl : kvs.length < sizeLine) (q : P (gup G a (.dk (putD kvs k v)))) : setD (.ref a) y v G P := by
  simp only [setD, h, hk]; exact ⟨hl, q⟩
theorem b_int {i : Int} (q : Q (.int i) G) : bfD .int [.int i] G Q := q
theorem b_intb {b : Bool} (q : Q (.int (if b then 1 else 0)) G) : bfD .int [.bl b] G Q := q
theorem b_dict {a : Addr} {kvs : List (Key × D)} (h : G a = some (.dk kvs)) (q : ∀ p, G p = none → Q (.ref p) (gup G p (.dk kvs))) : bfD .dict [.ref a] G Q := by simp only [bfD, dictD, h]; exact q
theorem b_listD {a : Addr} {kvs : List (Key × D)} (h : G a = some (.dk kvs)) (q : newL (kvs.map fun p => keyV p.1) G Q) : bfD .list [.ref a] G Q := by simp only [bfD, listD, itemsD, h]; exact q
theorem m_get {a : Addr} {kvs : List (Key × D)} {y z : D} {k : Key} (h : G a = some (.dk kvs)) (hk : keyD y = some k) (q : Q ((valD kvs k).getD z) G) : bmD .get (.ref a) [y, z] G Q := by simp only [bmD, getD2, h, hk]; exact q
theorem m_thd {C m : Str} {a : Addr} {fs : List (Str × D)} {P : Prop} (h : G a = some (.ins C fs)) (hn : fs.lookup m = none) (q : P) : mthD C m (.ref a) G ∧ P := by
  refine ⟨?_, q⟩; simp only [mthD, h]; exact ⟨trivial, hn⟩
theorem f_get {C f : Str} {a : Addr} {fs : List (Str × D)} {v : D} (h : G a = some (.ins C fs)) (hv : fs.lookup f = some v) (q : Q v G) : fldD C f (.ref a) G Q := by
  simp only [fldD, h, hv]; exact ⟨trivial, q⟩
theorem f_att {C f : Str} {a : Addr} {fs : List (Str × D)} {v : D} {P : GH → Prop} (h : G a = some (.ins C fs)) (hl : fs.length < 1000) (q : P (gup G a (.ins C (putFD f v fs)))) : attD C f (.ref a) v G P := by
  simp only [attD, h]; exact ⟨trivial, hl, q⟩
theorem c_lt {i j : Int} (q : Q (.bl (decide (i < j))) G) : cmpD .Lt (.int i) (.int j) G Q := q
theorem c_le {i j : Int} (q : Q (.bl (decide (i ≤ j))) G) : cmpD .LtE (.int i) (.int j) G Q := q
theorem c_gt {i j : Int} (q : Q (.bl (decide (j < i))) G) : cmpD .Gt (.int i) (.int j) G Q := q
theorem c_ge {i j : Int} (q : Q (.bl (decide (j ≤ i))) G) : cmpD .GtE (.int i) (.int j) G Q := q
theorem c_is {x : D} (q : Q (.bl x.isNon) G) : cmpD .Is x .non G Q := q
theorem c_isn {x : D} (q : Q (.bl (!x.isNon)) G) : cmpD .IsNot x .non G Q := q
theorem eqX_n {x y : D} {k : Bool → Prop} (h : dk2 x y G = none) : eqX x y G k = eqD x y G k := by unfold eqX; rw [h]
theorem eqX_lst {a : Addr} {y : D} {xs : List D} {k : Bool → Prop} (h : G a = some (.lst xs)) : eqX (.ref a) y G k = eqD (.ref a) y G k := by
  unfold eqX
  have : dk2 (.ref a) y G = none := by unfold dk2; cases y <;> simp [h]
  rw [this]
theorem c_eq_i {i j : Int} (q : Q (.bl (decide (i = j))) G) : cmpD .Eq (.int i) (.int j) G Q := by simp only [cmpD]; rw [eqX_n rfl]; simp only [eqD_int]; exact q
theorem c_ne_i {i j : Int} (q : Q (.bl (!decide (i = j))) G) : cmpD .NotEq (.int i) (.int j) G Q := by simp only [cmpD]; rw [eqX_n rfl]; simp only [eqD_int]; exact q
theorem c_eq_t {xs ys : List Int} (q : Q (.bl (decide (xs = ys))) G) : cmpD .Eq (.tup (xs.map .int)) (.tup (ys.map .int)) G Q := by simp only [cmpD]; rw [eqX_n rfl]; simp only [eqD_ints]; exact q
theorem c_ne_t {xs ys : List Int} (q : Q (.bl (!decide (xs = ys))) G) : cmpD .NotEq (.tup (xs.map .int)) (.tup (ys.map .int)) G Q := by simp only [cmpD]; rw [eqX_n rfl]; simp only [eqD_ints]; exact q
theorem x_tup {xs : List D} {i : Int} {v : D} (h : atI xs i = some v) (q : Q v G) : ixD (.tup xs) (.int i) G Q := by simp only [ixD, itemsD, h]; exact q
theorem x_lst {a : Addr} {xs : List D} {i : Int} {v : D} (ha : G a = some (.lst xs)) (h : atI xs i = some v) (q : Q v G) : ixD (.ref a) (.int i) G Q := by simp only [ixD, itemsD, ha, h]; exact q
theorem atI_getD {xs : List Int} {i : Int} (h : 0 ≤ i ∧ i < xs.length) : atI (xs.map D.int) i = some (.int (xs.getD i.toNat 0)) := by
  rw [atI_int h.1 h.2]
  rw [List.getD_eq_getElem?_getD, List.getElem?_eq_getElem (by omega)]
  rfl
theorem atI_any {xs : List D} {i : Int} (h : 0 ≤ i ∧ i < xs.length) : atI xs i = some (xs.getD i.toNat .non) := Dl.unQ (by
 simp (disch := with_unfolding_all
  refine @id _ ?_
  obtain ⟨n, rfl⟩ : ∃ n : Nat, i = n := ⟨i.toNat, by omega⟩
  rw [List.getD_eq_getElem?_getD]
  refine atI_nat ?_
  have : n < xs.length := by omega
  simp [this]
 ) only [↓Dl.qTrue])
theorem x_ti {xs : List Int} {i : Int} (h : 0 ≤ i ∧ i < xs.length) (q : Q (.int (xs.getD i.toNat 0)) G) : ixD (.tup (xs.map .int)) (.int i) G Q := x_tup (atI_getD h) q
theorem x_li {a : Addr} {xs : List Int} {i : Int} (ha : G a = some (.lst (xs.map .int))) (h : 0 ≤ i ∧ i < xs.length) (q : Q (.int (xs.getD i.toNat 0)) G) : ixD (.ref a) (.int i) G Q := x_lst ha (atI_getD h) q
theorem x_tb {xs : List D} {i : Int} (h : 0 ≤ i ∧ i < xs.length) (q : Q (xs.getD i.toNat .non) G) : ixD (.tup xs) (.int i) G Q := x_tup (atI_any h) q
theorem x_lb {a : Addr} {xs : List D} {i : Int} (ha : G a = some (.lst xs)) (h : 0 ≤ i ∧ i < xs.length) (q : Q (xs.getD i.toNat .non) G) : ixD (.ref a) (.int i) G Q := x_lst ha (atI_any h) q
theorem st_b {a : Addr} {xs : List D} {k : Int} {v : D} {P : GH → Prop} (h : G a = some (.lst xs)) (hk : 0 ≤ k ∧ k < xs.length) (q : P (gup G a (.lst (xs.set k.toNat v)))) : setD (.ref a) (.int k) v G P := by
  have : ixN xs.length k = some k.toNat := ixN_int hk.1 hk.2
  simp only [setD, h, this]; exact q
theorem sl_t {xs : List D} {lo hi : Option Int} (q : Q (.tup (cutD xs lo hi)) G) : slD (.tup xs) lo hi G Q := q
theorem sl_l {a : Addr} {xs : List D} {lo hi : Option Int} (h : G a = some (.lst xs)) (q : newL (cutD xs lo hi) G Q) : slD (.ref a) lo hi G Q := by simp only [slD, h]; exact q
theorem st_l {a : Addr} {xs : List D} {k : Int} {j : Nat} {v : D} {P : GH → Prop} (h : G a = some (.lst xs)) (hj : ixN xs.length k = some j) (q : P (gup G a (.lst (xs.set j v)))) : setD (.ref a) (.int k) v G P := by simp only [setD, h, hj]; exact q
theorem b_lenT {xs : List D} (q : Q (.int xs.length) G) : bfD .len [.tup xs] G Q := q
theorem b_lenL {a : Addr} {xs : List D} (h : G a = some (.lst xs)) (q : Q (.int xs.length) G) : bfD .len [.ref a] G Q := by simp only [bfD, lenD, itemsD, h]; exact q
theorem b_listT {xs : List D} (q : newL xs G Q) : bfD .list [.tup xs] G Q := q
theorem b_listR {xs : List D} (q : newL xs G Q) : bfD .list [.rol xs] G Q := q
theorem b_listL {a : Addr} {xs : List D} (h : G a = some (.lst xs)) (q : newL xs G Q) : bfD .list [.ref a] G Q := by simp only [bfD, listD, itemsD, h]; exact q
theorem v_rol {xs : List D} {P : Wk → Prop} (q : P ⟨xs, fun _ => True⟩) : walkD (.rol xs) G P := q
theorem tr_l {a : Addr} {xs : List D} {P : Bool → Prop} (h : G a = some (.lst xs)) (q : P (!xs.isEmpty)) : truD (.ref a) G P := by simp only [truD, h]; exact q
theorem c_eq_nil {a b : Addr} {xs : List Int} (h : G a = some (.lst (xs.map .int))) (h2 : G b = some (.lst [])) (q : Q (.bl (decide (xs = []))) G) : cmpD .Eq (.ref a) (.ref b) G Q := by simp only [cmpD]; rw [eqX_lst h, eqD_lnil h h2]; exact q
theorem c_ne_nil {a b : Addr} {xs : List Int} (h : G a = some (.lst (xs.map .int))) (h2 : G b = some (.lst [])) (q : Q (.bl (!decide (xs = []))) G) : cmpD .NotEq (.ref a) (.ref b) G Q := by simp only [cmpD]; rw [eqX_lst h, eqD_lnil h h2]; exact q
theorem b_max {i j : Int} (q : Q (.int (if j > i then j else i)) G) : bfD .max [.int i, .int j] G Q := q
theorem b_min {i j : Int} (q : Q (.int (if j < i then j else i)) G) : bfD .min [.int i, .int j] G Q := q
theorem b_tupT {xs : List D} (q : Q (.tup xs) G) : bfD .tuple [.tup xs] G Q := q
theorem b_tupL {a : Addr} {xs : List D} (h : G a = some (.lst xs)) (q : Q (.tup xs) G) : bfD .tuple [.ref a] G Q := by simp only [bfD, tupleD, h]; exact q
theorem b_sortI {a : Addr} {ns : List Int} (h : G a = some (.lst (ns.map .int))) (hn : ns.length < 64) (q : ∀ ns' : List Int, ns'.Perm ns → ns'.Pairwise (· ≤ ·) → newL (ns'.map .int) G Q) : bfD .sorted [.ref a] G Q := by simp only [bfD, sortedD, h]; exact .inl ⟨ns, rfl, hn, q⟩
theorem o_addL {a b : Addr} {xs ys : List D} (h : G a = some (.lst xs)) (h2 : G b = some (.lst ys)) (hn : xs.length + ys.length ≤ sizeLine) (q : newL (xs ++ ys) G Q) : opD .Add (.ref a) (.ref b) G Q := by simp only [opD, h, h2]; exact ⟨hn, q⟩
theorem inV_ints (i : Int) : ∀ ns : List Int, inV (vOf (.int i)) ((ns.map D.int).map vOf) = decide (i ∈ ns)
  | [] => by simp [inV]
  | n :: ns => by
    have ih := inV_ints i ns
    show (eqV (vOf (.int n)) (vOf (.int i)) || inV (vOf (.int i)) ((ns.map D.int).map vOf)) = _
    rw [ih]
    show ((n == i) || decide (i ∈ ns)) = decide (i ∈ n :: ns)
    by_cases h : n = i
    · simp [h]
    · have : ¬ i = n := fun e => h e.symm
      simp [h, this]
theorem inV_strs (i : Str) : ∀ ns : List Str, inV (vOf (.str i)) ((ns.map D.str).map vOf) = decide (i ∈ ns)
  | [] => by simp [inV]
  | n :: ns => by
    have ih := inV_strs i ns
    show (eqV (vOf (.str n)) (vOf (.str i)) || inV (vOf (.str i)) ((ns.map D.str).map vOf)) = _
    rw [ih]
    show ((n == i) || decide (i ∈ ns)) = decide (i ∈ n :: ns)
    by_cases h : n = i
    · simp [h]
    · have : ¬ i = n := fun e => h e.symm
      simp [h, this]
theorem flat_ints (ns : List Int) : (ns.map D.int).all flatD = true := by simp [flatD]
theorem flat_strs (ns : List Str) : (ns.map D.str).all flatD = true := by simp [flatD]
theorem c_in_l {a : Addr} {ns : List Int} {i : Int} (h : G a = some (.lst (ns.map .int))) (q : Q (.bl (decide (i ∈ ns))) G) : cmpD .In (.int i) (.ref a) G Q := by
  simp only [cmpD, inD, itemsD, h, flat_ints, inV_ints]
  exact ⟨rfl, trivial, q⟩
theorem c_in_t {ns : List Int} {i : Int} (q : Q (.bl (decide (i ∈ ns))) G) : cmpD .In (.int i) (.tup (ns.map .int)) G Q := by
  simp only [cmpD, inD, itemsD, flat_ints, inV_ints]
  exact ⟨rfl, trivial, q⟩
theorem c_in_s {ns : List Str} {i : Str} (q : Q (.bl (decide (i ∈ ns))) G) : cmpD .In (.str i) (.tup (ns.map .str)) G Q := by
  simp only [cmpD, inD, itemsD, flat_strs, inV_strs]
  exact ⟨rfl, trivial, q⟩
theorem c_eq_s {i j : Str} (hi : PyData.strOk i = true) (hj : PyData.strOk j = true) (q : Q (.bl (decide (i = j))) G) : cmpD .Eq (.str i) (.str j) G Q := by simp only [cmpD]; rw [eqX_n rfl]; simp only [eqD_str hi hj]; exact q
theorem c_ne_s {i j : Str} (hi : PyData.strOk i = true) (hj : PyData.strOk j = true) (q : Q (.bl (!decide (i = j))) G) : cmpD .NotEq (.str i) (.str j) G Q := by simp only [cmpD]; rw [eqX_n rfl]; simp only [eqD_str hi hj]; exact q
theorem c_eq_lit {i j : Str} {b : Bool} (hi : PyData.strOk i = true) (hj : PyData.strOk j = true) (hb : decide (i = j) = b) (q : Q (.bl b) G) : cmpD .Eq (.str i) (.str j) G Q := c_eq_s hi hj (by rw [hb]; exact q)
theorem c_ne_lit {i j : Str} {b : Bool} (hi : PyData.strOk i = true) (hj : PyData.strOk j = true) (hb : decide (i = j) = b) (q : Q (.bl (!b)) G) : cmpD .NotEq (.str i) (.str j) G Q := c_ne_s hi hj (by rw [hb]; exact q)
theorem c_eq_b {i j : Bool} (q : Q (.bl (decide (i = j))) G) : cmpD .Eq (.bl i) (.bl j) G Q := by simp only [cmpD]; rw [eqX_n rfl]; simp only [eqD_bl]; exact q
theorem c_ne_b {i j : Bool} (q : Q (.bl (!decide (i = j))) G) : cmpD .NotEq (.bl i) (.bl j) G Q := by simp only [cmpD]; rw [eqX_n rfl]; simp only [eqD_bl]; exact q
theorem m_app {a : Addr} {xs : List D} {y : D} (h : G a = some (.lst xs)) (hn : xs.length < sizeLine) (q : Q .non (gup G a (.lst (xs ++ [y])))) : bmD .append (.ref a) [y] G Q := by simp only [bmD, appD, h]; exact ⟨hn, q⟩
theorem m_pop {a : Addr} {x : D} {xs : List D} (h : G a = some (.lst (x :: xs))) (q : Q x (gup G a (.lst xs))) : bmD .pop (.ref a) [.int 0] G Q := by
  simp only [bmD, popD, h]
  exact ⟨by decide, by decide, 0, x, by simp [seqIndex?], rfl, q⟩
theorem m_popI {a : Addr} {x : Int} {xs : List Int} (h : G a = some (.lst ((x :: xs).map .int))) (q : Q (.int x) (gup G a (.lst (xs.map .int)))) : bmD .pop (.ref a) [.int 0] G Q := m_pop (x := .int x) (xs := xs.map .int) h q
theorem bt_app {a : Addr} {xs : List D} {P : Prop} (h : G a = some (.lst xs)) (q : P) : bmT .append (.ref a) G ∧ P := ⟨by simp [bmT, isLst, h], q⟩
theorem bt_pop {a : Addr} {xs : List D} {P : Prop} (h : G a = some (.lst xs)) (q : P) : bmT .pop (.ref a) G ∧ P := ⟨by simp [bmT, isLst, h], q⟩
theorem bt_cou {a : Addr} {xs : List D} {P : Prop} (h : G a = some (.lst xs)) (q : P) : bmT .count (.ref a) G ∧ P := ⟨by simp [bmT, isLst, h], q⟩
theorem bt_ind {a : Addr} {xs : List D} {P : Prop} (h : G a = some (.lst xs)) (q : P) : bmT .index (.ref a) G ∧ P := ⟨by simp [bmT, isLst, h], q⟩
theorem bt_rev {a : Addr} {xs : List D} {P : Prop} (h : G a = some (.lst xs)) (q : P) : bmT .reverse (.ref a) G ∧ P := ⟨by simp [bmT, isLst, h], q⟩
theorem bt_get {a : Addr} {kvs : List (Key × D)} {P : Prop} (h : G a = some (.dk kvs)) (q : P) : bmT .get (.ref a) G ∧ P := ⟨by simp [bmT, isDct, h], q⟩
theorem tr_bl {b : Bool} {P : Bool → Prop} (q : P b) : truD (.bl b) G P := q
theorem tr_non {P : Bool → Prop} (q : P false) : truD .non G P := q
theorem tr_int {i : Int} {P : Bool → Prop} (q : P (i != 0)) : truD (.int i) G P := q
theorem is_of {x : D} {T t : String} {b : Bool} {P : Bool → Prop} (h : tyD x G = some t) (hb : kitB t T = some b) (q : P b) : isiD x T G P := by simp only [isiD, h, hb]; exact q
theorem is_ib {i : Int} {P : Bool → Prop} (q : P false) : isiD (.int i) "bool" G P := is_of rfl (show kitB "int" "bool" = some false by decide +kernel) q
theorem is_ii {i : Int} {P : Bool → Prop} (q : P true) : isiD (.int i) "int" G P := is_of rfl (show kitB "int" "int" = some true by decide +kernel) q
theorem is_bb {i : Bool} {P : Bool → Prop} (q : P true) : isiD (.bl i) "bool" G P := is_of rfl (show kitB "bool" "bool" = some true by decide +kernel) q
theorem is_tt {xs : List D} {P : Bool → Prop} (q : P true) : isiD (.tup xs) "tuple" G P := is_of rfl (show kitB "tuple" "tuple" = some true by decide +kernel) q
theorem is_ll {a : Addr} {xs : List D} {P : Bool → Prop} (h : G a = some (.lst xs)) (q : P true) : isiD (.ref a) "list" G P := is_of (t := "list") (by simp only [tyD, h]) (show kitB "list" "list" = some true by decide +kernel) q
theorem and_len {xs : List D} {P : Prop} (h : xs.length ≤ 1000) (q : P) : xs.length ≤ sizeLine ∧ P := ⟨by have := sizeLine_eq; omega, q⟩
theorem iteNT {A B : Prop} (h : B) : if (!true) = true then A else B := h
theorem iteNF {A B : Prop} (h : A) : if (!false) = true then A else B := h
theorem iteEq {α : Type} {x : α} {inst : Decidable (x = x)} {A B : Prop} (h : A) : if decide (x = x) = true then A else B := by rw [decide_eq_true rfl]; exact iteT h
theorem iteNe {α : Type} {x : α} {inst : Decidable (x = x)} {A B : Prop} (h : B) : if (!decide (x = x)) = true then A else B := by rw [decide_eq_true rfl]; exact iteF h
theorem ite_d {p : Prop} {inst : Decidable p} {A B : Prop} (h : p → A) (h2 : ¬ p → B) : if decide p = true then A else B := by
  by_cases q : p
  · rw [decide_eq_true q, if_pos rfl]; exact h q
  · rw [decide_eq_false q, if_neg Bool.false_ne_true]; exact h2 q
theorem ite_nd {p : Prop} {inst : Decidable p} {A B : Prop} (h : ¬ p → A) (h2 : p → B) : if (!decide p) = true then A else B := by
  by_cases q : p
  · rw [decide_eq_true q]; exact iteF (h2 q)
  · rw [decide_eq_false q]; exact iteT (h q)
theorem iteD1 {p : Prop} {inst : Decidable p} {A B : Prop} (h : p) (q : A) : if decide p = true then A else B := by rw [decide_eq_true h]; exact iteT q
theorem iteD0 {p : Prop} {inst : Decidable p} {A B : Prop} (h : ¬ p) (q : B) : if decide p = true then A else B := by rw [decide_eq_false h]; exact iteF q
theorem iteN1 {p : Prop} {inst : Decidable p} {A B : Prop} (h : ¬ p) (q : A) : if (!decide p) = true then A else B := by rw [decide_eq_false h]; exact iteT q
theorem iteN0 {p : Prop} {inst : Decidable p} {A B : Prop} (h : p) (q : B) : if (!decide p) = true then A else B := by rw [decide_eq_true h]; exact iteF q
theorem div_ok {i j : Int} (h : 0 < j) (h2 : j ≤ 1000000000000000000) : CDivW i j := wide_div (b := 64) h (by omega) (by decide) (by decide)
theorem pow_ok {i j : Int} (h : 0 ≤ j) (h2 : j ≤ 1000) (h3 : i.natAbs < 2 ^ 64) : CPow i j := ⟨h, by omega, h3⟩
end
/-! ### the goal's head -/
section
variable {Δ : Nat → Option Spec} {Γ : Gam} {E : XD} {σ : SD} {G : GH}
theorem gd_wpSs {s : Sms} {K : EndD} (h : wpSs Δ Γ s K σ G) : wpSs Δ Γ s K σ G := h
theorem gd_wpS {s : Sm} {K : EndD} (h : wpS Δ Γ s K σ G) : wpS Δ Γ s K σ G := h
theorem gd_wpE {e : Ex} {Q : QD} (h : wpE Δ Γ e E σ G Q) : wpE Δ Γ e E σ G Q := h
theorem gd_wpEs {e : Exs} {Q : List D → GH → Prop} (h : wpEs Δ Γ e E σ G Q) : wpEs Δ Γ e E σ G Q := h
theorem gd_wpO {e : Exo} {Q : Option Int → GH → Prop} (h : wpO Δ Γ e E σ G Q) : wpO Δ Γ e E σ G Q := h
theorem gd_wpB {op : BoolOp} {e : Exs} {Q : QD} (h : wpB Δ Γ op e E σ G Q) : wpB Δ Γ op e E σ G Q := h
theorem gd_wpT {e : Ex} {Q : Bool → GH → Prop} (h : wpT Δ Γ e E σ G Q) : wpT Δ Γ e E σ G Q := h
theorem gd_wpTs {op : BoolOp} {e : Exs} {Q : Bool → GH → Prop} (h : wpTs Δ Γ op e E σ G Q) : wpTs Δ Γ op e E σ G Q := h
theorem gd_wpF {e : Exs} {Q : Bool → GH → Prop} (h : wpF Δ Γ e E σ G Q) : wpF Δ Γ e E σ G Q := h
theorem gd_wpI {e : It} {Q : Wk → GH → Prop} (h : wpI Δ Γ e E σ G Q) : wpI Δ Γ e E σ G Q := h
theorem gd_wpG {t : Tg} {d : D} {Q : SD → GH → Prop} (h : wpG Δ Γ t d E σ G Q) : wpG Δ Γ t d E σ G Q := h
theorem gd_wpGs {t : Tgs} {d : List D} {Q : SD → GH → Prop} (h : wpGs Δ Γ t d E σ G Q) : wpGs Δ Γ t d E σ G Q := h
theorem gd_ascD {i : Nat} {nx : SD → GH → Prop} {d : D} (h : ascD i σ nx d G) : ascD i σ nx d G := h
theorem gd_ntD {x : D} {Q : QD} (h : ntD x G Q) : ntD x G Q := h
theorem gd_boD {x : D} {Q : Bool → Prop} (h : boD x Q) : boD x Q := h
theorem gd_inO {x : D} {Q : Option Int → Prop} (h : inO x Q) : inO x Q := h
theorem gd_negD {x : D} {Q : QD} (h : negD x G Q) : negD x G Q := h
theorem gd_opD {op : Operator} {x y : D} {Q : QD} (h : opD op x y G Q) : opD op x y G Q := h
theorem gd_cmpD {op : CmpOp} {x y : D} {Q : QD} (h : cmpD op x y G Q) : cmpD op x y G Q := h
theorem gd_ixD {x y : D} {Q : QD} (h : ixD x y G Q) : ixD x y G Q := h
theorem gd_slD {x : D} {a b : Option Int} {Q : QD} (h : slD x a b G Q) : slD x a b G Q := h
theorem gd_setD {x y z : D} {Q : GH → Prop} (h : setD x y z G Q) : setD x y z G Q := h
theorem gd_bfD {f : Bf} {xs : List D} {Q : QD} (h : bfD f xs G Q) : bfD f xs G Q := h
theorem gd_bmD {m : Bm} {x : D} {xs : List D} {Q : QD} (h : bmD m x xs G Q) : bmD m x xs G Q := h
theorem gd_And {A B : Prop} (h : A ∧ B) : A ∧ B := h
theorem gd_fldD {C f : Str} {x : D} {Q : QD} (h : fldD C f x G Q) : fldD C f x G Q := h
theorem gd_attD {C f : Str} {x v : D} {Q : GH → Prop} (h : attD C f x v G Q) : attD C f x v G Q := h
theorem gd_truD {x : D} {Q : Bool → Prop} (h : truD x G Q) : truD x G Q := h
theorem gd_walkD {x : D} {Q : Wk → Prop} (h : walkD x G Q) : walkD x G Q := h
theorem gd_rngD {x : D} {Q : Wk → GH → Prop} (h : rngD x G Q) : rngD x G Q := h
theorem gd_rngD2 {x y : D} {Q : Wk → GH → Prop} (h : rngD2 x y G Q) : rngD2 x y G Q := h
theorem gd_enuD {x : D} {Q : Wk → GH → Prop} (h : enuD x G Q) : enuD x G Q := h
theorem gd_revD {x : D} {Q : Wk → GH → Prop} (h : revD x G Q) : revD x G Q := h
theorem gd_isiD {x : D} {T : String} {Q : Bool → Prop} (h : isiD x T G Q) : isiD x T G Q := h
theorem gd_ite {c : Prop} {i : Decidable c} {A B : Prop} (h : if c then A else B) : if c then A else B := h
end
end Dl
set_option maxRecDepth 100000
/-! Dl10: the module's defs in a row; the law's end. -/
namespace Dl
open PySem PySem.Spec PyProof.Rows L2
def up (Δ : Nat → Option Spec) (f : Nat) (sp : Spec) : Nat → Option Spec := fun i => if i = f then some sp else Δ i
def zero : Nat → Option Spec := fun _ => none
section
variable {T : Tab} {Γ : Gam} {Δ : Nat → Option Spec} {P : Program} {w : World} {K : PySem.W.Frag} {mg : Str → Option Value} {base : Heap} {k : Nat}
theorem DefsM.start (k : Nat) (rx : ∀ c, T.rxs.contains c = true → ∃ j fa fd ps, j + 1 ≤ k ∧ FnOk P w K mg base (L2.CX P w) j fa fd ps (spIni K (He.ga K (cn c)) (fieldsOf c)) ∧ OexC K (He.ga K (cn c)) ∧ PySem.W.findIn K (.ref (He.ga K (cn c))) "__init__" = some (some (.ref fa)) ∧
    PySem.W.typeIn K (.ref fa) = some (.type "function") ∧ mg (cn c) = some (.ref (He.ga K (cn c))) ∧ Binds K fd ps []) : DefsM T zero k P w K mg base :=
  ⟨fun f x n sp _ h => (by cases h), fun f x n m sp _ h => (by cases h), fun f x n sp _ h => (by cases h), rx⟩
theorem DefsM.zero (h : T.rxs = []) : DefsM T zero 0 P w K mg base := DefsM.start 0 fun c hc => by rw [h] at hc; simp at hc
theorem DefsM.mono (D : DefsM T Δ k P w K mg base) {k' : Nat} (h : k ≤ k') : DefsM T Δ k' P w K mg base :=
  ⟨fun f x n sp a b => (D.fn f x n sp a b).imp fun _ => .imp fun _ => .imp fun _ z => ⟨z.1, z.2.1.mono h, z.2.2⟩, fun g C m n sp a b => (D.mt g C m n sp a b).imp fun _ => .imp fun _ => .imp fun _ z => ⟨z.1, z.2.1.mono h, z.2.2⟩,
   fun g C n sp a b => (D.mkr g C n sp a b).imp fun _ => .imp fun _ => .imp fun _ => .imp fun _ z => ⟨Nat.le_trans z.1 h, z.2⟩, fun c a => (D.rx c a).imp fun _ => .imp fun _ => .imp fun _ => .imp fun _ z => ⟨Nat.le_trans z.1 h, z.2⟩⟩
theorem up_same {f : Nat} {sp : Spec} : up Δ f sp f = some sp := if_pos rfl
theorem up_ne {f g : Nat} {sp : Spec} (h : g ≠ f) : up Δ f sp g = Δ g := if_neg h
/-- a def, a method or a maker more; f is the number of no other -/
theorem DefsM.snoc (D : DefsM T Δ k P w K mg base) {f : Nat} {x : Str} {n : Nat} {sp : Spec} {fa : Addr} {fd : FuncData} {ps : List Str} (F : FnOk P w K mg base (L2.CX P w) (k + 1) fa fd ps (liftSp K n sp))
    (hf : T.fns[f]? = some (x, n)) (hp : ps.length = n) (hm : mg x = some (.ref fa)) (hk : PySem.W.keepIn K (.ref fa) = true) (hb : Binds K fd ps []) (nm : ∀ C m n, T.mts.contains (f, C, m, n) = false) (nk : ∀ C n, T.mks.contains (f, C, n) = false) : DefsM T (up Δ f sp) (k + 1) P w K mg base := Dl.unQ (by
 simp (disch := with_unfolding_all
  refine @id _ ?_
  have D' := D.mono (Nat.le_succ k)
  refine ⟨fun g y m sq hg hs => ?_, fun g C m n sq hg hs => ?_, fun g C n sq hg hs => ?_, D'.rx⟩
  · by_cases e : g = f
    · subst e
      rw [up_same] at hs
      cases hs
      rw [hf] at hg
      cases hg
      exact ⟨fa, fd, ps, hp, F, hm, hk, hb⟩
    · rw [up_ne e] at hs
      exact D'.fn g y m sq hg hs
  · have e : g ≠ f := fun z => by rw [z, nm] at hg; cases hg
    rw [up_ne e] at hs
    exact D'.mt g C m n sq hg hs
  · have e : g ≠ f := fun z => by rw [z, nk] at hg; cases hg
    rw [up_ne e] at hs
    exact D'.mkr g C n sq hg hs
 ) only [↓Dl.qTrue])
theorem DefsM.snocM (D : DefsM T Δ k P w K mg base) {f : Nat} {C m : Str} {n : Nat} {sp : Spec} {fa : Addr} {fd : FuncData} {ps : List Str} (F : FnOk P w K mg base (L2.CX P w) (k + 1) fa fd ps (liftSp K n sp))
    (hf : ∀ C' m' n', T.mts.contains (f, C', m', n') = true → C' = C ∧ m' = m ∧ n' = n) (hp : ps.length = n) (hc : Cls K (He.ga K C)) (hm : Meth K (He.ga K C) m fa) (hb : Binds K fd ps []) (nm : ∀ x n, T.fns[f]? = some (x, n) → False) (nk : ∀ C n, T.mks.contains (f, C, n) = false) : DefsM T (up Δ f sp) (k + 1) P w K mg base := Dl.unQ (by
 simp (disch := with_unfolding_all
  refine @id _ ?_
  have D' := D.mono (Nat.le_succ k)
  refine ⟨fun g y m sq hg hs => ?_, fun g C m n sq hg hs => ?_, fun g C n sq hg hs => ?_, D'.rx⟩
  · have e : g ≠ f := fun z => by rw [z] at hg; exact nm _ _ hg
    rw [up_ne e] at hs
    exact D'.fn g y m sq hg hs
  · by_cases e : g = f
    · subst e
      rw [up_same] at hs
      cases hs
      obtain ⟨rfl, rfl, rfl⟩ := hf _ _ _ hg
      exact ⟨fa, fd, ps, hp, F, hc, hm, hb⟩
    · rw [up_ne e] at hs
      exact D'.mt g C m n sq hg hs
  · have e : g ≠ f := fun z => by rw [z, nk] at hg; cases hg
    rw [up_ne e] at hs
    exact D'.mkr g C n sq hg hs
 ) only [↓Dl.qTrue])
theorem DefsM.snocK (D : DefsM T Δ k P w K mg base) {f : Nat} {C : Str} {n : Nat} {sp : Spec} {fa : Addr} {fd : FuncData} {ps : List Str} (F : FnOk P w K mg base (L2.CX P w) (k + 1) fa fd ps (liftSp K n sp))
    (hf : ∀ C' n', T.mks.contains (f, C', n') = true → C' = C ∧ n' = n) (hp : ps.length = n) (hm : Mk K (He.ga K C) fa) (hg : mg C = some (.ref (He.ga K C))) (hb : Binds K fd ps []) (nm : ∀ x n, T.fns[f]? = some (x, n) → False) (nk : ∀ C m n, T.mts.contains (f, C, m, n) = false) : DefsM T (up Δ f sp) (k + 2) P w K mg base := Dl.unQ (by
 simp (disch := with_unfolding_all
  refine @id _ ?_
  have D' := D.mono (Nat.le_add_right k 2)
  refine ⟨fun g y m sq hg hs => ?_, fun g C m n sq hg hs => ?_, fun g C n sq hg hs => ?_, D'.rx⟩
  · have e : g ≠ f := fun z => by rw [z] at hg; exact nm _ _ hg
    rw [up_ne e] at hs
    exact D'.fn g y m sq hg hs
  · have e : g ≠ f := fun z => by rw [z, nk] at hg; cases hg
    rw [up_ne e] at hs
    exact D'.mt g C m n sq hg hs
  · by_cases e : g = f
    · subst e
      rw [up_same] at hs
      cases hs
      obtain ⟨rfl, rfl⟩ := hf _ _ hg
      exact ⟨k + 1, fa, fd, ps, Nat.le_refl _, hp, F, hm, by assumption, hb⟩
    · rw [up_ne e] at hs
      exact D'.mkr g C n sq hg hs
 ) only [↓Dl.qTrue])
theorem frees_ok {fa : List He.Fa} {fn : List He.DefD} {h : Heap} (c : He.SaysD fa fn K) (X : K.In h) (G : h.Ns mainGlobals mg) (x : Str) (hx : He.Fa.free x ∈ fa) : mg x = none := by
  have c1 := (He.ba (show ((fa.all fun f => f.ok K) && fn.all fun d => d.ok K) = true from congrArg (fun z : He.AlD => z.1) c)).1
  exact He.free_ok X G (List.all_eq_true.mp c1 _ hx)
theorem excB_ok {D : Addr} (h : excB K D = true) : L2.ExcC K D := Dl.unQ (by
 simp (disch := with_unfolding_all
  refine @id _ ?_
  unfold excB at h
  simp only [Bool.and_eq_true, decide_eq_true_eq] at h
  obtain ⟨⟨⟨⟨h1, h2⟩, h3⟩, h4⟩, ⟨⟨⟨h5, h6⟩, h7⟩, h8⟩⟩ := h
  exact ⟨h1, h2, h3, h4, h5, h6, h7, h8⟩
 ) only [↓Dl.qTrue])
theorem clsAll_of {ks : List Nat} {h : Heap} (X : K.In h) (G : h.Ns mainGlobals mg) (hve : mg "ValueError" = none) (c : clsB ks K = true) : ClsAll K mg ks := Dl.unQ (by
 simp (disch := with_unfolding_all
  refine @id _ ?_
  have key : ∀ j, ks.contains j = true → PySem.W.nsIn K mainGlobals (cn j) = some (some (.ref (He.ga K (cn j)))) ∧ L2.ExcC K (He.ga K (cn j)) ∧ (L2.XfC K (He.ga K (cn j)) ∧ ∀ f, f = ("at" : Str) ∨ f = ("word" : Str) ∨ f = ("number" : Str) → PySem.W.findIn K (.ref (He.ga K (cn j))) f = some none) ∧ (∀ k, ks.contains k = true ∨ k = 100 → PySem.W.kitOne K (.ref (He.ga K (cn j))) (cvK K k) = some (subC j k)) ∧
      ∀ k, ks.contains k = true → PySem.W.exmOne K (.ref (He.ga K (cn j))) (.ref (He.ga K (cn k))) = some (subC j k) := fun j hj => by
    have hj' : j ∈ ks := by simpa using hj
    have q := List.all_eq_true.mp c j hj'
    simp only [Bool.and_eq_true, decide_eq_true_eq, List.all_eq_true] at q
    obtain ⟨⟨⟨⟨q1, q2⟩, ⟨q5, q6⟩⟩, q3⟩, q4⟩ := q
    refine ⟨q1, excB_ok q2, ⟨L2.xfB_ok q5, fun f hf => q6 f (by rcases hf with rfl | rfl | rfl <;> simp)⟩, fun k hk => q3 k ?_, fun k hk => q4 k (by simpa using hk)⟩
    rcases hk with hk | hk
    · exact List.mem_append_left _ (by simpa using hk)
    · exact List.mem_append_right _ (by simp [hk])
  exact ⟨fun k hk => PySem.W.mg_of X G (key k hk).1, hve, fun j k hj hk => (key j hj).2.2.2.1 k hk, fun j k hj hk => (key j hj).2.2.2.2 k hk, fun j hj => (key j hj).2.1, fun j hj => (key j hj).2.2.1⟩
 ) only [↓Dl.qTrue])
theorem ModOk.make {fa : List He.Fa} {fn : List He.DefD} {h : Heap} (c : He.SaysD fa fn K) (X : K.In h) (G : h.Ns mainGlobals mg) (hfa : fa = freeNames.map .free ++ fa.drop freeNames.length)
    (gl : ∀ g x d, T.gls[g]? = some x → Γ g = some d → ∃ u v, mg x = some u ∧ RelV v u ∧ ∀ H, Has K H d v) (cl : ∀ k, T.cls.contains k = true → ClsOk K mg (cn k)) (kl : ClsAll K mg T.all) (al : ∀ k, Γ.all.contains k = true → T.all.contains k = true) (at_ : AtsOk T K) (gf : ∀ x, T.gfs.contains x = true → mg x = some (.ref (He.ga K x))) : ModOk T Γ K mg := Dl.unQ (by
 simp (disch := with_unfolding_all
  refine @id _ ?_
  have fr : ∀ x, x ∈ freeNames → mg x = none := fun x hx => frees_ok c X G x (by rw [hfa]; exact List.mem_append.mpr (.inl (List.mem_map.mpr ⟨x, hx, rfl⟩)))
  have h1 : ∀ f, bfN f ∈ freeNames := fun f => by cases f <;> simp [bfN, freeNames]
  have h2 : ∀ x, x ∈ (["range", "enumerate", "reversed", "isinstance", "int", "bool", "str", "list", "tuple", "dict", "set", "sorted"] : List Str) → x ∈ freeNames := fun x hx => by
    simp only [List.mem_cons, List.not_mem_nil, or_false] at hx
    rcases hx with rfl | rfl | rfl | rfl | rfl | rfl | rfl | rfl | rfl | rfl | rfl | rfl <;> simp [freeNames]
  exact ⟨gl, cl, kl, al, at_, gf, fun f => fr _ (h1 f), fun x hx => fr x (h2 x hx)⟩
 ) only [↓Dl.qTrue])
theorem Has.ints (H : Hp) : ∀ ns : List Int, HasL K H (ns.map .int) (ns.map .int)
  | [] => rfl
  | n :: ns => ⟨.int n, _, rfl, rfl, Has.ints H ns⟩
end
end Dl
set_option maxRecDepth 100000
/-! Dl11: the program's own exceptions with fields: their classes, their __init__; a def that calls itself. -/
namespace Dl
open PySem PySem.Spec PyProof.Rows L2
section
variable {K : PySem.W.Frag} {mg : Str → Option Value}
theorem oexB_ok {C : Addr} (h : oexB K C = true) : OexC K C := Dl.unQ (by
 simp (disch := with_unfolding_all
  refine @id _ ?_
  unfold oexB at h
  rw [Bool.and_eq_true, Bool.and_eq_true, Bool.and_eq_true, Bool.and_eq_true] at h
  obtain ⟨h0, h1, h2, h3, h4⟩ := h
  refine ⟨?_, of_decide_eq_true h1, of_decide_eq_true h2, of_decide_eq_true h3, h4⟩
  split at h0
  · rename_i dd cd sl ho
    split at h0
    · rename_i C' bm k0 k1 k2 k3 n k5 hm hs
      simp only [Bool.and_eq_true, beq_iff_eq, Bool.not_eq_true'] at h0
      obtain ⟨rfl, rfl, hdel, hd, hr⟩ := h0
      obtain ⟨nm, bs, mro, ns, qn, hdct, sn, sub, ab, col, del⟩ := cd
      dsimp only at hm hdel hd
      subst hm hdel hd
      have hsl : sl = #[k0, k1, k2, k3, some (.builtin "ValueError.__new__"), k5] := by
        obtain ⟨l⟩ := sl
        simp only at hs
        rw [hs]
      subst hsl
      exact ⟨nm, qn, ns, bs, bm, sn, sub, ab, col, dd, k0, k1, k2, k3, k5, ho, hr⟩
    · cases h0
  · cases h0
 ) only [↓Dl.qTrue])
/-- its body: self.f = f -/
def isIni (sc : Scope) : List Str → List Stmt → Bool
  | [], ss => ss.isEmpty
  | f :: fs, ss => match ss with
    | .Assign [.Attribute (.Name s _) f' _] (.Name g _) _ :: r => s == ("self" : Str) && (f' == f && (g == f && (visB sc "self" && (visB sc f && (nameOk f && isIni sc fs r)))))
    | _ => false
variable {P : Program} {w : World} {base : Heap} {x qual : Str} {params : Arguments} {sbody : List Stmt} {scope : Scope} {f : Addr} {fd : FuncData} {k : Nat} {C : Addr}
theorem ini1 {f1 : Str} (F : FunD K x qual params sbody scope [] [] f fd) (S : FnScope ["self", f1] ["self", f1] scope) (h : isIni scope [f1] sbody = true) (T : OexC K C) (n1 : PySem.W.findIn K (.ref C) f1 = some none) :
    FnOk P w K mg base (L2.CX P w) (k + 1) f fd ["self", f1] (spIni K C [f1]) := Dl.unQ (by
 simp (disch := with_unfolding_all
  refine @id _ ?_
  unfold isIni at h
  split at h
  · rename_i s p1 f' p2 g p3 pos r
    simp only [Bool.and_eq_true, beq_iff_eq, isIni, List.isEmpty_iff] at h
    obtain ⟨rfl, rfl, rfl, v1, v2, o2, rfl⟩ := h
    refine F.ok S (fun vs H Q E hs => ?_) fun cdv A outer s H vs Q E hr hs => ?_
    · obtain ⟨a, ws, rfl, e, _⟩ := hs
      simp [e]
    obtain ⟨a, ws, rfl, e, ha, q⟩ := hs
    obtain ⟨y, rfl⟩ : ∃ y, ws = [y] := by
      cases ws with
      | nil => simp at e
      | cons y ws => cases ws with
        | nil => exact ⟨y, rfl⟩
        | cons _ _ => simp at e
    refine ⟨_, pss_one (ps_ost (pe_var (i := 0) rfl (vis_of v1) (by decide) (by decide)) (pe_var (i := 1) rfl (vis_of v2) (nm1 o2) (nm2 o2))), ?_⟩
    refine ⟨y, rfl, .ref a, rfl, a, C, rfl, T, n1, .inl ⟨ha, fun dx hdx hne => ?_⟩⟩
    exact q dx [(g, y)] _ hdx hne upd_same (by rw [upd_ne hne]; exact upd_same) (fun b hb hd => by rw [upd_ne hb, upd_ne hd]) fun z => rfl
  · cases h
 ) only [↓Dl.qTrue])
theorem ini2 {f1 f2 : Str} (hne : (f1 == f2) = false) (F : FunD K x qual params sbody scope [] [] f fd) (S : FnScope ["self", f1, f2] ["self", f1, f2] scope) (h : isIni scope [f1, f2] sbody = true) (T : OexC K C) (n1 : PySem.W.findIn K (.ref C) f1 = some none) (n2 : PySem.W.findIn K (.ref C) f2 = some none) :
    FnOk P w K mg base (L2.CX P w) (k + 1) f fd ["self", f1, f2] (spIni K C [f1, f2]) := Dl.unQ (by
 simp (disch := with_unfolding_all
  refine @id _ ?_
  unfold isIni at h
  split at h
  · rename_i s p1 f' p2 g p3 pos r
    simp only [Bool.and_eq_true, beq_iff_eq] at h
    obtain ⟨rfl, rfl, rfl, v1, v2, o2, h⟩ := h
    unfold isIni at h
    split at h
    · rename_i s' p1' f'' p2' g' p3' pos' r'
      simp only [Bool.and_eq_true, beq_iff_eq, isIni, List.isEmpty_iff] at h
      obtain ⟨rfl, rfl, rfl, v1', v2', o2', rfl⟩ := h
      refine F.ok S (fun vs H Q E hs => ?_) fun cdv A outer s H vs Q E hr hs => ?_
      · obtain ⟨a, ws, rfl, e, _⟩ := hs
        simp [e]
      obtain ⟨a, ws, rfl, e, ha, q⟩ := hs
      obtain ⟨y, y2, rfl⟩ : ∃ y y2, ws = [y, y2] := by
        cases ws with
        | nil => simp at e
        | cons y ws => cases ws with
          | nil => simp at e
          | cons y2 ws => cases ws with
            | nil => exact ⟨y, y2, rfl⟩
            | cons _ _ => simp at e
      refine ⟨_, pss_cons (ps_ost (pe_var (i := 0) rfl (vis_of v1) (by decide) (by decide)) (pe_var (i := 1) rfl (vis_of v2) (nm1 o2) (nm2 o2))) (pss_one (ps_ost (pe_var (i := 0) rfl (vis_of v1) (by decide) (by decide)) (pe_var (i := 2) rfl (vis_of v2') (nm1 o2') (nm2 o2')))), ?_⟩
      refine ⟨y, rfl, .ref a, rfl, a, C, rfl, T, n1, .inl ⟨ha, fun dx hdx hne' => ?_⟩⟩
      refine ⟨y2, rfl, .ref a, rfl, a, C, rfl, T, n2, .inr ⟨dx, [(g, y)], upd_same, by rw [upd_ne hne']; exact upd_same, by show 1 ≤ 900; decide, ?_⟩⟩
      refine q dx [(g', y2), (g, y)] _ hdx hne' (by rw [upd_ne (Ne.symm hne')]; exact upd_same) upd_same (fun b hb hd => by rw [upd_ne hd, upd_ne hb, upd_ne hd]) fun z => ?_
      have hne2 : g ≠ g' := by simpa using hne
      rw [lookup_put, lookup_put]
      show _ = List.lookup z [(g, y), (g', y2)]
      rw [lookup_put, lookup_put]
      by_cases e1 : z = g
      · subst e1; rw [if_neg hne2, if_pos rfl, if_pos rfl]
      · rw [if_neg e1, if_neg e1]
    · cases h
  · cases h
 ) only [↓Dl.qTrue])
/-- what a promise that is never asked wants -/
theorem Meet.never {Δ : Nat → Option Spec} {Γ : Gam} {nn np : Nat} {body : Sms} {sp : Spec} (h : ∀ ds G Q E, ¬ sp ds G Q E) : Meet Δ Γ nn np body sp := fun ds G Q E _ q => (h ds G Q E q).elim
/-! ### a module's tuples -/
theorem tvB_ok : ∀ {ds : List D} {us : List Value}, tvB ds us = true → ∃ vs, Vals vs us ∧ ∀ H, HasL K H ds vs
  | [], us, h => by
    have : us = [] := by simpa [tvB] using h
    subst this
    exact ⟨[], .nil, fun _ => rfl⟩
  | d :: ds, [], h => by simp [tvB] at h
  | d :: ds, u :: us, h => by
    simp only [tvB, Bool.and_eq_true] at h
    obtain ⟨vs, r, hl⟩ := tvB_ok h.2
    have h1 := h.1
    split at h1
    · rename_i i j t
      have e := of_decide_eq_true h1
      subst e
      exact ⟨.int i :: vs, .cons ⟨t, rfl⟩ r, fun H => ⟨.int i, vs, rfl, rfl, hl H⟩⟩
    · rename_i z y t
      have e := of_decide_eq_true h1
      subst e
      exact ⟨.str z :: vs, .cons ⟨t, rfl⟩ r, fun H => ⟨.str z, vs, rfl, rfl, hl H⟩⟩
    · cases h1
theorem gtup_ok {h : Heap} (X : K.In h) (G : h.Ns mainGlobals mg) {x : Str} {ds : List D} (c : gtupB K x ds = true) : ∃ u v, mg x = some u ∧ RelV v u ∧ ∀ H, Has K H (.tup ds) v := Dl.unQ (by
 simp (disch := with_unfolding_all
  refine @id _ ?_
  unfold gtupB at c
  split at c
  · rename_i a e
    split at c
    · rename_i c0 dd its n sl ho
      simp only [Bool.and_eq_true, beq_iff_eq] at c
      obtain ⟨rfl, h1, h2⟩ := c
      obtain ⟨vs, r, hl⟩ := tvB_ok (K := K) h2
      exact ⟨.ref a, .ref a, PySem.W.mg_of X G e, rfl, fun H => ⟨a, vs, rfl, .inr ⟨_, its, n, ho, rfl, rfl, by have := of_decide_eq_true h1; have := sizeLine_eq; omega, r⟩, hl H⟩⟩
    · cases c
  · cases c
 ) only [↓Dl.qTrue])
end
end Dl
set_option maxRecDepth 100000
set_option maxHeartbeats 4000000
/-! Dl12: a lambda handed to a def, and called there. -/
namespace Dl
open PySem PySem.Spec PyProof.Rows L2
/-- a reading of a lambda's body answers for what runs -/
def RunOk (K : PySem.W.Frag) (tb : XK → Hp → VK → Prop) (r : Run) (cs : List (D × V)) : Prop :=
  ∀ (H : Hp) (G : GH) (Qd : QD) (Ed : XD) (E : XK) (Q : VK), (∀ p ∈ cs, Has K H p.1 p.2) → GOk K H G → r Qd Ed G → Fin K H Qd Q → (∀ H' x cls dd G', Ext H H' → HasX K H' x cls dd → GOk K H' G' → Ed x G' → E cls dd H') → tb E H Q
/-- the callee's place -/
abbrev calleeX (P : Program) (w : World) (K : PySem.W.Frag) (mg : Str → Option Value) (base : Heap) (A : Around) (outer : List Env) (s : Shared) (H : Hp) (gA : Addr) (Ng : List Str) (qg : Str) (sg : Scope) (cdg : Value) (Eg : XK) (pn : List (Addr × Obj)) (xe : Value → Shared → Prop) : Cx :=
  (cxOf (L2.CX P w) P w K mg base Ng qg sg gA cdg A outer s H Eg).tr pn xe
/-- the handed callable, called there -/
def ActsAs (P : Program) (w : World) (K : PySem.W.Frag) (mg : Str → Option Value) (base : Heap) (A : Around) (outer : List Env) (s : Shared) (H : Hp) (gA f c' : Addr) (q : Str) (k : Nat) (tb : XK → Hp → VK → Prop) : Prop :=
  ∀ (Ng : List Str) (qg : Str) (sg : Scope) (cdg : Value) (Eg : XK) (pn : List (Addr × Obj)) (xe : Value → Shared → Prop) (W : WX) (i : Nat) (a : Str) (p1 p2 : Pos),
    Takes (calleeX P w K mg base A outer s H gA Ng qg sg cdg Eg pn xe) W → Room (k + 1) (A.deeper (envOfC qg sg s.heap.objs.size gA cdg)) → Ng[i]? = some a → Vis sg a → nameOk a = true →
      PE (calleeX P w K mg base A outer s H gA Ng qg sg cdg Eg pn xe) (.Call (.Name a p1) [] [] p2)
        (fun σZ HZ Q => σZ[i]? = some (some (.ref f)) ∧ HZ c' = some (LamX.CodeO c' q) ∧ ∃ E : XK, (∀ cls d H', E cls d H' → W cls d σZ H') ∧ tb E HZ Q)
/-- a def that is handed a lambda keeps its promise -/
def LdOk (P : Program) (w : World) (K : PySem.W.Frag) (mg : Str → Option Value) (base : Heap) (k : Nat) (y : Str) (L : LSpec) : Prop :=
  ∃ gA : Addr, mg y = some (.ref gA) ∧ PySem.W.keepIn K (.ref gA) = true ∧
    ∀ (A : Around) (outer : List Env) (s : Shared) (H : Hp) (f c' : Addr) (x : Str) (cs : List (D × V)) (tb : XK → Hp → VK → Prop) (r : Run) (G : GH) (Qd : QD) (Q : VK), Room (k + 2) A → Env0 P w K mg base A outer s H →
      ActsAs P w K mg base A outer s H gA f c' (lq x) k tb → RunOk K tb r cs → GOk K H G → G c' = some (.cod x cs) → L r G Qd noX → Fin K H Qd Q →
        codeAny (model P w) A (.call (.ref gA) ⟨[.ref f], []⟩) (CR (L2.CX P w) outer P w H s Q fun _ _ _ => False) s
section
variable {X : Cx} {pins : List (Addr × Obj)} {σ : L2.St} {H : Hp} {s : Shared}
/-- the callable handed in, called where the slots tell what is wished of its exceptions -/
theorem acts {gA f c' : Addr} {pm ctv : Value} {params : Arguments} {body : Expr} {scope : Scope} {k : Nat} {tb : XK → L2.St → Hp → VK → Prop}
    (I : Inv X pins σ H s) (L : LamX.LamS X.env.scope scope)
    (hf : s.heap.get? f = some (PySem.W.kla_obj "<lambda>" (X.env.qual ++ "<lambda>") params body scope (cloFrom X.env.cells scope.names []) pm c' ctv)) (hfn : H f = none) (hfr : f ∉ frs X.stack)
    (hbind : bindArgs (PySem.W.kla_fn "<lambda>" (X.env.qual ++ "<lambda>") params body scope (cloFrom X.env.cells scope.names []) pm (.ref c') ctv) ⟨[], []⟩ = pure [])
    (hbody : ∀ (A : Around) (outer : List Env) (s : Shared) (H : Hp) (E : XK), Room k (A.deeper (LamX.lamEnv X scope s.heap.objs.size f c')) → PE (LamX.lamCx X A outer s H E scope f c') body (tb E)) :
    ActsAs X.prog X.w X.K X.mg X.base X.A X.stack s H gA f c' (X.env.qual ++ "<lambda>") k (fun E H Q => tb E σ H Q) := Dl.unQ (by
 simp (disch := with_unfolding_all
  refine @id _ ?_
  intro Ng qg sg cdg Eg pn xe W i a p1 p2 tk hr hN hv hn
  refine ⟨fun pins' sZ σZ HZ Q IZ ⟨hs, hc, E, hE, ht⟩ => wpAny_Call_Name_kw (thn ((pe_var (pos := p1) (i := i) hN hv (nm1 hn) (nm2 hn)).run pins' sZ σZ HZ (fun v H1 => v = .ref f ∧ H1 = HZ) IZ ⟨.ref f, hs, rfl, rfl⟩) fun u s1 ⟨v, H1, I1, r1, ev, eH⟩ => ?_)⟩
  subst ev; subst eH
  obtain rfl : u = Value.ref f := r1
  have of1 : s1.heap.get? f = some (PySem.W.kla_obj "<lambda>" (X.env.qual ++ "<lambda>") params body scope (cloFrom X.env.cells scope.names []) pm c' ctv) := I1.base.keep f _ hf hfn hfr (fun z => nomatch (show f ∈ ([] : List Addr) from z))
  have un : Un (frs X.stack) [] H H1 s.heap s1.heap := I1.base
  obtain ⟨⟨oc, vs, tt, e1, e2, e3⟩, _, _⟩ := I1.hok c' _ hc
  refine PySem.W.callWith_F0 ⟨_, _, _, _, of1⟩ (wpAny_call (codeAny_mono (show codeAny (model X.prog X.w) (X.A.deeper (envOfC qg sg s.heap.objs.size gA cdg)) (.call (.ref f) ⟨[], []⟩)
      (CR (L2.CX X.prog X.w) (envOfC qg sg s.heap.objs.size gA cdg :: X.stack) X.prog X.w H1 s1 Q E) s1 from ?_) fun r s' hq => ?_))
  · refine PySem.W.kla_callFunE hr.depth of1 rfl L.co L.gen rfl ⟨c', oc, vs, tt, rfl, e1, e2, e3⟩ ?_
    rw [hbind]
    refine wpAny_pure (wpAny_newFunctionEnv (fun y hy => (L.own y hy).2) (fun y hy => absurd hy (by simp)) (fun h1 hns hsb => ⟨I1.nolimit.fresh _ hsb, ?_⟩) L.kind)
    have kp : ∀ b o, s1.heap.get? b = some o → h1.get? b = some o := fun b o e => hsb.extBut b o (Nat.ne_of_lt (Heap.lt_size e)) (Heap.get?_push_of_some _ e)
    have J := LamX.lam_start2 (E := E) (f := f) (c' := c') (tk := s1.toks + ([] : List (Str × Value)).length) I L I1.env0 hr.hd un hns kp
    refine PySem.W.kla_codeExpr (wpAny_mono ((hbody _ _ s1 H1 E (hr.deeper _)).run [] _ _ H1 Q J ht) (fun v s' ⟨w', H', J', rv, q⟩ => ⟨w', H', J'.os, J'.bare, J'.base, J'.hok, rv, q⟩) fun e s' hq => hq)
  · cases r with
    | error e => exact tk e s' (XE.of_call (E := E) I1 (fun cls d H' h => hE cls d H' h) hq)
    | ok fl => cases fl with
      | ret u => exact I1.after hq
      | next => exact hq.elim
      | brk => exact hq.elim
      | cont => exact hq.elim
 ) only [↓Dl.qTrue])
end
theorem Ext.ofN {H H' : Hp} (e : LamX.ExtN H H') : Ext H H' :=
  ⟨fun b xs h => e b _ h (fun ps z => by cases z), fun b o xs h => e b _ h (fun ps z => by cases z), fun b l h => e b _ h (fun ps z => by cases z), fun b q h => e b _ h LamX.codeO_ne⟩
/-- a code object more -/
theorem GOk.lam {K : PySem.W.Frag} {H H1 : Hp} {G : GH} {x : Str} {P c : Addr} (g : GOk K H G) (e : LamX.ExtN H H1) (hP : P = (He.cT K (x, none)).2) (tb : LamX.TabS H1 P (lq x)) (hc : H1 c = some (LamX.CodeO c (lq x))) (one : ∀ P y, G P = some (.tbl y) → y = x) {cs : List (D × V)} (hcs : ∀ p ∈ cs, Has K H1 p.1 p.2) : GOk K H1 (gup G c (.cod x cs)) := fun a o h => by
  by_cases q : a = c
  · subst q; rw [gup_same] at h; cases h; exact ⟨hc, hcs⟩
  · rw [gup_ne q] at h
    have z := g a o h
    cases o with
    | lst ds => obtain ⟨vs, h1, h2⟩ := z; exact ⟨vs, e _ _ h1 (fun ps z => by cases z), HasL.ext (Ext.ofN e) ds vs h2⟩
    | ins C fs => obtain ⟨dx, l, h1, h2⟩ := z; exact ⟨dx, l, e _ _ h1 (fun ps z => by cases z), h2.ext (Ext.ofN e)⟩
    | dk kvs => obtain ⟨l, h1, h2⟩ := z; exact ⟨l, e _ _ h1 (fun ps z => by cases z), h2.ext (Ext.ofN e)⟩
    | tbl y =>
      have ey := one a y h
      subst ey
      obtain ⟨_, h2⟩ := z
      rw [hP, ← h2] at tb
      exact ⟨tb, h2⟩
    | cod y us => exact ⟨e _ _ z.1 LamX.codeO_ne, fun p hp => Has.ext (Ext.ofN e) _ _ (z.2 p hp)⟩
/-- what stands at the new code object's place -/
theorem GOk.codAt {K : PySem.W.Frag} {H H1 : Hp} {G : GH} {x : Str} {P c : Addr} (g : GOk K H G) (e : LamX.ExtN H H1) (hP : P = (He.cT K (x, none)).2) (tb : LamX.TabS H1 P (lq x)) (hc : H1 c = some (LamX.CodeO c (lq x))) (one : ∀ P y, G P = some (.tbl y) → y = x) : ∀ o, G c = some o → ∃ y us, o = .cod y us := fun o h => by
  have z := g c o h
  cases o with
  | lst ds => obtain ⟨vs, h1, h2⟩ := z; have := e _ _ h1 (fun ps z => by cases z); rw [hc] at this; cases this
  | ins C fs => obtain ⟨dx, l, h1, h2⟩ := z; have := e _ _ h1 (fun ps z => by cases z); rw [hc] at this; cases this
  | dk kvs => obtain ⟨l, h1, h2⟩ := z; have := e _ _ h1 (fun ps z => by cases z); rw [hc] at this; cases this
  | tbl y =>
    have ey := one c y h
    subst ey
    obtain ⟨_, h2⟩ := z
    rw [hP, ← h2] at tb
    obtain ⟨ps, h3, _⟩ := tb
    rw [hc] at h3
    cases h3
  | cod y us => exact ⟨y, us, rfl⟩
/-- the values that are captured -/
def capsOf (σd : SD) (σ : List (Option V)) : List (D × V) := (σd.zip σ).filterMap fun p => match p with | (some d, some v) => some (d, v) | _ => none
theorem capsOf_has {K : PySem.W.Frag} {H : Hp} {σd : SD} {σ : List (Option V)} (h : HasS K H σd σ) : ∀ p ∈ capsOf σd σ, Has K H p.1 p.2 := fun p hp => by
  obtain ⟨⟨o, u⟩, h1, h2⟩ := List.mem_filterMap.mp hp
  cases o with
  | none => cases h2
  | some d => cases u with
    | none => cases h2
    | some v =>
      cases h2
      obtain ⟨i, hi⟩ := List.getElem?_of_mem h1
      rw [List.getElem?_zip_eq_some] at hi
      obtain ⟨w, h3, h4⟩ := h.2 i d hi.1
      rw [hi.2] at h3
      cases h3
      exact h4
theorem capsOf_S {K : PySem.W.Frag} {H H' : Hp} {σd : SD} {σ : List (Option V)} (h : HasS K H σd σ) (q : ∀ p ∈ capsOf σd σ, Has K H' p.1 p.2) : HasS K H' σd σ := ⟨h.1, fun i d e => by
  obtain ⟨v, h1, _⟩ := h.2 i d e
  refine ⟨v, h1, q (d, v) (List.mem_filterMap.mpr ⟨(some d, some v), List.mem_of_getElem? (i := i) ?_, rfl⟩)⟩
  rw [List.getElem?_zip_eq_some]
  exact ⟨e, h1⟩⟩
theorem noPar_of {a : Arguments} (h : noPar a = true) : a = ⟨[], [], none, [], [], none, []⟩ := Dl.unQ (by
 simp (disch := with_unfolding_all
  refine @id _ ?_
  unfold noPar at h
  split at h
  · rfl
  · cases h
 ) only [↓Dl.qTrue])
section
variable {T : Tab} {Δ : Nat → Option Spec} {Γ Γ0 : Gam} {k : Nat} {W : WX} {X : Cx}
theorem lam_sound {x : Str} {c P : Addr} (hme : Γ.me = some x) (hq : X.env.qual ++ ("<lambda>" : Str) = lq x) (hlw : ∀ b σ Q E G, Γ.lw b σ Q E G → wpE Δ Γ0 b E σ G Q)
    (hld : ∀ g y L, T.lds.contains (g, y) = true → Γ.l g = some L → LdOk X.prog X.w X.K X.mg X.base k y L) (hr : Room (k + 2) X.A) (mo : ModOk T Γ0 X.K X.mg) (na : Γ0.act = none) (nl : ∀ g, Γ0.l g = none) (df : Defs T Δ k X) (nd : X.N.Nodup)
    (TB : LamX.TabB X.base X.mg c P) (hcode : X.env.code = .ref c) (hP : P = (He.cT X.K (x, none)).2) :
    ∀ x' g b e, isE T X.N (.lamc x' g b) X.env.scope true e = true → PE X e (liftE X.K W (wpE Δ Γ (.lamc x' g b))) := Dl.unQ (by
 simp (disch := with_unfolding_all
  refine @id _ ?_
  intro x' g b e h
  simp only [isE] at h
  split at h
  · rename_i y p params body scope lpos pos
    simp only [Bool.and_eq_true] at h
    obtain ⟨⟨⟨⟨⟨⟨⟨_, _⟩, h1⟩, h2⟩, h3⟩, h4⟩, h5⟩, h6⟩ := h
    obtain rfl := noPar_of h5
    have L := LamX.lamS_by h4
    refine ⟨fun pins s σ H Q I w => ?_⟩
    obtain ⟨σd, G, Qd, E, l, w, f⟩ := w
    simp only [wpE] at w
    cases hl : Γ.l g with
    | none => rw [hl] at w; exact w.elim
    | some Ls =>
      rw [hl] at w
      obtain ⟨ex, ⟨P', hP'⟩, one, w⟩ := w
      have ex' : x' = x := by rw [hme] at ex; cases ex; rfl
      subst ex'
      obtain ⟨gA, hm, hk, run⟩ := hld g y Ls h1 hl
      obtain ⟨tab, eP⟩ : LamX.TabS H P' (lq x') ∧ P' = (He.cT X.K (x', none)).2 := l.ok P' _ hP'
      have ePP : P' = P := eP.trans hP.symm
      subst ePP
      refine wpAny_Call_Name_kw (ld_glob I (gl_of h2) hm ?_ (nm1 h3))
      refine PySem.W.callWith_K (h₀ := X.base) I.ok.mod.kin hk ?_ (by rfl) (by rfl)
      show wpAny _ _ (spliced ((false, eval (.Lambda ⟨[], [], none, [], [], none, []⟩ body scope lpos) X.env) :: backTo pos (starEach [] X.env))) _ _ s
      refine Calls.spliced_cons (LamX.lam_make2 (params := ⟨[], [], none, [], [], none, []⟩) (T := [(P', X.env.qual ++ "<lambda>")]) I TB hcode (List.mem_singleton.mpr rfl) (fun p hp _ => by rw [List.mem_singleton.mp hp]) (fun p hp => by rw [List.mem_singleton.mp hp]; show LamX.TabS H P' (X.env.qual ++ "<lambda>"); rw [hq]; exact tab) rfl (L.has I.ok) fun f' c' pm' ctv H1 s' I1 eN T1 hf hfn hfr hco => ?_)
      refine Calls.spliced_nil ⟨I1.kIn, ?_⟩
      have t1 : LamX.TabS H1 P' (lq x') := by rw [← hq]; exact T1 _ (List.mem_singleton.mpr rfl)
      have hco' : H1 c' = some (LamX.CodeO c' (lq x')) := by rw [← hq]; exact hco
      have e1 := Ext.ofN eN
      have g1 := l.ok.lam eN eP t1 hco' one (capsOf_has (l.sl.ext e1))
      have AC := acts (gA := gA) (k := k) (tb := fun E => liftE X.K (fun cls d _ H => E cls d H) (wpE Δ Γ0 b)) I1 L hf hfn hfr (by rfl) (fun A outer s H E hr2 =>
        soundE b scope true body h6 _ _ (good_of mo hr2 rfl nd (takes_of rfl rfl rfl rfl) (act0 na) (lam0 nl)) df rfl rfl)
      rw [hq] at AC
      have rc := run X.A X.stack s' H1 f' c' x' (capsOf σd σ) _ (Γ.lw b σd) (gup G c' (.cod x' (capsOf σd σ))) Qd Q hr I1.env0 AC (fun H2 G2 Qd2 Ed2 E2 Q2 e2 g2 r2 f2 x2 => ⟨σd, G2, Qd2, Ed2, ⟨capsOf_S l.sl e2, g2, fun H3 y cls dd G3 e3 hx g3 q => x2 H3 y cls dd G3 e3 hx g3 q⟩, hlw _ _ _ _ _ r2, f2⟩) g1 gup_same (w c' _ (l.ok.codAt eN eP t1 hco' one)) (f.mv e1)
      refine wpAny_call (codeAny_mono rc fun r s2 hq => ?_)
      cases r with
      | error e =>
        obtain ⟨_, _, _, _, _, _, _, _, _, _, _, _, z⟩ := hq
        exact z.elim
      | ok fl => cases fl with
        | ret u => exact I1.after hq
        | next => exact hq.elim
        | brk => exact hq.elim
        | cont => exact hq.elim
  · cases h
 ) only [↓Dl.qTrue])
end
/-- what is handed, called in the callee -/
theorem act_sound {T : Tab} {Δ : Nat → Option Spec} {Γ : Gam} {P : Program} {w : World} {K : PySem.W.Frag} {mg : Str → Option Value} {base : Heap} {A : Around} {outer : List Env} {s : Shared} {H : Hp} {gA f c' : Addr} {x : Str} {cs : List (D × V)} {r : Run} {k : Nat} {tb : XK → Hp → VK → Prop} {N : List Str} {qual : Str} {scope : Scope} {cdv : Value} {E : XK}
    (AC : ActsAs P w K mg base A outer s H gA f c' (lq x) k tb) (RO : RunOk K tb r cs) (hr : Room (k + 1) (A.deeper (envOfC qual scope s.heap.objs.size gA cdv))) (ea : Γ.act = some (f, c', x, cs, r)) (W : WX) (pn : List (Addr × Obj)) (xe : Value → Shared → Prop)
    (tk : Takes (calleeX P w K mg base A outer s H gA N qual scope cdv E pn xe) W) : ∀ i e, isE T N (.act i) scope true e = true → PE (calleeX P w K mg base A outer s H gA N qual scope cdv E pn xe) e (liftE K W (wpE Δ Γ (.act i))) := Dl.unQ (by
 simp (disch := with_unfolding_all
  refine @id _ ?_
  intro i e h
  simp only [isE] at h
  split at h
  · simp only [Bool.and_eq_true, beq_iff_eq] at h
    obtain ⟨⟨⟨_, h1⟩, h2⟩, h3⟩ := h
    refine PE.imp (AC N qual scope cdv E pn xe W i _ _ _ tk hr h1 (vis_of h2) h3) fun σ H1 Q w => ?_
    obtain ⟨σd, G, Qd, Ed, l, w, fin⟩ := w
    simp only [wpE, ea] at w
    obtain ⟨w1, w2, w3⟩ := w
    obtain ⟨v, e1, e2⟩ := hasSd l.sl w1
    obtain rfl : v = .ref f := e2
    obtain ⟨z1, z2⟩ := l.ok c' _ w2
    exact ⟨e1, z1, fun cls d H' => W cls d σ H', fun _ _ _ q => q, RO H1 G Qd Ed _ Q z2 l.ok w3 fin l.ex⟩
  · cases h
 ) only [↓Dl.qTrue])
section
variable {T : Tab} {Δ : Nat → Option Spec} {Γ Γ0 : Gam} {P : Program} {w : World} {K : PySem.W.Frag} {mg : Str → Option Value} {base : Heap} {y qual : Str} {params : Arguments} {sbody : List Stmt} {scope : Scope} {gA : Addr} {fd : FuncData} {N ps : List Str} {k nn np : Nat}
/-- a def that is handed a lambda: a try whose body calls it -/
theorem def_okA {B : TryB} {a : Str} {L : LSpec} (F : FunD K y qual params sbody scope [] [] gA fd) (hm : mg y = some (.ref gA)) (S : FnScope N [a] scope) (hn : N.length = nn) (h : isTry T N B scope sbody = true) (mo : ModOk T Γ K mg) (df : DefsM T Δ k P w K mg base) (hb : Binds K fd [a] [])
    (me : ∀ f c x cs r G Q, G c = some (.cod x cs) → L r G Q noX → wpTry Δ { Γ with act := some (f, c, x, cs, r) } B { nx := fun _ => wk (Q .non), rt := fun v => wk (Q v), bk := fun _ _ => False, ct := fun _ _ => False, ex := fun _ _ _ => False } (startD nn [.ref f]) G)
    (nl : ∀ g, Γ.l g = none := by exact fun _ => rfl) : LdOk P w K mg base k y L := Dl.unQ (by
 simp (disch := with_unfolding_all
  refine @id _ ?_
  refine ⟨gA, hm, F.kp, fun A outer s H f c' x cs tb r G Qd Q hr e0 AC RO g hc hL fin => ?_⟩
  obtain ⟨oc, od, dV, kV, doc, pm, an, cdv, ct, osl, rfl, lk, hcd, _, _⟩ := F.ex
  have KX : K.In s.heap := e0.mod.kin.keeps fun b o e => (e0.bs b o e).1
  refine LamX.run_ofS (N := N) (ps := [a]) (us := [.ref f]) (vs := [.ref f]) (k := k + 1) lk hcd S hr e0 (hb s [.ref f] KX rfl) (.cons rfl .nil) rfl fun hr' => ?_
  have mo' : ModOk T { Γ with act := some (f, c', x, cs, r) } K mg := ⟨mo.gls, mo.cls, mo.kls, mo.all, mo.ats, mo.gfs, mo.blt, mo.blt2⟩
  refine ⟨_, try_ss (Γ := { Γ with act := some (f, c', x, cs, r) }) S h mo' df (hr'.mono (Nat.le_succ k)) nl fun W' pn xe tk => act_sound AC RO hr' rfl W' pn xe tk, ?_⟩
  refine ⟨startD nn [.ref f], G, _, HasL.getD (ds := [.ref f]) (vs := [.ref f]) ⟨.ref f, [], rfl, rfl, rfl⟩ N hn, g, me f c' x cs r G Qd hc hL, ?_⟩
  refine ⟨fun H' σd σ G' e s1 g1 q => ?_, fun _ _ _ _ _ _ _ q => q.elim, fun _ _ _ _ _ _ _ q => q.elim, fun H' d v G' e hv g1 q => ?_, fun _ _ _ _ _ _ _ _ _ _ _ q => q.elim⟩
  · obtain ⟨G2, l, q⟩ := q
    exact fin H' .non .non G2 e rfl (g1.le l) q
  · obtain ⟨G2, l, q⟩ := q
    exact fin H' d v G2 e hv (g1.le l) q
 ) only [↓Dl.qTrue])
/-- a def that makes lambdas -/
theorem def_okL {body : Sms} {sp : Spec} (F : FunD K y y params sbody scope [] [] (He.fAd K (y, none)) fd) (S : FnScope N ps scope) (hn : N.length = nn) (hp : ps.length = np) (h : isSs T N body scope true sbody = true) (mo : ModOk T Γ0 K mg) (df : DefsM T Δ k P w K mg base)
    (ev : Γ.v = Γ0.v) (el : Γ.all = Γ0.all) (na : Γ.act = none) (na0 : Γ0.act = none) (nl0 : ∀ g, Γ0.l g = none) (hme : Γ.me = some y) (hlw : ∀ b σ Q E G, Γ.lw b σ Q E G → wpE Δ Γ0 b E σ G Q)
    (hld : ∀ g y L, T.lds.contains (g, y) = true → Γ.l g = some L → LdOk P w K mg base k y L) (TB : LamX.TabB base mg (He.cT K (y, none)).1 (He.cT K (y, none)).2)
    (me : Meet Δ Γ nn np body sp) : FnOk P w K mg base (L2.CX P w) (k + 3) (He.fAd K (y, none)) fd ps (liftSp K np sp) := Dl.unQ (by
 simp (disch := with_unfolding_all
  refine @id _ ?_
  have mo' : ModOk T Γ K mg := ⟨by rw [ev]; exact mo.gls, mo.cls, mo.kls, by rw [el]; exact mo.all, mo.ats, mo.gfs, mo.blt, mo.blt2⟩
  obtain ⟨oc, od, dV, kV, doc, pm, an, cdv, ct, osl, rfl, lk, hcd, _, _⟩ := F.ex
  obtain ⟨c, rfl⟩ := He.codeIn_ref hcd
  have ec : He.codeOf K (y, none) = c := He.codeOf_eq lk rfl
  refine fn_of lk hcd S (fun vs H Q E hs => hs.1.trans hp.symm) fun A outer s H vs Q E hr hs => ?_
  obtain ⟨hl, ds, G, Qd, Ed, h1, g, h2, f1, f2⟩ := hs
  have po : PassesOwn (model P w) (cxOf (L2.CX P w) P w K mg base N y scope (He.fAd K (y, none)) (.ref c) A outer s H E).A (cxOf (L2.CX P w) P w K mg base N y scope (He.fAd K (y, none)) (.ref c) A outer s H E).env (cxOf (L2.CX P w) P w K mg base N y scope (He.fAd K (y, none)) (.ref c) A outer s H E).xe := passes_of (X := cxOf (L2.CX P w) P w K mg base N y scope (He.fAd K (y, none)) (.ref c) A outer s H E) rfl
  have hb : PSs (cxOf (L2.CX P w) P w K mg base N y scope (He.fAd K (y, none)) (.ref c) A outer s H E) sbody (liftS K (fun cls d _ H => E cls d H) (wpSs Δ Γ body)) :=
    soundSs (T := T) (N := N) (Δ := Δ) (Γ := Γ) (k := k) body scope true sbody h _ (fun cls d _ H => E cls d H) (fun _ => rfl) (fun _ => po)
      (good_of mo' (hr.mono (Nat.le_add_right k 2)) rfl S.nd (takes_of rfl rfl rfl rfl) (act0 na) (lam_sound (Γ0 := Γ0) (x := y) (P := (He.cT K (y, none)).2) hme rfl hlw hld hr mo na0 nl0 df S.nd TB (by rw [show (He.cT K (y, none)).1 = c from ec]; rfl) rfl)) df rfl rfl
  refine ⟨_, hb, startD nn ds, G, _, h1.getD N hn, g, me ds G Qd Ed (by rw [← h1.len]; exact hl) h2, ?_⟩
  refine ⟨fun H' σd σ G' e s1 g1 q => ?_, fun _ _ _ _ _ _ _ q => q.elim, fun _ _ _ _ _ _ _ q => q.elim, fun H' d v G' e hv g1 q => ?_, fun H' σd σ y cls dd G' e s1 hx g1 q => f2 H' y cls dd G' e hx g1 q⟩
  · obtain ⟨G2, l, q⟩ := q
    exact f1 H' .non .non G2 e rfl (g1.le l) q
  · obtain ⟨G2, l, q⟩ := q
    exact f1 H' d v G2 e hv (g1.le l) q
 ) only [↓Dl.qTrue])
end
/-- a law's promise, the table of its lambdas known -/
def spLawT (x : Str) : Spec := fun ds G Q _ => ∃ (ns : List Int) (d : D) (P : Addr), ds = [d] ∧ itemsD d G = some (ns.map .int) ∧ ns.length ≤ 63 ∧ G P = some (.tbl x) ∧ ∀ G', Q (.bl true) G'
theorem law_startsT {K : PySem.W.Frag} {H : Hp} {a : Addr} {ns : List Int} {x : Str} (hl : ns.length ≤ 63) (hP : H (He.cT K (x, none)).2 = some (.tbl #[])) (hS : SqL K H a (ns.map V.int)) : liftSp K 1 (spLawT x) [.ref a] H (fun v _ => v = .bl true) fun _ _ _ => False := Dl.unQ (by
 simp (disch := with_unfolding_all
  refine @id _ ?_
  have key : ∀ (d : D) (G : GH), Has K H d (.ref a) → GOk K H G → itemsD d G = some (ns.map .int) → G (He.cT K (x, none)).2 = some (.tbl x) → liftSp K 1 (spLawT x) [.ref a] H (fun v _ => v = .bl true) fun _ _ _ => False := fun d G h1 h2 h3 h4 =>
    ⟨rfl, [d], G, fun d _ => d = .bl true, fun _ _ => False, ⟨.ref a, [], rfl, h1, rfl⟩, h2, ⟨ns, d, _, rfl, h3, hl, h4, fun _ => rfl⟩, fun H' d v G' _ hv _ e => by subst e; exact hv, fun _ _ _ _ _ _ _ _ q => q.elim⟩
  have tab : GOOk K H (He.cT K (x, none)).2 (.tbl x) := ⟨LamX.TabS.nil hP, rfl⟩
  have one : GOk K H (gup (fun _ => none) (He.cT K (x, none)).2 (.tbl x)) := fun b o h => by
    by_cases q : b = (He.cT K (x, none)).2
    · subst q; rw [gup_same] at h; cases h; exact tab
    · rw [gup_ne q] at h; cases h
  rcases hS with (h | ⟨o, h⟩) | h
  · have ne : (He.cT K (x, none)).2 ≠ a := fun z => by rw [z, h] at hP; cases hP
    refine key (.ref a) (gup (gup (fun _ => none) (He.cT K (x, none)).2 (.tbl x)) a (.lst (ns.map .int))) rfl (fun b o q => ?_) (by show (match gup _ a _ a with | some (.lst xs) => some xs | _ => none) = _; rw [gup_same]) (by rw [gup_ne ne, gup_same])
    by_cases e : b = a
    · subst e; rw [gup_same] at q; cases q; exact ⟨_, h, Has.ints H ns⟩
    · rw [gup_ne e] at q; exact one b o q
  · exact key (.rol (ns.map .int)) _ ⟨a, ns.map .int, rfl, .inl ⟨o, h⟩, Has.ints H ns⟩ one rfl gup_same
  · exact key (.rol (ns.map .int)) _ ⟨a, ns.map .int, rfl, .inr h, Has.ints H ns⟩ one rfl gup_same
 ) only [↓Dl.qTrue])
/-! ### step by step -/
section
variable {Δ : Nat → Option Spec} {Γ : Gam} {E : XD} {σ : SD} {G : GH} {Q : QD}
theorem w_act {i : Nat} {f c : Addr} {x : Str} {cs : List (D × V)} {r : Run} (h1 : Γ.act = some (f, c, x, cs, r)) (h2 : σ[i]? = some (some (.ref f))) (h3 : G c = some (.cod x cs)) (q : r Q E G) : wpE Δ Γ (.act i) E σ G Q := by
  simp only [wpE, h1]; exact ⟨h2, h3, q⟩
theorem w_lamc {x : Str} {g : Nat} {b : Ex} {L : LSpec} (h1 : Γ.l g = some L) (h2 : Γ.me = some x) (h3 : ∃ P, G P = some (.tbl x)) (h4 : ∀ P y, G P = some (.tbl y) → y = x)
    (q : ∀ c cs, (∀ o, G c = some o → ∃ y us, o = .cod y us) → L (Γ.lw b σ) (gup G c (.cod x cs)) Q noX) : wpE Δ Γ (.lamc x g b) E σ G Q := by
  simp only [wpE, h1]; exact ⟨h2, h3, h4, q⟩
def calD (Δ : Nat → Option Spec) (Γ : Gam) (cs : List (Str × Nat)) (es : Exs) (E : XD) (σ : SD) (Q : QD) (x : D) (G : GH) : Prop := match x with
  | .fn n => match cs.lookup n with
    | some f => match Δ f with | some sp => wpEs Δ Γ es E σ G fun xs G2 => sp xs G2 Q E | none => False
    | none => False
  | _ => False
theorem w_cal {e : Ex} {cs : List (Str × Nat)} {es : Exs} (q : wpE Δ Γ e E σ G fun x G1 => calD Δ Γ cs es E σ Q x G1) : wpE Δ Γ (.cal e cs es) E σ G Q := q
theorem cal_fn {cs : List (Str × Nat)} {es : Exs} {n : Str} {f : Nat} {sp : Spec} (h : cs.lookup n = some f) (hd : Δ f = some sp) (q : wpEs Δ Γ es E σ G fun xs G2 => sp xs G2 Q E) : calD Δ Γ cs es E σ Q (.fn n) G := by
  simp only [calD, h, hd]; exact q
/-- no code object is known -/
def NoCod (G : GH) : Prop := ∀ a y us, G a ≠ some (.cod y us)
/-- but one table -/
def OneTab (x : Str) (G : GH) : Prop := (∃ P, G P = some (.tbl x)) ∧ ∀ P y, G P = some (.tbl y) → y = x
theorem NoCod.gup {a : Addr} {o : GO} (h : NoCod G) (n : ∀ y us, o ≠ .cod y us) : NoCod (gup G a o) := fun b y us e => by
  unfold Dl.gup at e
  split at e
  · cases e; exact n _ _ rfl
  · exact h b y us e
theorem OneTab.gup {x : Str} {a : Addr} {o : GO} (h : OneTab x G) (n : ∀ y, o ≠ .tbl y) (ha : ∀ y, G a ≠ some (.tbl y)) : OneTab x (gup G a o) := Dl.unQ (by
 simp (disch := with_unfolding_all
  refine @id _ ?_
  obtain ⟨⟨P, hP⟩, h2⟩ := h
  refine ⟨⟨P, ?_⟩, fun P' y e => ?_⟩
  · rw [gup_ne (fun z => ha x (by rw [← z]; exact hP))]; exact hP
  · unfold Dl.gup at e
    split at e
    · cases e; exact absurd rfl (n y)
    · exact h2 P' y e
 ) only [↓Dl.qTrue])
theorem lam_le {c : Addr} {x : Str} {cs : List (D × V)} (h : NoCod G) (hc : ∀ o, G c = some o → ∃ y us, o = .cod y us) : Le G (gup G c (.cod x cs)) := Le.new (by
  cases e : G c with
  | none => rfl
  | some o =>
    obtain ⟨y, us, rfl⟩ := hc o e
    exact absurd e (h c y us))
end
/-- the law's end, with the table of its lambdas -/
theorem walk_ofWT {l : PySem.W.OpenLaw} {n k : Nat} {q : Program} {loose : List Str} {XP : (Str → Option Value) → Heap → Prop} {YP : World → Heap → Prop} {d : DefRec} {x y : Str}
    (hn : l.most = some n) (hn2 : n ≤ sizeLine) (hn3 : n ≤ 63) (hdf : d.params.defaults = []) (hr : Room k callerA)
    (F : ∀ (w : World) (mg : Str → Option Value) (fa : Addr) (h : Heap), YP w h → h.Ns mainGlobals mg → mg d.name = some (.ref fa) →
      ∃ (K : PySem.W.Frag) (fd : FuncData), K.In h ∧ (∀ (s : Shared) (u : Value), BindsTo s fd ⟨[u], []⟩ [(x, u)]) ∧
        PySem.W.codeHdIn K (He.cT K (y, none)).1 (He.cT K (y, none)).2 = true ∧ K.lookup (He.cT K (y, none)).2 = none ∧ h.get? (He.cT K (y, none)).2 = some { cls := .none, data := .fields #[] } ∧
        ∀ base : Heap, K.In base → base.Ns mainGlobals mg → LamX.TabB base mg (He.cT K (y, none)).1 (He.cT K (y, none)).2 → FnOk l.prog w K mg base (L2.CX l.prog w) k fa fd [x] (liftSp K 1 (spLawT y))) :
    PySem.W.WalkO q loose XP YP l.row.toRowW d [] (fun f vs => PySem.call f vs) := Dl.unQ (by
 simp (disch := with_unfolding_all
  refine @id _ ?_
  refine LamX.walk_ofTsE (x := x) (CX := fun w => L2.CX l.prog w) hn hn2 hdf hr (fun w mg fa h Y G hmg => ?_) fun w H s e s' ⟨_, _, _, _, _, _, _, _, _, _, _, _, z⟩ => z
  obtain ⟨K, fd, KX, hb, h1, h2, h3, hF⟩ := F w mg fa h Y G hmg
  refine ⟨K, KX, fd, [He.cT K (y, none)], liftSp K 1 (spLawT y), fun p hp => ?_, fun p hp => ?_, fun p hp => ?_, hb, fun H a ns hl _ hH hS => law_startsT (Nat.le_trans hl hn3) (hH _ (List.mem_singleton.mpr rfl)) hS, fun base k1 k2 k3 => hF base k1 k2 (k3 _ (List.mem_singleton.mpr rfl))⟩
  · rw [List.mem_singleton.mp hp]; exact h3
  · rw [List.mem_singleton.mp hp]; exact h2
  · rw [List.mem_singleton.mp hp]; exact PySem.W.codeHd_of_K KX h1
 ) only [↓Dl.qTrue])
end Dl
section
set_option maxRecDepth 100000
set_option maxHeartbeats 4000000
namespace Dl
open PySem PySem.Spec PyProof.Rows L2
local macro_rules | `(tactic| walk_at "heap") => `(tactic| with_reducible first | assumption | exact gup_same | (refine (gup_ne (by first | assumption | exact Ne.symm (by assumption) | exact ne_some (by assumption) (by assumption))).trans ?_; walk_at "heap") | walk_at "heap2")
local macro_rules | `(tactic| walk_at "s") => `(tactic| first
  | ((with_reducible refine gd_wpSs ?_); first
    | ((with_reducible refine s_cons ?_))
    | ((with_reducible refine s_nil ?_))
    | walk_at "own")
  | ((with_reducible refine gd_wpS ?_); first
    | ((with_reducible refine s_asg ?_))
    | ((with_reducible refine s_asc ?_))
    | ((with_reducible refine s_exp ?_))
    | ((with_reducible refine s_ret ?_))
    | ((with_reducible refine s_retN ?_))
    | ((with_reducible refine s_ifs ?_))
    | ((with_reducible refine s_for ?_))
    | ((with_reducible refine s_whl ?_))
    | ((with_reducible refine s_rai0 ?_))
    | ((with_reducible refine s_rai ?_))
    | ((with_reducible refine s_pas ?_))
    | ((with_reducible refine s_brk ?_))
    | ((with_reducible refine s_cnt ?_))
    | walk_at "own")
  | ((with_reducible refine gd_wpE ?_); first
    | ((with_reducible refine' w_var ?k1 ?_); (case k1 => rfl))
    | ((with_reducible refine' w_glob ?k1 ?_); (case k1 => assumption))
    | ((with_reducible refine' w_call ?k1 ?_); (case k1 => assumption))
    | ((with_reducible refine w_int ?_))
    | ((with_reducible refine w_str ?_))
    | ((with_reducible refine w_tup ?_))
    | ((with_reducible refine w_lst ?_))
    | ((with_reducible refine w_bin ?_))
    | ((with_reducible refine w_cmp ?_))
    | ((with_reducible refine w_ix ?_))
    | ((with_reducible refine w_blt ?_))
    | ((with_reducible refine w_met ?_))
    | ((with_reducible refine w_sset ?_))
    | ((with_reducible refine w_lrr ?_))
    | ((with_reducible refine w_non ?_))
    | ((with_reducible refine w_bl ?_))
    | ((with_reducible refine w_neg ?_))
    | ((with_reducible refine w_nt ?_))
    | ((with_reducible refine w_cmp2 ?_))
    | ((with_reducible refine w_boo ?_))
    | ((with_reducible refine w_ife ?_))
    | ((with_reducible refine w_slc ?_))
    | ((with_reducible refine w_isi ?_))
    | ((with_reducible refine w_fld ?_))
    | ((with_reducible refine w_gfn ?_))
    | ((with_reducible refine w_dsp ?_))
    | ((with_reducible refine' w_mth ?k1 ?_); (case k1 => assumption))
    | ((with_reducible refine' w_mk ?k1 ?_); (case k1 => assumption))
    | ((with_reducible refine' w_comp ?k1 ?_); (case k1 => (first | (simp only [wipeD, List.map_cons, List.map_nil, List.set_cons_zero, List.set_cons_succ]; rfl) | rfl)))
    | ((with_reducible refine' w_isx ?k1 ?k2 ?_); (case k1 => rfl); (case k2 => rfl))
    | ((with_reducible refine' w_xat ?k1 ?k2 ?k3 ?k4 ?_); (case k1 => rfl); (case k2 => rfl); (case k3 => rfl); (case k4 => rfl))
    | (with_reducible refine' w_comp ?_ ?_)
    | walk_at "own")
  | ((with_reducible refine gd_wpEs ?_); first
    | ((with_reducible refine w_nil ?_))
    | ((with_reducible refine w_cons ?_))
    | walk_at "own")
  | ((with_reducible refine gd_wpO ?_); first
    | ((with_reducible refine w_ono ?_))
    | ((with_reducible refine w_oso ?_))
    | walk_at "own")
  | ((with_reducible refine gd_wpB ?_); first
    | ((with_reducible refine w_b1 ?_))
    | ((with_reducible refine w_bA ?_))
    | ((with_reducible refine w_bO ?_))
    | walk_at "own")
  | ((with_reducible refine gd_wpT ?_); first
    | ((with_reducible refine' t_var ?k1 ?_); (case k1 => rfl))
    | ((with_reducible refine' t_call ?k1 ?_); (case k1 => assumption))
    | ((with_reducible refine' t_mth ?k1 ?_); (case k1 => assumption))
    | ((with_reducible refine t_nt ?_))
    | ((with_reducible refine t_boo ?_))
    | ((with_reducible refine t_cmp ?_))
    | ((with_reducible refine t_cmp2 ?_))
    | ((with_reducible refine t_bl ?_))
    | ((with_reducible refine t_ix ?_))
    | ((with_reducible refine t_isi ?_))
    | ((with_reducible refine' t_isx ?k1 ?k2 ?_); (case k1 => rfl); (case k2 => rfl))
    | walk_at "own")
  | ((with_reducible refine gd_wpTs ?_); first
    | ((with_reducible refine t_1 ?_))
    | ((with_reducible refine t_A ?_))
    | ((with_reducible refine t_O ?_))
    | walk_at "own")
  | ((with_reducible refine gd_wpF ?_); first
    | ((with_reducible refine f_nil ?_))
    | ((with_reducible refine f_one ?_))
    | walk_at "own")
  | ((with_reducible refine gd_wpI ?_); first
    | ((with_reducible refine i_val ?_))
    | ((with_reducible refine i_rn ?_))
    | ((with_reducible refine i_rn2 ?_))
    | ((with_reducible refine i_enu ?_))
    | ((with_reducible refine i_rev ?_))
    | walk_at "own")
  | ((with_reducible refine gd_wpG ?_); first
    | ((with_reducible refine' g_name ?k1 ?_); (case k1 => (first | (simp only [List.set_cons_zero, List.set_cons_succ]; done) | (simp only [List.set_cons_zero, List.set_cons_succ]; rfl) | rfl)))
    | ((with_reducible refine' g_tup ?k1 ?_); (case k1 => rfl))
    | ((with_reducible refine g_sub ?_))
    | ((with_reducible refine g_att ?_))
    | (with_reducible refine' g_name ?_ ?_)
    | walk_at "own")
  | ((with_reducible refine gd_wpGs ?_); first
    | ((with_reducible refine g_nil ?_))
    | ((with_reducible refine g_cons ?_))
    | walk_at "own")
  | ((with_reducible refine gd_ascD ?_); first
    | ((with_reducible refine' s_ascD ?k1 ?_); (case k1 => (first | (simp only [List.set_cons_zero, List.set_cons_succ]; done) | (simp only [List.set_cons_zero, List.set_cons_succ]; rfl) | rfl)))
    | (with_reducible refine' s_ascD ?_ ?_)
    | walk_at "own")
  | ((with_reducible refine gd_ntD ?_); first
    | ((with_reducible refine n_bl ?_))
    | walk_at "own")
  | ((with_reducible refine gd_boD ?_); first
    | ((with_reducible refine b_bl ?_))
    | walk_at "own")
  | ((with_reducible refine gd_inO ?_); first
    | ((with_reducible refine in_i ?_))
    | walk_at "own")
  | ((with_reducible refine gd_negD ?_); first
    | ((with_reducible refine neg_i ?_))
    | walk_at "own")
  | ((with_reducible refine gd_opD ?_); first
    | ((with_reducible refine o_add ?_))
    | ((with_reducible refine o_sub ?_))
    | ((with_reducible refine' o_mul ?k1 ?_); (case k1 => (first | exact .inl (.inl ⟨by omega, by omega⟩) | exact .inl (.inr ⟨by omega, by omega⟩))))
    | ((with_reducible refine' o_fdiv ?k1 ?_); (case k1 => (first | exact div_ok (by omega) (by omega))))
    | ((with_reducible refine' o_mod ?k1 ?_); (case k1 => omega))
    | ((with_reducible refine' o_pow ?k1 ?_); (case k1 => (first | exact pow_ok (by decide) (by decide) (by decide))))
    | ((with_reducible refine' o_cat ?k1 ?_); (case k1 => (simp only [List.length_nil, List.length_cons, List.length_map, List.length_append, List.length_take, List.length_drop, List.length_replicate, sizeLine_eq]; omega)))
    | ((with_reducible refine' o_addL ?k1 ?k2 ?k3 ?_); (case k1 => walk_at "heap"); (case k2 => walk_at "heap"); (case k3 => (simp only [List.length_nil, List.length_cons, List.length_map, List.length_append, List.length_take, List.length_drop, List.length_replicate, sizeLine_eq]; omega)))
    | ((with_reducible refine' o_rep ?k1 ?_); (case k1 => (refine ⟨by simp, ?_, ?_, by simp⟩ <;> first | omega | (simp only [List.length_map]; omega))))
    | ((with_reducible refine' o_adds ?k1 ?_); (case k1 => (first | decide | omega)))
    | (with_reducible refine' o_mul ?_ ?_)
    | (with_reducible refine' o_fdiv ?_ ?_)
    | (with_reducible refine' o_mod ?_ ?_)
    | (with_reducible refine' o_pow ?_ ?_)
    | (with_reducible refine' o_cat ?_ ?_)
    | (with_reducible refine' o_addL ?_ ?_ ?_ ?_)
    | (with_reducible refine' o_rep ?_ ?_)
    | (with_reducible refine' o_adds ?_ ?_)
    | walk_at "own")
  | ((with_reducible refine gd_cmpD ?_); first
    | ((with_reducible refine c_lt ?_))
    | ((with_reducible refine c_le ?_))
    | ((with_reducible refine c_gt ?_))
    | ((with_reducible refine c_ge ?_))
    | ((with_reducible refine c_is ?_))
    | ((with_reducible refine c_isn ?_))
    | ((with_reducible refine c_eq_i ?_))
    | ((with_reducible refine c_ne_i ?_))
    | ((with_reducible refine c_eq_t ?_))
    | ((with_reducible refine c_ne_t ?_))
    | ((with_reducible refine c_eq_b ?_))
    | ((with_reducible refine c_ne_b ?_))
    | ((with_reducible refine' c_in_l ?k1 ?_); (case k1 => walk_at "heap"))
    | ((with_reducible refine' c_ne_nil ?k1 ?k2 ?_); (case k1 => walk_at "heap"); (case k2 => walk_at "heap"))
    | ((with_reducible refine' c_eq_nil ?k1 ?k2 ?_); (case k1 => walk_at "heap"); (case k2 => walk_at "heap"))
    | ((with_reducible refine' c_eq_lit ?k1 ?k2 ?k3 ?_); (case k1 => (first | assumption | decide +kernel)); (case k2 => (first | assumption | decide +kernel)); (case k3 => (first | exact decide_eq_true rfl | exact decide_eq_false (by decide +kernel))))
    | ((with_reducible refine' c_ne_lit ?k1 ?k2 ?k3 ?_); (case k1 => (first | assumption | decide +kernel)); (case k2 => (first | assumption | decide +kernel)); (case k3 => (first | exact decide_eq_true rfl | exact decide_eq_false (by decide +kernel))))
    | ((with_reducible refine' c_eq_s ?k1 ?k2 ?_); (case k1 => (first | assumption | decide +kernel)); (case k2 => (first | assumption | decide +kernel)))
    | ((with_reducible refine' c_ne_s ?k1 ?k2 ?_); (case k1 => (first | assumption | decide +kernel)); (case k2 => (first | assumption | decide +kernel)))
    | (with_reducible refine' c_in_l ?_ ?_)
    | ((with_reducible refine' c_ne_nil ?k1 ?_ ?_); (case k1 => walk_at "heap"))
    | (with_reducible refine' c_ne_nil ?_ ?_ ?_)
    | ((with_reducible refine' c_eq_nil ?k1 ?_ ?_); (case k1 => walk_at "heap"))
    | (with_reducible refine' c_eq_nil ?_ ?_ ?_)
    | walk_at "own")
  | ((with_reducible refine gd_ixD ?_); first
    | ((with_reducible refine' x_tup ?k1 ?_); (case k1 => rfl))
    | ((with_reducible refine' x_lst ?k1 ?k2 ?_); (case k1 => walk_at "heap"); (case k2 => rfl))
    | ((with_reducible refine' x_ti ?k1 ?_); (case k1 => (first | (constructor <;> omega) | (simp only [List.length_map, List.length_set, List.length_append, List.length_cons, List.length_nil]; constructor <;> omega))))
    | ((with_reducible refine' x_li ?k1 ?k2 ?_); (case k1 => walk_at "heap"); (case k2 => (first | (constructor <;> omega) | (simp only [List.length_map, List.length_set, List.length_append, List.length_cons, List.length_nil]; constructor <;> omega))))
    | ((with_reducible refine' x_tb ?k1 ?_); (case k1 => (first | (constructor <;> omega) | (simp only [List.length_map, List.length_set, List.length_append, List.length_cons, List.length_nil]; constructor <;> omega))))
    | ((with_reducible refine' x_lb ?k1 ?k2 ?_); (case k1 => walk_at "heap"); (case k2 => (first | (constructor <;> omega) | (simp only [List.length_map, List.length_set, List.length_append, List.length_cons, List.length_nil]; constructor <;> omega))))
    | ((with_reducible refine' x_dk ?k1 ?k2 ?k3 ?_); (case k1 => walk_at "heap"); (case k2 => rfl); (case k3 => rfl))
    | (with_reducible refine' x_ti ?_ ?_)
    | ((with_reducible refine' x_li ?k1 ?_ ?_); (case k1 => walk_at "heap"))
    | (with_reducible refine' x_li ?_ ?_ ?_)
    | ((with_reducible refine' x_lb ?k1 ?_ ?_); (case k1 => walk_at "heap"))
    | (with_reducible refine' x_lb ?_ ?_ ?_)
    | walk_at "own")
  | ((with_reducible refine gd_slD ?_); first
    | ((with_reducible refine sl_t ?_))
    | ((with_reducible refine' sl_l ?k1 ?_); (case k1 => walk_at "heap"))
    | (with_reducible refine' sl_l ?_ ?_)
    | walk_at "own")
  | ((with_reducible refine gd_setD ?_); first
    | ((with_reducible refine' st_l ?k1 ?k2 ?_); (case k1 => walk_at "heap"); (case k2 => rfl))
    | ((with_reducible refine' st_b ?k1 ?k2 ?_); (case k1 => walk_at "heap"); (case k2 => (first | (constructor <;> omega) | (simp only [List.length_map, List.length_set, List.length_append, List.length_cons, List.length_nil]; constructor <;> omega))))
    | ((with_reducible refine' st_dk ?k1 ?k2 ?k3 ?_); (case k1 => walk_at "heap"); (case k2 => rfl); (case k3 => (simp only [List.length_nil, List.length_cons, List.length_map, List.length_append, List.length_take, List.length_drop, List.length_replicate, sizeLine_eq]; omega)))
    | ((with_reducible refine' st_b ?k1 ?_ ?_); (case k1 => walk_at "heap"))
    | (with_reducible refine' st_b ?_ ?_ ?_)
    | (with_reducible refine' st_dk ?_ ?_ ?_ ?_)
    | walk_at "own")
  | ((with_reducible refine gd_bfD ?_); first
    | ((with_reducible refine b_max ?_))
    | ((with_reducible refine b_min ?_))
    | ((with_reducible refine b_tupT ?_))
    | ((with_reducible refine b_lenT ?_))
    | ((with_reducible refine b_listT ?_))
    | ((with_reducible refine b_listR ?_))
    | ((with_reducible refine b_int ?_))
    | ((with_reducible refine b_intb ?_))
    | ((with_reducible refine' b_tupL ?k1 ?_); (case k1 => walk_at "heap"))
    | ((with_reducible refine' b_lenL ?k1 ?_); (case k1 => walk_at "heap"))
    | ((with_reducible refine' b_listL ?k1 ?_); (case k1 => walk_at "heap"))
    | ((with_reducible refine' b_dict ?k1 ?_); (case k1 => walk_at "heap"))
    | ((with_reducible refine' b_sortI ?k1 ?k2 ?_); (case k1 => walk_at "heap"); (case k2 => (first | omega | (simp only [List.length_nil, List.length_cons, List.length_map, List.length_append]; omega))))
    | (with_reducible refine' b_tupL ?_ ?_)
    | (with_reducible refine' b_lenL ?_ ?_)
    | (with_reducible refine' b_listL ?_ ?_)
    | (with_reducible refine' b_dict ?_ ?_)
    | ((with_reducible refine' b_sortI ?k1 ?_ ?_); (case k1 => walk_at "heap"))
    | (with_reducible refine' b_sortI ?_ ?_ ?_)
    | walk_at "own")
  | ((with_reducible refine gd_bmD ?_); first
    | ((with_reducible refine' m_app ?k1 ?k2 ?_); (case k1 => walk_at "heap"); (case k2 => (simp only [List.length_nil, List.length_cons, List.length_map, List.length_append, List.length_take, List.length_drop, List.length_replicate, sizeLine_eq]; omega)))
    | ((with_reducible refine' m_popI ?k1 ?_); (case k1 => walk_at "heap"))
    | ((with_reducible refine' m_pop ?k1 ?_); (case k1 => walk_at "heap"))
    | ((with_reducible refine' m_get ?k1 ?k2 ?_); (case k1 => walk_at "heap"); (case k2 => rfl))
    | ((with_reducible refine' m_app ?k1 ?_ ?_); (case k1 => walk_at "heap"))
    | (with_reducible refine' m_app ?_ ?_ ?_)
    | (with_reducible refine' m_popI ?_ ?_)
    | (with_reducible refine' m_pop ?_ ?_)
    | ((with_reducible refine' m_get ?k1 ?_ ?_); (case k1 => walk_at "heap"))
    | (with_reducible refine' m_get ?_ ?_ ?_)
    | walk_at "own")
  | ((with_reducible refine gd_And ?_); first
    | ((with_reducible refine' bt_app ?k1 ?_); (case k1 => walk_at "heap"))
    | ((with_reducible refine' bt_pop ?k1 ?_); (case k1 => walk_at "heap"))
    | ((with_reducible refine' bt_cou ?k1 ?_); (case k1 => walk_at "heap"))
    | ((with_reducible refine' bt_ind ?k1 ?_); (case k1 => walk_at "heap"))
    | ((with_reducible refine' bt_rev ?k1 ?_); (case k1 => walk_at "heap"))
    | ((with_reducible refine' bt_get ?k1 ?_); (case k1 => walk_at "heap"))
    | ((with_reducible refine' and_len ?k1 ?_); (case k1 => (first | (simp; done) | (simp only [List.length_nil, List.length_cons, List.length_map, List.length_append]; omega))))
    | ((with_reducible refine' m_thd ?k1 ?k2 ?_); (case k1 => walk_at "heap"); (case k2 => rfl))
    | (with_reducible refine' bt_app ?_ ?_)
    | (with_reducible refine' bt_pop ?_ ?_)
    | (with_reducible refine' bt_cou ?_ ?_)
    | (with_reducible refine' bt_ind ?_ ?_)
    | (with_reducible refine' bt_rev ?_ ?_)
    | (with_reducible refine' bt_get ?_ ?_)
    | (with_reducible refine' and_len ?_ ?_)
    | walk_at "own")
  | ((with_reducible refine gd_fldD ?_); first
    | ((with_reducible refine' f_get ?k1 ?k2 ?_); (case k1 => walk_at "heap"); (case k2 => rfl))
    | walk_at "own")
  | ((with_reducible refine gd_attD ?_); first
    | ((with_reducible refine' f_att ?k1 ?k2 ?_); (case k1 => walk_at "heap"); (case k2 => decide))
    | walk_at "own")
  | ((with_reducible refine gd_truD ?_); first
    | ((with_reducible refine tr_bl ?_))
    | ((with_reducible refine tr_non ?_))
    | ((with_reducible refine tr_int ?_))
    | ((with_reducible refine' tr_l ?k1 ?_); (case k1 => walk_at "heap"))
    | (with_reducible refine' tr_l ?_ ?_)
    | walk_at "own")
  | ((with_reducible refine gd_walkD ?_); first
    | ((with_reducible refine v_tup ?_))
    | ((with_reducible refine v_rol ?_))
    | ((with_reducible refine v_str ?_))
    | ((with_reducible refine' v_lst ?k1 ?_); (case k1 => walk_at "heap"))
    | (with_reducible refine' v_lst ?_ ?_)
    | walk_at "own")
  | ((with_reducible refine gd_rngD ?_); first
    | ((with_reducible refine' v_rng ?k1 ?_); (case k1 => (first | (constructor <;> omega))))
    | (with_reducible refine' v_rng ?_ ?_)
    | walk_at "own")
  | ((with_reducible refine gd_rngD2 ?_); first
    | ((with_reducible refine' v_rng2 ?k1 ?_); (case k1 => omega))
    | (with_reducible refine' v_rng2 ?_ ?_)
    | walk_at "own")
  | ((with_reducible refine gd_enuD ?_); first
    | ((with_reducible refine v_enu ?_))
    | walk_at "own")
  | ((with_reducible refine gd_revD ?_); first
    | ((with_reducible refine v_rev ?_))
    | walk_at "own")
  | ((with_reducible refine gd_isiD ?_); first
    | ((with_reducible refine is_ib ?_))
    | ((with_reducible refine is_ii ?_))
    | ((with_reducible refine is_bb ?_))
    | ((with_reducible refine is_tt ?_))
    | ((with_reducible refine' is_ll ?k1 ?_); (case k1 => walk_at "heap"))
    | (with_reducible refine' is_ll ?_ ?_)
    | walk_at "own")
  | ((with_reducible refine gd_ite ?_); first
    | ((with_reducible refine iteT ?_))
    | ((with_reducible refine iteF ?_))
    | ((with_reducible refine iteNT ?_))
    | ((with_reducible refine iteNF ?_))
    | ((with_reducible refine iteEq ?_))
    | ((with_reducible refine iteNe ?_))
    | ((with_reducible refine' iteD1 ?k1 ?_); (case k1 => (first | assumption | omega)))
    | ((with_reducible refine' iteD0 ?k1 ?_); (case k1 => (first | assumption | omega)))
    | ((with_reducible refine' iteN1 ?k1 ?_); (case k1 => (first | assumption | omega)))
    | ((with_reducible refine' iteN0 ?k1 ?_); (case k1 => (first | assumption | omega)))
    | walk_at "own")
  | walk_at "own")
local macro_rules | `(tactic| walk_at "pre") => `(tactic| fail "no step")
local macro_rules | `(tactic| walk_at "w") => `(tactic| repeat' first | walk_at "pre" | walk_at "s" | (with_reducible refine s_wk ?_))
local macro_rules | `(tactic| walk_at "v") => `(tactic| repeat' first | walk_at "pre" | walk_at "s")
set_option maxRecDepth 100000
set_option maxHeartbeats 2000000
section
open PySem PySem.Spec PyProof.Rows L2
/-! ### the law's drawn numbers -/
structure HS where
  s : Int
  c : Int
  cells : List Int
def HS.ok (S : HS) : Prop := 0 ≤ S.s ∧ S.s < 2147483647 ∧ 0 ≤ S.c ∧ S.cells.length ≤ 63
def atH (G : GH) (a b : Addr) (S : HS) : Prop := a ≠ b ∧ G a = some (.lst [.int S.s, .ref b, .int S.c]) ∧ G b = some (.lst (S.cells.map .int))
def hG (G : GH) (a b : Addr) (S : HS) : GH := gup (gup G b (.lst (S.cells.map .int))) a (.lst [.int S.s, .ref b, .int S.c])
theorem hG_a {G : GH} {a b : Addr} {S : HS} : hG G a b S a = some (.lst [.int S.s, .ref b, .int S.c]) := gup_same
theorem hG_b {G : GH} {a b : Addr} {S : HS} (h : a ≠ b) : hG G a b S b = some (.lst (S.cells.map .int)) := by
  unfold hG; rw [gup_ne (Ne.symm h), gup_same]
theorem hG_ne {G : GH} {a b x : Addr} {S : HS} (h : x ≠ a) (g : x ≠ b) : hG G a b S x = G x := by
  unfold hG; rw [gup_ne h, gup_ne g]
theorem hG_at {G : GH} {a b : Addr} {S : HS} (h : a ≠ b) : atH (hG G a b S) a b S := ⟨h, hG_a, hG_b h⟩
theorem hG_hG {G : GH} {a b : Addr} {S S' : HS} : hG (hG G a b S) a b S' = hG G a b S' := Dl.unQ (by
 simp (disch := with_unfolding_all
  refine @id _ ?_
  funext x
  by_cases h : x = a
  · subst h; rw [hG_a, hG_a]
  · by_cases g : x = b
    · subst g; rw [hG_b (Ne.symm h), hG_b (Ne.symm h)]
    · rw [hG_ne h g, hG_ne h g, hG_ne h g]
 ) only [↓Dl.qTrue])
theorem hG_gup {G : GH} {a b p : Addr} {S : HS} {o : GO} (h : p ≠ a) (g : p ≠ b) : hG (gup G p o) a b S = gup (hG G a b S) p o := Dl.unQ (by
 simp (disch := with_unfolding_all
  refine @id _ ?_
  funext x
  by_cases hx : x = p
  · subst hx; rw [hG_ne h g, gup_same, gup_same]
  · rw [gup_ne hx]
    by_cases h1 : x = a
    · subst h1; rw [hG_a, hG_a]
    · by_cases h2 : x = b
      · subst h2; rw [hG_b (Ne.symm h1), hG_b (Ne.symm h1)]
      · rw [hG_ne h1 h2, hG_ne h1 h2, gup_ne hx]
 ) only [↓Dl.qTrue])
theorem le_hG {G G' : GH} {a b : Addr} {S : HS} (h1 : G' a = some (.lst [.int S.s, .ref b, .int S.c])) (h2 : G' b = some (.lst (S.cells.map .int))) (h3 : ∀ x o, x ≠ a → x ≠ b → G x = some o → G' x = some o) : Le (hG G a b S) G' := fun x o e => by
  by_cases h : x = a
  · subst h; rw [hG_a] at e; cases e; exact h1
  · by_cases g : x = b
    · subst g; rw [hG_b (Ne.symm h)] at e; cases e; exact h2
    · rw [hG_ne h g] at e; exact h3 x o h g e
def spNext : Spec := fun ds G Q _ => ∃ a b S m, ds = [.ref a, .int m] ∧ atH G a b S ∧ S.ok ∧ 1 ≤ m ∧ m ≤ 1000000000 ∧ ∀ r S', 0 ≤ r → r < m → S'.ok → S'.cells.length = S.cells.length → Q (.int r) (hG G a b S')
local macro_rules | `(tactic| walk_at "own") => `(tactic| fail "no step")
local macro_rules | `(tactic| walk_at "heap2") => `(tactic| first | exact hG_a | exact hG_b (by assumption) | (refine (hG_ne (by first | assumption | exact Ne.symm (by assumption)) (by first | assumption | exact Ne.symm (by assumption))).trans ?_; walk_at "heap"))
/-- 29: law._law_next.d345(0 _law_h, 1 _law_many, 2 _law_at, 3 _law_cell) -/
def B_law_law_next_d345 : Sms :=
  (.cons (.asg (.name 2) (.bin .Mod (.ix (.var 0) (.int 2)) (.blt .max (.cons (.int 1) (.cons (.blt .len (.cons (.ix (.var 0) (.int 1)) .nil)) .nil)))))
  (.cons (.asg (.name 3) (.ife (.cmp .NotEq (.ix (.var 0) (.int 1)) (.lst .nil)) (.ix (.ix (.var 0) (.int 1)) (.var 2)) (.int 0)))
  (.cons (.ifs (.cmp .GtE (.var 3) (.bin .Pow (.int 10) (.int 18)))
  (.cons (.asg (.sub (.ix (.var 0) (.int 1)) (.var 2)) (.bin .FloorDiv (.var 3) (.var 1)))
  (.cons (.ret (.bin .Mod (.var 3) (.var 1)))
  .nil))
  .nil)
  (.cons (.asg (.sub (.var 0) (.int 0)) (.bin .Mod (.bin .Add (.bin .Add (.bin .Mult (.ix (.var 0) (.int 0)) (.int 48271)) (.bin .Mult (.var 3) (.int 69621))) (.int 11)) (.int 2147483647)))
  (.cons (.asg (.sub (.var 0) (.int 2)) (.bin .Add (.ix (.var 0) (.int 2)) (.int 1)))
  (.cons (.ret (.bin .Mod (.bin .FloorDiv (.ix (.var 0) (.int 0)) (.int 7)) (.var 1)))
  .nil))))))
theorem next_i {G : GH} {a c : Addr} {S : HS} {m : Int} {Q : QD} {E : XD} (hat : atH G a c S) (ok : S.ok) (h : 1 ≤ m ∧ m ≤ 1000000000) (q : ∀ r S', 0 ≤ r → r < m → S'.ok → Q (.int r) (hG G a c S')) : spNext [.ref a, .int m] G Q E :=
  ⟨a, c, S, m, rfl, hat, ok, h.1, h.2, fun r S' h1 h2 h3 _ => q r S' h1 h2 h3⟩
theorem at_gup {G : GH} {a c p : Addr} {S : HS} {o : GO} (h : atH G a c S) (pa : p ≠ a) (pc : p ≠ c) : atH (gup G p o) a c S := ⟨h.1, by rw [gup_ne (Ne.symm pa)]; exact h.2.1, by rw [gup_ne (Ne.symm pc)]; exact h.2.2⟩
theorem hash_ok (m s x : Int) (h : 1 ≤ m) : 0 ≤ (s * 48271 + x * 69621 + 11) % 2147483647 / 7 % m ∧ (s * 48271 + x * 69621 + 11) % 2147483647 / 7 % m < m ∧ 0 ≤ (s * 48271 + x * 69621 + 11) % 2147483647 ∧ (s * 48271 + x * 69621 + 11) % 2147483647 < 2147483647 :=
  ⟨Int.emod_nonneg _ (by omega), Int.emod_lt_of_pos _ (by omega), Int.emod_nonneg _ (by decide), Int.emod_lt_of_pos _ (by decide)⟩
theorem meet_next (Δ : Nat → Option Spec) (Γ : Gam) : Meet Δ Γ 4 2 B_law_law_next_d345 spNext := Dl.unQ (by
 simp (disch := with_unfolding_all
  refine @id _ ?_
  intro ds G Q E _ h
  obtain ⟨a, b, S, m, rfl, ⟨hab, ha, hb⟩, ⟨o1, o2, o3, o4⟩, m1, m2, q⟩ := h
  obtain ⟨s, c, cells⟩ := S
  simp only at ha hb o1 o2 o3 o4 q
  show wpSs _ _ _ _ [some (.ref a), some (.int m), none, none] G
  unfold B_law_law_next_d345
  walk_at "w"
  intro p hp
  have np : a ≠ p := ne_some ha hp
  have nb : b ≠ p := ne_some hb hp
  walk_at "w"
  refine ite_nd (fun hc => ?_) (fun hc => ?_)
  · have hl : 0 < cells.length := List.length_pos_iff.mpr hc
    generalize hat : c % (if ((List.map D.int cells).length : Int) > 1 then ((List.map D.int cells).length : Int) else 1) = j
    have hj : 0 ≤ j ∧ j < cells.length := by
      rw [List.length_map] at hat
      subst hat
      split
      · exact ⟨Int.emod_nonneg _ (by omega), Int.emod_lt_of_pos _ (by omega)⟩
      · exact ⟨Int.emod_nonneg _ (by omega), by have := Int.emod_lt_of_pos c (b := 1) (by omega); omega⟩
    walk_at "w"
    refine ite_d (fun hbig => ?_) (fun hbig => ?_)
    · walk_at "w"
      refine ⟨hG G a b ⟨s, c, cells.set j.toNat (cells.getD j.toNat 0 / m)⟩, le_hG ?_ ?_ ?_, q _ _ (Int.emod_nonneg _ (by omega)) (Int.emod_lt_of_pos _ (by omega)) ⟨o1, o2, o3, by simpa using o4⟩ (by simp)⟩
      · rw [gup_ne hab, gup_ne np]; exact ha
      · rw [gup_same, List.map_set]
      · intro x o h1 h2 h3
        rw [gup_ne h2, gup_ne (ne_some h3 hp)]; exact h3
    · walk_at "w"
      have hr := hash_ok m s (cells.getD j.toNat 0) m1
      refine ⟨hG G a b ⟨(s * 48271 + cells.getD j.toNat 0 * 69621 + 11) % 2147483647, c + 1, cells⟩, le_hG ?_ ?_ ?_, q _ _ hr.1 hr.2.1 ⟨hr.2.2.1, hr.2.2.2, by show 0 ≤ c + 1; omega, o4⟩ rfl⟩
      · rw [gup_same]; rfl
      · rw [gup_ne (Ne.symm hab), gup_ne (Ne.symm hab), gup_ne nb]; exact hb
      · intro x o h1 h2 h3
        rw [gup_ne h1, gup_ne h1, gup_ne (ne_some h3 hp)]; exact h3
  · walk_at "w"
    refine ite_d (fun hbig => absurd hbig (by decide)) (fun _ => ?_)
    walk_at "w"
    have hr := hash_ok m s 0 m1
    refine ⟨hG G a b ⟨(s * 48271 + 0 * 69621 + 11) % 2147483647, c + 1, cells⟩, le_hG ?_ ?_ ?_, q _ _ hr.1 hr.2.1 ⟨hr.2.2.1, hr.2.2.2, by show 0 ≤ c + 1; omega, o4⟩ rfl⟩
    · rw [gup_same]; rfl
    · rw [gup_ne (Ne.symm hab), gup_ne (Ne.symm hab), gup_ne nb]; exact hb
    · intro x o h1 h2 h3
      rw [gup_ne h1, gup_ne h1, gup_ne (ne_some h3 hp)]; exact h3
 ) only [↓Dl.qTrue])
end
set_option maxRecDepth 100000
set_option maxHeartbeats 2000000
section
open PySem PySem.Spec PyProof.Rows L2
local macro_rules | `(tactic| walk_at "own") => `(tactic| fail "no step")
local macro_rules | `(tactic| walk_at "heap2") => `(tactic| first | exact hG_a | exact hG_b (by assumption) | (refine (hG_ne (by first | assumption | exact Ne.symm (by assumption)) (by first | assumption | exact Ne.symm (by assumption))).trans ?_; walk_at "heap"))
/-- 4: machines.told(0 base, 1 figures, 2 found, 3 figure) -/
def B_machines_told : Sms :=
  (.cons (.asg (.name 2) (.int 0))
  (.cons (.fors (.name 3) (.rev (.var 1))
  (.cons (.asg (.name 2) (.bin .Add (.bin .Mult (.var 2) (.var 0)) (.var 3)))
  .nil))
  (.cons (.ret (.var 2))
  .nil)))
/-- 5: machines.figures_of(0 base, 1 number, 2 many, 3 found, 4 k) -/
def B_machines_figures_of : Sms :=
  (.cons (.asg (.name 3) (.lst .nil))
  (.cons (.fors (.name 4) (.rng (.var 2))
  (.cons (.exp (.met .append (.var 3) (.cons (.bin .Mod (.var 1) (.var 0)) .nil)))
  (.cons (.asg (.name 1) (.bin .FloorDiv (.var 1) (.var 0)))
  .nil)))
  (.cons (.ret (.blt .tuple (.cons (.var 3) .nil)))
  .nil)))
/-- 28: law._law_power.b721(0 _law_base, 1 _law_many, 2 _law_found, 3 _law_k) -/
def B_law_law_power_b721 : Sms :=
  (.cons (.asg (.name 2) (.int 1))
  (.cons (.fors (.name 3) (.rng (.var 1))
  (.cons (.asg (.name 2) (.bin .Mult (.var 2) (.var 0)))
  .nil))
  (.cons (.ret (.var 2))
  .nil)))
/-! ### numbers and rows -/
def toldN (b : Int) : List Int → Int
  | [] => 0
  | f :: r => f + b * toldN b r
def figsOf (b : Int) : Int → Nat → List Int
  | _, 0 => []
  | n, m + 1 => n % b :: figsOf b (n / b) m
theorem figsOf_len (b : Int) : ∀ (m : Nat) (n : Int), (figsOf b n m).length = m
  | 0, _ => rfl
  | m + 1, n => by simp [figsOf, figsOf_len b m]
theorem figsOf_get (b : Int) (hb : 0 < b) : ∀ (m i : Nat) (n : Int), i < m → (figsOf b n m)[i]? = some (n / b ^ i % b)
  | 0, i, n, h => by omega
  | m + 1, 0, n, h => by simp [figsOf]
  | m + 1, i + 1, n, h => by
    simp only [figsOf, List.getElem?_cons_succ]
    rw [figsOf_get b hb m i (n / b) (by omega), Int.pow_succ', Int.ediv_ediv_of_nonneg (by omega)]
theorem pow_nn {b : Int} (h : 0 ≤ b) (k : Nat) : 0 ≤ b ^ k := Int.pow_nonneg h
theorem pow_pos' {b : Int} (h : 0 < b) (k : Nat) : 0 < b ^ k := Int.pow_pos h
/-! ### the program's rows -/
def spTold : Spec := fun ds G Q _ => ∃ (b : Int) (fs : List Int), ds = [.int b, .tup (fs.map .int)] ∧ 2 ≤ b ∧ b ≤ 12 ∧ Q (.int (toldN b fs)) G
theorem meet_told (Δ : Nat → Option Spec) (Γ : Gam) : Meet Δ Γ 4 2 B_machines_told spTold := Dl.unQ (by
 simp (disch := with_unfolding_all
  refine @id _ ?_
  intro ds G Q E _ h
  obtain ⟨b, fs, rfl, h0, h1, q⟩ := h
  show wpSs _ _ _ _ [some (.int b), some (.tup (fs.map .int)), none, none] G
  unfold B_machines_told
  walk_at "w"
  refine forW_st (fun i σ => ∃ x, σ = [some (D.int b), some (D.tup (List.map D.int fs)), some (D.int (toldN b (fs.drop (fs.length - i)))), x]) ⟨none, by simp [toldN]⟩ trivial ?_ ?_
  · rintro i σ d ⟨x, rfl⟩ hd N hN
    have hi : i < fs.length := by
      have := (List.getElem?_eq_some_iff.mp hd).1
      simpa using this
    simp only [← List.map_reverse] at hd
    obtain ⟨z, hz, rfl⟩ := getI hd
    rw [List.getElem?_reverse hi] at hz
    walk_at "w"
    refine hN _ _ ⟨some (.int z), ?_⟩ (Le.refl _)
    have e : fs.length - i = fs.length - (i + 1) + 1 := by omega
    have e2 : fs.drop (fs.length - (i + 1)) = z :: fs.drop (fs.length - i) := by
      rw [e]
      have h2 : fs.length - (i + 1) < fs.length := by omega
      rw [List.drop_eq_getElem_cons h2]
      congr 1
      have h3 : fs.length - 1 - i = fs.length - (i + 1) := by omega
      rw [h3, List.getElem?_eq_getElem h2] at hz
      exact Option.some.inj hz
    rw [e2]
    simp only [toldN]
    rw [Int.mul_comm, Int.add_comm]
  · rintro σ ⟨x, rfl⟩
    walk_at "w"
    refine wk.of ?_
    simpa using q
 ) only [↓Dl.qTrue])
def spFigs : Spec := fun ds G Q _ => ∃ (b n m : Int), ds = [.int b, .int n, .int m] ∧ 2 ≤ b ∧ b ≤ 12 ∧ 0 ≤ m ∧ m ≤ 1000 ∧ Q (.tup ((figsOf b n m.toNat).map .int)) G
theorem figsOf_snoc (b : Int) (hb : 0 < b) : ∀ (i : Nat) (n : Int), figsOf b n (i + 1) = figsOf b n i ++ [n / b ^ i % b]
  | 0, n => by simp [figsOf]
  | i + 1, n => by
    have ih := figsOf_snoc b hb i (n / b)
    show n % b :: figsOf b (n / b) (i + 1) = n % b :: figsOf b (n / b) i ++ [n / b ^ (i + 1) % b]
    rw [ih, Int.pow_succ', Int.ediv_ediv_of_nonneg (by omega)]
    rfl
theorem meet_figs (Δ : Nat → Option Spec) (Γ : Gam) : Meet Δ Γ 5 3 B_machines_figures_of spFigs := Dl.unQ (by
 simp (disch := with_unfolding_all
  refine @id _ ?_
  intro ds G Q E _ h
  obtain ⟨b, n, m, rfl, h0, h1, h2, h3, q⟩ := h
  show wpSs _ _ _ _ [some (.int b), some (.int n), some (.int m), none, none] G
  unfold B_machines_figures_of
  walk_at "w"
  intro p hp
  walk_at "w"
  refine forW.mk (fun i σ G' => G' = gup G p (.lst ((figsOf b n i).map .int)) ∧ ∃ x, σ = [some (.int b), some (.int (n / b ^ i)), some (.int m), some (.ref p), x]) ⟨rfl, none, by simp⟩ (fun _ _ _ _ => trivial) ?_ ?_
  · rintro i σ G' d ⟨rfl, x, rfl⟩ hd
    obtain ⟨hi, rfl⟩ := rangeD_get hd
    walk_at "w"
    · rw [List.length_map, figsOf_len]; have := sizeLine_eq; omega
    walk_at "w"
    refine wk.of ⟨?_, some (.int i), ?_⟩
    · rw [gup_gup, figsOf_snoc b (by omega)]; simp
    · rw [Int.pow_succ, Int.ediv_ediv_of_nonneg (pow_nn (by omega) _)]
  · rintro σ G' ⟨rfl, x, rfl⟩
    walk_at "w"
    rw [rangeD_len]
    exact ⟨G, Le.new hp, q⟩
 ) only [↓Dl.qTrue])
/-! ### the law's rows -/
def spPower : Spec := fun ds G Q _ => ∃ (b n : Int), ds = [.int b, .int n] ∧ 0 ≤ b ∧ b ≤ 12 ∧ 0 ≤ n ∧ n ≤ 1000 ∧ Q (.int (b ^ n.toNat)) G
theorem meet_power (Δ : Nat → Option Spec) (Γ : Gam) : Meet Δ Γ 4 2 B_law_law_power_b721 spPower := Dl.unQ (by
 simp (disch := with_unfolding_all
  refine @id _ ?_
  intro ds G Q E _ h
  obtain ⟨b, n, rfl, h0, h1, h2, h3, q⟩ := h
  show wpSs _ _ _ _ [some (.int b), some (.int n), none, none] G
  unfold B_law_law_power_b721
  walk_at "w"
  refine forW_st (fun i σ => ∃ x, σ = [some (.int b), some (.int n), some (.int (b ^ i)), x]) ⟨none, by simp⟩ trivial ?_ ?_
  · rintro i σ d ⟨x, rfl⟩ hd N hN
    obtain ⟨hi, rfl⟩ := rangeD_get hd
    walk_at "w"
    exact hN _ _ ⟨_, by rw [Int.pow_succ]⟩ (Le.refl _)
  · rintro σ ⟨x, rfl⟩
    walk_at "w"
    rw [rangeD_len]
    exact wk.of q
 ) only [↓Dl.qTrue])
def digs (b : Int) (fs : List Int) : Prop := ∀ f ∈ fs, 0 ≤ f ∧ f < b
def spFigures : Spec := fun ds G Q _ => ∃ (a c : Addr) (S : HS) (b m : Int), ds = [.ref a, .int b, .int m] ∧ atH G a c S ∧ S.ok ∧ 2 ≤ b ∧ b ≤ 12 ∧ 0 ≤ m ∧ m ≤ 100 ∧
  ∀ fs S', fs.length = m.toNat → digs b fs → S'.ok → Q (.tup (fs.map .int)) (hG G a c S')
end
set_option maxRecDepth 100000
set_option maxHeartbeats 4000000
section
open PySem PySem.Spec PyProof.Rows L2
local macro_rules | `(tactic| walk_at "own") => `(tactic| fail "no step")
local macro_rules | `(tactic| walk_at "heap2") => `(tactic| first | exact hG_a | exact hG_b (by assumption) | (refine (hG_ne (by first | assumption | exact Ne.symm (by assumption)) (by first | assumption | exact Ne.symm (by assumption))).trans ?_; walk_at "heap"))
theorem figs_told {b : Int} (hb : 0 < b) : ∀ (fs : List Int) (r : Int), digs b fs → figsOf b (toldN b fs + b ^ fs.length * r) fs.length = fs
  | [], r, _ => rfl
  | f :: fs, r, h => by
    have hf := h f (List.mem_cons_self)
    have ih := figs_told hb fs r fun x hx => h x (List.mem_cons_of_mem _ hx)
    have e : toldN b (f :: fs) + b ^ (fs.length + 1) * r = f + b * (toldN b fs + b ^ fs.length * r) := by
      simp only [toldN, Int.pow_succ']
      rw [Int.mul_add, Int.mul_assoc, Int.add_assoc]
    simp only [List.length_cons, figsOf]
    rw [e, Int.add_mul_emod_self_left, Int.emod_eq_of_lt hf.1 hf.2, Int.add_mul_ediv_left _ _ (by omega), Int.ediv_eq_zero_of_lt hf.1 hf.2, Int.zero_add, ih]
theorem figs_told0 {b : Int} (hb : 0 < b) (fs : List Int) (h : digs b fs) : figsOf b (toldN b fs) fs.length = fs := by
  have := figs_told hb fs 0 h
  simpa using this
end
set_option maxRecDepth 100000
set_option maxHeartbeats 2000000
section
open PySem PySem.Spec PyProof.Rows L2
/-! ### wheels and levers, plain -/
theorem toldN_lt {b : Int} (hb : 2 ≤ b) : ∀ fs : List Int, digs b fs → 0 ≤ toldN b fs ∧ toldN b fs < b ^ fs.length
  | [], _ => by simp [toldN]
  | f :: fs, h => by
    have hf := h f (List.mem_cons_self)
    obtain ⟨h1, h2⟩ := toldN_lt hb fs fun x hx => h x (List.mem_cons_of_mem _ hx)
    simp only [toldN, List.length_cons, Int.pow_succ']
    have h3 : b * toldN b fs ≤ b * (b ^ fs.length - 1) := Int.mul_le_mul_of_nonneg_left (by omega) (by omega)
    have h4 : 0 ≤ b * toldN b fs := Int.mul_nonneg (by omega) h1
    rw [Int.mul_sub, Int.mul_one] at h3
    omega
theorem toldN_set {b : Int} : ∀ (fs : List Int) (i : Nat) (v : Int), i < fs.length → toldN b (fs.set i v) = toldN b fs + (v - fs.getD i 0) * b ^ i
  | [], i, v, h => by simp at h
  | f :: fs, 0, v, h => by simp [toldN]; omega
  | f :: fs, i + 1, v, h => by
    have ih := toldN_set (b := b) fs i v (by simpa using h)
    simp only [List.set_cons_succ, toldN, ih, List.getD_cons_succ, Int.pow_succ, Int.mul_add]
    rw [Int.add_assoc]
    congr 2
    rw [← Int.mul_assoc, Int.mul_comm b, Int.mul_assoc, Int.mul_comm b]
theorem digs_set {b : Int} {fs : List Int} {i : Nat} {v : Int} (h : digs b fs) (hv : 0 ≤ v ∧ v < b) : digs b (fs.set i v) := fun x hx => by
  rcases List.mem_or_eq_of_mem_set hx with e | e
  · exact h x e
  · subst e; exact hv
theorem digs_getD {b : Int} (hb : 2 ≤ b) {fs : List Int} (h : digs b fs) (i : Nat) : 0 ≤ fs.getD i 0 ∧ fs.getD i 0 < b := Dl.unQ (by
 simp (disch := with_unfolding_all
  refine @id _ ?_
  rw [List.getD_eq_getElem?_getD]
  cases e : fs[i]? with
  | none => exact ⟨Int.le_refl 0, by show (0:Int) < b; omega⟩
  | some v => exact h v (List.mem_of_getElem? e)
 ) only [↓Dl.qTrue])
def levSum (b : Int) : List Int → Int
  | [] => 0
  | l :: r => b ^ (l.toNat + 1) + levSum b r
theorem levSum_perm {b : Int} {xs ys : List Int} (h : xs.Perm ys) : levSum b xs = levSum b ys := Dl.unQ (by
 simp (disch := with_unfolding_all
  refine @id _ ?_
  induction h with
  | nil => rfl
  | cons x _ ih => simp only [levSum, ih]
  | swap x y l => simp only [levSum]; omega
  | trans _ _ h1 h2 => rw [h1, h2]
 ) only [↓Dl.qTrue])
theorem levSum_app {b : Int} : ∀ xs ys : List Int, levSum b (xs ++ ys) = levSum b xs + levSum b ys
  | [], ys => by simp [levSum]
  | x :: xs, ys => by simp only [List.cons_append, levSum, levSum_app xs ys]; omega
def left (L : List Int) (l : Int) : List Int := L.filter fun x => !decide (x = l)
theorem mem_left {L : List Int} {l x : Int} : x ∈ left L l ↔ x ∈ L ∧ x ≠ l := by simp [left]
theorem srt_nodup {L : List Int} (h : L.Pairwise (· < ·)) : L.Nodup := h.imp fun h => by omega
theorem left_perm {L : List Int} {l : Int} (h : L.Pairwise (· < ·)) (hl : l ∈ L) : L.Perm (l :: left L l) := Dl.unQ (by
 simp (disch := with_unfolding_all
  refine @id _ ?_
  have e : L.erase l = left L l := by
    rw [(srt_nodup h).erase_eq_filter]
    unfold left
    refine List.filter_congr fun x _ => ?_
    by_cases q : x = l <;> simp [q]
  rw [← e]
  exact List.perm_cons_erase hl
 ) only [↓Dl.qTrue])
theorem srt_strict {L : List Int} (h : L.Pairwise (· ≤ ·)) (n : L.Nodup) : L.Pairwise (· < ·) := by
  have := h.and n
  exact this.imp fun ⟨h1, h2⟩ => by omega
def wrapB (b f : Int) : Bool := !decide (f % b = f)
theorem wrap_no {b f : Int} (hb : 0 < b) (h : wrapB b f = false) : 0 ≤ f ∧ f < b := Dl.unQ (by
 simp (disch := with_unfolding_all
  refine @id _ ?_
  unfold wrapB at h
  have e : f % b = f := by simpa using h
  have := Int.emod_nonneg f (show b ≠ 0 by omega)
  have := Int.emod_lt_of_pos f hb
  omega
 ) only [↓Dl.qTrue])
theorem wrap_yes {b f : Int} (h : wrapB b f = true) : ¬ (0 ≤ f ∧ f < b) := fun ⟨h1, h2⟩ => by
  unfold wrapB at h
  rw [Int.emod_eq_of_lt h1 h2] at h
  simp at h
theorem mod_up {b f : Int} (h1 : b ≤ f) (h2 : f < 2 * b) : f % b = f - b := by
  rw [show f = (f - b) + b by omega, Int.add_emod_right, Int.emod_eq_of_lt (by omega) (by omega)]; omega
theorem mod_down {b f : Int} (h1 : -b ≤ f) (h2 : f < 0) : f % b = f + b := by
  rw [show f = (f + b) + (-1) * b by omega, Int.add_mul_emod_self_right, Int.emod_eq_of_lt (by omega) (by omega)]; omega
/-- one carry -/
def carR (b way : Int) (ws L : List Int) (l : Int) (ws' L' : List Int) (rg : Bool) : Prop :=
  (l + 1 = ws.length ∧ ws' = ws ∧ L' = left L l ∧ rg = true) ∨
  (l + 1 < ws.length ∧ rg = false ∧ ws' = ws.set (l.toNat + 1) ((ws.getD (l.toNat + 1) 0 + way) % b) ∧
    ((wrapB b (ws.getD (l.toNat + 1) 0 + way) = false ∧ L' = left L l) ∨ (wrapB b (ws.getD (l.toNat + 1) 0 + way) = true ∧ L'.Perm (left L l ++ [l + 1]) ∧ L'.Pairwise (· ≤ ·))))
/-- what stands throughout: N the number that it comes to, r the bells, R the wheels whose levers were done -/
structure CI (b way : Int) (n : Nat) (N : Int) (ws L : List Int) (r : Int) (R : Nat → Bool) : Prop where
  len : ws.length = n
  dg : digs b ws
  srt : L.Pairwise (· < ·)
  bnd : ∀ l, l ∈ L → 0 ≤ l ∧ l < n
  off : ∀ l, l ∈ L → R l.toNat = false
  num : toldN b ws + way * (levSum b L + r * b ^ n) = N
  low : ∀ i : Nat, i < n → ((i : Int) ∈ L ∨ R i = true) → (i = 0 ∨ R (i - 1) = false) → 0 ≤ ws.getD i 0 + way ∧ ws.getD i 0 + way < b
  bell : 0 ≤ r
def cnt (R : Nat → Bool) : Nat → Nat
  | 0 => 0
  | n + 1 => cnt R n + if R n then 0 else 1
def radd (R : Nat → Bool) (l : Nat) : Nat → Bool := fun i => R i || decide (i = l)
theorem cnt_same (R : Nat → Bool) (l : Nat) : ∀ n, n ≤ l → cnt (radd R l) n = cnt R n
  | 0, _ => rfl
  | n + 1, h => by
    have := cnt_same R l n (by omega)
    unfold cnt
    have e : radd R l n = R n := by simp [radd]; omega
    rw [this, e]
theorem cnt_add (R : Nat → Bool) (l : Nat) (hl : R l = false) : ∀ n, l < n → cnt (radd R l) n + 1 = cnt R n
  | 0, h => by omega
  | n + 1, h => by
    by_cases e : l = n
    · subst e
      have := cnt_same R l l (Nat.le_refl l)
      have e2 : radd R l l = true := by simp [radd]
      simp only [cnt, this, hl, e2, if_true]
      rfl
    · have := cnt_add R l hl n (by omega)
      have e2 : radd R l n = R n := by
        have : ¬ n = l := fun q => e q.symm
        simp [radd, this]
      simp only [cnt, e2]
      omega
theorem CI.step {b way : Int} {n : Nat} {N : Int} {ws L : List Int} {r : Int} {R : Nat → Bool} (hb : 2 ≤ b) (hw : way = 1 ∨ way = -1) (c : CI b way n N ws L r R) {l : Int} (hl : l ∈ L) {ws' L' : List Int} {rg : Bool} (h : carR b way ws L l ws' L' rg) :
    CI b way n N ws' L' (if rg then r + 1 else r) (radd R l.toNat) ∧ l ∉ L' ∧ L'.length ≤ L.length ∧ (rg = true ↔ l = n - 1) := Dl.unQ (by
 simp (disch := with_unfolding_all
  refine @id _ ?_
  have hl2 := c.bnd l hl
  have pe := left_perm c.srt hl
  have sl : (left L l).Pairwise (· < ·) := c.srt.filter _
  have ln : L.length = (left L l).length + 1 := by rw [pe.length_eq]; rfl
  have su : levSum b L = b ^ (l.toNat + 1) + levSum b (left L l) := levSum_perm pe
  rcases h with ⟨h1, rfl, rfl, rfl⟩ | ⟨h1, rfl, rfl, h2⟩
  · rw [c.len] at h1
    refine ⟨⟨c.len, c.dg, sl, fun x hx => c.bnd x (mem_left.mp hx).1, fun x hx => ?_, ?_, fun i hi h3 h4 => c.low i hi ?_ ?_, ?_⟩, fun q => (mem_left.mp q).2 rfl, by omega, by simp; omega⟩
    · obtain ⟨x1, x2⟩ := mem_left.mp hx
      have := c.bnd x x1
      have e : ¬ x.toNat = l.toNat := by omega
      simp [radd, c.off x x1, e]
    · have e : l.toNat + 1 = n := by omega
      rw [e] at su
      have := c.num
      rw [su] at this
      rw [← this, if_pos rfl, Int.add_mul, Int.one_mul]
      congr 2
      omega
    · rcases h3 with h3 | h3
      · exact .inl (mem_left.mp h3).1
      · simp only [radd, Bool.or_eq_true, decide_eq_true_eq] at h3
        rcases h3 with h3 | h3
        · exact .inr h3
        · exact .inl (by rw [h3, show ((l.toNat : Nat) : Int) = l by omega]; exact hl)
    · rcases h4 with h4 | h4
      · exact .inl h4
      · simp only [radd, Bool.or_eq_false_iff] at h4
        exact .inr h4.1
    · have := c.bell
      show (0:Int) ≤ if true = true then r + 1 else r
      rw [if_pos rfl]; omega
  · rw [c.len] at h1
    obtain ⟨k, rfl⟩ : ∃ k : Nat, l = k := ⟨l.toNat, by omega⟩
    simp only [Int.toNat_natCast] at h2 su ⊢
    have hk : k + 1 < n := by omega
    have hkl : k + 1 < ws.length := by rw [c.len]; exact hk
    have hd := digs_getD hb c.dg (k + 1)
    generalize hv : ws.getD (k + 1) 0 = v at h2 hd
    have hRk : R k = false := by simpa using c.off _ hl
    have md : ∀ (wr : Bool), wrapB b (v + way) = wr → (v + way) % b = v + way - (if wr then way * b else 0) := fun wr e => by
      cases wr with
      | false =>
        obtain ⟨q1, q2⟩ := wrap_no (by omega) e
        rw [Int.emod_eq_of_lt q1 q2]; simp
      | true =>
        have q := wrap_yes e
        rw [if_pos rfl]
        rcases hw with rfl | rfl
        · rw [mod_up (by omega) (by omega)]; omega
        · rw [mod_down (by omega) (by omega)]; omega
    have low' : ∀ (L' : List Int), (∀ x, x ∈ L' → x ∈ L ∨ x = k + 1) → ∀ i : Nat, i < n → ((i : Int) ∈ L' ∨ radd R k i = true) → (i = 0 ∨ radd R k (i - 1) = false) → 0 ≤ (ws.set (k + 1) ((v + way) % b)).getD i 0 + way ∧ (ws.set (k + 1) ((v + way) % b)).getD i 0 + way < b := fun L' hL i hi h3 h4 => by
      have ne : i ≠ k + 1 := fun e => by
        subst e
        rcases h4 with h4 | h4
        · omega
        · simp [radd] at h4
      have e : (ws.set (k + 1) ((v + way) % b)).getD i 0 = ws.getD i 0 := by
        rw [List.getD_eq_getElem?_getD, List.getD_eq_getElem?_getD, List.getElem?_set_ne (Ne.symm ne)]
      rw [e]
      refine c.low i hi ?_ ?_
      · rcases h3 with h3 | h3
        · rcases hL _ h3 with h | h
          · exact .inl h
          · omega
        · simp only [radd, Bool.or_eq_true, decide_eq_true_eq] at h3
          rcases h3 with h3 | rfl
          · exact .inr h3
          · exact .inl hl
      · rcases h4 with h4 | h4
        · exact .inl h4
        · simp only [radd, Bool.or_eq_false_iff] at h4
          exact .inr h4.1
    have off' : ∀ x, x ∈ left L k → radd R k x.toNat = false := fun x hx => by
      obtain ⟨x1, x2⟩ := mem_left.mp hx
      have := c.bnd x x1
      have e : ¬ x.toNat = k := by omega
      simp [radd, c.off x x1, e]
    have tn := toldN_set (b := b) ws (k + 1) ((v + way) % b) hkl
    rw [hv] at tn
    have dg' : digs b (ws.set (k + 1) ((v + way) % b)) := digs_set c.dg ⟨Int.emod_nonneg _ (by omega), Int.emod_lt_of_pos _ (by omega)⟩
    have num0 := c.num
    rw [su] at num0
    rcases h2 with ⟨h2, rfl⟩ | ⟨h2, h3, h4⟩
    · refine ⟨⟨by simp [c.len], dg', sl, fun x hx => c.bnd x (mem_left.mp hx).1, off', ?_, low' _ fun x hx => .inl (mem_left.mp hx).1, c.bell⟩, fun q => (mem_left.mp q).2 rfl, by omega, by simp; omega⟩
      rw [tn, md false h2, ← num0]
      simp only [Bool.false_eq_true, if_false]
      rw [show v + way - 0 - v = way by omega]
      simp only [Int.mul_add]
      omega
    · have wy := wrap_yes h2
      have n1 : ((k : Int) + 1) ∉ L := fun q => wy (by
        have := c.low (k + 1) hk (.inl (by simpa using q)) (.inr (by simpa using hRk))
        rw [hv] at this
        exact this)
      have n2 : R (k + 1) = false := by
        cases e : R (k + 1) with
        | false => rfl
        | true =>
          exfalso
          have := c.low (k + 1) hk (.inr e) (.inr (by simpa using hRk))
          rw [hv] at this
          exact wy this
      have nd : L'.Nodup := h3.nodup_iff.mpr (by
        rw [List.nodup_append]
        refine ⟨srt_nodup sl, by simp, fun x hx y hy => ?_⟩
        cases List.mem_singleton.mp hy
        rintro rfl
        exact n1 (mem_left.mp hx).1)
      have mm : ∀ x, x ∈ L' → x ∈ left L k ∨ x = k + 1 := fun x hx => by
        rcases List.mem_append.mp (h3.mem_iff.mp hx) with h | h
        · exact .inl h
        · exact .inr (List.mem_singleton.mp h)
      refine ⟨⟨by simp [c.len], dg', srt_strict h4 nd, fun x hx => ?_, fun x hx => ?_, ?_, low' _ fun x hx => ?_, c.bell⟩, fun q => ?_, ?_, by simp; omega⟩
      · rcases mm x hx with h | rfl
        · exact c.bnd x (mem_left.mp h).1
        · omega
      · rcases mm x hx with h | rfl
        · exact off' x h
        · have e : ((k : Int) + 1).toNat = k + 1 := by omega
          rw [e]
          simp [radd, n2]
      · rw [tn, md true h2, ← num0, levSum_perm h3, levSum_app]
        simp only [Bool.false_eq_true, if_false, if_true, levSum, Int.add_zero]
        rw [show ((k : Int) + 1).toNat = k + 1 by omega, show v + way - way * b - v = way - way * b by omega, Int.sub_mul, Int.pow_succ b (k + 1), Int.mul_comm (b ^ (k + 1)) b, Int.mul_assoc way b]
        simp only [Int.mul_add]
        omega
      · rcases mm x hx with h | rfl
        · exact .inl (mem_left.mp h).1
        · exact .inr rfl
      · rcases mm _ q with h | h
        · exact (mem_left.mp h).2 rfl
        · omega
      · rw [h3.length_eq, List.length_append]
        simp only [List.length_singleton]
        omega
 ) only [↓Dl.qTrue])
theorem CI.ends {b way : Int} {n : Nat} {N : Int} {ws : List Int} {r : Int} {R : Nat → Bool} (hb : 2 ≤ b) (hw : way = 1 ∨ way = -1) (c : CI b way n N ws [] r R) :
    ws = figsOf b (N % b ^ n) n ∧ (decide (0 < r) = !(decide (0 ≤ N) && decide (N < b ^ n))) := Dl.unQ (by
 simp (disch := with_unfolding_all
  refine @id _ ?_
  have hn := c.num
  simp only [levSum, Int.zero_add] at hn
  obtain ⟨t1, t2⟩ := toldN_lt hb ws c.dg
  rw [c.len] at t2
  have hp := pow_pos' (b := b) (by omega) n
  have hr := c.bell
  refine ⟨?_, ?_⟩
  · have e : N % b ^ n = toldN b ws := by
      rw [← hn, ← Int.mul_assoc, Int.add_mul_emod_self_right, Int.emod_eq_of_lt t1 t2]
    rw [e]
    have := figs_told0 (b := b) (by omega) ws c.dg
    rw [c.len] at this
    exact this.symm
  · by_cases h0 : r = 0
    · subst h0
      simp only [Int.zero_mul, Int.mul_zero, Int.add_zero] at hn
      subst hn
      simp [t1, t2]
    · have h1 : 1 ≤ r := by omega
      have h2 : b ^ n ≤ r * b ^ n := by
        have := Int.mul_le_mul_of_nonneg_right h1 (show 0 ≤ b ^ n by omega)
        omega
      have h3 : decide (0 < r) = true := decide_eq_true (by omega)
      rw [h3]
      rcases hw with rfl | rfl
      · have : ¬ N < b ^ n := by omega
        simp [this]
      · have : ¬ 0 ≤ N := by omega
        simp [this]
 ) only [↓Dl.qTrue])
/-- the first part: the figures of a slide's row into the wheels from a place on -/
def firstF (b way : Int) : List Int → Nat → List Int → List Int × List Int
  | [], _, ws => (ws, [])
  | s :: r, k, ws => ((firstF b way r (k + 1) (ws.set k ((ws.getD k 0 + way * s) % b))).1,
      if wrapB b (ws.getD k 0 + way * s) then (k : Int) :: (firstF b way r (k + 1) (ws.set k ((ws.getD k 0 + way * s) % b))).2 else (firstF b way r (k + 1) (ws.set k ((ws.getD k 0 + way * s) % b))).2)
theorem firstF_ok {b way : Int} (hb : 2 ≤ b) (hw : way = 1 ∨ way = -1) : ∀ (S : List Int) (k : Nat) (ws : List Int), digs b S → digs b ws → k + S.length ≤ ws.length →
    (firstF b way S k ws).1.length = ws.length ∧ digs b (firstF b way S k ws).1 ∧ (firstF b way S k ws).2.Pairwise (· < ·) ∧ (∀ l, l ∈ (firstF b way S k ws).2 → (k : Int) ≤ l ∧ l < k + S.length) ∧ (firstF b way S k ws).2.length ≤ S.length ∧
    toldN b (firstF b way S k ws).1 + way * levSum b (firstF b way S k ws).2 = toldN b ws + way * (toldN b S * b ^ k) ∧
    (∀ i : Nat, (i : Int) ∈ (firstF b way S k ws).2 → 0 ≤ (firstF b way S k ws).1.getD i 0 + way ∧ (firstF b way S k ws).1.getD i 0 + way < b) ∧
    (∀ i : Nat, i < k → (firstF b way S k ws).1.getD i 0 = ws.getD i 0)
  | [], k, ws, _, hd, hl => by
    refine ⟨rfl, hd, .nil, fun l h => (by simp [firstF] at h), Nat.le_refl _, ?_, fun i h => (by simp [firstF] at h), fun i _ => rfl⟩
    simp [firstF, levSum, toldN]
  | s :: S, k, ws, hs, hd, hl => by
    have hs1 := hs s List.mem_cons_self
    rw [List.length_cons] at hl
    have hk : k < ws.length := by omega
    have hv := digs_getD hb hd k
    have tn := toldN_set (b := b) ws k ((ws.getD k 0 + way * s) % b) hk
    have hg : (ws.set k ((ws.getD k 0 + way * s) % b)).getD k 0 = (ws.getD k 0 + way * s) % b := by
      rw [List.getD_eq_getElem?_getD, List.getElem?_set_self hk]; rfl
    obtain ⟨i1, i2, i3, i4, i5, i6, i7, i8⟩ := firstF_ok hb hw S (k + 1) (ws.set k ((ws.getD k 0 + way * s) % b)) (fun x hx => hs x (List.mem_cons_of_mem _ hx)) (digs_set hd ⟨Int.emod_nonneg _ (by omega), Int.emod_lt_of_pos _ (by omega)⟩) (by rw [List.length_set]; omega)
    have g8 := i8 k (by omega)
    rw [hg] at g8
    simp only [firstF]
    generalize firstF b way S (k + 1) (ws.set k ((ws.getD k 0 + way * s) % b)) = F at i1 i2 i3 i4 i5 i6 i7 i8 g8 ⊢
    have o8 : ∀ i : Nat, i < k → F.1.getD i 0 = ws.getD i 0 := fun i hi => by
      rw [i8 i (by omega), List.getD_eq_getElem?_getD, List.getElem?_set_ne (by omega), List.getD_eq_getElem?_getD]
    generalize hvv : ws.getD k 0 = v at *
    rw [List.length_set] at i1
    rw [tn] at i6
    have e2 : toldN b (s :: S) * b ^ k = s * b ^ k + toldN b S * b ^ (k + 1) := by
      simp only [toldN]
      rw [Int.add_mul, Int.pow_succ', ← Int.mul_assoc, Int.mul_comm b]
    have wb : way * s = s ∧ way = 1 ∨ way * s = -s ∧ way = -1 := by
      rcases hw with rfl | rfl
      · exact .inl ⟨by omega, rfl⟩
      · exact .inr ⟨by omega, rfl⟩
    cases hwr : wrapB b (v + way * s) with
    | false =>
      obtain ⟨q1, q2⟩ := wrap_no (by omega) hwr
      rw [Int.emod_eq_of_lt q1 q2] at i6
      simp only [Bool.false_eq_true, if_false]
      refine ⟨i1, i2, i3, fun l h => ?_, by rw [List.length_cons]; omega, ?_, i7, o8⟩
      · have := i4 l h
        rw [List.length_cons]; omega
      · rw [i6, e2, Int.mul_add way, show v + way * s - v = way * s by omega, Int.mul_assoc way s]
        omega
    | true =>
      have q := wrap_yes hwr
      simp only [if_true]
      have md : (v + way * s) % b = v + way * s - way * b ∧ 0 ≤ (v + way * s) % b + way ∧ (v + way * s) % b + way < b := by
        rcases wb with ⟨w1, rfl⟩ | ⟨w1, rfl⟩
        · rw [w1] at q ⊢
          rw [mod_up (by omega) (by omega)]; omega
        · rw [w1] at q ⊢
          rw [mod_down (by omega) (by omega)]; omega
      rw [md.1] at i6
      refine ⟨i1, i2, List.pairwise_cons.mpr ⟨fun x hx => ?_, i3⟩, fun l h => ?_, by simp only [List.length_cons]; omega, ?_, fun i h => ?_, o8⟩
      · have := i4 x hx
        omega
      · rcases List.mem_cons.mp h with rfl | h
        · rw [List.length_cons]; omega
        · have := i4 l h
          rw [List.length_cons]; omega
      · simp only [levSum, Int.toNat_natCast]
        rw [show v + way * s - way * b - v = way * s - way * b by omega, Int.sub_mul, Int.mul_assoc way s, Int.mul_assoc way b, ← Int.pow_succ'] at i6
        rw [e2]
        simp only [Int.mul_add]
        omega
      · rcases List.mem_cons.mp h with h | h
        · have e : i = k := by omega
          subst e
          rw [g8]; exact md.2
        · exact i7 i h
end
set_option maxRecDepth 100000
set_option maxHeartbeats 2000000
section
open PySem PySem.Spec PyProof.Rows L2
local macro_rules | `(tactic| walk_at "own") => `(tactic| fail "no step")
local macro_rules | `(tactic| walk_at "heap2") => `(tactic| fail "no step")
/-- 0: machines.need(0 good) -/
def B_machines_need : Sms :=
  (.cons (.ifs (.nt (.var 0))
  (.cons (.rai0 1)
  .nil)
  .nil)
  .nil)
/-- 1: machines.need_machine(0 machine, 1 base, 2 slides, 3 wheels, 4 counters) -/
def B_machines_need_machine : Sms :=
  (.cons (.exp (.call 0 (.cons (.cmp .Eq (.blt .len (.cons (.var 0) .nil)) (.int 4)) .nil)))
  (.cons (.asg (.tup (.cons (.name 1) (.cons (.name 2) (.cons (.name 3) (.cons (.name 4) .nil))))) (.var 0))
  (.cons (.exp (.call 0 (.cons (.cmp2 .LtE .LtE (.glob 3) (.var 1) (.glob 4)) .nil)))
  (.cons (.exp (.call 0 (.cons (.cmp2 .LtE .LtE (.int 1) (.var 2) (.glob 2)) .nil)))
  (.cons (.exp (.call 0 (.cons (.cmp2 .LtE .LtE (.var 2) (.var 3) (.glob 1)) .nil)))
  (.cons (.exp (.call 0 (.cons (.cmp2 .LtE .LtE (.int 1) (.var 4) (.glob 0)) .nil)))
  .nil))))))
/-- 2: machines.last_place(0 machine, 1 base, 2 slides, 3 wheels, 4 counters) -/
def B_machines_last_place : Sms :=
  (.cons (.asg (.tup (.cons (.name 1) (.cons (.name 2) (.cons (.name 3) (.cons (.name 4) .nil))))) (.var 0))
  (.cons (.ret (.blt .min (.cons (.bin .Sub (.var 3) (.var 2)) (.cons (.bin .Sub (.var 4) (.int 1)) .nil))))
  .nil))
/-- 6: machines.power(0 base, 1 many, 2 found, 3 k) -/
def B_machines_power : Sms :=
  (.cons (.asg (.name 2) (.int 1))
  (.cons (.fors (.name 3) (.rng (.var 1))
  (.cons (.asg (.name 2) (.bin .Mult (.var 2) (.var 0)))
  .nil))
  (.cons (.ret (.var 2))
  .nil)))
/-- 16: wheels.gone_on(0 base, 1 figure, 2 by, 3 way, 4 found) -/
def B_wheels_gone_on : Sms :=
  (.cons (.asg (.name 4) (.bin .Add (.var 1) (.bin .Mult (.var 3) (.var 2))))
  (.cons (.ifs (.cmp .GtE (.var 4) (.var 0))
  (.cons (.ret (.tup (.cons (.bin .Sub (.var 4) (.var 0)) (.cons (.bl true) .nil))))
  .nil)
  .nil)
  (.cons (.ifs (.cmp .Lt (.var 4) (.int 0))
  (.cons (.ret (.tup (.cons (.bin .Add (.var 4) (.var 0)) (.cons (.bl true) .nil))))
  .nil)
  .nil)
  (.cons (.ret (.tup (.cons (.var 4) (.cons (.bl false) .nil))))
  .nil))))
/-- 17: wheels.first_part(0 machine, 1 stand, 2 way, 3 setting, 4 place, 5 wheels, 6 counts, 7 made, 8 levers, 9 k, 10 figure, 11 round_it) -/
def B_wheels_first_part : Sms :=
  (.cons (.asg (.tup (.cons (.name 3) (.cons (.name 4) (.cons (.name 5) (.cons (.name 6) .nil))))) (.var 1))
  (.cons (.asg (.name 7) (.blt .list (.cons (.var 5) .nil)))
  (.cons (.asg (.name 8) (.lst .nil))
  (.cons (.fors (.tup (.cons (.name 9) (.cons (.name 10) .nil))) (.enu (.var 3))
  (.cons (.asg (.tup (.cons (.sub (.var 7) (.bin .Add (.var 4) (.var 9))) (.cons (.name 11) .nil))) (.call 16 (.cons (.ix (.var 0) (.int 0)) (.cons (.ix (.var 7) (.bin .Add (.var 4) (.var 9))) (.cons (.var 10) (.cons (.var 2) .nil))))))
  (.cons (.ifs (.var 11)
  (.cons (.exp (.met .append (.var 8) (.cons (.bin .Add (.var 4) (.var 9)) .nil)))
  .nil)
  .nil)
  .nil)))
  (.cons (.ret (.tup (.cons (.blt .tuple (.cons (.var 7) .nil)) (.cons (.var 8) .nil))))
  .nil)))))
/-- 18: wheels.one_carry(0 machine, 1 wheels, 2 levers, 3 wheel, 4 way, 5 left, 6 lever, 7 made, 8 round_it) -/
def B_wheels_one_carry : Sms :=
  (.cons (.asc 5 (.comp (.var 6) (.name 6) (.val (.var 2)) (.cons (.cmp .NotEq (.var 6) (.var 3)) .nil) [("lever", 6)]))
  (.cons (.ifs (.cmp .Eq (.bin .Add (.var 3) (.int 1)) (.blt .len (.cons (.var 1) .nil)))
  (.cons (.ret (.tup (.cons (.var 1) (.cons (.var 5) (.cons (.bl true) .nil)))))
  .nil)
  .nil)
  (.cons (.asg (.name 7) (.blt .list (.cons (.var 1) .nil)))
  (.cons (.asg (.tup (.cons (.sub (.var 7) (.bin .Add (.var 3) (.int 1))) (.cons (.name 8) .nil))) (.call 16 (.cons (.ix (.var 0) (.int 0)) (.cons (.ix (.var 7) (.bin .Add (.var 3) (.int 1))) (.cons (.int 1) (.cons (.var 4) .nil))))))
  (.cons (.ifs (.var 8)
  (.cons (.asg (.name 5) (.blt .sorted (.cons (.bin .Add (.var 5) (.lst (.cons (.bin .Add (.var 3) (.int 1)) .nil))) .nil)))
  .nil)
  .nil)
  (.cons (.ret (.tup (.cons (.blt .tuple (.cons (.var 7) .nil)) (.cons (.var 5) (.cons (.bl false) .nil)))))
  .nil))))))
/-- 19: wheels.all_carries(0 machine, 1 wheels, 2 levers, 3 order, 4 way, 5 rang, 6 waiting, 7 wheel, 8 rings) -/
def B_wheels_all_carries : Sms :=
  (.cons (.asg (.name 5) (.bl false))
  (.cons (.asg (.name 6) (.blt .list (.cons (.var 3) .nil)))
  (.cons (.whl (.cmp .NotEq (.var 2) (.lst .nil))
  (.cons (.asg (.name 7) (.ix (.var 2) (.int 0)))
  (.cons (.ifs (.cmp .NotEq (.var 6) (.lst .nil))
  (.cons (.asg (.name 7) (.met .pop (.var 6) (.cons (.int 0) .nil)))
  .nil)
  .nil)
  (.cons (.ifs (.cmp .In (.var 7) (.var 2))
  (.cons (.asg (.tup (.cons (.name 1) (.cons (.name 2) (.cons (.name 8) .nil)))) (.call 18 (.cons (.var 0) (.cons (.var 1) (.cons (.var 2) (.cons (.var 7) (.cons (.var 4) .nil)))))))
  (.cons (.asg (.name 5) (.boo .Or (.cons (.var 5) (.cons (.var 8) .nil))))
  .nil))
  .nil)
  .nil))))
  (.cons (.ret (.tup (.cons (.var 1) (.cons (.var 5) .nil))))
  .nil))))
/-- 20: wheels.turned(0 machine, 1 stand, 2 way, 3 wheels, 4 levers) -/
def B_wheels_turned : Sms :=
  (.cons (.asg (.tup (.cons (.name 3) (.cons (.name 4) .nil))) (.call 17 (.cons (.var 0) (.cons (.var 1) (.cons (.var 2) .nil)))))
  (.cons (.ret (.call 19 (.cons (.var 0) (.cons (.var 3) (.cons (.var 4) (.cons (.lst .nil) (.cons (.var 2) .nil)))))))
  .nil))
theorem gup_swap {G : GH} {a c : Addr} {X Y Z : GO} (h : a ≠ c) : gup (gup (gup G a X) c Y) a Z = gup (gup G a Z) c Y := Dl.unQ (by
 simp (disch := with_unfolding_all
  refine @id _ ?_
  funext x
  unfold gup
  by_cases h1 : x = a
  · subst h1; simp [h]
  · simp [h1]
 ) only [↓Dl.qTrue])
/-! ### machines, stands -/
structure Mc where
  b : Int
  s : Int
  w : Int
  c : Int
abbrev mD (m : Mc) : D := .tup [.int m.b, .int m.s, .int m.w, .int m.c]
structure Mc.ok (m : Mc) : Prop where
  b2 : 2 ≤ m.b
  b12 : m.b ≤ 12
  s1 : 1 ≤ m.s
  s6 : m.s ≤ 6
  sw : m.s ≤ m.w
  w16 : m.w ≤ 16
  c1 : 1 ≤ m.c
  c10 : m.c ≤ 10
structure Sd where
  set : List Int
  p : Int
  wh : List Int
  ct : List Int
abbrev sD (s : Sd) : D := .tup [.tup (s.set.map .int), .int s.p, .tup (s.wh.map .int), .tup (s.ct.map .int)]
structure Sd.ok (m : Mc) (s : Sd) : Prop where
  ls : s.set.length = m.s.toNat
  lw : s.wh.length = m.w.toNat
  lc : s.ct.length = m.c.toNat
  ds : digs m.b s.set
  dw : digs m.b s.wh
  dc : digs m.b s.ct
  p0 : 0 ≤ s.p
  pw : s.p ≤ m.w - m.s
  pc : s.p ≤ m.c - 1
def spNeedX (k : Nat) : Spec := fun ds G Q E => ∃ g, ds = [.bl g] ∧ (g = true → Q .non G) ∧ (g = false → E ⟨k, [], []⟩ G)
abbrev spNeed : Spec := spNeedX 1
theorem meet_need (Δ : Nat → Option Spec) (Γ : Gam) : Meet Δ Γ 1 1 B_machines_need spNeed := Dl.unQ (by
 simp (disch := with_unfolding_all
  refine @id _ ?_
  intro ds G Q E _ h
  obtain ⟨g, rfl, q1, q2⟩ := h
  show wpSs _ _ _ _ [some (.bl g)] G
  unfold B_machines_need
  cases g with
  | true =>
    walk_at "w"
    exact wk.of (q1 rfl)
  | false =>
    walk_at "w"
    exact q2 rfl
 ) only [↓Dl.qTrue])
theorem need_i {k : Nat} {g : Bool} {G : GH} {Q : QD} {E : XD} (h : g = true) (q : Q .non G) : spNeedX k [.bl g] G Q E := ⟨g, rfl, fun _ => q, fun z => by rw [h] at z; cases z⟩
theorem need_no {k : Nat} {g : Bool} {G : GH} {Q : QD} {E : XD} (h : g = false) (q : E ⟨k, [], []⟩ G) : spNeedX k [.bl g] G Q E := ⟨g, rfl, fun z => (by rw [h] at z; cases z), fun _ => q⟩
local macro_rules | `(tactic| walk_at "own") => `(tactic| first | ((with_reducible refine' need_i ?k1 ?_); (case k1 => first | rfl | exact decide_eq_true (by first | rfl | omega))))
def spNeedM : Spec := fun ds G Q _ => ∃ m : Mc, ds = [mD m] ∧ m.ok ∧ Q .non G
theorem meet_needM (Δ : Nat → Option Spec) (Γ : Gam) (h0 : Δ 0 = some spNeed) (g0 : Γ 0 = some (.int 10)) (g1 : Γ 1 = some (.int 16)) (g2 : Γ 2 = some (.int 6)) (g3 : Γ 3 = some (.int 2)) (g4 : Γ 4 = some (.int 12)) : Meet Δ Γ 5 1 B_machines_need_machine spNeedM := Dl.unQ (by
 simp (disch := with_unfolding_all
  refine @id _ ?_
  intro ds G Q E _ h
  obtain ⟨m, rfl, ok, q⟩ := h
  obtain ⟨b2, b12, s1, s6, sw, w16, c1, c10⟩ := ok
  show wpSs _ _ _ _ [some (mD m), none, none, none, none] G
  unfold B_machines_need_machine
  walk_at "w"
  exact wk.of q
 ) only [↓Dl.qTrue])
theorem needM_i {m : Mc} {G : GH} {Q : QD} {E : XD} (ok : m.ok) (q : Q .non G) : spNeedM [mD m] G Q E := ⟨m, rfl, ok, q⟩
def lastN (m : Mc) : Int := if m.c - 1 < m.w - m.s then m.c - 1 else m.w - m.s
def spLast : Spec := fun ds G Q _ => ∃ m : Mc, ds = [mD m] ∧ Q (.int (lastN m)) G
theorem meet_last (Δ : Nat → Option Spec) (Γ : Gam) : Meet Δ Γ 5 1 B_machines_last_place spLast := Dl.unQ (by
 simp (disch := with_unfolding_all
  refine @id _ ?_
  intro ds G Q E _ h
  obtain ⟨m, rfl, q⟩ := h
  show wpSs _ _ _ _ [some (mD m), none, none, none, none] G
  unfold B_machines_last_place
  walk_at "w"
  exact wk.of q
 ) only [↓Dl.qTrue])
theorem last_i {m : Mc} {G : GH} {Q : QD} {E : XD} (q : Q (.int (lastN m)) G) : spLast [mD m] G Q E := ⟨m, rfl, q⟩
theorem meet_powerP (Δ : Nat → Option Spec) (Γ : Gam) : Meet Δ Γ 4 2 B_machines_power spPower := meet_power Δ Γ
theorem power_i {b n : Int} {G : GH} {Q : QD} {E : XD} (h : 0 ≤ b ∧ b ≤ 12 ∧ 0 ≤ n ∧ n ≤ 1000) (q : Q (.int (b ^ n.toNat)) G) : spPower [.int b, .int n] G Q E := ⟨b, n, rfl, h.1, h.2.1, h.2.2.1, h.2.2.2, q⟩
theorem told_i {b : Int} {fs : List Int} {G : GH} {Q : QD} {E : XD} (h : 2 ≤ b ∧ b ≤ 12) (q : Q (.int (toldN b fs)) G) : spTold [.int b, .tup (fs.map .int)] G Q E := ⟨b, fs, rfl, h.1, h.2, q⟩
theorem figs_i {b n m : Int} {G : GH} {Q : QD} {E : XD} (h : 2 ≤ b ∧ b ≤ 12 ∧ 0 ≤ m ∧ m ≤ 1000) (q : Q (.tup ((figsOf b n m.toNat).map .int)) G) : spFigs [.int b, .int n, .int m] G Q E := ⟨b, n, m, rfl, h.1, h.2.1, h.2.2.1, h.2.2.2, q⟩
/-! ### wheels -/
def spGone : Spec := fun ds G Q _ => ∃ (b f y way : Int), ds = [.int b, .int f, .int y, .int way] ∧ 2 ≤ b ∧ b ≤ 12 ∧ 0 ≤ f ∧ f < b ∧ 0 ≤ y ∧ y < b ∧ (way = 1 ∨ way = -1) ∧ Q (.tup [.int ((f + way * y) % b), .bl (wrapB b (f + way * y))]) G
theorem meet_gone (Δ : Nat → Option Spec) (Γ : Gam) : Meet Δ Γ 5 4 B_wheels_gone_on spGone := Dl.unQ (by
 simp (disch := with_unfolding_all
  refine @id _ ?_
  intro ds G Q E _ h
  obtain ⟨b, f, y, way, rfl, h1, h2, h3, h4, h5, h6, hw, q⟩ := h
  show wpSs _ _ _ _ [some (.int b), some (.int f), some (.int y), some (.int way), none] G
  have wb : way * y = y ∨ way * y = -y := by rcases hw with rfl | rfl <;> omega
  unfold B_wheels_gone_on
  walk_at "w"
  generalize way * y = z at wb q ⊢
  refine ite_d (fun h => ?_) (fun h => ?_)
  · walk_at "w"
    refine wk.of ?_
    have e := mod_up (b := b) (f := f + z) h (by omega)
    have e2 : wrapB b (f + z) = true := by unfold wrapB; rw [e]; simp; omega
    rw [e, e2] at q; exact q
  · walk_at "w"
    refine ite_d (fun h7 => ?_) (fun h7 => ?_)
    · walk_at "w"
      refine wk.of ?_
      have e := mod_down (b := b) (f := f + z) (by omega) h7
      have e2 : wrapB b (f + z) = true := by unfold wrapB; rw [e]; simp; omega
      rw [e, e2] at q; exact q
    · walk_at "w"
      refine wk.of ?_
      have e := Int.emod_eq_of_lt (a := f + z) (b := b) (by omega) (by omega)
      have e2 : wrapB b (f + z) = false := by unfold wrapB; rw [e]; simp
      rw [e, e2] at q; exact q
 ) only [↓Dl.qTrue])
theorem gone_i {b f y way : Int} {G : GH} {Q : QD} {E : XD} (h : 2 ≤ b ∧ b ≤ 12 ∧ 0 ≤ f ∧ f < b ∧ 0 ≤ y ∧ y < b) (hw : way = 1 ∨ way = -1) (q : Q (.tup [.int ((f + way * y) % b), .bl (wrapB b (f + way * y))]) G) : spGone [.int b, .int f, .int y, .int way] G Q E :=
  ⟨b, f, y, way, rfl, h.1, h.2.1, h.2.2.1, h.2.2.2.1, h.2.2.2.2.1, h.2.2.2.2.2, hw, q⟩
def spFirst : Spec := fun ds G Q _ => ∃ (m : Mc) (s : Sd) (way : Int), ds = [mD m, sD s, .int way] ∧ m.ok ∧ s.ok m ∧ (way = 1 ∨ way = -1) ∧
  newL ((firstF m.b way s.set s.p.toNat s.wh).2.map .int) G fun d G' => Q (.tup [.tup ((firstF m.b way s.set s.p.toNat s.wh).1.map .int), d]) G'
theorem meet_first (Δ : Nat → Option Spec) (Γ : Gam) (h16 : Δ 16 = some spGone) : Meet Δ Γ 12 3 B_wheels_first_part spFirst := Dl.unQ (by
 simp (disch := with_unfolding_all
  refine @id _ ?_
  intro ds G Q E _ h
  obtain ⟨m, s, way, rfl, ok, sok, hw, q⟩ := h
  have sok' := sok
  obtain ⟨b2, b12, s1, s6, sw, w16, c1, c10⟩ := ok
  obtain ⟨ls, lw, lc, hs, hd, hc, p0, pw, pc⟩ := sok
  show wpSs _ _ _ _ [some (mD m), some (sD s), some (.int way), none, none, none, none, none, none, none, none, none] G
  unfold B_wheels_first_part
  walk_at "w"
  intro a ha
  walk_at "w"
  intro c hc2
  walk_at "w"
  have ca : c ≠ a := (ne_some gup_same hc2).symm
  have ac := ca.symm
  generalize hF : firstF m.b way s.set s.p.toNat s.wh = F at q
  refine forW.mk (fun i σ G' => ∃ x9 x10 x11 made lev rest, σ = [some (mD m), some (sD s), some (.int way), some (.tup (s.set.map .int)), some (.int s.p), some (.tup (s.wh.map .int)), some (.tup (s.ct.map .int)), some (.ref a), some (.ref c), x9, x10, x11] ∧
    G' = gup (gup G a (.lst (made.map .int))) c (.lst (lev.map .int)) ∧ firstF m.b way (s.set.drop i) (s.p.toNat + i) made = (F.1, rest) ∧ lev ++ rest = F.2 ∧ digs m.b made ∧ made.length = s.wh.length ∧ lev.length ≤ i) ⟨_, _, _, s.wh, [], F.2, rfl, rfl, by simp [hF], rfl, hd, rfl, Nat.le_refl _⟩ (fun _ _ _ _ => trivial) ?_ ?_
  · rintro i σ G' d ⟨x9, x10, x11, made, lev, rest, rfl, rfl, e1, e2, dm, lm, ll⟩ hd2
    obtain ⟨y, hy, rfl⟩ := enumD_get _ _ _ _ hd2
    obtain ⟨z, hz, rfl⟩ := getI hy
    have hi : i < s.set.length := (List.getElem?_eq_some_iff.mp hz).1
    have hzz := hs z (List.mem_of_getElem? hz)
    have ed : s.set.drop i = z :: s.set.drop (i + 1) := by
      rw [List.drop_eq_getElem_cons hi]
      congr 1
      rw [List.getElem?_eq_getElem hi] at hz
      exact Option.some.inj hz
    rw [ed] at e1
    have hk : s.p.toNat + i < made.length := by omega
    have hv := digs_getD b2 dm (s.p.toNat + i)
    have ek : (s.p + (0 + (i : Int))).toNat = s.p.toNat + i := by omega
    simp only [firstF, Prod.mk.injEq] at e1
    obtain ⟨e1, e3⟩ := e1
    walk_at "w"
    refine gone_i ⟨b2, b12, by rw [ek]; exact hv.1, by rw [ek]; exact hv.2, hzz.1, hzz.2⟩ hw ?_
    rw [ek]
    generalize hfv : made.getD (s.p.toNat + i) 0 + way * z = f at e1 e3 ⊢
    walk_at "w"
    rw [gup_swap ac, ek]
    have dm' : digs m.b (made.set (s.p.toNat + i) (f % m.b)) := digs_set dm ⟨Int.emod_nonneg _ (by omega), Int.emod_lt_of_pos _ (by omega)⟩
    cases hwr : wrapB m.b f with
    | true =>
      rw [hwr, if_pos rfl] at e3
      walk_at "w"
      refine wk.of ⟨_, _, _, made.set (s.p.toNat + i) (f % m.b), lev ++ [s.p + i], (firstF m.b way (s.set.drop (i + 1)) (s.p.toNat + i + 1) (made.set (s.p.toNat + i) (f % m.b))).2, rfl, ?_, ?_, ?_, dm', by rw [List.length_set, lm], ?_⟩
      · rw [gup_gup, List.map_set, List.map_append, Int.zero_add]; rfl
      · rw [← Nat.add_assoc, Prod.ext_iff]
        exact ⟨e1, rfl⟩
      · rw [← e2, ← e3, List.append_assoc]
        congr 1
        rw [show s.p + (i : Int) = ((s.p.toNat + i : Nat) : Int) by omega]
        rfl
      · rw [List.length_append, List.length_singleton]; omega
    | false =>
      rw [hwr, if_neg Bool.false_ne_true] at e3
      walk_at "w"
      refine wk.of ⟨_, _, _, made.set (s.p.toNat + i) (f % m.b), lev, rest, rfl, by rw [List.map_set], ?_, e2, dm', by rw [List.length_set, lm], by omega⟩
      rw [← Nat.add_assoc, Prod.ext_iff]
      exact ⟨e1, e3⟩
  · rintro σ G' ⟨x9, x10, x11, made, lev, rest, rfl, rfl, e1, e2, dm, lm, ll⟩
    walk_at "w"
    have el : s.set.drop (enumD 0 (List.map D.int s.set)).length = [] := by rw [enumD_len, List.length_map, List.drop_length]
    rw [el] at e1
    simp only [firstF, Prod.mk.injEq] at e1
    obtain ⟨rfl, rfl⟩ := e1
    rw [List.append_nil] at e2
    have hcG : G c = none := by rw [gup_ne ca] at hc2; exact hc2
    refine ⟨gup G c (.lst (lev.map .int)), ?_, ?_⟩
    · exact Le.gup2 (Le.new ha)
    · rw [e2]
      exact q c hcG
 ) only [↓Dl.qTrue])
theorem first_i {m : Mc} {s : Sd} {way : Int} {G : GH} {Q : QD} {E : XD} (ok : m.ok) (sok : s.ok m) (hw : way = 1 ∨ way = -1)
    (q : newL ((firstF m.b way s.set s.p.toNat s.wh).2.map .int) G fun d G' => Q (.tup [.tup ((firstF m.b way s.set s.p.toNat s.wh).1.map .int), d]) G') : spFirst [mD m, sD s, .int way] G Q E := ⟨m, s, way, rfl, ok, sok, hw, q⟩
def spCarry : Spec := fun ds G Q _ => ∃ (m : Mc) (ws L : List Int) (a : Addr) (l way : Int), ds = [mD m, .tup (ws.map .int), .ref a, .int l, .int way] ∧ m.ok ∧ G a = some (.lst (L.map .int)) ∧ digs m.b ws ∧ 0 ≤ l ∧ l < ws.length ∧ ws.length ≤ 16 ∧ L.length ≤ 40 ∧ (way = 1 ∨ way = -1) ∧
  ∀ ws' L' rg, carR m.b way ws L l ws' L' rg → newL (L'.map .int) G fun d G' => Q (.tup [.tup (ws'.map .int), d, .bl rg]) G'
def leftG (l : Int) (d : D) : Option D := match d with
  | .int x => if x = l then none else some (.int x)
  | _ => none
theorem left_fm {l : Int} : ∀ L : List Int, (L.map D.int).filterMap (leftG l) = (left L l).map .int
  | [] => rfl
  | x :: L => by
    have ih := left_fm (l := l) L
    by_cases h : x = l
    · rw [List.map_cons, List.filterMap_cons_none (by simp [leftG, h]), ih]
      simp [left, h]
    · rw [List.map_cons, List.filterMap_cons_some (b := .int x) (by simp [leftG, h]), ih]
      simp [left, h]
theorem meet_carry (Δ : Nat → Option Spec) (Γ : Gam) (h16 : Δ 16 = some spGone) : Meet Δ Γ 9 5 B_wheels_one_carry spCarry := Dl.unQ (by
 simp (disch := with_unfolding_all
  refine @id _ ?_
  intro ds G Q E _ h
  obtain ⟨m, ws, L, a, l, way, rfl, ok, ha, hd, l0, l1, ln, lL, hw, q⟩ := h
  obtain ⟨b2, b12, s1, s6, sw, w16, c1, c10⟩ := ok
  show wpSs _ _ _ _ [some (mD m), some (.tup (ws.map .int)), some (.ref a), some (.int l), some (.int way), none, none, none, none] G
  unfold B_wheels_one_carry
  walk_at "w"
  intro p hp
  have pa : p ≠ a := (ne_some ha hp).symm
  refine compW_filter (leftG l) hp (by rw [List.length_map]; omega) (fun _ le => le _ _ ha) ?_ ?_
  · intro d hd G' R le hR
    obtain ⟨i, hi⟩ := List.mem_iff_getElem?.mp hd
    obtain ⟨z, hz, rfl⟩ := getI hi
    walk_at "w"
    refine ite_nd (fun h => ?_) (fun h => ?_)
    · walk_at "w"
      have := hR G' (Le.refl _)
      simp only [leftG, h, if_false] at this
      exact this
    · have := hR G' (Le.refl _)
      simp only [leftG, h, if_true] at this
      exact this
  rw [left_fm]
  walk_at "w"
  refine ite_d (fun h => ?_) (fun h => ?_)
  · rw [List.length_map] at h
    walk_at "w"
    exact wk.of (q ws (left L l) true (.inl ⟨h, rfl, rfl, rfl⟩) p hp)
  rw [List.length_map] at h
  walk_at "w"
  intro c hc
  have cp : c ≠ p := (ne_some gup_same hc).symm
  have el : (l + 1).toNat = l.toNat + 1 := by omega
  have hv := digs_getD b2 hd (l.toNat + 1)
  have cG : G c = none := by rw [gup_ne cp] at hc; exact hc
  walk_at "w"
  refine gone_i ⟨b2, b12, by rw [el]; exact hv.1, by rw [el]; exact hv.2, by omega, by omega⟩ hw ?_
  rw [el, Int.mul_one]
  walk_at "w"
  rw [gup_gup, el]
  cases hwr : wrapB m.b (ws.getD (l.toNat + 1) 0 + way) with
  | false =>
    walk_at "w"
    have := q (ws.set (l.toNat + 1) ((ws.getD (l.toNat + 1) 0 + way) % m.b)) (left L l) false (.inr ⟨by omega, rfl, rfl, .inl ⟨hwr, rfl⟩⟩) p hp
    rw [List.map_set] at this
    refine ⟨_, ?_, this⟩
    exact Le.new (by rw [gup_ne cp]; exact cG)
  | true =>
    walk_at "w"
    intro e he
    have ec : e ≠ c := (ne_some gup_same he).symm
    rw [gup_ne ec] at he
    have ep : e ≠ p := (ne_some gup_same he).symm
    rw [gup_ne ep] at he
    have lL2 : (left L l).length ≤ 40 := Nat.le_trans (List.length_filter_le _ _) lL
    walk_at "w"
    intro x hx
    have xe : x ≠ e := (ne_some gup_same hx).symm
    rw [gup_ne xe] at hx
    have xc : x ≠ c := (ne_some gup_same hx).symm
    rw [gup_ne xc] at hx
    have xp : x ≠ p := (ne_some gup_same hx).symm
    rw [gup_ne xp] at hx
    rw [show List.map D.int (left L l) ++ [D.int (l + 1)] = (left L l ++ [l + 1]).map D.int by simp]
    walk_at "w"
    intro L' hpe hso y hy
    have yx : y ≠ x := (ne_some gup_same hy).symm
    rw [gup_ne yx] at hy
    have ye : y ≠ e := (ne_some gup_same hy).symm
    rw [gup_ne ye] at hy
    have yc : y ≠ c := (ne_some gup_same hy).symm
    rw [gup_ne yc] at hy
    have yp : y ≠ p := (ne_some gup_same hy).symm
    rw [gup_ne yp] at hy
    walk_at "w"
    have := q (ws.set (l.toNat + 1) ((ws.getD (l.toNat + 1) 0 + way) % m.b)) L' false (.inr ⟨by omega, rfl, rfl, .inr ⟨hwr, hpe, hso⟩⟩) y hy
    rw [List.map_set] at this
    refine ⟨_, ?_, this⟩
    exact Le.gup2 ((((Le.refl _).gup hp).gup cG).gup he |>.gup hx)
 ) only [↓Dl.qTrue])
theorem carry_i {m : Mc} {ws L : List Int} {a : Addr} {l way : Int} {G : GH} {Q : QD} {E : XD} (ok : m.ok) (ha : G a = some (.lst (L.map .int))) (hd : digs m.b ws) (h : 0 ≤ l ∧ l < ws.length ∧ ws.length ≤ 16 ∧ L.length ≤ 40) (hw : way = 1 ∨ way = -1)
    (q : ∀ ws' L' rg, carR m.b way ws L l ws' L' rg → newL (L'.map .int) G fun d G' => Q (.tup [.tup (ws'.map .int), d, .bl rg]) G') : spCarry [mD m, .tup (ws.map .int), .ref a, .int l, .int way] G Q E := ⟨m, ws, L, a, l, way, rfl, ok, ha, hd, h.1, h.2.1, h.2.2.1, h.2.2.2, hw, q⟩
/-- all carries, in any order that is asked for -/
def spAll : Spec := fun ds G Q _ => ∃ (m : Mc) (ws L od : List Int) (a o : Addr) (way N : Int), ds = [mD m, .tup (ws.map .int), .ref a, .ref o, .int way] ∧ m.ok ∧ G a = some (.lst (L.map .int)) ∧ G o = some (.lst (od.map .int)) ∧ od.length ≤ 1000 ∧ L.length ≤ 16 ∧ (way = 1 ∨ way = -1) ∧
  CI m.b way m.w.toNat N ws L 0 (fun _ => false) ∧ Q (.tup [.tup ((figsOf m.b (N % m.b ^ m.w.toNat) m.w.toNat).map .int), .bl (!(decide (0 ≤ N) && decide (N < m.b ^ m.w.toNat)))]) G
def AllTail (Δ : Nat → Option Spec) (Γ : Gam) (K : EndD) (σ : SD) (G : GH) : Prop := wpSs Δ Γ (.cons (.ifs (.cmp .In (.var 7) (.var 2)) (.cons (.asg (.tup (.cons (.name 1) (.cons (.name 2) (.cons (.name 8) .nil)))) (.call 18 (.cons (.var 0) (.cons (.var 1) (.cons (.var 2) (.cons (.var 7) (.cons (.var 4) .nil))))))) (.cons (.asg (.name 5) (.boo .Or (.cons (.var 5) (.cons (.var 8) .nil)))) .nil)) .nil) .nil) K σ G
theorem AllTail.mk {Δ : Nat → Option Spec} {Γ : Gam} {K : EndD} {σ : SD} {G : GH} (h : AllTail Δ Γ K σ G) : wpSs Δ Γ (.cons (.ifs (.cmp .In (.var 7) (.var 2)) (.cons (.asg (.tup (.cons (.name 1) (.cons (.name 2) (.cons (.name 8) .nil)))) (.call 18 (.cons (.var 0) (.cons (.var 1) (.cons (.var 2) (.cons (.var 7) (.cons (.var 4) .nil))))))) (.cons (.asg (.name 5) (.boo .Or (.cons (.var 5) (.cons (.var 8) .nil)))) .nil)) .nil) .nil) K σ G := h
theorem all_tail {Δ : Nat → Option Spec} {Γ : Gam} (h18 : Δ 18 = some spCarry) {m : Mc} {ws L : List Int} {r : Int} {R : Nat → Bool} {a p o : Addr} {way N l : Int} {x8 : Option D} {G G' : GH} {K : EndD} (mok : m.ok) (hw : way = 1 ∨ way = -1) (ci : CI m.b way m.w.toNat N ws L r R) (lL : L.length ≤ 16)
    (ha : G' a = some (.lst (L.map .int))) {od : List Int} (hp : G' p = some (.lst (od.map .int))) (ap : a ≠ p) (le : Le G G')
    (h1 : l ∉ L → K.nx [some (mD m), some (.tup (ws.map .int)), some (.ref a), some (.ref o), some (.int way), some (.bl (decide (0 < r))), some (.ref p), some (.int l), x8] G')
    (h2 : l ∈ L → ∀ ws' L' r' R' a' x8' G2, CI m.b way m.w.toNat N ws' L' r' R' → L'.length ≤ 16 → cnt R' m.w.toNat < cnt R m.w.toNat → G2 a' = some (.lst (L'.map .int)) → G2 p = some (.lst (od.map .int)) → a' ≠ p → Le G G2 → K.nx [some (mD m), some (.tup (ws'.map .int)), some (.ref a'), some (.ref o), some (.int way), some (.bl (decide (0 < r'))), some (.ref p), some (.int l), x8'] G2) :
    AllTail Δ Γ K
      [some (mD m), some (.tup (ws.map .int)), some (.ref a), some (.ref o), some (.int way), some (.bl (decide (0 < r))), some (.ref p), some (.int l), x8] G' := Dl.unQ (by
 simp (disch := with_unfolding_all
  refine @id _ ?_
  have mok' := mok
  obtain ⟨b2, b12, s1, s6, sw, w16, c1, c10⟩ := mok
  unfold AllTail
  walk_at "w"
  refine ite_d (fun h => ?_) (fun h => ?_)
  · have hb := ci.bnd l h
    have hlen := ci.len
    walk_at "w"
    refine carry_i mok' ha ci.dg ⟨by omega, by omega, by omega, by omega⟩ hw fun ws' L' rg hc a' ha' => ?_
    obtain ⟨ci', q1, q2, q3⟩ := ci.step b2 hw h hc
    have ap' : a' ≠ p := (ne_some hp ha').symm
    have hcnt := cnt_add R l.toNat (ci.off l h) m.w.toNat (by omega)
    have fin : ∀ x8', K.nx [some (mD m), some (.tup (ws'.map .int)), some (.ref a'), some (.ref o), some (.int way), some (.bl (decide (0 < r) || rg)), some (.ref p), some (.int l), x8'] (gup G' a' (.lst (L'.map .int))) := fun x8' => by
      have e : (decide (0 < r) || rg) = decide (0 < (if rg = true then r + 1 else r)) := by
        have := ci.bell
        cases rg with
        | false => simp
        | true =>
          rw [if_pos rfl, Bool.or_true]
          exact (decide_eq_true (by omega)).symm
      rw [e]
      exact h2 h ws' L' _ _ a' x8' _ ci' (by omega) (by omega) gup_same (by rw [gup_ne ap'.symm]; exact hp) ap' (le.trans (Le.new ha'))
    walk_at "w"
    cases hr : decide (0 < r) with
    | true =>
      have := fin (some (.bl rg))
      rw [hr] at this
      walk_at "w"
      exact this
    | false =>
      have := fin (some (.bl rg))
      rw [hr] at this
      walk_at "w"
      exact this
  · walk_at "w"
    exact h1 h
 ) only [↓Dl.qTrue])
local macro_rules | `(tactic| walk_at "pre") => `(tactic| (with_reducible refine AllTail.mk ?_))
theorem meet_all (Δ : Nat → Option Spec) (Γ : Gam) (h18 : Δ 18 = some spCarry) : Meet Δ Γ 9 5 B_wheels_all_carries spAll := Dl.unQ (by
 simp (disch := with_unfolding_all
  refine @id _ ?_
  intro ds G Q E _ h
  obtain ⟨m, ws, L, od, a, o, way, N, rfl, ok, ha, ho, ol, lL, hw, ci, q⟩ := h
  have mok := ok
  obtain ⟨b2, b12, s1, s6, sw, w16, c1, c10⟩ := ok
  show wpSs _ _ _ _ [some (mD m), some (.tup (ws.map .int)), some (.ref a), some (.ref o), some (.int way), none, none, none, none] G
  unfold B_wheels_all_carries
  walk_at "w"
  intro p hp
  have ap : a ≠ p := ne_some ha hp
  walk_at "w"
  refine whlW.mk (fun M σ G' => ∃ ws L od r R a x7 x8, σ = [some (mD m), some (.tup (ws.map .int)), some (.ref a), some (.ref o), some (.int way), some (.bl (decide (0 < r))), some (.ref p), x7, x8] ∧
    CI m.b way m.w.toNat N ws L r R ∧ L.length ≤ 16 ∧ G' a = some (.lst (L.map .int)) ∧ G' p = some (.lst (od.map .int)) ∧ a ≠ p ∧ Le G G' ∧ M = cnt R m.w.toNat + od.length) _ ⟨ws, L, od, 0, _, a, _, _, rfl, ci, lL, by rw [gup_ne ap]; exact ha, gup_same, ap, Le.new hp, rfl⟩ ?_
  rintro M σ G' ⟨ws, L, od, r, R, a, x7, x8, rfl, ci, lL, ha, hp', ap, le, rfl⟩
  walk_at "w"
  intro z hz
  have za : z ≠ a := (ne_some ha hz).symm
  have zp : z ≠ p := (ne_some hp' hz).symm
  walk_at "w"
  refine ite_nd (fun h => ?_) (fun h => ?_)
  · obtain ⟨l0, L', rfl⟩ : ∃ l0 L', L = l0 :: L' := by
      cases L with
      | nil => exact absurd rfl h
      | cons x y => exact ⟨x, y, rfl⟩
    walk_at "w"
    intro y hy
    have yz : y ≠ z := (ne_some gup_same hy).symm
    rw [gup_ne yz] at hy
    have ya : y ≠ a := (ne_some ha hy).symm
    have yp : y ≠ p := (ne_some hp' hy).symm
    have le2 : Le G (gup (gup G' z (.lst [])) y (.lst [])) := le.trans ((Le.new hz).trans (Le.new (by rw [gup_ne yz]; exact hy)))
    have ha2 : gup (gup G' z (.lst [])) y (.lst []) a = some (.lst ((l0 :: L').map .int)) := by rw [gup_ne ya.symm, gup_ne za.symm]; exact ha
    have hp2 : gup (gup G' z (.lst [])) y (.lst []) p = some (.lst (od.map .int)) := by rw [gup_ne yp.symm, gup_ne zp.symm]; exact hp'
    walk_at "w"
    refine ite_nd (fun h => ?_) (fun h => ?_)
    · obtain ⟨o0, od', rfl⟩ : ∃ o0 od', od = o0 :: od' := by
        cases od with
        | nil => exact absurd rfl h
        | cons x y => exact ⟨x, y, rfl⟩
      walk_at "w"
      refine all_tail h18 mok hw ci lL (G := G) (od := od') (by rw [gup_ne ap]; exact ha2) gup_same ap (le2.gup hp) (fun h => ?_) fun h ws' L' r' R' a' x8' G2 ci' ll hc ha' hp2 ap' le' => ?_
      · walk_at "w"
        exact wk.of ⟨_, by simp, ws, l0 :: L', od', r, R, a, _, _, rfl, ci, lL, by rw [gup_ne ap]; exact ha2, gup_same, ap, le2.gup hp, rfl⟩
      · walk_at "w"
        exact wk.of ⟨_, by simp only [List.length_cons]; omega, ws', L', od', r', R', a', _, _, rfl, ci', ll, ha', hp2, ap', le', rfl⟩
    · subst h
      walk_at "w"
      refine all_tail h18 mok hw ci lL (G := G) (od := []) ha2 hp2 ap le2 (fun h => ?_) fun h ws' L' r' R' a' x8' G2 ci' ll hc ha' hp2 ap' le' => ?_
      · exact absurd List.mem_cons_self h
      · walk_at "w"
        exact wk.of ⟨_, by omega, ws', L', [], r', R', a', _, _, rfl, ci', ll, ha', hp2, ap', le', rfl⟩
  · subst h
    obtain ⟨e1, e2⟩ := ci.ends b2 hw
    walk_at "w"
    rw [e2, e1]
    exact ⟨_, le.trans (Le.new hz), q⟩
 ) only [↓Dl.qTrue])
theorem all_i {m : Mc} {ws L od : List Int} {a o : Addr} {way N : Int} {G : GH} {Q : QD} {E : XD} (ok : m.ok) (ha : G a = some (.lst (L.map .int))) (ho : G o = some (.lst (od.map .int))) (ol : od.length ≤ 1000) (lL : L.length ≤ 16) (hw : way = 1 ∨ way = -1)
    (ci : CI m.b way m.w.toNat N ws L 0 (fun _ => false)) (q : Q (.tup [.tup ((figsOf m.b (N % m.b ^ m.w.toNat) m.w.toNat).map .int), .bl (!(decide (0 ≤ N) && decide (N < m.b ^ m.w.toNat)))]) G) : spAll [mD m, .tup (ws.map .int), .ref a, .ref o, .int way] G Q E :=
  ⟨m, ws, L, od, a, o, way, N, rfl, ok, ha, ho, ol, lL, hw, ci, q⟩
/-- the number that a turn comes to -/
def turnN (m : Mc) (s : Sd) (way : Int) : Int := toldN m.b s.wh + way * (toldN m.b s.set * m.b ^ s.p.toNat)
def rowN (m : Mc) (N : Int) : List Int := figsOf m.b (N % m.b ^ m.w.toNat) m.w.toNat
def bellN (m : Mc) (N : Int) : Bool := !(decide (0 ≤ N) && decide (N < m.b ^ m.w.toNat))
theorem first_ci {m : Mc} {s : Sd} {way : Int} (ok : m.ok) (sok : s.ok m) (hw : way = 1 ∨ way = -1) :
    CI m.b way m.w.toNat (turnN m s way) (firstF m.b way s.set s.p.toNat s.wh).1 (firstF m.b way s.set s.p.toNat s.wh).2 0 (fun _ => false) ∧ (firstF m.b way s.set s.p.toNat s.wh).2.length ≤ 6 := Dl.unQ (by
 simp (disch := with_unfolding_all
  refine @id _ ?_
  obtain ⟨b2, b12, s1, s6, sw, w16, c1, c10⟩ := ok
  obtain ⟨ls, lw, lc, hs, hd, hc, p0, pw, pc⟩ := sok
  obtain ⟨i1, i2, i3, i4, i5, i6, i7, i8⟩ := firstF_ok b2 hw s.set s.p.toNat s.wh hs hd (by omega)
  refine ⟨⟨i1.trans lw, i2, i3, fun l h => ?_, fun _ _ => rfl, ?_, fun i _ h _ => ?_, Int.le_refl 0⟩, by omega⟩
  · have := i4 l h; omega
  · rw [Int.zero_mul, Int.add_zero, i6]; rfl
  · rcases h with h | h
    · exact i7 i h
    · cases h
 ) only [↓Dl.qTrue])
def spTurned : Spec := fun ds G Q _ => ∃ (m : Mc) (s : Sd) (way : Int), ds = [mD m, sD s, .int way] ∧ m.ok ∧ s.ok m ∧ (way = 1 ∨ way = -1) ∧ Q (.tup [.tup ((rowN m (turnN m s way)).map .int), .bl (bellN m (turnN m s way))]) G
theorem meet_turned (Δ : Nat → Option Spec) (Γ : Gam) (h17 : Δ 17 = some spFirst) (h19 : Δ 19 = some spAll) : Meet Δ Γ 5 3 B_wheels_turned spTurned := Dl.unQ (by
 simp (disch := with_unfolding_all
  refine @id _ ?_
  intro ds G Q E _ h
  obtain ⟨m, s, way, rfl, ok, sok, hw, q⟩ := h
  show wpSs _ _ _ _ [some (mD m), some (sD s), some (.int way), none, none] G
  unfold B_wheels_turned
  walk_at "w"
  refine first_i ok sok hw fun a ha => ?_
  obtain ⟨ci, hl⟩ := first_ci ok sok hw
  walk_at "w"
  intro c hc
  have ca : c ≠ a := (ne_some gup_same hc).symm
  rw [gup_ne ca] at hc
  walk_at "w"
  refine all_i (od := []) (N := turnN m s way) ok (by rw [gup_ne ca.symm]; exact gup_same) gup_same (by simp) (by omega) hw ci ?_
  exact ⟨G, ((Le.refl G).gup ha).gup hc, q⟩
 ) only [↓Dl.qTrue])
theorem turned_i {m : Mc} {s : Sd} {way : Int} {G : GH} {Q : QD} {E : XD} (ok : m.ok) (sok : s.ok m) (hw : way = 1 ∨ way = -1) (q : Q (.tup [.tup ((rowN m (turnN m s way)).map .int), .bl (bellN m (turnN m s way))]) G) : spTurned [mD m, sD s, .int way] G Q E := ⟨m, s, way, rfl, ok, sok, hw, q⟩
/-! ### deeds: the turn -/
/-- 21: deeds.with_counts(0 machine, 1 stand, 2 tally, 3 base, 4 slides, 5 wheels, 6 counters, 7 number) -/
def B_deeds_with_counts : Sms :=
  (.cons (.asg (.tup (.cons (.name 3) (.cons (.name 4) (.cons (.name 5) (.cons (.name 6) .nil))))) (.var 0))
  (.cons (.asg (.name 7) (.bin .Add (.call 4 (.cons (.var 3) (.cons (.ix (.var 1) (.int 3)) .nil))) (.bin .Mult (.var 2) (.call 6 (.cons (.var 3) (.cons (.ix (.var 1) (.int 1)) .nil))))))
  (.cons (.ret (.call 5 (.cons (.var 3) (.cons (.bin .Mod (.var 7) (.call 6 (.cons (.var 3) (.cons (.var 6) .nil)))) (.cons (.var 6) .nil)))))
  .nil)))
/-- 22: deeds.crank(0 machine, 1 stand, 2 way, 3 tally, 4 wheels, 5 rang) -/
def B_deeds_crank : Sms :=
  (.cons (.asg (.tup (.cons (.name 4) (.cons (.name 5) .nil))) (.call 20 (.cons (.var 0) (.cons (.var 1) (.cons (.var 2) .nil)))))
  (.cons (.ret (.tup (.cons (.tup (.cons (.ix (.var 1) (.int 0)) (.cons (.ix (.var 1) (.int 1)) (.cons (.var 4) (.cons (.call 21 (.cons (.var 0) (.cons (.var 1) (.cons (.var 3) .nil)))) .nil))))) (.cons (.var 5) .nil))))
  .nil))
def tallyN (m : Mc) (s : Sd) (t : Int) : Int := toldN m.b s.ct + t * m.b ^ s.p.toNat
def ctN (m : Mc) (N : Int) : List Int := figsOf m.b (N % m.b ^ m.c.toNat) m.c.toNat
def spCounts : Spec := fun ds G Q _ => ∃ (m : Mc) (s : Sd) (t : Int), ds = [mD m, sD s, .int t] ∧ m.ok ∧ s.ok m ∧ -1 ≤ t ∧ t ≤ 1 ∧ Q (.tup ((ctN m (tallyN m s t)).map .int)) G
theorem meet_counts (Δ : Nat → Option Spec) (Γ : Gam) (h4 : Δ 4 = some spTold) (h6 : Δ 6 = some spPower) (h5 : Δ 5 = some spFigs) : Meet Δ Γ 8 3 B_deeds_with_counts spCounts := Dl.unQ (by
 simp (disch := with_unfolding_all
  refine @id _ ?_
  intro ds G Q E _ h
  obtain ⟨m, s, t, rfl, ok, sok, t1, t2, q⟩ := h
  obtain ⟨b2, b12, s1, s6, sw, w16, c1, c10⟩ := ok
  obtain ⟨ls, lw, lc, hs, hd, hc, p0, pw, pc⟩ := sok
  show wpSs _ _ _ _ [some (mD m), some (sD s), some (.int t), none, none, none, none, none] G
  unfold B_deeds_with_counts
  walk_at "w"
  refine told_i ⟨b2, b12⟩ ?_
  walk_at "w"
  refine power_i ⟨by omega, b12, p0, by omega⟩ ?_
  walk_at "w"
  refine power_i ⟨by omega, b12, by omega, by omega⟩ ?_
  have := pow_pos' (b := m.b) (by omega) m.c.toNat
  walk_at "w"
  exact figs_i ⟨b2, b12, by omega, by omega⟩ (wk.of q)
 ) only [↓Dl.qTrue])
theorem counts_i {m : Mc} {s : Sd} {t : Int} {G : GH} {Q : QD} {E : XD} (ok : m.ok) (sok : s.ok m) (h : -1 ≤ t ∧ t ≤ 1) (q : Q (.tup ((ctN m (tallyN m s t)).map .int)) G) : spCounts [mD m, sD s, .int t] G Q E := ⟨m, s, t, rfl, ok, sok, h.1, h.2, q⟩
/-- the stand behind a turn -/
def turnS (m : Mc) (s : Sd) (way t : Int) : Sd := ⟨s.set, s.p, rowN m (turnN m s way), ctN m (tallyN m s t)⟩
theorem figsOf_digs {b : Int} (hb : 0 < b) : ∀ (m : Nat) (n : Int), digs b (figsOf b n m)
  | 0, n => by simp [figsOf, digs]
  | m + 1, n => fun x hx => by
    rcases List.mem_cons.mp hx with rfl | h
    · exact ⟨Int.emod_nonneg _ (by omega), Int.emod_lt_of_pos _ hb⟩
    · exact figsOf_digs hb m _ x h
def spCrank : Spec := fun ds G Q _ => ∃ (m : Mc) (s : Sd) (way t : Int), ds = [mD m, sD s, .int way, .int t] ∧ m.ok ∧ s.ok m ∧ (way = 1 ∨ way = -1) ∧ -1 ≤ t ∧ t ≤ 1 ∧ Q (.tup [sD (turnS m s way t), .bl (bellN m (turnN m s way))]) G
theorem meet_crank (Δ : Nat → Option Spec) (Γ : Gam) (h20 : Δ 20 = some spTurned) (h21 : Δ 21 = some spCounts) : Meet Δ Γ 6 4 B_deeds_crank spCrank := Dl.unQ (by
 simp (disch := with_unfolding_all
  refine @id _ ?_
  intro ds G Q E _ h
  obtain ⟨m, s, way, t, rfl, ok, sok, hw, t1, t2, q⟩ := h
  show wpSs _ _ _ _ [some (mD m), some (sD s), some (.int way), some (.int t), none, none] G
  unfold B_deeds_crank
  walk_at "w"
  refine turned_i ok sok hw ?_
  walk_at "w"
  refine counts_i ok sok ⟨t1, t2⟩ ?_
  walk_at "w"
  exact wk.of q
 ) only [↓Dl.qTrue])
theorem crank_i {m : Mc} {s : Sd} {way t : Int} {G : GH} {Q : QD} {E : XD} (ok : m.ok) (sok : s.ok m) (hw : way = 1 ∨ way = -1) (h : -1 ≤ t ∧ t ≤ 1) (q : Q (.tup [sD (turnS m s way t), .bl (bellN m (turnN m s way))]) G) : spCrank [mD m, sD s, .int way, .int t] G Q E :=
  ⟨m, s, way, t, rfl, ok, sok, hw, h.1, h.2, q⟩
end
set_option maxRecDepth 100000
set_option maxHeartbeats 2000000
section
open PySem PySem.Spec PyProof.Rows L2
/-! ### new lists beside the drawn numbers' state -/
section
variable {Δ : Nat → Option Spec} {Γ : Gam} {G : GH} {a c p p2 p3 : Addr} {S : HS} {o o2 o3 : GO} {Q : QD} {E : XD} {m : Int} {xs : List D} {r : Sms} {K : EndD} {σ : SD}
theorem newH (h : a ≠ c) (q : ∀ p, p ≠ a → p ≠ c → G p = none → Q (.ref p) (gup (hG G a c S) p (.lst xs))) : newL xs (hG G a c S) Q := fun p hp => by
  have pa : p ≠ a := (ne_some hG_a hp).symm
  have pc : p ≠ c := (ne_some (hG_b h) hp).symm
  exact q p pa pc (by rw [hG_ne pa pc] at hp; exact hp)
theorem newHP (h : a ≠ c) (pa : p ≠ a) (pc : p ≠ c) (q : ∀ p2, p2 ≠ a → p2 ≠ c → p2 ≠ p → G p2 = none → Q (.ref p2) (gup (gup (hG G a c S) p o) p2 (.lst xs))) : newL xs (gup (hG G a c S) p o) Q := fun x hx => by
  have xp : x ≠ p := (ne_some gup_same hx).symm
  rw [gup_ne xp] at hx
  have xa : x ≠ a := (ne_some hG_a hx).symm
  have xc : x ≠ c := (ne_some (hG_b h) hx).symm
  exact q x xa xc xp (by rw [hG_ne xa xc] at hx; exact hx)
theorem newHPP (h : a ≠ c) (pa : p ≠ a) (pc : p ≠ c) (q : ∀ p3, p3 ≠ a → p3 ≠ c → p3 ≠ p → p3 ≠ p2 → G p3 = none → Q (.ref p3) (gup (gup (gup (hG G a c S) p o) p2 o2) p3 (.lst xs))) : newL xs (gup (gup (hG G a c S) p o) p2 o2) Q := fun x hx => by
  have xp2 : x ≠ p2 := (ne_some gup_same hx).symm
  rw [gup_ne xp2] at hx
  have xp : x ≠ p := (ne_some gup_same hx).symm
  rw [gup_ne xp] at hx
  have xa : x ≠ a := (ne_some hG_a hx).symm
  have xc : x ≠ c := (ne_some (hG_b h) hx).symm
  exact q x xa xc xp xp2 (by rw [hG_ne xa xc] at hx; exact hx)
theorem nextH (h : a ≠ c) (ok : S.ok) (hm : 1 ≤ m ∧ m ≤ 1000000000) (q : ∀ r S', 0 ≤ r → r < m → S'.ok → Q (.int r) (hG G a c S')) : spNext [.ref a, .int m] (hG G a c S) Q E :=
  next_i (hG_at h) ok hm fun r S' h1 h2 h3 => by rw [hG_hG]; exact q r S' h1 h2 h3
theorem nextHP (h : a ≠ c) (pa : p ≠ a) (pc : p ≠ c) (ok : S.ok) (hm : 1 ≤ m ∧ m ≤ 1000000000) (q : ∀ r S', 0 ≤ r → r < m → S'.ok → Q (.int r) (gup (hG G a c S') p o)) : spNext [.ref a, .int m] (gup (hG G a c S) p o) Q E :=
  next_i (at_gup (hG_at h) pa pc) ok hm fun r S' h1 h2 h3 => by rw [hG_gup pa pc, hG_hG]; exact q r S' h1 h2 h3
theorem nextHPP (h : a ≠ c) (pa : p ≠ a) (pc : p ≠ c) (p2a : p2 ≠ a) (p2c : p2 ≠ c) (ok : S.ok) (hm : 1 ≤ m ∧ m ≤ 1000000000) (q : ∀ r S', 0 ≤ r → r < m → S'.ok → Q (.int r) (gup (gup (hG G a c S') p o) p2 o2)) : spNext [.ref a, .int m] (gup (gup (hG G a c S) p o) p2 o2) Q E :=
  next_i (at_gup (at_gup (hG_at h) pa pc) p2a p2c) ok hm fun r S' h1 h2 h3 => by rw [hG_gup p2a p2c, hG_gup pa pc, hG_hG]; exact q r S' h1 h2 h3
theorem leP (pa : p ≠ a) (pc : p ≠ c) (hp : G p = none) : Le (hG G a c S) (gup (hG G a c S) p o) := Le.new (by rw [hG_ne pa pc]; exact hp)
theorem lePP (pa : p ≠ a) (pc : p ≠ c) (hp : G p = none) (p2a : p2 ≠ a) (p2c : p2 ≠ c) (hp2 : G p2 = none) : Le (hG G a c S) (gup (gup (hG G a c S) p o) p2 o2) := (leP pa pc hp).gup (by rw [hG_ne p2a p2c]; exact hp2)
theorem lePPP (pa : p ≠ a) (pc : p ≠ c) (hp : G p = none) (p2a : p2 ≠ a) (p2c : p2 ≠ c) (hp2 : G p2 = none) (p3a : p3 ≠ a) (p3c : p3 ≠ c) (hp3 : G p3 = none) : Le (hG G a c S) (gup (gup (gup (hG G a c S) p o) p2 o2) p3 o3) := (lePP pa pc hp p2a p2c hp2).gup (by rw [hG_ne p3a p3c]; exact hp3)
theorem wkP {P : GH → Prop} (pa : p ≠ a) (pc : p ≠ c) (hp : G p = none) (q : P (hG G a c S)) : wk P (gup (hG G a c S) p o) := ⟨_, leP pa pc hp, q⟩
theorem wkPP {P : GH → Prop} (pa : p ≠ a) (pc : p ≠ c) (hp : G p = none) (p2a : p2 ≠ a) (p2c : p2 ≠ c) (hp2 : G p2 = none) (q : P (hG G a c S)) : wk P (gup (gup (hG G a c S) p o) p2 o2) := ⟨_, lePP pa pc hp p2a p2c hp2, q⟩
theorem wkPPP {P : GH → Prop} (pa : p ≠ a) (pc : p ≠ c) (hp : G p = none) (p2a : p2 ≠ a) (p2c : p2 ≠ c) (hp2 : G p2 = none) (p3a : p3 ≠ a) (p3c : p3 ≠ c) (hp3 : G p3 = none) (q : P (hG G a c S)) : wk P (gup (gup (gup (hG G a c S) p o) p2 o2) p3 o3) := ⟨_, lePPP pa pc hp p2a p2c hp2 p3a p3c hp3, q⟩
theorem x_pick2 {x y i : Int} (h : G a = some (.lst [.int x, .int y])) (hi : 0 ≤ i ∧ i < 2) (q : ∀ v, (v = x ∨ v = y) → Q (.int v) G) : ixD (.ref a) (.int i) G Q := Dl.unQ (by
 simp (disch := with_unfolding_all
  refine @id _ ?_
  refine x_lb h hi ?_
  obtain e | e : i = 0 ∨ i = 1 := by omega
  · subst e; exact q x (.inl rfl)
  · subst e; exact q y (.inr rfl)
 ) only [↓Dl.qTrue])
theorem x_pick3 {x y z i : Int} (h : G a = some (.lst [.int x, .int y, .int z])) (hi : 0 ≤ i ∧ i < 3) (q : ∀ v, (v = x ∨ v = y ∨ v = z) → Q (.int v) G) : ixD (.ref a) (.int i) G Q := Dl.unQ (by
 simp (disch := with_unfolding_all
  refine @id _ ?_
  refine x_lb h hi ?_
  obtain e | e | e : i = 0 ∨ i = 1 ∨ i = 2 := by omega
  · subst e; exact q x (.inl rfl)
  · subst e; exact q y (.inr (.inl rfl))
  · subst e; exact q z (.inr (.inr rfl))
 ) only [↓Dl.qTrue])
theorem x_pick4 {x y z w i : Int} (h : G a = some (.lst [.int x, .int y, .int z, .int w])) (hi : 0 ≤ i ∧ i < 4) (q : ∀ v, (v = x ∨ v = y ∨ v = z ∨ v = w) → Q (.int v) G) : ixD (.ref a) (.int i) G Q := Dl.unQ (by
 simp (disch := with_unfolding_all
  refine @id _ ?_
  refine x_lb h hi ?_
  obtain e | e | e | e : i = 0 ∨ i = 1 ∨ i = 2 ∨ i = 3 := by omega
  · subst e; exact q x (.inl rfl)
  · subst e; exact q y (.inr (.inl rfl))
  · subst e; exact q z (.inr (.inr (.inl rfl)))
  · subst e; exact q w (.inr (.inr (.inr rfl)))
 ) only [↓Dl.qTrue])
end
local macro_rules | `(tactic| walk_at "heap2") => `(tactic| first | exact hG_a | exact hG_b (by assumption) | (refine (hG_ne (by first | assumption | exact Ne.symm (by assumption)) (by first | assumption | exact Ne.symm (by assumption))).trans ?_; walk_at "heap"))
local macro_rules | `(tactic| walk_at "own") => `(tactic| first
  | ((with_reducible refine newH (by assumption) ?_); intro x0 x1 x2 x3)
  | ((with_reducible refine newHP (by assumption) (by assumption) (by assumption) ?_); intro x0 x1 x2 x3 x4)
  | ((with_reducible refine newHPP (by assumption) (by assumption) (by assumption) ?_); intro x0 x1 x2 x3 x4 x5)
  | ((with_reducible refine' nextH (by assumption) (by assumption) ?k1 ?_); (case k1 => (constructor <;> omega)))
  | ((with_reducible refine' nextHP (by assumption) (by assumption) (by assumption) (by assumption) ?k1 ?_); (case k1 => (constructor <;> omega)))
  | ((with_reducible refine' nextHPP (by assumption) (by assumption) (by assumption) (by assumption) (by assumption) (by assumption) ?k1 ?_); (case k1 => (constructor <;> omega))))
local macro_rules | `(tactic| walk_at "pre") => `(tactic| first
  | ((with_reducible refine' x_pick2 ?k1 ?k2 ?_); (case k1 => walk_at "heap"); (case k2 => (constructor <;> omega)))
  | ((with_reducible refine' x_pick3 ?k1 ?k2 ?_); (case k1 => walk_at "heap"); (case k2 => (constructor <;> omega)))
  | ((with_reducible refine' x_pick4 ?k1 ?k2 ?_); (case k1 => walk_at "heap"); (case k2 => (constructor <;> omega)))
  | (with_reducible refine wkP (P := fun G' => wpSs _ _ _ _ _ G') (by assumption) (by assumption) (by assumption) ?_)
  | (with_reducible refine wkPP (P := fun G' => wpSs _ _ _ _ _ G') (by assumption) (by assumption) (by assumption) (by assumption) (by assumption) (by assumption) ?_)
  | (with_reducible refine wkPPP (P := fun G' => wpSs _ _ _ _ _ G') (by assumption) (by assumption) (by assumption) (by assumption) (by assumption) (by assumption) (by assumption) (by assumption) (by assumption) ?_))
/-- 78: law._law_machine.1e2d(0 _law_h, 1 _law_most, 2 _law_base, 3 _law_slides, 4 _law_wheels) -/
def B_law_law_machine_1e2d : Sms :=
  (.cons (.asg (.name 2) (.ix (.lst (.cons (.int 2) (.cons (.int 3) (.cons (.blt .min (.cons (.int 10) (.cons (.var 1) .nil))) (.cons (.bin .Add (.int 2) (.call 29 (.cons (.var 0) (.cons (.bin .Sub (.var 1) (.int 1)) .nil)))) .nil))))) (.call 29 (.cons (.var 0) (.cons (.int 4) .nil)))))
  (.cons (.asg (.name 3) (.bin .Add (.int 1) (.call 29 (.cons (.var 0) (.cons (.ix (.lst (.cons (.int 3) (.cons (.int 6) .nil))) (.call 29 (.cons (.var 0) (.cons (.int 2) .nil)))) .nil)))))
  (.cons (.asg (.name 4) (.blt .min (.cons (.int 16) (.cons (.bin .Add (.var 3) (.call 29 (.cons (.var 0) (.cons (.ix (.lst (.cons (.int 4) (.cons (.int 11) .nil))) (.call 29 (.cons (.var 0) (.cons (.int 2) .nil)))) .nil)))) .nil))))
  (.cons (.ret (.tup (.cons (.var 2) (.cons (.var 3) (.cons (.var 4) (.cons (.bin .Add (.int 1) (.call 29 (.cons (.var 0) (.cons (.ix (.lst (.cons (.int 4) (.cons (.int 10) .nil))) (.call 29 (.cons (.var 0) (.cons (.int 2) .nil)))) .nil)))) .nil))))))
  .nil))))
def spMachine : Spec := fun ds G Q _ => ∃ (a c : Addr) (S : HS) (G0 : GH) (most : Int), ds = [.ref a, .int most] ∧ G = hG G0 a c S ∧ a ≠ c ∧ S.ok ∧ 3 ≤ most ∧ most ≤ 12 ∧ ∀ (m : Mc) S', m.ok → S'.ok → Q (mD m) (hG G0 a c S')
theorem meet_machine (Δ : Nat → Option Spec) (Γ : Gam) (h29 : Δ 29 = some spNext) : Meet Δ Γ 5 2 B_law_law_machine_1e2d spMachine := Dl.unQ (by
 simp (disch := with_unfolding_all
  refine @id _ ?_
  intro ds G Q E _ h
  obtain ⟨a, c, S, G, most, rfl, rfl, hac, ok, m1, m2, q⟩ := h
  show wpSs _ _ _ _ [some (.ref a), some (.int most), none, none, none] _
  unfold B_law_law_machine_1e2d
  walk_at "w"
  intro r S r1 r2 ok
  walk_at "w"
  intro r' S r1' r2' ok
  walk_at "w"
  intro b hb
  have b2 : 2 ≤ b ∧ b ≤ 12 := by
    have : (if most < 10 then most else 10) ≤ 10 ∧ 3 ≤ (if most < 10 then most else 10) := by split <;> omega
    omega
  clear hb
  walk_at "w"
  intro r2 S r2a r2b ok
  walk_at "w"
  intro s6 hs6
  walk_at "w"
  intro r3 S r3a r3b ok
  walk_at "w"
  intro r4 S r4a r4b ok
  walk_at "w"
  intro w11 hw11
  walk_at "w"
  intro r5 S r5a r5b ok
  walk_at "w"
  intro r6 S r6a r6b ok
  walk_at "w"
  intro c10 hc10
  walk_at "w"
  intro r7 S r7a r7b ok
  walk_at "w"
  refine wkP (by assumption) (by assumption) (by assumption) (q ⟨b, 1 + r3, if 1 + r3 + r5 < 16 then 1 + r3 + r5 else 16, 1 + r7⟩ S ⟨b2.1, b2.2, ?_, ?_, ?_, ?_, ?_, ?_⟩ ok)
  all_goals simp only []
  all_goals first | omega | (split <;> omega)
 ) only [↓Dl.qTrue])
theorem figures_i {a c : Addr} {S : HS} {G : GH} {Q : QD} {E : XD} {b m : Int} (hac : a ≠ c) (ok : S.ok) (h : 2 ≤ b ∧ b ≤ 12 ∧ 0 ≤ m ∧ m ≤ 100) (q : ∀ fs S', fs.length = m.toNat → digs b fs → S'.ok → Q (.tup (fs.map .int)) (hG G a c S')) : spFigures [.ref a, .int b, .int m] (hG G a c S) Q E :=
  ⟨a, c, S, b, m, rfl, hG_at hac, ok, h.1, h.2.1, h.2.2.1, h.2.2.2, fun fs S' h1 h2 h3 => by rw [hG_hG]; exact q fs S' h1 h2 h3⟩
local macro_rules | `(tactic| walk_at "pre") => `(tactic| first
  | ((with_reducible refine' figures_i (by assumption) (by assumption) ?k1 ?_); (case k1 => (refine ⟨?_, ?_, ?_, ?_⟩ <;> omega)))
  | ((with_reducible refine last_i ?_)))
/-! ### a turn and one back -/
theorem told_figs {b : Int} (hb : 2 ≤ b) : ∀ (n : Nat) (N : Int), 0 ≤ N → N < b ^ n → toldN b (figsOf b N n) = N
  | 0, N, h1, h2 => by simp at h2; simp [figsOf, toldN]; omega
  | n + 1, N, h1, h2 => by
    have h3 : 0 ≤ N / b := Int.ediv_nonneg h1 (by omega)
    have h4 : N / b < b ^ n := Int.ediv_lt_of_lt_mul (by omega) (by rw [← Int.pow_succ]; exact h2)
    simp only [figsOf, toldN]
    rw [told_figs hb n (N / b) h3 h4]
    have := Int.emod_add_mul_ediv N b
    omega
end
set_option maxRecDepth 100000
set_option maxHeartbeats 4000000
section
open PySem PySem.Spec PyProof.Rows L2
local macro_rules | `(tactic| walk_at "heap2") => `(tactic| first | exact hG_a | exact hG_b (by assumption) | (refine (hG_ne (by first | assumption | exact Ne.symm (by assumption)) (by first | assumption | exact Ne.symm (by assumption))).trans ?_; walk_at "heap"))
local macro_rules | `(tactic| walk_at "own") => `(tactic| first
  | ((with_reducible refine newH (by assumption) ?_); intro x0 x1 x2 x3)
  | ((with_reducible refine newHP (by assumption) (by assumption) (by assumption) ?_); intro x0 x1 x2 x3 x4)
  | ((with_reducible refine newHPP (by assumption) (by assumption) (by assumption) ?_); intro x0 x1 x2 x3 x4 x5)
  | ((with_reducible refine' nextH (by assumption) (by assumption) ?k1 ?_); (case k1 => (constructor <;> omega)))
  | ((with_reducible refine' nextHP (by assumption) (by assumption) (by assumption) (by assumption) ?k1 ?_); (case k1 => (constructor <;> omega)))
  | ((with_reducible refine' nextHPP (by assumption) (by assumption) (by assumption) (by assumption) (by assumption) (by assumption) ?k1 ?_); (case k1 => (constructor <;> omega))))
local macro_rules | `(tactic| walk_at "pre") => `(tactic| first
  | ((with_reducible refine' x_pick2 ?k1 ?k2 ?_); (case k1 => walk_at "heap"); (case k2 => (constructor <;> omega)))
  | ((with_reducible refine' x_pick3 ?k1 ?k2 ?_); (case k1 => walk_at "heap"); (case k2 => (constructor <;> omega)))
  | ((with_reducible refine' x_pick4 ?k1 ?k2 ?_); (case k1 => walk_at "heap"); (case k2 => (constructor <;> omega)))
  | (with_reducible refine wkP (P := fun G' => wpSs _ _ _ _ _ G') (by assumption) (by assumption) (by assumption) ?_)
  | (with_reducible refine wkPP (P := fun G' => wpSs _ _ _ _ _ G') (by assumption) (by assumption) (by assumption) (by assumption) (by assumption) (by assumption) ?_)
  | (with_reducible refine wkPPP (P := fun G' => wpSs _ _ _ _ _ G') (by assumption) (by assumption) (by assumption) (by assumption) (by assumption) (by assumption) (by assumption) (by assumption) (by assumption) ?_))
theorem lawStart {ns : List Int} (h : ns.length ≤ 63) (n : Int) (h1 : 0 ≤ n) (h2 : n < 2147483647) : HS.ok ⟨n, 0, ns⟩ := ⟨h1, h2, Int.le_refl 0, h⟩
end
set_option maxRecDepth 100000
set_option maxHeartbeats 4000000
section
open PySem PySem.Spec PyProof.Rows L2
local macro_rules | `(tactic| walk_at "heap2") => `(tactic| first | exact hG_a | exact hG_b (by assumption) | (refine (hG_ne (by first | assumption | exact Ne.symm (by assumption)) (by first | assumption | exact Ne.symm (by assumption))).trans ?_; walk_at "heap"))
theorem Le.push {G G1 : GH} {p : Addr} {o : GO} (h : Le G G1) (n : G1 p = none) : Le G (Dl.gup G1 p o) := fun b u e => by
  have e1 := h b u e
  rw [gup_ne (ne_some e1 n)]; exact e1
theorem Le.at {G G' : GH} {p : Addr} {o : GO} (l : Le G G') (h : G p = some o) : G' p = some o := l p o h
/-- all but p stays -/
def LeX (p : Addr) (G G' : GH) : Prop := ∀ a o, a ≠ p → G a = some o → G' a = some o
theorem LeX.at {G G' : GH} {p q : Addr} {o : GO} (l : LeX p G G') (n : q ≠ p) (h : G q = some o) : G' q = some o := l q o n h
theorem hG_le {G G' : GH} {h c : Addr} {S : HS} (l : Le G G') : Le (hG G h c S) (hG G' h c S) := Le.gup2 (Le.gup2 l)
theorem newK {xs : List D} {G : GH} {Q : QD} (q : ∀ p G', G p = none → Le G G' → G' p = some (.lst xs) → Q (.ref p) G') : newL xs G Q := fun p hp => q p _ hp (Le.new hp) gup_same
theorem wk_le {P : GH → Prop} {G G1 : GH} (l : Le G G1) (q : P G) : wk P G1 := ⟨G, l, q⟩
local macro_rules | `(tactic| walk_at "le") => `(tactic| first | exact Le.refl _ | assumption | (refine Le.push ?_ (by assumption); walk_at "le"))
theorem sl_41 {a b c d : D} {G : GH} {Q : QD} (q : Q (.tup [b, c, d]) G) : slD (.tup [a, b, c, d]) (some 1) none G Q := q
theorem sl_42 {a b c d : D} {G : GH} {Q : QD} (q : Q (.tup [c, d]) G) : slD (.tup [a, b, c, d]) (some 2) none G Q := q
local macro_rules | `(tactic| walk_at "pre") => `(tactic| first | (with_reducible refine sl_41 ?_) | (with_reducible refine sl_42 ?_))
theorem c_in_lS {a : Addr} {ns : List Str} {i : Str} {G : GH} {Q : QD} (h : G a = some (.lst (ns.map .str))) (q : Q (.bl (decide (i ∈ ns))) G) : cmpD .In (.str i) (.ref a) G Q := by
  simp only [cmpD, inD, itemsD, h, flat_strs, inV_strs]
  exact ⟨rfl, trivial, q⟩
theorem c_in_i2 {a : Addr} {x y i : Int} {G : GH} {Q : QD} (h : G a = some (.lst [.int x, .int y])) (q : Q (.bl (decide (i ∈ [x, y]))) G) : cmpD .In (.int i) (.ref a) G Q := c_in_l (ns := [x, y]) h q
theorem c_in_i3 {a : Addr} {x y z i : Int} {G : GH} {Q : QD} (h : G a = some (.lst [.int x, .int y, .int z])) (q : Q (.bl (decide (i ∈ [x, y, z]))) G) : cmpD .In (.int i) (.ref a) G Q := c_in_l (ns := [x, y, z]) h q
theorem c_in_s2 {a : Addr} {x y i : Str} {G : GH} {Q : QD} (h : G a = some (.lst [.str x, .str y])) (q : Q (.bl (decide (i ∈ [x, y]))) G) : cmpD .In (.str i) (.ref a) G Q := c_in_lS (ns := [x, y]) h q
theorem c_in_s3 {a : Addr} {x y z i : Str} {G : GH} {Q : QD} (h : G a = some (.lst [.str x, .str y, .str z])) (q : Q (.bl (decide (i ∈ [x, y, z]))) G) : cmpD .In (.str i) (.ref a) G Q := c_in_lS (ns := [x, y, z]) h q
/-! ### deeds -/
def wd : Nat → Str
  | 0 => "setting"
  | 1 => "wheels"
  | 2 => "counts"
  | _ => "all"
inductive Dd where
  | set (i f : Int) | shift (b : Int) | turn (w t : Int) | wipe (k : Nat) | turns | load
abbrev Dd.d : Dd → D
  | .set i f => .tup [.str "set", .int i, .int f]
  | .shift b => .tup [.str "shift", .int b]
  | .turn w t => .tup [.str "turn", .int w, .int t]
  | .wipe k => .tup [.str "wipe", .str (wd k)]
  | .turns => .tup [.str "turns", .int 1, .int 0]
  | .load => .tup [.str "load", .str "a"]
def zs (n : Nat) : List Int := List.replicate n 0
def wipeS (s : Sd) : Nat → Sd
  | 0 => { s with set := zs s.set.length }
  | 1 => { s with wh := zs s.wh.length }
  | _ => { s with ct := zs s.ct.length }
theorem rep0 (n : Nat) : (List.replicate n [D.int 0]).flatten = (zs n).map .int := by
  induction n with
  | zero => rfl
  | succ n ih => rw [List.replicate_succ, List.flatten_cons, ih]; rfl
/-- 3: machines.noughts(0 machine, 1 base, 2 slides, 3 wheels, 4 counters) -/
def B_machines_noughts : Sms :=
  (.cons (.asg (.tup (.cons (.name 1) (.cons (.name 2) (.cons (.name 3) (.cons (.name 4) .nil))))) (.var 0))
  (.cons (.ret (.tup (.cons (.bin .Mult (.tup (.cons (.int 0) .nil)) (.var 2)) (.cons (.int 0) (.cons (.bin .Mult (.tup (.cons (.int 0) .nil)) (.var 3)) (.cons (.bin .Mult (.tup (.cons (.int 0) .nil)) (.var 4)) .nil))))))
  .nil))
/-- 24: deeds.wiped(0 stand, 1 word, 2 setting, 3 place, 4 wheels, 5 counts) -/
def B_deeds_wiped : Sms :=
  (.cons (.asg (.tup (.cons (.name 2) (.cons (.name 3) (.cons (.name 4) (.cons (.name 5) .nil))))) (.var 0))
  (.cons (.ifs (.cmp .Eq (.var 1) (.str "setting"))
  (.cons (.ret (.tup (.cons (.bin .Mult (.tup (.cons (.int 0) .nil)) (.blt .len (.cons (.var 2) .nil))) (.cons (.var 3) (.cons (.var 4) (.cons (.var 5) .nil))))))
  .nil)
  .nil)
  (.cons (.ifs (.cmp .Eq (.var 1) (.str "wheels"))
  (.cons (.ret (.tup (.cons (.var 2) (.cons (.var 3) (.cons (.bin .Mult (.tup (.cons (.int 0) .nil)) (.blt .len (.cons (.var 4) .nil))) (.cons (.var 5) .nil))))))
  .nil)
  .nil)
  (.cons (.ret (.tup (.cons (.var 2) (.cons (.var 3) (.cons (.var 4) (.cons (.bin .Mult (.tup (.cons (.int 0) .nil)) (.blt .len (.cons (.var 5) .nil))) .nil))))))
  .nil))))
/-- 25: deeds.at_place(0 machine, 1 stand, 2 place) -/
def B_deeds_at_place : Sms :=
  (.cons (.ifs (.nt (.cmp2 .LtE .LtE (.int 0) (.var 2) (.call 2 (.cons (.var 0) .nil))))
  (.cons (.ret .non)
  .nil)
  .nil)
  (.cons (.ret (.bin .Add (.tup (.cons (.ix (.var 1) (.int 0)) (.cons (.var 2) .nil))) (.slc (.var 1) (.some (.int 2)) .none)))
  .nil))
def noughtS (m : Mc) : Sd := ⟨zs m.s.toNat, 0, zs m.w.toNat, zs m.c.toNat⟩
def spNoughts : Spec := fun ds G Q _ => ∃ m : Mc, ds = [mD m] ∧ m.ok ∧ Q (sD (noughtS m)) G
theorem meet_noughts (Δ : Nat → Option Spec) (Γ : Gam) : Meet Δ Γ 5 1 B_machines_noughts spNoughts := Dl.unQ (by
 simp (disch := with_unfolding_all
  refine @id _ ?_
  intro ds G Q E _ h
  obtain ⟨m, rfl, ok, q⟩ := h
  obtain ⟨b2, b12, s1, s6, sw, w16, c1, c10⟩ := ok
  show wpSs _ _ _ _ [some (mD m), none, none, none, none] G
  unfold B_machines_noughts
  walk_at "w"
  rw [rep0, rep0, rep0]
  exact wk.of q
 ) only [↓Dl.qTrue])
def spWiped : Spec := fun ds G Q _ => ∃ (s : Sd) (k : Nat), ds = [sD s, .str (wd k)] ∧ k < 3 ∧ s.set.length ≤ 1000 ∧ s.wh.length ≤ 1000 ∧ s.ct.length ≤ 1000 ∧ Q (sD (wipeS s k)) G
theorem meet_wiped (Δ : Nat → Option Spec) (Γ : Gam) : Meet Δ Γ 6 2 B_deeds_wiped spWiped := Dl.unQ (by
 simp (disch := with_unfolding_all
  refine @id _ ?_
  intro ds G Q E _ h
  obtain ⟨s, k, rfl, hk, l1, l2, l3, q⟩ := h
  show wpSs _ _ _ _ [some (sD s), some (.str (wd k)), none, none, none, none] G
  unfold B_deeds_wiped
  obtain rfl | rfl | rfl : k = 0 ∨ k = 1 ∨ k = 2 := by omega
  all_goals
    simp only [wd]
    walk_at "w"
    rw [List.length_map, Int.toNat_natCast, rep0]
    exact wk.of q
 ) only [↓Dl.qTrue])
def spAt : Spec := fun ds G Q _ => ∃ (m : Mc) (s : Sd) (p : Int), ds = [mD m, sD s, .int p] ∧ m.ok ∧ (0 ≤ p ∧ p ≤ lastN m → Q (sD { s with p := p }) G) ∧ (¬ (0 ≤ p ∧ p ≤ lastN m) → Q .non G)
theorem meet_at (Δ : Nat → Option Spec) (Γ : Gam) (h2 : Δ 2 = some spLast) : Meet Δ Γ 3 3 B_deeds_at_place spAt := Dl.unQ (by
 simp (disch := with_unfolding_all
  refine @id _ ?_
  intro ds G Q E _ h
  obtain ⟨m, s, p, rfl, ok, q1, q2⟩ := h
  show wpSs _ _ _ _ [some (mD m), some (sD s), some (.int p)] G
  unfold B_deeds_at_place
  walk_at "w"
  refine ite_d (fun a1 => ?_) (fun a1 => ?_)
  · walk_at "w"
    refine last_i ?_
    walk_at "w"
    refine ite_nd (fun a2 => ?_) (fun a2 => ?_)
    · walk_at "w"
      exact wk.of (q2 fun z => a2 z.2)
    · walk_at "w"
      exact wk.of (q1 ⟨a1, a2⟩)
  · walk_at "w"
    exact wk.of (q2 fun z => a1 z.1)
 ) only [↓Dl.qTrue])
theorem at_i {m : Mc} {s : Sd} {p : Int} {G : GH} {Q : QD} {E : XD} (ok : m.ok) (q1 : 0 ≤ p ∧ p ≤ lastN m → Q (sD { s with p := p }) G) (q2 : ¬ (0 ≤ p ∧ p ≤ lastN m) → Q .non G) : spAt [mD m, sD s, .int p] G Q E := ⟨m, s, p, rfl, ok, q1, q2⟩
end
set_option maxRecDepth 100000
set_option maxHeartbeats 4000000
section
open PySem PySem.Spec PyProof.Rows L2
local macro_rules | `(tactic| walk_at "heap2") => `(tactic| fail "no step")
/-- 7: books.is_name(0 text, 1 sign) -/
def B_books_is_name : Sms :=
  (.cons (.ifs (.boo .Or (.cons (.nt (.cmp2 .LtE .LtE (.int 1) (.blt .len (.cons (.var 0) .nil)) (.glob 7))) (.cons (.cmp .In (.var 0) (.glob 6)) .nil)))
  (.cons (.ret (.bl false))
  .nil)
  .nil)
  (.cons (.ret (.cmp .Eq (.comp (.var 1) (.name 1) (.val (.var 0)) (.cons (.cmp .NotIn (.var 1) (.glob 5)) .nil) [("sign", 1)]) (.lst .nil)))
  .nil))
/-- 8: books.input_of(0 book, 1 name, 2 one) -/
def B_books_input_of : Sms :=
  (.cons (.fors (.name 2) (.val (.ix (.var 0) (.int 0)))
  (.cons (.ifs (.cmp .Eq (.ix (.var 2) (.int 0)) (.var 1))
  (.cons (.ret (.var 2))
  .nil)
  .nil)
  .nil))
  (.cons (.ret .non)
  .nil))
/-- 9: books.is_input(0 machine, 1 book, 2 at, 3 name, 4 figures, 5 least, 6 one) -/
def B_books_is_input : Sms :=
  (.cons (.asg (.tup (.cons (.name 3) (.cons (.name 4) (.cons (.name 5) .nil)))) (.ix (.ix (.var 1) (.int 0)) (.var 2)))
  (.cons (.ifs (.boo .Or (.cons (.nt (.call 7 (.cons (.var 3) .nil))) (.cons (.cmp .In (.var 3) (.comp (.ix (.var 6) (.int 0)) (.name 6) (.val (.slc (.ix (.var 1) (.int 0)) .none (.some (.var 2)))) .nil [("one", 6)])) .nil)))
  (.cons (.ret (.bl false))
  .nil)
  .nil)
  (.cons (.ret (.boo .And (.cons (.cmp2 .LtE .LtE (.int 1) (.var 4) (.ix (.var 0) (.int 1))) (.cons (.cmp .In (.var 5) (.tup (.cons (.int 0) (.cons (.int 1) .nil)))) .nil))))
  .nil)))
/-- 10: books.is_turns(0 book, 1 deed, 2 one) -/
def B_books_is_turns : Sms :=
  (.cons (.asg (.name 2) (.call 8 (.cons (.var 0) (.cons (.ix (.var 1) (.int 1)) .nil))))
  (.cons (.ifs (.boo .Or (.cons (.cmp .Is (.var 2) .non) (.cons (.nt (.cmp2 .LtE .Lt (.int 0) (.ix (.var 1) (.int 2)) (.ix (.var 2) (.int 1)))) .nil)))
  (.cons (.ret (.bl false))
  .nil)
  .nil)
  (.cons (.ret (.boo .And (.cons (.cmp .In (.ix (.var 1) (.int 3)) (.glob 9)) (.cons (.cmp .In (.ix (.var 1) (.int 4)) (.glob 8)) .nil))))
  .nil)))
/-- 11: books.is_deed(0 book, 1 deed, 2 kinds) -/
def B_books_is_deed : Sms :=
  (.cons (.asg (.name 2) (.dsp ["load", "one", "shift", "turn", "wipe", "turns", "bell", "odds"] (.cons (.int 2) (.cons (.int 1) (.cons (.int 2) (.cons (.int 3) (.cons (.int 2) (.cons (.int 5) (.cons (.int 2) (.cons (.int 2) .nil))))))))))
  (.cons (.ifs (.cmp .NotEq (.met .get (.var 2) (.cons (.ix (.var 1) (.int 0)) (.cons (.int 0) .nil))) (.blt .len (.cons (.var 1) .nil)))
  (.cons (.ret (.bl false))
  .nil)
  .nil)
  (.cons (.ifs (.cmp .Eq (.ix (.var 1) (.int 0)) (.str "load"))
  (.cons (.ret (.cmp .IsNot (.call 8 (.cons (.var 0) (.cons (.ix (.var 1) (.int 1)) .nil))) .non))
  .nil)
  .nil)
  (.cons (.ifs (.cmp .Eq (.ix (.var 1) (.int 0)) (.str "turn"))
  (.cons (.ret (.boo .And (.cons (.cmp .In (.ix (.var 1) (.int 1)) (.glob 9)) (.cons (.cmp .In (.ix (.var 1) (.int 2)) (.glob 8)) .nil))))
  .nil)
  .nil)
  (.cons (.ifs (.cmp .Eq (.ix (.var 1) (.int 0)) (.str "wipe"))
  (.cons (.ret (.cmp .In (.ix (.var 1) (.int 1)) (.glob 6)))
  .nil)
  .nil)
  (.cons (.ifs (.cmp .Eq (.ix (.var 1) (.int 0)) (.str "turns"))
  (.cons (.ret (.call 10 (.cons (.var 0) (.cons (.var 1) .nil))))
  .nil)
  .nil)
  (.cons (.ifs (.cmp .In (.ix (.var 1) (.int 0)) (.tup (.cons (.str "bell") (.cons (.str "odds") .nil))))
  (.cons (.ret (.cmp .In (.ix (.var 1) (.int 1)) (.glob 8)))
  .nil)
  .nil)
  (.cons (.ret (.bl true))
  .nil))))))))
/-! ### handbooks: names, inputs -/
theorem le_push {G G1 : GH} {p : Addr} {o : GO} (h : Le G G1) (n : G1 p = none) : Le G (gup G1 p o) := fun b u e => by
  have e1 := h b u e
  rw [gup_ne (ne_some e1 n)]; exact e1
theorem wkLe {P : GH → Prop} {G G1 : GH} (l : Le G G1) (q : P G) : wk P G1 := ⟨G, l, q⟩
theorem c_in_2 {x y i : Int} {G : GH} {Q : QD} (q : Q (.bl (decide (i ∈ [x, y]))) G) : cmpD .In (.int i) (.tup [.int x, .int y]) G Q := c_in_t (ns := [x, y]) q
theorem c_in_3 {x y z i : Int} {G : GH} {Q : QD} (q : Q (.bl (decide (i ∈ [x, y, z]))) G) : cmpD .In (.int i) (.tup [.int x, .int y, .int z]) G Q := c_in_t (ns := [x, y, z]) q
theorem c_in_2s {x y i : Str} {G : GH} {Q : QD} (q : Q (.bl (decide (i ∈ [x, y]))) G) : cmpD .In (.str i) (.tup [.str x, .str y]) G Q := c_in_s (ns := [x, y]) q
theorem c_nin_2s {x y i : Str} {G : GH} {Q : QD} (q : Q (.bl (!decide (i ∈ [x, y]))) G) : cmpD .NotIn (.str i) (.tup [.str x, .str y]) G Q := Dl.unQ (by
 simp (disch := with_unfolding_all
  refine @id _ ?_
  have h2 := inV_strs i [x, y]
  have h1 := flat_strs [x, y]
  show flatD (.str i) = true ∧ (([x, y] : List Str).map D.str).all flatD = true ∧ Q (.bl (if (true : Bool) = true then !inV (vOf (.str i)) ((([x, y] : List Str).map D.str).map vOf) else _)) G
  rw [h1, h2]
  exact ⟨rfl, rfl, q⟩
 ) only [↓Dl.qTrue])
theorem c_nin_str {i j : Str} {G : GH} {Q : QD} (q : Q (.bl (!(!(Builtin.Str.occurrences j i 0 j.length 1).isEmpty))) G) : cmpD .NotIn (.str i) (.str j) G Q := by
  simp only [cmpD, inD]; exact q
theorem b_lenS {z : Str} {G : GH} {Q : QD} (h : z.length ≤ sizeLine) (q : Q (.int z.length) G) : bfD .len [.str z] G Q := ⟨h, q⟩
/-- a list of plain data is [] or not -/
theorem c_eq_nilP {a b : Addr} {xs : List D} {ys : List PyData} {G : GH} {Q : QD} (h : G a = some (.lst xs)) (hp : ∀ r, pyDs r xs = some ys) (hs : SeqAt.shaped (.list ys) = true) (h2 : G b = some (.lst [])) (q : Q (.bl (ys.isEmpty)) G) : cmpD .Eq (.ref a) (.ref b) G Q := Dl.unQ (by
 simp (disch := with_unfolding_all
  refine @id _ ?_
  simp only [cmpD]
  rw [eqX_lst h]
  refine eqD_is (d := .list ys) (e := .list []) (by simp [pyG, pyD, rdG, h, hp]) (by simp [pyG, pyD, rdG, h2, pyDs]) hs (by decide) (b := ys.isEmpty) ?_ q
  cases ys with
  | nil => simp [PyData.eqv, PyData.eqvAll]
  | cons y ys => simp [PyData.eqv, PyData.eqvAll]
 ) only [↓Dl.qTrue])
structure Inp where
  n : Str
  f : Int
  l : Int
abbrev Inp.d (i : Inp) : D := .tup [.str i.n, .int i.f, .int i.l]
abbrev bkD (ins : List Inp) (x y : D) : D := .tup [.tup (ins.map Inp.d), x, y]
def insOk (ins : List Inp) : Prop := ∀ i ∈ ins, PyData.strOk i.n = true
def inOf (ins : List Inp) (n : Str) : Option Inp := ins.find? fun i => decide (i.n = n)
def inpD : Option Inp → D
  | some i => i.d
  | none => .non
abbrev lettersS : Str := "abcdefghijklmnopqrstuvwxyz"
def letterB (s : Str) : Bool := !(Builtin.Str.occurrences lettersS s 0 lettersS.length 1).isEmpty
def charsS (s : Str) : List Str := s.cps.toList.map fun c => ⟨#[c]⟩
def isNameB (s : Str) : Bool := decide (1 ≤ (s.length : Int)) && decide ((s.length : Int) ≤ 8) && !decide (s ∈ (["wheels", "counts"] : List Str)) && (charsS s).all letterB
local macro_rules | `(tactic| walk_at "own") => `(tactic| first
  | ((with_reducible refine c_in_2 ?_))
  | ((with_reducible refine c_in_3 ?_))
  | ((with_reducible refine c_in_2s ?_))
  | ((with_reducible refine c_nin_2s ?_))
  | ((with_reducible refine c_nin_str ?_)))
def spInOf : Spec := fun ds G Q _ => ∃ (ins : List Inp) (x y : D) (n : Str), ds = [bkD ins x y, .str n] ∧ insOk ins ∧ PyData.strOk n = true ∧ Q (inpD (inOf ins n)) G
theorem meet_inOf (Δ : Nat → Option Spec) (Γ : Gam) : Meet Δ Γ 3 2 B_books_input_of spInOf := Dl.unQ (by
 simp (disch := with_unfolding_all
  refine @id _ ?_
  intro ds G Q E _ h
  obtain ⟨ins, x, y, n, rfl, ok, hn, q⟩ := h
  show wpSs _ _ _ _ [some (bkD ins x y), some (.str n), none] G
  unfold B_books_input_of
  walk_at "w"
  refine forW_st (fun i σ => (∃ o, σ = [some (bkD ins x y), some (.str n), o]) ∧ (ins.take i).find? (fun i => decide (i.n = n)) = none) ⟨⟨_, rfl⟩, rfl⟩ trivial ?_ ?_
  · rintro i σ d ⟨⟨o, rfl⟩, hi⟩ hd N hN
    have hd : (ins.map Inp.d)[i]? = some d := hd
    rw [List.getElem?_map] at hd
    cases e : ins[i]? with
    | none => rw [e] at hd; cases hd
    | some j =>
      rw [e] at hd
      cases hd
      have hj : PyData.strOk j.n = true := ok j (List.mem_of_getElem? e)
      walk_at "w"
      refine ite_d (fun a => ?_) (fun a => ?_)
      · walk_at "w"
        have e2 : inOf ins n = some j := by
          unfold inOf
          obtain ⟨h1, h2⟩ := List.getElem?_eq_some_iff.mp e
          rw [← List.take_append_drop i ins, List.find?_append, hi, List.drop_eq_getElem_cons h1, h2]
          simp [a]
        rw [e2] at q
        exact wk.of q
      · walk_at "w"
        refine hN _ _ ⟨⟨_, rfl⟩, ?_⟩ (Le.refl _)
        rw [List.take_add_one, e, List.find?_append, hi]
        simp [a]
  · rintro σ ⟨⟨o, rfl⟩, hi⟩
    have e : inOf ins n = none := by
      have : (ins.map Inp.d).length = ins.length := List.length_map _
      unfold inOf
      have h2 : (ins.take (ins.map Inp.d).length).find? (fun i => decide (i.n = n)) = none := hi
      rw [this, List.take_length] at h2
      exact h2
    rw [e] at q
    refine wk.of ?_
    walk_at "w"
    exact wk.of q
 ) only [↓Dl.qTrue])
theorem inOf_i {ins : List Inp} {x y : D} {n : Str} {G : GH} {Q : QD} {E : XD} (ok : insOk ins) (hn : PyData.strOk n = true) (q : Q (inpD (inOf ins n)) G) : spInOf [bkD ins x y, .str n] G Q E := ⟨ins, x, y, n, rfl, ok, hn, q⟩
def signF : D → Option D
  | .str c => if letterB c = true then none else some (.str c)
  | _ => none
theorem sign_fm : ∀ cs : List Str, (cs.map D.str).filterMap signF = (cs.filter fun c => !letterB c).map D.str
  | [] => rfl
  | c :: cs => by
    rw [List.map_cons, List.filterMap_cons, List.filter_cons, sign_fm cs]
    cases h : letterB c <;> simp [signF, h]
def spIsName : Spec := fun ds G Q _ => ∃ n : Str, ds = [.str n] ∧ n.length ≤ 1000 ∧ PyData.strOk n = true ∧ Q (.bl (isNameB n)) G
theorem charsD_eq (n : Str) : charsD n = (charsS n).map D.str := by unfold charsD charsS; rw [List.map_map]; rfl
theorem charsS_ok {n : Str} (h : PyData.strOk n = true) : ∀ c ∈ charsS n, PyData.strOk c = true := Dl.unQ (by
 simp (disch := with_unfolding_all
  refine @id _ ?_
  intro c hc
  unfold charsS at hc
  obtain ⟨k, hk, rfl⟩ := List.mem_map.mp hc
  have := (Array.all_eq_true_iff_forall_mem.mp h) k (by simpa using hk)
  simpa [PyData.strOk] using this
 ) only [↓Dl.qTrue])
theorem pyDs_strs (r : Addr → Option PyData) : ∀ ss : List Str, pyDs r (ss.map D.str) = some (ss.map PyData.str)
  | [] => rfl
  | s :: ss => by simp [pyDs, pyD, pyDs_strs r ss]
theorem shaped_strs {ss : List Str} (h : ∀ s ∈ ss, PyData.strOk s = true) : SeqAt.shaped (.list (ss.map .str)) = true := Dl.unQ (by
 simp (disch := with_unfolding_all
  refine @id _ ?_
  have h1 : ∀ ss : List Str, (∀ s ∈ ss, PyData.strOk s = true) → PyData.canLayAll0 (ss.map .str) = true := by
    intro ss
    induction ss with
    | nil => intro _; rfl
    | cons s ss ih => intro h; simp only [List.map_cons, PyData.canLayAll0, PyData.canLay0, Bool.and_eq_true]; exact ⟨h s (List.mem_cons_self ..), ih fun t ht => h t (List.mem_cons_of_mem _ ht)⟩
  have h2 : ∀ ss : List Str, PyData.depthAll (ss.map .str) ≤ 1 := by
    intro ss
    induction ss with
    | nil => simp [PyData.depthAll]
    | cons s ss ih => simp only [List.map_cons, PyData.depthAll, PyData.depth]; omega
  simp only [SeqAt.shaped, PyData.canLay0, PyData.depth, Bool.and_eq_true, decide_eq_true_eq]
  refine ⟨h1 ss h, ?_⟩
  have := h2 ss
  exact decide_eq_true (by omega)
 ) only [↓Dl.qTrue])
theorem meet_isName (Δ : Nat → Option Spec) (Γ : Gam) (g5 : Γ 5 = some (.str lettersS)) (g6 : Γ 6 = some (.tup [.str "wheels", .str "counts"])) (g7 : Γ 7 = some (.int 8)) : Meet Δ Γ 2 1 B_books_is_name spIsName := Dl.unQ (by
 simp (disch := with_unfolding_all
  refine @id _ ?_
  intro ds G Q E _ h
  obtain ⟨n, rfl, hl, hn, q⟩ := h
  show wpSs _ _ _ _ [some (.str n), none] G
  unfold B_books_is_name
  have hl2 : n.length ≤ sizeLine := by have := sizeLine_eq; omega
  walk_at "w"
  refine b_lenS hl2 ?_
  walk_at "w"
  have no : isNameB n = false → wk (Q (.bl false)) G := fun e => by rw [e] at q; exact wk.of q
  refine ite_d (fun a1 => ?_) (fun a1 => ?_)
  · walk_at "w"
    refine ite_nd (fun a2 => ?_) (fun a2 => ?_)
    · walk_at "w"
      exact no (by simp [isNameB, a2])
    · walk_at "w"
      refine ite_d (fun a3 => ?_) (fun a3 => ?_)
      · walk_at "w"
        exact no (by unfold isNameB; rw [decide_eq_true a3]; simp)
      · walk_at "w"
        intro p hp
        refine compW_filter signF hp ?_ (fun _ _ => trivial) ?_ ?_
        · rw [charsD_eq, List.length_map]
          unfold charsS
          rw [List.length_map]
          exact hl
        · intro d hd G' R l hR
          rw [charsD_eq] at hd
          obtain ⟨c, hc, rfl⟩ := List.mem_map.mp hd
          walk_at "w"
          change if (!letterB c) = true then _ else _
          have h2 := hR G' (Le.refl _)
          cases e : letterB c with
          | true =>
            simp only [signF, e, if_true] at h2
            exact h2
          | false =>
            simp only [signF, e, if_false, Bool.false_eq_true] at h2
            refine iteT ?_
            walk_at "w"
            exact h2
        · walk_at "w"
          intro p2 hp2
          rw [charsD_eq, sign_fm] at hp2 ⊢
          refine c_eq_nilP (ys := ((charsS n).filter fun c => !letterB c).map .str) ((gup_ne (by intro z; subst z; rw [gup_same] at hp2; cases hp2)).trans gup_same) (fun r => pyDs_strs r _) (shaped_strs fun c hc => charsS_ok hn c (List.mem_filter.mp hc).1) gup_same ?_
          have e : isNameB n = (((charsS n).filter fun c => !letterB c).map PyData.str).isEmpty := by
            unfold isNameB
            rw [decide_eq_true a1, decide_eq_true a2, decide_eq_false a3]
            rw [List.isEmpty_map]
            simp only [Bool.true_and, Bool.not_false]
            generalize charsS n = cs
            induction cs with
            | nil => rfl
            | cons c cs ih =>
              rw [List.all_cons, List.filter_cons, ih]
              cases h : letterB c <;> simp
          rw [← e]
          exact wkLe (le_push (Le.new hp) hp2) q
  · walk_at "w"
    exact no (by simp [isNameB, a1])
 ) only [↓Dl.qTrue])
theorem isName_i {n : Str} {G : GH} {Q : QD} {E : XD} (hl : n.length ≤ 1000) (hn : PyData.strOk n = true) (q : Q (.bl (isNameB n)) G) : spIsName [.str n] G Q E := ⟨n, rfl, hl, hn, q⟩
/-! ### an input, turns, deeds -/
def isInputB (m : Mc) (ins : List Inp) (k : Nat) (i : Inp) : Bool :=
  isNameB i.n && !decide (i.n ∈ (ins.take k).map Inp.n) && decide (1 ≤ i.f) && decide (i.f ≤ m.s) && decide (i.l ∈ ([0, 1] : List Int))
theorem cut_k {xs : List D} {k : Nat} (h : k ≤ xs.length) : cutD xs none (some (k : Int)) = xs.take k := by
  unfold cutD
  rw [HT.sIx_none, HT.sIx_nat, List.drop_zero, Nat.sub_zero, Nat.min_eq_left h]
theorem c_in_rS {a : Addr} {ns : List Str} {i : Str} {G : GH} {Q : QD} (h : G a = some (.lst (ns.map .str))) (q : Q (.bl (decide (i ∈ ns))) G) : cmpD .In (.str i) (.ref a) G Q := by
  simp only [cmpD, inD, itemsD, h, flat_strs, inV_strs]
  exact ⟨rfl, trivial, q⟩
def spIsInput : Spec := fun ds G Q _ => ∃ (m : Mc) (ins : List Inp) (x y : D) (k : Nat) (i : Inp), ds = [mD m, bkD ins x y, .int k] ∧ insOk ins ∧ ins.length ≤ 1000 ∧ i.n.length ≤ 1000 ∧ ins[k]? = some i ∧ Q (.bl (isInputB m ins k i)) G
theorem meet_isInput (Δ : Nat → Option Spec) (Γ : Gam) (h7 : Δ 7 = some spIsName) : Meet Δ Γ 7 3 B_books_is_input spIsInput := Dl.unQ (by
 simp (disch := with_unfolding_all
  refine @id _ ?_
  intro ds G Q E _ h
  obtain ⟨m, ins, x, y, k, i, rfl, ok, hli, hl, hi, q⟩ := h
  obtain ⟨h1, h2⟩ := List.getElem?_eq_some_iff.mp hi
  have hn : PyData.strOk i.n = true := ok i (List.mem_of_getElem? hi)
  have hd : atI (ins.map Inp.d) k = some i.d := atI_nat (by rw [List.getElem?_map, hi]; rfl)
  show wpSs _ _ _ _ [some (mD m), some (bkD ins x y), some (.int k), none, none, none, none] G
  unfold B_books_is_input
  walk_at "w"
  rw [show (ins.map Inp.d).getD ((k : Int)).toNat .non = i.d by simp [List.getD_eq_getElem?_getD, hi]]
  walk_at "w"
  refine isName_i hl hn ?_
  walk_at "w"
  have no : isInputB m ins k i = false → wk (Q (.bl false)) G := fun e => by rw [e] at q; exact wk.of q
  cases e1 : isNameB i.n with
  | false =>
    walk_at "w"
    exact no (by simp [isInputB, e1])
  | true =>
    walk_at "w"
    intro p hp
    refine compW_map (fun d => match d with | .tup (z :: _) => z | _ => .non) hp ?_ (fun _ _ => trivial) ?_ ?_
    · show (cutD (ins.map Inp.d) none (some (k : Int))).length ≤ 1000
      rw [cut_k (by rw [List.length_map]; omega), List.length_take, List.length_map]
      omega
    · intro d hd G' R l hR
      have hd : d ∈ cutD (ins.map Inp.d) none (some (k : Int)) := hd
      rw [cut_k (by rw [List.length_map]; omega)] at hd
      obtain ⟨j, hj, rfl⟩ := List.mem_map.mp (List.mem_of_mem_take hd)
      walk_at "w"
      exact hR G' (Le.refl _)
    · have e2 : (cutD (ins.map Inp.d) none (some (k : Int))).map (fun d => match d with | .tup (z :: _) => z | _ => .non) = ((ins.take k).map Inp.n).map D.str := by
        rw [cut_k (by rw [List.length_map]; omega), ← List.map_take, List.map_map, List.map_map]
        rfl
      show cmpD _ _ _ (gup G p (.lst ((cutD (ins.map Inp.d) none (some (k : Int))).map (fun d => match d with | .tup (z :: _) => z | _ => .non)))) _
      rw [e2]
      refine c_in_rS gup_same ?_
      walk_at "w"
      refine ite_d (fun a => ?_) (fun a => ?_)
      · walk_at "w"
        exact wkLe (Le.new hp) ((no (by simp only [isInputB, decide_eq_true a]; simp)).elim fun _ _ => by
          have e3 : isInputB m ins k i = false := by simp only [isInputB, decide_eq_true a]; simp
          rw [e3] at q; exact q)
      · walk_at "w"
        have e3 : isInputB m ins k i = (decide (1 ≤ i.f) && decide (i.f ≤ m.s) && decide (i.l ∈ ([0, 1] : List Int))) := by
          simp only [isInputB, e1, decide_eq_false a, Bool.not_false, Bool.true_and]
        rw [e3] at q
        refine ite_d (fun a1 => ?_) (fun a1 => ?_)
        · rw [decide_eq_true a1] at q
          walk_at "w"
          refine ite_d (fun a2 => ?_) (fun a2 => ?_)
          · rw [decide_eq_true a2] at q
            walk_at "w"
            exact wkLe (Le.new hp) q
          · rw [decide_eq_false a2] at q
            walk_at "w"
            exact wkLe (Le.new hp) q
        · rw [decide_eq_false a1] at q
          walk_at "w"
          exact wkLe (Le.new hp) q
 ) only [↓Dl.qTrue])
theorem isInput_i {m : Mc} {ins : List Inp} {x y : D} {k : Nat} {i : Inp} {G : GH} {Q : QD} {E : XD} (ok : insOk ins) (hl : ins.length ≤ 1000) (hn : i.n.length ≤ 1000) (hi : ins[k]? = some i) (q : Q (.bl (isInputB m ins k i)) G) : spIsInput [mD m, bkD ins x y, .int k] G Q E := ⟨m, ins, x, y, k, i, rfl, ok, hl, hn, hi, q⟩
abbrev waysI : List Int := [1, -1]
abbrev talliesI : List Int := [-1, 0, 1]
/-- something that is, or would be, a deed -/
inductive Bd where
  | load (n : Str) | one | shift (b : Int) | turn (w t : Int) | wipe (w : Str) | turns (n : Str) (k w t : Int) | bell (t : Int) | odds (t : Int)
  | bad (w : Str) (xs : List D)
abbrev Bd.d : Bd → D
  | .load n => .tup [.str "load", .str n]
  | .one => .tup [.str "one"]
  | .shift b => .tup [.str "shift", .int b]
  | .turn w t => .tup [.str "turn", .int w, .int t]
  | .wipe w => .tup [.str "wipe", .str w]
  | .turns n k w t => .tup [.str "turns", .str n, .int k, .int w, .int t]
  | .bell t => .tup [.str "bell", .int t]
  | .odds t => .tup [.str "odds", .int t]
  | .bad w xs => .tup (.str w :: xs)
def kindsD : List (Key × D) := mergeD [] [(.inr "load", .int 2), (.inr "one", .int 1), (.inr "shift", .int 2), (.inr "turn", .int 3), (.inr "wipe", .int 2), (.inr "turns", .int 5), (.inr "bell", .int 2), (.inr "odds", .int 2)]
/-- what can be walked: names are texts; a bad one has a length that is not the word's -/
def Bd.ok : Bd → Prop
  | .load n => PyData.strOk n = true
  | .turns n _ _ _ => PyData.strOk n = true
  | .bad w xs => ∃ n : Int, (valD kindsD (.inr w)).getD (.int 0) = .int n ∧ n ≠ xs.length + 1
  | _ => True
def isTurnsB (ins : List Inp) (n : Str) (k w t : Int) : Bool := match inOf ins n with
  | none => false
  | some i => decide (0 ≤ k) && decide (k < i.f) && decide (w ∈ waysI) && decide (t ∈ talliesI)
def isDeedB (ins : List Inp) : Bd → Bool
  | .load n => (inOf ins n).isSome
  | .one => true
  | .shift _ => true
  | .turn w t => decide (w ∈ waysI) && decide (t ∈ talliesI)
  | .wipe w => decide (w ∈ (["wheels", "counts"] : List Str))
  | .turns n k w t => isTurnsB ins n k w t
  | .bell t => decide (t ∈ talliesI)
  | .odds t => decide (t ∈ talliesI)
  | .bad _ _ => false
def spIsTurns : Spec := fun ds G Q _ => ∃ (ins : List Inp) (x y : D) (n : Str) (k w t : Int), ds = [bkD ins x y, (Bd.turns n k w t).d] ∧ insOk ins ∧ PyData.strOk n = true ∧ Q (.bl (isTurnsB ins n k w t)) G
theorem meet_isTurns (Δ : Nat → Option Spec) (Γ : Gam) (h8 : Δ 8 = some spInOf) (g8 : Γ 8 = some (.tup [.int (-1), .int 0, .int 1])) (g9 : Γ 9 = some (.tup [.int 1, .int (-1)])) : Meet Δ Γ 3 2 B_books_is_turns spIsTurns := Dl.unQ (by
 simp (disch := with_unfolding_all
  refine @id _ ?_
  intro ds G Q E _ h
  obtain ⟨ins, x, y, n, k, w, t, rfl, ok, hn, q⟩ := h
  show wpSs _ _ _ _ [some (bkD ins x y), some (Bd.turns n k w t).d, none] G
  unfold B_books_is_turns
  walk_at "w"
  refine inOf_i ok hn ?_
  unfold isTurnsB at q
  cases e : inOf ins n with
  | none =>
    rw [e] at q
    simp only [inpD]
    walk_at "w"
    exact wk.of q
  | some i =>
    rw [e] at q
    simp only [inpD] at q ⊢
    walk_at "w"
    simp only [D.isNon]
    walk_at "w"
    refine ite_d (fun a1 => ?_) (fun a1 => ?_)
    · rw [decide_eq_true a1] at q
      walk_at "w"
      refine ite_nd (fun a2 => ?_) (fun a2 => ?_)
      · rw [decide_eq_false a2] at q
        walk_at "w"
        exact wk.of q
      · rw [decide_eq_true a2] at q
        walk_at "w"
        refine ite_d (fun a3 => ?_) (fun a3 => ?_)
        · rw [decide_eq_true a3] at q
          walk_at "w"
          exact wk.of q
        · rw [decide_eq_false a3] at q
          walk_at "w"
          exact wk.of q
    · rw [decide_eq_false a1] at q
      walk_at "w"
      exact wk.of q
 ) only [↓Dl.qTrue])
theorem isTurns_i {ins : List Inp} {x y : D} {n : Str} {k w t : Int} {G : GH} {Q : QD} {E : XD} (ok : insOk ins) (hn : PyData.strOk n = true) (q : Q (.bl (isTurnsB ins n k w t)) G) : spIsTurns [bkD ins x y, .tup [.str "turns", .str n, .int k, .int w, .int t]] G Q E := ⟨ins, x, y, n, k, w, t, rfl, ok, hn, q⟩
theorem kv_load : (valD kindsD (.inr "load")).getD (.int 0) = .int 2 := by rfl
theorem kv_one : (valD kindsD (.inr "one")).getD (.int 0) = .int 1 := by rfl
theorem kv_shift : (valD kindsD (.inr "shift")).getD (.int 0) = .int 2 := by rfl
theorem kv_turn : (valD kindsD (.inr "turn")).getD (.int 0) = .int 3 := by rfl
theorem kv_wipe : (valD kindsD (.inr "wipe")).getD (.int 0) = .int 2 := by rfl
theorem kv_turns : (valD kindsD (.inr "turns")).getD (.int 0) = .int 5 := by rfl
theorem kv_bell : (valD kindsD (.inr "bell")).getD (.int 0) = .int 2 := by rfl
theorem kv_odds : (valD kindsD (.inr "odds")).getD (.int 0) = .int 2 := by rfl
theorem iteLen {a b : Int} {i : Decidable (a = b)} {A B : Prop} (h : a = b) (q : B) : if (!@decide (a = b) i) = true then A else B := by rw [decide_eq_true h]; exact iteF q
theorem iteC1 {b : Bool} {A B : Prop} (h : b = true) (q : A) : if b = true then A else B := by rw [if_pos h]; exact q
theorem iteC0 {b : Bool} {A B : Prop} (h : b = false) (q : B) : if b = true then A else B := by rw [if_neg (by rw [h]; exact Bool.false_ne_true)]; exact q
def spIsDeed : Spec := fun ds G Q _ => ∃ (ins : List Inp) (x y : D) (d : Bd), ds = [bkD ins x y, d.d] ∧ insOk ins ∧ d.ok ∧ Q (.bl (isDeedB ins d)) G
theorem inpD_isNon (o : Option Inp) : (!(inpD o).isNon) = o.isSome := by cases o <;> rfl
theorem meet_isDeed (Δ : Nat → Option Spec) (Γ : Gam) (h8 : Δ 8 = some spInOf) (h10 : Δ 10 = some spIsTurns) (g6 : Γ 6 = some (.tup [.str "wheels", .str "counts"])) (g8 : Γ 8 = some (.tup [.int (-1), .int 0, .int 1])) (g9 : Γ 9 = some (.tup [.int 1, .int (-1)])) : Meet Δ Γ 3 2 B_books_is_deed spIsDeed := Dl.unQ (by
 simp (disch := with_unfolding_all
  refine @id _ ?_
  intro ds G Q E _ h
  obtain ⟨ins, x, y, d, rfl, ok, dk, q⟩ := h
  show wpSs _ _ _ _ [some (bkD ins x y), some d.d, none] G
  unfold B_books_is_deed
  walk_at "w"
  intro p hp
  walk_at "w"
  refine ⟨rfl, gup_same, ?_⟩
  obtain ⟨G1, hG1, hk, le⟩ : ∃ G1, gup (gup G p (.dk [])) p (.dk kindsD) = G1 ∧ G1 p = some (.dk kindsD) ∧ Le G G1 := ⟨_, rfl, gup_same, by rw [gup_gup]; exact Le.new hp⟩
  change wpG Δ Γ _ _ _ _ (gup (gup G p (.dk [])) p (.dk kindsD)) _
  rw [hG1]
  walk_at "v"
  refine s_wk ?_
  walk_at "v"
  have fin : ∀ {b : Bool}, isDeedB ins d = b → wk (Q (.bl b)) G1 := fun e => wkLe le (by rw [← e]; exact q)
  cases d with
  | load n =>
    walk_at "w"
    rw [kv_load]
    walk_at "w"
    refine iteLen rfl ?_
    walk_at "w"
    refine inOf_i ok dk ?_
    walk_at "w"
    rw [inpD_isNon]
    exact fin rfl
  | one =>
    walk_at "w"
    rw [kv_one]
    walk_at "w"
    refine iteLen rfl ?_
    walk_at "w"
    refine iteC0 (by decide +kernel) ?_
    walk_at "w"
    exact fin rfl
  | shift b =>
    walk_at "w"
    rw [kv_shift]
    walk_at "w"
    refine iteLen rfl ?_
    walk_at "w"
    refine iteC0 (by decide +kernel) ?_
    walk_at "w"
    exact fin rfl
  | turn w t =>
    walk_at "w"
    rw [kv_turn]
    walk_at "w"
    refine iteLen rfl ?_
    walk_at "w"
    refine ite_d (fun a3 => ?_) (fun a3 => ?_)
    · walk_at "w"
      exact fin (by simp only [isDeedB, decide_eq_true a3, Bool.true_and])
    · walk_at "w"
      exact fin (by simp only [isDeedB, decide_eq_false a3, Bool.false_and])
  | wipe w =>
    walk_at "w"
    rw [kv_wipe]
    walk_at "w"
    refine iteLen rfl ?_
    walk_at "w"
    exact fin rfl
  | turns n k w t =>
    walk_at "w"
    rw [kv_turns]
    walk_at "w"
    refine iteLen rfl ?_
    walk_at "w"
    refine isTurns_i ok dk ?_
    walk_at "w"
    exact fin rfl
  | bell t =>
    walk_at "w"
    rw [kv_bell]
    walk_at "w"
    refine iteLen rfl ?_
    walk_at "w"
    refine iteC1 (by decide +kernel) ?_
    walk_at "w"
    exact fin rfl
  | odds t =>
    walk_at "w"
    rw [kv_odds]
    walk_at "w"
    refine iteLen rfl ?_
    walk_at "w"
    refine iteC1 (by decide +kernel) ?_
    walk_at "w"
    exact fin rfl
  | bad w xs =>
    obtain ⟨n, h1, h2⟩ := dk
    walk_at "w"
    rw [h1]
    walk_at "w"
    exact fin rfl
 ) only [↓Dl.qTrue])
theorem isDeed_i {ins : List Inp} {x y : D} {d : Bd} {G : GH} {Q : QD} {E : XD} (ok : insOk ins) (dk : d.ok) (q : Q (.bl (isDeedB ins d)) G) : spIsDeed [bkD ins x y, d.d] G Q E := ⟨ins, x, y, d, rfl, ok, dk, q⟩
end
set_option maxRecDepth 100000
set_option maxHeartbeats 4000000
section
open PySem PySem.Spec PyProof.Rows L2
local macro_rules | `(tactic| walk_at "heap2") => `(tactic| fail "no step")
/-- 12: books.is_side(0 book, 1 side, 2 deep, 3 kinds, 4 part) -/
def B_books_is_side : Sms :=
  (.cons (.asg (.name 3) (.dsp ["num", "wheels", "counts", "input", "add", "times"] (.cons (.int 2) (.cons (.int 1) (.cons (.int 1) (.cons (.int 2) (.cons (.int 3) (.cons (.int 3) .nil))))))))
  (.cons (.ifs (.boo .Or (.cons (.cmp .Gt (.var 2) (.glob 11)) (.cons (.cmp .NotEq (.met .get (.var 3) (.cons (.ix (.var 1) (.int 0)) (.cons (.int 0) .nil))) (.blt .len (.cons (.var 1) .nil))) .nil)))
  (.cons (.ret (.bl false))
  .nil)
  .nil)
  (.cons (.ifs (.cmp .Eq (.ix (.var 1) (.int 0)) (.str "num"))
  (.cons (.ret (.cmp2 .LtE .LtE (.int 0) (.ix (.var 1) (.int 1)) (.glob 10)))
  .nil)
  .nil)
  (.cons (.ifs (.cmp .Eq (.ix (.var 1) (.int 0)) (.str "input"))
  (.cons (.ret (.cmp .IsNot (.call 8 (.cons (.var 0) (.cons (.ix (.var 1) (.int 1)) .nil))) .non))
  .nil)
  .nil)
  (.cons (.ret (.cmp .Eq (.comp (.var 4) (.name 4) (.val (.slc (.var 1) (.some (.int 1)) .none)) (.cons (.nt (.call 12 (.cons (.var 0) (.cons (.var 4) (.cons (.bin .Add (.var 2) (.int 1)) .nil))))) .nil) [("part", 4)]) (.lst .nil)))
  .nil)))))
/-- 13: books.is_claim(0 book, 1 claim) -/
def B_books_is_claim : Sms :=
  (.cons (.ifs (.boo .Or (.cons (.cmp .NotEq (.blt .len (.cons (.var 1) .nil)) (.int 3)) (.cons (.cmp .NotIn (.ix (.var 1) (.int 0)) (.tup (.cons (.str "same") (.cons (.str "less") .nil)))) .nil)))
  (.cons (.ret (.bl false))
  .nil)
  .nil)
  (.cons (.ret (.boo .And (.cons (.call 12 (.cons (.var 0) (.cons (.ix (.var 1) (.int 1)) (.cons (.int 1) .nil)))) (.cons (.call 12 (.cons (.var 0) (.cons (.ix (.var 1) (.int 2)) (.cons (.int 1) .nil)))) .nil))))
  .nil))
/-- 14: books.must(0 good, 1 at, 2 word) -/
def B_books_must : Sms :=
  (.cons (.ifs (.nt (.var 0))
  (.cons (.rai 3 (.cons (.var 1) (.cons (.var 2) .nil)))
  .nil)
  .nil)
  .nil)
/-- 15: books.need_book(0 machine, 1 book, 2 inputs, 3 deeds, 4 claims, 5 at, 6 deed, 7 claim) -/
def B_books_need_book : Sms :=
  (.cons (.exp (.call 1 (.cons (.var 0) .nil)))
  (.cons (.asg (.tup (.cons (.name 2) (.cons (.name 3) (.cons (.name 4) .nil)))) (.var 1))
  (.cons (.exp (.call 14 (.cons (.cmp .LtE (.blt .len (.cons (.var 2) .nil)) (.glob 14)) (.cons (.int 0) (.cons (.str "input") .nil)))))
  (.cons (.fors (.name 5) (.rng (.blt .len (.cons (.var 2) .nil)))
  (.cons (.exp (.call 14 (.cons (.call 9 (.cons (.var 0) (.cons (.var 1) (.cons (.var 5) .nil)))) (.cons (.var 5) (.cons (.str "input") .nil)))))
  .nil))
  (.cons (.exp (.call 14 (.cons (.cmp .LtE (.blt .len (.cons (.var 3) .nil)) (.glob 13)) (.cons (.int 0) (.cons (.str "deed") .nil)))))
  (.cons (.fors (.tup (.cons (.name 5) (.cons (.name 6) .nil))) (.enu (.var 3))
  (.cons (.exp (.call 14 (.cons (.call 11 (.cons (.var 1) (.cons (.var 6) .nil))) (.cons (.var 5) (.cons (.str "deed") .nil)))))
  .nil))
  (.cons (.exp (.call 14 (.cons (.cmp .LtE (.blt .len (.cons (.var 4) .nil)) (.glob 12)) (.cons (.int 0) (.cons (.str "claim") .nil)))))
  (.cons (.fors (.tup (.cons (.name 5) (.cons (.name 7) .nil))) (.enu (.var 4))
  (.cons (.exp (.call 14 (.cons (.call 13 (.cons (.var 1) (.cons (.var 7) .nil))) (.cons (.var 5) (.cons (.str "claim") .nil)))))
  .nil))
  .nil))))))))
local macro_rules | `(tactic| walk_at "own") => `(tactic| first
  | ((with_reducible refine c_in_2 ?_))
  | ((with_reducible refine c_in_3 ?_))
  | ((with_reducible refine c_in_2s ?_))
  | ((with_reducible refine c_nin_2s ?_))
  | ((with_reducible refine c_nin_str ?_)))
/-! ### sides, claims -/
/-- something that is, or would be, a claim's side -/
inductive Sde where
  | num (n : Int) | inp (n : Str) | leaf (w : Bool) | bin (w : Bool) (a b : Sde)
  | bad (w : Str) (xs : List D) (ys : List PyData)
abbrev kindsS : List (Key × D) := mergeD [] [(.inr "num", .int 2), (.inr "wheels", .int 1), (.inr "counts", .int 1), (.inr "input", .int 2), (.inr "add", .int 3), (.inr "times", .int 3)]
abbrev leafS (w : Bool) : Str := if w = true then "wheels" else "counts"
abbrev binS (w : Bool) : Str := if w = true then "times" else "add"
def Sde.d : Sde → D
  | .num n => .tup [.str "num", .int n]
  | .inp n => .tup [.str "input", .str n]
  | .leaf w => .tup [.str (leafS w)]
  | .bin w a b => .tup [.str (binS w), a.d, b.d]
  | .bad w xs _ => .tup (.str w :: xs)
/-- names are texts; a bad one's length is not its word's -/
def Sde.ok : Sde → Prop
  | .num _ => True
  | .inp n => PyData.strOk n = true
  | .leaf _ => True
  | .bin _ a b => a.ok ∧ b.ok
  | .bad w xs ys => PyData.strOk w = true ∧ (∃ n : Int, (valD kindsS (.inr w)).getD (.int 0) = .int n ∧ n ≠ xs.length + 1) ∧ (∀ r, pyDs r xs = some ys) ∧ PyData.canLayAll0 ys = true ∧ PyData.depthAll ys ≤ 20
def Sde.dep : Sde → Nat
  | .bin _ a b => max a.dep b.dep + 1
  | .bad _ _ _ => 21
  | _ => 2
def Sde.py : Sde → PyData
  | .num n => .tuple [.str "num", .int n]
  | .inp n => .tuple [.str "input", .str n]
  | .leaf w => .tuple [.str (leafS w)]
  | .bin w a b => .tuple [.str (binS w), a.py, b.py]
  | .bad w _ ys => .tuple (.str w :: ys)
theorem Sde.pyD (r : Addr → Option PyData) : ∀ s : Sde, s.ok → Dl.pyD r s.d = some s.py
  | .num n, _ => rfl
  | .inp n, _ => rfl
  | .leaf w, _ => rfl
  | .bin w a b, h => by simp only [Sde.d, Sde.py, Dl.pyD, pyDs, Sde.pyD r a h.1, Sde.pyD r b h.2]
  | .bad w xs ys, h => by simp only [Sde.d, Sde.py, Dl.pyD, pyDs, h.2.2.1]
theorem ok_leaf (w : Bool) : PyData.strOk (leafS w) = true := by cases w <;> decide +kernel
theorem ok_bin (w : Bool) : PyData.strOk (binS w) = true := by cases w <;> decide +kernel
theorem ok_num : PyData.strOk "num" = true := by decide +kernel
theorem ok_input : PyData.strOk "input" = true := by decide +kernel
theorem Sde.can : ∀ s : Sde, s.ok → s.py.canLay0 = true ∧ s.py.depth ≤ s.dep
  | .num n, _ => ⟨by simp only [Sde.py, PyData.canLay0, PyData.canLayAll0, ok_num]; rfl, by simp [Sde.py, Sde.dep, PyData.depth, PyData.depthAll]⟩
  | .inp n, h => ⟨by simp only [Sde.py, PyData.canLay0, PyData.canLayAll0, ok_input, show PyData.strOk n = true from h]; rfl, by simp [Sde.py, Sde.dep, PyData.depth, PyData.depthAll]⟩
  | .leaf w, _ => ⟨by simp only [Sde.py, PyData.canLay0, PyData.canLayAll0, ok_leaf]; rfl, by simp [Sde.py, Sde.dep, PyData.depth, PyData.depthAll]⟩
  | .bin w a b, h => by
    obtain ⟨a1, a2⟩ := Sde.can a h.1
    obtain ⟨b1, b2⟩ := Sde.can b h.2
    refine ⟨by simp only [Sde.py, PyData.canLay0, PyData.canLayAll0, a1, b1, ok_bin]; rfl, ?_⟩
    simp only [Sde.py, Sde.dep, PyData.depth, PyData.depthAll]
    have : 1 ≤ a.dep := by cases a <;> simp [Sde.dep]
    omega
  | .bad w xs ys, h => by
    refine ⟨by simp only [Sde.py, PyData.canLay0, PyData.canLayAll0, h.1, h.2.2.2.1]; rfl, ?_⟩
    simp only [Sde.py, Sde.dep, PyData.depth, PyData.depthAll]
    have := h.2.2.2.2
    omega
/-- the rule: k levels may stand below -/
def isSideB (ins : List Inp) : Sde → Nat → Bool
  | _, 0 => false
  | .num n, _ + 1 => decide (0 ≤ n) && decide (n ≤ 1000000000)
  | .inp n, _ + 1 => (inOf ins n).isSome
  | .leaf _, _ + 1 => true
  | .bin _ a b, k + 1 => isSideB ins a k && isSideB ins b k
  | .bad _ _ _, _ + 1 => false
/-- sides with less than j levels to go -/
def spIsSide (j : Nat) : Spec := fun ds G Q _ => ∃ (ins : List Inp) (x y : D) (s : Sde) (k : Nat), ds = [bkD ins x y, s.d, .int (5 - (k : Int))] ∧ k < j ∧ insOk ins ∧ s.ok ∧ s.dep ≤ 50 ∧ Q (.bl (isSideB ins s k)) G
theorem isSide_i {ins : List Inp} {x y : D} {s : Sde} {z : Int} (k : Nat) {j : Nat} {G : GH} {Q : QD} {E : XD} (hz : z = 5 - (k : Int)) (hk : k < j) (ok : insOk ins) (so : s.ok) (sd : s.dep ≤ 50) (q : Q (.bl (isSideB ins s k)) G) : spIsSide j [bkD ins x y, s.d, .int z] G Q E := ⟨ins, x, y, s, k, by rw [hz], hk, ok, so, sd, q⟩
theorem kvS_num : (valD kindsS (.inr "num")).getD (.int 0) = .int 2 := by rfl
theorem kvS_input : (valD kindsS (.inr "input")).getD (.int 0) = .int 2 := by rfl
theorem kvS_leaf (w : Bool) : (valD kindsS (.inr (leafS w))).getD (.int 0) = .int 1 := by cases w <;> rfl
theorem kvS_bin (w : Bool) : (valD kindsS (.inr (binS w))).getD (.int 0) = .int 3 := by cases w <;> rfl
/-- items handed on by a test, or not; the items are g of something -/
theorem compW_fm {α : Type} (ps : List α) (g : α → D) (f : α → Option D) {W : Wk} {p : Addr} {body : D → GH → (Option D → GH → Prop) → Prop} {G : GH} {Q : QD} (hx : W.xs = ps.map g) (hp : G p = none) (hn : ps.length ≤ 1000) (hk : ∀ G', Le G G' → W.keep G')
    (hb : ∀ d ∈ ps, ∀ G' (R : Option D → GH → Prop), Le G G' → (∀ G2, Le G' G2 → R (f d) G2) → body (g d) G' R) (q : Q (.ref p) (gup G p (.lst (ps.filterMap f)))) : compW W p body G Q := Dl.unQ (by
 simp (disch := with_unfolding_all
  refine @id _ ?_
  refine ⟨fun i G' => G' = gup G p (.lst ((ps.take i).filterMap f)), by simp, fun i G' h => by rw [h]; exact hk _ (Le.new hp), ?_, ?_⟩
  · rintro i G' d' rfl hd
    rw [hx, List.getElem?_map] at hd
    cases hd1 : ps[i]? with
    | none => rw [hd1] at hd; cases hd
    | some d =>
      rw [hd1] at hd
      cases hd
      have hm : d ∈ ps := List.mem_of_getElem? hd1
      have e : (ps.take (i + 1)).filterMap f = (ps.take i).filterMap f ++ (f d).toList := by
        rw [List.take_add_one, hd1, List.filterMap_append]
        cases hf : f d <;> simp [hf]
      refine hb d hm _ _ (Le.new hp) fun G2 l => ?_
      cases hf : f d with
      | none =>
        refine ⟨_, l, ?_⟩
        show gup G p (.lst ((ps.take i).filterMap f)) = gup G p (.lst ((ps.take (i + 1)).filterMap f))
        rw [e, hf]
        simp
      | some y =>
        refine ⟨_, l p _ gup_same, ?_, gup G p (.lst ((ps.take (i + 1)).filterMap f)), ?_, rfl⟩
        · have h1 := List.length_filterMap_le f (ps.take i)
          rw [List.length_take] at h1
          have : sizeLine = 16777216 := sizeLine_eq
          omega
        · rw [e, hf]
          have := Le.gup2 (p := p) (o := .lst ((ps.take i).filterMap f ++ [y])) l
          rw [gup_gup] at this
          exact this
  · rintro G' rfl
    rw [hx, List.length_map, List.take_length]
    exact q
 ) only [↓Dl.qTrue])
theorem Sde.all (ps : List Sde) (h : ∀ s ∈ ps, s.ok ∧ s.dep ≤ 50) : (∀ r, pyDs r (ps.map Sde.d) = some (ps.map Sde.py)) ∧ PyData.canLayAll0 (ps.map Sde.py) = true ∧ PyData.depthAll (ps.map Sde.py) ≤ 50 := Dl.unQ (by
 simp (disch := with_unfolding_all
  refine @id _ ?_
  induction ps with
  | nil => exact ⟨fun _ => rfl, rfl, by simp [PyData.depthAll]⟩
  | cons s ps ih =>
    obtain ⟨a1, a2, a3⟩ := ih fun t ht => h t (List.mem_cons_of_mem _ ht)
    obtain ⟨b1, b2⟩ := h s (List.mem_cons_self ..)
    obtain ⟨c1, c2⟩ := s.can b1
    refine ⟨fun r => by simp only [List.map_cons, pyDs, s.pyD r b1, a1 r], by simp only [List.map_cons, PyData.canLayAll0, c1, a2]; rfl, ?_⟩
    simp only [List.map_cons, PyData.depthAll]
    omega
 ) only [↓Dl.qTrue])
theorem Sde.shaped (ps : List Sde) (h : ∀ s ∈ ps, s.ok ∧ s.dep ≤ 50) : SeqAt.shaped (.list (ps.map Sde.py)) = true := by
  obtain ⟨a1, a2, a3⟩ := Sde.all ps h
  simp only [SeqAt.shaped, PyData.canLay0, PyData.depth, Bool.and_eq_true]
  exact ⟨a2, decide_eq_true (by omega)⟩
theorem Sde.fm (ps : List Sde) (f : Sde → Bool) : ps.filterMap (fun s => if f s = true then none else some s.d) = (ps.filter fun s => !f s).map Sde.d := by
  induction ps with
  | nil => rfl
  | cons s ps ih => rw [List.filterMap_cons, List.filter_cons, ih]; cases h : f s <;> simp
theorem meet_isSide (j : Nat) (Δ : Nat → Option Spec) (Γ : Gam) (h8 : Δ 8 = some spInOf) (h12 : Δ 12 = some (spIsSide j)) (g10 : Γ 10 = some (.int 1000000000)) (g11 : Γ 11 = some (.int 4)) : Meet Δ Γ 5 3 B_books_is_side (spIsSide (j + 1)) := Dl.unQ (by
 simp (disch := with_unfolding_all
  refine @id _ ?_
  intro ds G Q E _ h
  obtain ⟨ins, x, y, s, k, rfl, kj, ok, so, sd, q⟩ := h
  show wpSs _ _ _ _ [some (bkD ins x y), some s.d, some (.int (5 - (k : Int))), none, none] G
  unfold B_books_is_side
  walk_at "w"
  intro p hp
  walk_at "w"
  refine ⟨rfl, gup_same, ?_⟩
  obtain ⟨G1, hG1, hk, le⟩ : ∃ G1, gup (gup G p (.dk [])) p (.dk kindsS) = G1 ∧ G1 p = some (.dk kindsS) ∧ Le G G1 := ⟨_, rfl, gup_same, by rw [gup_gup]; exact Le.new hp⟩
  change wpG Δ Γ _ _ _ _ (gup (gup G p (.dk [])) p (.dk kindsS)) _
  rw [hG1]
  walk_at "v"
  refine s_wk ?_
  walk_at "v"
  have fin : ∀ {b : Bool}, isSideB ins s k = b → wk (Q (.bl b)) G1 := fun e => wkLe le (by rw [← e]; exact q)
  refine ite_d (fun a => ?_) (fun a => ?_)
  · obtain rfl : k = 0 := by omega
    walk_at "w"
    exact fin (by cases s <;> rfl)
  obtain ⟨n, rfl⟩ : ∃ n, k = n + 1 := ⟨k - 1, by omega⟩
  have hn5 : (5 - ((n + 1 : Nat) : Int)) + 1 = 5 - (n : Int) := by omega
  cases s with
  | num z =>
    simp only [Sde.d]
    walk_at "w"
    rw [kvS_num]
    walk_at "w"
    refine iteLen rfl ?_
    walk_at "w"
    refine ite_d (fun a1 => ?_) (fun a1 => ?_)
    · walk_at "w"
      exact fin (by simp only [isSideB, decide_eq_true a1, Bool.true_and])
    · walk_at "w"
      exact fin (by simp only [isSideB, decide_eq_false a1, Bool.false_and])
  | inp z =>
    simp only [Sde.d]
    walk_at "w"
    rw [kvS_input]
    walk_at "w"
    refine iteLen rfl ?_
    walk_at "w"
    refine inOf_i ok so ?_
    walk_at "w"
    rw [inpD_isNon]
    exact fin rfl
  | leaf w =>
    have ol := ok_leaf w
    have kl := kvS_leaf w
    have n1 : decide (leafS w = "num") = false := by cases w <;> decide +kernel
    have n2 : decide (leafS w = "input") = false := by cases w <;> decide +kernel
    simp only [Sde.d]
    generalize leafS w = lw at ol kl n1 n2 ⊢
    walk_at "w"
    rw [kl]
    walk_at "w"
    refine iteLen rfl ?_
    walk_at "w"
    refine iteC0 n1 ?_
    walk_at "w"
    refine iteC0 n2 ?_
    walk_at "w"
    intro p2 hp2
    refine compW_fm (α := Sde) [] Sde.d (fun _ => none) rfl hp2 (by decide) (fun _ _ => trivial) (fun d hd => by cases hd) ?_
    walk_at "w"
    intro p3 hp3
    refine c_eq_nilP (ys := []) ((gup_ne (by intro z; subst z; rw [gup_same] at hp3; cases hp3)).trans gup_same) (fun _ => rfl) (by decide) gup_same ?_
    refine wkLe (le_push (le_push le hp2) hp3) ?_
    exact q
  | bin w s1 s2 =>
    have ol := ok_bin w
    have kl := kvS_bin w
    have n1 : decide (binS w = "num") = false := by cases w <;> decide +kernel
    have n2 : decide (binS w = "input") = false := by cases w <;> decide +kernel
    simp only [Sde.d]
    generalize binS w = lw at ol kl n1 n2 ⊢
    have hs : ∀ s ∈ [s1, s2], s.ok ∧ s.dep ≤ 50 := by
      simp only [Sde.dep] at sd
      simp only [List.mem_cons, List.not_mem_nil, or_false]
      rintro s (rfl | rfl)
      · exact ⟨so.1, by omega⟩
      · exact ⟨so.2, by omega⟩
    walk_at "w"
    rw [kl]
    walk_at "w"
    refine iteLen rfl ?_
    walk_at "w"
    refine iteC0 n1 ?_
    walk_at "w"
    refine iteC0 n2 ?_
    walk_at "w"
    intro p2 hp2
    refine compW_fm [s1, s2] Sde.d (fun s => if isSideB ins s n = true then none else some s.d) rfl hp2 (by simp) (fun _ _ => trivial) ?_ ?_
    · intro s hsm G' R l hR
      walk_at "w"
      refine isSide_i n hn5 (by omega) ok (hs s hsm).1 (hs s hsm).2 ?_
      walk_at "w"
      have h2 := hR G' (Le.refl _)
      cases e : isSideB ins s n with
      | true => 
        simp only [e, if_true] at h2
        exact h2
      | false =>
        simp only [e, if_false, Bool.false_eq_true] at h2
        refine iteT ?_
        walk_at "w"
        exact h2
    · rw [Sde.fm]
      walk_at "w"
      intro p3 hp3
      have hs2 : ∀ s ∈ [s1, s2].filter (fun s => !isSideB ins s n), s.ok ∧ s.dep ≤ 50 := fun s h => hs s (List.mem_filter.mp h).1
      refine c_eq_nilP ((gup_ne (by intro z; subst z; rw [gup_same] at hp3; cases hp3)).trans gup_same) (Sde.all _ hs2).1 (Sde.shaped _ hs2) gup_same ?_
      have e : isSideB ins (.bin w s1 s2) (n + 1) = (([s1, s2].filter fun s => !isSideB ins s n).map Sde.py).isEmpty := by
        rw [isSideB, List.isEmpty_map, List.filter_cons, List.filter_cons]
        cases isSideB ins s1 n <;> cases isSideB ins s2 n <;> rfl
      rw [← e]
      exact wkLe (le_push (le_push le hp2) hp3) q
  | bad w xs ys =>
    obtain ⟨_, ⟨m, h1, h2⟩, _⟩ := so
    simp only [Sde.d]
    walk_at "w"
    rw [h1]
    walk_at "w"
    exact fin rfl
 ) only [↓Dl.qTrue])
/-- something that is, or would be, a claim -/
inductive Clm where
  | two (w : Str) (a b : Sde)
  | bad (xs : List D)
def Clm.d : Clm → D
  | .two w a b => .tup [.str w, a.d, b.d]
  | .bad xs => .tup xs
def Clm.ok : Clm → Prop
  | .two _ a b => (a.ok ∧ a.dep ≤ 50) ∧ b.ok ∧ b.dep ≤ 50
  | .bad xs => xs.length ≠ 3
def isClaimB (ins : List Inp) : Clm → Bool
  | .two w a b => decide (w ∈ (["same", "less"] : List Str)) && (isSideB ins a 4 && isSideB ins b 4)
  | .bad _ => false
def spIsClaim : Spec := fun ds G Q _ => ∃ (ins : List Inp) (x y : D) (c : Clm), ds = [bkD ins x y, c.d] ∧ insOk ins ∧ c.ok ∧ Q (.bl (isClaimB ins c)) G
theorem meet_isClaim (Δ : Nat → Option Spec) (Γ : Gam) (h12 : Δ 12 = some (spIsSide 5)) : Meet Δ Γ 2 2 B_books_is_claim spIsClaim := Dl.unQ (by
 simp (disch := with_unfolding_all
  refine @id _ ?_
  intro ds G Q E _ h
  obtain ⟨ins, x, y, c, rfl, ok, ck, q⟩ := h
  show wpSs _ _ _ _ [some (bkD ins x y), some c.d] G
  unfold B_books_is_claim
  cases c with
  | two w a b =>
    simp only [Clm.d]
    walk_at "w"
    refine iteLen rfl ?_
    walk_at "w"
    refine ite_nd (fun a1 => ?_) (fun a1 => ?_)
    · walk_at "w"
      rw [isClaimB, decide_eq_false a1] at q
      exact wk.of q
    · rw [isClaimB, decide_eq_true a1] at q
      walk_at "w"
      refine isSide_i 4 (by decide) (by decide) ok ck.1.1 ck.1.2 ?_
      walk_at "w"
      cases e1 : isSideB ins a 4 with
      | false =>
        rw [e1] at q
        walk_at "w"
        exact wk.of q
      | true =>
        rw [e1] at q
        walk_at "w"
        refine isSide_i 4 (by decide) (by decide) ok ck.2.1 ck.2.2 ?_
        walk_at "w"
        exact wk.of q
  | bad xs =>
    simp only [Clm.d]
    have hx : ¬ (xs.length : Int) = 3 := fun e => ck (by omega)
    walk_at "w"
    exact wk.of q
 ) only [↓Dl.qTrue])
theorem isClaim_i {ins : List Inp} {x y : D} {c : Clm} {G : GH} {Q : QD} {E : XD} (ok : insOk ins) (ck : c.ok) (q : Q (.bl (isClaimB ins c)) G) : spIsClaim [bkD ins x y, c.d] G Q E := ⟨ins, x, y, c, rfl, ok, ck, q⟩
/-! ### need_book -/
abbrev badBook (k : Int) (w : Str) : Exn := ⟨3, ["at", "word"], [.int k, .str w]⟩
def spMustB : Spec := fun ds G Q E => ∃ (g : Bool) (k : Int) (w : Str), ds = [.bl g, .int k, .str w] ∧ (g = true → Q .non G) ∧ (g = false → E (badBook k w) G)
theorem meet_mustB (Δ : Nat → Option Spec) (Γ : Gam) : Meet Δ Γ 3 3 B_books_must spMustB := Dl.unQ (by
 simp (disch := with_unfolding_all
  refine @id _ ?_
  intro ds G Q E _ h
  obtain ⟨g, k, w, rfl, q1, q2⟩ := h
  show wpSs _ _ _ _ [some (.bl g), some (.int k), some (.str w)] G
  unfold B_books_must
  cases g with
  | true =>
    walk_at "w"
    exact wk.of (q1 rfl)
  | false =>
    walk_at "w"
    exact q2 rfl
 ) only [↓Dl.qTrue])
theorem mustB_i {g : Bool} {k : Int} {w : Str} {G : GH} {Q : QD} {E : XD} (q1 : g = true → Q .non G) (q2 : g = false → E (badBook k w) G) : spMustB [.bl g, .int k, .str w] G Q E := ⟨g, k, w, rfl, q1, q2⟩
/-- the first one that does not do -/
def badFrom {α : Type} (f : Nat → α → Bool) : Nat → List α → Option Nat
  | _, [] => none
  | k, x :: xs => if f k x = true then badFrom f (k + 1) xs else some k
theorem badFrom_step {α : Type} {f : Nat → α → Bool} {xs : List α} {i : Nat} {x : α} (h : xs[i]? = some x) : badFrom f i (xs.drop i) = if f i x = true then badFrom f (i + 1) (xs.drop (i + 1)) else some i := by
  obtain ⟨h1, h2⟩ := List.getElem?_eq_some_iff.mp h
  rw [List.drop_eq_getElem_cons h1, h2, badFrom]
structure Bk where
  ins : List Inp
  ds : List Bd
  cs : List Clm
abbrev Bk.d (b : Bk) : D := bkD b.ins (.tup (b.ds.map Bd.d)) (.tup (b.cs.map Clm.d))
structure Bk.ok (b : Bk) : Prop where
  i1 : insOk b.ins
  i2 : b.ins.length ≤ 1000
  i3 : ∀ i ∈ b.ins, i.n.length ≤ 1000
  d1 : ∀ d ∈ b.ds, d.ok
  c1 : ∀ c ∈ b.cs, c.ok
/-- what is wrong first -/
def claimBad (b : Bk) : Option (Int × Str) :=
  if b.cs.length ≤ 8 then (badFrom (fun _ c => isClaimB b.ins c) 0 b.cs).map fun k => ((k : Int), "claim") else some (0, "claim")
def deedBad (b : Bk) : Option (Int × Str) :=
  if b.ds.length ≤ 40 then match badFrom (fun _ d => isDeedB b.ins d) 0 b.ds with
    | some k => some ((k : Int), "deed")
    | none => claimBad b
  else some (0, "deed")
def bookBad (m : Mc) (b : Bk) : Option (Int × Str) :=
  if b.ins.length ≤ 4 then match badFrom (isInputB m b.ins) 0 b.ins with
    | some k => some ((k : Int), "input")
    | none => deedBad b
  else some (0, "input")
def spNeedBook : Spec := fun ds G Q E => ∃ (m : Mc) (b : Bk), ds = [mD m, b.d] ∧ m.ok ∧ b.ok ∧ (bookBad m b = none → Q .non G) ∧ (∀ k w, bookBad m b = some (k, w) → E (badBook k w) G)
theorem meet_needBook (Δ : Nat → Option Spec) (Γ : Gam) (h1 : Δ 1 = some spNeedM) (h9 : Δ 9 = some spIsInput) (h11 : Δ 11 = some spIsDeed) (h13 : Δ 13 = some spIsClaim) (h14 : Δ 14 = some spMustB) (g12 : Γ 12 = some (.int 8)) (g13 : Γ 13 = some (.int 40)) (g14 : Γ 14 = some (.int 4)) : Meet Δ Γ 8 2 B_books_need_book spNeedBook := Dl.unQ (by
 simp (disch := with_unfolding_all
  refine @id _ ?_
  intro ds G Q E _ h
  obtain ⟨m, b, rfl, mok, bok, q, r⟩ := h
  show wpSs _ _ _ _ [some (mD m), some b.d, none, none, none, none, none, none] G
  unfold B_books_need_book
  walk_at "w"
  refine needM_i mok ?_
  walk_at "w"
  refine mustB_i (fun a => ?_) (fun a => ?_)
  rotate_left
  · exact r _ _ (by
      have a' := of_decide_eq_false a
      have : ¬ b.ins.length ≤ 4 := fun z => a' (by rw [List.length_map]; omega)
      rw [bookBad, if_neg this])
  have a1 : b.ins.length ≤ 4 := by
    have a' := of_decide_eq_true a
    rw [List.length_map] at a'
    omega
  clear a
  walk_at "w"
  case _ => rw [List.length_map]; omega
  refine forW_st (fun i σ => (∃ x5 x6 x7, σ = [some (mD m), some b.d, some (.tup (b.ins.map Inp.d)), some (.tup (b.ds.map Bd.d)), some (.tup (b.cs.map Clm.d)), x5, x6, x7]) ∧ badFrom (isInputB m b.ins) 0 b.ins = badFrom (isInputB m b.ins) i (b.ins.drop i)) ⟨⟨_, _, _, rfl⟩, rfl⟩ trivial ?_ ?_
  · rintro i σ d ⟨⟨x5, x6, x7, rfl⟩, hi⟩ hd N hN
    obtain ⟨hl, rfl⟩ := rangeD_get hd
    have hl : i < b.ins.length := by rw [List.length_map] at hl; omega
    have hx : b.ins[i]? = some b.ins[i] := List.getElem?_eq_getElem hl
    rw [badFrom_step hx] at hi
    walk_at "w"
    refine isInput_i bok.i1 bok.i2 (bok.i3 _ (List.mem_of_getElem? hx)) hx ?_
    walk_at "w"
    refine mustB_i (fun a => ?_) (fun a => ?_)
    · rw [if_pos a] at hi
      walk_at "w"
      exact hN _ _ ⟨⟨_, _, _, rfl⟩, hi⟩ (Le.refl _)
    · rw [if_neg (by rw [a]; exact Bool.false_ne_true)] at hi
      exact r _ _ (by rw [bookBad, if_pos a1, hi])
  rintro σ ⟨⟨x5, x6, x7, rfl⟩, hi⟩
  rw [show (rangeD 0 ((b.ins.map Inp.d).length : Int)).length = b.ins.length by rw [rangeD_len, List.length_map]; omega, List.drop_length] at hi
  have bad1 : bookBad m b = deedBad b := by rw [bookBad, if_pos a1, hi]; rfl
  rw [bad1] at q r
  refine wk.of ?_
  walk_at "w"
  refine mustB_i (fun a => ?_) (fun a => ?_)
  rotate_left
  · exact r _ _ (by
      have a' := of_decide_eq_false a
      have : ¬ b.ds.length ≤ 40 := fun z => a' (by rw [List.length_map]; omega)
      rw [deedBad, if_neg this])
  have a2 : b.ds.length ≤ 40 := by
    have a' := of_decide_eq_true a
    rw [List.length_map] at a'
    omega
  clear a
  walk_at "w"
  refine forW_st (fun i σ => (∃ x5 x6 x7, σ = [some (mD m), some b.d, some (.tup (b.ins.map Inp.d)), some (.tup (b.ds.map Bd.d)), some (.tup (b.cs.map Clm.d)), x5, x6, x7]) ∧ badFrom (fun _ d => isDeedB b.ins d) 0 b.ds = badFrom (fun _ d => isDeedB b.ins d) i (b.ds.drop i)) ⟨⟨_, _, _, rfl⟩, rfl⟩ trivial ?_ ?_
  · rintro i σ d ⟨⟨x5, x6, x7, rfl⟩, hi⟩ hd N hN
    obtain ⟨x, hx, rfl⟩ := enumD_get _ _ _ _ hd
    rw [List.getElem?_map] at hx
    obtain ⟨z, hz, rfl⟩ := Option.map_eq_some_iff.mp hx
    rw [badFrom_step hz] at hi
    walk_at "w"
    refine isDeed_i bok.i1 (bok.d1 _ (List.mem_of_getElem? hz)) ?_
    walk_at "w"
    rw [show (0 : Int) + (i : Int) = i by omega]
    refine mustB_i (fun a => ?_) (fun a => ?_)
    · rw [if_pos a] at hi
      walk_at "w"
      exact hN _ _ ⟨⟨_, _, _, rfl⟩, hi⟩ (Le.refl _)
    · rw [if_neg (by rw [a]; exact Bool.false_ne_true)] at hi
      exact r _ _ (by rw [deedBad, if_pos a2, hi])
  rintro σ ⟨⟨x5, x6, x7, rfl⟩, hi⟩
  rw [show (enumD 0 (b.ds.map Bd.d)).length = b.ds.length by rw [enumD_len, List.length_map], List.drop_length] at hi
  have bad2 : deedBad b = claimBad b := by rw [deedBad, if_pos a2, hi]; rfl
  rw [bad2] at q r
  refine wk.of ?_
  walk_at "w"
  refine mustB_i (fun a => ?_) (fun a => ?_)
  rotate_left
  · exact r _ _ (by
      have a' := of_decide_eq_false a
      have : ¬ b.cs.length ≤ 8 := fun z => a' (by rw [List.length_map]; omega)
      rw [claimBad, if_neg this])
  have a3 : b.cs.length ≤ 8 := by
    have a' := of_decide_eq_true a
    rw [List.length_map] at a'
    omega
  clear a
  walk_at "w"
  refine forW_st (fun i σ => (∃ x5 x6 x7, σ = [some (mD m), some b.d, some (.tup (b.ins.map Inp.d)), some (.tup (b.ds.map Bd.d)), some (.tup (b.cs.map Clm.d)), x5, x6, x7]) ∧ badFrom (fun _ d => isClaimB b.ins d) 0 b.cs = badFrom (fun _ d => isClaimB b.ins d) i (b.cs.drop i)) ⟨⟨_, _, _, rfl⟩, rfl⟩ trivial ?_ ?_
  · rintro i σ d ⟨⟨x5, x6, x7, rfl⟩, hi⟩ hd N hN
    obtain ⟨x, hx, rfl⟩ := enumD_get _ _ _ _ hd
    rw [List.getElem?_map] at hx
    obtain ⟨z, hz, rfl⟩ := Option.map_eq_some_iff.mp hx
    rw [badFrom_step hz] at hi
    walk_at "w"
    refine isClaim_i bok.i1 (bok.c1 _ (List.mem_of_getElem? hz)) ?_
    walk_at "w"
    rw [show (0 : Int) + (i : Int) = i by omega]
    refine mustB_i (fun a => ?_) (fun a => ?_)
    · rw [if_pos a] at hi
      walk_at "w"
      exact hN _ _ ⟨⟨_, _, _, rfl⟩, hi⟩ (Le.refl _)
    · rw [if_neg (by rw [a]; exact Bool.false_ne_true)] at hi
      exact r _ _ (by rw [claimBad, if_pos a3, hi]; rfl)
  rintro σ ⟨⟨x5, x6, x7, rfl⟩, hi⟩
  rw [show (enumD 0 (b.cs.map Clm.d)).length = b.cs.length by rw [enumD_len, List.length_map], List.drop_length] at hi
  refine wk.of ?_
  walk_at "w"
  exact wk.of (q (by rw [claimBad, if_pos a3, hi]; rfl))
 ) only [↓Dl.qTrue])
theorem needBook_i {m : Mc} {b : Bk} {G : GH} {Q : QD} {E : XD} (mok : m.ok) (bok : b.ok) (q : bookBad m b = none → Q .non G) (r : ∀ k w, bookBad m b = some (k, w) → E (badBook k w) G) : spNeedBook [mD m, b.d] G Q E := ⟨m, b, rfl, mok, bok, q, r⟩
end
set_option maxRecDepth 100000
set_option maxHeartbeats 4000000
section
open PySem PySem.Spec PyProof.Rows L2
/-! ### what draws ask of lists -/
theorem cut_d {xs : List D} {k : Int} (h : 0 ≤ k ∧ k ≤ xs.length) : cutD xs (some k) none = xs.drop k.toNat := Dl.unQ (by
 simp (disch := with_unfolding_all
  refine @id _ ?_
  obtain ⟨n, rfl⟩ : ∃ n : Nat, k = n := ⟨k.toNat, by omega⟩
  unfold cutD
  rw [HT.sIx_none, HT.sIx_nat, Nat.min_eq_left (by omega), Int.toNat_natCast]
  rw [List.take_of_length_le]
  rw [List.length_drop]
  omega
 ) only [↓Dl.qTrue])
theorem cut_t {xs : List D} {k : Int} (h : 0 ≤ k ∧ k ≤ xs.length) : cutD xs none (some k) = xs.take k.toNat := by
  obtain ⟨n, rfl⟩ : ∃ n : Nat, k = n := ⟨k.toNat, by omega⟩
  exact cut_k (by omega)
section
variable {G : GH} {a : Addr} {Q : QD}
theorem sl_dL {xs : List D} {k : Int} (h : G a = some (.lst xs)) (hk : 0 ≤ k ∧ k ≤ xs.length) (q : newL (xs.drop k.toNat) G Q) : slD (.ref a) (some k) none G Q := sl_l h (by rw [cut_d hk]; exact q)
theorem sl_tL {xs : List D} {k : Int} (h : G a = some (.lst xs)) (hk : 0 ≤ k ∧ k ≤ xs.length) (q : newL (xs.take k.toNat) G Q) : slD (.ref a) none (some k) G Q := sl_l h (by rw [cut_t hk]; exact q)
theorem sl_dT {xs : List D} {k : Int} (hk : 0 ≤ k ∧ k ≤ xs.length) (q : Q (.tup (xs.drop k.toNat)) G) : slD (.tup xs) (some k) none G Q := sl_t (by rw [cut_d hk]; exact q)
theorem sl_tT {xs : List D} {k : Int} (hk : 0 ≤ k ∧ k ≤ xs.length) (q : Q (.tup (xs.take k.toNat)) G) : slD (.tup xs) none (some k) G Q := sl_t (by rw [cut_t hk]; exact q)
theorem o_rep1 {x : D} {k : Int} (h : 0 ≤ k ∧ k ≤ 1000) (q : Q (.tup (List.replicate k.toNat x)) G) : opD .Mult (.tup [x]) (.int k) G Q := Dl.unQ (by
 simp (disch := with_unfolding_all
  refine @id _ ?_
  refine o_rep ⟨by simp, h.1, h.2, by simp⟩ ?_
  have e : ∀ n : Nat, (List.replicate n [x]).flatten = List.replicate n x := fun n => by
    induction n with
    | zero => rfl
    | succ n ih => rw [List.replicate_succ, List.replicate_succ, List.flatten_cons, ih]; rfl
  rw [e]; exact q
 ) only [↓Dl.qTrue])
theorem getD_map {α : Type} {f : α → D} {xs : List α} {k : Nat} (h : k < xs.length) : (xs.map f).getD k .non = f xs[k] := by
  simp [List.getD_eq_getElem?_getD, h]
theorem x_pickI {ins : List Inp} {i : Int} (h : G a = some (.lst (ins.map Inp.d))) (hi : 0 ≤ i ∧ i < (ins.map Inp.d).length) (q : ∀ x ∈ ins, Q x.d G) : ixD (.ref a) (.int i) G Q := Dl.unQ (by
 simp (disch := with_unfolding_all
  refine @id _ ?_
  refine x_lb h hi ?_
  rw [List.length_map] at hi
  have hk : i.toNat < ins.length := by omega
  rw [getD_map hk]
  exact q _ (List.getElem_mem hk)
 ) only [↓Dl.qTrue])
theorem newHN {xs : List D} {G : GH} {a c : Addr} {S : HS} {Q : QD} (h : a ≠ c) (q : ∀ p G', p ≠ a → p ≠ c → G p = none → Le G G' → G' p = some (.lst xs) → Q (.ref p) (hG G' a c S)) : newL xs (hG G a c S) Q := fun p hp => by
  have pa : p ≠ a := (ne_some hG_a hp).symm
  have pc : p ≠ c := (ne_some (hG_b h) hp).symm
  rw [← hG_gup pa pc]
  rw [hG_ne pa pc] at hp
  exact q p _ pa pc hp (Le.new hp) gup_same
theorem m_appN {xs : List D} {y : D} {G0 G1 : GH} {p a c : Addr} {S : HS} {Q : QD} (h : G1 p = some (.lst xs)) (pa : p ≠ a) (pc : p ≠ c) (n : G0 p = none) (l : Le G0 G1) (hn : xs.length < sizeLine)
    (q : ∀ G2, Le G0 G2 → LeX p G1 G2 → G2 p = some (.lst (xs ++ [y])) → Q .non (hG G2 a c S)) : bmD .append (.ref p) [y] (hG G1 a c S) Q := Dl.unQ (by
 simp (disch := with_unfolding_all
  refine @id _ ?_
  refine m_app (xs := xs) (by rw [hG_ne pa pc]; exact h) hn ?_
  rw [← hG_gup pa pc]
  refine q _ (fun b u e => ?_) (fun b o hb e => ?_) gup_same
  · rw [gup_ne (ne_some e n)]; exact l b u e
  · rw [gup_ne hb]; exact e
 ) only [↓Dl.qTrue])
theorem x_last {ins : List Inp} (h : G a = some (.lst (ins.map Inp.d))) (hl : 1 ≤ ins.length) (q : ∀ x ∈ ins, Q x.d G) : ixD (.ref a) (.int (-1)) G Q := Dl.unQ (by
 simp (disch := with_unfolding_all
  refine @id _ ?_
  have hk : ins.length - 1 < ins.length := by omega
  refine x_lst (v := (ins[ins.length - 1]).d) h ?_ (q _ (List.getElem_mem hk))
  unfold atI ixN
  rw [List.length_map, if_neg (by omega), if_pos (by omega)]
  show (ins.map Inp.d)[(-1 + (ins.length : Int)).toNat]? = _
  rw [show (-1 + (ins.length : Int)).toNat = ins.length - 1 by omega, List.getElem?_map, List.getElem?_eq_getElem hk]
  rfl
 ) only [↓Dl.qTrue])
theorem x_pick2s {x y : Str} {i : Int} (h : G a = some (.lst [.str x, .str y])) (hi : 0 ≤ i ∧ i < 2) (q : ∀ v, (v = x ∨ v = y) → Q (.str v) G) : ixD (.ref a) (.int i) G Q := Dl.unQ (by
 simp (disch := with_unfolding_all
  refine @id _ ?_
  refine x_lb h hi ?_
  obtain e | e : i = 0 ∨ i = 1 := by omega
  · subst e; exact q x (.inl rfl)
  · subst e; exact q y (.inr rfl)
 ) only [↓Dl.qTrue])
end
local macro_rules | `(tactic| walk_at "heap2") => `(tactic| first | exact hG_a | exact hG_b (by assumption) | (refine (hG_ne (by first | assumption | exact Ne.symm (by assumption)) (by first | assumption | exact Ne.symm (by assumption))).trans ?_; walk_at "heap") | (refine Le.at (by assumption) ?_; walk_at "heap") | (refine LeX.at (by assumption) (by first | assumption | exact Ne.symm (by assumption)) ?_; walk_at "heap"))
local macro_rules | `(tactic| walk_at "le") => `(tactic| first | exact Le.refl _ | assumption | (refine Le.trans ?_ (by assumption); walk_at "le") | (refine Le.push ?_ (by assumption); walk_at "le") | (refine hG_le ?_; walk_at "le"))
local macro_rules | `(tactic| walk_at "own") => `(tactic| first
  | ((with_reducible refine newHN (by assumption) ?_); intro x0 x1 x2 x3 x6 x4 x5)
  | ((with_reducible refine newK ?_); intro x0 x1 x2 x3 x4)
  | ((with_reducible refine' nextH (by assumption) (by assumption) ?k1 ?_); (case k1 => (first | (constructor <;> omega) | (simp only [List.length_map, List.length_append, List.length_take, List.length_drop]; constructor <;> omega)))))
local macro_rules | `(tactic| walk_at "pre") => `(tactic| first
  | ((with_reducible refine' c_in_i2 ?k1 ?_); (case k1 => walk_at "heap"))
  | ((with_reducible refine' c_in_i3 ?k1 ?_); (case k1 => walk_at "heap"))
  | ((with_reducible refine' c_in_s2 ?k1 ?_); (case k1 => walk_at "heap"))
  | ((with_reducible refine' c_in_s3 ?k1 ?_); (case k1 => walk_at "heap"))
  | ((with_reducible refine' x_pickI ?k1 ?k2 ?_); (case k1 => walk_at "heap"); (case k2 => (simp only [List.length_map]; constructor <;> omega)))
  | ((with_reducible refine' x_last ?k1 ?k2 ?_); (case k1 => walk_at "heap"); (case k2 => omega))
  | ((with_reducible refine' x_pick2 ?k1 ?k2 ?_); (case k1 => walk_at "heap"); (case k2 => (constructor <;> omega)))
  | ((with_reducible refine' x_pick2s ?k1 ?k2 ?_); (case k1 => walk_at "heap"); (case k2 => (constructor <;> omega)))
  | ((with_reducible refine' x_pick3 ?k1 ?k2 ?_); (case k1 => walk_at "heap"); (case k2 => (constructor <;> omega)))
  | ((with_reducible refine' x_pick4 ?k1 ?k2 ?_); (case k1 => walk_at "heap"); (case k2 => (constructor <;> omega)))
  | ((with_reducible refine' m_appN ?k1 (by assumption) (by assumption) (by assumption) ?k5 ?k6 ?_); (case k1 => walk_at "heap"); (case k5 => walk_at "le"); (case k6 => (simp only [List.length_map, List.length_append, List.length_cons, List.length_nil, List.length_take, List.length_drop, sizeLine_eq]; omega)); intro x0 x1 x2 x3)
  | ((with_reducible refine' sl_dL ?k1 ?k2 ?_); (case k1 => walk_at "heap"); (case k2 => (simp only [List.length_map, List.length_append, List.length_cons, List.length_nil, List.length_take, List.length_drop]; constructor <;> omega)))
  | ((with_reducible refine' sl_tL ?k1 ?k2 ?_); (case k1 => walk_at "heap"); (case k2 => (simp only [List.length_map, List.length_append, List.length_cons, List.length_nil, List.length_take, List.length_drop]; constructor <;> omega)))
  | ((with_reducible refine' o_rep1 ?k2 ?_); (case k2 => (constructor <;> omega)))
  | ((with_reducible refine' sl_dT ?k2 ?_); (case k2 => (simp only [List.length_map, List.length_append, List.length_cons, List.length_nil, List.length_take, List.length_drop]; constructor <;> omega)))
  | ((with_reducible refine' sl_tT ?k2 ?_); (case k2 => (simp only [List.length_map, List.length_append, List.length_cons, List.length_nil, List.length_take, List.length_drop]; constructor <;> omega)))
  | ((with_reducible refine' o_addL ?k1 ?k2 ?k3 ?_); (case k1 => walk_at "heap"); (case k2 => walk_at "heap"); (case k3 => (simp only [List.length_map, List.length_append, List.length_cons, List.length_nil, List.length_take, List.length_drop, sizeLine_eq]; omega))))
/-! ### names -/
def wordOf (r : Int) : Str := cutS "abcdefg" (some r) none
def baseOf (r k : Int) : List Str := if k = 0 then ["n", "d", "nd", "dn"] else [wordOf r, wordOf r ++ ("x" : Str), wordOf r ++ ("y" : Str), ("x" : Str) ++ wordOf r]
def namesOf (r k t : Int) : List Str := (baseOf r k).drop t.toNat ++ (baseOf r k).take t.toNat
def nameRows : List (List Str) := (List.range 7).flatMap fun r => (List.range 2).flatMap fun k => (List.range 4).map fun t => namesOf (r : Nat) (k : Nat) (t : Nat)
/-- what every name drawn is -/
def goodN (n : Str) : Bool := isNameB n && PyData.strOk n && decide (n.length ≤ 8) && !decide (n ∈ (["zz", "zx", "zy"] : List Str))
theorem rows_ok : (nameRows.all fun ns => decide (ns.length = 4) && decide ns.Nodup && ns.all goodN) = true := by decide +kernel
structure GIn (most : Int) (ins : List Inp) : Prop where
  len1 : 1 ≤ ins.length
  len4 : ins.length ≤ 4
  nd : (ins.map Inp.n).Nodup
  nm : ∀ i ∈ ins, goodN i.n = true
  f1 : ∀ i ∈ ins, 1 ≤ i.f ∧ i.f ≤ most
  l01 : ∀ i ∈ ins, i.l = 0 ∨ i.l = 1
theorem GIn.of {most : Int} {names : List Str} {n : Nat} {ins : List Inp} (hr : names ∈ nameRows) (n1 : 1 ≤ n) (n4 : n ≤ 4) (hl : ins.length = n) (hm : ins.map Inp.n = names.take n) (hf : ∀ i ∈ ins, (1 ≤ i.f ∧ i.f ≤ most) ∧ (i.l = 0 ∨ i.l = 1)) : GIn most ins := Dl.unQ (by
 simp (disch := with_unfolding_all
  refine @id _ ?_
  have h := List.all_eq_true.mp rows_ok names hr
  simp only [Bool.and_eq_true, decide_eq_true_eq, List.all_eq_true] at h
  refine ⟨by omega, by omega, ?_, fun i hi => ?_, fun i hi => (hf i hi).1, fun i hi => (hf i hi).2⟩
  · rw [hm]
    exact List.Nodup.sublist (List.take_sublist _ _) h.1.2
  · have : i.n ∈ ins.map Inp.n := List.mem_map.mpr ⟨i, hi, rfl⟩
    rw [hm] at this
    exact h.2 _ (List.mem_of_mem_take this)
 ) only [↓Dl.qTrue])
theorem goodN.len {n : Str} (h : goodN n = true) : n.length ≤ 8 := by
  unfold goodN at h
  simp only [Bool.and_eq_true, decide_eq_true_eq] at h
  exact h.1.2
theorem goodN.ok {n : Str} (h : goodN n = true) : PyData.strOk n = true := by
  unfold goodN at h
  simp only [Bool.and_eq_true] at h
  exact h.1.1.2
theorem goodN.nm {n : Str} (h : goodN n = true) : isNameB n = true := by
  unfold goodN at h
  simp only [Bool.and_eq_true] at h
  exact h.1.1.1
theorem GIn.ok {most : Int} {ins : List Inp} (g : GIn most ins) : insOk ins := fun i hi => goodN.ok (g.nm i hi)
theorem inOf_some {ins : List Inp} {i : Inp} (h : i ∈ ins) : (inOf ins i.n).isSome = true := by
  unfold inOf
  rw [List.find?_isSome]
  exact ⟨i, h, by simp⟩
theorem inOf_self {ins : List Inp} {i : Inp} (nd : (ins.map Inp.n).Nodup) (h : i ∈ ins) : inOf ins i.n = some i := Dl.unQ (by
 simp (disch := with_unfolding_all
  refine @id _ ?_
  unfold inOf
  induction ins with
  | nil => cases h
  | cons j js ih =>
    rw [List.map_cons, List.nodup_cons] at nd
    by_cases e : j.n = i.n
    · rcases List.mem_cons.mp h with rfl | h
      · simp
      · exact absurd (List.mem_map.mpr ⟨i, h, e.symm⟩) nd.1
    · rw [List.find?_cons_of_neg (by simpa using e)]
      rcases List.mem_cons.mp h with rfl | h
      · exact absurd rfl e
      · exact ih nd.2 h
 ) only [↓Dl.qTrue])
/-! ### machines, deeds -/
/-- a deed that does -/
def GD (ins : List Inp) (d : Bd) : Prop := isDeedB ins d = true ∧ d.ok
theorem GD.turns {most : Int} {ins : List Inp} (g : GIn most ins) {i : Inp} (hi : i ∈ ins) {k w t : Int} (hk : 0 ≤ k ∧ k < i.f) (hw : decide (w ∈ waysI) = true) (ht : decide (t ∈ talliesI) = true) : GD ins (.turns i.n k w t) := Dl.unQ (by
 simp (disch := with_unfolding_all
  refine @id _ ?_
  refine ⟨?_, goodN.ok (g.nm i hi)⟩
  show isTurnsB ins i.n k w t = true
  unfold isTurnsB
  rw [inOf_self g.nd hi]
  simp only [hw, ht, decide_eq_true hk.1, decide_eq_true hk.2, Bool.and_self]
 ) only [↓Dl.qTrue])
/-! ### sides, claims -/
/-- a side with at most k levels -/
def GS (ins : List Inp) (k : Nat) (s : Sde) : Prop := isSideB ins s k = true ∧ s.ok ∧ s.dep ≤ k + 1
theorem isSideB.up {ins : List Inp} : ∀ {s : Sde} {k : Nat}, isSideB ins s k = true → isSideB ins s (k + 1) = true
  | .num n, 0, h => by simp [isSideB] at h
  | .inp n, 0, h => by simp [isSideB] at h
  | .leaf w, 0, h => by simp [isSideB] at h
  | .bin w a b, 0, h => by simp [isSideB] at h
  | .bad w x y, 0, h => by simp [isSideB] at h
  | .num n, k + 1, h => h
  | .inp n, k + 1, h => h
  | .leaf w, k + 1, h => h
  | .bin w a b, k + 1, h => by
    simp only [isSideB, Bool.and_eq_true] at h ⊢
    exact ⟨isSideB.up h.1, isSideB.up h.2⟩
  | .bad w x y, k + 1, h => h
theorem GS.up {ins : List Inp} {k : Nat} {s : Sde} (g : GS ins k s) : GS ins (k + 1) s := ⟨isSideB.up g.1, g.2.1, by have := g.2.2; omega⟩
theorem GS.le {ins : List Inp} {k j : Nat} {s : Sde} (g : GS ins k s) (h : k ≤ j) : GS ins j s := Dl.unQ (by
 simp (disch := with_unfolding_all
  refine @id _ ?_
  induction j with
  | zero => obtain rfl : k = 0 := by omega
            exact g
  | succ j ih =>
    by_cases e : k = j + 1
    · subst e; exact g
    · exact (ih (by omega)).up
 ) only [↓Dl.qTrue])
theorem GS.num {ins : List Inp} {n : Int} (h : 0 ≤ n ∧ n ≤ 1000000000) : GS ins 1 (.num n) := ⟨by simp only [isSideB, decide_eq_true h.1, decide_eq_true h.2, Bool.and_self], trivial, by simp [Sde.dep]⟩
theorem GS.inp {most : Int} {ins : List Inp} (g : GIn most ins) {i : Inp} (hi : i ∈ ins) : GS ins 1 (.inp i.n) := ⟨inOf_some hi, goodN.ok (g.nm i hi), by simp [Sde.dep]⟩
theorem GS.leaf {ins : List Inp} {w : Bool} : GS ins 1 (.leaf w) := ⟨rfl, trivial, by simp [Sde.dep]⟩
theorem GS.bin {ins : List Inp} {k : Nat} {w : Bool} {a b : Sde} (ga : GS ins k a) (gb : GS ins k b) : GS ins (k + 1) (.bin w a b) :=
  ⟨by simp only [isSideB, ga.1, gb.1, Bool.and_self], ⟨ga.2.1, gb.2.1⟩, by have := ga.2.2; have := gb.2.2; simp only [Sde.dep]; omega⟩
/-- a claim that does -/
def GC (ins : List Inp) (c : Clm) : Prop := isClaimB ins c = true ∧ c.ok
theorem GC.two {ins : List Inp} {w : Str} {a b : Sde} (hw : w = "same" ∨ w = "less") (ga : GS ins 4 a) (gb : GS ins 4 b) : GC ins (.two w a b) := by
  refine ⟨?_, ⟨ga.2.1, by have := ga.2.2; omega⟩, gb.2.1, by have := gb.2.2; omega⟩
  have : decide (w ∈ (["same", "less"] : List Str)) = true := by rcases hw with rfl | rfl <;> decide
  rw [isClaimB, this, ga.1, gb.1]; rfl
end
set_option maxRecDepth 100000
set_option maxHeartbeats 4000000
section
open PySem PySem.Spec PyProof.Rows L2
local macro_rules | `(tactic| walk_at "heap2") => `(tactic| first | exact hG_a | exact hG_b (by assumption) | (refine (hG_ne (by first | assumption | exact Ne.symm (by assumption)) (by first | assumption | exact Ne.symm (by assumption))).trans ?_; walk_at "heap") | (refine Le.at (by assumption) ?_; walk_at "heap") | (refine LeX.at (by assumption) (by first | assumption | exact Ne.symm (by assumption)) ?_; walk_at "heap"))
local macro_rules | `(tactic| walk_at "le") => `(tactic| first | exact Le.refl _ | assumption | (refine Le.trans ?_ (by assumption); walk_at "le") | (refine Le.push ?_ (by assumption); walk_at "le") | (refine hG_le ?_; walk_at "le"))
local macro_rules | `(tactic| walk_at "own") => `(tactic| first
  | ((with_reducible refine newHN (by assumption) ?_); intro x0 x1 x2 x3 x6 x4 x5)
  | ((with_reducible refine newK ?_); intro x0 x1 x2 x3 x4)
  | ((with_reducible refine' nextH (by assumption) (by assumption) ?k1 ?_); (case k1 => (first | (constructor <;> omega) | (simp only [List.length_map, List.length_append, List.length_take, List.length_drop]; constructor <;> omega)))))
local macro_rules | `(tactic| walk_at "pre") => `(tactic| first
  | ((with_reducible refine' c_in_i2 ?k1 ?_); (case k1 => walk_at "heap"))
  | ((with_reducible refine' c_in_i3 ?k1 ?_); (case k1 => walk_at "heap"))
  | ((with_reducible refine' c_in_s2 ?k1 ?_); (case k1 => walk_at "heap"))
  | ((with_reducible refine' c_in_s3 ?k1 ?_); (case k1 => walk_at "heap"))
  | ((with_reducible refine' x_pickI ?k1 ?k2 ?_); (case k1 => walk_at "heap"); (case k2 => (simp only [List.length_map]; constructor <;> omega)))
  | ((with_reducible refine' x_last ?k1 ?k2 ?_); (case k1 => walk_at "heap"); (case k2 => omega))
  | ((with_reducible refine' x_pick2 ?k1 ?k2 ?_); (case k1 => walk_at "heap"); (case k2 => (constructor <;> omega)))
  | ((with_reducible refine' x_pick2s ?k1 ?k2 ?_); (case k1 => walk_at "heap"); (case k2 => (constructor <;> omega)))
  | ((with_reducible refine' x_pick3 ?k1 ?k2 ?_); (case k1 => walk_at "heap"); (case k2 => (constructor <;> omega)))
  | ((with_reducible refine' x_pick4 ?k1 ?k2 ?_); (case k1 => walk_at "heap"); (case k2 => (constructor <;> omega)))
  | ((with_reducible refine' m_appN ?k1 (by assumption) (by assumption) (by assumption) ?k5 ?k6 ?_); (case k1 => walk_at "heap"); (case k5 => walk_at "le"); (case k6 => (simp only [List.length_map, List.length_append, List.length_cons, List.length_nil, List.length_take, List.length_drop, sizeLine_eq]; omega)); intro x0 x1 x2 x3)
  | ((with_reducible refine' sl_dL ?k1 ?k2 ?_); (case k1 => walk_at "heap"); (case k2 => (simp only [List.length_map, List.length_append, List.length_cons, List.length_nil, List.length_take, List.length_drop]; constructor <;> omega)))
  | ((with_reducible refine' sl_tL ?k1 ?k2 ?_); (case k1 => walk_at "heap"); (case k2 => (simp only [List.length_map, List.length_append, List.length_cons, List.length_nil, List.length_take, List.length_drop]; constructor <;> omega)))
  | ((with_reducible refine' o_rep1 ?k2 ?_); (case k2 => (constructor <;> omega)))
  | ((with_reducible refine' sl_dT ?k2 ?_); (case k2 => (simp only [List.length_map, List.length_append, List.length_cons, List.length_nil, List.length_take, List.length_drop]; constructor <;> omega)))
  | ((with_reducible refine' sl_tT ?k2 ?_); (case k2 => (simp only [List.length_map, List.length_append, List.length_cons, List.length_nil, List.length_take, List.length_drop]; constructor <;> omega)))
  | ((with_reducible refine' o_addL ?k1 ?k2 ?k3 ?_); (case k1 => walk_at "heap"); (case k2 => walk_at "heap"); (case k3 => (simp only [List.length_map, List.length_append, List.length_cons, List.length_nil, List.length_take, List.length_drop, sizeLine_eq]; omega))))
/-! ### a handbook -/
/-- a handbook that does -/
structure GB (most : Int) (b : Bk) : Prop where
  gi : GIn most b.ins
  dl : b.ds.length ≤ 38
  dg : ∀ d ∈ b.ds, GD b.ins d
  cl : b.cs.length ≤ 8
  cg : ∀ c ∈ b.cs, GC b.ins c
/-! ### good handbooks are let by -/
theorem GB.ok {most : Int} {b : Bk} (g : GB most b) : b.ok :=
  ⟨g.gi.ok, by have := g.gi.len4; omega, fun i hi => by have := goodN.len (g.gi.nm i hi); omega, fun d hd => (g.dg d hd).2, fun c hc => (g.cg c hc).2⟩
end
set_option maxRecDepth 100000
set_option maxHeartbeats 4000000
section
open PySem PySem.Spec PyProof.Rows L2
/-- 23: deeds.with_slides(0 machine, 1 stand, 2 number) -/
def B_deeds_with_slides : Sms :=
  (.cons (.ret (.bin .Add (.tup (.cons (.call 5 (.cons (.ix (.var 0) (.int 0)) (.cons (.var 2) (.cons (.ix (.var 0) (.int 1)) .nil)))) .nil)) (.slc (.var 1) (.some (.int 1)) .none)))
  .nil)
/-- 138: working.Worker.__init__(0 self, 1 machine, 2 values) -/
def B_working_Worker_init__ : Sms :=
  (.cons (.asg (.att (.var 0) "Worker" "machine") (.var 1))
  (.cons (.asg (.att (.var 0) "Worker" "given") (.var 2))
  (.cons (.asg (.att (.var 0) "Worker" "stand") (.call 3 (.cons (.var 1) .nil)))
  .nil)))
/-- 139: working.Worker.turn(0 self, 1 way, 2 tally, 3 rang) -/
def B_working_Worker_turn : Sms :=
  (.cons (.asg (.tup (.cons (.att (.var 0) "Worker" "stand") (.cons (.name 3) .nil))) (.call 22 (.cons (.fld (.var 0) "Worker" "machine") (.cons (.fld (.var 0) "Worker" "stand") (.cons (.var 1) (.cons (.var 2) .nil))))))
  (.cons (.ret (.var 3))
  .nil))
/-- 140: working.Worker.setting(0 self) -/
def B_working_Worker_setting : Sms :=
  (.cons (.ret (.call 4 (.cons (.ix (.fld (.var 0) "Worker" "machine") (.int 0)) (.cons (.ix (.fld (.var 0) "Worker" "stand") (.int 0)) .nil))))
  .nil)
/-- 141: working.Worker.until_bell(0 self, 1 tally, 2 more) -/
def B_working_Worker_until_bell : Sms :=
  (.cons (.whl (.nt (.mth "Worker" "turn" 139 (.var 0) (.cons (.neg (.int 1)) (.cons (.var 1) .nil))))
  (.cons (.ifs (.cmp .GtE (.bin .Add (.mth "Worker" "setting" 140 (.var 0) .nil) (.var 2)) (.call 6 (.cons (.ix (.fld (.var 0) "Worker" "machine") (.int 0)) (.cons (.ix (.fld (.var 0) "Worker" "machine") (.int 1)) .nil))))
  (.cons (.ret (.bl false))
  .nil)
  .nil)
  (.cons (.asg (.att (.var 0) "Worker" "stand") (.call 23 (.cons (.fld (.var 0) "Worker" "machine") (.cons (.fld (.var 0) "Worker" "stand") (.cons (.bin .Add (.mth "Worker" "setting" 140 (.var 0) .nil) (.var 2)) .nil)))))
  .nil)))
  (.cons (.exp (.mth "Worker" "turn" 139 (.var 0) (.cons (.int 1) (.cons (.bin .Sub (.int 0) (.var 1)) .nil))))
  (.cons (.ret (.bl true))
  .nil)))
/-- 142: working.Worker.do(0 self, 1 deed, 2 word, 3 k) -/
def B_working_Worker_do : Sms :=
  (.cons (.asg (.name 2) (.ix (.var 1) (.int 0)))
  (.cons (.ifs (.cmp .Eq (.var 2) (.str "load"))
  (.cons (.asg (.att (.var 0) "Worker" "stand") (.call 23 (.cons (.fld (.var 0) "Worker" "machine") (.cons (.fld (.var 0) "Worker" "stand") (.cons (.ix (.fld (.var 0) "Worker" "given") (.ix (.var 1) (.int 1))) .nil)))))
  .nil)
  (.cons (.ifs (.cmp .Eq (.var 2) (.str "one"))
  (.cons (.asg (.att (.var 0) "Worker" "stand") (.call 23 (.cons (.fld (.var 0) "Worker" "machine") (.cons (.fld (.var 0) "Worker" "stand") (.cons (.int 1) .nil)))))
  .nil)
  (.cons (.ifs (.cmp .Eq (.var 2) (.str "turn"))
  (.cons (.exp (.mth "Worker" "turn" 139 (.var 0) (.cons (.ix (.var 1) (.int 1)) (.cons (.ix (.var 1) (.int 2)) .nil))))
  .nil)
  (.cons (.ifs (.cmp .Eq (.var 2) (.str "turns"))
  (.cons (.fors (.name 3) (.rng (.ix (.call 5 (.cons (.ix (.fld (.var 0) "Worker" "machine") (.int 0)) (.cons (.ix (.fld (.var 0) "Worker" "given") (.ix (.var 1) (.int 1))) (.cons (.bin .Add (.ix (.var 1) (.int 2)) (.int 1)) .nil)))) (.neg (.int 1))))
  (.cons (.exp (.mth "Worker" "turn" 139 (.var 0) (.cons (.ix (.var 1) (.int 3)) (.cons (.ix (.var 1) (.int 4)) .nil))))
  .nil))
  .nil)
  (.cons (.ifs (.cmp .Eq (.var 2) (.str "wipe"))
  (.cons (.asg (.att (.var 0) "Worker" "stand") (.call 24 (.cons (.fld (.var 0) "Worker" "stand") (.cons (.ix (.var 1) (.int 1)) .nil))))
  .nil)
  (.cons (.ifs (.cmp .Eq (.var 2) (.str "shift"))
  (.cons (.ret (.mth "Worker" "shift" 143 (.var 0) (.cons (.ix (.var 1) (.int 1)) .nil)))
  .nil)
  (.cons (.ifs (.cmp .Eq (.var 2) (.str "bell"))
  (.cons (.ret (.boo .And (.cons (.cmp .Gt (.mth "Worker" "setting" 140 (.var 0) .nil) (.int 0)) (.cons (.mth "Worker" "until_bell" 141 (.var 0) (.cons (.ix (.var 1) (.int 1)) (.cons (.int 0) .nil))) .nil))))
  .nil)
  (.cons (.ret (.mth "Worker" "until_bell" 141 (.var 0) (.cons (.ix (.var 1) (.int 1)) (.cons (.int 2) .nil))))
  .nil))
  .nil))
  .nil))
  .nil))
  .nil))
  .nil))
  .nil))
  (.cons (.ret (.bl true))
  .nil)))
/-- 143: working.Worker.shift(0 self, 1 by, 2 found) -/
def B_working_Worker_shift : Sms :=
  (.cons (.asg (.name 2) (.call 25 (.cons (.fld (.var 0) "Worker" "machine") (.cons (.fld (.var 0) "Worker" "stand") (.cons (.bin .Add (.ix (.fld (.var 0) "Worker" "stand") (.int 1)) (.var 1)) .nil)))))
  (.cons (.ifs (.cmp .Is (.var 2) .non)
  (.cons (.ret (.bl false))
  .nil)
  .nil)
  (.cons (.asg (.att (.var 0) "Worker" "stand") (.var 2))
  (.cons (.ret (.bl true))
  .nil))))
/-! ### the machine on numbers -/
structure Nu where
  w : Int
  c : Int
  s : Int
  p : Int
structure Nu.ok (m : Mc) (n : Nu) : Prop where
  w0 : 0 ≤ n.w
  w1 : n.w < m.b ^ m.w.toNat
  c0 : 0 ≤ n.c
  c1 : n.c < m.b ^ m.c.toNat
  s0 : 0 ≤ n.s
  s1 : n.s < m.b ^ m.s.toNat
  p0 : 0 ≤ n.p
  p1 : n.p ≤ lastN m
def sdOf (m : Mc) (n : Nu) : Sd := ⟨figsOf m.b n.s m.s.toNat, n.p, figsOf m.b n.w m.w.toNat, figsOf m.b n.c m.c.toNat⟩
def foundU (m : Mc) (n : Nu) (way : Int) : Int := n.w + way * (n.s * m.b ^ n.p.toNat)
def turnU (m : Mc) (n : Nu) (way t : Int) : Nu := ⟨foundU m n way % m.b ^ m.w.toNat, (n.c + t * m.b ^ n.p.toNat) % m.b ^ m.c.toNat, n.s, n.p⟩
def bellU (m : Mc) (n : Nu) (way : Int) : Bool := !(decide (0 ≤ foundU m n way) && decide (foundU m n way < m.b ^ m.w.toNat))
section
variable {m : Mc} {n : Nu}
theorem bpos (ok : m.ok) (k : Nat) : 0 < m.b ^ k := Int.pow_pos (by have := ok.b2; omega)
theorem last_le (m : Mc) : lastN m ≤ m.w - m.s ∧ lastN m ≤ m.c - 1 := by unfold lastN; split <;> omega
theorem sdOf_ok (ok : m.ok) (no : n.ok m) : (sdOf m n).ok m := by
  have h := last_le m
  have b2 := ok.b2
  exact ⟨figsOf_len _ _ _, figsOf_len _ _ _, figsOf_len _ _ _, figsOf_digs (by omega) _ _, figsOf_digs (by omega) _ _, figsOf_digs (by omega) _ _, no.p0, by have := no.p1; show n.p ≤ _; omega, by have := no.p1; show n.p ≤ _; omega⟩
theorem told_w (ok : m.ok) (no : n.ok m) : toldN m.b (figsOf m.b n.w m.w.toNat) = n.w := told_figs ok.b2 _ _ no.w0 no.w1
theorem told_c (ok : m.ok) (no : n.ok m) : toldN m.b (figsOf m.b n.c m.c.toNat) = n.c := told_figs ok.b2 _ _ no.c0 no.c1
theorem told_s (ok : m.ok) (no : n.ok m) : toldN m.b (figsOf m.b n.s m.s.toNat) = n.s := told_figs ok.b2 _ _ no.s0 no.s1
theorem turnN_U (ok : m.ok) (no : n.ok m) (way : Int) : turnN m (sdOf m n) way = foundU m n way := by
  unfold turnN sdOf
  simp only []
  rw [told_w ok no, told_s ok no]; rfl
theorem tallyN_U (ok : m.ok) (no : n.ok m) (t : Int) : tallyN m (sdOf m n) t = n.c + t * m.b ^ n.p.toNat := by
  unfold tallyN sdOf
  simp only []
  rw [told_c ok no]
theorem turnS_U (ok : m.ok) (no : n.ok m) (way t : Int) : turnS m (sdOf m n) way t = sdOf m (turnU m n way t) := by
  unfold turnS
  rw [turnN_U ok no, tallyN_U ok no]; rfl
theorem bellN_U (ok : m.ok) (no : n.ok m) (way : Int) : bellN m (turnN m (sdOf m n) way) = bellU m n way := by
  rw [turnN_U ok no]; rfl
theorem turnU_ok (ok : m.ok) (no : n.ok m) (way t : Int) : (turnU m n way t).ok m := by
  have a := bpos ok m.w.toNat
  have b := bpos ok m.c.toNat
  exact ⟨Int.emod_nonneg _ (by omega), Int.emod_lt_of_pos _ a, Int.emod_nonneg _ (by omega), Int.emod_lt_of_pos _ b, no.s0, no.s1, no.p0, no.p1⟩
theorem set_ok (no : n.ok m) {v : Int} (h : 0 ≤ v ∧ v < m.b ^ m.s.toNat) : Nu.ok m { n with s := v } := ⟨no.w0, no.w1, no.c0, no.c1, h.1, h.2, no.p0, no.p1⟩
end
def zeroU : Nu := ⟨0, 0, 0, 0⟩
theorem last_nn {m : Mc} (ok : m.ok) : 0 ≤ lastN m := by
  obtain ⟨b2, b12, s1, s6, sw, w16, c1, c10⟩ := ok
  unfold lastN; split <;> omega
theorem zeroU_ok {m : Mc} (ok : m.ok) : zeroU.ok m := ⟨Int.le_refl _, bpos ok _, Int.le_refl _, bpos ok _, Int.le_refl _, bpos ok _, Int.le_refl _, last_nn ok⟩
theorem figs_zero (b : Int) : ∀ k : Nat, figsOf b 0 k = zs k
  | 0 => rfl
  | k + 1 => by
    show (0 % b) :: figsOf b (0 / b) k = 0 :: zs k
    rw [Int.zero_emod, Int.zero_ediv, figs_zero b k]
theorem nought_U (m : Mc) : noughtS m = sdOf m zeroU := by
  unfold sdOf zeroU noughtS
  simp only []
  rw [figs_zero, figs_zero, figs_zero]
/-- taken away until the bell -/
def untilU (m : Mc) (t more : Int) : Nat → Nu → Option (Nu × Bool)
  | 0, _ => none
  | f + 1, n => if bellU m n (-1) = true then some (turnU m (turnU m n (-1) t) 1 (0 - t), true)
    else if n.s + more ≥ m.b ^ m.s.toNat then some (turnU m n (-1) t, false)
    else untilU m t more f { turnU m n (-1) t with s := n.s + more }
def turnsU (m : Mc) (way t : Int) : Nat → Nu → Nu
  | 0, n => n
  | k + 1, n => turnU m (turnsU m way t k n) way t
abbrev Vs := List (Str × Int)
/-- a deed; true where it could be done -/
def doU (m : Mc) (vs : Vs) (f : Nat) : Bd → Nu → Option (Nu × Bool)
  | .load x, n => (vs.lookup x).map fun v => ({ n with s := v }, true)
  | .one, n => some ({ n with s := 1 }, true)
  | .turn w t, n => some (turnU m n w t, true)
  | .turns x k w t, n => (vs.lookup x).map fun v => (turnsU m w t (v / m.b ^ k.toNat % m.b).toNat n, true)
  | .wipe w, n => if w = "wheels" then some ({ n with w := 0 }, true) else some ({ n with c := 0 }, true)
  | .shift b, n => if 0 ≤ n.p + b ∧ n.p + b ≤ lastN m then some ({ n with p := n.p + b }, true) else some (n, false)
  | .bell t, n => if n.s > 0 then untilU m t 0 f n else some (n, false)
  | .odds t, n => untilU m t 2 f n
  | .bad _ _, _ => none
/-! ### the program's worker -/
def dkD (vs : Vs) : List (Key × D) := vs.map fun x => (.inr x.1, .int x.2)
theorem val_dk (vs : Vs) (x : Str) : valD (dkD vs) (.inr x) = (vs.lookup x).map .int := Dl.unQ (by
 simp (disch := with_unfolding_all
  refine @id _ ?_
  unfold valD dkD
  induction vs with
  | nil => rfl
  | cons y ys ih =>
    obtain ⟨k, v⟩ := y
    rw [List.map_cons, List.find?_cons, List.lookup_cons]
    by_cases h : x = k
    · subst h
      simp
    · have h1 : (x == k) = false := by simpa using h
      have h2 : decide ((.inr k : Key) = .inr x) = false := by
        refine decide_eq_false fun e => h ?_
        injection e with e
        exact e.symm
      rw [h1, h2]
      exact ih
 ) only [↓Dl.qTrue])
abbrev wkO (m : Mc) (g : Addr) (s : Sd) : GO := .ins "Worker" [("machine", mD m), ("given", .ref g), ("stand", sD s)]
section
variable {G : GH} {p g : Addr} {m : Mc} {P : GH → Prop}
theorem at_machine (h : G p = some (.ins "Worker" [])) (q : P (gup G p (.ins "Worker" [("machine", mD m)]))) : attD "Worker" "machine" (.ref p) (mD m) G P := f_att h (by decide) q
theorem at_given (h : G p = some (.ins "Worker" [("machine", mD m)])) (q : P (gup G p (.ins "Worker" [("machine", mD m), ("given", .ref g)]))) : attD "Worker" "given" (.ref p) (.ref g) G P := f_att h (by show 1 < 1000; decide) q
theorem at_stand0 {s : Sd} (h : G p = some (.ins "Worker" [("machine", mD m), ("given", .ref g)])) (q : P (gup G p (wkO m g s))) : attD "Worker" "stand" (.ref p) (sD s) G P := f_att h (by show 2 < 1000; decide) q
theorem at_stand {s s' : Sd} (h : G p = some (wkO m g s)) (q : P (gup G p (wkO m g s'))) : attD "Worker" "stand" (.ref p) (sD s') G P := f_att h (by show 3 < 1000; decide) q
end
local macro_rules | `(tactic| walk_at "pre") => `(tactic| first
  | ((with_reducible refine sl_41 ?_))
  | ((with_reducible refine' at_machine ?k1 ?_); (case k1 => walk_at "heap"))
  | ((with_reducible refine' at_given ?k1 ?_); (case k1 => walk_at "heap"))
  | ((with_reducible refine' at_stand0 ?k1 ?_); (case k1 => walk_at "heap"))
  | ((with_reducible refine' at_stand ?k1 ?_); (case k1 => walk_at "heap")))
theorem iteI1 {c : Prop} {i : Decidable c} {A B : Prop} (h : c) (q : A) : @ite Prop c i A B := by rw [if_pos h]; exact q
theorem iteI0 {c : Prop} {i : Decidable c} {A B : Prop} (h : ¬ c) (q : B) : @ite Prop c i A B := by rw [if_neg h]; exact q
def spWith : Spec := fun ds G Q _ => ∃ (m : Mc) (s : Sd) (v : Int), ds = [mD m, sD s, .int v] ∧ m.ok ∧ Q (sD { s with set := figsOf m.b v m.s.toNat }) G
theorem meet_with (Δ : Nat → Option Spec) (Γ : Gam) (h5 : Δ 5 = some spFigs) : Meet Δ Γ 3 3 B_deeds_with_slides spWith := Dl.unQ (by
 simp (disch := with_unfolding_all
  refine @id _ ?_
  intro ds G Q E _ h
  obtain ⟨m, s, v, rfl, ok, q⟩ := h
  obtain ⟨b2, b12, s1, s6, sw, w16, c1, c10⟩ := ok
  show wpSs _ _ _ _ [some (mD m), some (sD s), some (.int v)] G
  unfold B_deeds_with_slides
  walk_at "w"
  refine figs_i ⟨b2, b12, by omega, by omega⟩ ?_
  walk_at "w"
  exact wk.of q
 ) only [↓Dl.qTrue])
theorem with_i {m : Mc} {s : Sd} {v : Int} {G : GH} {Q : QD} {E : XD} (ok : m.ok) (q : Q (sD { s with set := figsOf m.b v m.s.toNat }) G) : spWith [mD m, sD s, .int v] G Q E := ⟨m, s, v, rfl, ok, q⟩
def spWInit : Spec := fun ds G Q _ => ∃ (p g : Addr) (m : Mc), ds = [.ref p, mD m, .ref g] ∧ G p = some (.ins "Worker" []) ∧ m.ok ∧ Q .non (gup G p (wkO m g (noughtS m)))
theorem noughts_i2 {m : Mc} {G : GH} {Q : QD} {E : XD} (ok : m.ok) (q : Q (sD (noughtS m)) G) : spNoughts [mD m] G Q E := ⟨m, rfl, ok, q⟩
theorem meet_wInit (Δ : Nat → Option Spec) (Γ : Gam) (h3 : Δ 3 = some spNoughts) : Meet Δ Γ 3 3 B_working_Worker_init__ spWInit := Dl.unQ (by
 simp (disch := with_unfolding_all
  refine @id _ ?_
  intro ds G Q E _ h
  obtain ⟨p, g, m, rfl, hp, ok, q⟩ := h
  show wpSs _ _ _ _ [some (.ref p), some (mD m), some (.ref g)] G
  unfold B_working_Worker_init__
  walk_at "w"
  refine noughts_i2 ok ?_
  walk_at "w"
  rw [gup_gup, gup_gup]
  exact wk.of q
 ) only [↓Dl.qTrue])
def spWTurn : Spec := fun ds G Q _ => ∃ (p g : Addr) (m : Mc) (n : Nu) (way t : Int), ds = [.ref p, .int way, .int t] ∧ G p = some (wkO m g (sdOf m n)) ∧ m.ok ∧ n.ok m ∧ (way = 1 ∨ way = -1) ∧ (-1 ≤ t ∧ t ≤ 1) ∧ Q (.bl (bellU m n way)) (gup G p (wkO m g (sdOf m (turnU m n way t))))
theorem meet_wTurn (Δ : Nat → Option Spec) (Γ : Gam) (h22 : Δ 22 = some spCrank) : Meet Δ Γ 4 3 B_working_Worker_turn spWTurn := Dl.unQ (by
 simp (disch := with_unfolding_all
  refine @id _ ?_
  intro ds G Q E _ h
  obtain ⟨p, g, m, n, way, t, rfl, hp, ok, no, hw, ht, q⟩ := h
  show wpSs _ _ _ _ [some (.ref p), some (.int way), some (.int t), none] G
  unfold B_working_Worker_turn
  walk_at "w"
  refine crank_i ok (sdOf_ok ok no) hw ht ?_
  rw [turnS_U ok no, bellN_U ok no]
  walk_at "w"
  exact wk.of q
 ) only [↓Dl.qTrue])
theorem wTurn_i {p g : Addr} {m : Mc} {n : Nu} {way t : Int} {G : GH} {Q : QD} {E : XD} (hp : G p = some (wkO m g (sdOf m n))) (ok : m.ok) (no : n.ok m) (hw : way = 1 ∨ way = -1) (ht : -1 ≤ t ∧ t ≤ 1)
    (q : Q (.bl (bellU m n way)) (gup G p (wkO m g (sdOf m (turnU m n way t))))) : spWTurn [.ref p, .int way, .int t] G Q E := ⟨p, g, m, n, way, t, rfl, hp, ok, no, hw, ht, q⟩
def spWSet : Spec := fun ds G Q _ => ∃ (p g : Addr) (m : Mc) (n : Nu), ds = [.ref p] ∧ G p = some (wkO m g (sdOf m n)) ∧ m.ok ∧ n.ok m ∧ Q (.int n.s) G
theorem meet_wSet (Δ : Nat → Option Spec) (Γ : Gam) (h4 : Δ 4 = some spTold) : Meet Δ Γ 1 1 B_working_Worker_setting spWSet := Dl.unQ (by
 simp (disch := with_unfolding_all
  refine @id _ ?_
  intro ds G Q E _ h
  obtain ⟨p, g, m, n, rfl, hp, ok, no, q⟩ := h
  show wpSs _ _ _ _ [some (.ref p)] G
  unfold B_working_Worker_setting
  walk_at "w"
  refine told_i ⟨ok.b2, ok.b12⟩ ?_
  rw [show toldN m.b (sdOf m n).set = n.s from told_s ok no]
  walk_at "w"
  exact wk.of q
 ) only [↓Dl.qTrue])
theorem wSet_i {p g : Addr} {m : Mc} {n : Nu} {G : GH} {Q : QD} {E : XD} (hp : G p = some (wkO m g (sdOf m n))) (ok : m.ok) (no : n.ok m) (q : Q (.int n.s) G) : spWSet [.ref p] G Q E := ⟨p, g, m, n, rfl, hp, ok, no, q⟩
def spWUntil : Spec := fun ds G Q _ => ∃ (p g : Addr) (m : Mc) (n n' : Nu) (t more : Int) (r : Bool) (f : Nat), ds = [.ref p, .int t, .int more] ∧ G p = some (wkO m g (sdOf m n)) ∧ m.ok ∧ n.ok m ∧ (-1 ≤ t ∧ t ≤ 1) ∧ 0 ≤ more ∧ untilU m t more f n = some (n', r) ∧
  Q (.bl r) (gup G p (wkO m g (sdOf m n')))
theorem meet_wUntil (Δ : Nat → Option Spec) (Γ : Gam) (h139 : Δ 139 = some spWTurn) (h140 : Δ 140 = some spWSet) (h6 : Δ 6 = some spPower) (h23 : Δ 23 = some spWith) : Meet Δ Γ 3 3 B_working_Worker_until_bell spWUntil := Dl.unQ (by
 simp (disch := with_unfolding_all
  refine @id _ ?_
  intro ds G Q E _ h
  obtain ⟨p, g, m, n, n', t, more, r, f, rfl, hp, ok, no, ht, hm, hu, q⟩ := h
  show wpSs _ _ _ _ [some (.ref p), some (.int t), some (.int more)] G
  unfold B_working_Worker_until_bell
  have ⟨b2, b12, s1, s6, sw, w16, c1, c10⟩ := ok
  walk_at "w"
  refine whlW.mk (fun f σ G' => ∃ n G2, σ = [some (.ref p), some (.int t), some (.int more)] ∧ G' = gup G2 p (wkO m g (sdOf m n)) ∧ (∀ o, gup G2 p o = gup G p o) ∧ n.ok m ∧ untilU m t more f n = some (n', r)) f ⟨n, G, rfl, ?_, fun _ => rfl, no, hu⟩ ?_
  · funext x
    by_cases e : x = p
    · subst e; rw [gup_same]; exact hp
    · rw [gup_ne e]
  rintro f σ G' ⟨n, G2, rfl, rfl, hG, no, hu⟩
  cases f with
  | zero => cases hu
  | succ f =>
    unfold untilU at hu
    walk_at "w"
    refine wTurn_i gup_same ok no (.inr rfl) ht ?_
    rw [gup_gup]
    walk_at "w"
    cases eb : bellU m n (-1) with
    | true =>
      rw [if_pos eb] at hu
      cases hu
      walk_at "w"
      refine wTurn_i gup_same ok (turnU_ok ok no _ _) (.inl rfl) (by omega) ?_
      rw [gup_gup]
      walk_at "w"
      rw [hG]
      exact wk.of q
    | false =>
      rw [if_neg (by rw [eb]; exact Bool.false_ne_true)] at hu
      walk_at "w"
      refine wSet_i gup_same ok (turnU_ok ok no _ _) ?_
      walk_at "w"
      refine power_i ⟨by omega, b12, by omega, by omega⟩ ?_
      walk_at "w"
      refine ite_d (fun a => ?_) (fun a => ?_)
      · rw [if_pos (show n.s + more ≥ m.b ^ m.s.toNat from a)] at hu
        cases hu
        walk_at "w"
        rw [hG]
        exact wk.of q
      · rw [if_neg (show ¬ n.s + more ≥ m.b ^ m.s.toNat from a)] at hu
        walk_at "w"
        refine wSet_i gup_same ok (turnU_ok ok no _ _) ?_
        walk_at "w"
        refine with_i ok ?_
        walk_at "w"
        rw [gup_gup]
        have a' : ¬ n.s + more ≥ m.b ^ m.s.toNat := a
        exact wk.of ⟨f, by omega, { turnU m n (-1) t with s := n.s + more }, G2, rfl, rfl, hG, set_ok (v := n.s + more) (turnU_ok ok no _ _) ⟨by have := no.s0; omega, by omega⟩, hu⟩
 ) only [↓Dl.qTrue])
theorem wUntil_i {p g : Addr} {m : Mc} {n n' : Nu} {t more : Int} {r : Bool} {f : Nat} {G : GH} {Q : QD} {E : XD} (hp : G p = some (wkO m g (sdOf m n))) (ok : m.ok) (no : n.ok m) (ht : -1 ≤ t ∧ t ≤ 1) (hm : 0 ≤ more) (hu : untilU m t more f n = some (n', r))
    (q : Q (.bl r) (gup G p (wkO m g (sdOf m n')))) : spWUntil [.ref p, .int t, .int more] G Q E := ⟨p, g, m, n, n', t, more, r, f, rfl, hp, ok, no, ht, hm, hu, q⟩
theorem untilU_ok {m : Mc} (ok : m.ok) {t more : Int} (hm : 0 ≤ more) : ∀ {f : Nat} {n n' : Nu} {r : Bool}, n.ok m → untilU m t more f n = some (n', r) → n'.ok m
  | 0, n, n', r, _, h => by cases h
  | f + 1, n, n', r, no, h => by
    unfold untilU at h
    split at h
    · cases h; exact turnU_ok ok (turnU_ok ok no _ _) _ _
    · split at h
      · cases h; exact turnU_ok ok no _ _
      · exact untilU_ok ok hm (set_ok (v := n.s + more) (turnU_ok ok no _ _) ⟨by have := no.s0; omega, by omega⟩) h
theorem turnsU_ok {m : Mc} (ok : m.ok) (w t : Int) {n : Nu} (no : n.ok m) : ∀ k, (turnsU m w t k n).ok m
  | 0 => no
  | k + 1 => turnU_ok ok (turnsU_ok ok w t no k) _ _
/-- the heap with what stands there already -/
theorem gup_id {G : GH} {p : Addr} {o : GO} (h : G p = some o) : gup G p o = G := Dl.unQ (by
 simp (disch := with_unfolding_all
  refine @id _ ?_
  funext x
  by_cases e : x = p
  · subst e; rw [gup_same]; exact h.symm
  · rw [gup_ne e]
 ) only [↓Dl.qTrue])
def spWShift : Spec := fun ds G Q _ => ∃ (p g : Addr) (m : Mc) (n : Nu) (b : Int), ds = [.ref p, .int b] ∧ G p = some (wkO m g (sdOf m n)) ∧ m.ok ∧
  (0 ≤ n.p + b ∧ n.p + b ≤ lastN m → Q (.bl true) (gup G p (wkO m g (sdOf m { n with p := n.p + b })))) ∧ (¬ (0 ≤ n.p + b ∧ n.p + b ≤ lastN m) → Q (.bl false) G)
theorem meet_wShift (Δ : Nat → Option Spec) (Γ : Gam) (h25 : Δ 25 = some spAt) : Meet Δ Γ 3 2 B_working_Worker_shift spWShift := Dl.unQ (by
 simp (disch := with_unfolding_all
  refine @id _ ?_
  intro ds G Q E _ h
  obtain ⟨p, g, m, n, b, rfl, hp, ok, q1, q2⟩ := h
  show wpSs _ _ _ _ [some (.ref p), some (.int b), none] G
  unfold B_working_Worker_shift
  walk_at "w"
  refine at_i ok (fun h => ?_) (fun h => ?_)
  · walk_at "w"
    refine iteI0 (show ¬ (D.isNon (sD { sdOf m n with p := (sdOf m n).p + b })) = true by simp [D.isNon]) ?_
    walk_at "w"
    exact wk.of (q1 h)
  · walk_at "w"
    refine iteI1 (show (D.isNon .non) = true from rfl) ?_
    walk_at "w"
    exact wk.of (q2 h)
 ) only [↓Dl.qTrue])
/-- what a deed asks -/
def DP (m : Mc) (vs : Vs) : Bd → Prop
  | .load x => ∃ v, vs.lookup x = some v ∧ 0 ≤ v ∧ v < m.b ^ m.s.toNat
  | .one => True
  | .shift _ => True
  | .turn w t => (w = 1 ∨ w = -1) ∧ -1 ≤ t ∧ t ≤ 1
  | .turns x k w t => ∃ v, vs.lookup x = some v ∧ 0 ≤ v ∧ 0 ≤ k ∧ k ≤ 10 ∧ (w = 1 ∨ w = -1) ∧ -1 ≤ t ∧ t ≤ 1
  | .wipe w => w = "wheels" ∨ w = "counts"
  | .bell t => -1 ≤ t ∧ t ≤ 1
  | .odds t => -1 ≤ t ∧ t ≤ 1
  | .bad _ _ => False
theorem one_lt {m : Mc} (ok : m.ok) : (1 : Int) < m.b ^ m.s.toNat := Dl.unQ (by
 simp (disch := with_unfolding_all
  refine @id _ ?_
  obtain ⟨b2, b12, s1, s6, sw, w16, c1, c10⟩ := ok
  obtain ⟨k, hk⟩ : ∃ k, m.s.toNat = k + 1 := ⟨m.s.toNat - 1, by omega⟩
  rw [hk, Int.pow_succ]
  have : 0 < m.b ^ k := Int.pow_pos (by omega)
  have h2 : 1 * m.b ≤ m.b ^ k * m.b := Int.mul_le_mul_of_nonneg_right (by omega) (by omega)
  omega
 ) only [↓Dl.qTrue])
theorem doU_ok {m : Mc} (ok : m.ok) {vs : Vs} {f : Nat} {d : Bd} {n n' : Nu} (no : n.ok m) (dp : DP m vs d) (h : doU m vs f d n = some (n', true)) : n'.ok m := Dl.unQ (by
 simp (disch := with_unfolding_all
  refine @id _ ?_
  cases d with
  | load x =>
    obtain ⟨v, e, h0, h1⟩ := dp
    rw [doU, e] at h
    cases h
    exact set_ok no ⟨h0, h1⟩
  | one => cases h; exact set_ok no ⟨by decide, one_lt ok⟩
  | shift b =>
    rw [doU] at h
    split at h
    · rename_i hb
      cases h
      exact ⟨no.w0, no.w1, no.c0, no.c1, no.s0, no.s1, hb.1, hb.2⟩
    · cases h
  | turn w t => cases h; exact turnU_ok ok no _ _
  | turns x k w t =>
    obtain ⟨v, e, _⟩ := dp
    rw [doU, e] at h
    cases h
    exact turnsU_ok ok w t no _
  | wipe w =>
    rw [doU] at h
    split at h
    · cases h; exact ⟨Int.le_refl _, bpos ok _, no.c0, no.c1, no.s0, no.s1, no.p0, no.p1⟩
    · cases h; exact ⟨no.w0, no.w1, Int.le_refl _, bpos ok _, no.s0, no.s1, no.p0, no.p1⟩
  | bell t =>
    rw [doU] at h
    split at h
    · exact untilU_ok ok (Int.le_refl _) no h
    · cases h
  | odds t => exact untilU_ok ok (by decide) no h
  | bad w xs => exact dp.elim
 ) only [↓Dl.qTrue])
theorem x_lastN {b v : Int} {k : Nat} (hb : 0 < b) {G : GH} {Q : QD} (q : Q (.int (v / b ^ k % b)) G) : ixD (.tup ((figsOf b v (k + 1)).map .int)) (.int (-1)) G Q := Dl.unQ (by
 simp (disch := with_unfolding_all
  refine @id _ ?_
  refine x_tup (v := .int (v / b ^ k % b)) ?_ q
  unfold atI ixN
  rw [List.length_map, figsOf_len, if_neg (by omega), if_pos (by omega)]
  show ((figsOf b v (k + 1)).map D.int)[(-1 + ((k + 1 : Nat) : Int)).toNat]? = _
  rw [show (-1 + ((k + 1 : Nat) : Int)).toNat = k by omega, List.getElem?_map, figsOf_get b hb (k + 1) k v (by omega)]
  rfl
 ) only [↓Dl.qTrue])
local macro_rules | `(tactic| walk_at "pre") => `(tactic| first
  | ((with_reducible refine' x_lastN ?k1 ?_); (case k1 => omega))
  | ((with_reducible refine sl_41 ?_))
  | ((with_reducible refine' at_stand ?k1 ?_); (case k1 => walk_at "heap")))
theorem wipe_w {m : Mc} (n : Nu) : wipeS (sdOf m n) 1 = sdOf m { n with w := 0 } := by
  unfold wipeS sdOf
  simp only [figsOf_len]
  rw [figs_zero]
theorem wipe_c {m : Mc} (n : Nu) : wipeS (sdOf m n) 2 = sdOf m { n with c := 0 } := by
  unfold wipeS sdOf
  simp only [figsOf_len]
  rw [figs_zero]
def spWDo : Spec := fun ds G Q _ => ∃ (p g : Addr) (m : Mc) (n n' : Nu) (d : Bd) (vs : Vs) (f : Nat) (r : Bool), ds = [.ref p, d.d] ∧ G p = some (wkO m g (sdOf m n)) ∧ G g = some (.dk (dkD vs)) ∧ m.ok ∧ n.ok m ∧ DP m vs d ∧ doU m vs f d n = some (n', r) ∧
  Q (.bl r) (gup G p (wkO m g (sdOf m n')))
theorem x_val {G : GH} {g : Addr} {vs : Vs} {x : Str} {v : Int} {Q : QD} (h : G g = some (.dk (dkD vs))) (e : vs.lookup x = some v) (q : Q (.int v) G) : ixD (.ref g) (.str x) G Q := x_dk (k := .inr x) h rfl (by rw [val_dk, e]; rfl) q
theorem meet_wDo (Δ : Nat → Option Spec) (Γ : Gam) (h23 : Δ 23 = some spWith) (h139 : Δ 139 = some spWTurn) (h5 : Δ 5 = some spFigs) (h24 : Δ 24 = some spWiped) (h143 : Δ 143 = some spWShift) (h140 : Δ 140 = some spWSet) (h141 : Δ 141 = some spWUntil) : Meet Δ Γ 4 2 B_working_Worker_do spWDo := Dl.unQ (by
 simp (disch := with_unfolding_all
  refine @id _ ?_
  intro ds G Q E _ h
  obtain ⟨p, g, m, n, n', d, vs, f, r, rfl, hp, hg, ok, no, dp, hd, q⟩ := h
  show wpSs _ _ _ _ [some (.ref p), some d.d, none, none] G
  unfold B_working_Worker_do
  have ⟨b2, b12, s1, s6, sw, w16, c1, c10⟩ := ok
  cases d with
  | load x =>
    obtain ⟨v, e, h0, h1⟩ := dp
    rw [doU, e] at hd
    cases hd
    walk_at "w"
    refine x_val hg e ?_
    walk_at "w"
    refine with_i ok ?_
    walk_at "w"
    exact wk.of q
  | one =>
    cases hd
    walk_at "w"
    refine with_i ok ?_
    walk_at "w"
    exact wk.of q
  | shift b =>
    walk_at "w"
    refine ⟨p, g, m, n, b, rfl, hp, ok, fun h => ?_, fun h => ?_⟩
    · rw [doU, if_pos h] at hd
      cases hd
      exact wk.of q
    · rw [doU, if_neg h] at hd
      cases hd
      rw [gup_id hp] at q
      exact wk.of q
  | turn w t =>
    cases hd
    walk_at "w"
    refine wTurn_i hp ok no dp.1 dp.2 ?_
    walk_at "w"
    exact wk.of q
  | turns x k w t =>
    obtain ⟨v, e, v0, k0, k1, hw, ht⟩ := dp
    rw [doU, e] at hd
    cases hd
    walk_at "w"
    refine x_val hg e ?_
    walk_at "w"
    refine figs_i ⟨b2, b12, by omega, by omega⟩ ?_
    rw [show (k + 1).toNat = k.toNat + 1 by omega]
    have hj0 : 0 ≤ v / m.b ^ k.toNat % m.b := Int.emod_nonneg _ (by omega)
    have hj1 : v / m.b ^ k.toNat % m.b < m.b := Int.emod_lt_of_pos _ (by omega)
    walk_at "w"
    refine forW.mk (fun i σ G' => ∃ x3, σ = [some (.ref p), some (.tup [.str "turns", .str x, .int k, .int w, .int t]), some (.str "turns"), x3] ∧ G' = gup G p (wkO m g (sdOf m (turnsU m w t i n)))) ⟨_, rfl, (gup_id hp).symm⟩ (fun _ _ _ _ => trivial) ?_ ?_
    · rintro i σ G' d ⟨x3, rfl, rfl⟩ hd
      obtain ⟨hi, rfl⟩ := rangeD_get hd
      walk_at "w"
      refine wTurn_i gup_same ok (turnsU_ok ok w t no i) hw ht ?_
      rw [gup_gup]
      walk_at "w"
      exact wk.of ⟨_, rfl, rfl⟩
    · rintro σ G' ⟨x3, rfl, rfl⟩
      rw [rangeD_len]
      walk_at "w"
      exact wk.of q
  | wipe w =>
    have ls : (sdOf m n).set.length ≤ 1000 ∧ (sdOf m n).wh.length ≤ 1000 ∧ (sdOf m n).ct.length ≤ 1000 := by
      unfold sdOf
      simp only [figsOf_len]
      omega
    walk_at "w"
    rcases dp with rfl | rfl
    · rw [doU, if_pos rfl] at hd
      cases hd
      refine ⟨sdOf m n, 1, rfl, by decide, ls.1, ls.2.1, ls.2.2, ?_⟩
      rw [wipe_w]
      walk_at "w"
      exact wk.of q
    · rw [doU, if_neg (by decide)] at hd
      cases hd
      refine ⟨sdOf m n, 2, rfl, by decide, ls.1, ls.2.1, ls.2.2, ?_⟩
      rw [wipe_c]
      walk_at "w"
      exact wk.of q
  | bell t =>
    walk_at "w"
    refine wSet_i hp ok no ?_
    walk_at "w"
    refine ite_d (fun a => ?_) (fun a => ?_)
    · rw [doU, if_pos (show n.s > 0 from a)] at hd
      walk_at "w"
      refine wUntil_i hp ok no dp (by decide) hd ?_
      exact wk.of q
    · rw [doU, if_neg (show ¬ n.s > 0 from a)] at hd
      cases hd
      rw [gup_id hp] at q
      exact wk.of q
  | odds t =>
    walk_at "w"
    refine wUntil_i hp ok no dp (by decide) hd ?_
    exact wk.of q
  | bad w xs => exact dp.elim
 ) only [↓Dl.qTrue])
theorem wDo_i {p g : Addr} {m : Mc} {n n' : Nu} {d : Bd} {vs : Vs} {f : Nat} {r : Bool} {G : GH} {Q : QD} {E : XD} (hp : G p = some (wkO m g (sdOf m n))) (hg : G g = some (.dk (dkD vs))) (ok : m.ok) (no : n.ok m) (dp : DP m vs d) (hd : doU m vs f d n = some (n', r))
    (q : Q (.bl r) (gup G p (wkO m g (sdOf m n')))) : spWDo [.ref p, d.d] G Q E := ⟨p, g, m, n, n', d, vs, f, r, rfl, hp, hg, ok, no, dp, hd, q⟩
end
set_option maxRecDepth 100000
set_option maxHeartbeats 4000000
section
open PySem PySem.Spec PyProof.Rows L2
/-- 26: working.need_values(0 machine, 1 book, 2 values, 3 one, 4 name, 5 figures, 6 least) -/
def B_working_need_values : Sms :=
  (.cons (.ifs (.cmp .NotEq (.blt .sorted (.cons (.blt .list (.cons (.var 2) .nil)) .nil)) (.blt .sorted (.cons (.comp (.ix (.var 3) (.int 0)) (.name 3) (.val (.ix (.var 1) (.int 0))) .nil [("one", 3)]) .nil)))
  (.cons (.rai0 4)
  .nil)
  .nil)
  (.cons (.fors (.tup (.cons (.name 4) (.cons (.name 5) (.cons (.name 6) .nil)))) (.val (.ix (.var 1) (.int 0)))
  (.cons (.ifs (.nt (.cmp2 .LtE .Lt (.var 6) (.ix (.var 2) (.var 4)) (.call 6 (.cons (.ix (.var 0) (.int 0)) (.cons (.var 5) .nil)))))
  (.cons (.rai0 4)
  .nil)
  .nil)
  .nil))
  .nil))
/-- 27: working.worked(0 machine, 1 book, 2 values, 3 worker, 4 number, 5 deed) -/
def B_working_worked : Sms :=
  (.cons (.exp (.call 15 (.cons (.var 0) (.cons (.var 1) .nil))))
  (.cons (.exp (.call 26 (.cons (.var 0) (.cons (.var 1) (.cons (.var 2) .nil)))))
  (.cons (.asg (.name 3) (.mk "Worker" 138 (.cons (.var 0) (.cons (.var 2) .nil))))
  (.cons (.fors (.tup (.cons (.name 4) (.cons (.name 5) .nil))) (.enu (.ix (.var 1) (.int 1)))
  (.cons (.ifs (.nt (.mth "Worker" "do" 142 (.var 3) (.cons (.var 5) .nil)))
  (.cons (.rai 5 (.cons (.var 4) .nil))
  .nil)
  .nil)
  .nil))
  (.cons (.ret (.tup (.cons (.call 4 (.cons (.ix (.var 0) (.int 0)) (.cons (.ix (.fld (.var 3) "Worker" "stand") (.int 2)) .nil))) (.cons (.call 4 (.cons (.ix (.var 0) (.int 0)) (.cons (.ix (.fld (.var 3) "Worker" "stand") (.int 3)) .nil))) .nil))))
  .nil)))))
/-! ### texts in order -/
theorem ltC_tri : ∀ a b : List Nat, ltCps a b = false → ltCps b a = false → a = b
  | [], [], _, _ => rfl
  | [], _ :: _, h, _ => by simp [ltCps] at h
  | _ :: _, [], _, h => by simp [ltCps] at h
  | x :: a, y :: b, h1, h2 => by
    simp only [ltCps, Bool.or_eq_false_iff, Bool.and_eq_false_iff, decide_eq_false_iff_not, beq_eq_false_iff_ne] at h1 h2
    have e : x = y := by omega
    subst e
    rw [ltC_tri a b (h1.2.resolve_left fun z => z rfl) (h2.2.resolve_left fun z => z rfl)]
theorem ltC_neg : ∀ a b c : List Nat, ltCps b a = false → ltCps c b = false → ltCps c a = false
  | [], _, [], _, _ => rfl
  | [], [], _ :: _, _, h => h
  | [], _ :: _, _ :: _, _, _ => by simp [ltCps]
  | _ :: _, [], _, h, _ => by simp [ltCps] at h
  | _ :: _, _ :: _, [], _, h => by simp [ltCps] at h
  | x :: a, y :: b, z :: c, h1, h2 => by
    simp only [ltCps, Bool.or_eq_false_iff, Bool.and_eq_false_iff, decide_eq_false_iff_not, beq_eq_false_iff_ne] at h1 h2 ⊢
    refine ⟨by omega, ?_⟩
    by_cases e : z = x
    · right
      have e1 : y = x := by omega
      subst e1
      subst e
      exact ltC_neg a b c (h1.2.resolve_left fun q => q rfl) (h2.2.resolve_left fun q => q rfl)
    · exact .inl e
abbrev leS (a b : Str) : Prop := ltCps b.cps.toList a.cps.toList = false
theorem leS_anti {a b : Str} (h1 : leS a b) (h2 : leS b a) : a = b := Dl.unQ (by
 simp (disch := with_unfolding_all
  refine @id _ ?_
  have e := ltC_tri _ _ h2 h1
  obtain ⟨⟨x⟩⟩ := a
  obtain ⟨⟨y⟩⟩ := b
  simp only at e
  rw [e]
 ) only [↓Dl.qTrue])
theorem rising_pw : ∀ (p : Str) (xs : List Str), risingS p xs = true → (p :: xs).Pairwise leS
  | p, [], _ => by simp
  | p, x :: xs, h => by
    simp only [risingS, Bool.and_eq_true, Bool.not_eq_true'] at h
    have ih := rising_pw x xs h.2
    refine List.pairwise_cons.mpr ⟨fun y hy => ?_, ih⟩
    rcases List.mem_cons.mp hy with rfl | hy
    · exact h.1
    · exact ltC_neg _ _ _ h.1 ((List.pairwise_cons.mp ih).1 y hy)
theorem sorted_pw {xs : List Str} (h : sortedS xs = true) : xs.Pairwise leS := by
  cases xs with
  | nil => exact .nil
  | cons x xs => exact rising_pw x xs h
theorem perm_pw : ∀ {xs ys : List Str}, xs.Perm ys → xs.Pairwise leS → ys.Pairwise leS → xs = ys
  | [], ys, h, _, _ => (List.nil_perm.mp h).symm
  | x :: xs, [], h, _, _ => by simp at h
  | x :: xs, y :: ys, h, h1, h2 => by
    obtain ⟨a1, a2⟩ := List.pairwise_cons.mp h1
    obtain ⟨b1, b2⟩ := List.pairwise_cons.mp h2
    have hx : x ∈ y :: ys := h.mem_iff.mp (List.mem_cons_self ..)
    have hy : y ∈ x :: xs := h.mem_iff.mpr (List.mem_cons_self ..)
    have e : x = y := by
      rcases List.mem_cons.mp hx with e | hx
      · exact e
      · rcases List.mem_cons.mp hy with e | hy
        · exact e.symm
        · exact leS_anti (a1 y hy) (b1 x hx)
    subst e
    rw [perm_pw (List.Perm.cons_inv h) a2 b2]
theorem sorted_eq {xs ys a b : List Str} (ha : a.Perm xs) (hb : b.Perm ys) (sa : sortedS a = true) (sb : sortedS b = true) : a = b ↔ xs.Perm ys := Dl.unQ (by
 simp (disch := with_unfolding_all
  refine @id _ ?_
  constructor
  · rintro rfl
    exact ha.symm.trans hb
  · intro h
    exact perm_pw (ha.trans (h.trans hb.symm)) (sorted_pw sa) (sorted_pw sb)
 ) only [↓Dl.qTrue])
/-! ### lists of texts compared -/
theorem pyDs_strs2 (r : Addr → Option PyData) : ∀ ss : List Str, pyDs r (ss.map D.str) = some (ss.map PyData.str)
  | [] => rfl
  | x :: xs => by simp [pyDs, pyD, pyDs_strs2 r xs]
theorem eqv_strs : ∀ xs ys : List Str, PyData.eqvAll (xs.map PyData.str) (ys.map PyData.str) = decide (xs = ys)
  | [], [] => rfl
  | [], y :: ys => rfl
  | x :: xs, [] => rfl
  | x :: xs, y :: ys => by
    simp only [List.map_cons, PyData.eqvAll, PyData.eqv, eqv_strs xs ys]
    by_cases h : x = y <;> simp [h]
theorem c_ne_strs {a b : Addr} {xs ys : List Str} {G : GH} {Q : QD} (h1 : G a = some (.lst (xs.map .str))) (h2 : G b = some (.lst (ys.map .str))) (o1 : ∀ x ∈ xs, PyData.strOk x = true) (o2 : ∀ x ∈ ys, PyData.strOk x = true) (q : Q (.bl (!decide (xs = ys))) G) : cmpD .NotEq (.ref a) (.ref b) G Q := Dl.unQ (by
 simp (disch := with_unfolding_all
  refine @id _ ?_
  simp only [cmpD]
  rw [eqX_lst h1]
  refine eqD_is (k := fun b => Q (.bl (!b)) G) (d := .list (xs.map .str)) (e := .list (ys.map .str)) (by simp [pyG, pyD, rdG, h1, pyDs_strs2]) (by simp [pyG, pyD, rdG, h2, pyDs_strs2]) (shaped_strs o1) (shaped_strs o2) (b := decide (xs = ys)) ?_ q
  rw [PyData.eqv]
  exact eqv_strs xs ys
 ) only [↓Dl.qTrue])
/-! ### values -/
def valuesB (m : Mc) (ins : List Inp) (vs : Vs) : Bool := decide ((vs.map (·.1)).Perm (ins.map Inp.n)) && ins.all fun i => match vs.lookup i.n with | some v => decide (i.l ≤ v) && decide (v < m.b ^ i.f.toNat) | none => false
def spNeedV : Spec := fun ds G Q E => ∃ (m : Mc) (ins : List Inp) (x y : D) (g : Addr) (vs : Vs), ds = [mD m, bkD ins x y, .ref g] ∧ G g = some (.dk (dkD vs)) ∧ m.ok ∧ ins.length ≤ 40 ∧ insOk ins ∧ vs.length ≤ 40 ∧ (∀ x ∈ vs, PyData.strOk x.1 = true) ∧ (∀ i ∈ ins, 0 ≤ i.f ∧ i.f ≤ 1000) ∧
  (valuesB m ins vs = true → Q .non G) ∧ (valuesB m ins vs = false → ∀ G', Le G G' → E ⟨4, [], []⟩ G')
theorem keys_dk (vs : Vs) : (dkD vs).map (fun p => keyV p.1) = (vs.map (·.1)).map D.str := by
  unfold dkD
  rw [List.map_map, List.map_map]; rfl
theorem b_sortS {a : Addr} {ns : List Str} {G : GH} {Q : QD} (h : G a = some (.lst (ns.map .str))) (hn : ns.length < 64) (q : ∀ ns' : List Str, ns'.Perm ns → sortedS ns' = true → newL (ns'.map .str) G Q) : bfD .sorted [.ref a] G Q := by
  simp only [bfD, sortedD, h]
  exact .inr ⟨ns, rfl, hn, q⟩
local macro_rules | `(tactic| walk_at "pre") => `(tactic| first
  | ((with_reducible refine' b_listD ?k1 ?_); (case k1 => walk_at "heap"))
  | ((with_reducible refine c_ne_strs (by assumption) (by assumption) (by assumption) (by assumption) ?_))
  | ((with_reducible refine' b_sortS ?k1 ?k2 ?_); (case k1 => walk_at "heap"); (case k2 => (rw [List.length_map]; omega))))
theorem meet_needV (Δ : Nat → Option Spec) (Γ : Gam) (h6 : Δ 6 = some spPower) : Meet Δ Γ 7 3 B_working_need_values spNeedV := Dl.unQ (by
 simp (disch := with_unfolding_all
  refine @id _ ?_
  intro ds G Q E _ h
  obtain ⟨m, ins, x, y, g, vs, rfl, hg, ok, hi, io, hv, vo, fo, q, e⟩ := h
  have ⟨b2, b12, s1, s6, sw, w16, c1, c10⟩ := ok
  have sl := sizeLine_eq
  show wpSs _ _ _ _ [some (mD m), some (bkD ins x y), some (.ref g), none, none, none, none] G
  unfold B_working_need_values
  walk_at "w"
  rw [keys_dk]
  refine newK fun p1 G1 n1 l1 e1 => ?_
  walk_at "w"
  intro k1 pk1 sk1
  refine newK fun p2 G2 n2 l2 e2 => ?_
  walk_at "w"
  intro p hp
  refine compW_map (fun d => match d with | .tup (z :: _) => z | _ => .non) hp (by show (ins.map Inp.d).length ≤ 1000; rw [List.length_map]; omega) (fun _ _ => trivial) ?_ ?_
  · intro d hd G' R l hR
    obtain ⟨i, hi, rfl⟩ := List.mem_map.mp hd
    walk_at "w"
    exact hR G' (Le.refl _)
  have em : (ins.map Inp.d).map (fun d => match d with | .tup (z :: _) => z | _ => .non) = (ins.map Inp.n).map D.str := by
    rw [List.map_map, List.map_map]; rfl
  show wpEs _ _ _ _ _ (gup G2 p (.lst ((ins.map Inp.d).map (fun d => match d with | .tup (z :: _) => z | _ => .non)))) _
  rw [em]
  walk_at "w"
  intro k3 pk3 sk3
  refine newK fun p3 G3 n3 l3 e3 => ?_
  have o1 : ∀ x ∈ k1, PyData.strOk x = true := fun z hz => by
    obtain ⟨y, hy, rfl⟩ := List.mem_map.mp (pk1.mem_iff.mp hz)
    exact vo y hy
  have o3 : ∀ x ∈ k3, PyData.strOk x = true := fun z hz => by
    obtain ⟨y, hy, rfl⟩ := List.mem_map.mp (pk3.mem_iff.mp hz)
    exact io y hy
  have hG : Le G G3 := ((l1.trans l2).trans (Le.new hp)).trans l3
  have e2' : G3 p2 = some (.lst (k1.map .str)) := l3 _ _ (Le.new hp _ _ e2)
  have iffP := sorted_eq pk1 pk3 sk1 sk3
  walk_at "w"
  refine ite_nd (fun a => ?_) (fun a => ?_)
  · walk_at "w"
    refine e ?_ _ hG
    rw [valuesB, decide_eq_false (fun z => a (iffP.mpr z))]; rfl
  have hP := iffP.mp a
  refine wk_le hG ?_
  walk_at "w"
  have all_of : ∀ (k : Nat) (i : Inp), ins[k]? = some i → (match vs.lookup i.n with | some v => decide (i.l ≤ v) && decide (v < m.b ^ i.f.toNat) | none => false) = false → valuesB m ins vs = false := fun k i hk hb => by
    unfold valuesB
    rw [Bool.and_eq_false_iff]
    right
    rw [List.all_eq_false]
    exact ⟨i, List.mem_of_getElem? hk, by rw [hb]; exact Bool.false_ne_true⟩
  refine forW_st (fun k σ => (∃ x3 x4 x5 x6, σ = [some (mD m), some (bkD ins x y), some (.ref g), x3, x4, x5, x6]) ∧ ∀ (j : Nat) (i : Inp), j < k → ins[j]? = some i → (match vs.lookup i.n with | some v => decide (i.l ≤ v) && decide (v < m.b ^ i.f.toNat) | none => false) = true) ⟨⟨_, _, _, _, rfl⟩, fun j i h => absurd h (Nat.not_lt_zero _)⟩ trivial ?_ ?_
  · rintro k σ d ⟨⟨x3, x4, x5, x6, rfl⟩, hk⟩ hd N hN
    have hd : (ins.map Inp.d)[k]? = some d := hd
    rw [List.getElem?_map] at hd
    obtain ⟨i, ei, rfl⟩ := Option.map_eq_some_iff.mp hd
    have hm : i.n ∈ vs.map (·.1) := hP.mem_iff.mpr (List.mem_map.mpr ⟨i, List.mem_of_getElem? ei, rfl⟩)
    obtain ⟨v, ev⟩ : ∃ v, vs.lookup i.n = some v := by
      obtain ⟨⟨a, v⟩, h1, h2⟩ := List.mem_map.mp hm
      cases e : vs.lookup i.n with
      | some v => exact ⟨v, rfl⟩
      | none =>
        rw [List.lookup_eq_none_iff] at e
        have := e _ h1
        simp [← h2] at this
    have fi := fo i (List.mem_of_getElem? ei)
    have nx : ∀ b : Bool, (decide (i.l ≤ v) && decide (v < m.b ^ i.f.toNat)) = b → (match vs.lookup i.n with | some v => decide (i.l ≤ v) && decide (v < m.b ^ i.f.toNat) | none => false) = b := fun b h => by rw [ev]; exact h
    walk_at "w"
    refine x_val hg ev ?_
    walk_at "w"
    refine ite_d (fun a1 => ?_) (fun a1 => ?_)
    · walk_at "w"
      refine power_i ⟨by omega, b12, fi.1, fi.2⟩ ?_
      walk_at "w"
      refine ite_nd (fun a2 => ?_) (fun a2 => ?_)
      · walk_at "w"
        exact e (all_of k i ei (nx false (by rw [decide_eq_false a2, Bool.and_false]))) _ (Le.refl _)
      · walk_at "w"
        refine hN _ _ ⟨⟨_, _, _, _, rfl⟩, fun j i' hj hi' => ?_⟩ (Le.refl _)
        by_cases ej : j = k
        · subst ej
          rw [ei] at hi'
          cases hi'
          exact nx true (by rw [decide_eq_true a1, decide_eq_true a2]; rfl)
        · exact hk j i' (by omega) hi'
    · walk_at "w"
      exact e (all_of k i ei (nx false (by rw [decide_eq_false a1, Bool.false_and]))) _ (Le.refl _)
  · rintro σ ⟨⟨x3, x4, x5, x6, rfl⟩, hk⟩
    refine wk.of ?_
    walk_at "w"
    refine wk.of (q ?_)
    unfold valuesB
    rw [decide_eq_true hP, Bool.true_and, List.all_eq_true]
    intro i hi
    obtain ⟨j, hj, ej⟩ := List.getElem_of_mem hi
    exact hk j i (by rw [List.length_map]; exact hj) (by rw [List.getElem?_eq_getElem hj, ej])
 ) only [↓Dl.qTrue])
theorem needV_i {m : Mc} {ins : List Inp} {x y : D} {g : Addr} {vs : Vs} {G : GH} {Q : QD} {E : XD} (hg : G g = some (.dk (dkD vs))) (ok : m.ok) (hi : ins.length ≤ 40) (io : insOk ins) (hv : vs.length ≤ 40) (vo : ∀ x ∈ vs, PyData.strOk x.1 = true) (fo : ∀ i ∈ ins, 0 ≤ i.f ∧ i.f ≤ 1000)
    (q : valuesB m ins vs = true → Q .non G) (e : valuesB m ins vs = false → ∀ G', Le G G' → E ⟨4, [], []⟩ G') : spNeedV [mD m, bkD ins x y, .ref g] G Q E := ⟨m, ins, x, y, g, vs, rfl, hg, ok, hi, io, hv, vo, fo, q, e⟩
/-! ### worked -/
inductive Res where
  | ok (n : Nu)
  | stuck (k : Nat)
def workU (m : Mc) (vs : Vs) (f : Nat) : Nat → List Bd → Nu → Option Res
  | _, [], n => some (.ok n)
  | k, d :: ds, n => match doU m vs f d n with
    | none => none
    | some (n', r) => if r = true then workU m vs f (k + 1) ds n' else some (.stuck k)
theorem pow_mono {b : Int} (hb : 1 ≤ b) {i j : Nat} (h : i ≤ j) : b ^ i ≤ b ^ j := Dl.unQ (by
 simp (disch := with_unfolding_all
  refine @id _ ?_
  obtain ⟨k, rfl⟩ : ∃ k, j = i + k := ⟨j - i, by omega⟩
  rw [Int.pow_add]
  have h1 : 0 < b ^ i := Int.pow_pos (by omega)
  have h2 : 0 < b ^ k := Int.pow_pos (by omega)
  have := Int.mul_le_mul_of_nonneg_left (show (1 : Int) ≤ b ^ k by omega) (show 0 ≤ b ^ i by omega)
  omega
 ) only [↓Dl.qTrue])
/-- a deed that does asks no more than it gets -/
theorem dp_ok {m : Mc} {ins : List Inp} {vs : Vs} (ok : m.ok) (hv : valuesB m ins vs = true) (hl : ∀ i ∈ ins, 0 ≤ i.l ∧ 0 ≤ i.f ∧ i.f ≤ m.s) {d : Bd} (h : isDeedB ins d = true) : DP m vs d := Dl.unQ (by
 simp (disch := with_unfolding_all
  refine @id _ ?_
  unfold valuesB at hv
  rw [Bool.and_eq_true] at hv
  have hv := List.all_eq_true.mp hv.2
  have val : ∀ {x : Str} {i : Inp}, inOf ins x = some i → i ∈ ins ∧ ∃ v, vs.lookup x = some v ∧ 0 ≤ v ∧ v < m.b ^ m.s.toNat := fun {x i} e => by
    have hi := List.mem_of_find?_eq_some e
    have en := List.find?_some e
    have en : i.n = x := by simpa using en
    have := hv i hi
    rw [en] at this
    obtain ⟨l0, f0, fs⟩ := hl i hi
    cases ev : vs.lookup x with
    | none => rw [ev] at this; cases this
    | some v =>
      rw [ev] at this
      simp only [Bool.and_eq_true, decide_eq_true_eq] at this
      refine ⟨hi, v, rfl, by omega, Int.lt_of_lt_of_le this.2 ?_⟩
      have b2 := ok.b2
      exact pow_mono (by omega) (by omega)
  have ways : ∀ {w : Int}, decide (w ∈ waysI) = true → w = 1 ∨ w = -1 := fun {w} h => by simpa using h
  have tals : ∀ {t : Int}, decide (t ∈ talliesI) = true → -1 ≤ t ∧ t ≤ 1 := fun {t} h => by
    have : t = -1 ∨ t = 0 ∨ t = 1 := by simpa using h
    omega
  cases d with
  | load x =>
    cases e : inOf ins x with
    | none => rw [isDeedB, e] at h; cases h
    | some i => exact (val e).2
  | one => trivial
  | shift b => trivial
  | turn w t =>
    rw [isDeedB, Bool.and_eq_true] at h
    exact ⟨ways h.1, tals h.2⟩
  | wipe w =>
    have h : decide (w ∈ (["wheels", "counts"] : List Str)) = true := h
    show w = "wheels" ∨ w = "counts"
    simpa using h
  | turns x k w t =>
    have h : isTurnsB ins x k w t = true := h
    unfold isTurnsB at h
    cases e : inOf ins x with
    | none => rw [e] at h; cases h
    | some i =>
      rw [e] at h
      simp only [Bool.and_eq_true] at h
      obtain ⟨hi, v, ev, v0, v1⟩ := val e
      obtain ⟨l0, f0, fs⟩ := hl i hi
      have s6 := ok.s6
      have k0 := of_decide_eq_true h.1.1.1
      have k1 := of_decide_eq_true h.1.1.2
      exact ⟨v, ev, v0, k0, by omega, ways h.1.2, tals h.2⟩
  | bell t => exact tals h
  | odds t => exact tals h
  | bad w xs => cases h
 ) only [↓Dl.qTrue])
theorem wInit_i {p g : Addr} {m : Mc} {G : GH} {Q : QD} {E : XD} (hp : G p = some (.ins "Worker" [])) (ok : m.ok) (q : Q .non (gup G p (wkO m g (noughtS m)))) : spWInit [.ref p, mD m, .ref g] G Q E := ⟨p, g, m, rfl, hp, ok, q⟩
def spWorked : Spec := fun ds G Q E => ∃ (m : Mc) (b : Bk) (g : Addr) (vs : Vs), ds = [mD m, b.d, .ref g] ∧ G g = some (.dk (dkD vs)) ∧ m.ok ∧ b.ok ∧ vs.length ≤ 40 ∧ (∀ x ∈ vs, PyData.strOk x.1 = true) ∧
  (∀ k w, bookBad m b = some (k, w) → ∀ G', Le G G' → E (badBook k w) G') ∧
  (bookBad m b = none → valuesB m b.ins vs = false → ∀ G', Le G G' → E ⟨4, [], []⟩ G') ∧
  (bookBad m b = none → valuesB m b.ins vs = true → ∃ f res, workU m vs f 0 b.ds zeroU = some res ∧ (∀ n, res = .ok n → Q (.tup [.int n.w, .int n.c]) G) ∧ (∀ k : Nat, res = .stuck k → ∀ G', Le G G' → E ⟨5, ["number"], [.int k]⟩ G'))
theorem bookGood {m : Mc} {b : Bk} (h : bookBad m b = none) : b.ins.length ≤ 4 ∧ (∀ (k : Nat) i, b.ins[k]? = some i → isInputB m b.ins k i = true) ∧ (∀ d ∈ b.ds, isDeedB b.ins d = true) := Dl.unQ (by
 simp (disch := with_unfolding_all
  refine @id _ ?_
  have none_all : ∀ {α : Type} (f : Nat → α → Bool) (xs : List α) (k : Nat), badFrom f k xs = none → ∀ i x, xs[i]? = some x → f (k + i) x = true := by
    intro α f xs
    induction xs with
    | nil => intro k _ i x hx; simp at hx
    | cons y ys ih =>
      intro k hk i x hx
      rw [badFrom] at hk
      split at hk
      · rename_i hy
        cases i with
        | zero => simp at hx; subst hx; exact hy
        | succ i =>
          have := ih (k + 1) hk i x (by simpa using hx)
          rw [show k + 1 + i = k + (i + 1) by omega] at this
          exact this
      · cases hk
  unfold bookBad at h
  split at h
  · rename_i h4
    split at h
    · cases h
    · rename_i hi
      refine ⟨h4, fun k i hk => by have := none_all _ _ _ hi k i hk; rwa [Nat.zero_add] at this, ?_⟩
      unfold deedBad at h
      split at h
      · split at h
        · cases h
        · rename_i hd
          intro d hdm
          obtain ⟨j, hj, rfl⟩ := List.getElem_of_mem hdm
          exact none_all _ _ _ hd j _ (List.getElem?_eq_getElem hj)
      · cases h
  · cases h
 ) only [↓Dl.qTrue])
theorem inputGood {m : Mc} {ins : List Inp} {k : Nat} {i : Inp} (h : isInputB m ins k i = true) : 0 ≤ i.l ∧ 1 ≤ i.f ∧ i.f ≤ m.s := Dl.unQ (by
 simp (disch := with_unfolding_all
  refine @id _ ?_
  unfold isInputB at h
  simp only [Bool.and_eq_true, decide_eq_true_eq] at h
  obtain ⟨⟨⟨_, h1⟩, h2⟩, h3⟩ := h
  have : i.l = 0 ∨ i.l = 1 := by simpa using h3
  exact ⟨by omega, h1, h2⟩
 ) only [↓Dl.qTrue])
theorem meet_worked (Δ : Nat → Option Spec) (Γ : Gam) (h15 : Δ 15 = some spNeedBook) (h26 : Δ 26 = some spNeedV) (h138 : Δ 138 = some spWInit) (h142 : Δ 142 = some spWDo) (h4 : Δ 4 = some spTold) : Meet Δ Γ 6 3 B_working_worked spWorked := Dl.unQ (by
 simp (disch := with_unfolding_all
  refine @id _ ?_
  intro ds G Q E _ h
  obtain ⟨m, b, g, vs, rfl, hg, ok, bok, hv, vo, e1, e2, q⟩ := h
  have ⟨b2, b12, s1, s6, sw, w16, c1, c10⟩ := ok
  show wpSs _ _ _ _ [some (mD m), some b.d, some (.ref g), none, none, none] G
  unfold B_working_worked
  walk_at "w"
  refine needBook_i ok bok (fun hb => ?_) fun k w hb => e1 k w hb _ (Le.refl _)
  have bg := bookGood hb
  have hl : ∀ i ∈ b.ins, 0 ≤ i.l ∧ 1 ≤ i.f ∧ i.f ≤ m.s := fun i hi => by
    obtain ⟨j, hj, rfl⟩ := List.getElem_of_mem hi
    exact inputGood (bg.2.1 j _ (List.getElem?_eq_getElem hj))
  walk_at "w"
  refine needV_i hg ok (by omega) bok.i1 hv vo (fun i hi => by have := hl i hi; omega) (fun hvb => ?_) fun hvb G' l => e2 hb hvb _ l
  obtain ⟨f, res, hw, qo, qs⟩ := q hb hvb
  have dps : ∀ d ∈ b.ds, DP m vs d := fun d hd => dp_ok ok hvb (fun i hi => by have := hl i hi; omega) (bg.2.2 d hd)
  walk_at "w"
  intro p hp
  refine wInit_i gup_same ok ?_
  rw [gup_gup, nought_U]
  refine ⟨rfl, ?_⟩
  have gp : g ≠ p := ne_some hg hp
  walk_at "w"
  refine forW.mk (fun i σ G' => ∃ n x4 x5, σ = [some (mD m), some b.d, some (.ref g), some (.ref p), x4, x5] ∧ G' = gup G p (wkO m g (sdOf m n)) ∧ n.ok m ∧ workU m vs f i (b.ds.drop i) n = some res) ⟨zeroU, _, _, rfl, rfl, zeroU_ok ok, hw⟩ (fun _ _ _ _ => trivial) ?_ ?_
  · rintro i σ G' d ⟨n, x4, x5, rfl, rfl, no, hw⟩ hd
    obtain ⟨x, hx, rfl⟩ := enumD_get _ _ _ _ hd
    rw [List.getElem?_map] at hx
    obtain ⟨d, ed, rfl⟩ := Option.map_eq_some_iff.mp hx
    obtain ⟨h1, h2⟩ := List.getElem?_eq_some_iff.mp ed
    rw [List.drop_eq_getElem_cons h1, h2, workU] at hw
    have dp := dps d (List.mem_of_getElem? ed)
    cases hd : doU m vs f d n with
    | none => rw [hd] at hw; cases hw
    | some nr =>
      obtain ⟨n', r⟩ := nr
      rw [hd] at hw
      walk_at "w"
      refine wDo_i gup_same (by rw [gup_ne gp]; exact hg) ok no dp hd ?_
      rw [gup_gup]
      walk_at "w"
      cases r with
      | true =>
        walk_at "w"
        exact wk.of ⟨n', _, _, rfl, rfl, doU_ok ok no dp hd, hw⟩
      | false =>
        walk_at "w"
        cases hw
        rw [show (0 : Int) + (i : Int) = i by omega]
        exact qs i rfl _ (Le.new hp)
  · rintro σ G' ⟨n, x4, x5, rfl, rfl, no, hw⟩
    rw [show (enumD 0 (b.ds.map Bd.d)).length = b.ds.length by rw [enumD_len, List.length_map], List.drop_length] at hw
    cases hw
    walk_at "w"
    refine told_i ⟨b2, b12⟩ ?_
    rw [show toldN m.b (sdOf m n).wh = n.w from told_w ok no]
    walk_at "w"
    refine told_i ⟨b2, b12⟩ ?_
    rw [show toldN m.b (sdOf m n).ct = n.c from told_c ok no]
    walk_at "w"
    exact wkLe (Le.new hp) (qo n rfl)
 ) only [↓Dl.qTrue])
end
set_option maxRecDepth 100000
set_option maxHeartbeats 4000000
section
open PySem PySem.Spec PyProof.Rows L2
local macro_rules | `(tactic| walk_at "heap2") => `(tactic| first | exact hG_a | exact hG_b (by assumption) | (refine (hG_ne (by first | assumption | exact Ne.symm (by assumption)) (by first | assumption | exact Ne.symm (by assumption))).trans ?_; walk_at "heap"))
/-- 130: law._law_ask.25b9(0 _law_way, 1 _law_machine_here, 2 _law_stand, 3 _law_book) -/
def B_law_law_ask_25b9 : Sms :=
  (.cons (.asg (.name 2) (.tup (.cons (.tup (.cons (.int 0) .nil)) (.cons (.int 0) (.cons (.tup (.cons (.int 0) .nil)) (.cons (.tup (.cons (.int 0) .nil)) .nil))))))
  (.cons (.asg (.name 3) (.tup (.cons (.tup .nil) (.cons (.tup (.cons (.tup (.cons (.str "fly") .nil)) .nil)) (.cons (.tup .nil) .nil)))))
  (.cons (.ifs (.cmp .Lt (.var 0) (.int 3))
  (.cons (.ret (.cal (.ix (.lst (.cons (.gfn "need_machine") (.cons (.gfn "top") (.cons (.gfn "begin") .nil)))) (.var 0)) [("need_machine", 63), ("top", 64), ("begin", 65)] (.cons (.var 1) .nil)))
  .nil)
  .nil)
  (.cons (.ifs (.cmp .Eq (.var 0) (.int 3))
  (.cons (.ret (.call 62 (.cons (.var 1) (.cons (.var 2) (.cons (.int 1) .nil)))))
  .nil)
  .nil)
  (.cons (.ifs (.cmp .Eq (.var 0) (.int 4))
  (.cons (.ret (.call 61 (.cons (.var 1) (.cons (.tup (.cons (.int 0) .nil)) (.cons (.lst (.cons (.int 0) .nil)) (.cons (.int 0) (.cons (.int 1) .nil)))))))
  .nil)
  .nil)
  (.cons (.ifs (.cmp .Eq (.var 0) (.int 5))
  (.cons (.ret (.call 60 (.cons (.var 1) (.cons (.tup (.cons (.int 0) .nil)) (.cons (.lst .nil) (.cons (.lst .nil) (.cons (.int 1) .nil)))))))
  .nil)
  .nil)
  (.cons (.ifs (.cmp .Eq (.var 0) (.int 6))
  (.cons (.ret (.call 59 (.cons (.var 1) (.cons (.var 2) (.cons (.tup (.cons (.str "fly") .nil)) .nil)))))
  .nil)
  .nil)
  (.cons (.ifs (.cmp .Lt (.var 0) (.int 9))
  (.cons (.ret (.cal (.ix (.lst (.cons (.gfn "need_book") (.cons (.gfn "looked") .nil))) (.bin .Sub (.var 0) (.int 7))) [("need_book", 57), ("looked", 58)] (.cons (.var 1) (.cons (.var 3) .nil))))
  .nil)
  .nil)
  (.cons (.ifs (.cmp .Eq (.var 0) (.int 9))
  (.cons (.ret (.call 56 (.cons (.var 1) (.cons (.var 3) (.cons (.dsp ["x"] (.cons (.int 1) .nil)) .nil)))))
  .nil)
  .nil)
  (.cons (.ret (.ife (.cmp .Eq (.var 0) (.int 10)) (.call 53 (.cons (.var 1) (.cons (.int 1) .nil))) (.cal (.ix (.lst (.cons (.gfn "product") (.cons (.gfn "quotient") .nil))) (.bin .Sub (.var 0) (.int 11))) [("product", 54), ("quotient", 55)] (.cons (.var 1) (.cons (.int 1) (.cons (.int 1) .nil))))))
  .nil))))))))))
/-- 131: law._law_kind.5cd6(0 _law_work, 1 e, 2 _law_kinds) -/
def B_law_law_kind_5cd6 : TryB :=
  ⟨.nil,
  (.cons (.exp (.act 0))
  .nil),
  0, some 1,
  (.cons (.asg (.name 2) (.lst (.cons (.isx 1 [1] false) (.cons (.isx 1 [4] false) (.cons (.isx 1 [3] false) .nil)))))
  (.cons (.ifs (.boo .Or (.cons (.isx 1 [2, 5, 6] true) (.cons (.cmp .NotEq (.met .count (.var 2) (.cons (.bl true) .nil)) (.int 1)) (.cons (.nt (.isx 1 [100] false)) .nil))))
  (.cons (.ret (.str "other"))
  .nil)
  .nil)
  (.cons (.ret (.ix (.lst (.cons (.str "machine") (.cons (.str "value") (.cons (.str "book") .nil)))) (.met .index (.var 2) (.cons (.bl true) .nil))))
  .nil))),
  (.cons (.ret (.str ""))
  .nil)⟩
/-- 132: law._law_bad.5d91(0 _law_h, 1 _law_machine_here, 2 _law_base, 3 _law_slides, 4 _law_wheels, 5 _law_counters, 6 _law_far, 7 _law_some) -/
def B_law_law_bad_5d91 : Sms :=
  (.cons (.asg (.tup (.cons (.name 2) (.cons (.name 3) (.cons (.name 4) (.cons (.name 5) .nil))))) (.var 1))
  (.cons (.asg (.name 6) (.call 29 (.cons (.var 0) (.cons (.int 99) .nil))))
  (.cons (.asg (.name 7) (.lst (.cons (.tup (.cons (.bin .Sub (.int 1) (.var 6)) (.cons (.int 1) (.cons (.int 1) (.cons (.int 1) .nil))))) (.cons (.tup (.cons (.bin .Add (.int 13) (.var 6)) (.cons (.int 1) (.cons (.int 1) (.cons (.int 1) .nil))))) (.cons (.tup (.cons (.var 2) (.cons (.bin .Sub (.int 0) (.var 6)) (.cons (.var 4) (.cons (.var 5) .nil))))) (.cons (.tup (.cons (.var 2) (.cons (.bin .Add (.int 7) (.var 6)) (.cons (.int 16) (.cons (.int 1) .nil))))) .nil))))))
  (.cons (.asg (.name 7) (.bin .Add (.var 7) (.lst (.cons (.tup (.cons (.var 2) (.cons (.var 3) (.cons (.bin .Sub (.bin .Sub (.var 3) (.int 1)) (.var 6)) (.cons (.var 5) .nil))))) (.cons (.tup (.cons (.var 2) (.cons (.var 3) (.cons (.bin .Add (.int 17) (.var 6)) (.cons (.var 5) .nil))))) .nil)))))
  (.cons (.asg (.name 7) (.bin .Add (.var 7) (.lst (.cons (.tup (.cons (.var 2) (.cons (.var 3) (.cons (.var 4) (.cons (.bin .Sub (.int 0) (.var 6)) .nil))))) (.cons (.tup (.cons (.var 2) (.cons (.var 3) (.cons (.var 4) (.cons (.bin .Add (.int 11) (.var 6)) .nil))))) (.cons (.slc (.var 1) .none (.some (.int 3))) (.cons (.bin .Add (.var 1) (.tup (.cons (.int 1) .nil))) .nil)))))))
  (.cons (.ret (.ix (.var 7) (.call 29 (.cons (.var 0) (.cons (.int 10) .nil)))))
  .nil))))))
/-! ### what is no machine -/
def okM (xs : List Int) : Bool := match xs with
  | [b, s, w, c] => decide (2 ≤ b) && decide (b ≤ 12) && (decide (1 ≤ s) && decide (s ≤ 6)) && (decide (s ≤ w) && decide (w ≤ 16)) && (decide (1 ≤ c) && decide (c ≤ 10))
  | _ => false
def spBad : Spec := fun ds G _ E => ∃ (xs : List Int) (rest : List D), ds = .tup (xs.map .int) :: rest ∧ okM xs = false ∧ E ⟨1, [], []⟩ G
theorem meet_needBad (Δ : Nat → Option Spec) (Γ : Gam) (h0 : Δ 0 = some spNeed) (g0 : Γ 0 = some (.int 10)) (g1 : Γ 1 = some (.int 16)) (g2 : Γ 2 = some (.int 6)) (g3 : Γ 3 = some (.int 2)) (g4 : Γ 4 = some (.int 12)) : Meet Δ Γ 5 1 B_machines_need_machine spBad := Dl.unQ (by
 simp (disch := with_unfolding_all
  refine @id _ ?_
  intro ds G Q E hl h
  obtain ⟨xs, rest, rfl, hb, e⟩ := h
  cases rest with
  | cons _ _ => simp at hl
  | nil =>
  show wpSs _ _ _ _ [some (.tup (xs.map .int)), none, none, none, none] G
  unfold B_machines_need_machine
  walk_at "w"
  by_cases h4 : ((xs.map D.int).length : Int) = 4
  rotate_left
  · exact need_no (decide_eq_false h4) e
  refine need_i (decide_eq_true h4) ?_
  obtain ⟨b, s, w, c, rfl⟩ : ∃ b s w c, xs = [b, s, w, c] := by
    rw [List.length_map] at h4
    match xs, h4 with
    | [b, s, w, c], _ => exact ⟨b, s, w, c, rfl⟩
    | [], h => simp at h
    | [_], h => simp at h
    | [_, _], h => simp at h
    | [_, _, _], h => simp at h
    | _ :: _ :: _ :: _ :: _ :: r, h => simp only [List.length_cons] at h; omega
  simp only [List.map_cons, List.map_nil]
  walk_at "w"
  refine ite_d (fun a1 => ?_) (fun a1 => by walk_at "w"; exact need_no rfl e)
  walk_at "w"
  by_cases a2 : b ≤ 12
  rotate_left
  · exact need_no (decide_eq_false a2) e
  refine need_i (decide_eq_true a2) ?_
  walk_at "w"
  refine ite_d (fun a3 => ?_) (fun a3 => by walk_at "w"; exact need_no rfl e)
  walk_at "w"
  by_cases a4 : s ≤ 6
  rotate_left
  · exact need_no (decide_eq_false a4) e
  refine need_i (decide_eq_true a4) ?_
  walk_at "w"
  refine ite_d (fun a5 => ?_) (fun a5 => by walk_at "w"; exact need_no rfl e)
  walk_at "w"
  by_cases a6 : w ≤ 16
  rotate_left
  · exact need_no (decide_eq_false a6) e
  refine need_i (decide_eq_true a6) ?_
  walk_at "w"
  refine ite_d (fun a7 => ?_) (fun a7 => by walk_at "w"; exact need_no rfl e)
  walk_at "w"
  by_cases a8 : c ≤ 10
  rotate_left
  · exact need_no (decide_eq_false a8) e
  have : okM [b, s, w, c] = true := by
    show (decide (2 ≤ b) && decide (b ≤ 12) && (decide (1 ≤ s) && decide (s ≤ 6)) && (decide (s ≤ w) && decide (w ≤ 16)) && (decide (1 ≤ c) && decide (c ≤ 10))) = true
    simp only [a1, a2, a3, a4, a5, a6, a7, a8, decide_true, Bool.and_self]
  rw [hb] at this
  cases this
 ) only [↓Dl.qTrue])
/-- a def that looks after the machine first -/
def nevs : Nat → Sms
  | 0 => .nil
  | n + 1 => .cons .nev (nevs n)
def bad1 (n : Nat) : Sms := .cons (.exp (.call 63 (.cons (.var 0) .nil))) (nevs n)
def bad2 (n : Nat) : Sms := .cons (.exp (.call 57 (.cons (.var 0) (.cons (.var 1) .nil)))) (nevs n)
theorem meet_bad1 (Δ : Nat → Option Spec) (Γ : Gam) {nn np n : Nat} (h : Δ 63 = some spBad) : Meet Δ Γ nn np (bad1 n) spBad := Dl.unQ (by
 simp (disch := with_unfolding_all
  refine @id _ ?_
  intro ds G Q E hl hs
  obtain ⟨xs, rest, rfl, hb, e⟩ := hs
  unfold bad1
  refine s_cons (s_exp (w_call h (w_cons (w_var (v := .tup (xs.map .int)) rfl (w_nil ?_)))))
  exact ⟨xs, [], rfl, hb, e⟩
 ) only [↓Dl.qTrue])
theorem meet_bad2 (Δ : Nat → Option Spec) (Γ : Gam) {nn np n : Nat} (h : Δ 57 = some spBad) (hn : Nat.ble 2 np = true) : Meet Δ Γ nn np (bad2 n) spBad := Dl.unQ (by
 simp (disch := with_unfolding_all
  refine @id _ ?_
  intro ds G Q E hl hs
  obtain ⟨xs, rest, rfl, hb, e⟩ := hs
  cases rest with
  | nil => have := Nat.le_of_ble_eq_true hn; simp at hl; omega
  | cons d rest =>
    unfold bad2
    refine s_cons (s_exp (w_call h (w_cons (w_var (v := .tup (xs.map .int)) rfl (w_cons (w_var (v := d) rfl (w_nil ?_)))))))
    exact ⟨xs, [d], rfl, hb, e⟩
 ) only [↓Dl.qTrue])
/-! ### asked with what is no machine -/
def spAsk : Spec := fun ds G _ E => ∃ (way : Int) (xs : List Int), ds = [.int way, .tup (xs.map .int)] ∧ 0 ≤ way ∧ way < 13 ∧ okM xs = false ∧ ∀ G', Le G G' → E ⟨1, [], []⟩ G'
theorem meet_ask (Δ : Nat → Option Spec) (Γ : Gam) (h63 : Δ 63 = some spBad) (h64 : Δ 64 = some spBad) (h65 : Δ 65 = some spBad) (h62 : Δ 62 = some spBad) (h61 : Δ 61 = some spBad) (h60 : Δ 60 = some spBad) (h59 : Δ 59 = some spBad) (h57 : Δ 57 = some spBad) (h58 : Δ 58 = some spBad) (h56 : Δ 56 = some spBad) (h53 : Δ 53 = some spBad) (h54 : Δ 54 = some spBad) (h55 : Δ 55 = some spBad) : Meet Δ Γ 4 2 B_law_law_ask_25b9 spAsk := Dl.unQ (by
 simp (disch := with_unfolding_all
  refine @id _ ?_
  intro ds G Q E _ h
  obtain ⟨way, xs, rfl, w0, w1, hb, e⟩ := h
  show wpSs _ _ _ _ [some (.int way), some (.tup (xs.map .int)), none, none] G
  unfold B_law_law_ask_25b9
  walk_at "w"
  refine ite_d (fun a1 => ?_) (fun a1 => ?_)
  · walk_at "w"
    refine w_cal ?_
    walk_at "w"
    intro p hp
    have l : Le G (gup G p (.lst [.fn "need_machine", .fn "top", .fn "begin"])) := Le.new hp
    walk_at "w"
    obtain rfl | rfl | rfl : way = 0 ∨ way = 1 ∨ way = 2 := by omega
    · show calD _ _ _ _ _ _ _ (.fn "need_machine") _
      refine cal_fn (by decide +kernel) h63 ?_
      walk_at "w"
      exact ⟨xs, [], rfl, hb, e _ l⟩
    · show calD _ _ _ _ _ _ _ (.fn "top") _
      refine cal_fn (by decide +kernel) h64 ?_
      walk_at "w"
      exact ⟨xs, [], rfl, hb, e _ l⟩
    · show calD _ _ _ _ _ _ _ (.fn "begin") _
      refine cal_fn (by decide +kernel) h65 ?_
      walk_at "w"
      exact ⟨xs, [], rfl, hb, e _ l⟩
  walk_at "w"
  refine ite_d (fun a2 => ?_) (fun a2 => ?_)
  · walk_at "w"
    exact ⟨xs, _, rfl, hb, e _ (Le.refl _)⟩
  walk_at "w"
  refine ite_d (fun a3 => ?_) (fun a3 => ?_)
  · walk_at "w"
    intro p hp
    walk_at "w"
    exact ⟨xs, _, rfl, hb, e _ (Le.new hp)⟩
  walk_at "w"
  refine ite_d (fun a4 => ?_) (fun a4 => ?_)
  · walk_at "w"
    intro p hp
    walk_at "w"
    intro p2 hp2
    walk_at "w"
    exact ⟨xs, _, rfl, hb, e _ ((Le.new hp).gup (by rw [gup_ne (ne_some gup_same hp2).symm] at hp2; exact hp2))⟩
  walk_at "w"
  refine ite_d (fun a5 => ?_) (fun a5 => ?_)
  · walk_at "w"
    exact ⟨xs, _, rfl, hb, e _ (Le.refl _)⟩
  walk_at "w"
  refine ite_d (fun a6 => ?_) (fun a6 => ?_)
  · walk_at "w"
    refine w_cal ?_
    walk_at "w"
    intro p hp
    have l : Le G (gup G p (.lst [.fn "need_book", .fn "looked"])) := Le.new hp
    walk_at "w"
    obtain rfl | rfl : way = 7 ∨ way = 8 := by omega
    · show calD _ _ _ _ _ _ _ (.fn "need_book") _
      refine cal_fn (by decide +kernel) h57 ?_
      walk_at "w"
      exact ⟨xs, _, rfl, hb, e _ l⟩
    · show calD _ _ _ _ _ _ _ (.fn "looked") _
      refine cal_fn (by decide +kernel) h58 ?_
      walk_at "w"
      exact ⟨xs, _, rfl, hb, e _ l⟩
  walk_at "w"
  refine ite_d (fun a7 => ?_) (fun a7 => ?_)
  · walk_at "w"
    intro p hp
    walk_at "w"
    refine ⟨rfl, gup_same, ?_⟩
    walk_at "w"
    exact ⟨xs, _, rfl, hb, e _ (by rw [gup_gup]; exact Le.new hp)⟩
  walk_at "w"
  refine ite_d (fun a8 => ?_) (fun a8 => ?_)
  · walk_at "w"
    exact ⟨xs, _, rfl, hb, e _ (Le.refl _)⟩
  walk_at "w"
  refine w_cal ?_
  walk_at "w"
  intro p hp
  have l : Le G (gup G p (.lst [.fn "product", .fn "quotient"])) := Le.new hp
  walk_at "w"
  obtain rfl | rfl : way = 11 ∨ way = 12 := by omega
  · show calD _ _ _ _ _ _ _ (.fn "product") _
    refine cal_fn (by decide +kernel) h54 ?_
    walk_at "w"
    exact ⟨xs, _, rfl, hb, e _ l⟩
  · show calD _ _ _ _ _ _ _ (.fn "quotient") _
    refine cal_fn (by decide +kernel) h55 ?_
    walk_at "w"
    exact ⟨xs, _, rfl, hb, e _ l⟩
 ) only [↓Dl.qTrue])
/-! ### the word of a refusal -/
def kindS : Nat → Str
  | 1 => "machine"
  | 4 => "value"
  | _ => "book"
def spKind : LSpec := fun r G Q _ => ∃ X : Exn → GH → Prop, (∀ Q' E', (∀ x G', X x G' → E' x G') → r Q' E' G) ∧ ∀ x G', X x G' → (x.cls = 1 ∨ x.cls = 3 ∨ x.cls = 4) ∧ Q (.str (kindS x.cls)) G'
theorem ifB0 {b : Bool} {A B : Prop} (h : b = false) (q : B) : if b = true then A else B := by rw [if_neg (by rw [h]; exact Bool.false_ne_true)]; exact q
theorem m_cnt3 {p : Addr} {x y z : Bool} {G : GH} {Q : QD} (h : G p = some (.lst [.bl x, .bl y, .bl z])) (e : ([V.bl x, .bl y, .bl z].countP fun u => eqV u (.bl true)) = 1) (q : Q (.int 1) G) : bmD .count (.ref p) [.bl true] G Q := Dl.unQ (by
 simp (disch := with_unfolding_all
  refine @id _ ?_
  simp only [bmD, cntD, h]
  refine ⟨rfl, rfl, ?_⟩
  rw [show ([D.bl x, .bl y, .bl z].map vOf) = [V.bl x, .bl y, .bl z] from rfl]
  show Q (.int (((([V.bl x, .bl y, .bl z].countP fun u => eqV u (.bl true)) : Nat)) : Int)) G
  rw [e]; exact q
 ) only [↓Dl.qTrue])
theorem m_idx3 {p : Addr} {x y z : Bool} {G : GH} {Q : QD} (j : Nat) (h : G p = some (.lst [.bl x, .bl y, .bl z])) (e1 : [V.bl x, .bl y, .bl z][j]? = some (.bl true)) (e2 : ∀ m u, m < j → [V.bl x, .bl y, .bl z][m]? = some u → eqV u (.bl true) = false) (q : Q (.int (j : Nat)) G) : bmD .index (.ref p) [.bl true] G Q := by
  simp only [bmD, idxD, h]
  exact ⟨rfl, rfl, j, .bl true, e1, rfl, e2, q⟩
theorem meet_kind (Δ : Nat → Option Spec) (Γ : Gam) (ha : ∀ j, j = 1 ∨ j = 3 ∨ j = 4 → Γ.all.contains j = true) :
    ∀ f c x cs r G Q, G c = some (.cod x cs) → spKind r G Q noX → wpTry Δ { Γ with act := some (f, c, x, cs, r) } B_law_law_kind_5cd6 { nx := fun _ => wk (Q .non), rt := fun v => wk (Q v), bk := fun _ _ => False, ct := fun _ _ => False, ex := fun _ _ _ => False } (startD 3 [.ref f]) G := Dl.unQ (by
 simp (disch := with_unfolding_all
  refine @id _ ?_
  intro f c x cs r G Q hc h
  obtain ⟨X, hr, hX⟩ := h
  show wpTry _ _ _ _ [some (.ref f), none, none] G
  unfold B_law_law_kind_5cd6 wpTry
  refine s_nil (wk.of (s_cons (s_exp (w_act rfl rfl hc (hr _ _ fun y G' hx => ?_)))))
  obtain ⟨hcl, q⟩ := hX y G' hx
  obtain ⟨cl, ns, ds⟩ := y
  refine ⟨ha _ hcl, ?_⟩
  dsimp only at hcl q ⊢
  rcases hcl with rfl | rfl | rfl
  · refine (if_pos (by decide)).mpr ?_
    refine wk.of fun a dd => ?_
    show wpSs _ _ _ _ [some (.ref f), some (.xc a dd ns ds), none] G'
    walk_at "w"
    intro p hp
    walk_at "w"
    refine ifB0 rfl ?_
    walk_at "w"
    refine m_cnt3 (x := true) (y := false) (z := false) gup_same rfl ?_
    walk_at "w"
    refine ifB0 rfl ?_
    walk_at "w"
    intro p2 hp2
    have hne := ne_some gup_same hp2
    rw [gup_ne (Ne.symm hne)] at hp2
    walk_at "w"
    refine m_idx3 (x := true) (y := false) (z := false) 0 ((gup_ne hne).trans gup_same) rfl (fun m u hm => absurd hm (Nat.not_lt_zero _)) ?_
    walk_at "w"
    exact ⟨_, (Le.new hp).gup hp2, q⟩
  · refine (if_pos (by decide)).mpr ?_
    refine wk.of fun a dd => ?_
    show wpSs _ _ _ _ [some (.ref f), some (.xc a dd ns ds), none] G'
    walk_at "w"
    intro p hp
    walk_at "w"
    refine ifB0 rfl ?_
    walk_at "w"
    refine m_cnt3 (x := false) (y := false) (z := true) gup_same rfl ?_
    walk_at "w"
    refine ifB0 rfl ?_
    walk_at "w"
    intro p2 hp2
    have hne := ne_some gup_same hp2
    rw [gup_ne (Ne.symm hne)] at hp2
    walk_at "w"
    refine m_idx3 (x := false) (y := false) (z := true) 2 ((gup_ne hne).trans gup_same) rfl (fun m u hm hu => by
      match m, hm, hu with
      | 0, _, hu => cases hu; rfl
      | 1, _, hu => cases hu; rfl) ?_
    walk_at "w"
    exact ⟨_, (Le.new hp).gup hp2, q⟩
  · refine (if_pos (by decide)).mpr ?_
    refine wk.of fun a dd => ?_
    show wpSs _ _ _ _ [some (.ref f), some (.xc a dd ns ds), none] G'
    walk_at "w"
    intro p hp
    walk_at "w"
    refine ifB0 rfl ?_
    walk_at "w"
    refine m_cnt3 (x := false) (y := true) (z := false) gup_same rfl ?_
    walk_at "w"
    refine ifB0 rfl ?_
    walk_at "w"
    intro p2 hp2
    have hne := ne_some gup_same hp2
    rw [gup_ne (Ne.symm hne)] at hp2
    walk_at "w"
    refine m_idx3 (x := false) (y := true) (z := false) 1 ((gup_ne hne).trans gup_same) rfl (fun m u hm hu => by
      match m, hm, hu with
      | 0, _, hu => cases hu; rfl) ?_
    walk_at "w"
    exact ⟨_, (Le.new hp).gup hp2, q⟩
 ) only [↓Dl.qTrue])
/-! ### one number beyond its bounds, or three or five of them -/
local macro_rules | `(tactic| walk_at "heap2") => `(tactic| first | exact hG_a | exact hG_b (by assumption) | (refine (hG_ne (by first | assumption | exact Ne.symm (by assumption)) (by first | assumption | exact Ne.symm (by assumption))).trans ?_; walk_at "heap") | (refine Le.at (by assumption) ?_; walk_at "heap") | (refine LeX.at (by assumption) (by first | assumption | exact Ne.symm (by assumption)) ?_; walk_at "heap"))
local macro_rules | `(tactic| walk_at "le") => `(tactic| first | exact Le.refl _ | assumption | (refine Le.trans ?_ (by assumption); walk_at "le") | (refine Le.push ?_ (by assumption); walk_at "le") | (refine hG_le ?_; walk_at "le"))
local macro_rules | `(tactic| walk_at "own") => `(tactic| first
  | ((with_reducible refine newHN (by assumption) ?_); intro x0 x1 x2 x3 x6 x4 x5)
  | ((with_reducible refine newK ?_); intro x0 x1 x2 x3 x4)
  | ((with_reducible refine' nextH (by assumption) (by assumption) ?k1 ?_); (case k1 => (first | (constructor <;> omega) | (simp only [List.length_map, List.length_append, List.length_take, List.length_drop]; constructor <;> omega)))))
local macro_rules | `(tactic| walk_at "pre") => `(tactic| first
  | ((with_reducible refine' c_in_i2 ?k1 ?_); (case k1 => walk_at "heap"))
  | ((with_reducible refine' c_in_i3 ?k1 ?_); (case k1 => walk_at "heap"))
  | ((with_reducible refine' c_in_s2 ?k1 ?_); (case k1 => walk_at "heap"))
  | ((with_reducible refine' c_in_s3 ?k1 ?_); (case k1 => walk_at "heap"))
  | ((with_reducible refine' x_pickI ?k1 ?k2 ?_); (case k1 => walk_at "heap"); (case k2 => (simp only [List.length_map]; constructor <;> omega)))
  | ((with_reducible refine' x_last ?k1 ?k2 ?_); (case k1 => walk_at "heap"); (case k2 => omega))
  | ((with_reducible refine' x_pick2 ?k1 ?k2 ?_); (case k1 => walk_at "heap"); (case k2 => (constructor <;> omega)))
  | ((with_reducible refine' x_pick2s ?k1 ?k2 ?_); (case k1 => walk_at "heap"); (case k2 => (constructor <;> omega)))
  | ((with_reducible refine' x_pick3 ?k1 ?k2 ?_); (case k1 => walk_at "heap"); (case k2 => (constructor <;> omega)))
  | ((with_reducible refine' x_pick4 ?k1 ?k2 ?_); (case k1 => walk_at "heap"); (case k2 => (constructor <;> omega)))
  | ((with_reducible refine' m_appN ?k1 (by assumption) (by assumption) (by assumption) ?k5 ?k6 ?_); (case k1 => walk_at "heap"); (case k5 => walk_at "le"); (case k6 => (simp only [List.length_map, List.length_append, List.length_cons, List.length_nil, List.length_take, List.length_drop, sizeLine_eq]; omega)); intro x0 x1 x2 x3)
  | ((with_reducible refine' sl_dL ?k1 ?k2 ?_); (case k1 => walk_at "heap"); (case k2 => (simp only [List.length_map, List.length_append, List.length_cons, List.length_nil, List.length_take, List.length_drop]; constructor <;> omega)))
  | ((with_reducible refine' sl_tL ?k1 ?k2 ?_); (case k1 => walk_at "heap"); (case k2 => (simp only [List.length_map, List.length_append, List.length_cons, List.length_nil, List.length_take, List.length_drop]; constructor <;> omega)))
  | ((with_reducible refine' o_rep1 ?k2 ?_); (case k2 => (constructor <;> omega)))
  | ((with_reducible refine' sl_dT ?k2 ?_); (case k2 => (simp only [List.length_map, List.length_append, List.length_cons, List.length_nil, List.length_take, List.length_drop]; constructor <;> omega)))
  | ((with_reducible refine' sl_tT ?k2 ?_); (case k2 => (simp only [List.length_map, List.length_append, List.length_cons, List.length_nil, List.length_take, List.length_drop]; constructor <;> omega)))
  | ((with_reducible refine' o_addL ?k1 ?k2 ?k3 ?_); (case k1 => walk_at "heap"); (case k2 => walk_at "heap"); (case k3 => (simp only [List.length_map, List.length_append, List.length_cons, List.length_nil, List.length_take, List.length_drop, sizeLine_eq]; omega))))
def spBadM : Spec := fun ds G Q _ => ∃ (a c : Addr) (S : HS) (G0 : GH) (m : Mc), ds = [.ref a, mD m] ∧ G = hG G0 a c S ∧ a ≠ c ∧ S.ok ∧ m.ok ∧ ∀ (xs : List Int) S', okM xs = false → S'.ok → Q (.tup (xs.map .int)) (hG G0 a c S')
theorem okM4 {b s w c : Int} (h : ¬ (2 ≤ b ∧ b ≤ 12 ∧ 1 ≤ s ∧ s ≤ 6 ∧ s ≤ w ∧ w ≤ 16 ∧ 1 ≤ c ∧ c ≤ 10)) : okM [b, s, w, c] = false := Dl.unQ (by
 simp (disch := with_unfolding_all
  refine @id _ ?_
  show (decide (2 ≤ b) && decide (b ≤ 12) && (decide (1 ≤ s) && decide (s ≤ 6)) && (decide (s ≤ w) && decide (w ≤ 16)) && (decide (1 ≤ c) && decide (c ≤ 10))) = false
  cases e : (decide (2 ≤ b) && decide (b ≤ 12) && (decide (1 ≤ s) && decide (s ≤ 6)) && (decide (s ≤ w) && decide (w ≤ 16)) && (decide (1 ≤ c) && decide (c ≤ 10))) with
  | false => rfl
  | true =>
    simp only [Bool.and_eq_true, decide_eq_true_eq] at e
    exact absurd ⟨e.1.1.1.1, e.1.1.1.2, e.1.1.2.1, e.1.1.2.2, e.1.2.1, e.1.2.2, e.2.1, e.2.2⟩ h
 ) only [↓Dl.qTrue])
theorem meet_badM (Δ : Nat → Option Spec) (Γ : Gam) (h29 : Δ 29 = some spNext) : Meet Δ Γ 8 2 B_law_law_bad_5d91 spBadM := Dl.unQ (by
 simp (disch := with_unfolding_all
  refine @id _ ?_
  intro ds G Q E _ h
  obtain ⟨a, c, S, G, m, rfl, rfl, hac, ok, mok, q⟩ := h
  have ⟨b2, b12, s1, s6, sw, w16, c1, c10⟩ := mok
  show wpSs _ _ _ _ [some (.ref a), some (mD m), none, none, none, none, none, none] _
  unfold B_law_law_bad_5d91
  walk_at "w"
  intro r S r0 r1 ok
  walk_at "w"
  rename_i p G5 n1 n2 n3 l5 h5
  intro k S k0 k1 ok
  have l : Le G G5 := by walk_at "le"
  have hh := (hG_ne (S := S) n1 n2).trans h5
  have fin : ∀ xs : List Int, okM xs = false → wk (Q (.tup (xs.map .int))) (hG G5 a c S) := fun xs hx => ⟨hG G a c S, hG_le l, q xs S hx ok⟩
  obtain rfl | rfl | rfl | rfl | rfl | rfl | rfl | rfl | rfl | rfl : k = 0 ∨ k = 1 ∨ k = 2 ∨ k = 3 ∨ k = 4 ∨ k = 5 ∨ k = 6 ∨ k = 7 ∨ k = 8 ∨ k = 9 := by omega
  · exact x_lst hh (v := .tup ([1 - r, 1, 1, 1].map .int)) rfl (fin _ (okM4 (by omega)))
  · exact x_lst hh (v := .tup ([13 + r, 1, 1, 1].map .int)) rfl (fin _ (okM4 (by omega)))
  · exact x_lst hh (v := .tup ([m.b, 0 - r, m.w, m.c].map .int)) rfl (fin _ (okM4 (by omega)))
  · exact x_lst hh (v := .tup ([m.b, 7 + r, 16, 1].map .int)) rfl (fin _ (okM4 (by omega)))
  · exact x_lst hh (v := .tup ([m.b, m.s, m.s - 1 - r, m.c].map .int)) rfl (fin _ (okM4 (by omega)))
  · exact x_lst hh (v := .tup ([m.b, m.s, 17 + r, m.c].map .int)) rfl (fin _ (okM4 (by omega)))
  · exact x_lst hh (v := .tup ([m.b, m.s, m.w, 0 - r].map .int)) rfl (fin _ (okM4 (by omega)))
  · exact x_lst hh (v := .tup ([m.b, m.s, m.w, 11 + r].map .int)) rfl (fin _ (okM4 (by omega)))
  · exact x_lst hh (v := .tup ([m.b, m.s, m.w].map .int)) rfl (fin _ rfl)
  · exact x_lst hh (v := .tup ([m.b, m.s, m.w, m.c, 1].map .int)) rfl (fin _ rfl)
 ) only [↓Dl.qTrue])
end
set_option maxRecDepth 100000
set_option maxHeartbeats 4000000
section
open PySem PySem.Spec PyProof.Rows L2
local macro_rules | `(tactic| walk_at "heap2") => `(tactic| first | exact hG_a | exact hG_b (by assumption) | (refine (hG_ne (by first | assumption | exact Ne.symm (by assumption)) (by first | assumption | exact Ne.symm (by assumption))).trans ?_; walk_at "heap") | (refine (by assumption : Le _ _) _ _ ?_; walk_at "heap"))
/-- 133: law.law.c664(0 _law_script, 1 _law_h, 2 _law_machine_here, 3 _law_bad_here, 4 _law_way, 5 _law_good, 6 _law_book, 7 _law_base, 8 _law_far, 9 _law_some, 10 _law_values, 11 _law_kept) -/
def B_law_law_c664 : Sms :=
  (.cons (.asg (.name 1) (.lst (.cons (.int 59) (.cons (.blt .list (.cons (.var 0) .nil)) (.cons (.int 0) .nil)))))
  (.cons (.asg (.name 2) (.call 78 (.cons (.var 1) (.cons (.int 12) .nil))))
  (.cons (.asg (.name 3) (.call 132 (.cons (.var 1) (.cons (.var 2) .nil))))
  (.cons (.fors (.name 4) (.rng (.int 13))
  (.cons (.ifs (.cmp .NotEq (.lamc "law" 131 (.call 130 (.cons (.var 4) (.cons (.var 3) .nil)))) (.str "machine"))
  (.cons (.ret (.bl false))
  .nil)
  .nil)
  .nil))
  (.cons (.fors (.name 5) (.val (.lst (.cons (.var 2) (.cons (.tup (.cons (.int 2) (.cons (.int 1) (.cons (.int 1) (.cons (.int 1) .nil))))) (.cons (.tup (.cons (.int 12) (.cons (.int 6) (.cons (.int 16) (.cons (.int 10) .nil))))) .nil)))))
  (.cons (.ifs (.cmp .IsNot (.call 1 (.cons (.var 5) .nil)) .non)
  (.cons (.ret (.bl false))
  .nil)
  .nil)
  .nil))
  (.cons (.asg (.name 6) (.tup (.cons (.tup (.cons (.tup (.cons (.str "n") (.cons (.int 1) (.cons (.int 1) .nil)))) (.cons (.tup (.cons (.str "d") (.cons (.int 1) (.cons (.int 0) .nil)))) .nil))) (.cons (.tup (.cons (.tup (.cons (.str "one") .nil)) .nil)) (.cons (.tup .nil) .nil)))))
  (.cons (.asg (.name 7) (.ix (.var 2) (.int 0)))
  (.cons (.asg (.name 8) (.call 29 (.cons (.var 1) (.cons (.int 999) .nil))))
  (.cons (.asg (.name 9) (.lst (.cons (.dsp [] .nil) (.cons (.dsp ["n"] (.cons (.int 1) .nil)) (.cons (.dsp ["n", "d", "x"] (.cons (.int 1) (.cons (.int 0) (.cons (.int 0) .nil)))) (.cons (.dsp ["n", "d"] (.cons (.int 0) (.cons (.int 0) .nil))) (.cons (.dsp ["n", "d"] (.cons (.bin .Add (.var 7) (.var 8)) (.cons (.int 0) .nil))) .nil)))))))
  (.cons (.exp (.met .append (.var 9) (.cons (.dsp ["n", "d"] (.cons (.int 1) (.cons (.bin .Sub (.neg (.int 1)) (.var 8)) .nil))) .nil)))
  (.cons (.fors (.name 10) (.val (.var 9))
  (.cons (.asg (.name 11) (.blt .dict (.cons (.var 10) .nil)))
  (.cons (.ifs (.boo .Or (.cons (.cmp .NotEq (.lamc "law" 131 (.call 27 (.cons (.var 2) (.cons (.var 6) (.cons (.var 10) .nil))))) (.str "value")) (.cons (.cmp .NotEq (.var 10) (.var 11)) .nil)))
  (.cons (.ret (.bl false))
  .nil)
  .nil)
  (.cons (.ifs (.cmp .NotEq (.lamc "law" 131 (.call 27 (.cons (.var 2) (.cons (.tup (.cons (.ix (.var 6) (.int 0)) (.cons (.tup (.cons (.tup (.cons (.str "fly") .nil)) .nil)) (.cons (.tup .nil) .nil)))) (.cons (.var 10) .nil))))) (.str "book"))
  (.cons (.ret (.bl false))
  .nil)
  .nil)
  .nil))))
  (.cons (.ret (.cmp .Eq (.call 27 (.cons (.var 2) (.cons (.var 6) (.cons (.dsp ["n", "d"] (.cons (.bin .Sub (.var 7) (.int 1)) (.cons (.bin .Sub (.var 7) (.int 1)) .nil))) .nil)))) (.tup (.cons (.int 0) (.cons (.int 0) .nil)))))
  .nil))))))))))))
theorem b_listI {x : D} {xs : List D} {G : GH} {Q : QD} (h : itemsD x G = some xs) (q : newL xs G Q) : bfD .list [x] G Q := by simp only [bfD, listD, h]; exact q
theorem hits13 {G : GH} {vs : Vs} : ∀ {ws : Vs}, (∀ x ∈ ws, vs.lookup x.1 = some x.2) → hitsD G (dkD vs) (dkD ws) = some true
  | [], _ => rfl
  | (x, v) :: r, h => by
    have e : valD (dkD vs) (.inr x) = some (.int v) := by rw [val_dk, h (x, v) (List.mem_cons_self ..)]; rfl
    have ih := hits13 (G := G) (vs := vs) (ws := r) fun y hy => h y (List.mem_cons_of_mem _ hy)
    show hitsD G (dkD vs) ((.inr x, .int v) :: dkD r) = some true
    unfold hitsD
    rw [e, ih]
    simp [pyG, pyD, SeqAt.shaped, PyData.canLay0, PyData.depth, PyData.eqv]
theorem c_ne_dk13 {x y : Addr} {vs : Vs} {G : GH} {Q : QD} (hx : G x = some (.dk (dkD vs))) (hy : G y = some (.dk (dkD vs))) (nd : ∀ x ∈ vs, vs.lookup x.1 = some x.2) (q : Q (.bl false) G) : cmpD .NotEq (.ref x) (.ref y) G Q := by
  simp only [cmpD, eqX, dk2, hx, hy]
  rw [hits13 nd]
  simpa using q
def lawG13 (Δ : Nat → Option Spec) (Γ : Gam) : Gam := { v := Γ.v, all := Γ.all, me := some "law", l := fun g => if g = 131 then some spKind else none, lw := fun b σ Q E G => wpE Δ Γ b E σ G Q }
abbrev ins13 : List Inp := [⟨"n", 1, 1⟩, ⟨"d", 1, 0⟩]
abbrev bk13 : Bk := ⟨ins13, [.one], []⟩
abbrev fly13 : Bk := ⟨ins13, [.bad "fly" []], []⟩
theorem ok13 : bk13.ok := ⟨fun i hi => by
  simp only [List.mem_cons, List.not_mem_nil, or_false] at hi
  rcases hi with rfl | rfl <;> (show PyData.strOk _ = true; decide +kernel), by decide, fun i hi => by
  simp only [List.mem_cons, List.not_mem_nil, or_false] at hi
  rcases hi with rfl | rfl <;> (show Str.length _ ≤ 1000; decide +kernel), fun d hd => by rw [List.mem_singleton.mp hd]; trivial, fun c hc => by cases hc⟩
theorem okf13 : fly13.ok := ⟨ok13.i1, ok13.i2, ok13.i3, fun d hd => by rw [List.mem_singleton.mp hd]; exact ⟨0, rfl, by decide⟩, fun c hc => by cases hc⟩
theorem inp13a {m : Mc} (h : 1 ≤ m.s) : isInputB m ins13 0 ⟨"n", 1, 1⟩ = true := by
  show (isNameB "n" && !decide (("n" : Str) ∈ ([] : List Str)) && decide ((1 : Int) ≤ 1) && decide ((1 : Int) ≤ m.s) && decide ((1 : Int) ∈ ([0, 1] : List Int))) = true
  rw [decide_eq_true h]; decide +kernel
theorem inp13b {m : Mc} (h : 1 ≤ m.s) : isInputB m ins13 1 ⟨"d", 1, 0⟩ = true := by
  show (isNameB "d" && !decide (("d" : Str) ∈ (["n"] : List Str)) && decide ((1 : Int) ≤ 1) && decide ((1 : Int) ≤ m.s) && decide ((0 : Int) ∈ ([0, 1] : List Int))) = true
  rw [decide_eq_true h]; decide +kernel
theorem good13 {m : Mc} (h : 1 ≤ m.s) : bookBad m bk13 = none := by
  have e : badFrom (isInputB m ins13) 0 ins13 = none := by simp only [badFrom, inp13a h, inp13b h, if_true]
  rw [bookBad, if_pos (by decide), e]; rfl
theorem badf13 {m : Mc} (h : 1 ≤ m.s) : bookBad m fly13 = some ((0 : Int), ("deed" : Str)) := by
  have e : badFrom (isInputB m ins13) 0 ins13 = none := by simp only [badFrom, inp13a h, inp13b h, if_true]
  rw [bookBad, if_pos (by decide), e]; rfl
/-- values of other inputs: the keys alone tell -/
theorem vals13k {m : Mc} {vs : Vs} (h : decide ((vs.map (·.1)).Perm (ins13.map Inp.n)) = false) : valuesB m ins13 vs = false := by unfold valuesB; rw [h]; rfl
theorem vals13 {m : Mc} {n d : Int} : valuesB m ins13 [("n", n), ("d", d)] = (decide (1 ≤ n) && decide (n < m.b ^ 1) && (decide (0 ≤ d) && decide (d < m.b ^ 1))) := Dl.unQ (by
 simp (disch := with_unfolding_all
  refine @id _ ?_
  have e1 : decide ((([("n", n), ("d", d)] : Vs).map (·.1)).Perm (ins13.map Inp.n)) = true := decide_eq_true (List.Perm.refl _)
  have e2 : ([("n", n), ("d", d)] : Vs).lookup ("n" : Str) = some n := rfl
  have e3 : ([("n", n), ("d", d)] : Vs).lookup ("d" : Str) = some d := by
    rw [List.lookup_cons, show (("d" : Str) == "n") = false by decide +kernel]; rfl
  unfold valuesB
  rw [e1]
  simp only [List.all_cons, List.all_nil, e2, e3, Bool.and_true, Bool.true_and]
  rfl
 ) only [↓Dl.qTrue])
/-- such values are refused -/
structure Odd13 (m : Mc) (vs : Vs) : Prop where
  len : vs.length ≤ 40
  str : ∀ x ∈ vs, PyData.strOk x.1 = true
  nd : ∀ x ∈ vs, vs.lookup x.1 = some x.2
  bad : valuesB m ins13 vs = false
theorem sN : PyData.strOk ("n" : Str) = true := by decide +kernel
theorem sD13 : PyData.strOk ("d" : Str) = true := by decide +kernel
theorem sX : PyData.strOk ("x" : Str) = true := by decide +kernel
theorem dn13 : (("d" : Str) == "n") = false := by decide +kernel
theorem xn13 : (("x" : Str) == "n") = false := by decide +kernel
theorem xd13 : (("x" : Str) == "d") = false := by decide +kernel
theorem odd0 {m : Mc} : Odd13 m [] where
  len := by decide
  str := fun x hx => by cases hx
  nd := fun x hx => by cases hx
  bad := vals13k (decide_eq_false fun z => by have := z.length_eq; simp at this)
theorem odd1 {m : Mc} {n : Int} : Odd13 m [("n", n)] where
  len := by show 1 ≤ 40; decide
  str := fun x hx => by rw [List.mem_singleton.mp hx]; exact sN
  nd := fun x hx => by rw [List.mem_singleton.mp hx]; rfl
  bad := vals13k (decide_eq_false fun z => by have := z.length_eq; simp at this)
theorem odd3 {m : Mc} {n d x : Int} : Odd13 m [("n", n), ("d", d), ("x", x)] where
  len := by show 3 ≤ 40; decide
  str := fun x hx => by
    simp only [List.mem_cons, List.not_mem_nil, or_false] at hx
    rcases hx with rfl | rfl | rfl
    · exact sN
    · exact sD13
    · exact sX
  nd := fun x hx => by
    simp only [List.mem_cons, List.not_mem_nil, or_false] at hx
    rcases hx with rfl | rfl | rfl
    · rfl
    · simp only [List.lookup_cons, dn13]; rfl
    · simp only [List.lookup_cons, xn13, xd13]; rfl
  bad := vals13k (decide_eq_false fun z => by have := z.length_eq; simp at this)
theorem odd2 {m : Mc} {n d : Int} (h : ¬ (1 ≤ n ∧ n < m.b ∧ 0 ≤ d)) : Odd13 m [("n", n), ("d", d)] where
  len := by show 2 ≤ 40; decide
  str := fun x hx => by
    simp only [List.mem_cons, List.not_mem_nil, or_false] at hx
    rcases hx with rfl | rfl
    · exact sN
    · exact sD13
  nd := fun x hx => by
    simp only [List.mem_cons, List.not_mem_nil, or_false] at hx
    rcases hx with rfl | rfl
    · rfl
    · simp only [List.lookup_cons, dn13]; rfl
  bad := Dl.unQ (by
 simp (disch := with_unfolding_all
    refine @id _ ?_
    rw [vals13, Int.pow_succ, Int.pow_zero, Int.one_mul]
    cases e : (decide (1 ≤ n) && decide (n < m.b) && (decide (0 ≤ d) && decide (d < m.b))) with
    | false => rfl
    | true =>
      simp only [Bool.and_eq_true, decide_eq_true_eq] at e
      exact absurd ⟨e.1.1, e.1.2, e.2.1⟩ h
 ) only [↓Dl.qTrue])
theorem wkLe13 {P : GH → Prop} {G G1 : GH} (l : Le G G1) (q : P G) : wk P G1 := ⟨G, l, q⟩
local macro_rules | `(tactic| walk_at "pre") => `(tactic| (with_reducible refine c_ne_dk13 (by assumption) (by assumption) (by assumption) ?_))
theorem dsp13 {Δ : Nat → Option Spec} {Γ : Gam} {es : Exs} {E : XD} {σ : SD} {G : GH} {K : List D → GH → Prop} {p : Addr} {n : Nat} {kvs : List (Key × D)} (vs : Vs) (e : kvs = dkD vs) (hp : G p = none) (hN : NoCod G) (hO : OneTab "law" G)
    (q : ∀ G1, Le G G1 → G1 p = some (.dk (dkD vs)) → NoCod G1 → OneTab "law" G1 → wpEs Δ Γ es E σ G1 K) : n = n ∧ gup G p (.dk []) p = some (.dk []) ∧ wpEs Δ Γ es E σ (gup (gup G p (.dk [])) p (.dk kvs)) K := by
  subst e
  rw [gup_gup]
  exact ⟨rfl, gup_same, q _ (Le.new hp) gup_same (hN.gup fun _ _ z => by cases z) (hO.gup (fun _ z => by cases z) fun y z => by rw [hp] at z; cases z)⟩
theorem meet_law13 (Δ : Nat → Option Spec) (Γ : Gam) (h1 : Δ 1 = some spNeedM) (h27 : Δ 27 = some spWorked) (h29 : Δ 29 = some spNext) (h78 : Δ 78 = some spMachine) (h130 : Δ 130 = some spAsk) (h132 : Δ 132 = some spBadM) :
    Meet Δ (lawG13 Δ Γ) 12 1 B_law_law_c664 (spLawT "law") := Dl.unQ (by
 simp (disch := with_unfolding_all
  refine @id _ ?_
  intro ds G Q E _ h
  obtain ⟨ns, d, P, rfl, hi, hn, hP, q⟩ := h
  show wpSs _ _ _ _ [some d, none, none, none, none, none, none, none, none, none, none, none] G
  unfold B_law_law_c664
  walk_at "v"
  refine b_listI hi ?_
  intro c hc
  have cP : c ≠ P := (ne_some hP hc).symm
  walk_at "v"
  intro a ha
  have ac : a ≠ c := (ne_some gup_same ha).symm
  have aP : a ≠ P := (ne_some ((gup_ne (Ne.symm cP)).trans hP) ha).symm
  walk_at "v"
  generalize hT : gup (fun _ => none) P (.tbl "law") = T
  have tP : T P = some (.tbl "law") := by rw [← hT]; exact gup_same
  have tO : ∀ x o, T x = some o → x = P ∧ o = .tbl "law" := fun x o e => by
    rw [← hT] at e
    by_cases z : x = P
    · subst z; rw [gup_same] at e; cases e; exact ⟨rfl, rfl⟩
    · rw [gup_ne z] at e; cases e
  have one : ∀ S : HS, OneTab "law" (hG T a c S) := fun S => by
    refine ⟨⟨P, by rw [hG_ne (Ne.symm aP) (Ne.symm cP)]; exact tP⟩, fun P' y e => ?_⟩
    by_cases z1 : P' = a
    · subst z1; rw [hG_a] at e; cases e
    · by_cases z2 : P' = c
      · subst z2; rw [hG_b ac] at e; cases e
      · rw [hG_ne z1 z2] at e; have := (tO _ _ e).2; cases this; rfl
  have nco : ∀ S : HS, NoCod (hG T a c S) := fun S b y us e => by
    by_cases z1 : b = a
    · subst z1; rw [hG_a] at e; cases e
    · by_cases z2 : b = c
      · subst z2; rw [hG_b ac] at e; cases e
      · rw [hG_ne z1 z2] at e; have := (tO _ _ e).2; cases this
  refine wkLe13 (G := hG T a c ⟨59, 0, ns⟩) (le_hG gup_same ((gup_ne (Ne.symm ac)).trans gup_same) fun x o z1 z2 e => ?_) ?_
  · obtain ⟨rfl, rfl⟩ := tO _ _ e
    rw [gup_ne z1, gup_ne z2]; exact hP
  walk_at "w"
  refine ⟨a, c, ⟨59, 0, ns⟩, T, 12, rfl, rfl, ac, lawStart hn 59 (by decide) (by decide), by decide, by decide, fun m S mok ok => ?_⟩
  have ⟨b2, b12, s1, s6, sw, w16, c1, c10⟩ := mok
  walk_at "w"
  refine ⟨a, c, S, T, m, rfl, rfl, ac, ok, mok, fun xs S hb ok => ?_⟩
  walk_at "w"
  refine forW_st (fun i σ => ∃ x, σ = [some d, some (.ref a), some (mD m), some (.tup (xs.map .int)), x, none, none, none, none, none, none, none]) ⟨_, rfl⟩ trivial ?_ ?_
  · rintro i σ d' ⟨x, rfl⟩ hd N hN
    obtain ⟨hi13, rfl⟩ := rangeD_get hd
    walk_at "w"
    refine w_lamc (L := spKind) rfl rfl (one S).1 (one S).2 fun cc cs hcc => ?_
    refine ⟨fun y G' => y = ⟨1, [], []⟩ ∧ Le (gup (hG T a c S) cc (.cod "law" cs)) G', fun Q' E' hE => ?_, fun y G' ⟨e, l⟩ => ?_⟩
    · show wpE Δ Γ (.call 130 _) E' _ _ Q'
      walk_at "w"
      exact ⟨_, xs, rfl, by omega, by have : (13 : Int).toNat = 13 := rfl; omega, hb, fun G' l => hE _ _ ⟨rfl, l⟩⟩
    · subst e
      refine ⟨.inl rfl, ?_⟩
      show wpE _ _ (.str "machine") _ _ G' _
      walk_at "w"
      exact hN _ _ ⟨_, rfl⟩ ((lam_le (nco S) hcc).trans l)
  rintro σ ⟨x, rfl⟩
  refine wk.of ?_
  walk_at "w"
  intro p hp
  walk_at "w"
  refine forW_st (fun i σ => ∃ x y, σ = [some d, some (.ref a), some (mD m), some (.tup (xs.map .int)), x, y, none, none, none, none, none, none]) ⟨_, _, rfl⟩ gup_same ?_ ?_
  · rintro i σ d' ⟨x, y, rfl⟩ hd N hN
    obtain ⟨m', mok', rfl⟩ : ∃ m' : Mc, m'.ok ∧ d' = mD m' := by
      have hd' := List.mem_of_getElem? hd
      simp only [List.mem_cons, List.not_mem_nil, or_false] at hd'
      rcases hd' with rfl | rfl | rfl
      · exact ⟨m, mok, rfl⟩
      · exact ⟨⟨2, 1, 1, 1⟩, ⟨by decide, by decide, by decide, by decide, by decide, by decide, by decide, by decide⟩, rfl⟩
      · exact ⟨⟨12, 6, 16, 10⟩, ⟨by decide, by decide, by decide, by decide, by decide, by decide, by decide, by decide⟩, rfl⟩
    walk_at "w"
    refine needM_i mok' ?_
    walk_at "w"
    refine ifB0 rfl ?_
    walk_at "w"
    exact hN _ _ ⟨_, _, rfl⟩ (Le.refl _)
  rintro σ ⟨x, y, rfl⟩
  refine wkLe13 (Le.new hp) ?_
  walk_at "w"
  refine nextH ac ok (by constructor <;> decide) fun r S r0 r1 ok => ?_
  walk_at "w"
  intro p1 hp1
  walk_at "w"
  refine dsp13 [] rfl hp1 (nco S) (one S) fun G1 l1 f1 n1 o1 => ?_
  walk_at "w"
  intro p2 hp2
  walk_at "w"
  refine dsp13 [("n", 1)] rfl hp2 n1 o1 fun G2 l2 f2 n2 o2 => ?_
  walk_at "w"
  intro p3 hp3
  walk_at "w"
  refine dsp13 [("n", 1), ("d", 0), ("x", 0)] rfl hp3 n2 o2 fun G3 l3 f3 n3 o3 => ?_
  walk_at "w"
  intro p4 hp4
  walk_at "w"
  refine dsp13 [("n", 0), ("d", 0)] rfl hp4 n3 o3 fun G4 l4 f4 n4 o4 => ?_
  walk_at "w"
  intro p5 hp5
  walk_at "w"
  refine dsp13 [("n", m.b + r), ("d", 0)] rfl hp5 n4 o4 fun G5 l5 f5 n5 o5 => ?_
  walk_at "w"
  intro s hs
  have e1 := l5 _ _ (l4 _ _ (l3 _ _ (l2 _ _ f1)))
  have e2 := l5 _ _ (l4 _ _ (l3 _ _ f2))
  have e3 := l5 _ _ (l4 _ _ f3)
  have e4 := l5 _ _ f4
  walk_at "w"
  intro p6 hp6
  walk_at "w"
  have s6ne : p6 ≠ s := (ne_some gup_same hp6).symm
  refine dsp13 [("n", 1), ("d", -1 - r)] rfl hp6 (n5.gup fun _ _ z => by cases z) (o5.gup (fun _ z => by cases z) fun y z => by rw [hs] at z; cases z) fun G6 l6 f6 n6 o6 => ?_
  have hs6 := l6 _ _ gup_same
  walk_at "w"
  have keep : gup G6 s (.lst ([D.ref p1, D.ref p2, D.ref p3, D.ref p4, D.ref p5] ++ [D.ref p6])) s = some (.lst ([D.ref p1, D.ref p2, D.ref p3, D.ref p4, D.ref p5] ++ [D.ref p6])) := gup_same
  have nH : NoCod (gup G6 s (.lst ([D.ref p1, D.ref p2, D.ref p3, D.ref p4, D.ref p5] ++ [D.ref p6]))) := n6.gup fun _ _ z => by cases z
  have oH : OneTab "law" (gup G6 s (.lst ([D.ref p1, D.ref p2, D.ref p3, D.ref p4, D.ref p5] ++ [D.ref p6]))) := o6.gup (fun _ z => by cases z) fun y z => by rw [hs6] at z; cases z
  have at_ : ∀ g vs, G5 g = some (.dk (dkD vs)) → gup G6 s (.lst ([D.ref p1, D.ref p2, D.ref p3, D.ref p4, D.ref p5] ++ [D.ref p6])) g = some (.dk (dkD vs)) := fun g vs e => by
    have ne := ne_some e hs
    exact (gup_ne ne).trans (l6 _ _ ((gup_ne ne).trans e))
  have hall : ∀ it ∈ [D.ref p1, D.ref p2, D.ref p3, D.ref p4, D.ref p5] ++ [D.ref p6], ∃ g vs, it = .ref g ∧ gup G6 s (.lst ([D.ref p1, D.ref p2, D.ref p3, D.ref p4, D.ref p5] ++ [D.ref p6])) g = some (.dk (dkD vs)) ∧ Odd13 m vs := by
    intro it hit
    simp only [List.cons_append, List.nil_append, List.mem_cons, List.not_mem_nil, or_false] at hit
    rcases hit with rfl | rfl | rfl | rfl | rfl | rfl
    · exact ⟨_, _, rfl, at_ _ _ e1, odd0⟩
    · exact ⟨_, _, rfl, at_ _ _ e2, odd1⟩
    · exact ⟨_, _, rfl, at_ _ _ e3, odd3⟩
    · exact ⟨_, _, rfl, at_ _ _ e4, odd2 (by omega)⟩
    · exact ⟨_, _, rfl, at_ _ _ f5, odd2 (by omega)⟩
    · exact ⟨_, _, rfl, (gup_ne s6ne).trans f6, odd2 (by omega)⟩
  generalize gup G6 s (.lst ([D.ref p1, D.ref p2, D.ref p3, D.ref p4, D.ref p5] ++ [D.ref p6])) = HH at keep nH oH hall ⊢
  refine forW_st (fun i σ => ∃ x y z w, σ = [some d, some (.ref a), some (mD m), some (.tup (xs.map .int)), x, y, some bk13.d, some (.int m.b), some (.int r), some (.ref s), z, w]) ⟨_, _, _, _, rfl⟩ keep ?_ ?_
  · rintro i σ d' ⟨x1, y1, z1, w1, rfl⟩ hd N hN
    obtain ⟨g, vs, rfl, hg, od⟩ := hall d' (List.mem_of_getElem? hd)
    walk_at "w"
    intro kp hk
    have nk : NoCod (gup HH kp (.dk (dkD vs))) := nH.gup fun _ _ z => by cases z
    have ok' : OneTab "law" (gup HH kp (.dk (dkD vs))) := oH.gup (fun _ z => by cases z) fun y z => by rw [hk] at z; cases z
    have hgk : gup HH kp (.dk (dkD vs)) g = some (.dk (dkD vs)) := (gup_ne (ne_some hg hk)).trans hg
    walk_at "w"
    refine w_lamc (L := spKind) rfl rfl ok'.1 ok'.2 fun cc cs hcc => ?_
    have l0 := lam_le (x := "law") (cs := cs) nk hcc
    refine ⟨fun y G' => y = ⟨4, [], []⟩ ∧ Le (gup (gup HH kp (.dk (dkD vs))) cc (.cod "law" cs)) G', fun Q' E' hE => ?_, fun y G' ⟨e, l⟩ => ?_⟩
    · show wpE Δ Γ (.call 27 _) E' _ _ Q'
      walk_at "w"
      exact ⟨m, bk13, g, vs, rfl, l0 _ _ hgk, mok, ok13, od.len, od.str, fun k w h => (by rw [good13 s1] at h; cases h), fun _ _ G' l => hE _ _ ⟨rfl, l⟩, fun _ h => (by rw [od.bad] at h; cases h)⟩
    subst e
    refine ⟨.inr (.inr rfl), ?_⟩
    have hx := l _ _ (l0 _ _ hgk)
    have hy := l _ _ (l0 _ _ gup_same)
    have hnd := od.nd
    show wpE _ _ (.str "value") _ _ G' _
    walk_at "v"
    refine wkLe13 (l0.trans l) ?_
    walk_at "w"
    refine w_lamc (L := spKind) rfl rfl ok'.1 ok'.2 fun cc cs hcc => ?_
    have l0 := lam_le (x := "law") (cs := cs) nk hcc
    refine ⟨fun y G' => y = badBook 0 "deed" ∧ Le (gup (gup HH kp (.dk (dkD vs))) cc (.cod "law" cs)) G', fun Q' E' hE => ?_, fun y G' ⟨e, l⟩ => ?_⟩
    · show wpE Δ Γ (.call 27 _) E' _ _ Q'
      walk_at "w"
      exact ⟨m, fly13, g, vs, rfl, l0 _ _ hgk, mok, okf13, od.len, od.str, fun k w h G' l => (by rw [badf13 s1] at h; cases h; exact hE _ _ ⟨rfl, l⟩), fun h => (by rw [badf13 s1] at h; cases h), fun h => (by rw [badf13 s1] at h; cases h)⟩
    subst e
    refine ⟨.inr (.inl rfl), ?_⟩
    show wpE _ _ (.str "book") _ _ G' _
    walk_at "w"
    exact hN _ _ ⟨_, _, _, _, rfl⟩ ((Le.new hk).trans (l0.trans l))
  rintro σ ⟨x1, y1, z1, w1, rfl⟩
  refine wk.of ?_
  walk_at "w"
  intro p7 hp7
  walk_at "w"
  refine dsp13 [("n", m.b - 1), ("d", m.b - 1)] rfl hp7 nH oH fun G7 l7 f7 n7 o7 => ?_
  walk_at "w"
  have hv : valuesB m ins13 [("n", m.b - 1), ("d", m.b - 1)] = true := by
    rw [vals13, Int.pow_succ, Int.pow_zero, Int.one_mul]
    simp only [Bool.and_eq_true, decide_eq_true_eq]
    omega
  have od : ∀ x ∈ ([("n", m.b - 1), ("d", m.b - 1)] : Vs), PyData.strOk x.1 = true := fun x hx => by
    simp only [List.mem_cons, List.not_mem_nil, or_false] at hx
    rcases hx with rfl | rfl
    · exact sN
    · exact sD13
  refine ⟨m, bk13, p7, _, rfl, f7, mok, ok13, by show 2 ≤ 40; decide, od, fun k w h => (by rw [good13 s1] at h; cases h), fun _ h => (by rw [hv] at h; cases h), fun _ _ => ⟨0, .ok { zeroU with s := 1 }, rfl, fun n e => ?_, fun k e => by cases e⟩⟩
  cases e
  walk_at "w"
  refine c_eq_t (xs := [0, 0]) (ys := [0, 0]) ?_
  exact wk.of (q _)
 ) only [↓Dl.qTrue])
end
end Dl
end
section
set_option maxRecDepth 100000
set_option maxHeartbeats 0
namespace Dl
open PySem PySem.Spec PyProof.Rows L2 Hd
theorem sc_14 : FnScope ["good"] ["good"] (defScope (top 14)) := ⟨rfl, rfl, rfl, by decide +kernel, rfl, by decide +kernel, by decide +kernel⟩
theorem ck_14 : isSs T ["good"] B_machines_need (defScope (top 14)) true (defBody (top 14)) = true := by decide +kernel
theorem sc_16 : FnScope ["machine", "base", "slides", "wheels", "counters"] ["machine"] (defScope (top 16)) := ⟨rfl, rfl, rfl, by decide +kernel, rfl, by decide +kernel, by decide +kernel⟩
theorem ck_16_bad : isSs T ["machine", "base", "slides", "wheels", "counters"] B_machines_need_machine (defScope (top 16)) true (defBody (top 16)) = true := by decide +kernel
theorem ck_16 : isSs T ["machine", "base", "slides", "wheels", "counters"] B_machines_need_machine (defScope (top 16)) true (defBody (top 16)) = true := by decide +kernel
theorem sc_17 : FnScope ["machine", "base", "slides", "wheels", "counters"] ["machine"] (defScope (top 17)) := ⟨rfl, rfl, rfl, by decide +kernel, rfl, by decide +kernel, by decide +kernel⟩
theorem ck_17 : isSs T ["machine", "base", "slides", "wheels", "counters"] B_machines_last_place (defScope (top 17)) true (defBody (top 17)) = true := by decide +kernel
theorem sc_18 : FnScope ["machine"] ["machine"] (defScope (top 18)) := ⟨rfl, rfl, rfl, by decide +kernel, rfl, by decide +kernel, by decide +kernel⟩
theorem ck_18_bad : isSs T ["machine"] (bad1 1) (defScope (top 18)) true (defBody (top 18)) = true := by decide +kernel
theorem sc_19 : FnScope ["machine", "base", "slides", "wheels", "counters"] ["machine"] (defScope (top 19)) := ⟨rfl, rfl, rfl, by decide +kernel, rfl, by decide +kernel, by decide +kernel⟩
theorem ck_19 : isSs T ["machine", "base", "slides", "wheels", "counters"] B_machines_noughts (defScope (top 19)) true (defBody (top 19)) = true := by decide +kernel
theorem sc_20 : FnScope ["machine"] ["machine"] (defScope (top 20)) := ⟨rfl, rfl, rfl, by decide +kernel, rfl, by decide +kernel, by decide +kernel⟩
theorem ck_20_bad : isSs T ["machine"] (bad1 1) (defScope (top 20)) true (defBody (top 20)) = true := by decide +kernel
theorem sc_21 : FnScope ["base", "figures", "found", "figure"] ["base", "figures"] (defScope (top 21)) := ⟨rfl, rfl, rfl, by decide +kernel, rfl, by decide +kernel, by decide +kernel⟩
theorem ck_21 : isSs T ["base", "figures", "found", "figure"] B_machines_told (defScope (top 21)) true (defBody (top 21)) = true := by decide +kernel
theorem sc_22 : FnScope ["base", "number", "many", "found", "k"] ["base", "number", "many"] (defScope (top 22)) := ⟨rfl, rfl, rfl, by decide +kernel, rfl, by decide +kernel, by decide +kernel⟩
theorem ck_22 : isSs T ["base", "number", "many", "found", "k"] B_machines_figures_of (defScope (top 22)) true (defBody (top 22)) = true := by decide +kernel
theorem sc_23 : FnScope ["base", "many", "found", "k"] ["base", "many"] (defScope (top 23)) := ⟨rfl, rfl, rfl, by decide +kernel, rfl, by decide +kernel, by decide +kernel⟩
theorem ck_23 : isSs T ["base", "many", "found", "k"] B_machines_power (defScope (top 23)) true (defBody (top 23)) = true := by decide +kernel
theorem sc_35 : FnScope ["text", "sign"] ["text"] (defScope (top 35)) := ⟨rfl, rfl, rfl, by decide +kernel, rfl, by decide +kernel, by decide +kernel⟩
theorem ck_35 : isSs T ["text", "sign"] B_books_is_name (defScope (top 35)) true (defBody (top 35)) = true := by decide +kernel
theorem sc_36 : FnScope ["book", "name", "one"] ["book", "name"] (defScope (top 36)) := ⟨rfl, rfl, rfl, by decide +kernel, rfl, by decide +kernel, by decide +kernel⟩
theorem ck_36 : isSs T ["book", "name", "one"] B_books_input_of (defScope (top 36)) true (defBody (top 36)) = true := by decide +kernel
theorem sc_37 : FnScope ["machine", "book", "at", "name", "figures", "least", "one"] ["machine", "book", "at"] (defScope (top 37)) := ⟨rfl, rfl, rfl, by decide +kernel, rfl, by decide +kernel, by decide +kernel⟩
theorem ck_37 : isSs T ["machine", "book", "at", "name", "figures", "least", "one"] B_books_is_input (defScope (top 37)) true (defBody (top 37)) = true := by decide +kernel
theorem sc_38 : FnScope ["book", "deed", "one"] ["book", "deed"] (defScope (top 38)) := ⟨rfl, rfl, rfl, by decide +kernel, rfl, by decide +kernel, by decide +kernel⟩
theorem ck_38 : isSs T ["book", "deed", "one"] B_books_is_turns (defScope (top 38)) true (defBody (top 38)) = true := by decide +kernel
theorem sc_39 : FnScope ["book", "deed", "kinds"] ["book", "deed"] (defScope (top 39)) := ⟨rfl, rfl, rfl, by decide +kernel, rfl, by decide +kernel, by decide +kernel⟩
theorem ck_39 : isSs T ["book", "deed", "kinds"] B_books_is_deed (defScope (top 39)) true (defBody (top 39)) = true := by decide +kernel
theorem sc_40 : FnScope ["book", "side", "deep", "kinds", "part"] ["book", "side", "deep"] (defScope (top 40)) := ⟨rfl, rfl, rfl, by decide +kernel, rfl, by decide +kernel, by decide +kernel⟩
theorem ck_40 : isSs T ["book", "side", "deep", "kinds", "part"] B_books_is_side (defScope (top 40)) true (defBody (top 40)) = true := by decide +kernel
theorem sc_41 : FnScope ["book", "claim"] ["book", "claim"] (defScope (top 41)) := ⟨rfl, rfl, rfl, by decide +kernel, rfl, by decide +kernel, by decide +kernel⟩
theorem ck_41 : isSs T ["book", "claim"] B_books_is_claim (defScope (top 41)) true (defBody (top 41)) = true := by decide +kernel
theorem sc_42 : FnScope ["good", "at", "word"] ["good", "at", "word"] (defScope (top 42)) := ⟨rfl, rfl, rfl, by decide +kernel, rfl, by decide +kernel, by decide +kernel⟩
theorem ck_42 : isSs T ["good", "at", "word"] B_books_must (defScope (top 42)) true (defBody (top 42)) = true := by decide +kernel
theorem sc_44 : FnScope ["machine", "book", "inputs", "deeds", "claims", "at", "deed", "claim"] ["machine", "book"] (defScope (top 44)) := ⟨rfl, rfl, rfl, by decide +kernel, rfl, by decide +kernel, by decide +kernel⟩
theorem ck_44_bad : isSs T ["machine", "book", "inputs", "deeds", "claims", "at", "deed", "claim"] (bad1 7) (defScope (top 44)) true (defBody (top 44)) = true := by decide +kernel
theorem ck_44 : isSs T ["machine", "book", "inputs", "deeds", "claims", "at", "deed", "claim"] B_books_need_book (defScope (top 44)) true (defBody (top 44)) = true := by decide +kernel
theorem sc_46 : FnScope ["base", "figure", "by", "way", "found"] ["base", "figure", "by", "way"] (defScope (top 46)) := ⟨rfl, rfl, rfl, by decide +kernel, rfl, by decide +kernel, by decide +kernel⟩
theorem ck_46 : isSs T ["base", "figure", "by", "way", "found"] B_wheels_gone_on (defScope (top 46)) true (defBody (top 46)) = true := by decide +kernel
theorem sc_47 : FnScope ["machine", "stand", "way", "setting", "place", "wheels", "counts", "made", "levers", "k", "figure", "round_it"] ["machine", "stand", "way"] (defScope (top 47)) := ⟨rfl, rfl, rfl, by decide +kernel, rfl, by decide +kernel, by decide +kernel⟩
theorem ck_47 : isSs T ["machine", "stand", "way", "setting", "place", "wheels", "counts", "made", "levers", "k", "figure", "round_it"] B_wheels_first_part (defScope (top 47)) true (defBody (top 47)) = true := by decide +kernel
theorem sc_48 : FnScope ["machine", "stand", "way"] ["machine", "stand", "way"] (defScope (top 48)) := ⟨rfl, rfl, rfl, by decide +kernel, rfl, by decide +kernel, by decide +kernel⟩
theorem ck_48_bad : isSs T ["machine", "stand", "way"] (bad1 1) (defScope (top 48)) true (defBody (top 48)) = true := by decide +kernel
theorem sc_49 : FnScope ["machine", "wheels", "levers", "wheel", "way", "left", "lever", "made", "round_it"] ["machine", "wheels", "levers", "wheel", "way"] (defScope (top 49)) := ⟨rfl, rfl, rfl, by decide +kernel, rfl, by decide +kernel, by decide +kernel⟩
theorem ck_49 : isSs T ["machine", "wheels", "levers", "wheel", "way", "left", "lever", "made", "round_it"] B_wheels_one_carry (defScope (top 49)) true (defBody (top 49)) = true := by decide +kernel
theorem sc_50 : FnScope ["machine", "wheels", "levers", "wheel", "way"] ["machine", "wheels", "levers", "wheel", "way"] (defScope (top 50)) := ⟨rfl, rfl, rfl, by decide +kernel, rfl, by decide +kernel, by decide +kernel⟩
theorem ck_50_bad : isSs T ["machine", "wheels", "levers", "wheel", "way"] (bad1 1) (defScope (top 50)) true (defBody (top 50)) = true := by decide +kernel
theorem sc_51 : FnScope ["machine", "wheels", "levers", "order", "way", "rang", "waiting", "wheel", "rings"] ["machine", "wheels", "levers", "order", "way"] (defScope (top 51)) := ⟨rfl, rfl, rfl, by decide +kernel, rfl, by decide +kernel, by decide +kernel⟩
theorem ck_51 : isSs T ["machine", "wheels", "levers", "order", "way", "rang", "waiting", "wheel", "rings"] B_wheels_all_carries (defScope (top 51)) true (defBody (top 51)) = true := by decide +kernel
theorem sc_52 : FnScope ["machine", "wheels", "levers", "order", "way"] ["machine", "wheels", "levers", "order", "way"] (defScope (top 52)) := ⟨rfl, rfl, rfl, by decide +kernel, rfl, by decide +kernel, by decide +kernel⟩
theorem ck_52_bad : isSs T ["machine", "wheels", "levers", "order", "way"] (bad1 1) (defScope (top 52)) true (defBody (top 52)) = true := by decide +kernel
theorem sc_53 : FnScope ["machine", "stand", "way", "wheels", "levers"] ["machine", "stand", "way"] (defScope (top 53)) := ⟨rfl, rfl, rfl, by decide +kernel, rfl, by decide +kernel, by decide +kernel⟩
theorem ck_53 : isSs T ["machine", "stand", "way", "wheels", "levers"] B_wheels_turned (defScope (top 53)) true (defBody (top 53)) = true := by decide +kernel
theorem sc_57 : FnScope ["machine", "stand", "tally", "base", "slides", "wheels", "counters", "number"] ["machine", "stand", "tally"] (defScope (top 57)) := ⟨rfl, rfl, rfl, by decide +kernel, rfl, by decide +kernel, by decide +kernel⟩
theorem ck_57 : isSs T ["machine", "stand", "tally", "base", "slides", "wheels", "counters", "number"] B_deeds_with_counts (defScope (top 57)) true (defBody (top 57)) = true := by decide +kernel
theorem sc_58 : FnScope ["machine", "stand", "way", "tally", "wheels", "rang"] ["machine", "stand", "way", "tally"] (defScope (top 58)) := ⟨rfl, rfl, rfl, by decide +kernel, rfl, by decide +kernel, by decide +kernel⟩
theorem ck_58 : isSs T ["machine", "stand", "way", "tally", "wheels", "rang"] B_deeds_crank (defScope (top 58)) true (defBody (top 58)) = true := by decide +kernel
theorem sc_59 : FnScope ["machine", "stand", "number"] ["machine", "stand", "number"] (defScope (top 59)) := ⟨rfl, rfl, rfl, by decide +kernel, rfl, by decide +kernel, by decide +kernel⟩
theorem ck_59 : isSs T ["machine", "stand", "number"] B_deeds_with_slides (defScope (top 59)) true (defBody (top 59)) = true := by decide +kernel
theorem sc_60 : FnScope ["stand", "word", "setting", "place", "wheels", "counts"] ["stand", "word"] (defScope (top 60)) := ⟨rfl, rfl, rfl, by decide +kernel, rfl, by decide +kernel, by decide +kernel⟩
theorem ck_60 : isSs T ["stand", "word", "setting", "place", "wheels", "counts"] B_deeds_wiped (defScope (top 60)) true (defBody (top 60)) = true := by decide +kernel
theorem sc_61 : FnScope ["machine", "stand", "place"] ["machine", "stand", "place"] (defScope (top 61)) := ⟨rfl, rfl, rfl, by decide +kernel, rfl, by decide +kernel, by decide +kernel⟩
theorem ck_61 : isSs T ["machine", "stand", "place"] B_deeds_at_place (defScope (top 61)) true (defBody (top 61)) = true := by decide +kernel
theorem sc_62 : FnScope ["machine", "stand", "deed", "word", "found", "setting"] ["machine", "stand", "deed"] (defScope (top 62)) := ⟨rfl, rfl, rfl, by decide +kernel, rfl, by decide +kernel, by decide +kernel⟩
theorem ck_62_bad : isSs T ["machine", "stand", "deed", "word", "found", "setting"] (bad1 7) (defScope (top 62)) true (defBody (top 62)) = true := by decide +kernel
theorem sc_74 : FnScope ["machine", "book", "look", "number", "deed", "word", "claim"] ["machine", "book"] (defScope (top 74)) := ⟨rfl, rfl, rfl, by decide +kernel, rfl, by decide +kernel, by decide +kernel⟩
theorem ck_74_bad : isSs T ["machine", "book", "look", "number", "deed", "word", "claim"] (bad2 4) (defScope (top 74)) true (defBody (top 74)) = true := by decide +kernel
theorem sc_80 : FnScope ["machine", "one", "other", "base", "slides", "wheels", "counters", "places", "deeds", "k", "goal", "claims"] ["machine", "one", "other"] (defScope (top 80)) := ⟨rfl, rfl, rfl, by decide +kernel, rfl, by decide +kernel, by decide +kernel⟩
theorem ck_80_bad : isSs T ["machine", "one", "other", "base", "slides", "wheels", "counters", "places", "deeds", "k", "goal", "claims"] (bad1 8) (defScope (top 80)) true (defBody (top 80)) = true := by decide +kernel
theorem sc_81 : FnScope ["machine", "one", "other", "base", "slides", "wheels", "counters", "places", "deeds", "k", "whole", "claims"] ["machine", "one", "other"] (defScope (top 81)) := ⟨rfl, rfl, rfl, by decide +kernel, rfl, by decide +kernel, by decide +kernel⟩
theorem ck_81_bad : isSs T ["machine", "one", "other", "base", "slides", "wheels", "counters", "places", "deeds", "k", "whole", "claims"] (bad1 8) (defScope (top 81)) true (defBody (top 81)) = true := by decide +kernel
theorem sc_82 : FnScope ["machine", "one", "base", "slides", "wheels", "counters", "most", "deeds", "square", "twice"] ["machine", "one"] (defScope (top 82)) := ⟨rfl, rfl, rfl, by decide +kernel, rfl, by decide +kernel, by decide +kernel⟩
theorem ck_82_bad : isSs T ["machine", "one", "base", "slides", "wheels", "counters", "most", "deeds", "square", "twice"] (bad1 7) (defScope (top 82)) true (defBody (top 82)) = true := by decide +kernel
theorem sc_84_0 : FnScope ["self", "machine", "values"] ["self", "machine", "values"] (defScope (clsDef (top 84) 0)) := ⟨rfl, rfl, rfl, by decide +kernel, rfl, by decide +kernel, by decide +kernel⟩
theorem ck_84_0 : isSs T ["self", "machine", "values"] B_working_Worker_init__ (defScope (clsDef (top 84) 0)) true (defBody (clsDef (top 84) 0)) = true := by decide +kernel
theorem sc_84_1 : FnScope ["self", "way", "tally", "rang"] ["self", "way", "tally"] (defScope (clsDef (top 84) 1)) := ⟨rfl, rfl, rfl, by decide +kernel, rfl, by decide +kernel, by decide +kernel⟩
theorem ck_84_1 : isSs T ["self", "way", "tally", "rang"] B_working_Worker_turn (defScope (clsDef (top 84) 1)) true (defBody (clsDef (top 84) 1)) = true := by decide +kernel
theorem sc_84_2 : FnScope ["self"] ["self"] (defScope (clsDef (top 84) 2)) := ⟨rfl, rfl, rfl, by decide +kernel, rfl, by decide +kernel, by decide +kernel⟩
theorem ck_84_2 : isSs T ["self"] B_working_Worker_setting (defScope (clsDef (top 84) 2)) true (defBody (clsDef (top 84) 2)) = true := by decide +kernel
theorem sc_84_3 : FnScope ["self", "tally", "more"] ["self", "tally", "more"] (defScope (clsDef (top 84) 3)) := ⟨rfl, rfl, rfl, by decide +kernel, rfl, by decide +kernel, by decide +kernel⟩
theorem ck_84_3 : isSs T ["self", "tally", "more"] B_working_Worker_until_bell (defScope (clsDef (top 84) 3)) true (defBody (clsDef (top 84) 3)) = true := by decide +kernel
theorem sc_84_4 : FnScope ["self", "deed", "word", "k"] ["self", "deed"] (defScope (clsDef (top 84) 4)) := ⟨rfl, rfl, rfl, by decide +kernel, rfl, by decide +kernel, by decide +kernel⟩
theorem ck_84_4 : isSs T ["self", "deed", "word", "k"] B_working_Worker_do (defScope (clsDef (top 84) 4)) true (defBody (clsDef (top 84) 4)) = true := by decide +kernel
theorem sc_84_5 : FnScope ["self", "by", "found"] ["self", "by"] (defScope (clsDef (top 84) 5)) := ⟨rfl, rfl, rfl, by decide +kernel, rfl, by decide +kernel, by decide +kernel⟩
theorem ck_84_5 : isSs T ["self", "by", "found"] B_working_Worker_shift (defScope (clsDef (top 84) 5)) true (defBody (clsDef (top 84) 5)) = true := by decide +kernel
theorem sc_85 : FnScope ["machine", "book", "values", "one", "name", "figures", "least"] ["machine", "book", "values"] (defScope (top 85)) := ⟨rfl, rfl, rfl, by decide +kernel, rfl, by decide +kernel, by decide +kernel⟩
theorem ck_85 : isSs T ["machine", "book", "values", "one", "name", "figures", "least"] B_working_need_values (defScope (top 85)) true (defBody (top 85)) = true := by decide +kernel
theorem sc_86 : FnScope ["machine", "book", "values", "worker", "number", "deed"] ["machine", "book", "values"] (defScope (top 86)) := ⟨rfl, rfl, rfl, by decide +kernel, rfl, by decide +kernel, by decide +kernel⟩
theorem ck_86_bad : isSs T ["machine", "book", "values", "worker", "number", "deed"] (bad2 4) (defScope (top 86)) true (defBody (top 86)) = true := by decide +kernel
theorem ck_86 : isSs T ["machine", "book", "values", "worker", "number", "deed"] B_working_worked (defScope (top 86)) true (defBody (top 86)) = true := by decide +kernel
theorem sc_89 : FnScope ["_law_h", "_law_many", "_law_at", "_law_cell"] ["_law_h", "_law_many"] (defScope (top 89)) := ⟨rfl, rfl, rfl, by decide +kernel, rfl, by decide +kernel, by decide +kernel⟩
theorem ck_89 : isSs T ["_law_h", "_law_many", "_law_at", "_law_cell"] B_law_law_next_d345 (defScope (top 89)) true (defBody (top 89)) = true := by decide +kernel
theorem sc_90 : FnScope ["_law_h", "_law_most", "_law_base", "_law_slides", "_law_wheels"] ["_law_h", "_law_most"] (defScope (top 90)) := ⟨rfl, rfl, rfl, by decide +kernel, rfl, by decide +kernel, by decide +kernel⟩
theorem ck_90 : isSs T ["_law_h", "_law_most", "_law_base", "_law_slides", "_law_wheels"] B_law_law_machine_1e2d (defScope (top 90)) true (defBody (top 90)) = true := by decide +kernel
theorem sc_91 : FnScope ["_law_way", "_law_machine_here", "_law_stand", "_law_book"] ["_law_way", "_law_machine_here"] (defScope (top 91)) := ⟨rfl, rfl, rfl, by decide +kernel, rfl, by decide +kernel, by decide +kernel⟩
theorem ck_91 : isSs T ["_law_way", "_law_machine_here", "_law_stand", "_law_book"] B_law_law_ask_25b9 (defScope (top 91)) true (defBody (top 91)) = true := by decide +kernel
theorem sc_92 : FnScope ["_law_work", "e", "_law_kinds"] ["_law_work"] (defScope (top 92)) := ⟨rfl, rfl, rfl, by decide +kernel, rfl, by decide +kernel, by decide +kernel⟩
theorem ck_92 : isTry T ["_law_work", "e", "_law_kinds"] B_law_law_kind_5cd6 (defScope (top 92)) (defBody (top 92)) = true := by decide +kernel
theorem sc_93 : FnScope ["_law_h", "_law_machine_here", "_law_base", "_law_slides", "_law_wheels", "_law_counters", "_law_far", "_law_some"] ["_law_h", "_law_machine_here"] (defScope (top 93)) := ⟨rfl, rfl, rfl, by decide +kernel, rfl, by decide +kernel, by decide +kernel⟩
theorem ck_93 : isSs T ["_law_h", "_law_machine_here", "_law_base", "_law_slides", "_law_wheels", "_law_counters", "_law_far", "_law_some"] B_law_law_bad_5d91 (defScope (top 93)) true (defBody (top 93)) = true := by decide +kernel
theorem sc_94 : FnScope ["_law_script", "_law_h", "_law_machine_here", "_law_bad_here", "_law_way", "_law_good", "_law_book", "_law_base", "_law_far", "_law_some", "_law_values", "_law_kept"] ["_law_script"] (defScope (top 94)) := ⟨rfl, rfl, rfl, by decide +kernel, rfl, by decide +kernel, by decide +kernel⟩
theorem ck_94 : isSs T ["_law_script", "_law_h", "_law_machine_here", "_law_bad_here", "_law_way", "_law_good", "_law_book", "_law_base", "_law_far", "_law_some", "_law_values", "_law_kept"] B_law_law_c664 (defScope (top 94)) true (defBody (top 94)) = true := by decide +kernel
theorem xsc_BadBook : FnScope ["self", "at", "word"] ["self", "at", "word"] (defScope (clsDef (top 4) 0)) := ⟨rfl, rfl, rfl, by decide +kernel, rfl, by decide +kernel, by decide +kernel⟩
theorem xck_BadBook : isIni (defScope (clsDef (top 4) 0)) ["at", "word"] (defBody (clsDef (top 4) 0)) = true := by decide +kernel
theorem xsc_Stuck : FnScope ["self", "number"] ["self", "number"] (defScope (clsDef (top 6) 0)) := ⟨rfl, rfl, rfl, by decide +kernel, rfl, by decide +kernel, by decide +kernel⟩
theorem xck_Stuck : isIni (defScope (clsDef (top 6) 0)) ["number"] (defBody (clsDef (top 6) 0)) = true := by decide +kernel
theorem facts {P : Program} {w : World} {K : PySem.W.Frag} {h : Heap} {mg : Str → Option Value} {f : Addr} (X : K.In h) (G : h.Ns mainGlobals mg) (hfa : mg ("law" : Str) = some (.ref f)) (cx : He.SaysX fa fnL [] [("law", none)] exB w h K) :
    ∃ fd : FuncData, (∀ (s : Shared) (v : Value), BindsTo s fd ⟨[v], []⟩ [("_law_script", v)]) ∧ PySem.W.codeHdIn K (He.cT K ("law", none)).1 (He.cT K ("law", none)).2 = true ∧ K.lookup (He.cT K ("law", none)).2 = none ∧ h.get? (He.cT K ("law", none)).2 = some { cls := .none, data := .fields #[] } ∧ ∀ base : Heap, K.In base → base.Ns mainGlobals mg → LamX.TabB base mg (He.cT K ("law", none)).1 (He.cT K ("law", none)).2 → FnOk P w K mg base (L2.CX P w) 62 f fd ["_law_script"] (liftSp K 1 (spLawT "law")) := Dl.unQ (by
 simp (disch := with_unfolding_all
  refine @id _ ?_
  have c := cx.t.d
  have more : exB K = true := cx.more
  unfold exB at more
  rw [Bool.and_eq_true, Bool.and_eq_true] at more
  obtain ⟨mcls, mini, mtup⟩ := more
  rw [Bool.and_eq_true, Bool.and_eq_true, Bool.and_eq_true] at mtup
  obtain ⟨mt0, mt1, mt2, _⟩ := mtup
  have cl : ∀ k, T.cls.contains k = true → ClsOk K mg (cn k) := fun k hk => by
    have hk : k ∈ T.cls := by simpa using hk
    simp only [T, List.mem_cons, List.not_mem_nil, or_false] at hk
    rcases hk with rfl | rfl | rfl | rfl | rfl
    · obtain ⟨e1, e2, e3, e4⟩ := He.exc_ok (c.fact 84 (f := .exc "DrumError") rfl)
      exact ⟨He.glo_ok X G (c.fact 83 (f := .glo "DrumError") rfl), e1, e2, e3, e4⟩
    · obtain ⟨e1, e2, e3, e4⟩ := He.exc_ok (c.fact 86 (f := .exc "BadMachine") rfl)
      exact ⟨He.glo_ok X G (c.fact 85 (f := .glo "BadMachine") rfl), e1, e2, e3, e4⟩
    · obtain ⟨e1, e2, e3, e4⟩ := He.exc_ok (c.fact 88 (f := .exc "BadDeed") rfl)
      exact ⟨He.glo_ok X G (c.fact 87 (f := .glo "BadDeed") rfl), e1, e2, e3, e4⟩
    · obtain ⟨e1, e2, e3, e4⟩ := He.exc_ok (c.fact 90 (f := .exc "BadValue") rfl)
      exact ⟨He.glo_ok X G (c.fact 89 (f := .glo "BadValue") rfl), e1, e2, e3, e4⟩
    · obtain ⟨e1, e2, e3, e4⟩ := He.exc_ok (c.fact 92 (f := .exc "TooSmall") rfl)
      exact ⟨He.glo_ok X G (c.fact 91 (f := .glo "TooSmall") rfl), e1, e2, e3, e4⟩
  have ats : AtsOk T K := fun C f h => by
    have h : (C, f) ∈ T.ats := by simpa using h
    simp only [T, List.mem_cons, Prod.mk.injEq, List.not_mem_nil, or_false] at h
    rcases h with ⟨rfl, rfl⟩ | ⟨rfl, rfl⟩ | ⟨rfl, rfl⟩
    · exact ⟨He.cls_ok (c.fact 96 (f := .cls "Worker") rfl), He.noat_ok (c.fact 103 (f := .noat "Worker" "given") rfl)⟩
    · exact ⟨He.cls_ok (c.fact 96 (f := .cls "Worker") rfl), He.noat_ok (c.fact 104 (f := .noat "Worker" "machine") rfl)⟩
    · exact ⟨He.cls_ok (c.fact 96 (f := .cls "Worker") rfl), He.noat_ok (c.fact 105 (f := .noat "Worker" "stand") rfl)⟩
  have gfs : ∀ x, T.gfs.contains x = true → mg x = some (.ref (He.ga K x)) := fun x h => by
    have h : x ∈ T.gfs := by simpa using h
    simp only [T, List.mem_cons, List.not_mem_nil, or_false] at h
    rcases h with rfl | rfl | rfl | rfl | rfl | rfl | rfl
    · exact He.glo_ok X G (c.fact 22 (f := .glo "begin") rfl)
    · exact He.glo_ok X G (c.fact 57 (f := .glo "looked") rfl)
    · exact He.glo_ok X G (c.fact 34 (f := .glo "need_book") rfl)
    · exact He.glo_ok X G (c.fact 18 (f := .glo "need_machine") rfl)
    · exact He.glo_ok X G (c.fact 59 (f := .glo "product") rfl)
    · exact He.glo_ok X G (c.fact 60 (f := .glo "quotient") rfl)
    · exact He.glo_ok X G (c.fact 20 (f := .glo "top") rfl)
  have mo : ModOk T Γ0 K mg := ModOk.make c X G rfl (cl := cl) (kl := clsAll_of X G (frees_ok c X G "ValueError" (List.mem_append_left _ (List.mem_map.mpr ⟨_, List.mem_of_getElem? (i := 16) rfl, rfl⟩))) mcls) (al := fun k hk => hk) (at_ := fun C f h => ats C f h) (gf := fun x h => gfs x h) fun g x d h1 h2 => by
    unfold Γ0 at h2
    dsimp only at h2
    by_cases e : g = 0
    · subst e
      cases h1
      cases h2
      obtain ⟨t, ht⟩ := He.int_ok X G (c.fact 71 (f := .int "MOST_COUNTERS" (10)) rfl)
      exact ⟨_, .int (10), ht, ⟨t, rfl⟩, fun _ => rfl⟩
    rw [if_neg e] at h2; clear e
    by_cases e : g = 1
    · subst e
      cases h1
      cases h2
      obtain ⟨t, ht⟩ := He.int_ok X G (c.fact 72 (f := .int "MOST_WHEELS" (16)) rfl)
      exact ⟨_, .int (16), ht, ⟨t, rfl⟩, fun _ => rfl⟩
    rw [if_neg e] at h2; clear e
    by_cases e : g = 2
    · subst e
      cases h1
      cases h2
      obtain ⟨t, ht⟩ := He.int_ok X G (c.fact 73 (f := .int "MOST_SLIDES" (6)) rfl)
      exact ⟨_, .int (6), ht, ⟨t, rfl⟩, fun _ => rfl⟩
    rw [if_neg e] at h2; clear e
    by_cases e : g = 3
    · subst e
      cases h1
      cases h2
      obtain ⟨t, ht⟩ := He.int_ok X G (c.fact 74 (f := .int "LEAST_BASE" (2)) rfl)
      exact ⟨_, .int (2), ht, ⟨t, rfl⟩, fun _ => rfl⟩
    rw [if_neg e] at h2; clear e
    by_cases e : g = 4
    · subst e
      cases h1
      cases h2
      obtain ⟨t, ht⟩ := He.int_ok X G (c.fact 75 (f := .int "MOST_BASE" (12)) rfl)
      exact ⟨_, .int (12), ht, ⟨t, rfl⟩, fun _ => rfl⟩
    rw [if_neg e] at h2; clear e
    by_cases e : g = 5
    · subst e
      cases h1
      cases h2
      obtain ⟨t, ht⟩ := He.str_ok X G (c.fact 76 (f := .str "LETTERS" "abcdefghijklmnopqrstuvwxyz") rfl)
      exact ⟨_, .str "abcdefghijklmnopqrstuvwxyz", ht, ⟨t, rfl⟩, fun _ => rfl⟩
    rw [if_neg e] at h2; clear e
    by_cases e : g = 6
    · subst e
      cases h1
      cases h2
      exact gtup_ok X G mt0
    rw [if_neg e] at h2; clear e
    by_cases e : g = 7
    · subst e
      cases h1
      cases h2
      obtain ⟨t, ht⟩ := He.int_ok X G (c.fact 77 (f := .int "MOST_LETTERS" (8)) rfl)
      exact ⟨_, .int (8), ht, ⟨t, rfl⟩, fun _ => rfl⟩
    rw [if_neg e] at h2; clear e
    by_cases e : g = 8
    · subst e
      cases h1
      cases h2
      exact gtup_ok X G mt1
    rw [if_neg e] at h2; clear e
    by_cases e : g = 9
    · subst e
      cases h1
      cases h2
      exact gtup_ok X G mt2
    rw [if_neg e] at h2; clear e
    by_cases e : g = 10
    · subst e
      cases h1
      cases h2
      obtain ⟨t, ht⟩ := He.int_ok X G (c.fact 78 (f := .int "MOST_NUMBER" (1000000000)) rfl)
      exact ⟨_, .int (1000000000), ht, ⟨t, rfl⟩, fun _ => rfl⟩
    rw [if_neg e] at h2; clear e
    by_cases e : g = 11
    · subst e
      cases h1
      cases h2
      obtain ⟨t, ht⟩ := He.int_ok X G (c.fact 79 (f := .int "DEEPEST" (4)) rfl)
      exact ⟨_, .int (4), ht, ⟨t, rfl⟩, fun _ => rfl⟩
    rw [if_neg e] at h2; clear e
    by_cases e : g = 12
    · subst e
      cases h1
      cases h2
      obtain ⟨t, ht⟩ := He.int_ok X G (c.fact 80 (f := .int "MOST_CLAIMS" (8)) rfl)
      exact ⟨_, .int (8), ht, ⟨t, rfl⟩, fun _ => rfl⟩
    rw [if_neg e] at h2; clear e
    by_cases e : g = 13
    · subst e
      cases h1
      cases h2
      obtain ⟨t, ht⟩ := He.int_ok X G (c.fact 81 (f := .int "MOST_DEEDS" (40)) rfl)
      exact ⟨_, .int (40), ht, ⟨t, rfl⟩, fun _ => rfl⟩
    rw [if_neg e] at h2; clear e
    by_cases e : g = 14
    · subst e
      cases h1
      cases h2
      obtain ⟨t, ht⟩ := He.int_ok X G (c.fact 82 (f := .int "MOST_INPUTS" (4)) rfl)
      exact ⟨_, .int (4), ht, ⟨t, rfl⟩, fun _ => rfl⟩
    rw [if_neg e] at h2; clear e
    cases h2
  obtain ⟨fd14, F14⟩ := c.def_ 0 (d := d_14) rfl
  obtain ⟨fd16, F16⟩ := c.def_ 1 (d := d_16) rfl
  obtain ⟨fd17, F17⟩ := c.def_ 2 (d := d_17) rfl
  obtain ⟨fd18, F18⟩ := c.def_ 3 (d := d_18) rfl
  obtain ⟨fd19, F19⟩ := c.def_ 4 (d := d_19) rfl
  obtain ⟨fd20, F20⟩ := c.def_ 5 (d := d_20) rfl
  obtain ⟨fd21, F21⟩ := c.def_ 6 (d := d_21) rfl
  obtain ⟨fd22, F22⟩ := c.def_ 7 (d := d_22) rfl
  obtain ⟨fd23, F23⟩ := c.def_ 8 (d := d_23) rfl
  obtain ⟨fd35, F35⟩ := c.def_ 9 (d := d_35) rfl
  obtain ⟨fd36, F36⟩ := c.def_ 10 (d := d_36) rfl
  obtain ⟨fd37, F37⟩ := c.def_ 11 (d := d_37) rfl
  obtain ⟨fd38, F38⟩ := c.def_ 12 (d := d_38) rfl
  obtain ⟨fd39, F39⟩ := c.def_ 13 (d := d_39) rfl
  obtain ⟨fd40, F40⟩ := c.def_ 14 (d := d_40) rfl
  obtain ⟨fd41, F41⟩ := c.def_ 15 (d := d_41) rfl
  obtain ⟨fd42, F42⟩ := c.def_ 16 (d := d_42) rfl
  obtain ⟨fd44, F44⟩ := c.def_ 17 (d := d_44) rfl
  obtain ⟨fd46, F46⟩ := c.def_ 18 (d := d_46) rfl
  obtain ⟨fd47, F47⟩ := c.def_ 19 (d := d_47) rfl
  obtain ⟨fd48, F48⟩ := c.def_ 20 (d := d_48) rfl
  obtain ⟨fd49, F49⟩ := c.def_ 21 (d := d_49) rfl
  obtain ⟨fd50, F50⟩ := c.def_ 22 (d := d_50) rfl
  obtain ⟨fd51, F51⟩ := c.def_ 23 (d := d_51) rfl
  obtain ⟨fd52, F52⟩ := c.def_ 24 (d := d_52) rfl
  obtain ⟨fd53, F53⟩ := c.def_ 25 (d := d_53) rfl
  obtain ⟨fd55, F55⟩ := c.def_ 26 (d := d_55) rfl
  obtain ⟨fd57, F57⟩ := c.def_ 27 (d := d_57) rfl
  obtain ⟨fd58, F58⟩ := c.def_ 28 (d := d_58) rfl
  obtain ⟨fd59, F59⟩ := c.def_ 29 (d := d_59) rfl
  obtain ⟨fd60, F60⟩ := c.def_ 30 (d := d_60) rfl
  obtain ⟨fd61, F61⟩ := c.def_ 31 (d := d_61) rfl
  obtain ⟨fd62, F62⟩ := c.def_ 32 (d := d_62) rfl
  obtain ⟨fd64, F64⟩ := c.def_ 33 (d := d_64) rfl
  obtain ⟨fd65, F65⟩ := c.def_ 34 (d := d_65) rfl
  obtain ⟨fd66, F66⟩ := c.def_ 35 (d := d_66) rfl
  obtain ⟨fd67, F67⟩ := c.def_ 36 (d := d_67) rfl
  obtain ⟨fd68, F68⟩ := c.def_ 37 (d := d_68) rfl
  obtain ⟨fd69, F69⟩ := c.def_ 38 (d := d_69) rfl
  obtain ⟨fd71, F71⟩ := c.def_ 39 (d := d_71) rfl
  obtain ⟨fd72_0, F72_0⟩ := c.def_ 40 (d := d_72_0) rfl
  obtain ⟨fd72_1, F72_1⟩ := c.def_ 41 (d := d_72_1) rfl
  obtain ⟨fd73_0, F73_0⟩ := c.def_ 42 (d := d_73_0) rfl
  obtain ⟨fd73_1, F73_1⟩ := c.def_ 43 (d := d_73_1) rfl
  obtain ⟨fd73_2, F73_2⟩ := c.def_ 44 (d := d_73_2) rfl
  obtain ⟨fd73_3, F73_3⟩ := c.def_ 45 (d := d_73_3) rfl
  obtain ⟨fd73_4, F73_4⟩ := c.def_ 46 (d := d_73_4) rfl
  obtain ⟨fd73_5, F73_5⟩ := c.def_ 47 (d := d_73_5) rfl
  obtain ⟨fd73_6, F73_6⟩ := c.def_ 48 (d := d_73_6) rfl
  obtain ⟨fd73_7, F73_7⟩ := c.def_ 49 (d := d_73_7) rfl
  obtain ⟨fd73_8, F73_8⟩ := c.def_ 50 (d := d_73_8) rfl
  obtain ⟨fd73_9, F73_9⟩ := c.def_ 51 (d := d_73_9) rfl
  obtain ⟨fd73_10, F73_10⟩ := c.def_ 52 (d := d_73_10) rfl
  obtain ⟨fd73_11, F73_11⟩ := c.def_ 53 (d := d_73_11) rfl
  obtain ⟨fd73_12, F73_12⟩ := c.def_ 54 (d := d_73_12) rfl
  obtain ⟨fd73_13, F73_13⟩ := c.def_ 55 (d := d_73_13) rfl
  obtain ⟨fd73_14, F73_14⟩ := c.def_ 56 (d := d_73_14) rfl
  obtain ⟨fd74, F74⟩ := c.def_ 57 (d := d_74) rfl
  obtain ⟨fd78, F78⟩ := c.def_ 58 (d := d_78) rfl
  obtain ⟨fd80, F80⟩ := c.def_ 59 (d := d_80) rfl
  obtain ⟨fd81, F81⟩ := c.def_ 60 (d := d_81) rfl
  obtain ⟨fd82, F82⟩ := c.def_ 61 (d := d_82) rfl
  obtain ⟨fd84_0, F84_0⟩ := c.def_ 62 (d := d_84_0) rfl
  obtain ⟨fd84_1, F84_1⟩ := c.def_ 63 (d := d_84_1) rfl
  obtain ⟨fd84_2, F84_2⟩ := c.def_ 64 (d := d_84_2) rfl
  obtain ⟨fd84_3, F84_3⟩ := c.def_ 65 (d := d_84_3) rfl
  obtain ⟨fd84_4, F84_4⟩ := c.def_ 66 (d := d_84_4) rfl
  obtain ⟨fd84_5, F84_5⟩ := c.def_ 67 (d := d_84_5) rfl
  obtain ⟨fd85, F85⟩ := c.def_ 68 (d := d_85) rfl
  obtain ⟨fd86, F86⟩ := c.def_ 69 (d := d_86) rfl
  obtain ⟨fd88, F88⟩ := c.def_ 70 (d := d_88) rfl
  obtain ⟨fd89, F89⟩ := c.def_ 71 (d := d_89) rfl
  obtain ⟨fd90, F90⟩ := c.def_ 72 (d := d_90) rfl
  obtain ⟨fd91, F91⟩ := c.def_ 73 (d := d_91) rfl
  obtain ⟨fd92, F92⟩ := c.def_ 74 (d := d_92) rfl
  obtain ⟨fd93, F93⟩ := c.def_ 75 (d := d_93) rfl
  obtain ⟨fd94, F94⟩ := c.def_ 76 (d := d_94) rfl
  have g14 : mg "need_machines" = some (.ref (He.ga K "need_machines")) := He.glo_ok X G (c.fact 17 (f := .glo "need_machines") rfl)
  have g16 : mg "need_machine" = some (.ref (He.ga K "need_machine")) := He.glo_ok X G (c.fact 18 (f := .glo "need_machine") rfl)
  have g17 : mg "last_place" = some (.ref (He.ga K "last_place")) := He.glo_ok X G (c.fact 19 (f := .glo "last_place") rfl)
  have g18 : mg "top" = some (.ref (He.ga K "top")) := He.glo_ok X G (c.fact 20 (f := .glo "top") rfl)
  have g19 : mg "noughts" = some (.ref (He.ga K "noughts")) := He.glo_ok X G (c.fact 21 (f := .glo "noughts") rfl)
  have g20 : mg "begin" = some (.ref (He.ga K "begin")) := He.glo_ok X G (c.fact 22 (f := .glo "begin") rfl)
  have g21 : mg "told" = some (.ref (He.ga K "told")) := He.glo_ok X G (c.fact 23 (f := .glo "told") rfl)
  have g22 : mg "figures_of" = some (.ref (He.ga K "figures_of")) := He.glo_ok X G (c.fact 24 (f := .glo "figures_of") rfl)
  have g23 : mg "power" = some (.ref (He.ga K "power")) := He.glo_ok X G (c.fact 25 (f := .glo "power") rfl)
  have g35 : mg "is_name" = some (.ref (He.ga K "is_name")) := He.glo_ok X G (c.fact 26 (f := .glo "is_name") rfl)
  have g36 : mg "input_of" = some (.ref (He.ga K "input_of")) := He.glo_ok X G (c.fact 27 (f := .glo "input_of") rfl)
  have g37 : mg "is_input" = some (.ref (He.ga K "is_input")) := He.glo_ok X G (c.fact 28 (f := .glo "is_input") rfl)
  have g38 : mg "is_turns" = some (.ref (He.ga K "is_turns")) := He.glo_ok X G (c.fact 29 (f := .glo "is_turns") rfl)
  have g39 : mg "is_deed" = some (.ref (He.ga K "is_deed")) := He.glo_ok X G (c.fact 30 (f := .glo "is_deed") rfl)
  have g40 : mg "is_side" = some (.ref (He.ga K "is_side")) := He.glo_ok X G (c.fact 31 (f := .glo "is_side") rfl)
  have g41 : mg "is_claim" = some (.ref (He.ga K "is_claim")) := He.glo_ok X G (c.fact 32 (f := .glo "is_claim") rfl)
  have g42 : mg "must_books" = some (.ref (He.ga K "must_books")) := He.glo_ok X G (c.fact 33 (f := .glo "must_books") rfl)
  have g44 : mg "need_book" = some (.ref (He.ga K "need_book")) := He.glo_ok X G (c.fact 34 (f := .glo "need_book") rfl)
  have g46 : mg "gone_on" = some (.ref (He.ga K "gone_on")) := He.glo_ok X G (c.fact 35 (f := .glo "gone_on") rfl)
  have g47 : mg "first_part" = some (.ref (He.ga K "first_part")) := He.glo_ok X G (c.fact 36 (f := .glo "first_part") rfl)
  have g48 : mg "spun" = some (.ref (He.ga K "spun")) := He.glo_ok X G (c.fact 37 (f := .glo "spun") rfl)
  have g49 : mg "one_carry" = some (.ref (He.ga K "one_carry")) := He.glo_ok X G (c.fact 38 (f := .glo "one_carry") rfl)
  have g50 : mg "carried" = some (.ref (He.ga K "carried")) := He.glo_ok X G (c.fact 39 (f := .glo "carried") rfl)
  have g51 : mg "all_carries" = some (.ref (He.ga K "all_carries")) := He.glo_ok X G (c.fact 40 (f := .glo "all_carries") rfl)
  have g52 : mg "settled" = some (.ref (He.ga K "settled")) := He.glo_ok X G (c.fact 41 (f := .glo "settled") rfl)
  have g53 : mg "turned" = some (.ref (He.ga K "turned")) := He.glo_ok X G (c.fact 42 (f := .glo "turned") rfl)
  have g55 : mg "must_deeds" = some (.ref (He.ga K "must_deeds")) := He.glo_ok X G (c.fact 43 (f := .glo "must_deeds") rfl)
  have g57 : mg "with_counts" = some (.ref (He.ga K "with_counts")) := He.glo_ok X G (c.fact 44 (f := .glo "with_counts") rfl)
  have g58 : mg "crank" = some (.ref (He.ga K "crank")) := He.glo_ok X G (c.fact 45 (f := .glo "crank") rfl)
  have g59 : mg "with_slides" = some (.ref (He.ga K "with_slides")) := He.glo_ok X G (c.fact 46 (f := .glo "with_slides") rfl)
  have g60 : mg "wiped" = some (.ref (He.ga K "wiped")) := He.glo_ok X G (c.fact 47 (f := .glo "wiped") rfl)
  have g61 : mg "at_place" = some (.ref (He.ga K "at_place")) := He.glo_ok X G (c.fact 48 (f := .glo "at_place") rfl)
  have g62 : mg "done" = some (.ref (He.ga K "done")) := He.glo_ok X G (c.fact 49 (f := .glo "done") rfl)
  have g64 : mg "number_sum" = some (.ref (He.ga K "number_sum")) := He.glo_ok X G (c.fact 50 (f := .glo "number_sum") rfl)
  have g65 : mg "letter_sum" = some (.ref (He.ga K "letter_sum")) := He.glo_ok X G (c.fact 51 (f := .glo "letter_sum") rfl)
  have g66 : mg "added" = some (.ref (He.ga K "added")) := He.glo_ok X G (c.fact 52 (f := .glo "added") rfl)
  have g67 : mg "without_noughts" = some (.ref (He.ga K "without_noughts")) := He.glo_ok X G (c.fact 53 (f := .glo "without_noughts") rfl)
  have g68 : mg "timed" = some (.ref (He.ga K "timed")) := He.glo_ok X G (c.fact 54 (f := .glo "timed") rfl)
  have g69 : mg "surely_least" = some (.ref (He.ga K "surely_least")) := He.glo_ok X G (c.fact 55 (f := .glo "surely_least") rfl)
  have g71 : mg "root_below" = some (.ref (He.ga K "root_below")) := He.glo_ok X G (c.fact 56 (f := .glo "root_below") rfl)
  have g74 : mg "looked" = some (.ref (He.ga K "looked")) := He.glo_ok X G (c.fact 57 (f := .glo "looked") rfl)
  have g78 : mg "need_manuals" = some (.ref (He.ga K "need_manuals")) := He.glo_ok X G (c.fact 58 (f := .glo "need_manuals") rfl)
  have g80 : mg "product" = some (.ref (He.ga K "product")) := He.glo_ok X G (c.fact 59 (f := .glo "product") rfl)
  have g81 : mg "quotient" = some (.ref (He.ga K "quotient")) := He.glo_ok X G (c.fact 60 (f := .glo "quotient") rfl)
  have g82 : mg "root" = some (.ref (He.ga K "root")) := He.glo_ok X G (c.fact 61 (f := .glo "root") rfl)
  have g85 : mg "need_values" = some (.ref (He.ga K "need_values")) := He.glo_ok X G (c.fact 62 (f := .glo "need_values") rfl)
  have g86 : mg "worked" = some (.ref (He.ga K "worked")) := He.glo_ok X G (c.fact 63 (f := .glo "worked") rfl)
  have g88 : mg "_law_power" = some (.ref (He.ga K "_law_power")) := He.glo_ok X G (c.fact 64 (f := .glo "_law_power") rfl)
  have g89 : mg "_law_next" = some (.ref (He.ga K "_law_next")) := He.glo_ok X G (c.fact 65 (f := .glo "_law_next") rfl)
  have g90 : mg "_law_machine" = some (.ref (He.ga K "_law_machine")) := He.glo_ok X G (c.fact 66 (f := .glo "_law_machine") rfl)
  have g91 : mg "_law_ask" = some (.ref (He.ga K "_law_ask")) := He.glo_ok X G (c.fact 67 (f := .glo "_law_ask") rfl)
  have g92 : mg "_law_kind" = some (.ref (He.ga K "_law_kind")) := He.glo_ok X G (c.fact 68 (f := .glo "_law_kind") rfl)
  have g93 : mg "_law_bad" = some (.ref (He.ga K "_law_bad")) := He.glo_ok X G (c.fact 69 (f := .glo "_law_bad") rfl)
  have g94 : mg "law" = some (.ref (He.ga K "law")) := He.glo_ok X G (c.fact 70 (f := .glo "law") rfl)
  have e := hfa.symm.trans g94
  cases e
  refine ⟨fd94, fun s v => FunD.bindsA (ps := ["_law_script"]) F94 (fun _ _ _ _ _ _ us hl => match us, hl with | [_], _ => rfl) s [v] rfl, cx.hd _ (List.mem_singleton.mpr rfl), cx.out _ (List.mem_singleton.mpr rfl), cx.empty _ (List.mem_singleton.mpr rfl), fun base _ _ TB => ?_⟩
  obtain ⟨fxBadBook, FXBadBook⟩ := c.def_ 77 (d := x_BadBook) rfl
  obtain ⟨fxStuck, FXStuck⟩ := c.def_ 78 (d := x_Stuck) rfl
  have D0 : DefsM T zero 2 P w K mg base := DefsM.start 2 fun c0 hc => by
    have hc : c0 ∈ T.rxs := by simpa using hc
    simp only [T, List.mem_cons, List.not_mem_nil, or_false] at hc
    rw [List.all_cons, List.all_cons, List.all_nil] at mini
    rw [Bool.and_eq_true, Bool.and_eq_true] at mini
    obtain ⟨miBadBook, miStuck, _⟩ := mini
    rcases hc with rfl | rfl
    · unfold iniB at miBadBook
      rw [Bool.and_eq_true, Bool.and_eq_true, Bool.and_eq_true] at miBadBook
      obtain ⟨i1, i2, i3, i4⟩ := miBadBook
      have i4 := List.all_eq_true.mp i4
      exact ⟨1, _, fxBadBook, _, by decide, ini2 (by decide) FXBadBook xsc_BadBook xck_BadBook (oexB_ok i1) (of_decide_eq_true (i4 "at" (by decide))) (of_decide_eq_true (i4 "word" (by decide))), oexB_ok i1, of_decide_eq_true i2, of_decide_eq_true i3, He.glo_ok X G (c.fact 93 (f := .glo "BadBook") rfl), FXBadBook.bindsN fun _ _ _ _ _ _ us hl => match us, hl with | [_, _, _], _ => rfl⟩
    · unfold iniB at miStuck
      rw [Bool.and_eq_true, Bool.and_eq_true, Bool.and_eq_true] at miStuck
      obtain ⟨i1, i2, i3, i4⟩ := miStuck
      have i4 := List.all_eq_true.mp i4
      exact ⟨1, _, fxStuck, _, by decide, ini1 FXStuck xsc_Stuck xck_Stuck (oexB_ok i1) (of_decide_eq_true (i4 "number" (by decide))), oexB_ok i1, of_decide_eq_true i2, of_decide_eq_true i3, He.glo_ok X G (c.fact 94 (f := .glo "Stuck") rfl), FXStuck.bindsN fun _ _ _ _ _ _ us hl => match us, hl with | [_, _], _ => rfl⟩
  have K14 : FnOk P w K mg base (L2.CX P w) 3 (He.ga K "need_machines") fd14 ["good"] (liftSp K 1 spNeed) := def_ok (T := T) (Γ := Γ0) (N := ["good"]) F14 sc_14 rfl rfl ck_14 mo D0 (meet_need _ _)
  have D14 := DefsM.snoc D0 K14 (f := 0) (x := "need_machines") rfl rfl g14 F14.kp (F14.bindsN fun _ _ _ _ _ _ us hl => match us, hl with | [_], _ => rfl) (fun _ _ _ => by simp [T]) (fun _ _ => by simp [T])
  have K16 : FnOk P w K mg base (L2.CX P w) 4 (He.ga K "need_machine") fd16 ["machine"] (liftSp K 1 spNeedM) := def_ok (T := T) (Γ := Γ0) (N := ["machine", "base", "slides", "wheels", "counters"]) F16 sc_16 rfl rfl ck_16 mo D14 (meet_needM _ _ rfl rfl rfl rfl rfl rfl)
  have D16 := DefsM.snoc D14 K16 (f := 1) (x := "need_machine") rfl rfl g16 F16.kp (F16.bindsN fun _ _ _ _ _ _ us hl => match us, hl with | [_], _ => rfl) (fun _ _ _ => by simp [T]) (fun _ _ => by simp [T])
  have K17 : FnOk P w K mg base (L2.CX P w) 5 (He.ga K "last_place") fd17 ["machine"] (liftSp K 1 spLast) := def_ok (T := T) (Γ := Γ0) (N := ["machine", "base", "slides", "wheels", "counters"]) F17 sc_17 rfl rfl ck_17 mo D16 (meet_last _ _)
  have D17 := DefsM.snoc D16 K17 (f := 2) (x := "last_place") rfl rfl g17 F17.kp (F17.bindsN fun _ _ _ _ _ _ us hl => match us, hl with | [_], _ => rfl) (fun _ _ _ => by simp [T]) (fun _ _ => by simp [T])
  have K19 : FnOk P w K mg base (L2.CX P w) 6 (He.ga K "noughts") fd19 ["machine"] (liftSp K 1 spNoughts) := def_ok (T := T) (Γ := Γ0) (N := ["machine", "base", "slides", "wheels", "counters"]) F19 sc_19 rfl rfl ck_19 mo D17 (meet_noughts _ _)
  have D19 := DefsM.snoc D17 K19 (f := 3) (x := "noughts") rfl rfl g19 F19.kp (F19.bindsN fun _ _ _ _ _ _ us hl => match us, hl with | [_], _ => rfl) (fun _ _ _ => by simp [T]) (fun _ _ => by simp [T])
  have K21 : FnOk P w K mg base (L2.CX P w) 7 (He.ga K "told") fd21 ["base", "figures"] (liftSp K 2 spTold) := def_ok (T := T) (Γ := Γ0) (N := ["base", "figures", "found", "figure"]) F21 sc_21 rfl rfl ck_21 mo D19 (meet_told _ _)
  have D21 := DefsM.snoc D19 K21 (f := 4) (x := "told") rfl rfl g21 F21.kp (F21.bindsN fun _ _ _ _ _ _ us hl => match us, hl with | [_, _], _ => rfl) (fun _ _ _ => by simp [T]) (fun _ _ => by simp [T])
  have K22 : FnOk P w K mg base (L2.CX P w) 8 (He.ga K "figures_of") fd22 ["base", "number", "many"] (liftSp K 3 spFigs) := def_ok (T := T) (Γ := Γ0) (N := ["base", "number", "many", "found", "k"]) F22 sc_22 rfl rfl ck_22 mo D21 (meet_figs _ _)
  have D22 := DefsM.snoc D21 K22 (f := 5) (x := "figures_of") rfl rfl g22 F22.kp (F22.bindsN fun _ _ _ _ _ _ us hl => match us, hl with | [_, _, _], _ => rfl) (fun _ _ _ => by simp [T]) (fun _ _ => by simp [T])
  have K23 : FnOk P w K mg base (L2.CX P w) 9 (He.ga K "power") fd23 ["base", "many"] (liftSp K 2 spPower) := def_ok (T := T) (Γ := Γ0) (N := ["base", "many", "found", "k"]) F23 sc_23 rfl rfl ck_23 mo D22 (meet_powerP _ _)
  have D23 := DefsM.snoc D22 K23 (f := 6) (x := "power") rfl rfl g23 F23.kp (F23.bindsN fun _ _ _ _ _ _ us hl => match us, hl with | [_, _], _ => rfl) (fun _ _ _ => by simp [T]) (fun _ _ => by simp [T])
  have K35 : FnOk P w K mg base (L2.CX P w) 10 (He.ga K "is_name") fd35 ["text"] (liftSp K 1 spIsName) := def_ok (T := T) (Γ := Γ0) (N := ["text", "sign"]) F35 sc_35 rfl rfl ck_35 mo D23 (meet_isName _ _ rfl rfl rfl)
  have D35 := DefsM.snoc D23 K35 (f := 7) (x := "is_name") rfl rfl g35 F35.kp (F35.bindsN fun _ _ _ _ _ _ us hl => match us, hl with | [_], _ => rfl) (fun _ _ _ => by simp [T]) (fun _ _ => by simp [T])
  have K36 : FnOk P w K mg base (L2.CX P w) 11 (He.ga K "input_of") fd36 ["book", "name"] (liftSp K 2 spInOf) := def_ok (T := T) (Γ := Γ0) (N := ["book", "name", "one"]) F36 sc_36 rfl rfl ck_36 mo D35 (meet_inOf _ _)
  have D36 := DefsM.snoc D35 K36 (f := 8) (x := "input_of") rfl rfl g36 F36.kp (F36.bindsN fun _ _ _ _ _ _ us hl => match us, hl with | [_, _], _ => rfl) (fun _ _ _ => by simp [T]) (fun _ _ => by simp [T])
  have K37 : FnOk P w K mg base (L2.CX P w) 12 (He.ga K "is_input") fd37 ["machine", "book", "at"] (liftSp K 3 spIsInput) := def_ok (T := T) (Γ := Γ0) (N := ["machine", "book", "at", "name", "figures", "least", "one"]) F37 sc_37 rfl rfl ck_37 mo D36 (meet_isInput _ _ rfl)
  have D37 := DefsM.snoc D36 K37 (f := 9) (x := "is_input") rfl rfl g37 F37.kp (F37.bindsN fun _ _ _ _ _ _ us hl => match us, hl with | [_, _, _], _ => rfl) (fun _ _ _ => by simp [T]) (fun _ _ => by simp [T])
  have K38 : FnOk P w K mg base (L2.CX P w) 13 (He.ga K "is_turns") fd38 ["book", "deed"] (liftSp K 2 spIsTurns) := def_ok (T := T) (Γ := Γ0) (N := ["book", "deed", "one"]) F38 sc_38 rfl rfl ck_38 mo D37 (meet_isTurns _ _ rfl rfl rfl)
  have D38 := DefsM.snoc D37 K38 (f := 10) (x := "is_turns") rfl rfl g38 F38.kp (F38.bindsN fun _ _ _ _ _ _ us hl => match us, hl with | [_, _], _ => rfl) (fun _ _ _ => by simp [T]) (fun _ _ => by simp [T])
  have K39 : FnOk P w K mg base (L2.CX P w) 14 (He.ga K "is_deed") fd39 ["book", "deed"] (liftSp K 2 spIsDeed) := def_ok (T := T) (Γ := Γ0) (N := ["book", "deed", "kinds"]) F39 sc_39 rfl rfl ck_39 mo D38 (meet_isDeed _ _ rfl rfl rfl rfl rfl)
  have D39 := DefsM.snoc D38 K39 (f := 11) (x := "is_deed") rfl rfl g39 F39.kp (F39.bindsN fun _ _ _ _ _ _ us hl => match us, hl with | [_, _], _ => rfl) (fun _ _ _ => by simp [T]) (fun _ _ => by simp [T])
  have K40_0 : FnOk P w K mg base (L2.CX P w) 15 (He.ga K "is_side") fd40 ["book", "side", "deep"] (liftSp K 3 (spIsSide 0)) := def_ok (T := T) (Γ := Γ0) (N := ["book", "side", "deep", "kinds", "part"]) F40 sc_40 rfl rfl ck_40 mo D39 (Meet.never fun ds G Q E h => by obtain ⟨_, _, _, _, _, _, h, _⟩ := h; exact absurd h (Nat.not_lt_zero _))
  have D40_0 := DefsM.snoc D39 K40_0 (f := 12) (x := "is_side") rfl rfl g40 F40.kp (F40.bindsN fun _ _ _ _ _ _ us hl => match us, hl with | [_, _, _], _ => rfl) (fun _ _ _ => by simp [T]) (fun _ _ => by simp [T])
  have K40_1 : FnOk P w K mg base (L2.CX P w) 16 (He.ga K "is_side") fd40 ["book", "side", "deep"] (liftSp K 3 (spIsSide 1)) := def_ok (T := T) (Γ := Γ0) (N := ["book", "side", "deep", "kinds", "part"]) F40 sc_40 rfl rfl ck_40 mo D40_0 (meet_isSide 0 _ _ rfl rfl rfl rfl)
  have D40_1 := DefsM.snoc (DefsM.mono D39 (k' := 15) (by decide)) K40_1 (f := 12) (x := "is_side") rfl rfl g40 F40.kp (F40.bindsN fun _ _ _ _ _ _ us hl => match us, hl with | [_, _, _], _ => rfl) (fun _ _ _ => by simp [T]) (fun _ _ => by simp [T])
  have K40_2 : FnOk P w K mg base (L2.CX P w) 17 (He.ga K "is_side") fd40 ["book", "side", "deep"] (liftSp K 3 (spIsSide 2)) := def_ok (T := T) (Γ := Γ0) (N := ["book", "side", "deep", "kinds", "part"]) F40 sc_40 rfl rfl ck_40 mo D40_1 (meet_isSide 1 _ _ rfl rfl rfl rfl)
  have D40_2 := DefsM.snoc (DefsM.mono D39 (k' := 16) (by decide)) K40_2 (f := 12) (x := "is_side") rfl rfl g40 F40.kp (F40.bindsN fun _ _ _ _ _ _ us hl => match us, hl with | [_, _, _], _ => rfl) (fun _ _ _ => by simp [T]) (fun _ _ => by simp [T])
  have K40_3 : FnOk P w K mg base (L2.CX P w) 18 (He.ga K "is_side") fd40 ["book", "side", "deep"] (liftSp K 3 (spIsSide 3)) := def_ok (T := T) (Γ := Γ0) (N := ["book", "side", "deep", "kinds", "part"]) F40 sc_40 rfl rfl ck_40 mo D40_2 (meet_isSide 2 _ _ rfl rfl rfl rfl)
  have D40_3 := DefsM.snoc (DefsM.mono D39 (k' := 17) (by decide)) K40_3 (f := 12) (x := "is_side") rfl rfl g40 F40.kp (F40.bindsN fun _ _ _ _ _ _ us hl => match us, hl with | [_, _, _], _ => rfl) (fun _ _ _ => by simp [T]) (fun _ _ => by simp [T])
  have K40_4 : FnOk P w K mg base (L2.CX P w) 19 (He.ga K "is_side") fd40 ["book", "side", "deep"] (liftSp K 3 (spIsSide 4)) := def_ok (T := T) (Γ := Γ0) (N := ["book", "side", "deep", "kinds", "part"]) F40 sc_40 rfl rfl ck_40 mo D40_3 (meet_isSide 3 _ _ rfl rfl rfl rfl)
  have D40_4 := DefsM.snoc (DefsM.mono D39 (k' := 18) (by decide)) K40_4 (f := 12) (x := "is_side") rfl rfl g40 F40.kp (F40.bindsN fun _ _ _ _ _ _ us hl => match us, hl with | [_, _, _], _ => rfl) (fun _ _ _ => by simp [T]) (fun _ _ => by simp [T])
  have K40_5 : FnOk P w K mg base (L2.CX P w) 20 (He.ga K "is_side") fd40 ["book", "side", "deep"] (liftSp K 3 (spIsSide 5)) := def_ok (T := T) (Γ := Γ0) (N := ["book", "side", "deep", "kinds", "part"]) F40 sc_40 rfl rfl ck_40 mo D40_4 (meet_isSide 4 _ _ rfl rfl rfl rfl)
  have D40_5 := DefsM.snoc (DefsM.mono D39 (k' := 19) (by decide)) K40_5 (f := 12) (x := "is_side") rfl rfl g40 F40.kp (F40.bindsN fun _ _ _ _ _ _ us hl => match us, hl with | [_, _, _], _ => rfl) (fun _ _ _ => by simp [T]) (fun _ _ => by simp [T])
  have K41 : FnOk P w K mg base (L2.CX P w) 21 (He.ga K "is_claim") fd41 ["book", "claim"] (liftSp K 2 spIsClaim) := def_ok (T := T) (Γ := Γ0) (N := ["book", "claim"]) F41 sc_41 rfl rfl ck_41 mo D40_5 (meet_isClaim _ _ rfl)
  have D41 := DefsM.snoc D40_5 K41 (f := 13) (x := "is_claim") rfl rfl g41 F41.kp (F41.bindsN fun _ _ _ _ _ _ us hl => match us, hl with | [_, _], _ => rfl) (fun _ _ _ => by simp [T]) (fun _ _ => by simp [T])
  have K42 : FnOk P w K mg base (L2.CX P w) 22 (He.ga K "must_books") fd42 ["good", "at", "word"] (liftSp K 3 spMustB) := def_ok (T := T) (Γ := Γ0) (N := ["good", "at", "word"]) F42 sc_42 rfl rfl ck_42 mo D41 (meet_mustB _ _)
  have D42 := DefsM.snoc D41 K42 (f := 14) (x := "must_books") rfl rfl g42 F42.kp (F42.bindsN fun _ _ _ _ _ _ us hl => match us, hl with | [_, _, _], _ => rfl) (fun _ _ _ => by simp [T]) (fun _ _ => by simp [T])
  have K44 : FnOk P w K mg base (L2.CX P w) 23 (He.ga K "need_book") fd44 ["machine", "book"] (liftSp K 2 spNeedBook) := def_ok (T := T) (Γ := Γ0) (N := ["machine", "book", "inputs", "deeds", "claims", "at", "deed", "claim"]) F44 sc_44 rfl rfl ck_44 mo D42 (meet_needBook _ _ rfl rfl rfl rfl rfl rfl rfl rfl)
  have D44 := DefsM.snoc D42 K44 (f := 15) (x := "need_book") rfl rfl g44 F44.kp (F44.bindsN fun _ _ _ _ _ _ us hl => match us, hl with | [_, _], _ => rfl) (fun _ _ _ => by simp [T]) (fun _ _ => by simp [T])
  have K46 : FnOk P w K mg base (L2.CX P w) 24 (He.ga K "gone_on") fd46 ["base", "figure", "by", "way"] (liftSp K 4 spGone) := def_ok (T := T) (Γ := Γ0) (N := ["base", "figure", "by", "way", "found"]) F46 sc_46 rfl rfl ck_46 mo D44 (meet_gone _ _)
  have D46 := DefsM.snoc D44 K46 (f := 16) (x := "gone_on") rfl rfl g46 F46.kp (F46.bindsN fun _ _ _ _ _ _ us hl => match us, hl with | [_, _, _, _], _ => rfl) (fun _ _ _ => by simp [T]) (fun _ _ => by simp [T])
  have K47 : FnOk P w K mg base (L2.CX P w) 25 (He.ga K "first_part") fd47 ["machine", "stand", "way"] (liftSp K 3 spFirst) := def_ok (T := T) (Γ := Γ0) (N := ["machine", "stand", "way", "setting", "place", "wheels", "counts", "made", "levers", "k", "figure", "round_it"]) F47 sc_47 rfl rfl ck_47 mo D46 (meet_first _ _ rfl)
  have D47 := DefsM.snoc D46 K47 (f := 17) (x := "first_part") rfl rfl g47 F47.kp (F47.bindsN fun _ _ _ _ _ _ us hl => match us, hl with | [_, _, _], _ => rfl) (fun _ _ _ => by simp [T]) (fun _ _ => by simp [T])
  have K49 : FnOk P w K mg base (L2.CX P w) 26 (He.ga K "one_carry") fd49 ["machine", "wheels", "levers", "wheel", "way"] (liftSp K 5 spCarry) := def_ok (T := T) (Γ := Γ0) (N := ["machine", "wheels", "levers", "wheel", "way", "left", "lever", "made", "round_it"]) F49 sc_49 rfl rfl ck_49 mo D47 (meet_carry _ _ rfl)
  have D49 := DefsM.snoc D47 K49 (f := 18) (x := "one_carry") rfl rfl g49 F49.kp (F49.bindsN fun _ _ _ _ _ _ us hl => match us, hl with | [_, _, _, _, _], _ => rfl) (fun _ _ _ => by simp [T]) (fun _ _ => by simp [T])
  have K51 : FnOk P w K mg base (L2.CX P w) 27 (He.ga K "all_carries") fd51 ["machine", "wheels", "levers", "order", "way"] (liftSp K 5 spAll) := def_ok (T := T) (Γ := Γ0) (N := ["machine", "wheels", "levers", "order", "way", "rang", "waiting", "wheel", "rings"]) F51 sc_51 rfl rfl ck_51 mo D49 (meet_all _ _ rfl)
  have D51 := DefsM.snoc D49 K51 (f := 19) (x := "all_carries") rfl rfl g51 F51.kp (F51.bindsN fun _ _ _ _ _ _ us hl => match us, hl with | [_, _, _, _, _], _ => rfl) (fun _ _ _ => by simp [T]) (fun _ _ => by simp [T])
  have K53 : FnOk P w K mg base (L2.CX P w) 28 (He.ga K "turned") fd53 ["machine", "stand", "way"] (liftSp K 3 spTurned) := def_ok (T := T) (Γ := Γ0) (N := ["machine", "stand", "way", "wheels", "levers"]) F53 sc_53 rfl rfl ck_53 mo D51 (meet_turned _ _ rfl rfl)
  have D53 := DefsM.snoc D51 K53 (f := 20) (x := "turned") rfl rfl g53 F53.kp (F53.bindsN fun _ _ _ _ _ _ us hl => match us, hl with | [_, _, _], _ => rfl) (fun _ _ _ => by simp [T]) (fun _ _ => by simp [T])
  have K57 : FnOk P w K mg base (L2.CX P w) 29 (He.ga K "with_counts") fd57 ["machine", "stand", "tally"] (liftSp K 3 spCounts) := def_ok (T := T) (Γ := Γ0) (N := ["machine", "stand", "tally", "base", "slides", "wheels", "counters", "number"]) F57 sc_57 rfl rfl ck_57 mo D53 (meet_counts _ _ rfl rfl rfl)
  have D57 := DefsM.snoc D53 K57 (f := 21) (x := "with_counts") rfl rfl g57 F57.kp (F57.bindsN fun _ _ _ _ _ _ us hl => match us, hl with | [_, _, _], _ => rfl) (fun _ _ _ => by simp [T]) (fun _ _ => by simp [T])
  have K58 : FnOk P w K mg base (L2.CX P w) 30 (He.ga K "crank") fd58 ["machine", "stand", "way", "tally"] (liftSp K 4 spCrank) := def_ok (T := T) (Γ := Γ0) (N := ["machine", "stand", "way", "tally", "wheels", "rang"]) F58 sc_58 rfl rfl ck_58 mo D57 (meet_crank _ _ rfl rfl)
  have D58 := DefsM.snoc D57 K58 (f := 22) (x := "crank") rfl rfl g58 F58.kp (F58.bindsN fun _ _ _ _ _ _ us hl => match us, hl with | [_, _, _, _], _ => rfl) (fun _ _ _ => by simp [T]) (fun _ _ => by simp [T])
  have K59 : FnOk P w K mg base (L2.CX P w) 31 (He.ga K "with_slides") fd59 ["machine", "stand", "number"] (liftSp K 3 spWith) := def_ok (T := T) (Γ := Γ0) (N := ["machine", "stand", "number"]) F59 sc_59 rfl rfl ck_59 mo D58 (meet_with _ _ rfl)
  have D59 := DefsM.snoc D58 K59 (f := 23) (x := "with_slides") rfl rfl g59 F59.kp (F59.bindsN fun _ _ _ _ _ _ us hl => match us, hl with | [_, _, _], _ => rfl) (fun _ _ _ => by simp [T]) (fun _ _ => by simp [T])
  have K60 : FnOk P w K mg base (L2.CX P w) 32 (He.ga K "wiped") fd60 ["stand", "word"] (liftSp K 2 spWiped) := def_ok (T := T) (Γ := Γ0) (N := ["stand", "word", "setting", "place", "wheels", "counts"]) F60 sc_60 rfl rfl ck_60 mo D59 (meet_wiped _ _)
  have D60 := DefsM.snoc D59 K60 (f := 24) (x := "wiped") rfl rfl g60 F60.kp (F60.bindsN fun _ _ _ _ _ _ us hl => match us, hl with | [_, _], _ => rfl) (fun _ _ _ => by simp [T]) (fun _ _ => by simp [T])
  have K61 : FnOk P w K mg base (L2.CX P w) 33 (He.ga K "at_place") fd61 ["machine", "stand", "place"] (liftSp K 3 spAt) := def_ok (T := T) (Γ := Γ0) (N := ["machine", "stand", "place"]) F61 sc_61 rfl rfl ck_61 mo D60 (meet_at _ _ rfl)
  have D61 := DefsM.snoc D60 K61 (f := 25) (x := "at_place") rfl rfl g61 F61.kp (F61.bindsN fun _ _ _ _ _ _ us hl => match us, hl with | [_, _, _], _ => rfl) (fun _ _ _ => by simp [T]) (fun _ _ => by simp [T])
  have K84_0 : FnOk P w K mg base (L2.CX P w) 34 (He.ma K (He.ga K "Worker") "__init__") fd84_0 ["self", "machine", "values"] (liftSp K 3 spWInit) := def_ok (T := T) (Γ := Γ0) (N := ["self", "machine", "values"]) F84_0 sc_84_0 rfl rfl ck_84_0 mo D61 (meet_wInit _ _ rfl)
  have D84_0 := DefsM.snocK D61 K84_0 (f := 138) (C := "Worker") (fun _ _ h => by simpa [T] using h) rfl (He.mkr_ok (c.fact 97 (f := .mkr "Worker") rfl)) (He.glo_ok X G (c.fact 95 (f := .glo "Worker") rfl)) (F84_0.bindsN fun _ _ _ _ _ _ us hl => match us, hl with | [_, _, _], _ => rfl) (fun _ _ h => by rw [show T.fns[138]? = none from rfl] at h; cases h) (fun _ _ _ => by simp [T])
  have K84_1 : FnOk P w K mg base (L2.CX P w) 36 (He.ma K (He.ga K "Worker") "turn") fd84_1 ["self", "way", "tally"] (liftSp K 3 spWTurn) := def_ok (T := T) (Γ := Γ0) (N := ["self", "way", "tally", "rang"]) F84_1 sc_84_1 rfl rfl ck_84_1 mo D84_0 (meet_wTurn _ _ rfl)
  have D84_1 := DefsM.snocM D84_0 K84_1 (f := 139) (C := "Worker") (m := "turn") (fun _ _ _ h => by simpa [T] using h) rfl (He.cls_ok (c.fact 96 (f := .cls "Worker") rfl)) (He.meth_ok (c.fact 98 (f := .meth "Worker" "turn") rfl)) (F84_1.bindsN fun _ _ _ _ _ _ us hl => match us, hl with | [_, _, _], _ => rfl) (fun _ _ h => by rw [show T.fns[139]? = none from rfl] at h; cases h) (fun _ _ => by simp [T])
  have K84_2 : FnOk P w K mg base (L2.CX P w) 37 (He.ma K (He.ga K "Worker") "setting") fd84_2 ["self"] (liftSp K 1 spWSet) := def_ok (T := T) (Γ := Γ0) (N := ["self"]) F84_2 sc_84_2 rfl rfl ck_84_2 mo D84_1 (meet_wSet _ _ rfl)
  have D84_2 := DefsM.snocM D84_1 K84_2 (f := 140) (C := "Worker") (m := "setting") (fun _ _ _ h => by simpa [T] using h) rfl (He.cls_ok (c.fact 96 (f := .cls "Worker") rfl)) (He.meth_ok (c.fact 99 (f := .meth "Worker" "setting") rfl)) (F84_2.bindsN fun _ _ _ _ _ _ us hl => match us, hl with | [_], _ => rfl) (fun _ _ h => by rw [show T.fns[140]? = none from rfl] at h; cases h) (fun _ _ => by simp [T])
  have K84_3 : FnOk P w K mg base (L2.CX P w) 38 (He.ma K (He.ga K "Worker") "until_bell") fd84_3 ["self", "tally", "more"] (liftSp K 3 spWUntil) := def_ok (T := T) (Γ := Γ0) (N := ["self", "tally", "more"]) F84_3 sc_84_3 rfl rfl ck_84_3 mo D84_2 (meet_wUntil _ _ rfl rfl rfl rfl)
  have D84_3 := DefsM.snocM D84_2 K84_3 (f := 141) (C := "Worker") (m := "until_bell") (fun _ _ _ h => by simpa [T] using h) rfl (He.cls_ok (c.fact 96 (f := .cls "Worker") rfl)) (He.meth_ok (c.fact 100 (f := .meth "Worker" "until_bell") rfl)) (F84_3.bindsN fun _ _ _ _ _ _ us hl => match us, hl with | [_, _, _], _ => rfl) (fun _ _ h => by rw [show T.fns[141]? = none from rfl] at h; cases h) (fun _ _ => by simp [T])
  have K84_5 : FnOk P w K mg base (L2.CX P w) 39 (He.ma K (He.ga K "Worker") "shift") fd84_5 ["self", "by"] (liftSp K 2 spWShift) := def_ok (T := T) (Γ := Γ0) (N := ["self", "by", "found"]) F84_5 sc_84_5 rfl rfl ck_84_5 mo D84_3 (meet_wShift _ _ rfl)
  have D84_5 := DefsM.snocM D84_3 K84_5 (f := 143) (C := "Worker") (m := "shift") (fun _ _ _ h => by simpa [T] using h) rfl (He.cls_ok (c.fact 96 (f := .cls "Worker") rfl)) (He.meth_ok (c.fact 102 (f := .meth "Worker" "shift") rfl)) (F84_5.bindsN fun _ _ _ _ _ _ us hl => match us, hl with | [_, _], _ => rfl) (fun _ _ h => by rw [show T.fns[143]? = none from rfl] at h; cases h) (fun _ _ => by simp [T])
  have K84_4 : FnOk P w K mg base (L2.CX P w) 40 (He.ma K (He.ga K "Worker") "do") fd84_4 ["self", "deed"] (liftSp K 2 spWDo) := def_ok (T := T) (Γ := Γ0) (N := ["self", "deed", "word", "k"]) F84_4 sc_84_4 rfl rfl ck_84_4 mo D84_5 (meet_wDo _ _ rfl rfl rfl rfl rfl rfl rfl)
  have D84_4 := DefsM.snocM D84_5 K84_4 (f := 142) (C := "Worker") (m := "do") (fun _ _ _ h => by simpa [T] using h) rfl (He.cls_ok (c.fact 96 (f := .cls "Worker") rfl)) (He.meth_ok (c.fact 101 (f := .meth "Worker" "do") rfl)) (F84_4.bindsN fun _ _ _ _ _ _ us hl => match us, hl with | [_, _], _ => rfl) (fun _ _ h => by rw [show T.fns[142]? = none from rfl] at h; cases h) (fun _ _ => by simp [T])
  have K85 : FnOk P w K mg base (L2.CX P w) 41 (He.ga K "need_values") fd85 ["machine", "book", "values"] (liftSp K 3 spNeedV) := def_ok (T := T) (Γ := Γ0) (N := ["machine", "book", "values", "one", "name", "figures", "least"]) F85 sc_85 rfl rfl ck_85 mo D84_4 (meet_needV _ _ rfl)
  have D85 := DefsM.snoc D84_4 K85 (f := 26) (x := "need_values") rfl rfl g85 F85.kp (F85.bindsN fun _ _ _ _ _ _ us hl => match us, hl with | [_, _, _], _ => rfl) (fun _ _ _ => by simp [T]) (fun _ _ => by simp [T])
  have K86 : FnOk P w K mg base (L2.CX P w) 42 (He.ga K "worked") fd86 ["machine", "book", "values"] (liftSp K 3 spWorked) := def_ok (T := T) (Γ := Γ0) (N := ["machine", "book", "values", "worker", "number", "deed"]) F86 sc_86 rfl rfl ck_86 mo D85 (meet_worked _ _ rfl rfl rfl rfl rfl)
  have D86 := DefsM.snoc D85 K86 (f := 27) (x := "worked") rfl rfl g86 F86.kp (F86.bindsN fun _ _ _ _ _ _ us hl => match us, hl with | [_, _, _], _ => rfl) (fun _ _ _ => by simp [T]) (fun _ _ => by simp [T])
  have K89 : FnOk P w K mg base (L2.CX P w) 43 (He.ga K "_law_next") fd89 ["_law_h", "_law_many"] (liftSp K 2 spNext) := def_ok (T := T) (Γ := Γ0) (N := ["_law_h", "_law_many", "_law_at", "_law_cell"]) F89 sc_89 rfl rfl ck_89 mo D86 (meet_next _ _)
  have D89 := DefsM.snoc D86 K89 (f := 29) (x := "_law_next") rfl rfl g89 F89.kp (F89.bindsN fun _ _ _ _ _ _ us hl => match us, hl with | [_, _], _ => rfl) (fun _ _ _ => by simp [T]) (fun _ _ => by simp [T])
  have K90 : FnOk P w K mg base (L2.CX P w) 44 (He.ga K "_law_machine") fd90 ["_law_h", "_law_most"] (liftSp K 2 spMachine) := def_ok (T := T) (Γ := Γ0) (N := ["_law_h", "_law_most", "_law_base", "_law_slides", "_law_wheels"]) F90 sc_90 rfl rfl ck_90 mo D89 (meet_machine _ _ rfl)
  have D90 := DefsM.snoc D89 K90 (f := 78) (x := "_law_machine") rfl rfl g90 F90.kp (F90.bindsN fun _ _ _ _ _ _ us hl => match us, hl with | [_, _], _ => rfl) (fun _ _ _ => by simp [T]) (fun _ _ => by simp [T])
  have K16_bad : FnOk P w K mg base (L2.CX P w) 45 (He.ga K "need_machine") fd16 ["machine"] (liftSp K 1 spBad) := def_ok (T := T) (Γ := Γ0) (N := ["machine", "base", "slides", "wheels", "counters"]) F16 sc_16 rfl rfl ck_16_bad mo D90 (meet_needBad _ _ rfl rfl rfl rfl rfl rfl)
  have D16_bad := DefsM.snoc D90 K16_bad (f := 63) (x := "need_machine") rfl rfl g16 F16.kp (F16.bindsN fun _ _ _ _ _ _ us hl => match us, hl with | [_], _ => rfl) (fun _ _ _ => by simp [T]) (fun _ _ => by simp [T])
  have K18_bad : FnOk P w K mg base (L2.CX P w) 46 (He.ga K "top") fd18 ["machine"] (liftSp K 1 spBad) := def_ok (T := T) (Γ := Γ0) (N := ["machine"]) F18 sc_18 rfl rfl ck_18_bad mo D16_bad (meet_bad1 _ _ rfl)
  have D18_bad := DefsM.snoc D16_bad K18_bad (f := 64) (x := "top") rfl rfl g18 F18.kp (F18.bindsN fun _ _ _ _ _ _ us hl => match us, hl with | [_], _ => rfl) (fun _ _ _ => by simp [T]) (fun _ _ => by simp [T])
  have K20_bad : FnOk P w K mg base (L2.CX P w) 47 (He.ga K "begin") fd20 ["machine"] (liftSp K 1 spBad) := def_ok (T := T) (Γ := Γ0) (N := ["machine"]) F20 sc_20 rfl rfl ck_20_bad mo D18_bad (meet_bad1 _ _ rfl)
  have D20_bad := DefsM.snoc D18_bad K20_bad (f := 65) (x := "begin") rfl rfl g20 F20.kp (F20.bindsN fun _ _ _ _ _ _ us hl => match us, hl with | [_], _ => rfl) (fun _ _ _ => by simp [T]) (fun _ _ => by simp [T])
  have K48_bad : FnOk P w K mg base (L2.CX P w) 48 (He.ga K "spun") fd48 ["machine", "stand", "way"] (liftSp K 3 spBad) := def_ok (T := T) (Γ := Γ0) (N := ["machine", "stand", "way"]) F48 sc_48 rfl rfl ck_48_bad mo D20_bad (meet_bad1 _ _ rfl)
  have D48_bad := DefsM.snoc D20_bad K48_bad (f := 62) (x := "spun") rfl rfl g48 F48.kp (F48.bindsN fun _ _ _ _ _ _ us hl => match us, hl with | [_, _, _], _ => rfl) (fun _ _ _ => by simp [T]) (fun _ _ => by simp [T])
  have K50_bad : FnOk P w K mg base (L2.CX P w) 49 (He.ga K "carried") fd50 ["machine", "wheels", "levers", "wheel", "way"] (liftSp K 5 spBad) := def_ok (T := T) (Γ := Γ0) (N := ["machine", "wheels", "levers", "wheel", "way"]) F50 sc_50 rfl rfl ck_50_bad mo D48_bad (meet_bad1 _ _ rfl)
  have D50_bad := DefsM.snoc D48_bad K50_bad (f := 61) (x := "carried") rfl rfl g50 F50.kp (F50.bindsN fun _ _ _ _ _ _ us hl => match us, hl with | [_, _, _, _, _], _ => rfl) (fun _ _ _ => by simp [T]) (fun _ _ => by simp [T])
  have K52_bad : FnOk P w K mg base (L2.CX P w) 50 (He.ga K "settled") fd52 ["machine", "wheels", "levers", "order", "way"] (liftSp K 5 spBad) := def_ok (T := T) (Γ := Γ0) (N := ["machine", "wheels", "levers", "order", "way"]) F52 sc_52 rfl rfl ck_52_bad mo D50_bad (meet_bad1 _ _ rfl)
  have D52_bad := DefsM.snoc D50_bad K52_bad (f := 60) (x := "settled") rfl rfl g52 F52.kp (F52.bindsN fun _ _ _ _ _ _ us hl => match us, hl with | [_, _, _, _, _], _ => rfl) (fun _ _ _ => by simp [T]) (fun _ _ => by simp [T])
  have K62_bad : FnOk P w K mg base (L2.CX P w) 51 (He.ga K "done") fd62 ["machine", "stand", "deed"] (liftSp K 3 spBad) := def_ok (T := T) (Γ := Γ0) (N := ["machine", "stand", "deed", "word", "found", "setting"]) F62 sc_62 rfl rfl ck_62_bad mo D52_bad (meet_bad1 _ _ rfl)
  have D62_bad := DefsM.snoc D52_bad K62_bad (f := 59) (x := "done") rfl rfl g62 F62.kp (F62.bindsN fun _ _ _ _ _ _ us hl => match us, hl with | [_, _, _], _ => rfl) (fun _ _ _ => by simp [T]) (fun _ _ => by simp [T])
  have K44_bad : FnOk P w K mg base (L2.CX P w) 52 (He.ga K "need_book") fd44 ["machine", "book"] (liftSp K 2 spBad) := def_ok (T := T) (Γ := Γ0) (N := ["machine", "book", "inputs", "deeds", "claims", "at", "deed", "claim"]) F44 sc_44 rfl rfl ck_44_bad mo D62_bad (meet_bad1 _ _ rfl)
  have D44_bad := DefsM.snoc D62_bad K44_bad (f := 57) (x := "need_book") rfl rfl g44 F44.kp (F44.bindsN fun _ _ _ _ _ _ us hl => match us, hl with | [_, _], _ => rfl) (fun _ _ _ => by simp [T]) (fun _ _ => by simp [T])
  have K74_bad : FnOk P w K mg base (L2.CX P w) 53 (He.ga K "looked") fd74 ["machine", "book"] (liftSp K 2 spBad) := def_ok (T := T) (Γ := Γ0) (N := ["machine", "book", "look", "number", "deed", "word", "claim"]) F74 sc_74 rfl rfl ck_74_bad mo D44_bad (meet_bad2 _ _ rfl rfl)
  have D74_bad := DefsM.snoc D44_bad K74_bad (f := 58) (x := "looked") rfl rfl g74 F74.kp (F74.bindsN fun _ _ _ _ _ _ us hl => match us, hl with | [_, _], _ => rfl) (fun _ _ _ => by simp [T]) (fun _ _ => by simp [T])
  have K86_bad : FnOk P w K mg base (L2.CX P w) 54 (He.ga K "worked") fd86 ["machine", "book", "values"] (liftSp K 3 spBad) := def_ok (T := T) (Γ := Γ0) (N := ["machine", "book", "values", "worker", "number", "deed"]) F86 sc_86 rfl rfl ck_86_bad mo D74_bad (meet_bad2 _ _ rfl rfl)
  have D86_bad := DefsM.snoc D74_bad K86_bad (f := 56) (x := "worked") rfl rfl g86 F86.kp (F86.bindsN fun _ _ _ _ _ _ us hl => match us, hl with | [_, _, _], _ => rfl) (fun _ _ _ => by simp [T]) (fun _ _ => by simp [T])
  have K80_bad : FnOk P w K mg base (L2.CX P w) 55 (He.ga K "product") fd80 ["machine", "one", "other"] (liftSp K 3 spBad) := def_ok (T := T) (Γ := Γ0) (N := ["machine", "one", "other", "base", "slides", "wheels", "counters", "places", "deeds", "k", "goal", "claims"]) F80 sc_80 rfl rfl ck_80_bad mo D86_bad (meet_bad1 _ _ rfl)
  have D80_bad := DefsM.snoc D86_bad K80_bad (f := 54) (x := "product") rfl rfl g80 F80.kp (F80.bindsN fun _ _ _ _ _ _ us hl => match us, hl with | [_, _, _], _ => rfl) (fun _ _ _ => by simp [T]) (fun _ _ => by simp [T])
  have K81_bad : FnOk P w K mg base (L2.CX P w) 56 (He.ga K "quotient") fd81 ["machine", "one", "other"] (liftSp K 3 spBad) := def_ok (T := T) (Γ := Γ0) (N := ["machine", "one", "other", "base", "slides", "wheels", "counters", "places", "deeds", "k", "whole", "claims"]) F81 sc_81 rfl rfl ck_81_bad mo D80_bad (meet_bad1 _ _ rfl)
  have D81_bad := DefsM.snoc D80_bad K81_bad (f := 55) (x := "quotient") rfl rfl g81 F81.kp (F81.bindsN fun _ _ _ _ _ _ us hl => match us, hl with | [_, _, _], _ => rfl) (fun _ _ _ => by simp [T]) (fun _ _ => by simp [T])
  have K82_bad : FnOk P w K mg base (L2.CX P w) 57 (He.ga K "root") fd82 ["machine", "one"] (liftSp K 2 spBad) := def_ok (T := T) (Γ := Γ0) (N := ["machine", "one", "base", "slides", "wheels", "counters", "most", "deeds", "square", "twice"]) F82 sc_82 rfl rfl ck_82_bad mo D81_bad (meet_bad1 _ _ rfl)
  have D82_bad := DefsM.snoc D81_bad K82_bad (f := 53) (x := "root") rfl rfl g82 F82.kp (F82.bindsN fun _ _ _ _ _ _ us hl => match us, hl with | [_, _], _ => rfl) (fun _ _ _ => by simp [T]) (fun _ _ => by simp [T])
  have K91 : FnOk P w K mg base (L2.CX P w) 58 (He.ga K "_law_ask") fd91 ["_law_way", "_law_machine_here"] (liftSp K 2 spAsk) := def_ok (T := T) (Γ := Γ0) (N := ["_law_way", "_law_machine_here", "_law_stand", "_law_book"]) F91 sc_91 rfl rfl ck_91 mo D82_bad (meet_ask _ _ rfl rfl rfl rfl rfl rfl rfl rfl rfl rfl rfl rfl rfl)
  have D91 := DefsM.snoc D82_bad K91 (f := 130) (x := "_law_ask") rfl rfl g91 F91.kp (F91.bindsN fun _ _ _ _ _ _ us hl => match us, hl with | [_, _], _ => rfl) (fun _ _ _ => by simp [T]) (fun _ _ => by simp [T])
  have K93 : FnOk P w K mg base (L2.CX P w) 59 (He.ga K "_law_bad") fd93 ["_law_h", "_law_machine_here"] (liftSp K 2 spBadM) := def_ok (T := T) (Γ := Γ0) (N := ["_law_h", "_law_machine_here", "_law_base", "_law_slides", "_law_wheels", "_law_counters", "_law_far", "_law_some"]) F93 sc_93 rfl rfl ck_93 mo D91 (meet_badM _ _ rfl)
  have D93 := DefsM.snoc D91 K93 (f := 132) (x := "_law_bad") rfl rfl g93 F93.kp (F93.bindsN fun _ _ _ _ _ _ us hl => match us, hl with | [_, _], _ => rfl) (fun _ _ _ => by simp [T]) (fun _ _ => by simp [T])
  have KL : LdOk P w K mg base 59 "_law_kind" spKind := def_okA (T := T) (Γ := Γ0) (N := ["_law_work", "e", "_law_kinds"]) F92 g92 sc_92 rfl ck_92 mo D93 (F92.bindsN fun _ _ _ _ _ _ us hl => match us, hl with | [_], _ => rfl) (meet_kind _ _ (fun j h => by rcases h with rfl | rfl | rfl <;> rfl))
  have hld : ∀ g y L, T.lds.contains (g, y) = true → (lawG13 zero Γ0).l g = some L → LdOk P w K mg base 59 y L := fun g y L h1 h2 => by
    have h1 : (g, y) ∈ T.lds := by simpa using h1
    simp only [T, List.mem_cons, List.not_mem_nil, or_false, Prod.mk.injEq] at h1
    obtain ⟨rfl, rfl⟩ := h1
    cases h2
    exact KL
  exact def_okL (T := T) (Γ := lawG13 _ Γ0) (Γ0 := Γ0) (N := ["_law_script", "_law_h", "_law_machine_here", "_law_bad_here", "_law_way", "_law_good", "_law_book", "_law_base", "_law_far", "_law_some", "_law_values", "_law_kept"]) F94 sc_94 rfl rfl ck_94 mo D93 rfl rfl rfl rfl (fun _ => rfl) rfl (fun _ _ _ _ _ h => h) hld TB (meet_law13 _ _ rfl rfl rfl rfl rfl rfl)
 ) only [↓Dl.qTrue])
end Dl
open PySem PySem.W PySem.Calls PyProof.Rows
theorem PySem.Challenge.cw_crankdrum_k13_machines_and_values_refuse_holds : PySem.Challenge.rw_crankdrum_k13_machines_and_values_refuse.Holds := by
  w_on; o_law
  refine HandSHeadRun.head_any (r := OpenLaw.row PySem.Challenge.rw_crankdrum_k13_machines_and_values_refuse) (q := view (OpenLaw.row PySem.Challenge.rw_crankdrum_k13_machines_and_values_refuse).prog [94]) (H := Hd.hk) (ob := Hd.ob) (M := 30000) (loose := Hd.looseL) (d := HandSHeadRun.topDef (OpenLaw.row PySem.Challenge.rw_crankdrum_k13_machines_and_values_refuse).prog 94) (kwd := []) Hd.ob_eq
    Hd.hd_e Hd.hd_f Hd.run Hd.hd_d Hd.hd_p Hd.hd_k (by rfl) (by first | assumption | exact Hd.hd_1) Hd.hd_2 ⟨rfl, rfl, rfl, rfl, rfl, by decide +kernel⟩ ?hw ?hc
  case hw => w_witness2
  case hc =>
    refine Dl.walk_ofWT (y := "law") (l := PySem.Challenge.rw_crankdrum_k13_machines_and_values_refuse) (n := 63) (k := 62) (x := "_law_script") rfl (by decide) (by decide) Hd.hd_0 ⟨rfl, by decide, by decide⟩ ?F
    intro w mg fa h Y G hmg0
    obtain ⟨K, KX, c⟩ := Y
    have hmg : mg ("law" : PySem.Str) = some (.ref fa) := by
      have e : (HandSHeadRun.topDef (OpenLaw.row PySem.Challenge.rw_crankdrum_k13_machines_and_values_refuse).prog 94).name = ("law" : PySem.Str) := Hd.hd_n
      rw [← e]
      exact hmg0
    obtain ⟨fd, hb, h1, h2, h3, hF⟩ := Dl.facts (P := (PySem.Challenge.rw_crankdrum_k13_machines_and_values_refuse).prog) (w := w) KX G hmg c
    exact ⟨K, fd, KX, hb, h1, h2, h3, hF⟩
end
